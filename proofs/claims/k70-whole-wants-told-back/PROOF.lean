import PyProof.Rows.All
import Wide.All
import OpenK.AllK
import Wide.FinOn
import HandS.ForMost
import HandS.IsInst
import HandS.Deep
import HandS.TupAny
import HandS.DictComp
import HandS.Evl
import PyProof.ReprRoads
import PySem.Challenge.RW_refundtrees_k70_whole_wants_told_back
import PyProof.ReprLen
set_option Elab.async false
set_option linter.all false
set_option maxRecDepth 100000
set_option maxHeartbeats 4000000
/-! The data layer: what a reading evaluates to, as plain data; M: the places that are written meanwhile. -/
namespace Rt
open PySem L2 Evl

/-! ### heaps without some places -/
def hide (M : List Addr) (H : Hp) : Hp := fun b => if b ∈ M then none else H b
theorem hide_in {M : List Addr} {H : Hp} {b : Addr} {o : HO} (h : hide M H b = some o) : b ∉ M ∧ H b = some o := by
  unfold hide at h
  by_cases c : b ∈ M
  · rw [if_pos c] at h; cases h
  · rw [if_neg c] at h; exact ⟨c, h⟩
theorem hide_of {M : List Addr} {H : Hp} {b : Addr} {o : HO} (c : b ∉ M) (h : H b = some o) : hide M H b = some o := by
  unfold hide; rw [if_neg c]; exact h
theorem ex_hide {M : List Addr} {H H' : Hp} (e : Ex H H') : Ex (hide M H) (hide M H') := fun b o h =>
  let ⟨c, q⟩ := hide_in h
  hide_of c (e b o q)
theorem ex_hid {M : List Addr} {H : Hp} : Ex (hide M H) H := fun _ _ h => (hide_in h).2
/-- the hidden places are known -/
def Al (M : List Addr) (H : Hp) : Prop := ∀ a ∈ M, H a ≠ none
theorem Al.nil {H : Hp} : Al [] H := fun _ h => absurd h List.not_mem_nil
theorem Al.mono {M : List Addr} {H H' : Hp} (h : Al M H) (e : Ex H H') : Al M H' := fun a ha z => by
  cases q : H a with
  | none => exact h a ha q
  | some o => rw [e a o q] at z; cases z
theorem Al.new {M : List Addr} {H : Hp} {p : Addr} (h : Al M H) (n : H p = none) : p ∉ M := fun hp => h p hp n
theorem hide_new {M : List Addr} {H : Hp} {p : Addr} {o : HO} (h : Al M H) (n : H p = none) : hide M (upd H p o) p = some o := hide_of (h.new n) upd_same

/-! ### data stays -/
section
variable {K : PySem.W.Frag} {H H' : Hp}
mutual
theorem dp_mono (e : Ex H H') : ∀ (d : PyData) (v : V), Dp K H v d → Dp K H' v d
  | .none, _, h => by cases h; exact .non
  | .bool b, _, h => by cases h; exact .bl b
  | .int i, _, h => by cases h; exact .int i
  | .str x, _, h => by cases h; exact .str x
  | .list ds, _, h => by
    cases h with
    | lst hs ha => exact .lst (ex_l e hs) (dpAll_mono e ds _ ha)
  | .tuple ds, _, h => by
    cases h with
    | tup hs ha => exact .tup (ex_t e hs) (dpAll_mono e ds _ ha)
  | .dict _, _, h => by cases h
theorem dpAll_mono (e : Ex H H') : ∀ (ds : List PyData) (vs : List V), DpAll K H vs ds → DpAll K H' vs ds
  | [], _, h => by cases h; exact .nil
  | d :: ds, _, h => by
    cases h with
    | cons h1 h2 => exact .cons (dp_mono e d _ h1) (dpAll_mono e ds _ h2)
end
end
/-- data at a value, whatever stands at the hidden places -/
def Da (K : PySem.W.Frag) (M : List Addr) (H : Hp) (v : V) (d : PyData) : Prop := Dp K (hide M H) v d
def DaAll (K : PySem.W.Frag) (M : List Addr) (H : Hp) (vs : List V) (ds : List PyData) : Prop := DpAll K (hide M H) vs ds
section
variable {K : PySem.W.Frag} {M : List Addr} {H H' : Hp} {v : V} {d : PyData} {vs : List V} {ds : List PyData}
theorem Da.mono (h : Da K M H v d) (e : Ex H H') : Da K M H' v d := dp_mono (ex_hide e) d v h
theorem DaAll.mono (h : DaAll K M H vs ds) (e : Ex H H') : DaAll K M H' vs ds := dpAll_mono (ex_hide e) ds vs h
theorem Da.dp (h : Da K M H v d) : Dp K H v d := dp_mono ex_hid d v h
theorem DaAll.dp (h : DaAll K M H vs ds) : DpAll K H vs ds := dpAll_mono ex_hid ds vs h
/-- over another heap: what is hidden may have changed -/
theorem Da.over {M' : List Addr} (h : Da K M H v d) (e : Ex (hide M H) (hide M' H')) : Da K M' H' v d := dp_mono e d v h
theorem DaAll.over {M' : List Addr} (h : DaAll K M H vs ds) (e : Ex (hide M H) (hide M' H')) : DaAll K M' H' vs ds := dpAll_mono e ds vs h
theorem da_int {i : Int} (h : Da K M H v (.int i)) : v = .int i := by cases h; rfl
theorem da_bl {b : Bool} (h : Da K M H v (.bool b)) : v = .bl b := by cases h; rfl
theorem da_str {x : Str} (h : Da K M H v (.str x)) : v = .str x := by cases h; rfl
theorem dpAll_len : ∀ {ds : List PyData} {vs : List V}, DpAll K H vs ds → vs.length = ds.length
  | [], _, h => by cases h; rfl
  | d :: ds, _, h => by
    cases h with
    | cons _ h2 => rw [List.length_cons, List.length_cons, dpAll_len h2]
theorem dpAll_get : ∀ {ds : List PyData} {vs : List V} {i : Nat} {d : PyData}, DpAll K H vs ds → ds[i]? = some d → ∃ v, vs[i]? = some v ∧ Dp K H v d
  | [], _, _, _, _, e => by simp at e
  | d :: ds, _, 0, _, h, e => by
    cases h with
    | cons h1 h2 =>
      cases e
      exact ⟨_, rfl, h1⟩
  | d :: ds, _, i + 1, _, h, e => by
    cases h with
    | cons h1 h2 =>
      obtain ⟨v, q1, q2⟩ := dpAll_get h2 (i := i) (by simpa using e)
      exact ⟨v, by simpa using q1, q2⟩
theorem dpAll_get' : ∀ {ds : List PyData} {vs : List V} {i : Nat} {v : V}, DpAll K H vs ds → vs[i]? = some v → ∃ d, ds[i]? = some d ∧ Dp K H v d
  | [], _, _, _, h, e => by cases h; simp at e
  | d :: ds, _, 0, _, h, e => by
    cases h with
    | cons h1 h2 =>
      cases e
      exact ⟨_, rfl, h1⟩
  | d :: ds, _, i + 1, _, h, e => by
    cases h with
    | cons h1 h2 =>
      obtain ⟨v, q1, q2⟩ := dpAll_get' h2 (i := i) (by simpa using e)
      exact ⟨v, by simpa using q1, q2⟩
theorem dpAll_app : ∀ {ds : List PyData} {vs : List V} {ds' : List PyData} {vs' : List V}, DpAll K H vs ds → DpAll K H vs' ds' → DpAll K H (vs ++ vs') (ds ++ ds')
  | [], _, _, _, h, k => by cases h; exact k
  | d :: ds, _, _, _, h, k => by
    cases h with
    | cons h1 h2 => exact .cons h1 (dpAll_app h2 k)
theorem dpAll_take : ∀ {ds : List PyData} {vs : List V} (n : Nat), DpAll K H vs ds → DpAll K H (vs.take n) (ds.take n)
  | _, _, 0, _ => .nil
  | [], _, _ + 1, h => by cases h; exact .nil
  | d :: ds, _, n + 1, h => by
    cases h with
    | cons h1 h2 => exact .cons h1 (dpAll_take n h2)
theorem dpAll_drop : ∀ {ds : List PyData} {vs : List V} (n : Nat), DpAll K H vs ds → DpAll K H (vs.drop n) (ds.drop n)
  | _, _, 0, h => h
  | [], _, _ + 1, h => by cases h; exact .nil
  | d :: ds, _, n + 1, h => by
    cases h with
    | cons h1 h2 => exact dpAll_drop n h2
theorem dpAll_strs : ∀ {xs : List Str} {vs : List V}, DpAll K H vs (xs.map PyData.str) → vs = xs.map V.str
  | [], _, h => by cases h; rfl
  | x :: xs, _, h => by
    cases h with
    | cons h1 h2 =>
      cases h1
      rw [List.map_cons, dpAll_strs h2]
theorem dpAll_bls : ∀ {xs : List Bool} {vs : List V}, DpAll K H vs (xs.map PyData.bool) → vs = xs.map V.bl
  | [], _, h => by cases h; rfl
  | x :: xs, _, h => by
    cases h with
    | cons h1 h2 =>
      cases h1
      rw [List.map_cons, dpAll_bls h2]
end

/-- a list or a tuple -/
def sq (k : Bool) (ds : List PyData) : PyData := if k then .tuple ds else .list ds
theorem sq_at {K : PySem.W.Frag} {H : Hp} {v : V} {k : Bool} {ds : List PyData} (h : Dp K H v (sq k ds)) : ∃ a vs, v = .ref a ∧ (k = false ∧ SqL K H a vs ∨ k = true ∧ SqT K H a vs) ∧ DpAll K H vs ds := by
  cases k with
  | true =>
    cases h with
    | tup hs ha => exact ⟨_, _, rfl, .inr ⟨rfl, hs⟩, ha⟩
  | false =>
    cases h with
    | lst hs ha => exact ⟨_, _, rfl, .inl ⟨rfl, hs⟩, ha⟩
theorem sq_mk {K : PySem.W.Frag} {H : Hp} {a : Addr} {vs : List V} {k : Bool} {ds : List PyData} (h : k = false ∧ SqL K H a vs ∨ k = true ∧ SqT K H a vs) (ha : DpAll K H vs ds) : Dp K H (.ref a) (sq k ds) := by
  rcases h with ⟨rfl, h⟩ | ⟨rfl, h⟩
  · exact .lst h ha
  · exact .tup h ha

/-! ### what is walked: a list or a tuple -/
def iSeq (K : PySem.W.Frag) (tl : TE) : TI := fun σ H R => tl σ H fun x H1 => ∃ a, x = .ref a ∧ (((∃ xs, SqL K H1 a xs) ∧ R (Itl K a) H1) ∨ ((∃ xs, SqT K H1 a xs) ∧ R (Itt K a) H1))
theorem pi_seq {X : Cx} {tg l : Expr} {tl : TE} (hl : PE X l tl) : PI X tg l (iSeq X.K tl) := by
  constructor
  intro pins s σ H R I h
  refine thn (hl.run pins s σ H _ I h) fun v s1 hv => ?_
  obtain ⟨x, H1, I1, r1, a, rfl, q⟩ := hv
  cases r1
  have big := I1.hok.fresh (a := s1.heap.objs.size) (Nat.le_refl _)
  have fine : ∀ b ∈ [s1.heap.objs.size], FpOk X pins H1 b := fun b hb => by
    rw [List.mem_singleton.mp hb]
    exact I1.fpOk (Nat.le_refl _) big
  rcases q with ⟨⟨xs, hq⟩, q⟩ | ⟨⟨xs, hq⟩, q⟩
  · obtain ⟨its, _, p, _⟩ := I1.list hq
    refine wpAny_pyIter_list p.isList ⟨s1.heap.objs.size, [s1.heap.objs.size], _, _, H1, rfl, ?_, turn_list a _, ⟨_, Heap.get?_push_size _ rfl, rfl, rfl⟩, fine, q⟩
    exact I1.kept (t' := s1.toks) fun b o e => Heap.get?_push_of_some _ e
  · obtain ⟨its, _, p, _⟩ := I1.tuple hq
    refine wpAny_pyIter_tuple (show s1.heap.IsTuple a its.toArray from p) ⟨s1.heap.objs.size, [s1.heap.objs.size], _, _, H1, rfl, ?_, turn_tuple a _, ⟨_, Heap.get?_push_size _ rfl, rfl, rfl⟩, fine, q⟩
    exact I1.kept (t' := s1.toks) fun b o e => Heap.get?_push_of_some _ e

/-! ### what evaluates to what data -/
def ED (K : PySem.W.Frag) (M : List Addr) (te : TE) (σ : St) (H : Hp) (d : PyData) : Prop := ∀ H1, Ex H H1 → ∀ Q : VK, (∀ v H2, Ex H1 H2 → Da K M H2 v d → Q v H2) → te σ H1 Q
def EDA (K : PySem.W.Frag) (M : List Addr) (ta : TA) (σ : St) (H : Hp) (ds : List PyData) : Prop := ∀ H1, Ex H H1 → ∀ Q : List V → Hp → Prop, (∀ vs H2, Ex H1 H2 → DaAll K M H2 vs ds → Q vs H2) → ta σ H1 Q
section
variable {K : PySem.W.Frag} {M : List Addr} {σ : St} {H H' : Hp} {te ta tb tc tl : TE} {tt tu : TT} {d d' d1 d2 : PyData} {b : Bool} {v : V}
theorem ED.mono (h : ED K M te σ H d) (e : Ex H H') : ED K M te σ H' d := fun H1 a Q q => h H1 (e.trans a) Q q
theorem EDA.mono {ta : TA} {ds : List PyData} (h : EDA K M ta σ H ds) (e : Ex H H') : EDA K M ta σ H' ds := fun H1 a Q q => h H1 (e.trans a) Q q
theorem ED.is (h : ED K M te σ H d) (e : d = d') : ED K M te σ H d' := e ▸ h
theorem ed_var {i : Nat} (e : σ[i]? = some (some v)) (h : Da K M H v d) : ED K M (tVar i) σ H d := fun H1 a Q q => ⟨v, e, q v H1 (Ex.refl H1) (h.mono a)⟩
theorem ed_int {i : Int} : ED K M (tC (.int i)) σ H (.int i) := fun H1 _ Q q => q _ H1 (Ex.refl H1) (.int i)
theorem ed_str {x : Str} : ED K M (tC (.str x)) σ H (.str x) := fun H1 _ Q q => q _ H1 (Ex.refl H1) (.str x)
theorem ed_bl {b : Bool} : ED K M (tC (.bl b)) σ H (.bool b) := fun H1 _ Q q => q _ H1 (Ex.refl H1) (.bl b)
theorem ed_non : ED K M (tC .non) σ H .none := fun H1 _ Q q => q _ H1 (Ex.refl H1) .non
theorem eda_nil : EDA K M tNil σ H [] := fun H1 _ Q q => q _ H1 (Ex.refl H1) .nil
theorem eda_cons {tr : TA} {ds : List PyData} (h : ED K M te σ H d) (k : EDA K M tr σ H ds) : EDA K M (tCons te tr) σ H (d :: ds) := fun H1 e Q q =>
  h H1 e _ fun v H2 e2 hv => k H2 (e.trans e2) _ fun vs H3 e3 hs => q (v :: vs) H3 (e2.trans e3) (.cons (hv.mono e3) hs)
/-- two operands, then the operation -/
theorem ed_op {r : R2} (ha : ED K M ta σ H d1) (hb : ED K M tb σ H d2) (hr : ∀ x y H1, Ex H H1 → Da K M H1 x d1 → Da K M H1 y d2 → ∀ Q : VK, (∀ v H2, Ex H1 H2 → Da K M H2 v d → Q v H2) → r x y H1 Q) : ED K M (tOp r ta tb) σ H d := fun H1 e Q q =>
  ha H1 e _ fun x H2 e2 hx => hb H2 (e.trans e2) _ fun y H3 e3 hy => hr x y H3 ((e.trans e2).trans e3) (hx.mono e3) hy Q fun v H4 e4 hv => q v H4 ((e2.trans e3).trans e4) hv
theorem ed_un {r : V → Hp → VK → Prop} (ha : ED K M ta σ H d1) (hr : ∀ x H1, Ex H H1 → Da K M H1 x d1 → ∀ Q : VK, (∀ v H2, Ex H1 H2 → Da K M H2 v d → Q v H2) → r x H1 Q) : ED K M (tUn r ta) σ H d := fun H1 e Q q =>
  ha H1 e _ fun x H2 e2 hx => hr x H2 (e.trans e2) hx Q fun v H4 e4 hv => q v H4 (e2.trans e4) hv
/-- ints -/
theorem ed_I0 {g : Int → Int → V} {i j : Int} {d : PyData} (ha : ED K M ta σ H (.int i)) (hb : ED K M tb σ H (.int j)) (hd : ∀ H', Da K M H' (g i j) d) : ED K M (tOp (rI0 g) ta tb) σ H d :=
  ed_op ha hb fun x y H1 _ hx hy Q q => ⟨i, j, da_int hx, da_int hy, q _ H1 (Ex.refl H1) (hd H1)⟩
theorem ed_I {C : Int → Int → Prop} {g : Int → Int → V} {i j : Int} {d : PyData} (ha : ED K M ta σ H (.int i)) (hb : ED K M tb σ H (.int j)) (hc : C i j) (hd : ∀ H', Da K M H' (g i j) d) : ED K M (tOp (rI C g) ta tb) σ H d :=
  ed_op ha hb fun x y H1 _ hx hy Q q => ⟨i, j, da_int hx, da_int hy, hc, q _ H1 (Ex.refl H1) (hd H1)⟩
/-- == and != of data -/
theorem ed_eq (ha : ED K M ta σ H d1) (hb : ED K M tb σ H d2) (h1 : SeqAt.shaped d1 = true) (h2 : SeqAt.shaped d2 = true) : ED K M (tOp (rEqD K) ta tb) σ H (.bool (PyData.eqv d1 d2)) :=
  ed_op ha hb fun x y H1 _ hx hy Q q => ⟨d1, d2, hx.dp, hy.dp, h1, h2, q _ H1 (Ex.refl H1) (.bl _)⟩
theorem ed_ne (ha : ED K M ta σ H d1) (hb : ED K M tb σ H d2) (h1 : SeqAt.shaped d1 = true) (h2 : SeqAt.shaped d2 = true) : ED K M (tOp (rNeD K) ta tb) σ H (.bool (!PyData.eqv d1 d2)) :=
  ed_op ha hb fun x y H1 _ hx hy Q q => ⟨d1, d2, hx.dp, hy.dp, h1, h2, q _ H1 (Ex.refl H1) (.bl _)⟩
/-- in, over a list of data -/
theorem ed_inD {ds : List PyData} (ha : ED K M ta σ H d1) (hb : ED K M tb σ H (.list ds)) (h1 : SeqAt.shaped d1 = true) (h2 : SeqAt.shaped (.list ds) = true) : ED K M (tOp (rInD K) ta tb) σ H (.bool (ds.any fun z => PyData.eqv z d1)) :=
  ed_op ha hb fun x y H1 _ hx hy Q q => ⟨d1, ds, hx.dp, hy.dp, h1, h2, q _ H1 (Ex.refl H1) (.bl _)⟩
theorem inV_strs (x : Str) : ∀ ys : List Str, inV (.str x) (ys.map V.str) = decide (x ∈ ys)
  | [] => by simp [inV]
  | y :: ys => by
    have ih := inV_strs x ys
    unfold inV at ih ⊢
    rw [List.map_cons, List.any_cons, ih]
    have e : eqV (.str y) (.str x) = decide (x = y) := by
      show (y == x) = decide (x = y)
      by_cases h : x = y
      · subst h; simp
      · rw [decide_eq_false h]; exact beq_eq_false_iff_ne.mpr fun z => h z.symm
    rw [e]
    by_cases h : x = y
    · simp [h]
    · by_cases h' : x ∈ ys <;> simp [h, h']
theorem flat_strs : ∀ ys : List Str, (ys.map V.str).all flatV = true
  | [] => rfl
  | y :: ys => by rw [List.map_cons, List.all_cons, flat_strs ys]; rfl
/-- a text in a list or tuple of texts -/
theorem ed_in {neg k : Bool} {x : Str} {ys : List Str} (ha : ED K M ta σ H (.str x)) (hb : ED K M tb σ H (sq k (ys.map PyData.str))) : ED K M (tOp (rIn K neg) ta tb) σ H (.bool (if neg then !decide (x ∈ ys) else decide (x ∈ ys))) :=
  ed_op ha hb fun v w H1 _ hx hy Q q => by
    obtain ⟨a, vs, rfl, hs, hd⟩ := sq_at hy.dp
    have e := dpAll_strs hd
    subst e
    have e2 := da_str hx
    subst e2
    refine ⟨a, _, rfl, ?_, rfl, flat_strs ys, ?_⟩
    · rcases hs with ⟨_, hs⟩ | ⟨_, hs⟩
      · exact .inl hs
      · exact .inr hs
    · rw [inV_strs]
      exact q _ H1 (Ex.refl H1) (.bl _)
/-! tests -/
theorem ev_of (h : ED K M te σ H (.bool b)) : Ev te σ H (.bl b) := fun H1 e Q q => h H1 e Q fun v H2 e2 hv => by
  rw [da_bl hv]
  exact q H2 e2
theorem ed_evb (h : Ev te σ H (.bl b)) : ED K M te σ H (.bool b) := fun H1 e Q q => h H1 e Q fun H2 e2 => q _ H2 e2 (.bl b)
theorem et_t (h : ED K M te σ H (.bool b)) : EvT (tTest te) σ H b := et_test (ev_of h)
theorem et_b (h : ED K M te σ H (.bool b)) : EvT (tB te) σ H b := et_B (ev_of h)
theorem ed_not (h : ED K M te σ H (.bool b)) : ED K M (tNotV te) σ H (.bool (!b)) := ed_evb (ev_notV (ev_of h))
theorem ed_and {b' : Bool} (h : ED K M ta σ H (.bool b)) (h' : b = true → ED K M tb σ H (.bool b')) : ED K M (tAndV ta tb) σ H (.bool (b && b')) := ed_evb (ev_andV (ev_of h) fun e => ev_of (h' e))
theorem ed_if (h : EvT tt σ H b) (h1 : b = true → ED K M ta σ H d) (h2 : b = false → ED K M tb σ H d) : ED K M (tIf tt ta tb) σ H d := fun H1 e Q q => h H1 e _ fun H2 e2 => by
  cases b with
  | true =>
    show ta σ H2 Q
    exact h1 rfl H2 (e.trans e2) Q fun v H3 e3 hv => q v H3 (e2.trans e3) hv
  | false =>
    show tb σ H2 Q
    exact h2 rfl H2 (e.trans e2) Q fun v H3 e3 hv => q v H3 (e2.trans e3) hv
/-! displays, list(..), tuple(..) -/
theorem ed_tup {ta : TA} {ds : List PyData} (hM : Al M H) (h : EDA K M ta σ H ds) (hl : ds.length ≤ 100000) : ED K M (tTup ta) σ H (.tuple ds) := fun H1 e Q q =>
  h H1 e _ fun vs H2 e2 hv => ⟨by rw [dpAll_len hv]; exact sz_of hl, fun p hp => q _ _ (e2.trans (Ex.new hp)) (.tup (.inl (.inl (hide_new (hM.mono (e.trans e2)) hp))) (hv.mono (Ex.new hp)))⟩
theorem ed_lst {ta : TA} {ds : List PyData} (hM : Al M H) (h : EDA K M ta σ H ds) (hl : ds.length ≤ 100000) : ED K M (tLst ta) σ H (.list ds) := fun H1 e Q q =>
  h H1 e _ fun vs H2 e2 hv => ⟨by rw [dpAll_len hv]; exact sz_of hl, fun p hp => q _ _ (e2.trans (Ex.new hp)) (.lst (.inl (.inl (hide_new (hM.mono (e.trans e2)) hp))) (hv.mono (Ex.new hp)))⟩
def rTupleOf (K : PySem.W.Frag) : List V → Hp → VK → Prop := fun xs H Q => ∃ p ys, xs = [.ref p] ∧ ((SqL K H p ys ∧ ∀ l, H l = none → Q (.ref l) (upd H l (.tup ys))) ∨ (SqT K H p ys ∧ Q (.ref p) H))
def rListOf (K : PySem.W.Frag) : List V → Hp → VK → Prop := fun xs H Q => ∃ p ys, xs = [.ref p] ∧ (SqL K H p ys ∨ SqT K H p ys) ∧ ∀ l, H l = none → Q (.ref l) (upd H l (.lst ys))
theorem ed_tupleOf {k : Bool} {ds : List PyData} (hM : Al M H) (h : ED K M te σ H (sq k ds)) : ED K M (tCB (rTupleOf K) (tCons te tNil)) σ H (.tuple ds) := fun H1 e Q q =>
  h H1 e _ fun v H2 e2 hv => by
    obtain ⟨a, vs, rfl, hs, hd⟩ := sq_at hv
    rcases hs with ⟨_, hs⟩ | ⟨_, hs⟩
    · refine ⟨a, vs, rfl, .inl ⟨ex_l ex_hid hs, fun l hl => q _ _ (e2.trans (Ex.new hl)) ?_⟩⟩
      exact .tup (.inl (.inl (hide_new (hM.mono (e.trans e2)) hl))) (dpAll_mono (ex_hide (Ex.new hl)) _ _ hd)
    · exact ⟨a, vs, rfl, .inr ⟨ex_t ex_hid hs, q _ _ e2 (.tup hs hd)⟩⟩
theorem ed_listOf {k : Bool} {ds : List PyData} (hM : Al M H) (h : ED K M te σ H (sq k ds)) : ED K M (tCB (rListOf K) (tCons te tNil)) σ H (.list ds) := fun H1 e Q q =>
  h H1 e _ fun v H2 e2 hv => by
    obtain ⟨a, vs, rfl, hs, hd⟩ := sq_at hv
    refine ⟨a, vs, rfl, ?_, fun l hl => q _ _ (e2.trans (Ex.new hl)) ?_⟩
    · rcases hs with ⟨_, hs⟩ | ⟨_, hs⟩
      · exact .inl (ex_l ex_hid hs)
      · exact .inr (ex_t ex_hid hs)
    · exact .lst (.inl (.inl (hide_new (hM.mono (e.trans e2)) hl))) (dpAll_mono (ex_hide (Ex.new hl)) _ _ hd)
/-! all, any, len -/
theorem ed_all {bs : List Bool} (h : ED K M te σ H (.list (bs.map PyData.bool))) : ED K M (tCB (rAll K) (tCons te tNil)) σ H (.bool (bs.all id)) := fun H1 e Q q =>
  h H1 e _ fun v H2 e2 hv => by
    cases hv with
    | @lst a vs _ hs ha =>
      have e3 := dpAll_bls ha
      subst e3
      exact ⟨a, bs, rfl, ex_l ex_hid hs, q _ _ e2 (.bl _)⟩
theorem ed_any {bs : List Bool} (h : ED K M te σ H (.list (bs.map PyData.bool))) : ED K M (tCB (rAny K) (tCons te tNil)) σ H (.bool (bs.any id)) := fun H1 e Q q =>
  h H1 e _ fun v H2 e2 hv => by
    cases hv with
    | @lst a vs _ hs ha =>
      have e3 := dpAll_bls ha
      subst e3
      exact ⟨a, bs, rfl, ex_l ex_hid hs, q _ _ e2 (.bl _)⟩
def rLenV (K : PySem.W.Frag) : List V → Hp → VK → Prop := fun xs H Q => ∃ x n, xs = [x] ∧ LenV K x H n ∧ Q (.int (n : Nat)) H
theorem ed_lenS {k : Bool} {ds : List PyData} (h : ED K M te σ H (sq k ds)) : ED K M (tCB (rLenV K) (tCons te tNil)) σ H (.int (ds.length : Nat)) := fun H1 e Q q =>
  h H1 e _ fun v H2 e2 hv => by
    obtain ⟨a, vs, rfl, hs, hd⟩ := sq_at hv.dp
    have l := dpAll_len hd
    refine ⟨.ref a, vs.length, rfl, ?_, ?_⟩
    · rcases hs with ⟨_, hs⟩ | ⟨_, hs⟩
      · exact .inl ⟨vs, hs, rfl⟩
      · exact .inr ⟨vs, hs, rfl⟩
    · rw [l]
      exact q _ _ e2 (.int _)
theorem ed_lenT {x : Str} (h : ED K M te σ H (.str x)) (hz : x.length ≤ 100000) : ED K M (tCB (rLenV K) (tCons te tNil)) σ H (.int (x.length : Nat)) := fun H1 e Q q =>
  h H1 e _ fun v H2 e2 hv => by
    rw [da_str hv]
    exact ⟨.str x, x.length, rfl, ⟨sz_of hz, rfl⟩, q _ _ e2 (.int _)⟩
/-! a[i] -/
theorem ed_ix {k : Bool} {ds : List PyData} {i : Nat} (ha : ED K M ta σ H (sq k ds)) (hb : ED K M tb σ H (.int (i : Nat))) (hi : ds[i]? = some d) : ED K M (tOp (rIx K) ta tb) σ H d :=
  ed_op ha hb fun x y H1 _ hx hy Q q => by
    obtain ⟨a, vs, rfl, hs, hd⟩ := sq_at hx
    obtain ⟨v, hv, hdv⟩ := dpAll_get hd hi
    have e := da_int hy
    subst e
    rcases hs with ⟨_, hs⟩ | ⟨_, hs⟩
    · exact .inl ⟨a, vs, (i : Int), v, rfl, rfl, ex_l ex_hid hs, atI_nat hv, q v H1 (Ex.refl H1) hdv⟩
    · exact .inr (.inl ⟨a, vs, (i : Int), v, rfl, rfl, ex_t ex_hid hs, atI_nat hv, q v H1 (Ex.refl H1) hdv⟩)
/-! calls of pure defs -/
/-- a promise on data: what the arguments are, what comes back -/
def spD (K : PySem.W.Frag) (C : List PyData → PyData → Prop) : Sp := fun vs H Q _ => ∃ (M : List Addr) (ds : List PyData) (d : PyData), Al M H ∧ DaAll K M H vs ds ∧ C ds d ∧ ∀ v H', Ex H H' → Da K M H' v d → Q v H'
theorem ed_call {C : List PyData → PyData → Prop} {ta : TA} {ds : List PyData} (hM : Al M H) (h : EDA K M ta σ H ds) (c : C ds d) : ED K M (tCall (spD K C) [] E0 ta) σ H d := fun H1 e Q q =>
  h H1 e _ fun vs H2 e2 hv => by
    rw [List.append_nil]
    exact ⟨M, ds, d, hM.mono (e.trans e2), hv, c, fun v H3 e3 hd => q v H3 (e2.trans e3) hd⟩
end
end Rt

/-! Comprehensions, loops, statements, dicts, over data. -/
namespace Rt
open PySem L2 Evl

/-- what stands stays, seen without M, M' -/
structure Ext (M : List Addr) (H : Hp) (M' : List Addr) (H' : Hp) : Prop where
  hid : Ex (hide M H) (hide M' H')
  al : Al M' H'
section
variable {K : PySem.W.Frag} {M M' M2 : List Addr} {H H' H2 : Hp} {v : V} {d : PyData}
theorem Da.ext (h : Da K M H v d) (e : Ext M H M' H') : Da K M' H' v d := h.over e.hid
theorem Ext.ex (a : Al M H) (e : Ex H H') : Ext M H M H' := ⟨ex_hide e, a.mono e⟩
theorem Ext.trans (a : Ext M H M' H') (b : Ext M' H' M2 H2) : Ext M H M2 H2 := ⟨a.hid.trans b.hid, b.al⟩
theorem Ext.more (a : Ext M H M' H') (e : Ex H' H2) : Ext M H M' H2 := ⟨a.hid.trans (ex_hide e), a.al.mono e⟩
theorem hide_upd {p : Addr} {o : HO} (h : p ∈ M) : hide M (upd H p o) = hide M H := by
  funext b
  unfold hide
  by_cases c : b ∈ M
  · rw [if_pos c, if_pos c]
  · rw [if_neg c, if_neg c, upd_ne fun e => c (by rw [e]; exact h)]
theorem al_upd {p : Addr} {o : HO} (a : Al M H) : Al M (upd H p o) := fun b hb => by
  by_cases c : b = p
  · rw [c, upd_same]; exact fun z => nomatch z
  · rw [upd_ne c]; exact a b hb
/-- a hidden place is written -/
theorem Ext.wr {p : Addr} {o : HO} (h : p ∈ M) (a : Al M H) : Ext M H M (upd H p o) := ⟨by rw [hide_upd h]; exact Ex.refl _, al_upd a⟩
/-- one more place is hidden: it was free at H -/
theorem ext_hide {D : Addr} (a : Al M H) (n : H D = none) (e : Ex H H') (hD : H' D ≠ none) : Ext M H (D :: M) H' := by
  refine ⟨fun b o h => ?_, fun b hb => ?_⟩
  · obtain ⟨c, q⟩ := hide_in h
    have nb : b ≠ D := fun z => by rw [z, n] at q; cases q
    refine hide_of ?_ (e b o q)
    intro z
    rcases List.mem_cons.mp z with z | z
    · exact nb z
    · exact c z
  · rcases List.mem_cons.mp hb with z | z
    · rw [z]; exact hD
    · exact a.mono e b z
/-- a place is told again -/
theorem ext_show {D : Addr} (a : Al (D :: M) H) : Ext (D :: M) H M H := ⟨fun b o h => by
    obtain ⟨c, q⟩ := hide_in h
    exact hide_of (fun z => c (List.mem_cons_of_mem _ z)) q, fun b hb => a b (List.mem_cons_of_mem _ hb)⟩
end

/-! ### a list that the program made, told with its place -/
def Tr (K : PySem.W.Frag) (M : List Addr) (H : Hp) (v : V) (ds : List PyData) : Prop := ∃ p vs, v = .ref p ∧ hide M H p = some (.lst vs) ∧ DaAll K M H vs ds
def EDL (K : PySem.W.Frag) (M : List Addr) (te : TE) (σ : St) (H : Hp) (ds : List PyData) : Prop := ∀ H1, Ex H H1 → ∀ Q : VK, (∀ v H2, Ex H1 H2 → Tr K M H2 v ds → Q v H2) → te σ H1 Q
section
variable {K : PySem.W.Frag} {M M' : List Addr} {σ : St} {H H' : Hp} {te : TE} {v : V} {ds ds' : List PyData}
theorem Tr.da (h : Tr K M H v ds) : Da K M H v (.list ds) := by
  obtain ⟨p, vs, rfl, hp, hd⟩ := h
  exact .lst (.inl (.inl hp)) hd
theorem Tr.ext (h : Tr K M H v ds) (e : Ext M H M' H') : Tr K M' H' v ds := by
  obtain ⟨p, vs, rfl, hp, hd⟩ := h
  exact ⟨p, vs, rfl, e.hid p _ hp, hd.over e.hid⟩
theorem Tr.mono (h : Tr K M H v ds) (e : Ex H H') : Tr K M H' v ds := by
  obtain ⟨p, vs, rfl, hp, hd⟩ := h
  exact ⟨p, vs, rfl, ex_hide e p _ hp, hd.mono e⟩
theorem EDL.ed (h : EDL K M te σ H ds) : ED K M te σ H (.list ds) := fun H1 e Q q => h H1 e Q fun v H2 e2 hv => q v H2 e2 hv.da
theorem EDL.is (h : EDL K M te σ H ds) (e : ds = ds') : EDL K M te σ H ds' := e ▸ h
theorem EDL.mono (h : EDL K M te σ H ds) (e : Ex H H') : EDL K M te σ H' ds := fun H1 a Q q => h H1 (e.trans a) Q q
theorem tl_var {i : Nat} (e : σ[i]? = some (some v)) (h : Tr K M H v ds) : EDL K M (tVar i) σ H ds := fun H1 a Q q => ⟨v, e, q v H1 (Ex.refl H1) (h.mono a)⟩
end

/-! ### walks told once for all: n turns -/
theorem lc_any {J : It} {n : Nat} {g : TG} {tt : TT} {te : TE} {vs : List Nat} {σ : St} {H1 : Hp} {D : Addr} {Qd : Hp → Prop} (Pv : Nat → Hp → Prop) (h0 : Pv 0 (upd H1 D (.lst []))) (hst : ∀ H, Pv n H → J.stop n H) (hgo : ∀ i H, i < n → Pv i H → J.go i H)
    (hs : ∀ i H x H', i < n → Pv i H → J.yld i H x H' → g x (wipe σ vs) H' fun σ2 H2 => wipe σ2 vs = wipe σ vs ∧ tt σ2 H2 fun b H3 =>
      if b = true then te σ2 H3 fun y H4 => ∃ acc, H4 D = some (.lst acc) ∧ acc.length < sizeLine ∧ Pv (i + 1) (upd H4 D (.lst (acc ++ [y]))) else Pv (i + 1) H3) (hd : ∀ H, Pv n H → Qd H) :
    ∃ W : Nat → Nat → Hp → Prop, (∃ m, W 0 m (upd H1 D (.lst []))) ∧ ∀ i m H, W i m H →
      (J.stop i H ∧ Qd H) ∨ (J.go i H ∧ ∃ Nx : Hp → Prop, (∀ H', Nx H' → ∃ m', m' < m ∧ W (i + 1) m' H') ∧ ∀ x H', J.yld i H x H' → g x (wipe σ vs) H' fun σ2 H2 => wipe σ2 vs = wipe σ vs ∧ tt σ2 H2 fun b H3 =>
        if b = true then te σ2 H3 fun y H4 => ∃ acc, H4 D = some (.lst acc) ∧ acc.length < sizeLine ∧ Nx (upd H4 D (.lst (acc ++ [y]))) else Nx H3) := by
  refine ⟨fun i m H => m + i = n ∧ Pv i H, ⟨n, rfl, h0⟩, ?_⟩
  intro i m H ⟨e, p⟩
  by_cases hlt : i < n
  · exact .inr ⟨hgo i H hlt p, Pv (i + 1), fun H' p' => ⟨n - (i + 1), by omega, by omega, p'⟩, fun x H' y => hs i H x H' hlt p y⟩
  · have q : i = n := by omega
    subst q
    exact .inl ⟨hst H p, hd H p⟩
theorem dc_any {J : It} {n : Nat} {g : TG} {tt : TT} {tk tv : TE} {vs : List Nat} {σ : St} {H1 : Hp} {D : Addr} {Qd : Hp → Prop} (Pv : Nat → Hp → Prop) (h0 : Pv 0 (upd H1 D (.dK []))) (hst : ∀ H, Pv n H → J.stop n H) (hgo : ∀ i H, i < n → Pv i H → J.go i H)
    (hs : ∀ i H x H', i < n → Pv i H → J.yld i H x H' → g x (wipe σ vs) H' fun σ2 H2 => wipe σ2 vs = wipe σ vs ∧ tt σ2 H2 fun b H3 =>
      if b = true then tk σ2 H3 fun y H4 => tv σ2 H4 fun z H5 => ∃ kvs k, y = kV k ∧ H5 D = some (.dK kvs) ∧ kvs.length < sizeLine ∧ Pv (i + 1) (upd H5 D (.dK (putK kvs k z))) else Pv (i + 1) H3) (hd : ∀ H, Pv n H → Qd H) :
    ∃ W : Nat → Nat → Hp → Prop, (∃ m, W 0 m (upd H1 D (.dK []))) ∧ ∀ i m H, W i m H →
      (J.stop i H ∧ Qd H) ∨ (J.go i H ∧ ∃ Nx : Hp → Prop, (∀ H', Nx H' → ∃ m', m' < m ∧ W (i + 1) m' H') ∧ ∀ x H', J.yld i H x H' → g x (wipe σ vs) H' fun σ2 H2 => wipe σ2 vs = wipe σ vs ∧ tt σ2 H2 fun b H3 =>
        if b = true then tk σ2 H3 fun y H4 => tv σ2 H4 fun z H5 => ∃ kvs k, y = kV k ∧ H5 D = some (.dK kvs) ∧ kvs.length < sizeLine ∧ Nx (upd H5 D (.dK (putK kvs k z))) else Nx H3) := by
  refine ⟨fun i m H => m + i = n ∧ Pv i H, ⟨n, rfl, h0⟩, ?_⟩
  intro i m H ⟨e, p⟩
  by_cases hlt : i < n
  · exact .inr ⟨hgo i H hlt p, Pv (i + 1), fun H' p' => ⟨n - (i + 1), by omega, by omega, p'⟩, fun x H' y => hs i H x H' hlt p y⟩
  · have q : i = n := by omega
    subst q
    exact .inl ⟨hst H p, hd H p⟩
theorem for_any {J : It} {n : Nat} {g : TG} {tb : TS} {D : Ends} {σ : St} {H : Hp} (Pv : Nat → St → Hp → Prop) (h0 : Pv 0 σ H) (hst : ∀ σ H, Pv n σ H → J.stop n H) (hgo : ∀ i σ H, i < n → Pv i σ H → J.go i H)
    (hs : ∀ i σ H x H', i < n → Pv i σ H → J.yld i H x H' → g x σ H' fun σ2 H2 => tb { D with nx := Pv (i + 1), ct := Pv (i + 1), bk := D.nx } σ2 H2) (hd : ∀ σ H, Pv n σ H → D.nx σ H) :
    ∃ W : Nat → Nat → St → Hp → Prop, (∃ m, W 0 m σ H) ∧ ∀ i m σ H, W i m σ H →
      (J.stop i H ∧ D.nx σ H) ∨ (J.go i H ∧ ∃ N : St → Hp → Prop, (∀ σ' H', N σ' H' → ∃ m', m' < m ∧ W (i + 1) m' σ' H') ∧ ∀ x H', J.yld i H x H' → g x σ H' fun σ2 H2 => tb { D with nx := N, ct := N, bk := D.nx } σ2 H2) := by
  refine ⟨fun i m σ H => m + i = n ∧ Pv i σ H, ⟨n, rfl, h0⟩, ?_⟩
  intro i m σ H ⟨e, p⟩
  by_cases hlt : i < n
  · exact .inr ⟨hgo i σ H hlt p, Pv (i + 1), fun σ' H' p' => ⟨n - (i + 1), by omega, by omega, p'⟩, fun x H' y => hs i σ H x H' hlt p y⟩
  · have q : i = n := by omega
    subst q
    exact .inl ⟨hst σ H p, hd σ H p⟩

section
variable {K : PySem.W.Frag} {M : List Addr} {σ : St} {H H' : Hp} {te ta tb tc tl tk tv : TE} {tt tu : TT} {d d' d1 d2 : PyData} {b : Bool} {v : V} {g : TG} {vs : List Nat}
/-! ### the list that a comprehension makes -/
def LcP (K : PySem.W.Frag) (M : List Addr) (H : Hp) (D : Addr) {α : Type} (l : List α) (p : α → Bool) (f : α → PyData) (i : Nat) (H' : Hp) : Prop :=
  Ex H H' ∧ ∃ acc, H' D = some (.lst acc) ∧ DaAll K (D :: M) H' acc (((l.take i).filter p).map f)
theorem take_more {α : Type} {l : List α} {i : Nat} {a : α} (h : l[i]? = some a) : l.take (i + 1) = l.take i ++ [a] := by
  rw [List.take_add_one, h]; rfl
theorem lc_turn {α : Type} {l : List α} {p : α → Bool} {f : α → PyData} {i : Nat} {a : α} {D : Addr} {σ2 : St} (n : H D = none) (hM : Al M H) (hz : l.length ≤ 50000) (ha : l[i]? = some a) (h : LcP K M H D l p f i H')
    (ht : EvT tt σ2 H' (p a)) (he : p a = true → ED K (D :: M) te σ2 H' (f a)) :
    tt σ2 H' fun b H3 => if b = true then te σ2 H3 fun y H4 => ∃ acc, H4 D = some (.lst acc) ∧ acc.length < sizeLine ∧ LcP K M H D l p f (i + 1) (upd H4 D (.lst (acc ++ [y]))) else LcP K M H D l p f (i + 1) H3 := by
  obtain ⟨e, acc, hD, hacc⟩ := h
  refine ht H' (Ex.refl H') _ fun H3 e3 => ?_
  cases hp : p a with
  | true =>
    show te σ2 H3 _
    refine he hp H3 e3 _ fun y H4 e4 hy => ⟨acc, e4 D _ (e3 D _ hD), ?_, Ex.mut (e.trans (e3.trans e4)) n, acc ++ [y], upd_same, ?_⟩
    · rw [dpAll_len hacc, List.length_map]
      refine sz_lt (Nat.lt_of_le_of_lt (List.length_filter_le _ _) ?_)
      rw [List.length_take]
      omega
    · unfold DaAll
      rw [hide_upd List.mem_cons_self, take_more ha, List.filter_append, List.map_append]
      have e5 : ([a].filter p).map f = [f a] := by rw [List.filter_cons, if_pos hp]; rfl
      rw [e5]
      exact dpAll_app (hacc.mono (e3.trans e4)) (.cons hy .nil)
  | false =>
    show LcP K M H D l p f (i + 1) H3
    refine ⟨e.trans e3, acc, e3 D _ hD, ?_⟩
    have e5 : ([a].filter p).map f = [] := by rw [List.filter_cons, if_neg (by rw [hp]; exact Bool.false_ne_true)]; rfl
    rw [take_more ha, List.filter_append, List.map_append, e5, List.append_nil]
    exact hacc.mono e3
theorem lc_done {α : Type} {l : List α} {p : α → Bool} {f : α → PyData} {D : Addr} (n : H D = none) (hM : Al M H) (h : LcP K M H D l p f l.length H') : Tr K M H' (.ref D) ((l.filter p).map f) := by
  obtain ⟨e, acc, hD, hacc⟩ := h
  rw [List.take_length] at hacc
  have al : Al (D :: M) H' := (ext_hide hM n e (by rw [hD]; exact fun z => nomatch z)).al
  exact ⟨D, acc, rfl, hide_of (hM.new n) hD, hacc.over (ext_show al).hid⟩
/-- what a turn of a comprehension is asked: the target takes the item, the test, the element -/
def LcStep (K : PySem.W.Frag) (M : List Addr) (σ : St) (H : Hp) (g : TG) (tt : TT) (te : TE) (vs : List Nat) (v : V) (b : Bool) (d : PyData) : Prop :=
  ∃ σ2, (∀ R : St → Hp → Prop, R σ2 H → g v (wipe σ vs) H R) ∧ wipe σ2 vs = wipe σ vs ∧ EvT tt σ2 H b ∧ (b = true → ED K M te σ2 H d)
theorem tl_lc {α : Type} {l : List α} {enc : α → PyData} {p : α → Bool} {f : α → PyData} {k : Bool} (hM : Al M H) (hs : ED K M tl σ H (sq k (l.map enc))) (hz : l.length ≤ 50000)
    (step : ∀ a ∈ l, ∀ M' v H1, Ext M H M' H1 → Da K M' H1 v (enc a) → LcStep K M' σ H1 g tt te vs v (p a) (f a)) : EDL K M (tLc (iSeq K tl) g tt te vs) σ H ((l.filter p).map f) := fun H1 e Q q =>
  hs H1 e _ fun v H2 e2 hv => by
    obtain ⟨a, xs, rfl, hsq, hd⟩ := sq_at hv
    have hM2 : Al M H2 := hM.mono (e.trans e2)
    have hlen : xs.length = l.length := by rw [dpAll_len hd, List.length_map]
    -- one turn, at any item
    have turn : ∀ D, H2 D = none → ∀ i H' x, i < l.length → LcP K M H2 D l p f i H' → xs[i]? = some x →
        g x (wipe σ vs) H' fun σ2 H2' => wipe σ2 vs = wipe σ vs ∧ tt σ2 H2' fun b H3 => if b = true then te σ2 H3 fun y H4 => ∃ acc, H4 D = some (.lst acc) ∧ acc.length < sizeLine ∧ LcP K M H2 D l p f (i + 1) (upd H4 D (.lst (acc ++ [y]))) else LcP K M H2 D l p f (i + 1) H3 := by
      intro D hD i H' x hi hP hx
      have ex : Ext M H2 (D :: M) H' := by
        obtain ⟨e', acc, hD', _⟩ := hP
        exact ext_hide hM2 hD e' (by rw [hD']; exact fun z => nomatch z)
      obtain ⟨d0, hd0, hdx⟩ := dpAll_get' hd hx
      have ha : l[i]? = some l[i] := List.getElem?_eq_getElem hi
      rw [List.getElem?_map, ha] at hd0
      have hd0 : enc l[i] = d0 := Option.some.inj hd0
      subst hd0
      have hdx' : Da K (D :: M) H' x (enc l[i]) := Da.ext (M := M) (H := H2) hdx ex
      obtain ⟨σ2, h1, h2, h3, h4⟩ := step l[i] (List.getElem_mem hi) (D :: M) x H' ((Ext.ex hM (e.trans e2)).trans ex) hdx'
      exact h1 _ ⟨h2, lc_turn hD hM2 hz ha hP h3 h4⟩
    have start : ∀ D, H2 D = none → LcP K M H2 D l p f 0 (upd H2 D (.lst [])) := fun D hD => ⟨Ex.new hD, [], upd_same, .nil⟩
    have fin : ∀ D, H2 D = none → ∀ H', LcP K M H2 D l p f l.length H' → Q (.ref D) H' := fun D hD H' hP => q _ H' (e2.trans hP.1) (lc_done hD hM2 hP)
    refine ⟨a, rfl, ?_⟩
    rcases hsq with ⟨_, hsq⟩ | ⟨_, hsq⟩
    · have rd : ∀ {H'}, Ex H2 H' → SqL K H' a xs := fun e' => ex_l e' (ex_l ex_hid hsq)
      refine .inl ⟨⟨xs, ex_l ex_hid hsq⟩, fun D hD => lc_any (n := l.length) (LcP K M H2 D l p f) (start D hD) (fun H' hP => ⟨xs, rd hP.1, Nat.le_of_eq hlen⟩) (fun i H' hi hP => ⟨xs, xs[i]'(by omega), rd hP.1, List.getElem?_eq_getElem _⟩) ?_ (fin D hD)⟩
      intro i H0 x H' hi hP hy
      obtain ⟨rfl, hy⟩ := hy
      exact turn D hD i _ x hi hP (hy xs (rd hP.1))
    · have rd : ∀ {H'}, Ex H2 H' → SqT K H' a xs := fun e' => ex_t e' (ex_t ex_hid hsq)
      refine .inr ⟨⟨xs, ex_t ex_hid hsq⟩, fun D hD => lc_any (n := l.length) (LcP K M H2 D l p f) (start D hD) (fun H' hP => ⟨xs, rd hP.1, Nat.le_of_eq hlen⟩) (fun i H' hi hP => ⟨xs, xs[i]'(by omega), rd hP.1, List.getElem?_eq_getElem _⟩) ?_ (fin D hD)⟩
      intro i H0 x H' hi hP hy
      obtain ⟨rfl, hy⟩ := hy
      exact turn D hD i _ x hi hP (hy xs (rd hP.1))
theorem ed_lc {α : Type} {l : List α} {enc : α → PyData} {p : α → Bool} {f : α → PyData} {k : Bool} (hM : Al M H) (hs : ED K M tl σ H (sq k (l.map enc))) (hz : l.length ≤ 50000)
    (step : ∀ a ∈ l, ∀ M' v H1, Ext M H M' H1 → Da K M' H1 v (enc a) → LcStep K M' σ H1 g tt te vs v (p a) (f a)) : ED K M (tLc (iSeq K tl) g tt te vs) σ H (.list ((l.filter p).map f)) := (tl_lc hM hs hz step).ed
/-- without a test -/
theorem filter_tt {α : Type} (l : List α) : l.filter (fun _ => true) = l := List.filter_eq_self.mpr fun _ _ => rfl
theorem ed_lc1 {α : Type} {l : List α} {enc : α → PyData} {f : α → PyData} {k : Bool} (hM : Al M H) (hs : ED K M tl σ H (sq k (l.map enc))) (hz : l.length ≤ 50000)
    (step : ∀ a ∈ l, ∀ M' v H1, Ext M H M' H1 → Da K M' H1 v (enc a) → LcStep K M' σ H1 g tYes te vs v true (f a)) : ED K M (tLc (iSeq K tl) g tYes te vs) σ H (.list (l.map f)) :=
  (ed_lc (p := fun _ => true) hM hs hz step).is (by rw [filter_tt])
theorem et_yes : EvT tYes σ H true := fun H1 _ Q q => q H1 (Ex.refl H1)
theorem tl_lc1 {α : Type} {l : List α} {enc : α → PyData} {f : α → PyData} {k : Bool} (hM : Al M H) (hs : ED K M tl σ H (sq k (l.map enc))) (hz : l.length ≤ 50000)
    (step : ∀ a ∈ l, ∀ M' v H1, Ext M H M' H1 → Da K M' H1 v (enc a) → LcStep K M' σ H1 g tYes te vs v true (f a)) : EDL K M (tLc (iSeq K tl) g tYes te vs) σ H (l.map f) :=
  (tl_lc (p := fun _ => true) hM hs hz step).is (by rw [filter_tt])
/-- over the signs of a text: each element a bool -/
theorem ed_lcS {x : Str} {j : Nat} {f : Nat → PyData} (hM : Al M H) (hs : ED K M tl σ H (.str x)) (hz : x.length ≤ 50000) (hw : ∀ y, wipe ((wipe σ vs).set j (some y)) vs = wipe σ vs)
    (step : ∀ c ∈ x.cps.toList, ∀ M' H1, Ext M H M' H1 → ED K M' te ((wipe σ vs).set j (some (.str ⟨#[c]⟩))) H1 (f c)) : ED K M (tLc (iStr tl) (gName j) tYes te vs) σ H (.list (x.cps.toList.map f)) := fun H1 e Q q =>
  hs H1 e _ fun v H2 e2 hv => by
    have hM2 : Al M H2 := hM.mono (e.trans e2)
    have hlen : x.cps.toList.length = x.cps.size := Array.length_toList
    refine ⟨x, da_str hv, fun D hD => lc_any (n := x.cps.toList.length) (LcP K M H2 D x.cps.toList (fun _ => true) f) ⟨Ex.new hD, [], upd_same, .nil⟩ (fun H' _ => Nat.le_of_eq hlen.symm) (fun i H' hi _ => by rw [hlen] at hi; exact hi) ?_ ?_⟩
    · intro i H0 y H' hi hP hy
      obtain ⟨rfl, c, hc, rfl⟩ := hy
      have ex : Ext M H2 (D :: M) H' := by
        obtain ⟨e', acc, hD', _⟩ := hP
        exact ext_hide hM2 hD e' (by rw [hD']; exact fun z => nomatch z)
      have ha : x.cps.toList[i]? = some c := by rw [Array.getElem?_toList]; exact hc
      refine ⟨hw _, lc_turn (p := fun _ => true) hD hM2 (by rw [hlen]; exact hz) ha hP et_yes fun _ => ?_⟩
      exact step c (List.mem_of_getElem? ha) (D :: M) H' ((Ext.ex hM (e.trans e2)).trans ex)
    · intro H' hP
      have r := (lc_done hD hM2 hP).da
      rw [filter_tt] at r
      exact q _ H' (e2.trans hP.1) r
/-! ### the dict that a comprehension makes -/
/-- at v stands a dict of these keys and data, itself outside M -/
def DicAt (K : PySem.W.Frag) (M : List Addr) (H : Hp) (v : V) (keys : List Str) (ds : List PyData) : Prop :=
  ∃ q kvs, v = .ref q ∧ q ∉ M ∧ H q = some (.dK kvs) ∧ kvs.map (·.1) = keys.map (Sum.inr : Str → Key) ∧ DaAll K (q :: M) H (kvs.map (·.2)) ds
def DcP (K : PySem.W.Frag) (M : List Addr) (H : Hp) (D : Addr) {α : Type} (l : List α) (key : α → Str) (f : α → PyData) (i : Nat) (H' : Hp) : Prop :=
  Ex H H' ∧ ∃ kvs : List (Key × V), H' D = some (.dK kvs) ∧ kvs.map (·.1) = (l.take i).map (fun a => (Sum.inr (key a) : Key)) ∧ DaAll K (D :: M) H' (kvs.map (·.2)) ((l.take i).map f)
theorem valV_out {kvs : List (Key × V)} {k : Key} (h : k ∉ kvs.map (·.1)) : valV kvs k = none := by
  cases e : valV kvs k with
  | none => rfl
  | some v =>
    unfold valV at e
    obtain ⟨p, hp, _⟩ := Option.map_eq_some_iff.mp e
    have q := List.find?_some hp
    exact absurd (List.mem_map.mpr ⟨p, List.mem_of_find?_eq_some hp, of_decide_eq_true q⟩) h
/-- a dict comprehension over a list or tuple, no test -/
theorem ed_dc {α : Type} {l : List α} {enc : α → PyData} {key : α → Str} {f : α → PyData} {k : Bool} (hM : Al M H) (hs : ED K M tl σ H (sq k (l.map enc))) (hz : l.length ≤ 50000) (nd : (l.map key).Nodup)
    (step : ∀ a ∈ l, ∀ M' v H1, Ext M H M' H1 → Da K M' H1 v (enc a) → ∃ σ2, (∀ R : St → Hp → Prop, R σ2 H1 → g v (wipe σ vs) H1 R) ∧ wipe σ2 vs = wipe σ vs ∧ ED K M' tk σ2 H1 (.str (key a)) ∧ ED K M' tv σ2 H1 (f a)) :
    ∀ H1, Ex H H1 → ∀ Q : VK, (∀ v H2, Ex H1 H2 → DicAt K M H2 v (l.map key) (l.map f) → Q v H2) → tDc (iSeq K tl) g tYes tk tv vs σ H1 Q := fun H1 e Q q =>
  hs H1 e _ fun v H2 e2 hv => by
    obtain ⟨a, xs, rfl, hsq, hd⟩ := sq_at hv
    have hM2 : Al M H2 := hM.mono (e.trans e2)
    have hlen : xs.length = l.length := by rw [dpAll_len hd, List.length_map]
    have turn : ∀ D, H2 D = none → ∀ i H' x, i < l.length → DcP K M H2 D l key f i H' → xs[i]? = some x →
        g x (wipe σ vs) H' fun σ2 H2' => wipe σ2 vs = wipe σ vs ∧ tYes σ2 H2' fun b H3 => if b = true then tk σ2 H3 fun y H4 => tv σ2 H4 fun z H5 => ∃ kvs k, y = kV k ∧ H5 D = some (.dK kvs) ∧ kvs.length < sizeLine ∧ DcP K M H2 D l key f (i + 1) (upd H5 D (.dK (putK kvs k z))) else DcP K M H2 D l key f (i + 1) H3 := by
      intro D hD i H' x hi hP hx
      obtain ⟨e', kvs, hD', hk, hda⟩ := hP
      have ex : Ext M H2 (D :: M) H' := ext_hide hM2 hD e' (by rw [hD']; exact fun z => nomatch z)
      obtain ⟨d0, hd0, hdx⟩ := dpAll_get' hd hx
      have ha : l[i]? = some l[i] := List.getElem?_eq_getElem hi
      rw [List.getElem?_map, ha] at hd0
      have hd0 : enc l[i] = d0 := Option.some.inj hd0
      subst hd0
      have hdx' : Da K (D :: M) H' x (enc l[i]) := Da.ext (M := M) (H := H2) hdx ex
      obtain ⟨σ2, h1, h2, h3, h4⟩ := step l[i] (List.getElem_mem hi) (D :: M) x H' ((Ext.ex hM (e.trans e2)).trans ex) hdx'
      refine h1 _ ⟨h2, ?_⟩
      show tk σ2 H' _
      refine h3 H' (Ex.refl H') _ fun y H4 e4 hy => ?_
      refine h4 H4 e4 _ fun z H5 e5 hz5 => ?_
      have new : (Sum.inr (key l[i]) : Key) ∉ kvs.map (·.1) := by
        rw [hk]
        intro hm
        obtain ⟨c, hc, ec⟩ := List.mem_map.mp hm
        have ec : key c = key l[i] := Sum.inr.inj ec
        obtain ⟨j, hj, ej⟩ := List.mem_take_iff_getElem.mp hc
        have hj' : (l.map key)[j]? = some (key l[i]) := by
          rw [List.getElem?_map, List.getElem?_eq_getElem (by omega)]
          show some (key l[j]) = _
          rw [ej, ec]
        have hi' : (l.map key)[i]? = some (key l[i]) := by
          rw [List.getElem?_map, List.getElem?_eq_getElem hi]; rfl
        have := nodup_ix nd hj' hi'
        omega
      have hl : kvs.length = min i l.length := by
        have := congrArg List.length hk
        rwa [List.length_map, List.length_map, List.length_take] at this
      refine ⟨kvs, Sum.inr (key l[i]), da_str hy, e5 D _ (e4 D _ hD'), sz_lt (by omega), Ex.mut (e'.trans (e4.trans e5)) hD, putK kvs (Sum.inr (key l[i])) z, upd_same, ?_, ?_⟩
      · rw [putK_new z (valV_out new), List.map_append, hk, take_more ha, List.map_append]
        rfl
      · unfold DaAll
        rw [hide_upd List.mem_cons_self, putK_new z (valV_out new), List.map_append, take_more ha, List.map_append]
        exact dpAll_app (hda.mono (e4.trans e5)) (.cons hz5 .nil)
    have start : ∀ D, H2 D = none → DcP K M H2 D l key f 0 (upd H2 D (.dK [])) := fun D hD => ⟨Ex.new hD, [], upd_same, rfl, .nil⟩
    have fin : ∀ D, H2 D = none → ∀ H', DcP K M H2 D l key f l.length H' → Q (.ref D) H' := fun D hD H' hP => by
      obtain ⟨e', kvs, hD', hk, hda⟩ := hP
      rw [List.take_length] at hk hda
      exact q _ H' (e2.trans e') ⟨D, kvs, rfl, hM2.new hD, hD', by rw [hk, List.map_map]; rfl, hda⟩
    refine ⟨a, rfl, ?_⟩
    rcases hsq with ⟨_, hsq⟩ | ⟨_, hsq⟩
    · have rd : ∀ {H'}, Ex H2 H' → SqL K H' a xs := fun e' => ex_l e' (ex_l ex_hid hsq)
      refine .inl ⟨⟨xs, ex_l ex_hid hsq⟩, fun D hD => dc_any (n := l.length) (DcP K M H2 D l key f) (start D hD) (fun H' hP => ⟨xs, rd hP.1, Nat.le_of_eq hlen⟩) (fun i H' hi hP => ⟨xs, xs[i]'(by omega), rd hP.1, List.getElem?_eq_getElem _⟩) ?_ (fin D hD)⟩
      intro i H0 x H' hi hP hy
      obtain ⟨rfl, hy⟩ := hy
      exact turn D hD i _ x hi hP (hy xs (rd hP.1))
    · have rd : ∀ {H'}, Ex H2 H' → SqT K H' a xs := fun e' => ex_t e' (ex_t ex_hid hsq)
      refine .inr ⟨⟨xs, ex_t ex_hid hsq⟩, fun D hD => dc_any (n := l.length) (DcP K M H2 D l key f) (start D hD) (fun H' hP => ⟨xs, rd hP.1, Nat.le_of_eq hlen⟩) (fun i H' hi hP => ⟨xs, xs[i]'(by omega), rd hP.1, List.getElem?_eq_getElem _⟩) ?_ (fin D hD)⟩
      intro i H0 x H' hi hP hy
      obtain ⟨rfl, hy⟩ := hy
      exact turn D hD i _ x hi hP (hy xs (rd hP.1))
/-! ### statements -/
variable {D : Ends} {tu1 tw1 tz : TS}
theorem sd_asg {i : Nat} (h : ED K M te σ H d) (k : ∀ v H1, Ex H H1 → Da K M H1 v d → D.nx (σ.set i (some v)) H1) : tAsg te (gName i) D σ H := h H (Ex.refl H) _ fun v H1 e hv => k v H1 e hv
theorem qd_asg {i : Nat} (h : ED K M te σ H d) (k : ∀ v H1, Ex H H1 → Da K M H1 v d → tz D (σ.set i (some v)) H1) : tSeq (tAsg te (gName i)) tz D σ H := sd_asg (D := { D with nx := tz D }) h k
theorem sd_ret (h : ED K M te σ H d) (k : ∀ v H1, Ex H H1 → Da K M H1 v d → D.rt v H1) : tRet te D σ H := h H (Ex.refl H) _ k
theorem sd_drop (h : ED K M te σ H d) (k : ∀ H1, Ex H H1 → D.nx σ H1) : tDrop te D σ H := h H (Ex.refl H) _ fun _ H1 e _ => k H1 e
theorem qd_drop (h : ED K M te σ H d) (k : ∀ H1, Ex H H1 → tz D σ H1) : tSeq (tDrop te) tz D σ H := sd_drop (D := { D with nx := tz D }) h k
/-- an if whose body is not taken -/
theorem qd_skip (h : EvT tt σ H false) (k : ∀ H1, Ex H H1 → tz D σ H1) : tSeq (tIfS tt tu1 tNext) tz D σ H := q_when h (fun z => nomatch z) (fun _ H1 e => k H1 e)
theorem sd_skip (h : EvT tt σ H false) (k : ∀ H1, Ex H H1 → D.nx σ H1) : tIfS tt tu1 tNext D σ H := s_when h (fun z => nomatch z) (fun _ H1 e => k H1 e)
/-- a for over a list or tuple of data: the body may write what is hidden -/
theorem sd_for {α : Type} {l : List α} {enc : α → PyData} {k : Bool} (hs : ED K M tl σ H (sq k (l.map enc))) (Pv : Nat → St → Hp → Prop) (h0 : ∀ H1, Ex H H1 → Pv 0 σ H1)
    (step : ∀ H2, Ex H H2 → ∀ (i : Nat) a v σ' H', l[i]? = some a → Pv i σ' H' → Ex (hide M H2) (hide M H') → Da K M H' v (enc a) →
      g v σ' H' fun σ3 H3 => tu1 { D with nx := fun σ4 H4 => Pv (i + 1) σ4 H4 ∧ Ex (hide M H2) (hide M H4), ct := fun σ4 H4 => Pv (i + 1) σ4 H4 ∧ Ex (hide M H2) (hide M H4), bk := D.nx } σ3 H3)
    (hd : ∀ σ' H', Pv l.length σ' H' → Ex (hide M H) (hide M H') → D.nx σ' H') : tFor (iSeq K tl) g tu1 D σ H :=
  hs H (Ex.refl H) _ fun v H2 e2 hv => by
    obtain ⟨a, xs, rfl, hsq, hdx⟩ := sq_at hv
    have hlen : xs.length = l.length := by rw [dpAll_len hdx, List.length_map]
    have turn : ∀ i σ' H' x, i < l.length → Pv i σ' H' → Ex (hide M H2) (hide M H') → xs[i]? = some x →
        g x σ' H' fun σ3 H3 => tu1 { D with nx := fun σ4 H4 => Pv (i + 1) σ4 H4 ∧ Ex (hide M H2) (hide M H4), ct := fun σ4 H4 => Pv (i + 1) σ4 H4 ∧ Ex (hide M H2) (hide M H4), bk := D.nx } σ3 H3 := by
      intro i σ' H' x hi hP hE hx
      obtain ⟨d0, hd0, hdx0⟩ := dpAll_get' hdx hx
      have ha : l[i]? = some l[i] := List.getElem?_eq_getElem hi
      rw [List.getElem?_map, ha] at hd0
      have hd0 : enc l[i] = d0 := Option.some.inj hd0
      subst hd0
      exact step H2 e2 i l[i] x σ' H' ha hP hE (dp_mono hE _ _ hdx0)
    refine ⟨a, rfl, ?_⟩
    rcases hsq with ⟨_, hsq⟩ | ⟨_, hsq⟩
    · have rd : ∀ {H'}, Ex (hide M H2) (hide M H') → SqL K H' a xs := fun e' => ex_l ex_hid (ex_l e' hsq)
      refine .inl ⟨⟨xs, ex_l ex_hid hsq⟩, for_any (n := l.length) (fun i σ' H' => Pv i σ' H' ∧ Ex (hide M H2) (hide M H')) ⟨h0 H2 e2, Ex.refl _⟩ (fun σ' H' hP => ⟨xs, rd hP.2, Nat.le_of_eq hlen⟩) (fun i σ' H' hi hP => ⟨xs, xs[i]'(by omega), rd hP.2, List.getElem?_eq_getElem _⟩) ?_ (fun σ' H' hP => hd σ' H' hP.1 ((ex_hide e2).trans hP.2))⟩
      intro i σ' H0 x H' hi hP hy
      obtain ⟨rfl, hy⟩ := hy
      exact turn i σ' _ x hi hP.1 hP.2 (hy xs (rd hP.2))
    · have rd : ∀ {H'}, Ex (hide M H2) (hide M H') → SqT K H' a xs := fun e' => ex_t ex_hid (ex_t e' hsq)
      refine .inr ⟨⟨xs, ex_t ex_hid hsq⟩, for_any (n := l.length) (fun i σ' H' => Pv i σ' H' ∧ Ex (hide M H2) (hide M H')) ⟨h0 H2 e2, Ex.refl _⟩ (fun σ' H' hP => ⟨xs, rd hP.2, Nat.le_of_eq hlen⟩) (fun i σ' H' hi hP => ⟨xs, xs[i]'(by omega), rd hP.2, List.getElem?_eq_getElem _⟩) ?_ (fun σ' H' hP => hd σ' H' hP.1 ((ex_hide e2).trans hP.2))⟩
      intro i σ' H0 x H' hi hP hy
      obtain ⟨rfl, hy⟩ := hy
      exact turn i σ' _ x hi hP.1 hP.2 (hy xs (rd hP.2))
end
end Rt

/-! The plain law: greatest wants, musts and mays against all sublists that explain the answers. No program here. -/
namespace RtM
variable {α : Type} [DecidableEq α]
/-- an answer: the build, the skill, whether it was let -/
abbrev An (α : Type) := List α × α × Bool
def lets (seen : List (An α)) (s : α) : List (An α) := seen.filter fun t => decide (t.2.1 = s) && t.2.2
def refs (seen : List (An α)) (s : α) : List (An α) := seen.filter fun t => decide (t.2.1 = s) && !t.2.2
def most (names : List α) (seen : List (An α)) (s : α) : List α := names.filter fun n => (!decide (n = s)) && (lets seen s).all fun t => decide (n ∈ t.1)
def refused (names : List α) (seen : List (An α)) (s : α) : List (List α) := (refs seen s).map fun t => (most names seen s).filter fun n => !decide (n ∈ t.1)
def explained (names : List α) (seen : List (An α)) : Bool := !(names.any fun s => decide ([] ∈ refused names seen s))
def mustOf (names : List α) (seen : List (An α)) (s : α) : List α := if explained names seen then names.filter fun n => decide ([n] ∈ refused names seen s) else []
def mayOf (names : List α) (seen : List (An α)) (s : α) : List α := if explained names seen then most names seen s else []
/-! the law's own -/
def partsFrom (acc : List (List α)) : List α → List (List α)
  | [] => acc
  | x :: xs => partsFrom (acc ++ acc.map fun r => r ++ [x]) xs
def parts (xs : List α) : List (List α) := partsFrom [[]] xs
def bad (row : List α) (s : α) (t : An α) : Bool := decide (t.2.1 = s) && !decide (t.2.2 = decide (row.filter (fun n => !decide (n ∈ t.1)) = []))
def fits (seen : List (An α)) (s : α) (row : List α) : Bool := decide (seen.filter (bad row s) = [])
def others (names : List α) (s : α) : List α := names.filter fun n => !decide (n = s)
def fitting (names : List α) (seen : List (An α)) (s : α) : List (List α) := (parts (others names s)).filter (fits seen s)
def unionOf (names : List α) (rows : List (List α)) : List α := names.filter fun n => !decide (rows.filter (fun r => decide (n ∈ r)) = [])
def commonOf (names : List α) (rows : List (List α)) : List α := names.filter fun n => decide (rows.filter (fun r => !decide (n ∈ r)) = [])

omit [DecidableEq α] in
theorem mem_partsFrom : ∀ (xs : List α) (acc : List (List α)) (row : List α), row ∈ partsFrom acc xs ↔ ∃ a ∈ acc, ∃ r, r.Sublist xs ∧ row = a ++ r
  | [], acc, row => by
    constructor
    · intro h
      exact ⟨row, h, [], List.Sublist.slnil, (List.append_nil row).symm⟩
    · rintro ⟨a, ha, r, hr, e⟩
      have : r = [] := List.sublist_nil.mp hr
      rw [this, List.append_nil] at e
      rw [e]; exact ha
  | x :: xs, acc, row => by
    show row ∈ partsFrom (acc ++ acc.map fun r => r ++ [x]) xs ↔ _
    rw [mem_partsFrom xs]
    constructor
    · rintro ⟨a, ha, r, hr, e⟩
      rcases List.mem_append.mp ha with ha | ha
      · exact ⟨a, ha, r, hr.cons x, e⟩
      · obtain ⟨b, hb, eb⟩ := List.mem_map.mp ha
        refine ⟨b, hb, x :: r, hr.cons_cons x, ?_⟩
        rw [e, ← eb, List.append_assoc]; rfl
    · rintro ⟨a, ha, r, hr, e⟩
      cases hr with
      | cons _ hr => exact ⟨a, List.mem_append_left _ ha, r, hr, e⟩
      | cons_cons _ hr =>
        rename_i r'
        refine ⟨a ++ [x], List.mem_append_right _ (List.mem_map.mpr ⟨a, ha, rfl⟩), r', hr, ?_⟩
        rw [e, List.append_assoc]; rfl
omit [DecidableEq α] in
theorem mem_parts {xs row : List α} : row ∈ parts xs ↔ row.Sublist xs := by
  unfold parts
  rw [mem_partsFrom]
  constructor
  · rintro ⟨a, ha, r, hr, e⟩
    rw [List.mem_singleton.mp ha, List.nil_append] at e
    rw [e]; exact hr
  · intro h
    exact ⟨[], List.mem_singleton.mpr rfl, row, h, rfl⟩
theorem in_lets {seen : List (An α)} {s : α} {t : An α} : t ∈ lets seen s ↔ t ∈ seen ∧ t.2.1 = s ∧ t.2.2 = true := by
  unfold lets; rw [List.mem_filter]; simp
theorem in_refs {seen : List (An α)} {s : α} {t : An α} : t ∈ refs seen s ↔ t ∈ seen ∧ t.2.1 = s ∧ t.2.2 = false := by
  unfold refs; rw [List.mem_filter]; simp
theorem in_most {names : List α} {seen : List (An α)} {s n : α} : n ∈ most names seen s ↔ n ∈ names ∧ n ≠ s ∧ ∀ t ∈ lets seen s, n ∈ t.1 := by
  unfold most; rw [List.mem_filter]; simp
theorem in_refused {names : List α} {seen : List (An α)} {s : α} {r : List α} : r ∈ refused names seen s ↔ ∃ t ∈ refs seen s, (most names seen s).filter (fun n => !decide (n ∈ t.1)) = r := by
  unfold refused; rw [List.mem_map]
omit [DecidableEq α] in
theorem filter_nil [DecidableEq α] {l b : List α} : l.filter (fun n => !decide (n ∈ b)) = [] ↔ ∀ x ∈ l, x ∈ b := by
  rw [List.filter_eq_nil_iff]
  constructor
  · intro h x hx
    have := h x hx
    simpa using this
  · intro h x hx
    simpa using h x hx
theorem fits_iff {seen : List (An α)} {s : α} {row : List α} : fits seen s row = true ↔ (∀ t ∈ lets seen s, ∀ x ∈ row, x ∈ t.1) ∧ ∀ t ∈ refs seen s, ∃ x ∈ row, x ∉ t.1 := by
  unfold fits
  rw [decide_eq_true_iff, List.filter_eq_nil_iff]
  constructor
  · intro h
    refine ⟨fun t ht => ?_, fun t ht => ?_⟩
    · obtain ⟨h1, h2, h3⟩ := in_lets.mp ht
      have q := h t h1
      unfold bad at q
      rw [h3] at q
      have q2 : decide (row.filter (fun n => !decide (n ∈ t.1)) = []) = true := by
        cases e : decide (row.filter (fun n => !decide (n ∈ t.1)) = []) with
        | true => rfl
        | false => rw [e] at q; simp [h2] at q
      exact filter_nil.mp (of_decide_eq_true q2)
    · obtain ⟨h1, h2, h3⟩ := in_refs.mp ht
      have q := h t h1
      unfold bad at q
      rw [h3] at q
      have q2 : decide (row.filter (fun n => !decide (n ∈ t.1)) = []) = false := by
        cases e : decide (row.filter (fun n => !decide (n ∈ t.1)) = []) with
        | false => rfl
        | true => rw [e] at q; simp [h2] at q
      have q3 := of_decide_eq_false q2
      rw [filter_nil] at q3
      simpa [Classical.not_forall] using q3
  · rintro ⟨h1, h2⟩ t ht
    unfold bad
    by_cases e : t.2.1 = s
    · cases e2 : t.2.2 with
      | true =>
        have q := filter_nil.mpr (h1 t (in_lets.mpr ⟨ht, e, e2⟩))
        simp [q]
      | false =>
        obtain ⟨x, hx, hn⟩ := h2 t (in_refs.mpr ⟨ht, e, e2⟩)
        have q : ¬ row.filter (fun n => !decide (n ∈ t.1)) = [] := fun z => hn (filter_nil.mp z x hx)
        rw [decide_eq_false q]
        simp
    · simp [e]
theorem most_sub (names : List α) (seen : List (An α)) (s : α) : (most names seen s).Sublist (others names s) := by
  have e : most names seen s = (others names s).filter fun n => (lets seen s).all fun t => decide (n ∈ t.1) := by
    unfold most others
    rw [List.filter_filter]
    congr 1
    funext n
    exact Bool.and_comm _ _
  rw [e]
  exact List.filter_sublist
theorem fit_sub_most {names : List α} {seen : List (An α)} {s : α} {row : List α} (hr : row.Sublist (others names s)) (hf : fits seen s row = true) : ∀ x ∈ row, x ∈ most names seen s := fun x hx => by
  have h := hr.subset hx
  unfold others at h
  rw [List.mem_filter] at h
  exact in_most.mpr ⟨h.1, by simpa using h.2, fun t ht => (fits_iff.mp hf).1 t ht x hx⟩
theorem most_fits {names : List α} {seen : List (An α)} {s : α} (h : [] ∉ refused names seen s) : fits seen s (most names seen s) = true := by
  rw [fits_iff]
  refine ⟨fun t ht x hx => (in_most.mp hx).2.2 t ht, fun t ht => ?_⟩
  have q : ¬ (most names seen s).filter (fun n => !decide (n ∈ t.1)) = [] := fun z => h (in_refused.mpr ⟨t, ht, z⟩)
  rw [filter_nil] at q
  simpa [Classical.not_forall] using q
theorem in_fitting {names : List α} {seen : List (An α)} {s : α} {row : List α} : row ∈ fitting names seen s ↔ row.Sublist (others names s) ∧ fits seen s row = true := by
  unfold fitting
  rw [List.mem_filter, mem_parts]
theorem fitting_nil {names : List α} {seen : List (An α)} {s : α} : fitting names seen s = [] ↔ [] ∈ refused names seen s := by
  constructor
  · intro h
    apply Classical.byContradiction
    intro q
    have : most names seen s ∈ fitting names seen s := in_fitting.mpr ⟨most_sub names seen s, most_fits q⟩
    rw [h] at this
    cases this
  · intro h
    obtain ⟨t, ht, e⟩ := in_refused.mp h
    rw [filter_nil] at e
    apply List.eq_nil_iff_forall_not_mem.mpr
    intro row hrow
    obtain ⟨h1, h2⟩ := in_fitting.mp hrow
    obtain ⟨x, hx, hn⟩ := (fits_iff.mp h2).2 t ht
    exact hn (e x (fit_sub_most h1 h2 x hx))
theorem union_most {names : List α} {seen : List (An α)} {s : α} (h : [] ∉ refused names seen s) : unionOf names (fitting names seen s) = most names seen s := by
  unfold unionOf
  have key : ∀ n ∈ names, (!decide ((fitting names seen s).filter (fun r => decide (n ∈ r)) = [])) = ((!decide (n = s)) && (lets seen s).all fun t => decide (n ∈ t.1)) := by
    intro n hn
    have l : (!decide ((fitting names seen s).filter (fun r => decide (n ∈ r)) = [])) = true ↔ n ∈ most names seen s := by
      simp only [Bool.not_eq_true', decide_eq_false_iff_not]
      constructor
      · intro q
        obtain ⟨r, hr⟩ := List.exists_mem_of_ne_nil _ q
        rw [List.mem_filter] at hr
        obtain ⟨h1, h2⟩ := in_fitting.mp hr.1
        exact fit_sub_most h1 h2 n (by simpa using hr.2)
      · intro q z
        have : most names seen s ∈ (fitting names seen s).filter (fun r => decide (n ∈ r)) := List.mem_filter.mpr ⟨in_fitting.mpr ⟨most_sub names seen s, most_fits h⟩, by simpa using q⟩
        rw [z] at this
        cases this
    have r : ((!decide (n = s)) && (lets seen s).all fun t => decide (n ∈ t.1)) = true ↔ n ∈ most names seen s := by
      unfold most
      rw [List.mem_filter]
      exact ⟨fun q => ⟨hn, q⟩, fun q => q.2⟩
    exact Bool.eq_iff_iff.mpr (l.trans r.symm)
  unfold most
  exact List.filter_congr key
omit [DecidableEq α] in
theorem all_eq_single [DecidableEq α] : ∀ {l : List α} {n : α}, l.Nodup → l ≠ [] → (∀ x ∈ l, x = n) → l = [n]
  | [], _, _, h, _ => absurd rfl h
  | [x], n, _, _, h => by rw [h x List.mem_cons_self]
  | x :: y :: r, n, hd, _, h => by
    have e1 := h x List.mem_cons_self
    have e2 := h y (List.mem_cons_of_mem _ List.mem_cons_self)
    rw [e1, e2] at hd
    exact absurd List.mem_cons_self (List.nodup_cons.mp hd).1
theorem common_must {names : List α} {seen : List (An α)} {s : α} (nd : names.Nodup) (h : [] ∉ refused names seen s) :
    commonOf names (fitting names seen s) = names.filter fun n => decide ([n] ∈ refused names seen s) := by
  unfold commonOf
  apply List.filter_congr
  intro n hn
  have ndm : (most names seen s).Nodup := by unfold most; exact nd.sublist List.filter_sublist
  refine Bool.eq_iff_iff.mpr ?_
  rw [decide_eq_true_iff, decide_eq_true_iff, filter_rows]
  constructor
  · intro all
    have hm : n ∈ most names seen s := all _ (in_fitting.mpr ⟨most_sub names seen s, most_fits h⟩)
    -- the greatest one without n does not fit
    have no : ¬ fits seen s ((most names seen s).filter fun x => !decide (x = n)) = true := by
      intro q
      have := all _ (in_fitting.mpr ⟨List.filter_sublist.trans (most_sub names seen s), q⟩)
      rw [List.mem_filter] at this
      simp at this
    rw [fits_iff] at no
    have l1 : ∀ t ∈ lets seen s, ∀ x ∈ ((most names seen s).filter fun x => !decide (x = n)), x ∈ t.1 := fun t ht x hx => (in_most.mp ((List.mem_filter.mp hx).1)).2.2 t ht
    have no2 : ¬ ∀ t ∈ refs seen s, ∃ x ∈ ((most names seen s).filter fun x => !decide (x = n)), x ∉ t.1 := fun q => no ⟨l1, q⟩
    obtain ⟨t, no3⟩ := Classical.not_forall.mp no2
    obtain ⟨ht, no4⟩ := Classical.not_imp.mp no3
    refine in_refused.mpr ⟨t, ht, ?_⟩
    refine all_eq_single (ndm.sublist List.filter_sublist) (fun z => h (in_refused.mpr ⟨t, ht, z⟩)) fun x hx => ?_
    rw [List.mem_filter] at hx
    apply Classical.byContradiction
    intro q
    exact no4 ⟨x, List.mem_filter.mpr ⟨hx.1, by simpa using q⟩, by simpa using hx.2⟩
  · intro q r hr
    obtain ⟨t, ht, e⟩ := in_refused.mp q
    obtain ⟨h1, h2⟩ := in_fitting.mp hr
    obtain ⟨x, hx, hn'⟩ := (fits_iff.mp h2).2 t ht
    have : x ∈ (most names seen s).filter (fun n => !decide (n ∈ t.1)) := List.mem_filter.mpr ⟨fit_sub_most h1 h2 x hx, by simpa using hn'⟩
    rw [e] at this
    rw [← List.mem_singleton.mp this]
    exact hx
where
  filter_rows {rows : List (List α)} {n : α} : rows.filter (fun r => !decide (n ∈ r)) = [] ↔ ∀ r ∈ rows, n ∈ r := by
    rw [List.filter_eq_nil_iff]
    constructor
    · intro h r hr
      simpa using h r hr
    · intro h r hr
      simpa using h r hr
/-! the law's end -/
def isNone (names : List α) (seen : List (An α)) : Bool := !decide (names.filter (fun s => decide (fitting names seen s = [])) = [])
theorem isNone_eq (names : List α) (seen : List (An α)) : isNone names seen = !explained names seen := by
  unfold isNone explained
  rw [Bool.not_not]
  refine Bool.eq_iff_iff.mpr ?_
  rw [List.any_eq_true]
  simp only [Bool.not_eq_true', decide_eq_false_iff_not, decide_eq_true_eq]
  constructor
  · intro h
    obtain ⟨s, hs⟩ := List.exists_mem_of_ne_nil _ h
    rw [List.mem_filter] at hs
    exact ⟨s, hs.1, fitting_nil.mp (by simpa using hs.2)⟩
  · rintro ⟨s, hs, h⟩ z
    have : s ∈ names.filter (fun s => decide (fitting names seen s = [])) := List.mem_filter.mpr ⟨hs, by simpa using fitting_nil.mpr h⟩
    rw [z] at this
    cases this
theorem explained_at {names : List α} {seen : List (An α)} {s : α} (h : explained names seen = true) (hs : s ∈ names) : [] ∉ refused names seen s := fun q => by
  unfold explained at h
  have : (names.any fun s => decide ([] ∈ refused names seen s)) = true := List.any_eq_true.mpr ⟨s, hs, decide_eq_true q⟩
  rw [this] at h
  cases h
theorem law_must {names : List α} {seen : List (An α)} {s : α} (nd : names.Nodup) (hs : s ∈ names) : mustOf names seen s = if isNone names seen then [] else commonOf names (fitting names seen s) := by
  rw [isNone_eq]
  unfold mustOf
  cases h : explained names seen with
  | false => rfl
  | true => exact (common_must nd (explained_at h hs)).symm
theorem law_may {names : List α} {seen : List (An α)} {s : α} (hs : s ∈ names) : mayOf names seen s = if isNone names seen then [] else unionOf names (fitting names seen s) := by
  rw [isNone_eq]
  unfold mayOf
  cases h : explained names seen with
  | false => rfl
  | true => exact (union_most (explained_at h hs)).symm
theorem law_most {names : List α} {seen : List (An α)} {s : α} (h : explained names seen = true) (hs : s ∈ names) : most names seen s = unionOf names (fitting names seen s) := (union_most (explained_at h hs)).symm
end RtM

/-! Facts of the top, the promises, and the few rules that the layer lacks. -/
namespace Rt
open PySem L2 Evl RtM

def topS (i : Nat) : Stmt := PySem.Challenge.pw_refundtrees_k70_whole_wants_told_back.main.body.getD i (.Pass ⟨0, 0, 0, 0⟩)

/-! ### facts of the top -/
structure Txt (K : PySem.W.Frag) (mg : Str → Option Value) : Prop where
  isinstance_ : mg "isinstance" = none
  str_ : mg "str" = none
  len_ : mg "len" = none
  all_ : mg "all" = none
  any_ : mg "any" = none
  tuple_ : mg "tuple" = none
  list_ : mg "list" = none
  bool_ : mg "bool" = none
  int_ : mg "int" = none
  max_ : mg "max" = none
  min_ : mg "min" = none
  repr_ : mg "repr" = none
  range_ : mg "range" = none
  LETTERS : ∃ t, mg "LETTERS" = some (.str "abcdefghijklmnopqrstuvwxyz" t)
  MOST_LETTERS : ∃ t, mg "MOST_LETTERS" = some (.int 8 t)
  MOST_SKILLS : ∃ t, mg "MOST_SKILLS" = some (.int 12 t)
/-- a def with its promise, as its callers know it -/
structure Df (P : Program) (w : World) (K : PySem.W.Frag) (mg : Str → Option Value) (base : Heap) (k : Nat) (x : Str) (ps : List Str) (sp : Sp) : Prop where
  ex : ∃ (f : Addr) (fd : FuncData), FnOk P w K mg base CX0 k f fd ps sp ∧ mg x = some (.ref f) ∧ PySem.W.keepIn K (.ref f) = true ∧ Binds K fd ps []
/-- where a def of the text stands -/
def AtDef (K : PySem.W.Frag) (mg : Str → Option Value) (x : Str) (st : Stmt) (f : Addr) (fd : FuncData) : Prop := Fun K x x st f fd ∧ mg x = some (.ref f)
section
variable {X : Cx}
theorem pe_gstr {x z : Str} {pos : Pos} (h : ∃ t, X.mg x = some (.str z t)) (hg : Gl X x) (hd : (x == ("__debug__" : Str)) = false := by decide) : PE X (.Name x pos) (tC (.str z)) := by
  obtain ⟨t, ht⟩ := h
  exact pe_glob hg ht ⟨t, rfl⟩ hd
theorem pe_gint {x : Str} {i : Int} {pos : Pos} (h : ∃ t, X.mg x = some (.int i t)) (hg : Gl X x) (hd : (x == ("__debug__" : Str)) = false := by decide) : PE X (.Name x pos) (tC (.int i)) := by
  obtain ⟨t, ht⟩ := h
  exact pe_glob hg ht ⟨t, rfl⟩ hd
theorem pe_df {k : Nat} {x : Str} {ps : List Str} {sp : Sp} {p pos : Pos} {e : Expr} {es : List Expr} {t : TA} (D : Df X.prog X.w X.K X.mg X.base k x ps sp) (hr : Room k X.A) (hg : Gl X x) (ha : PA X (e :: es) t)
    (hdb : (x == ("__debug__" : Str)) = false := by decide) (he : starEach (e :: es) X.env = (false, eval e X.env) :: starEach es X.env := by rfl) (hpl : (backTo pos (starEach es X.env)).any (·.1) = false := by rfl) :
    PE X (.Call (.Name x p) (e :: es) [] pos) (tCall sp [] E0 t) := by
  obtain ⟨f, fd, G, m, kp, b⟩ := D.ex
  exact pe_call G hr hg m kp b .nil pass0 ha hdb he hpl
theorem pe_df0 {k : Nat} {x : Str} {sp : Sp} {p pos : Pos} (D : Df X.prog X.w X.K X.mg X.base k x [] sp) (hr : Room k X.A) (hg : Gl X x) (hdb : (x == ("__debug__" : Str)) = false := by decide) :
    PE X (.Call (.Name x p) [] [] pos) (tCall sp [] E0 tNil) := by
  obtain ⟨f, fd, G, m, kp, b⟩ := D.ex
  exact pe_call0 G hr hg m kp b .nil pass0 hdb
theorem pgn (i : Nat) {x : Str} {pos : Pos} (hN : X.N.Nodup) (hi : X.N[i]? = some x := by rfl) (hx : Loc X.env.scope x := by first | exact Or.inl rfl | exact Or.inr rfl)
    (hf : X.fn x = true ∨ X.env.scope.names.lookup x = some .local := by first | exact .inl rfl | exact .inr rfl) : PG X (.Name x pos) (gName i) := pg_name hN hi hx hf
theorem psn (i : Nat) {x : Str} {e : Expr} {te : TE} {pos pos' : Pos} (hN : X.N.Nodup) (he : PE X e te) (hi : X.N[i]? = some x := by rfl) (hx : Loc X.env.scope x := by first | exact Or.inl rfl | exact Or.inr rfl)
    (hs : swapsWith e (some (.Name x pos')) pos.line X.env = pure false := by rfl) (hf : X.fn x = true ∨ X.env.scope.names.lookup x = some .local := by first | exact .inl rfl | exact .inr rfl) :
    PS X (.Assign [.Name x pos'] e pos) (tAsg te (gName i)) := ps_set hN hi hx he hs hf
end
theorem room65 {k : Nat} {A : Around} (hr : Room k A) : A.units + 65 < cLine := by have := hr.un; omega

/-! ### readings by name -/
def rInSign : R2 := fun x y H Q => ∃ (c : Nat) (z : Str), x = .str ⟨#[c]⟩ ∧ y = .str z ∧ Q (.bl (decide (c ∈ z.cps.toList))) H
def rMax2_ : List V → Hp → VK → Prop := fun xs H Q => ∃ i j, xs = [.int i, .int j] ∧ Q (.int (if j > i then j else i)) H
def rMin2_ : List V → Hp → VK → Prop := fun xs H Q => ∃ i j, xs = [.int i, .int j] ∧ Q (.int (if j < i then j else i)) H
def rInt1 : List V → Hp → VK → Prop := fun xs H Q => (∃ i, xs = [.int i] ∧ Q (.int i) H) ∨ ∃ k, xs = [.bl k] ∧ Q (.int (if k then 1 else 0)) H
def rLenD : List V → Hp → VK → Prop := fun xs H Q => ∃ a kvs, xs = [V.ref a] ∧ H a = some (.dK kvs) ∧ Q (.int kvs.length) H
/-- != of two Nones, of two dicts whose values are like data: False -/
def rNeW (K : PySem.W.Frag) : R2 := fun x y H Q => (x = .non ∧ y = .non ∧ Q (.bl false) H) ∨
  ∃ a b ks ls, x = .ref a ∧ y = .ref b ∧ H a = some (.dK ks) ∧ H b = some (.dK ls) ∧ ks.length = ls.length ∧
    (∀ p ∈ ks, ∃ u d, valV ls p.1 = some u ∧ Dp K H p.2 d ∧ Dp K H u d ∧ SeqAt.shaped d = true ∧ PyData.eqv d d = true) ∧ Q (.bl false) H
/-- repr of data -/
def rReprD (K : PySem.W.Frag) : List V → Hp → VK → Prop := fun xs H Q => ∃ a d, xs = [.ref a] ∧ Dp K H (.ref a) d ∧ d.showable = true ∧ d.hasDict = false ∧ d.depth ≤ 64 ∧ d.shown.length ≤ sizeLine ∧ Q (.str d.shown) H
section
variable {X : Cx}
theorem hits_data {A : Around} {pins : List (Addr × Obj)} {σ : St} {H : Hp} {s : Shared} (I : Inv X pins σ H s) (hu : A.units + 64 < cLine) {ls : List (Key × V)} {vb : List (Key × Value)} (rb : KV ls vb) :
    ∀ {ks : List (Key × V)} {va : List (Key × Value)}, KV ks va → (∀ p ∈ ks, ∃ u d, valV ls p.1 = some u ∧ Dp X.K H p.2 d ∧ Dp X.K H u d ∧ SeqAt.shaped d = true ∧ PyData.eqv d d = true) → PySem.W.KeqHits A s vb va true
  | _, _, .nil, _ => .nil
  | p :: ps, q :: qs, .cons h t, hp => by
    obtain ⟨h1, h2⟩ := h
    obtain ⟨u, d, e, d1, d2, sh, ev⟩ := hp p List.mem_cons_self
    have rr : RelO (some u) (valueAt vb p.1) := by rw [← e]; exact rb.val p.1
    obtain ⟨y, hy, ry⟩ := rr.some_of
    obtain ⟨key, v⟩ := q
    have h1' : p.1 = key := h1
    rw [h1'] at hy
    obtain ⟨as, r1⟩ := Dp.reads I d p.2 v d1 h2
    obtain ⟨bs, r2⟩ := Dp.reads I d u y d2 ry
    have c := SeqAt.canLay_of_shaped sh
    have eq : SeqAt.EqAt A s v y true := by
      rw [← ev]
      exact SeqAt.eqAt_reads d d A s v y as bs r1 r2 c c (by have := SeqAt.depth_of_shaped sh; omega)
    exact .hit hy eq (hits_data I hu rb t fun p' hm => hp p' (List.mem_cons_of_mem _ hm))
theorem op_neW (hu : X.A.units + 65 < cLine) : OpR X (compareOp .NotEq) (rNeW X.K) := by
  intro pins s σ H x y v u Q I rx ry h
  rcases h with ⟨rfl, rfl, q⟩ | ⟨a, b, ks, ls, rfl, rfl, ea, eb, hlen, hp, q⟩
  · exact op_ne pins s σ H _ _ v u Q I rx ry ⟨rfl, q⟩
  · obtain rfl : v = Value.ref a := rx
    obtain rfl : u = Value.ref b := ry
    obtain ⟨_, ya, va, ra, da⟩ := dk_of I.hok ea
    obtain ⟨_, yb, vb, rb, db⟩ := dk_of I.hok eb
    have hl : va.length = vb.length := by rw [← ra.length, ← rb.length]; exact hlen
    exact PySem.W.keq_ne (knd := mixKind X.prog X.w) (r := true) ya yb da db (by omega) (fun _ => hits_data (A := X.A.in1) I (by show X.A.units + 1 + 64 < cLine; omega) rb ra hp) (fin_bl I q (by simp [hl]))
theorem call_reprD {k : Nat} (hg : X.A.guards = some []) (hr : Room k X.A) : CallR X (.builtin "repr") (rReprD X.K) := by
  intro pins s σ H xs us Q I r h
  obtain ⟨a, d, rfl, hd, h1, h2, h3, h4, q⟩ := h
  obtain ⟨u, rfl, ru⟩ := vals1 r
  cases ru
  obtain ⟨as, rd⟩ := Dp.reads I d _ _ hd (show RelV (V.ref a) (Value.ref a) from rfl)
  refine repr_of_reads' (h₀ := s.heap) rd h1 (fun z => by rw [h2] at z; cases z) hg (by have := hr.un; omega) (fun _ _ e => e) (fun h' u tk hk => ?_) h4
  exact ⟨.str d.shown, H, I.kept hk, ⟨u, rfl⟩, q⟩
end

/-! ### the words of the promises -/
def Wd (x : Str) : Prop := 1 ≤ x.length ∧ x.length ≤ 8 ∧ ∀ c ∈ x.cps.toList, c ∈ ("abcdefghijklmnopqrstuvwxyz" : Str).cps.toList
/-- names of skills -/
structure Nms (names : List Str) : Prop where
  wd : ∀ n ∈ names, Wd n
  nd : names.Nodup
  lo : 1 ≤ names.length
  hi : names.length ≤ 12
/-- an answer over some names -/
structure An1 (names : List Str) (t : An Str) : Prop where
  ord : t.1 = names.filter fun n => decide (n ∈ t.1)
  sk : t.2.1 ∈ names
  out : t.2.1 ∉ t.1
structure Sn (names : List Str) (seen : List (An Str)) : Prop where
  len : seen.length ≤ 100
  all : ∀ t ∈ seen, An1 names t
def dTs (b : List Str) : PyData := .tuple (b.map PyData.str)
def dLs (b : List Str) : PyData := .list (b.map PyData.str)
def dTri (t : An Str) : PyData := .tuple [dTs t.1, .str t.2.1, .bool t.2.2]
def dNm (k : Bool) (names : List Str) : PyData := sq k (names.map PyData.str)
def dSn (k : Bool) (seen : List (An Str)) : PyData := sq k (seen.map dTri)

def C_is_word : List PyData → PyData → Prop := fun ds d => ∃ x, ds = [.str x] ∧ Wd x ∧ d = .bool true
def C_is_row : List PyData → PyData → Prop := fun ds d => ∃ k l, ds = [sq k l] ∧ d = .bool true
def C_are_unlike : List PyData → PyData → Prop := fun ds d => ∃ k xs, ds = [dNm k xs] ∧ xs.Nodup ∧ xs.length ≤ 100 ∧ d = .bool true
def C_are_words : List PyData → PyData → Prop := fun ds d => ∃ k xs lo hi, ds = [dNm k xs, .int lo, .int hi] ∧ (∀ x ∈ xs, Wd x) ∧ xs.Nodup ∧ lo ≤ (xs.length : Int) ∧ (xs.length : Int) ≤ hi ∧ hi ≤ 100 ∧ d = .bool true
def C_is_build_of : List PyData → PyData → Prop := fun ds d => ∃ k names b, ds = [dNm k names, dTs b] ∧ Nms names ∧ (b = names.filter fun n => decide (n ∈ b)) ∧ d = .bool true
def C_is_triple : List PyData → PyData → Prop := fun ds d => ∃ k names t, ds = [dNm k names, dTri t] ∧ Nms names ∧ An1 names t ∧ d = .bool true
def C_look_at_names : List PyData → PyData → Prop := fun ds d => ∃ k names, ds = [dNm k names] ∧ Nms names ∧ d = .none
def C_are_triples : List PyData → PyData → Prop := fun ds d => ∃ k names j seen, ds = [dNm k names, dSn j seen] ∧ Nms names ∧ Sn names seen ∧ d = .bool true
def C_look_at_seen : List PyData → PyData → Prop := fun ds d => ∃ k names j seen, ds = [dNm k names, dSn j seen] ∧ Nms names ∧ Sn names seen ∧ d = .none
def C_most_wanted : List PyData → PyData → Prop := fun ds d => ∃ k names j seen s, ds = [dNm k names, dSn j seen, .str s] ∧ Nms names ∧ Sn names seen ∧ d = dTs (most names seen s)
def C_refused_rows : List PyData → PyData → Prop := fun ds d => ∃ k names j seen s, ds = [dNm k names, dSn j seen, .str s] ∧ Nms names ∧ Sn names seen ∧ d = .list ((refused names seen s).map dLs)
def C_is_explained : List PyData → PyData → Prop := fun ds d => ∃ k names j seen, ds = [dNm k names, dSn j seen] ∧ Nms names ∧ Sn names seen ∧ d = .bool (explained names seen)
def C_look_at_question : List PyData → PyData → Prop := fun ds d => ∃ k names j seen s, ds = [dNm k names, dSn j seen, .str s] ∧ Nms names ∧ Sn names seen ∧ s ∈ names ∧ d = .none
def C_must : List PyData → PyData → Prop := fun ds d => ∃ k names j seen s, ds = [dNm k names, dSn j seen, .str s] ∧ Nms names ∧ Sn names seen ∧ s ∈ names ∧ d = dLs (mustOf names seen s)
def C_may : List PyData → PyData → Prop := fun ds d => ∃ k names j seen s, ds = [dNm k names, dSn j seen, .str s] ∧ Nms names ∧ Sn names seen ∧ s ∈ names ∧ d = dLs (mayOf names seen s)
def C_next_ask : List PyData → PyData → Prop := fun ds d => ∃ k names j seen s, ds = [dNm k names, dSn j seen, .str s] ∧ Nms names ∧ Sn names seen ∧ s ∈ names ∧ d = .bool (!decide (mayOf names seen s = mustOf names seen s))
def C_L_parts : List PyData → PyData → Prop := fun ds d => ∃ k xs, ds = [dNm k xs] ∧ xs.length ≤ 4 ∧ d = .list ((parts xs).map dTs)
def C_L_fitting : List PyData → PyData → Prop := fun ds d => ∃ k names j seen s, ds = [dNm k names, dSn j seen, .str s] ∧ Nms names ∧ names.length ≤ 4 ∧ Sn names seen ∧ d = .list ((fitting names seen s).map dTs)
def C_L_union : List PyData → PyData → Prop := fun ds d => ∃ k names rows, ds = [dNm k names, .list (rows.map dTs)] ∧ Nms names ∧ rows.length ≤ 100 ∧ (∀ r ∈ rows, ∀ x ∈ r, Wd x) ∧ d = dLs (unionOf names rows)
def C_L_common : List PyData → PyData → Prop := fun ds d => ∃ k names rows, ds = [dNm k names, .list (rows.map dTs)] ∧ Nms names ∧ rows.length ≤ 100 ∧ (∀ r ∈ rows, ∀ x ∈ r, Wd x) ∧ d = dLs (commonOf names rows)
def C_L_twelve : List PyData → PyData → Prop := fun ds d => ds = [] ∧ d = .bool true

abbrev sp_is_word (K : PySem.W.Frag) : Sp := spD K C_is_word
abbrev sp_is_row (K : PySem.W.Frag) : Sp := spD K C_is_row
abbrev sp_are_unlike (K : PySem.W.Frag) : Sp := spD K C_are_unlike
abbrev sp_are_words (K : PySem.W.Frag) : Sp := spD K C_are_words
abbrev sp_is_build_of (K : PySem.W.Frag) : Sp := spD K C_is_build_of
abbrev sp_is_triple (K : PySem.W.Frag) : Sp := spD K C_is_triple
abbrev sp_look_at_names (K : PySem.W.Frag) : Sp := spD K C_look_at_names
abbrev sp_are_triples (K : PySem.W.Frag) : Sp := spD K C_are_triples
abbrev sp_look_at_seen (K : PySem.W.Frag) : Sp := spD K C_look_at_seen
abbrev sp_most_wanted (K : PySem.W.Frag) : Sp := spD K C_most_wanted
abbrev sp_refused_rows (K : PySem.W.Frag) : Sp := spD K C_refused_rows
abbrev sp_is_explained (K : PySem.W.Frag) : Sp := spD K C_is_explained
abbrev sp_look_at_question (K : PySem.W.Frag) : Sp := spD K C_look_at_question
abbrev sp_must (K : PySem.W.Frag) : Sp := spD K C_must
abbrev sp_may (K : PySem.W.Frag) : Sp := spD K C_may
abbrev sp_next_ask (K : PySem.W.Frag) : Sp := spD K C_next_ask
abbrev sp_L_parts (K : PySem.W.Frag) : Sp := spD K C_L_parts
abbrev sp_L_fitting (K : PySem.W.Frag) : Sp := spD K C_L_fitting
abbrev sp_L_union (K : PySem.W.Frag) : Sp := spD K C_L_union
abbrev sp_L_common (K : PySem.W.Frag) : Sp := spD K C_L_common
abbrev sp_L_twelve (K : PySem.W.Frag) : Sp := spD K C_L_twelve
def dMost (names : List Str) (seen : List (An Str)) : List PyData := names.map fun s => dTs (most names seen s)
def sp_greatest_wants (K : PySem.W.Frag) : Sp := fun vs H Q _ => ∃ (M : List Addr) (k : Bool) (names : List Str) (j : Bool) (seen : List (An Str)), Al M H ∧ DaAll K M H vs [dNm k names, dSn j seen] ∧ Nms names ∧ Sn names seen ∧
  (explained names seen = false → ∀ H', Ex H H' → Q .non H') ∧ (explained names seen = true → ∀ v H', Ex H H' → DicAt K M H' v names (dMost names seen) → Q v H')
/-! the pool: two numbers -/
def Pool (H : Hp) (p : Addr) : Prop := ∃ x y : Int, H p = some (.lst [.int x, .int y]) ∧ 0 ≤ x ∧ 0 ≤ y ∧ y < 2147483647
/-- the pool is drawn from: all else stays -/
def Drawn (p : Addr) (H H' : Hp) : Prop := Ex (hide [p] H) (hide [p] H') ∧ Pool H' p
def sp_L_pool (K : PySem.W.Frag) : Sp := fun vs H Q _ => ∃ (a : Addr) (ns : List Int) (k : Nat), vs = [.ref a, .int (k : Int)] ∧ SqL K H a (ns.map V.int) ∧ ns.length ≤ 63 ∧ k ≤ 8 ∧ ∀ p H', H p = none → Ex H H' → Pool H' p → Q (.ref p) H'
def sp_L_take (K : PySem.W.Frag) : Sp := fun vs H Q _ => ∃ (p : Addr) (b : Int), vs = [.ref p, .int b] ∧ Pool H p ∧ 0 < b ∧ b < 1000 ∧ ∀ (r : Nat) H', (r : Int) < b → Drawn p H H' → Q (.int (r : Int)) H'
def sp_L_one (K : PySem.W.Frag) : Sp := fun vs H Q _ => ∃ (M : List Addr) (p : Addr) (v : V) (k : Bool) (ds : List PyData), vs = [.ref p, v] ∧ Pool H p ∧ p ∈ M ∧ Al M H ∧ Da K M H v (sq k ds) ∧ 0 < ds.length ∧ ds.length < 1000 ∧
  ∀ d ∈ ds, ∀ v' H', Drawn p H H' → Da K M H' v' d → Q v' H'
def sp_L_told_names (K : PySem.W.Frag) : Sp := fun vs H Q _ => ∃ (M : List Addr) (p : Addr), vs = [.ref p, .int 4] ∧ Pool H p ∧ p ∈ M ∧ Al M H ∧
  ∀ names, Nms names → names.length ≤ 4 → ∀ v' H', Drawn p H H' → Da K M H' v' (dTs names) → Q v' H'
def sp_L_answers (K : PySem.W.Frag) : Sp := fun vs H Q _ => ∃ (M : List Addr) (p : Addr) (v : V) (names : List Str) (many : Nat), vs = [.ref p, v, .int (many : Int)] ∧ Pool H p ∧ p ∈ M ∧ Al M H ∧ Da K M H v (dTs names) ∧ Nms names ∧ names.length ≤ 4 ∧ many ≤ 10 ∧
  ∀ seen, Sn names seen → seen.length ≤ 10 → ∀ v' H', Drawn p H H' → Da K M H' v' (.list (seen.map dTri)) → Q v' H'
def sp_law (K : PySem.W.Frag) : Sp := fun vs H Q _ => ∃ (a : Addr) (ns : List Int), vs = [.ref a] ∧ SqL K H a (ns.map V.int) ∧ ns.length ≤ 63 ∧ ∀ H', Q (.bl true) H'
end Rt

/-! Printed by gen.py: each def's reading and its walk. -/
namespace Rt
open PySem PyProof.Rows L2 Evl

abbrev s_is_word : Stmt := topS 7
theorem sc_is_word : FnScope ["value", "sign"] ["value"] (defScope s_is_word) := ⟨rfl, rfl, rfl, by decide +kernel, rfl, by decide +kernel, by decide +kernel⟩
def t_is_word (K : PySem.W.Frag) : TS :=
  (tSeq (tIfS (tOr (tNot (tB (tCB (rIsi K) (tCons (tVar 0) (tCons (tC (.ty "str")) tNil))))) (tNot (tTest (tChain (rI0 fun i j => .bl (decide (i ≤ j))) (rI0 fun i j => .bl (decide (i ≤ j))) (tC (.int 1)) (tCB (rLenV K) (tCons (tVar 0) tNil)) (tC (.int 8)))))) (tRet (tC (.bl false))) tNext)
    (tRet (tCB (rAll K) (tCons (tLc (iStr (tVar 0)) (gName 1) tYes (tOp rInSign (tVar 1) (tC (.str "abcdefghijklmnopqrstuvwxyz"))) [1]) tNil))))
theorem w_is_word {P : Program} {w : World} {K : PySem.W.Frag} {mg : Str → Option Value} {base : Heap} {f : Addr} {cdv : Value} {A : Around} {outer : List Env} {s : Shared} {H : Hp} {E : XK}
    (hr : Room 0 (A.deeper (envOfC "is_word" (defScope s_is_word) s.heap.objs.size f cdv))) (T : Txt K mg)  :
    PSs (cxOf CX0 P w K mg base ["value", "sign"] "is_word" (defScope s_is_word) f cdv A outer s H E).nox (defBody s_is_word) (t_is_word K) :=
  (pss_cons (ps_if (PW.pt (pw_or (pt_not (pt_val (pe_callB call_isi (by rfl) T.isinstance_ (by decide +kernel) (pa_cons (pv 0) (pa_cons (pe_bltn (v := .ty "str") (by rfl) T.str_ (by decide +kernel) rfl) pa_nil))))) (pw_or1 (pt_not (pt_chain op_le op_le pe_int (pe_callB call_len (by rfl) T.len_ (by decide +kernel) (pa_cons (pv 0) pa_nil)) (pe_gint T.MOST_LETTERS (by rfl))))))) (pss_one (ps_ret pe_bl)) pss_nil)
      (pss_one (ps_ret (pe_callB (cr_all rfl) (by rfl) T.all_ (by decide +kernel) (pa_cons (pe_lc (own := [("sign", 1)]) rfl sc_is_word.nd (pi_str (pv 0)) (blkOk_by (by kernel_rfl)) (fun _ _ _ _ _ => (pgn 1 sc_is_word.nd)) (fun _ _ _ _ _ => pts_nil) (fun _ _ _ _ _ => (pe_cmpR op_in_sign (pv 1) (pe_gstr T.LETTERS (by rfl)) (by rfl)))) pa_nil)))))
abbrev s_is_row : Stmt := topS 8
theorem sc_is_row : FnScope ["value"] ["value"] (defScope s_is_row) := ⟨rfl, rfl, rfl, by decide +kernel, rfl, by decide +kernel, by decide +kernel⟩
def t_is_row (K : PySem.W.Frag) : TS :=
  (tRet (tCB (rIsiT K) (tCons (tVar 0) (tCons (tTup (tCons (tC (.ty "list")) (tCons (tC (.ty "tuple")) tNil))) tNil))))
theorem w_is_row {P : Program} {w : World} {K : PySem.W.Frag} {mg : Str → Option Value} {base : Heap} {f : Addr} {cdv : Value} {A : Around} {outer : List Env} {s : Shared} {H : Hp} {E : XK}
    (hr : Room 0 (A.deeper (envOfC "is_row" (defScope s_is_row) s.heap.objs.size f cdv))) (T : Txt K mg)  :
    PSs (cxOf CX0 P w K mg base ["value"] "is_row" (defScope s_is_row) f cdv A outer s H E).nox (defBody s_is_row) (t_is_row K) :=
  (pss_one (ps_ret (pe_callB call_isiT (by rfl) T.isinstance_ (by decide +kernel) (pa_cons (pv 0) (pa_cons (pe_tup (pa_cons (pe_bltn (v := .ty "list") (by rfl) T.list_ (by decide +kernel) rfl) (pa_cons (pe_bltn (v := .ty "tuple") (by rfl) T.tuple_ (by decide +kernel) rfl) pa_nil))) pa_nil)))))
abbrev s_are_unlike : Stmt := topS 9
theorem sc_are_unlike : FnScope ["some", "one"] ["some"] (defScope s_are_unlike) := ⟨rfl, rfl, rfl, by decide +kernel, rfl, by decide +kernel, by decide +kernel⟩
def t_are_unlike (K : PySem.W.Frag) : TS :=
  (tRet (tOp rEq (tCB rLenD (tCons (tDc (iSeq K (tVar 0)) (gName 1) tYes (tVar 1) (tC (.bl true)) [1]) tNil)) (tCB (rLenV K) (tCons (tVar 0) tNil))))
theorem w_are_unlike {P : Program} {w : World} {K : PySem.W.Frag} {mg : Str → Option Value} {base : Heap} {f : Addr} {cdv : Value} {A : Around} {outer : List Env} {s : Shared} {H : Hp} {E : XK}
    (hr : Room 0 (A.deeper (envOfC "are_unlike" (defScope s_are_unlike) s.heap.objs.size f cdv))) (T : Txt K mg)  :
    PSs (cxOf CX0 P w K mg base ["some", "one"] "are_unlike" (defScope s_are_unlike) f cdv A outer s H E).nox (defBody s_are_unlike) (t_are_unlike K) :=
  (pss_one (ps_ret (pe_cmpR op_eq (pe_callB call_lenD (by rfl) T.len_ (by decide +kernel) (pa_cons (pe_dc (own := [("one", 1)]) rfl sc_are_unlike.nd (pi_seq (pv 0)) (blkOk_by (by kernel_rfl)) (fun _ _ _ _ _ => (pgn 1 sc_are_unlike.nd)) (fun _ _ _ _ _ => pts_nil) (fun _ _ _ _ _ => (pv 1)) (fun _ _ _ _ _ => pe_bl)) pa_nil)) (pe_callB call_len (by rfl) T.len_ (by decide +kernel) (pa_cons (pv 0) pa_nil)) (nomark _))))
abbrev s_are_words : Stmt := topS 10
theorem sc_are_words : FnScope ["value", "low", "high", "word"] ["value", "low", "high"] (defScope s_are_words) := ⟨rfl, rfl, rfl, by decide +kernel, rfl, by decide +kernel, by decide +kernel⟩
def t_are_words (K : PySem.W.Frag) : TS :=
  (tSeq (tIfS (tOr (tNot (tB (tCall (sp_is_row K) [] E0 (tCons (tVar 0) tNil)))) (tOr (tNot (tTest (tChain (rI0 fun i j => .bl (decide (i ≤ j))) (rI0 fun i j => .bl (decide (i ≤ j))) (tVar 1) (tCB (rLenV K) (tCons (tVar 0) tNil)) (tVar 2)))) (tNot (tB (tCB (rAll K) (tCons (tLc (iSeq K (tVar 0)) (gName 3) tYes (tCall (sp_is_word K) [] E0 (tCons (tVar 3) tNil)) [3]) tNil)))))) (tRet (tC (.bl false))) tNext)
    (tRet (tCall (sp_are_unlike K) [] E0 (tCons (tVar 0) tNil))))
theorem w_are_words {P : Program} {w : World} {K : PySem.W.Frag} {mg : Str → Option Value} {base : Heap} {f : Addr} {cdv : Value} {A : Around} {outer : List Env} {s : Shared} {H : Hp} {E : XK}
    (hr : Room 1 (A.deeper (envOfC "are_words" (defScope s_are_words) s.heap.objs.size f cdv))) (T : Txt K mg) (D_are_unlike : Df P w K mg base 1 "are_unlike" ["some"] (sp_are_unlike K)) (D_is_word : Df P w K mg base 1 "is_word" ["value"] (sp_is_word K)) (D_is_row : Df P w K mg base 1 "is_row" ["value"] (sp_is_row K)) :
    PSs (cxOf CX0 P w K mg base ["value", "low", "high", "word"] "are_words" (defScope s_are_words) f cdv A outer s H E).nox (defBody s_are_words) (t_are_words K) :=
  (pss_cons (ps_if (PW.pt (pw_or (pt_not (pt_val (pe_df D_is_row (hr.mono (by decide)) (by rfl) (pa_cons (pv 0) pa_nil)))) (pw_or (pt_not (pt_chain op_le op_le (pv 1) (pe_callB call_len (by rfl) T.len_ (by decide +kernel) (pa_cons (pv 0) pa_nil)) (pv 2))) (pw_or1 (pt_not (pt_val (pe_callB (cr_all rfl) (by rfl) T.all_ (by decide +kernel) (pa_cons (pe_lc (own := [("word", 3)]) rfl sc_are_words.nd (pi_seq (pv 0)) (blkOk_by (by kernel_rfl)) (fun _ _ _ _ _ => (pgn 3 sc_are_words.nd)) (fun _ _ _ _ _ => pts_nil) (fun _ _ _ _ _ => (pe_df D_is_word (hr.mono (by decide)) (by rfl) (pa_cons (pv 3) pa_nil)))) pa_nil)))))))) (pss_one (ps_ret pe_bl)) pss_nil)
      (pss_one (ps_ret (pe_df D_are_unlike (hr.mono (by decide)) (by rfl) (pa_cons (pv 0) pa_nil)))))
abbrev s_is_build_of : Stmt := topS 13
theorem sc_is_build_of : FnScope ["names", "value", "name"] ["names", "value"] (defScope s_is_build_of) := ⟨rfl, rfl, rfl, by decide +kernel, rfl, by decide +kernel, by decide +kernel⟩
def t_is_build_of (K : PySem.W.Frag) : TS :=
  (tSeq (tIfS (tOr (tNot (tB (tCB (rIsi K) (tCons (tVar 1) (tCons (tC (.ty "tuple")) tNil))))) (tNot (tB (tCB (rAll K) (tCons (tLc (iSeq K (tVar 1)) (gName 2) tYes (tCall (sp_is_word K) [] E0 (tCons (tVar 2) tNil)) [2]) tNil))))) (tRet (tC (.bl false))) tNext)
    (tRet (tOp (rEqD K) (tVar 1) (tCB (rTupleOf K) (tCons (tLc (iSeq K (tVar 0)) (gName 2) (tTest (tOp (rIn K false) (tVar 2) (tVar 1))) (tVar 2) [2]) tNil)))))
theorem w_is_build_of {P : Program} {w : World} {K : PySem.W.Frag} {mg : Str → Option Value} {base : Heap} {f : Addr} {cdv : Value} {A : Around} {outer : List Env} {s : Shared} {H : Hp} {E : XK}
    (hr : Room 1 (A.deeper (envOfC "is_build_of" (defScope s_is_build_of) s.heap.objs.size f cdv))) (T : Txt K mg) (D_is_word : Df P w K mg base 1 "is_word" ["value"] (sp_is_word K)) :
    PSs (cxOf CX0 P w K mg base ["names", "value", "name"] "is_build_of" (defScope s_is_build_of) f cdv A outer s H E).nox (defBody s_is_build_of) (t_is_build_of K) :=
  (pss_cons (ps_if (PW.pt (pw_or (pt_not (pt_val (pe_callB call_isi (by rfl) T.isinstance_ (by decide +kernel) (pa_cons (pv 1) (pa_cons (pe_bltn (v := .ty "tuple") (by rfl) T.tuple_ (by decide +kernel) rfl) pa_nil))))) (pw_or1 (pt_not (pt_val (pe_callB (cr_all rfl) (by rfl) T.all_ (by decide +kernel) (pa_cons (pe_lc (own := [("name", 2)]) rfl sc_is_build_of.nd (pi_seq (pv 1)) (blkOk_by (by kernel_rfl)) (fun _ _ _ _ _ => (pgn 2 sc_is_build_of.nd)) (fun _ _ _ _ _ => pts_nil) (fun _ _ _ _ _ => (pe_df D_is_word (hr.mono (by decide)) (by rfl) (pa_cons (pv 2) pa_nil)))) pa_nil))))))) (pss_one (ps_ret pe_bl)) pss_nil)
      (pss_one (ps_ret (pe_cmpR (op_eqD hr.units) (pv 1) (pe_callTy call_tuple_of (by rfl) T.tuple_ (by decide +kernel) (pa_cons (pe_lc (own := [("name", 2)]) rfl sc_is_build_of.nd (pi_seq (pv 0)) (blkOk_by (by kernel_rfl)) (fun _ _ _ _ _ => (pgn 2 sc_is_build_of.nd)) (fun _ _ _ _ _ => pts_one (pt_cmpR op_in_seq (pv 2) (pv 1) (by rfl))) (fun _ _ _ _ _ => (pv 2))) pa_nil)) (nomark _)))))
abbrev s_is_triple : Stmt := topS 14
theorem sc_is_triple : FnScope ["names", "value"] ["names", "value"] (defScope s_is_triple) := ⟨rfl, rfl, rfl, by decide +kernel, rfl, by decide +kernel, by decide +kernel⟩
def t_is_triple (K : PySem.W.Frag) : TS :=
  (tSeq (tIfS (tOr (tNot (tB (tCB (rIsi K) (tCons (tVar 1) (tCons (tC (.ty "tuple")) tNil))))) (tOr (tTest (tOp rNe (tCB (rLenV K) (tCons (tVar 1) tNil)) (tC (.int 3)))) (tNot (tB (tCall (sp_is_build_of K) [] E0 (tCons (tVar 0) (tCons (tOp (rIx K) (tVar 1) (tC (.int 0))) tNil))))))) (tRet (tC (.bl false))) tNext)
    (tRet (tAndV (tCall (sp_is_word K) [] E0 (tCons (tOp (rIx K) (tVar 1) (tC (.int 1))) tNil)) (tAndV (tOp (rIn K false) (tOp (rIx K) (tVar 1) (tC (.int 1))) (tVar 0)) (tAndV (tOp (rIn K true) (tOp (rIx K) (tVar 1) (tC (.int 1))) (tOp (rIx K) (tVar 1) (tC (.int 0)))) (tCB (rIsi K) (tCons (tOp (rIx K) (tVar 1) (tC (.int 2))) (tCons (tC (.ty "bool")) tNil))))))))
theorem w_is_triple {P : Program} {w : World} {K : PySem.W.Frag} {mg : Str → Option Value} {base : Heap} {f : Addr} {cdv : Value} {A : Around} {outer : List Env} {s : Shared} {H : Hp} {E : XK}
    (hr : Room 2 (A.deeper (envOfC "is_triple" (defScope s_is_triple) s.heap.objs.size f cdv))) (T : Txt K mg) (D_is_word : Df P w K mg base 1 "is_word" ["value"] (sp_is_word K)) (D_is_build_of : Df P w K mg base 2 "is_build_of" ["names", "value"] (sp_is_build_of K)) :
    PSs (cxOf CX0 P w K mg base ["names", "value"] "is_triple" (defScope s_is_triple) f cdv A outer s H E).nox (defBody s_is_triple) (t_is_triple K) :=
  (pss_cons (ps_if (PW.pt (pw_or (pt_not (pt_val (pe_callB call_isi (by rfl) T.isinstance_ (by decide +kernel) (pa_cons (pv 1) (pa_cons (pe_bltn (v := .ty "tuple") (by rfl) T.tuple_ (by decide +kernel) rfl) pa_nil))))) (pw_or (pt_cmpR op_ne (pe_callB call_len (by rfl) T.len_ (by decide +kernel) (pa_cons (pv 1) pa_nil)) pe_int (nomark _)) (pw_or1 (pt_not (pt_val (pe_df D_is_build_of (hr.mono (by decide)) (by rfl) (pa_cons (pv 0) (pa_cons (pe_ix ix_seq (pv 1) pe_int (fun _ _ => rfl)) pa_nil))))))))) (pss_one (ps_ret pe_bl)) pss_nil)
      (pss_one (ps_ret (pe_and (pe_df D_is_word (hr.mono (by decide)) (by rfl) (pa_cons (pe_ix ix_seq (pv 1) pe_int (fun _ _ => rfl)) pa_nil)) (pe_and (pe_cmpR op_in_seq (pe_ix ix_seq (pv 1) pe_int (fun _ _ => rfl)) (pv 0) (by rfl)) (pe_and (pe_cmpR op_notIn_seq (pe_ix ix_seq (pv 1) pe_int (fun _ _ => rfl)) (pe_ix ix_seq (pv 1) pe_int (fun _ _ => rfl)) (by rfl)) (pe_one (pe_callB call_isi (by rfl) T.isinstance_ (by decide +kernel) (pa_cons (pe_ix ix_seq (pv 1) pe_int (fun _ _ => rfl)) (pa_cons (pe_bltn (v := .ty "bool") (by rfl) T.bool_ (by decide +kernel) rfl) pa_nil))))))))))
abbrev s_look_at_names : Stmt := topS 15
theorem sc_look_at_names : FnScope ["names"] ["names"] (defScope s_look_at_names) := ⟨rfl, rfl, rfl, by decide +kernel, rfl, by decide +kernel, by decide +kernel⟩
def t_look_at_names (K : PySem.W.Frag) : TS :=
  (tIfS (tNot (tB (tCall (sp_are_words K) [] E0 (tCons (tVar 0) (tCons (tC (.int 1)) (tCons (tC (.int 12)) tNil)))))) tNever tNext)
theorem w_look_at_names {P : Program} {w : World} {K : PySem.W.Frag} {mg : Str → Option Value} {base : Heap} {f : Addr} {cdv : Value} {A : Around} {outer : List Env} {s : Shared} {H : Hp} {E : XK}
    (hr : Room 2 (A.deeper (envOfC "look_at_names" (defScope s_look_at_names) s.heap.objs.size f cdv))) (T : Txt K mg) (D_are_words : Df P w K mg base 2 "are_words" ["value", "low", "high"] (sp_are_words K)) :
    PSs (cxOf CX0 P w K mg base ["names"] "look_at_names" (defScope s_look_at_names) f cdv A outer s H E).nox (defBody s_look_at_names) (t_look_at_names K) :=
  (pss_one (ps_if (pt_not (pt_val (pe_df D_are_words (hr.mono (by decide)) (by rfl) (pa_cons (pv 0) (pa_cons pe_int (pa_cons (pe_gint T.MOST_SKILLS (by rfl)) pa_nil)))))) pss_never pss_nil))
abbrev s_are_triples : Stmt := topS 16
theorem sc_are_triples : FnScope ["names", "value", "triple"] ["names", "value"] (defScope s_are_triples) := ⟨rfl, rfl, rfl, by decide +kernel, rfl, by decide +kernel, by decide +kernel⟩
def t_are_triples (K : PySem.W.Frag) : TS :=
  (tRet (tAndV (tCall (sp_is_row K) [] E0 (tCons (tVar 1) tNil)) (tCB (rAll K) (tCons (tLc (iSeq K (tVar 1)) (gName 2) tYes (tCall (sp_is_triple K) [] E0 (tCons (tVar 0) (tCons (tVar 2) tNil))) [2]) tNil))))
theorem w_are_triples {P : Program} {w : World} {K : PySem.W.Frag} {mg : Str → Option Value} {base : Heap} {f : Addr} {cdv : Value} {A : Around} {outer : List Env} {s : Shared} {H : Hp} {E : XK}
    (hr : Room 3 (A.deeper (envOfC "are_triples" (defScope s_are_triples) s.heap.objs.size f cdv))) (T : Txt K mg) (D_is_triple : Df P w K mg base 3 "is_triple" ["names", "value"] (sp_is_triple K)) (D_is_row : Df P w K mg base 1 "is_row" ["value"] (sp_is_row K)) :
    PSs (cxOf CX0 P w K mg base ["names", "value", "triple"] "are_triples" (defScope s_are_triples) f cdv A outer s H E).nox (defBody s_are_triples) (t_are_triples K) :=
  (pss_one (ps_ret (pe_and (pe_df D_is_row (hr.mono (by decide)) (by rfl) (pa_cons (pv 1) pa_nil)) (pe_one (pe_callB (cr_all rfl) (by rfl) T.all_ (by decide +kernel) (pa_cons (pe_lc (own := [("triple", 2)]) rfl sc_are_triples.nd (pi_seq (pv 1)) (blkOk_by (by kernel_rfl)) (fun _ _ _ _ _ => (pgn 2 sc_are_triples.nd)) (fun _ _ _ _ _ => pts_nil) (fun _ _ _ _ _ => (pe_df D_is_triple (hr.mono (by decide)) (by rfl) (pa_cons (pv 0) (pa_cons (pv 2) pa_nil))))) pa_nil))))))
abbrev s_look_at_seen : Stmt := topS 17
theorem sc_look_at_seen : FnScope ["names", "seen"] ["names", "seen"] (defScope s_look_at_seen) := ⟨rfl, rfl, rfl, by decide +kernel, rfl, by decide +kernel, by decide +kernel⟩
def t_look_at_seen (K : PySem.W.Frag) : TS :=
  (tSeq (tDrop (tCall (sp_look_at_names K) [] E0 (tCons (tVar 0) tNil)))
    (tIfS (tNot (tB (tCall (sp_are_triples K) [] E0 (tCons (tVar 0) (tCons (tVar 1) tNil))))) tNever tNext))
theorem w_look_at_seen {P : Program} {w : World} {K : PySem.W.Frag} {mg : Str → Option Value} {base : Heap} {f : Addr} {cdv : Value} {A : Around} {outer : List Env} {s : Shared} {H : Hp} {E : XK}
    (hr : Room 4 (A.deeper (envOfC "look_at_seen" (defScope s_look_at_seen) s.heap.objs.size f cdv))) (T : Txt K mg) (D_are_triples : Df P w K mg base 4 "are_triples" ["names", "value"] (sp_are_triples K)) (D_look_at_names : Df P w K mg base 3 "look_at_names" ["names"] (sp_look_at_names K)) :
    PSs (cxOf CX0 P w K mg base ["names", "seen"] "look_at_seen" (defScope s_look_at_seen) f cdv A outer s H E).nox (defBody s_look_at_seen) (t_look_at_seen K) :=
  (pss_cons (ps_expr (pe_df D_look_at_names (hr.mono (by decide)) (by rfl) (pa_cons (pv 0) pa_nil)))
      (pss_one (ps_if (pt_not (pt_val (pe_df D_are_triples (hr.mono (by decide)) (by rfl) (pa_cons (pv 0) (pa_cons (pv 1) pa_nil))))) pss_never pss_nil)))
abbrev s_most_wanted : Stmt := topS 18
theorem sc_most_wanted : FnScope ["names", "seen", "skill", "rows", "build", "one", "let", "name"] ["names", "seen", "skill"] (defScope s_most_wanted) := ⟨rfl, rfl, rfl, by decide +kernel, rfl, by decide +kernel, by decide +kernel⟩
def t_most_wanted (K : PySem.W.Frag) : TS :=
  (tSeq (tAsg (tLc (iSeq K (tVar 1)) (gTup K 3 (gCons (gName 4) (gCons (gName 5) (gCons (gName 6) gNil)))) (tAnd (tTest (tOp rEq (tVar 5) (tVar 2))) (tB (tVar 6))) (tVar 4) [4, 5, 6]) (gName 3))
    (tRet (tCB (rTupleOf K) (tCons (tLc (iSeq K (tVar 0)) (gName 7) (tAnd (tTest (tOp rNe (tVar 7) (tVar 2))) (tB (tCB (rAll K) (tCons (tLc (iSeq K (tVar 3)) (gName 4) tYes (tOp (rIn K false) (tVar 7) (tVar 4)) [4]) tNil)))) (tVar 7) [7]) tNil))))
theorem w_most_wanted {P : Program} {w : World} {K : PySem.W.Frag} {mg : Str → Option Value} {base : Heap} {f : Addr} {cdv : Value} {A : Around} {outer : List Env} {s : Shared} {H : Hp} {E : XK}
    (hr : Room 0 (A.deeper (envOfC "most_wanted" (defScope s_most_wanted) s.heap.objs.size f cdv))) (T : Txt K mg)  :
    PSs (cxOf CX0 P w K mg base ["names", "seen", "skill", "rows", "build", "one", "let", "name"] "most_wanted" (defScope s_most_wanted) f cdv A outer s H E).nox (defBody s_most_wanted) (t_most_wanted K) :=
  (pss_cons (psn 3 sc_most_wanted.nd (pe_lc (own := [("build", 4), ("one", 5), ("let", 6)]) rfl sc_most_wanted.nd (pi_seq (pv 1)) (blkOk_by (by kernel_rfl)) (fun _ _ _ _ _ => (pg_tup rfl (pgs_cons (pgn 4 sc_most_wanted.nd) (pgs_cons (pgn 5 sc_most_wanted.nd) (pgs_cons (pgn 6 sc_most_wanted.nd) pgs_nil))))) (fun _ _ _ _ _ => pts_one (PW.pt (pw_and (pt_cmpR op_eq (pv 5) (pv 2) (nomark _)) (pw_and1 (pt_val (pv 6)))))) (fun _ _ _ _ _ => (pv 4))))
      (pss_one (ps_ret (pe_callTy call_tuple_of (by rfl) T.tuple_ (by decide +kernel) (pa_cons (pe_lc (own := [("name", 7)]) rfl sc_most_wanted.nd (pi_seq (pv 0)) (blkOk_by (by kernel_rfl)) (fun _ _ _ _ _ => (pgn 7 sc_most_wanted.nd)) (fun _ _ _ _ _ => pts_one (PW.pt (pw_and (pt_cmpR op_ne (pv 7) (pv 2) (nomark _)) (pw_and1 (pt_val (pe_callB (cr_all rfl) (by rfl) T.all_ (by decide +kernel) (pa_cons (pe_lc (own := [("build", 4)]) rfl sc_most_wanted.nd (pi_seq (pv 3)) (blkOk_by (by kernel_rfl)) (fun _ _ _ _ _ => (pgn 4 sc_most_wanted.nd)) (fun _ _ _ _ _ => pts_nil) (fun _ _ _ _ _ => (pe_cmpR op_in_seq (pv 7) (pv 4) (by rfl)))) pa_nil))))))) (fun _ _ _ _ _ => (pv 7))) pa_nil)))))
abbrev s_refused_rows : Stmt := topS 19
theorem sc_refused_rows : FnScope ["names", "seen", "skill", "most", "name", "build", "one", "let"] ["names", "seen", "skill"] (defScope s_refused_rows) := ⟨rfl, rfl, rfl, by decide +kernel, rfl, by decide +kernel, by decide +kernel⟩
def t_refused_rows (K : PySem.W.Frag) : TS :=
  (tSeq (tAsg (tCall (sp_most_wanted K) [] E0 (tCons (tVar 0) (tCons (tVar 1) (tCons (tVar 2) tNil)))) (gName 3))
    (tRet (tLc (iSeq K (tVar 1)) (gTup K 3 (gCons (gName 5) (gCons (gName 6) (gCons (gName 7) gNil)))) (tAnd (tTest (tOp rEq (tVar 6) (tVar 2))) (tNot (tB (tVar 7)))) (tLc (iSeq K (tVar 3)) (gName 4) (tTest (tOp (rIn K true) (tVar 4) (tVar 5))) (tVar 4) [4]) [5, 6, 7])))
theorem w_refused_rows {P : Program} {w : World} {K : PySem.W.Frag} {mg : Str → Option Value} {base : Heap} {f : Addr} {cdv : Value} {A : Around} {outer : List Env} {s : Shared} {H : Hp} {E : XK}
    (hr : Room 1 (A.deeper (envOfC "refused_rows" (defScope s_refused_rows) s.heap.objs.size f cdv))) (T : Txt K mg) (D_most_wanted : Df P w K mg base 1 "most_wanted" ["names", "seen", "skill"] (sp_most_wanted K)) :
    PSs (cxOf CX0 P w K mg base ["names", "seen", "skill", "most", "name", "build", "one", "let"] "refused_rows" (defScope s_refused_rows) f cdv A outer s H E).nox (defBody s_refused_rows) (t_refused_rows K) :=
  (pss_cons (psn 3 sc_refused_rows.nd (pe_df D_most_wanted (hr.mono (by decide)) (by rfl) (pa_cons (pv 0) (pa_cons (pv 1) (pa_cons (pv 2) pa_nil)))))
      (pss_one (ps_ret (pe_lc (own := [("build", 5), ("one", 6), ("let", 7)]) rfl sc_refused_rows.nd (pi_seq (pv 1)) (blkOk_by (by kernel_rfl)) (fun _ _ _ _ _ => (pg_tup rfl (pgs_cons (pgn 5 sc_refused_rows.nd) (pgs_cons (pgn 6 sc_refused_rows.nd) (pgs_cons (pgn 7 sc_refused_rows.nd) pgs_nil))))) (fun _ _ _ _ _ => pts_one (PW.pt (pw_and (pt_cmpR op_eq (pv 6) (pv 2) (nomark _)) (pw_and1 (pt_not (pt_val (pv 7))))))) (fun _ _ _ _ _ => (pe_lc (own := [("name", 4)]) rfl sc_refused_rows.nd (pi_seq (pv 3)) (blkOk_by (by kernel_rfl)) (fun _ _ _ _ _ => (pgn 4 sc_refused_rows.nd)) (fun _ _ _ _ _ => pts_one (pt_cmpR op_notIn_seq (pv 4) (pv 5) (by rfl))) (fun _ _ _ _ _ => (pv 4))))))))
abbrev s_is_explained : Stmt := topS 20
theorem sc_is_explained : FnScope ["names", "seen", "skill"] ["names", "seen"] (defScope s_is_explained) := ⟨rfl, rfl, rfl, by decide +kernel, rfl, by decide +kernel, by decide +kernel⟩
def t_is_explained (K : PySem.W.Frag) : TS :=
  (tRet (tNotV (tCB (rAny K) (tCons (tLc (iSeq K (tVar 0)) (gName 2) tYes (tOp (rInD K) (tLst tNil) (tCall (sp_refused_rows K) [] E0 (tCons (tVar 0) (tCons (tVar 1) (tCons (tVar 2) tNil))))) [2]) tNil))))
theorem w_is_explained {P : Program} {w : World} {K : PySem.W.Frag} {mg : Str → Option Value} {base : Heap} {f : Addr} {cdv : Value} {A : Around} {outer : List Env} {s : Shared} {H : Hp} {E : XK}
    (hr : Room 2 (A.deeper (envOfC "is_explained" (defScope s_is_explained) s.heap.objs.size f cdv))) (T : Txt K mg) (D_refused_rows : Df P w K mg base 2 "refused_rows" ["names", "seen", "skill"] (sp_refused_rows K)) :
    PSs (cxOf CX0 P w K mg base ["names", "seen", "skill"] "is_explained" (defScope s_is_explained) f cdv A outer s H E).nox (defBody s_is_explained) (t_is_explained K) :=
  (pss_one (ps_ret (pe_not (pe_callB (cr_any rfl) (by rfl) T.any_ (by decide +kernel) (pa_cons (pe_lc (own := [("skill", 2)]) rfl sc_is_explained.nd (pi_seq (pv 0)) (blkOk_by (by kernel_rfl)) (fun _ _ _ _ _ => (pgn 2 sc_is_explained.nd)) (fun _ _ _ _ _ => pts_nil) (fun _ _ _ _ _ => (pe_cmpR (op_inD (room65 hr)) (pe_lst pa_nil) (pe_df D_refused_rows (hr.mono (by decide)) (by rfl) (pa_cons (pv 0) (pa_cons (pv 1) (pa_cons (pv 2) pa_nil)))) (by rfl)))) pa_nil)))))
abbrev s_greatest_wants : Stmt := topS 21
theorem sc_greatest_wants : FnScope ["names", "seen", "skill"] ["names", "seen"] (defScope s_greatest_wants) := ⟨rfl, rfl, rfl, by decide +kernel, rfl, by decide +kernel, by decide +kernel⟩
def t_greatest_wants (K : PySem.W.Frag) : TS :=
  (tSeq (tDrop (tCall (sp_look_at_seen K) [] E0 (tCons (tVar 0) (tCons (tVar 1) tNil))))
    (tSeq (tIfS (tNot (tB (tCall (sp_is_explained K) [] E0 (tCons (tVar 0) (tCons (tVar 1) tNil))))) (tRet (tC .non)) tNext)
    (tRet (tDc (iSeq K (tVar 0)) (gName 2) tYes (tVar 2) (tCall (sp_most_wanted K) [] E0 (tCons (tVar 0) (tCons (tVar 1) (tCons (tVar 2) tNil)))) [2]))))
theorem w_greatest_wants {P : Program} {w : World} {K : PySem.W.Frag} {mg : Str → Option Value} {base : Heap} {f : Addr} {cdv : Value} {A : Around} {outer : List Env} {s : Shared} {H : Hp} {E : XK}
    (hr : Room 5 (A.deeper (envOfC "greatest_wants" (defScope s_greatest_wants) s.heap.objs.size f cdv))) (T : Txt K mg) (D_most_wanted : Df P w K mg base 1 "most_wanted" ["names", "seen", "skill"] (sp_most_wanted K)) (D_is_explained : Df P w K mg base 3 "is_explained" ["names", "seen"] (sp_is_explained K)) (D_look_at_seen : Df P w K mg base 5 "look_at_seen" ["names", "seen"] (sp_look_at_seen K)) :
    PSs (cxOf CX0 P w K mg base ["names", "seen", "skill"] "greatest_wants" (defScope s_greatest_wants) f cdv A outer s H E).nox (defBody s_greatest_wants) (t_greatest_wants K) :=
  (pss_cons (ps_expr (pe_df D_look_at_seen (hr.mono (by decide)) (by rfl) (pa_cons (pv 0) (pa_cons (pv 1) pa_nil))))
      (pss_cons (ps_if (pt_not (pt_val (pe_df D_is_explained (hr.mono (by decide)) (by rfl) (pa_cons (pv 0) (pa_cons (pv 1) pa_nil))))) (pss_one (ps_ret pe_non)) pss_nil)
      (pss_one (ps_ret (pe_dc (own := [("skill", 2)]) rfl sc_greatest_wants.nd (pi_seq (pv 0)) (blkOk_by (by kernel_rfl)) (fun _ _ _ _ _ => (pgn 2 sc_greatest_wants.nd)) (fun _ _ _ _ _ => pts_nil) (fun _ _ _ _ _ => (pv 2)) (fun _ _ _ _ _ => (pe_df D_most_wanted (hr.mono (by decide)) (by rfl) (pa_cons (pv 0) (pa_cons (pv 1) (pa_cons (pv 2) pa_nil))))))))))
abbrev s_look_at_question : Stmt := topS 22
theorem sc_look_at_question : FnScope ["names", "seen", "skill"] ["names", "seen", "skill"] (defScope s_look_at_question) := ⟨rfl, rfl, rfl, by decide +kernel, rfl, by decide +kernel, by decide +kernel⟩
def t_look_at_question (K : PySem.W.Frag) : TS :=
  (tSeq (tDrop (tCall (sp_look_at_seen K) [] E0 (tCons (tVar 0) (tCons (tVar 1) tNil))))
    (tIfS (tOr (tNot (tB (tCall (sp_is_word K) [] E0 (tCons (tVar 2) tNil)))) (tTest (tOp (rIn K true) (tVar 2) (tVar 0)))) tNever tNext))
theorem w_look_at_question {P : Program} {w : World} {K : PySem.W.Frag} {mg : Str → Option Value} {base : Heap} {f : Addr} {cdv : Value} {A : Around} {outer : List Env} {s : Shared} {H : Hp} {E : XK}
    (hr : Room 5 (A.deeper (envOfC "look_at_question" (defScope s_look_at_question) s.heap.objs.size f cdv))) (T : Txt K mg) (D_is_word : Df P w K mg base 1 "is_word" ["value"] (sp_is_word K)) (D_look_at_seen : Df P w K mg base 5 "look_at_seen" ["names", "seen"] (sp_look_at_seen K)) :
    PSs (cxOf CX0 P w K mg base ["names", "seen", "skill"] "look_at_question" (defScope s_look_at_question) f cdv A outer s H E).nox (defBody s_look_at_question) (t_look_at_question K) :=
  (pss_cons (ps_expr (pe_df D_look_at_seen (hr.mono (by decide)) (by rfl) (pa_cons (pv 0) (pa_cons (pv 1) pa_nil))))
      (pss_one (ps_if (PW.pt (pw_or (pt_not (pt_val (pe_df D_is_word (hr.mono (by decide)) (by rfl) (pa_cons (pv 2) pa_nil)))) (pw_or1 (pt_cmpR op_notIn_seq (pv 2) (pv 0) (by rfl))))) pss_never pss_nil)))
abbrev s_must : Stmt := topS 23
theorem sc_must : FnScope ["names", "seen", "skill", "rows", "name"] ["names", "seen", "skill"] (defScope s_must) := ⟨rfl, rfl, rfl, by decide +kernel, rfl, by decide +kernel, by decide +kernel⟩
def t_must (K : PySem.W.Frag) : TS :=
  (tSeq (tDrop (tCall (sp_look_at_question K) [] E0 (tCons (tVar 0) (tCons (tVar 1) (tCons (tVar 2) tNil)))))
    (tSeq (tIfS (tNot (tB (tCall (sp_is_explained K) [] E0 (tCons (tVar 0) (tCons (tVar 1) tNil))))) (tRet (tLst tNil)) tNext)
    (tSeq (tAsg (tCall (sp_refused_rows K) [] E0 (tCons (tVar 0) (tCons (tVar 1) (tCons (tVar 2) tNil)))) (gName 3))
    (tRet (tLc (iSeq K (tVar 0)) (gName 4) (tTest (tOp (rInD K) (tLst (tCons (tVar 4) tNil)) (tVar 3))) (tVar 4) [4])))))
theorem w_must {P : Program} {w : World} {K : PySem.W.Frag} {mg : Str → Option Value} {base : Heap} {f : Addr} {cdv : Value} {A : Around} {outer : List Env} {s : Shared} {H : Hp} {E : XK}
    (hr : Room 6 (A.deeper (envOfC "must" (defScope s_must) s.heap.objs.size f cdv))) (T : Txt K mg) (D_refused_rows : Df P w K mg base 2 "refused_rows" ["names", "seen", "skill"] (sp_refused_rows K)) (D_is_explained : Df P w K mg base 3 "is_explained" ["names", "seen"] (sp_is_explained K)) (D_look_at_question : Df P w K mg base 6 "look_at_question" ["names", "seen", "skill"] (sp_look_at_question K)) :
    PSs (cxOf CX0 P w K mg base ["names", "seen", "skill", "rows", "name"] "must" (defScope s_must) f cdv A outer s H E).nox (defBody s_must) (t_must K) :=
  (pss_cons (ps_expr (pe_df D_look_at_question (hr.mono (by decide)) (by rfl) (pa_cons (pv 0) (pa_cons (pv 1) (pa_cons (pv 2) pa_nil)))))
      (pss_cons (ps_if (pt_not (pt_val (pe_df D_is_explained (hr.mono (by decide)) (by rfl) (pa_cons (pv 0) (pa_cons (pv 1) pa_nil))))) (pss_one (ps_ret (pe_lst pa_nil))) pss_nil)
      (pss_cons (psn 3 sc_must.nd (pe_df D_refused_rows (hr.mono (by decide)) (by rfl) (pa_cons (pv 0) (pa_cons (pv 1) (pa_cons (pv 2) pa_nil)))))
      (pss_one (ps_ret (pe_lc (own := [("name", 4)]) rfl sc_must.nd (pi_seq (pv 0)) (blkOk_by (by kernel_rfl)) (fun _ _ _ _ _ => (pgn 4 sc_must.nd)) (fun _ _ _ _ _ => pts_one (pt_cmpR (op_inD (room65 hr)) (pe_lst (pa_cons (pv 4) pa_nil)) (pv 3) (by rfl))) (fun _ _ _ _ _ => (pv 4))))))))
abbrev s_may : Stmt := topS 24
theorem sc_may : FnScope ["names", "seen", "skill"] ["names", "seen", "skill"] (defScope s_may) := ⟨rfl, rfl, rfl, by decide +kernel, rfl, by decide +kernel, by decide +kernel⟩
def t_may (K : PySem.W.Frag) : TS :=
  (tSeq (tDrop (tCall (sp_look_at_question K) [] E0 (tCons (tVar 0) (tCons (tVar 1) (tCons (tVar 2) tNil)))))
    (tRet (tIf (tB (tCall (sp_is_explained K) [] E0 (tCons (tVar 0) (tCons (tVar 1) tNil)))) (tCB (rListOf K) (tCons (tCall (sp_most_wanted K) [] E0 (tCons (tVar 0) (tCons (tVar 1) (tCons (tVar 2) tNil)))) tNil)) (tLst tNil))))
theorem w_may {P : Program} {w : World} {K : PySem.W.Frag} {mg : Str → Option Value} {base : Heap} {f : Addr} {cdv : Value} {A : Around} {outer : List Env} {s : Shared} {H : Hp} {E : XK}
    (hr : Room 6 (A.deeper (envOfC "may" (defScope s_may) s.heap.objs.size f cdv))) (T : Txt K mg) (D_is_explained : Df P w K mg base 3 "is_explained" ["names", "seen"] (sp_is_explained K)) (D_most_wanted : Df P w K mg base 1 "most_wanted" ["names", "seen", "skill"] (sp_most_wanted K)) (D_look_at_question : Df P w K mg base 6 "look_at_question" ["names", "seen", "skill"] (sp_look_at_question K)) :
    PSs (cxOf CX0 P w K mg base ["names", "seen", "skill"] "may" (defScope s_may) f cdv A outer s H E).nox (defBody s_may) (t_may K) :=
  (pss_cons (ps_expr (pe_df D_look_at_question (hr.mono (by decide)) (by rfl) (pa_cons (pv 0) (pa_cons (pv 1) (pa_cons (pv 2) pa_nil)))))
      (pss_one (ps_ret (pe_ifExp (pt_val (pe_df D_is_explained (hr.mono (by decide)) (by rfl) (pa_cons (pv 0) (pa_cons (pv 1) pa_nil)))) (pe_callTy call_list_of (by rfl) T.list_ (by decide +kernel) (pa_cons (pe_df D_most_wanted (hr.mono (by decide)) (by rfl) (pa_cons (pv 0) (pa_cons (pv 1) (pa_cons (pv 2) pa_nil)))) pa_nil)) (pe_lst pa_nil)))))
abbrev s_next_ask : Stmt := topS 25
theorem sc_next_ask : FnScope ["names", "seen", "skill"] ["names", "seen", "skill"] (defScope s_next_ask) := ⟨rfl, rfl, rfl, by decide +kernel, rfl, by decide +kernel, by decide +kernel⟩
def t_next_ask (K : PySem.W.Frag) : TS :=
  (tRet (tOp (rNeD K) (tCall (sp_may K) [] E0 (tCons (tVar 0) (tCons (tVar 1) (tCons (tVar 2) tNil)))) (tCall (sp_must K) [] E0 (tCons (tVar 0) (tCons (tVar 1) (tCons (tVar 2) tNil))))))
theorem w_next_ask {P : Program} {w : World} {K : PySem.W.Frag} {mg : Str → Option Value} {base : Heap} {f : Addr} {cdv : Value} {A : Around} {outer : List Env} {s : Shared} {H : Hp} {E : XK}
    (hr : Room 7 (A.deeper (envOfC "next_ask" (defScope s_next_ask) s.heap.objs.size f cdv))) (T : Txt K mg) (D_may : Df P w K mg base 7 "may" ["names", "seen", "skill"] (sp_may K)) (D_must : Df P w K mg base 7 "must" ["names", "seen", "skill"] (sp_must K)) :
    PSs (cxOf CX0 P w K mg base ["names", "seen", "skill"] "next_ask" (defScope s_next_ask) f cdv A outer s H E).nox (defBody s_next_ask) (t_next_ask K) :=
  (pss_one (ps_ret (pe_cmpR (op_neD hr.units) (pe_df D_may (hr.mono (by decide)) (by rfl) (pa_cons (pv 0) (pa_cons (pv 1) (pa_cons (pv 2) pa_nil)))) (pe_df D_must (hr.mono (by decide)) (by rfl) (pa_cons (pv 0) (pa_cons (pv 1) (pa_cons (pv 2) pa_nil)))) (nomark _))))
abbrev s_L_pool : Stmt := topS 27
theorem sc_L_pool : FnScope ["_law_script", "_law_k", "_law_cell", "_law_big", "_law_mixed"] ["_law_script", "_law_k"] (defScope s_L_pool) := ⟨rfl, rfl, rfl, by decide +kernel, rfl, by decide +kernel, by decide +kernel⟩
def t_L_pool (K : PySem.W.Frag) : TS :=
  (tSeq (tAsg (tC (.int 0)) (gName 2))
    (tSeq (tIfS (tTest (tOp (rI0 fun i j => .bl (decide (i < j))) (tVar 1) (tCB (rLenV K) (tCons (tVar 0) tNil)))) (tAsg (tOp (rIx K) (tVar 0) (tVar 1)) (gName 2)) tNext)
    (tSeq (tAsg (tCB rMax2_ (tCons (tCB rInt1 (tCons (tVar 2) tNil)) (tCons (tCB rInt1 (tCons (tOp (rI0 fun i j => .int (i - j)) (tUn (rU fun i => .int (-i)) (tC (.int 1))) (tVar 2)) tNil)) tNil))) (gName 3))
    (tSeq (tAsg (tOp (rI (fun _ j => 0 < j) fun i j => .int (i % j)) (tCB rInt1 (tCons (tOp (rI CMul fun i j => .int (i * j)) (tOp (rI0 fun i j => .int (i + j)) (tOp (rI0 fun i j => .int (i + j)) (tOp (rI0 fun i j => .int (i + j)) (tOp (rI (fun _ j => 0 < j) fun i j => .int (i % j)) (tCB rInt1 (tCons (tVar 3) tNil)) (tC (.int 2147483629))) (tOp (rI CMul fun i j => .int (i * j)) (tOp (rI CMul fun i j => .int (i * j)) (tC (.int 7919)) (tVar 1)) (tVar 1))) (tOp (rI CMul fun i j => .int (i * j)) (tC (.int 31)) (tVar 1))) (tC (.int 17))) (tC (.int 48271))) tNil)) (tC (.int 2147483647))) (gName 4))
    (tRet (tLst (tCons (tOp (rI CMul fun i j => .int (i * j)) (tVar 3) (tCB rInt1 (tCons (tOp (rI0 fun i j => .bl (decide (j ≤ i))) (tVar 3) (tOp (rI CPow fun i j => .int (i ^ j.toNat)) (tC (.int 10)) (tC (.int 18)))) tNil))) (tCons (tVar 4) tNil))))))))
theorem w_L_pool {P : Program} {w : World} {K : PySem.W.Frag} {mg : Str → Option Value} {base : Heap} {f : Addr} {cdv : Value} {A : Around} {outer : List Env} {s : Shared} {H : Hp} {E : XK}
    (hr : Room 0 (A.deeper (envOfC "_law_pool" (defScope s_L_pool) s.heap.objs.size f cdv))) (T : Txt K mg)  :
    PSs (cxOf CX0 P w K mg base ["_law_script", "_law_k", "_law_cell", "_law_big", "_law_mixed"] "_law_pool" (defScope s_L_pool) f cdv A outer s H E).nox (defBody s_L_pool) (t_L_pool K) :=
  (pss_cons (psn 2 sc_L_pool.nd pe_int)
      (pss_cons (ps_if (pt_cmpR op_lt (pv 1) (pe_callB call_len (by rfl) T.len_ (by decide +kernel) (pa_cons (pv 0) pa_nil)) (nomark _)) (pss_one (psn 2 sc_L_pool.nd (pe_ix ix_seq (pv 0) (pv 1) (fun _ _ => rfl)))) pss_nil)
      (pss_cons (psn 3 sc_L_pool.nd (pe_callB (call_max2 rfl) (by rfl) T.max_ (by decide +kernel) (pa_cons (pe_callTy call_int1 (by rfl) T.int_ (by decide +kernel) (pa_cons (pv 2) pa_nil)) (pa_cons (pe_callTy call_int1 (by rfl) T.int_ (by decide +kernel) (pa_cons (pe_op op_sub (pe_un un_neg pe_int) (pv 2)) pa_nil)) pa_nil))))
      (pss_cons (psn 4 sc_L_pool.nd (pe_op op_mod (pe_callTy call_int1 (by rfl) T.int_ (by decide +kernel) (pa_cons (pe_op op_mul (pe_op op_add (pe_op op_add (pe_op op_add (pe_op op_mod (pe_callTy call_int1 (by rfl) T.int_ (by decide +kernel) (pa_cons (pv 3) pa_nil)) pe_int) (pe_op op_mul (pe_op op_mul pe_int (pv 1)) (pv 1))) (pe_op op_mul pe_int (pv 1))) pe_int) pe_int) pa_nil)) pe_int))
      (pss_one (ps_ret (pe_lst (pa_cons (pe_op op_mul (pv 3) (pe_callTy call_int1 (by rfl) T.int_ (by decide +kernel) (pa_cons (pe_cmpR op_ge (pv 3) (pe_op op_pow pe_int pe_int) (nomark _)) pa_nil))) (pa_cons (pv 4) pa_nil)))))))))
abbrev s_L_take : Stmt := topS 28
theorem sc_L_take : FnScope ["_law_pool_here", "_law_bound", "_law_result"] ["_law_pool_here", "_law_bound"] (defScope s_L_take) := ⟨rfl, rfl, rfl, by decide +kernel, rfl, by decide +kernel, by decide +kernel⟩
def t_L_take (K : PySem.W.Frag) : TS :=
  (tSeq (tIfS (tTest (tOp (rI0 fun i j => .bl (decide (j < i))) (tOp (rIx K) (tVar 0) (tC (.int 0))) (tC (.int 0)))) (tSeq (tAsg (tOp (rI (fun _ j => 0 < j) fun i j => .int (i % j)) (tCB rInt1 (tCons (tOp (rIx K) (tVar 0) (tC (.int 0))) tNil)) (tVar 1)) (gName 2))
    (tSeq (tAsg (tOp (rI CDiv fun i j => .int (i / j)) (tOp (rIx K) (tVar 0) (tC (.int 0))) (tVar 1)) (gSub (tVar 0) (tC (.int 0)) rSetL))
    (tRet (tVar 2)))) tNext)
    (tSeq (tAsg (tOp (rI (fun _ j => 0 < j) fun i j => .int (i % j)) (tCB rInt1 (tCons (tOp (rI0 fun i j => .int (i + j)) (tOp (rI CMul fun i j => .int (i * j)) (tOp (rIx K) (tVar 0) (tC (.int 1))) (tC (.int 39373))) (tC (.int 7))) tNil)) (tC (.int 2147483647))) (gSub (tVar 0) (tC (.int 1)) rSetL))
    (tRet (tOp (rI (fun _ j => 0 < j) fun i j => .int (i % j)) (tCB rInt1 (tCons (tOp (rI CDiv fun i j => .int (i / j)) (tOp (rI (fun _ j => 0 < j) fun i j => .int (i % j)) (tCB rInt1 (tCons (tOp (rI CMul fun i j => .int (i * j)) (tOp (rIx K) (tVar 0) (tC (.int 1))) (tOp (rIx K) (tVar 0) (tC (.int 1)))) tNil)) (tC (.int 2147483629))) (tC (.int 32))) tNil)) (tVar 1)))))
theorem w_L_take {P : Program} {w : World} {K : PySem.W.Frag} {mg : Str → Option Value} {base : Heap} {f : Addr} {cdv : Value} {A : Around} {outer : List Env} {s : Shared} {H : Hp} {E : XK}
    (hr : Room 0 (A.deeper (envOfC "_law_take" (defScope s_L_take) s.heap.objs.size f cdv))) (T : Txt K mg)  :
    PSs (cxOf CX0 P w K mg base ["_law_pool_here", "_law_bound", "_law_result"] "_law_take" (defScope s_L_take) f cdv A outer s H E).nox (defBody s_L_take) (t_L_take K) :=
  (pss_cons (ps_if (pt_cmpR op_gt (pe_ix ix_seq (pv 0) pe_int (fun _ _ => rfl)) pe_int (nomark _)) (pss_cons (psn 2 sc_L_take.nd (pe_op op_mod (pe_callTy call_int1 (by rfl) T.int_ (by decide +kernel) (pa_cons (pe_ix ix_seq (pv 0) pe_int (fun _ _ => rfl)) pa_nil)) (pv 1)))
      (pss_cons (ps_asg (pe_op op_fdiv (pe_ix ix_seq (pv 0) pe_int (fun _ _ => rfl)) (pv 1)) (pg_sub (pv 0) pe_int set_list))
      (pss_one (ps_ret (pv 2))))) pss_nil)
      (pss_cons (ps_asg (pe_op op_mod (pe_callTy call_int1 (by rfl) T.int_ (by decide +kernel) (pa_cons (pe_op op_add (pe_op op_mul (pe_ix ix_seq (pv 0) pe_int (fun _ _ => rfl)) pe_int) pe_int) pa_nil)) pe_int) (pg_sub (pv 0) pe_int set_list))
      (pss_one (ps_ret (pe_op op_mod (pe_callTy call_int1 (by rfl) T.int_ (by decide +kernel) (pa_cons (pe_op op_fdiv (pe_op op_mod (pe_callTy call_int1 (by rfl) T.int_ (by decide +kernel) (pa_cons (pe_op op_mul (pe_ix ix_seq (pv 0) pe_int (fun _ _ => rfl)) (pe_ix ix_seq (pv 0) pe_int (fun _ _ => rfl))) pa_nil)) pe_int) pe_int) pa_nil)) (pv 1))))))
abbrev s_L_one : Stmt := topS 29
theorem sc_L_one : FnScope ["_law_pool_here", "_law_things"] ["_law_pool_here", "_law_things"] (defScope s_L_one) := ⟨rfl, rfl, rfl, by decide +kernel, rfl, by decide +kernel, by decide +kernel⟩
def t_L_one (K : PySem.W.Frag) : TS :=
  (tRet (tOp (rIx K) (tVar 1) (tCall (sp_L_take K) [] E0 (tCons (tVar 0) (tCons (tCB (rLenV K) (tCons (tVar 1) tNil)) tNil)))))
theorem w_L_one {P : Program} {w : World} {K : PySem.W.Frag} {mg : Str → Option Value} {base : Heap} {f : Addr} {cdv : Value} {A : Around} {outer : List Env} {s : Shared} {H : Hp} {E : XK}
    (hr : Room 1 (A.deeper (envOfC "_law_one" (defScope s_L_one) s.heap.objs.size f cdv))) (T : Txt K mg) (D_L_take : Df P w K mg base 1 "_law_take" ["_law_pool_here", "_law_bound"] (sp_L_take K)) :
    PSs (cxOf CX0 P w K mg base ["_law_pool_here", "_law_things"] "_law_one" (defScope s_L_one) f cdv A outer s H E).nox (defBody s_L_one) (t_L_one K) :=
  (pss_one (ps_ret (pe_ix ix_seq (pv 1) (pe_df D_L_take (hr.mono (by decide)) (by rfl) (pa_cons (pv 0) (pa_cons (pe_callB call_len (by rfl) T.len_ (by decide +kernel) (pa_cons (pv 1) pa_nil)) pa_nil))) (fun _ _ => rfl))))
abbrev s_L_told_names : Stmt := topS 30
theorem sc_L_told_names : FnScope ["_law_pool_here", "_law_top", "_law_some"] ["_law_pool_here", "_law_top"] (defScope s_L_told_names) := ⟨rfl, rfl, rfl, by decide +kernel, rfl, by decide +kernel, by decide +kernel⟩
def t_L_told_names (K : PySem.W.Frag) : TS :=
  (tSeq (tAsg (tCall (sp_L_one K) [] E0 (tCons (tVar 0) (tCons (tLst (tCons (tLst (tCons (tC (.str "a")) (tCons (tC (.str "b")) (tCons (tC (.str "c")) (tCons (tC (.str "d")) tNil))))) (tCons (tLst (tCons (tC (.str "z")) (tCons (tC (.str "abcdefgh")) (tCons (tC (.str "a")) (tCons (tC (.str "b")) tNil))))) (tCons (tLst (tCons (tC (.str "d")) (tCons (tC (.str "c")) (tCons (tC (.str "b")) (tCons (tC (.str "a")) tNil))))) tNil)))) tNil))) (gName 2))
    (tRet (tCB (rTupleOf K) (tCons (tSl (rSlL K) (tVar 2) tNoPart (tPart (tOp (rI0 fun i j => .int (i + j)) (tC (.int 1)) (tCall (sp_L_take K) [] E0 (tCons (tVar 0) (tCons (tVar 1) tNil)))))) tNil))))
theorem w_L_told_names {P : Program} {w : World} {K : PySem.W.Frag} {mg : Str → Option Value} {base : Heap} {f : Addr} {cdv : Value} {A : Around} {outer : List Env} {s : Shared} {H : Hp} {E : XK}
    (hr : Room 2 (A.deeper (envOfC "_law_told_names" (defScope s_L_told_names) s.heap.objs.size f cdv))) (T : Txt K mg) (D_L_take : Df P w K mg base 1 "_law_take" ["_law_pool_here", "_law_bound"] (sp_L_take K)) (D_L_one : Df P w K mg base 2 "_law_one" ["_law_pool_here", "_law_things"] (sp_L_one K)) :
    PSs (cxOf CX0 P w K mg base ["_law_pool_here", "_law_top", "_law_some"] "_law_told_names" (defScope s_L_told_names) f cdv A outer s H E).nox (defBody s_L_told_names) (t_L_told_names K) :=
  (pss_cons (psn 2 sc_L_told_names.nd (pe_df D_L_one (hr.mono (by decide)) (by rfl) (pa_cons (pv 0) (pa_cons (pe_lst (pa_cons (pe_lst (pa_cons pe_str (pa_cons pe_str (pa_cons pe_str (pa_cons pe_str pa_nil))))) (pa_cons (pe_lst (pa_cons pe_str (pa_cons pe_str (pa_cons pe_str (pa_cons pe_str pa_nil))))) (pa_cons (pe_lst (pa_cons pe_str (pa_cons pe_str (pa_cons pe_str (pa_cons pe_str pa_nil))))) pa_nil)))) pa_nil))))
      (pss_one (ps_ret (pe_callTy call_tuple_of (by rfl) T.tuple_ (by decide +kernel) (pa_cons (pe_slice sl_list (pv 2) po_none (po_some (pe_op op_add pe_int (pe_df D_L_take (hr.mono (by decide)) (by rfl) (pa_cons (pv 0) (pa_cons (pv 1) pa_nil)))))) pa_nil)))))
abbrev s_L_parts : Stmt := topS 31
theorem sc_L_parts : FnScope ["_law_some", "_law_found", "_law_name", "_law_row"] ["_law_some"] (defScope s_L_parts) := ⟨rfl, rfl, rfl, by decide +kernel, rfl, by decide +kernel, by decide +kernel⟩
def t_L_parts (K : PySem.W.Frag) : TS :=
  (tSeq (tAsg (tLst (tCons (tTup tNil) tNil)) (gName 1))
    (tSeq (tFor (iSeq K (tVar 0)) (gName 2) (tAsg (tOp rCat (tVar 1) (tLc (iSeq K (tVar 1)) (gName 3) tYes (tOp (rCatA K) (tVar 3) (tTup (tCons (tVar 2) tNil))) [3])) (gName 1)))
    (tRet (tVar 1))))
theorem w_L_parts {P : Program} {w : World} {K : PySem.W.Frag} {mg : Str → Option Value} {base : Heap} {f : Addr} {cdv : Value} {A : Around} {outer : List Env} {s : Shared} {H : Hp} {E : XK}
    (hr : Room 0 (A.deeper (envOfC "_law_parts" (defScope s_L_parts) s.heap.objs.size f cdv))) (T : Txt K mg)  :
    PSs (cxOf CX0 P w K mg base ["_law_some", "_law_found", "_law_name", "_law_row"] "_law_parts" (defScope s_L_parts) f cdv A outer s H E).nox (defBody s_L_parts) (t_L_parts K) :=
  (pss_cons (psn 1 sc_L_parts.nd (pe_lst (pa_cons (pe_tup pa_nil) pa_nil)))
      (pss_cons (ps_for PassesOwn.never rfl (pi_seq (pv 0)) (pgn 2 sc_L_parts.nd) (pss_one (psn 1 sc_L_parts.nd (pe_op op_cat (pv 1) (pe_lc (own := [("_law_row", 3)]) rfl sc_L_parts.nd (pi_seq (pv 1)) (blkOk_by (by kernel_rfl)) (fun _ _ _ _ _ => (pgn 3 sc_L_parts.nd)) (fun _ _ _ _ _ => pts_nil) (fun _ _ _ _ _ => (pe_op op_catA (pv 3) (pe_tup (pa_cons (pv 2) pa_nil)))))))))
      (pss_one (ps_ret (pv 1)))))
abbrev s_L_answers : Stmt := topS 32
theorem sc_L_answers : FnScope ["_law_pool_here", "_law_names", "_law_many", "_law_wants", "_law_name", "_law_other", "_law_found", "_law_turn", "_law_skill", "_law_build", "_law_lets"] ["_law_pool_here", "_law_names", "_law_many"] (defScope s_L_answers) := ⟨rfl, rfl, rfl, by decide +kernel, rfl, by decide +kernel, by decide +kernel⟩
def t_L_answers (K : PySem.W.Frag) : TS :=
  (tSeq (tAsg tDNewK (gName 3))
    (tSeq (tFor (iSeq K (tVar 1)) (gName 4) (sDPut (tVar 3) (tVar 4) (tCall (sp_L_one K) [] E0 (tCons (tVar 0) (tCons (tCall (sp_L_parts K) [] E0 (tCons (tLc (iSeq K (tVar 1)) (gName 5) (tTest (tOp rNe (tVar 5) (tVar 4))) (tVar 5) [5]) tNil)) tNil)))))
    (tSeq (tAsg (tLst tNil) (gName 6))
    (tSeq (tFor (iRng1 (tCons (tVar 2) tNil)) (gName 7) (tSeq (tAsg (tCall (sp_L_one K) [] E0 (tCons (tVar 0) (tCons (tVar 1) tNil))) (gName 8))
    (tSeq (tAsg (tCall (sp_L_one K) [] E0 (tCons (tVar 0) (tCons (tCall (sp_L_parts K) [] E0 (tCons (tLc (iSeq K (tVar 1)) (gName 5) (tTest (tOp rNe (tVar 5) (tVar 8))) (tVar 5) [5]) tNil)) tNil))) (gName 9))
    (tSeq (tAsg (tOp (rEqD K) (tLc (iSeq K (tDGet (tVar 3) (tVar 8))) (gName 4) (tTest (tOp (rIn K true) (tVar 4) (tVar 9))) (tVar 4) [4]) (tLst tNil)) (gName 10))
    (tDrop (tBM K "list" rAppend (tVar 6) (tCons (tTup (tCons (tVar 9) (tCons (tVar 8) (tCons (tIf (tTest (tOp (rI0 fun i j => .bl (decide (j < i))) (tCall (sp_L_take K) [] E0 (tCons (tVar 0) (tCons (tC (.int 12)) tNil))) (tC (.int 0)))) (tVar 10) (tNotV (tVar 10))) tNil)))) tNil)))))))
    (tRet (tVar 6))))))
theorem w_L_answers {P : Program} {w : World} {K : PySem.W.Frag} {mg : Str → Option Value} {base : Heap} {f : Addr} {cdv : Value} {A : Around} {outer : List Env} {s : Shared} {H : Hp} {E : XK}
    (hr : Room 2 (A.deeper (envOfC "_law_answers" (defScope s_L_answers) s.heap.objs.size f cdv))) (T : Txt K mg) (D_L_take : Df P w K mg base 1 "_law_take" ["_law_pool_here", "_law_bound"] (sp_L_take K)) (D_L_parts : Df P w K mg base 1 "_law_parts" ["_law_some"] (sp_L_parts K)) (D_L_one : Df P w K mg base 2 "_law_one" ["_law_pool_here", "_law_things"] (sp_L_one K)) :
    PSs (cxOf CX0 P w K mg base ["_law_pool_here", "_law_names", "_law_many", "_law_wants", "_law_name", "_law_other", "_law_found", "_law_turn", "_law_skill", "_law_build", "_law_lets"] "_law_answers" (defScope s_L_answers) f cdv A outer s H E).nox (defBody s_L_answers) (t_L_answers K) :=
  (pss_cons (psn 3 sc_L_answers.nd pe_dnewK)
      (pss_cons (ps_for PassesOwn.never rfl (pi_seq (pv 1)) (pgn 4 sc_L_answers.nd) (pss_one (ps_dput (hu_of hr) (pv 3) (pv 4) (pe_df D_L_one (hr.mono (by decide)) (by rfl) (pa_cons (pv 0) (pa_cons (pe_df D_L_parts (hr.mono (by decide)) (by rfl) (pa_cons (pe_lc (own := [("_law_other", 5)]) rfl sc_L_answers.nd (pi_seq (pv 1)) (blkOk_by (by kernel_rfl)) (fun _ _ _ _ _ => (pgn 5 sc_L_answers.nd)) (fun _ _ _ _ _ => pts_one (pt_cmpR op_ne (pv 5) (pv 4) (nomark _))) (fun _ _ _ _ _ => (pv 5))) pa_nil)) pa_nil))) rfl)))
      (pss_cons (psn 6 sc_L_answers.nd (pe_lst pa_nil))
      (pss_cons (ps_for PassesOwn.never rfl (pi_range1 (by rfl) T.range_ (pa_cons (pv 2) pa_nil)) (pgn 7 sc_L_answers.nd) (pss_cons (psn 8 sc_L_answers.nd (pe_df D_L_one (hr.mono (by decide)) (by rfl) (pa_cons (pv 0) (pa_cons (pv 1) pa_nil))))
      (pss_cons (psn 9 sc_L_answers.nd (pe_df D_L_one (hr.mono (by decide)) (by rfl) (pa_cons (pv 0) (pa_cons (pe_df D_L_parts (hr.mono (by decide)) (by rfl) (pa_cons (pe_lc (own := [("_law_other", 5)]) rfl sc_L_answers.nd (pi_seq (pv 1)) (blkOk_by (by kernel_rfl)) (fun _ _ _ _ _ => (pgn 5 sc_L_answers.nd)) (fun _ _ _ _ _ => pts_one (pt_cmpR op_ne (pv 5) (pv 8) (nomark _))) (fun _ _ _ _ _ => (pv 5))) pa_nil)) pa_nil))))
      (pss_cons (psn 10 sc_L_answers.nd (pe_cmpR (op_eqD hr.units) (pe_lc (own := [("_law_name", 4)]) rfl sc_L_answers.nd (pi_seq (pe_dget (hu_of hr) (pv 3) (pv 8) (fun _ _ => rfl))) (blkOk_by (by kernel_rfl)) (fun _ _ _ _ _ => (pgn 4 sc_L_answers.nd)) (fun _ _ _ _ _ => pts_one (pt_cmpR op_notIn_seq (pv 4) (pv 9) (by rfl))) (fun _ _ _ _ _ => (pv 4))) (pe_lst pa_nil) (nomark _)))
      (pss_one (ps_expr (pe_bm PySem.F.plainAttrs_list PySem.F.slot_list_append PySem.F.type_list_append mt_append (pv 6) (pa_cons (pe_tup (pa_cons (pv 9) (pa_cons (pv 8) (pa_cons (pe_ifExp (pt_cmpR op_gt (pe_df D_L_take (hr.mono (by decide)) (by rfl) (pa_cons (pv 0) (pa_cons pe_int pa_nil))) pe_int (nomark _)) (pv 10) (pe_not (pv 10))) pa_nil)))) pa_nil))))))))
      (pss_one (ps_ret (pv 6)))))))
abbrev s_L_fitting : Stmt := topS 33
theorem sc_L_fitting : FnScope ["_law_names", "_law_seen", "_law_skill", "_law_found", "_law_row", "_law_other", "_law_bad", "_law_one_here", "_law_name"] ["_law_names", "_law_seen", "_law_skill"] (defScope s_L_fitting) := ⟨rfl, rfl, rfl, by decide +kernel, rfl, by decide +kernel, by decide +kernel⟩
def t_L_fitting (K : PySem.W.Frag) : TS :=
  (tSeq (tAsg (tLst tNil) (gName 3))
    (tSeq (tFor (iSeq K (tCall (sp_L_parts K) [] E0 (tCons (tLc (iSeq K (tVar 0)) (gName 5) (tTest (tOp rNe (tVar 5) (tVar 2))) (tVar 5) [5]) tNil))) (gName 4) (tSeq (tAsg (tLc (iSeq K (tVar 1)) (gName 7) (tAnd (tTest (tOp rEq (tOp (rIx K) (tVar 7) (tC (.int 1))) (tVar 2))) (tTest (tOp rNe (tOp (rIx K) (tVar 7) (tC (.int 2))) (tOp (rEqD K) (tLc (iSeq K (tVar 4)) (gName 8) (tTest (tOp (rIn K true) (tVar 8) (tOp (rIx K) (tVar 7) (tC (.int 0))))) (tVar 8) [8]) (tLst tNil))))) (tVar 7) [7]) (gName 6))
    (tAsg (tOp rCat (tVar 3) (tOp rRep (tLst (tCons (tVar 4) tNil)) (tCB rInt1 (tCons (tOp (rEqD K) (tVar 6) (tLst tNil)) tNil)))) (gName 3))))
    (tRet (tVar 3))))
theorem w_L_fitting {P : Program} {w : World} {K : PySem.W.Frag} {mg : Str → Option Value} {base : Heap} {f : Addr} {cdv : Value} {A : Around} {outer : List Env} {s : Shared} {H : Hp} {E : XK}
    (hr : Room 1 (A.deeper (envOfC "_law_fitting" (defScope s_L_fitting) s.heap.objs.size f cdv))) (T : Txt K mg) (D_L_parts : Df P w K mg base 1 "_law_parts" ["_law_some"] (sp_L_parts K)) :
    PSs (cxOf CX0 P w K mg base ["_law_names", "_law_seen", "_law_skill", "_law_found", "_law_row", "_law_other", "_law_bad", "_law_one_here", "_law_name"] "_law_fitting" (defScope s_L_fitting) f cdv A outer s H E).nox (defBody s_L_fitting) (t_L_fitting K) :=
  (pss_cons (psn 3 sc_L_fitting.nd (pe_lst pa_nil))
      (pss_cons (ps_for PassesOwn.never rfl (pi_seq (pe_df D_L_parts (hr.mono (by decide)) (by rfl) (pa_cons (pe_lc (own := [("_law_other", 5)]) rfl sc_L_fitting.nd (pi_seq (pv 0)) (blkOk_by (by kernel_rfl)) (fun _ _ _ _ _ => (pgn 5 sc_L_fitting.nd)) (fun _ _ _ _ _ => pts_one (pt_cmpR op_ne (pv 5) (pv 2) (nomark _))) (fun _ _ _ _ _ => (pv 5))) pa_nil))) (pgn 4 sc_L_fitting.nd) (pss_cons (ps_setLc (i := 6) (own := [("_law_one_here", 7)]) rfl sc_L_fitting.nd rfl rfl (sw_true rfl rfl rfl (by decide +kernel)) (pi_seq (pv 1)) (blkOk_by (by kernel_rfl)) (fun _ _ _ _ _ => (pgn 7 sc_L_fitting.nd)) (fun _ _ _ _ _ => pts_one (PW.pt (pw_and (pt_cmpR op_eq (pe_ix ix_seq (pv 7) pe_int (fun _ _ => rfl)) (pv 2) (nomark _)) (pw_and1 (pt_cmpR op_ne (pe_ix ix_seq (pv 7) pe_int (fun _ _ => rfl)) (pe_cmpR (op_eqD hr.units) (pe_lc (own := [("_law_name", 8)]) rfl sc_L_fitting.nd (pi_seq (pv 4)) (blkOk_by (by kernel_rfl)) (fun _ _ _ _ _ => (pgn 8 sc_L_fitting.nd)) (fun _ _ _ _ _ => pts_one (pt_cmpR op_notIn_seq (pv 8) (pe_ix ix_seq (pv 7) pe_int (fun _ _ => rfl)) (by rfl))) (fun _ _ _ _ _ => (pv 8))) (pe_lst pa_nil) (nomark _)) (nomark _)))))) (fun _ _ _ _ _ => (pv 7)))
      (pss_one (psn 3 sc_L_fitting.nd (pe_op op_cat (pv 3) (pe_op op_rep (pe_lst (pa_cons (pv 4) pa_nil)) (pe_callTy call_int1 (by rfl) T.int_ (by decide +kernel) (pa_cons (pe_cmpR (op_eqD hr.units) (pv 6) (pe_lst pa_nil) (nomark _)) pa_nil))))))))
      (pss_one (ps_ret (pv 3)))))
abbrev s_L_union : Stmt := topS 34
theorem sc_L_union : FnScope ["_law_names", "_law_rows", "_law_name", "_law_row"] ["_law_names", "_law_rows"] (defScope s_L_union) := ⟨rfl, rfl, rfl, by decide +kernel, rfl, by decide +kernel, by decide +kernel⟩
def t_L_union (K : PySem.W.Frag) : TS :=
  (tRet (tLc (iSeq K (tVar 0)) (gName 2) (tTest (tOp (rNeD K) (tLc (iSeq K (tVar 1)) (gName 3) (tTest (tOp (rIn K false) (tVar 2) (tVar 3))) (tVar 3) [3]) (tLst tNil))) (tVar 2) [2]))
theorem w_L_union {P : Program} {w : World} {K : PySem.W.Frag} {mg : Str → Option Value} {base : Heap} {f : Addr} {cdv : Value} {A : Around} {outer : List Env} {s : Shared} {H : Hp} {E : XK}
    (hr : Room 0 (A.deeper (envOfC "_law_union" (defScope s_L_union) s.heap.objs.size f cdv))) (T : Txt K mg)  :
    PSs (cxOf CX0 P w K mg base ["_law_names", "_law_rows", "_law_name", "_law_row"] "_law_union" (defScope s_L_union) f cdv A outer s H E).nox (defBody s_L_union) (t_L_union K) :=
  (pss_one (ps_ret (pe_lc (own := [("_law_name", 2)]) rfl sc_L_union.nd (pi_seq (pv 0)) (blkOk_by (by kernel_rfl)) (fun _ _ _ _ _ => (pgn 2 sc_L_union.nd)) (fun _ _ _ _ _ => pts_one (pt_cmpR (op_neD hr.units) (pe_lc (own := [("_law_row", 3)]) rfl sc_L_union.nd (pi_seq (pv 1)) (blkOk_by (by kernel_rfl)) (fun _ _ _ _ _ => (pgn 3 sc_L_union.nd)) (fun _ _ _ _ _ => pts_one (pt_cmpR op_in_seq (pv 2) (pv 3) (by rfl))) (fun _ _ _ _ _ => (pv 3))) (pe_lst pa_nil) (nomark _))) (fun _ _ _ _ _ => (pv 2)))))
abbrev s_L_common : Stmt := topS 35
theorem sc_L_common : FnScope ["_law_names", "_law_rows", "_law_name", "_law_row"] ["_law_names", "_law_rows"] (defScope s_L_common) := ⟨rfl, rfl, rfl, by decide +kernel, rfl, by decide +kernel, by decide +kernel⟩
def t_L_common (K : PySem.W.Frag) : TS :=
  (tRet (tLc (iSeq K (tVar 0)) (gName 2) (tTest (tOp (rEqD K) (tLc (iSeq K (tVar 1)) (gName 3) (tTest (tOp (rIn K true) (tVar 2) (tVar 3))) (tVar 3) [3]) (tLst tNil))) (tVar 2) [2]))
theorem w_L_common {P : Program} {w : World} {K : PySem.W.Frag} {mg : Str → Option Value} {base : Heap} {f : Addr} {cdv : Value} {A : Around} {outer : List Env} {s : Shared} {H : Hp} {E : XK}
    (hr : Room 0 (A.deeper (envOfC "_law_common" (defScope s_L_common) s.heap.objs.size f cdv))) (T : Txt K mg)  :
    PSs (cxOf CX0 P w K mg base ["_law_names", "_law_rows", "_law_name", "_law_row"] "_law_common" (defScope s_L_common) f cdv A outer s H E).nox (defBody s_L_common) (t_L_common K) :=
  (pss_one (ps_ret (pe_lc (own := [("_law_name", 2)]) rfl sc_L_common.nd (pi_seq (pv 0)) (blkOk_by (by kernel_rfl)) (fun _ _ _ _ _ => (pgn 2 sc_L_common.nd)) (fun _ _ _ _ _ => pts_one (pt_cmpR (op_eqD hr.units) (pe_lc (own := [("_law_row", 3)]) rfl sc_L_common.nd (pi_seq (pv 1)) (blkOk_by (by kernel_rfl)) (fun _ _ _ _ _ => (pgn 3 sc_L_common.nd)) (fun _ _ _ _ _ => pts_one (pt_cmpR op_notIn_seq (pv 2) (pv 3) (by rfl))) (fun _ _ _ _ _ => (pv 3))) (pe_lst pa_nil) (nomark _))) (fun _ _ _ _ _ => (pv 2)))))
abbrev s_L_twelve : Stmt := topS 36
theorem sc_L_twelve : FnScope ["_law_names", "_law_seen"] [] (defScope s_L_twelve) := ⟨rfl, rfl, rfl, by decide +kernel, rfl, by decide +kernel, by decide +kernel⟩
def t_L_twelve (K : PySem.W.Frag) : TS :=
  (tSeq (tAsg (tLst (tCons (tC (.str "a")) (tCons (tC (.str "b")) (tCons (tC (.str "c")) (tCons (tC (.str "d")) (tCons (tC (.str "e")) (tCons (tC (.str "f")) (tCons (tC (.str "g")) (tCons (tC (.str "h")) (tCons (tC (.str "i")) (tCons (tC (.str "j")) (tCons (tC (.str "k")) (tCons (tC (.str "l")) tNil))))))))))))) (gName 0))
    (tSeq (tAsg (tLst (tCons (tTup (tCons (tCB (rTupleOf K) (tCons (tSl (rSlL K) (tVar 0) tNoPart (tPart (tC (.int 6)))) tNil)) (tCons (tC (.str "l")) (tCons (tC (.bl true)) tNil)))) (tCons (tTup (tCons (tCB (rTupleOf K) (tCons (tSl (rSlL K) (tVar 0) (tPart (tC (.int 3))) (tPart (tC (.int 9)))) tNil)) (tCons (tC (.str "l")) (tCons (tC (.bl true)) tNil)))) (tCons (tTup (tCons (tCB (rTupleOf K) (tCons (tSl (rSlL K) (tVar 0) tNoPart (tPart (tC (.int 5)))) tNil)) (tCons (tC (.str "l")) (tCons (tC (.bl false)) tNil)))) tNil)))) (gName 1))
    (tSeq (tIfS (tOr (tTest (tOp (rNeD K) (tCall (sp_must K) [] E0 (tCons (tVar 0) (tCons (tVar 1) (tCons (tC (.str "l")) tNil)))) (tLst (tCons (tC (.str "f")) tNil)))) (tOr (tTest (tOp (rNeD K) (tCall (sp_may K) [] E0 (tCons (tVar 0) (tCons (tVar 1) (tCons (tC (.str "l")) tNil)))) (tLst (tCons (tC (.str "d")) (tCons (tC (.str "e")) (tCons (tC (.str "f")) tNil)))))) (tNot (tB (tCall (sp_next_ask K) [] E0 (tCons (tVar 0) (tCons (tVar 1) (tCons (tC (.str "l")) tNil)))))))) (tRet (tC (.bl false))) tNext)
    (tRet (tAndV (tOp (rEqD K) (tDGet (tCall (sp_greatest_wants K) [] E0 (tCons (tVar 0) (tCons (tVar 1) tNil))) (tC (.str "l"))) (tTup (tCons (tC (.str "d")) (tCons (tC (.str "e")) (tCons (tC (.str "f")) tNil))))) (tOp (rEqD K) (tCall (sp_may K) [] E0 (tCons (tVar 0) (tCons (tVar 1) (tCons (tC (.str "a")) tNil)))) (tSl (rSlL K) (tVar 0) (tPart (tC (.int 1))) tNoPart)))))))
theorem w_L_twelve {P : Program} {w : World} {K : PySem.W.Frag} {mg : Str → Option Value} {base : Heap} {f : Addr} {cdv : Value} {A : Around} {outer : List Env} {s : Shared} {H : Hp} {E : XK}
    (hr : Room 8 (A.deeper (envOfC "_law_twelve" (defScope s_L_twelve) s.heap.objs.size f cdv))) (T : Txt K mg) (D_may : Df P w K mg base 7 "may" ["names", "seen", "skill"] (sp_may K)) (D_greatest_wants : Df P w K mg base 6 "greatest_wants" ["names", "seen"] (sp_greatest_wants K)) (D_next_ask : Df P w K mg base 8 "next_ask" ["names", "seen", "skill"] (sp_next_ask K)) (D_must : Df P w K mg base 7 "must" ["names", "seen", "skill"] (sp_must K)) :
    PSs (cxOf CX0 P w K mg base ["_law_names", "_law_seen"] "_law_twelve" (defScope s_L_twelve) f cdv A outer s H E).nox (defBody s_L_twelve) (t_L_twelve K) :=
  (pss_cons (psn 0 sc_L_twelve.nd (pe_lst (pa_cons pe_str (pa_cons pe_str (pa_cons pe_str (pa_cons pe_str (pa_cons pe_str (pa_cons pe_str (pa_cons pe_str (pa_cons pe_str (pa_cons pe_str (pa_cons pe_str (pa_cons pe_str (pa_cons pe_str pa_nil))))))))))))))
      (pss_cons (psn 1 sc_L_twelve.nd (pe_lst (pa_cons (pe_tup (pa_cons (pe_callTy call_tuple_of (by rfl) T.tuple_ (by decide +kernel) (pa_cons (pe_slice sl_list (pv 0) po_none (po_some pe_int)) pa_nil)) (pa_cons pe_str (pa_cons pe_bl pa_nil)))) (pa_cons (pe_tup (pa_cons (pe_callTy call_tuple_of (by rfl) T.tuple_ (by decide +kernel) (pa_cons (pe_slice sl_list (pv 0) (po_some pe_int) (po_some pe_int)) pa_nil)) (pa_cons pe_str (pa_cons pe_bl pa_nil)))) (pa_cons (pe_tup (pa_cons (pe_callTy call_tuple_of (by rfl) T.tuple_ (by decide +kernel) (pa_cons (pe_slice sl_list (pv 0) po_none (po_some pe_int)) pa_nil)) (pa_cons pe_str (pa_cons pe_bl pa_nil)))) pa_nil)))))
      (pss_cons (ps_if (PW.pt (pw_or (pt_cmpR (op_neD hr.units) (pe_df D_must (hr.mono (by decide)) (by rfl) (pa_cons (pv 0) (pa_cons (pv 1) (pa_cons pe_str pa_nil)))) (pe_lst (pa_cons pe_str pa_nil)) (nomark _)) (pw_or (pt_cmpR (op_neD hr.units) (pe_df D_may (hr.mono (by decide)) (by rfl) (pa_cons (pv 0) (pa_cons (pv 1) (pa_cons pe_str pa_nil)))) (pe_lst (pa_cons pe_str (pa_cons pe_str (pa_cons pe_str pa_nil)))) (nomark _)) (pw_or1 (pt_not (pt_val (pe_df D_next_ask (hr.mono (by decide)) (by rfl) (pa_cons (pv 0) (pa_cons (pv 1) (pa_cons pe_str pa_nil)))))))))) (pss_one (ps_ret pe_bl)) pss_nil)
      (pss_one (ps_ret (pe_and (pe_cmpR (op_eqD hr.units) (pe_dget (hu_of hr) (pe_df D_greatest_wants (hr.mono (by decide)) (by rfl) (pa_cons (pv 0) (pa_cons (pv 1) pa_nil))) pe_str (fun _ _ => rfl)) (pe_tup (pa_cons pe_str (pa_cons pe_str (pa_cons pe_str pa_nil)))) (nomark _)) (pe_one (pe_cmpR (op_eqD hr.units) (pe_df D_may (hr.mono (by decide)) (by rfl) (pa_cons (pv 0) (pa_cons (pv 1) (pa_cons pe_str pa_nil)))) (pe_slice sl_list (pv 0) (po_some pe_int) po_none) (nomark _)))))))))
abbrev s_law : Stmt := topS 37
theorem sc_law : FnScope ["_law_script", "_law_k", "_law_pool_here", "_law_names", "_law_seen", "_law_rows", "_law_text", "_law_skill", "_law_is_none", "_law_wanted", "_law_all_have", "_law_some_have"] ["_law_script"] (defScope s_law) := ⟨rfl, rfl, rfl, by decide +kernel, rfl, by decide +kernel, by decide +kernel⟩
def t_law (K : PySem.W.Frag) : TS :=
  (tSeq (tFor (iRng1 (tCons (tCB rMax2_ (tCons (tC (.int 1)) (tCons (tCB rMin2_ (tCons (tC (.int 8)) (tCons (tCB (rLenV K) (tCons (tVar 0) tNil)) tNil))) tNil))) tNil)) (gName 1) (tSeq (tAsg (tCall (sp_L_pool K) [] E0 (tCons (tVar 0) (tCons (tVar 1) tNil))) (gName 2))
    (tSeq (tAsg (tCall (sp_L_told_names K) [] E0 (tCons (tVar 2) (tCons (tC (.int 4)) tNil))) (gName 3))
    (tSeq (tAsg (tCall (sp_L_answers K) [] E0 (tCons (tVar 2) (tCons (tVar 3) (tCons (tCall (sp_L_take K) [] E0 (tCons (tVar 2) (tCons (tC (.int 11)) tNil))) tNil)))) (gName 4))
    (tSeq (tAsg (tTup (tCons tDNewK (tCons (tCB (rReprD K) (tCons (tVar 4) tNil)) tNil))) (gTup K 2 (gCons (gName 5) (gCons (gName 6) gNil))))
    (tSeq (tFor (iSeq K (tVar 3)) (gName 7) (sDPut (tVar 5) (tVar 7) (tCall (sp_L_fitting K) [] E0 (tCons (tVar 3) (tCons (tVar 4) (tCons (tVar 7) tNil))))))
    (tSeq (tAsg (tOp (rNeD K) (tLc (iSeq K (tVar 3)) (gName 7) (tTest (tOp (rEqD K) (tDGet (tVar 5) (tVar 7)) (tLst tNil))) (tVar 7) [7]) (tLst tNil)) (gName 8))
    (tSeq (tAsg tDNewK (gName 9))
    (tSeq (tFor (iSeq K (tVar 3)) (gName 7) (sDPut (tVar 9) (tVar 7) (tCB (rTupleOf K) (tCons (tCall (sp_L_union K) [] E0 (tCons (tVar 3) (tCons (tDGet (tVar 5) (tVar 7)) tNil))) tNil))))
    (tSeq (tIfS (tTest (tOp (rNeW K) (tCall (sp_greatest_wants K) [] E0 (tCons (tVar 3) (tCons (tVar 4) tNil))) (tIf (tB (tVar 8)) (tC .non) (tVar 9)))) (tRet (tC (.bl false))) tNext)
    (tSeq (tFor (iSeq K (tVar 3)) (gName 7) (tSeq (tAsg (tIf (tB (tVar 8)) (tLst tNil) (tCall (sp_L_common K) [] E0 (tCons (tVar 3) (tCons (tDGet (tVar 5) (tVar 7)) tNil)))) (gName 10))
    (tSeq (tAsg (tIf (tB (tVar 8)) (tLst tNil) (tCall (sp_L_union K) [] E0 (tCons (tVar 3) (tCons (tDGet (tVar 5) (tVar 7)) tNil)))) (gName 11))
    (tSeq (tIfS (tOr (tTest (tOp (rNeD K) (tCall (sp_must K) [] E0 (tCons (tVar 3) (tCons (tVar 4) (tCons (tVar 7) tNil)))) (tVar 10))) (tTest (tOp (rNeD K) (tCall (sp_may K) [] E0 (tCons (tCB (rListOf K) (tCons (tVar 3) tNil)) (tCons (tCB (rTupleOf K) (tCons (tVar 4) tNil)) (tCons (tVar 7) tNil)))) (tVar 11)))) (tRet (tC (.bl false))) tNext)
    (tIfS (tTest (tOp rNe (tCall (sp_next_ask K) [] E0 (tCons (tVar 3) (tCons (tVar 4) (tCons (tVar 7) tNil)))) (tOp (rNeD K) (tVar 10) (tVar 11)))) (tRet (tC (.bl false))) tNext)))))
    (tIfS (tTest (tOp rNe (tCB (rReprD K) (tCons (tVar 4) tNil)) (tVar 6))) (tRet (tC (.bl false))) tNext))))))))))))
    (tRet (tCall (sp_L_twelve K) [] E0 tNil)))
theorem w_law {P : Program} {w : World} {K : PySem.W.Frag} {mg : Str → Option Value} {base : Heap} {f : Addr} {cdv : Value} {A : Around} {outer : List Env} {s : Shared} {H : Hp} {E : XK} (hg : A.guards = some [])
    (hr : Room 9 (A.deeper (envOfC "law" (defScope s_law) s.heap.objs.size f cdv))) (T : Txt K mg) (D_L_twelve : Df P w K mg base 9 "_law_twelve" [] (sp_L_twelve K)) (D_next_ask : Df P w K mg base 8 "next_ask" ["names", "seen", "skill"] (sp_next_ask K)) (D_may : Df P w K mg base 7 "may" ["names", "seen", "skill"] (sp_may K)) (D_must : Df P w K mg base 7 "must" ["names", "seen", "skill"] (sp_must K)) (D_L_union : Df P w K mg base 1 "_law_union" ["_law_names", "_law_rows"] (sp_L_union K)) (D_L_common : Df P w K mg base 1 "_law_common" ["_law_names", "_law_rows"] (sp_L_common K)) (D_greatest_wants : Df P w K mg base 6 "greatest_wants" ["names", "seen"] (sp_greatest_wants K)) (D_L_fitting : Df P w K mg base 2 "_law_fitting" ["_law_names", "_law_seen", "_law_skill"] (sp_L_fitting K)) (D_L_take : Df P w K mg base 1 "_law_take" ["_law_pool_here", "_law_bound"] (sp_L_take K)) (D_L_answers : Df P w K mg base 3 "_law_answers" ["_law_pool_here", "_law_names", "_law_many"] (sp_L_answers K)) (D_L_told_names : Df P w K mg base 3 "_law_told_names" ["_law_pool_here", "_law_top"] (sp_L_told_names K)) (D_L_pool : Df P w K mg base 1 "_law_pool" ["_law_script", "_law_k"] (sp_L_pool K)) :
    PSs (cxOf CX0 P w K mg base ["_law_script", "_law_k", "_law_pool_here", "_law_names", "_law_seen", "_law_rows", "_law_text", "_law_skill", "_law_is_none", "_law_wanted", "_law_all_have", "_law_some_have"] "law" (defScope s_law) f cdv A outer s H E).nox (defBody s_law) (t_law K) :=
  (pss_cons (ps_for PassesOwn.never rfl (pi_range1 (by rfl) T.range_ (pa_cons (pe_callB (call_max2 rfl) (by rfl) T.max_ (by decide +kernel) (pa_cons pe_int (pa_cons (pe_callB (call_min2 rfl) (by rfl) T.min_ (by decide +kernel) (pa_cons pe_int (pa_cons (pe_callB call_len (by rfl) T.len_ (by decide +kernel) (pa_cons (pv 0) pa_nil)) pa_nil))) pa_nil))) pa_nil)) (pgn 1 sc_law.nd) (pss_cons (psn 2 sc_law.nd (pe_df D_L_pool (hr.mono (by decide)) (by rfl) (pa_cons (pv 0) (pa_cons (pv 1) pa_nil))))
      (pss_cons (psn 3 sc_law.nd (pe_df D_L_told_names (hr.mono (by decide)) (by rfl) (pa_cons (pv 2) (pa_cons pe_int pa_nil))))
      (pss_cons (psn 4 sc_law.nd (pe_df D_L_answers (hr.mono (by decide)) (by rfl) (pa_cons (pv 2) (pa_cons (pv 3) (pa_cons (pe_df D_L_take (hr.mono (by decide)) (by rfl) (pa_cons (pv 2) (pa_cons pe_int pa_nil))) pa_nil)))))
      (pss_cons (ps_asg (pe_tup (pa_cons pe_dnewK (pa_cons (pe_callB (call_reprD hg hr) (by rfl) T.repr_ (by decide +kernel) (pa_cons (pv 4) pa_nil)) pa_nil))) (pg_tup rfl (pgs_cons (pgn 5 sc_law.nd) (pgs_cons (pgn 6 sc_law.nd) pgs_nil))))
      (pss_cons (ps_for PassesOwn.never rfl (pi_seq (pv 3)) (pgn 7 sc_law.nd) (pss_one (ps_dput (hu_of hr) (pv 5) (pv 7) (pe_df D_L_fitting (hr.mono (by decide)) (by rfl) (pa_cons (pv 3) (pa_cons (pv 4) (pa_cons (pv 7) pa_nil)))) rfl)))
      (pss_cons (psn 8 sc_law.nd (pe_cmpR (op_neD hr.units) (pe_lc (own := [("_law_skill", 7)]) rfl sc_law.nd (pi_seq (pv 3)) (blkOk_by (by kernel_rfl)) (fun _ _ _ _ _ => (pgn 7 sc_law.nd)) (fun _ _ _ _ _ => pts_one (pt_cmpR (op_eqD hr.units) (pe_dget (hu_of hr) (pv 5) (pv 7) (fun _ _ => rfl)) (pe_lst pa_nil) (nomark _))) (fun _ _ _ _ _ => (pv 7))) (pe_lst pa_nil) (nomark _)))
      (pss_cons (psn 9 sc_law.nd pe_dnewK)
      (pss_cons (ps_for PassesOwn.never rfl (pi_seq (pv 3)) (pgn 7 sc_law.nd) (pss_one (ps_dput (hu_of hr) (pv 9) (pv 7) (pe_callTy call_tuple_of (by rfl) T.tuple_ (by decide +kernel) (pa_cons (pe_df D_L_union (hr.mono (by decide)) (by rfl) (pa_cons (pv 3) (pa_cons (pe_dget (hu_of hr) (pv 5) (pv 7) (fun _ _ => rfl)) pa_nil))) pa_nil)) rfl)))
      (pss_cons (ps_if (pt_cmpR (op_neW (room65 hr)) (pe_df D_greatest_wants (hr.mono (by decide)) (by rfl) (pa_cons (pv 3) (pa_cons (pv 4) pa_nil))) (pe_ifExp (pt_val (pv 8)) pe_non (pv 9)) (nomark _)) (pss_one (ps_ret pe_bl)) pss_nil)
      (pss_cons (ps_for PassesOwn.never rfl (pi_seq (pv 3)) (pgn 7 sc_law.nd) (pss_cons (psn 10 sc_law.nd (pe_ifExp (pt_val (pv 8)) (pe_lst pa_nil) (pe_df D_L_common (hr.mono (by decide)) (by rfl) (pa_cons (pv 3) (pa_cons (pe_dget (hu_of hr) (pv 5) (pv 7) (fun _ _ => rfl)) pa_nil)))))
      (pss_cons (psn 11 sc_law.nd (pe_ifExp (pt_val (pv 8)) (pe_lst pa_nil) (pe_df D_L_union (hr.mono (by decide)) (by rfl) (pa_cons (pv 3) (pa_cons (pe_dget (hu_of hr) (pv 5) (pv 7) (fun _ _ => rfl)) pa_nil)))))
      (pss_cons (ps_if (PW.pt (pw_or (pt_cmpR (op_neD hr.units) (pe_df D_must (hr.mono (by decide)) (by rfl) (pa_cons (pv 3) (pa_cons (pv 4) (pa_cons (pv 7) pa_nil)))) (pv 10) (nomark _)) (pw_or1 (pt_cmpR (op_neD hr.units) (pe_df D_may (hr.mono (by decide)) (by rfl) (pa_cons (pe_callTy call_list_of (by rfl) T.list_ (by decide +kernel) (pa_cons (pv 3) pa_nil)) (pa_cons (pe_callTy call_tuple_of (by rfl) T.tuple_ (by decide +kernel) (pa_cons (pv 4) pa_nil)) (pa_cons (pv 7) pa_nil)))) (pv 11) (nomark _))))) (pss_one (ps_ret pe_bl)) pss_nil)
      (pss_one (ps_if (pt_cmpR op_ne (pe_df D_next_ask (hr.mono (by decide)) (by rfl) (pa_cons (pv 3) (pa_cons (pv 4) (pa_cons (pv 7) pa_nil)))) (pe_cmpR (op_neD hr.units) (pv 10) (pv 11) (nomark _)) (nomark _)) (pss_one (ps_ret pe_bl)) pss_nil))))))
      (pss_one (ps_if (pt_cmpR op_ne (pe_callB (call_reprD hg hr) (by rfl) T.repr_ (by decide +kernel) (pa_cons (pv 4) pa_nil)) (pv 6) (nomark _)) (pss_one (ps_ret pe_bl)) pss_nil)))))))))))))
      (pss_one (ps_ret (pe_df0 D_L_twelve (hr.mono (by decide)) (by rfl)))))
end Rt

/-! More rules over data; what the data of this program is. -/
namespace Rt
open PySem L2 Evl RtM

section
variable {K : PySem.W.Frag} {M : List Addr} {σ : St} {H H' : Hp} {te ta tb tc tl : TE} {tt tu : TT} {d d' d1 d2 d3 : PyData} {b : Bool} {v : V} {vs : List V}
theorem da1 (h : DaAll K M H vs [d]) : ∃ v, vs = [v] ∧ Da K M H v d := by
  cases h with
  | cons h1 h2 => cases h2; exact ⟨_, rfl, h1⟩
theorem da2 (h : DaAll K M H vs [d1, d2]) : ∃ v1 v2, vs = [v1, v2] ∧ Da K M H v1 d1 ∧ Da K M H v2 d2 := by
  cases h with
  | cons h1 h2 =>
    obtain ⟨_, rfl, h3⟩ := da1 h2
    exact ⟨_, _, rfl, h1, h3⟩
theorem da3 (h : DaAll K M H vs [d1, d2, d3]) : ∃ v1 v2 v3, vs = [v1, v2, v3] ∧ Da K M H v1 d1 ∧ Da K M H v2 d2 ∧ Da K M H v3 d3 := by
  cases h with
  | cons h1 h2 =>
    obtain ⟨_, _, rfl, h3, h4⟩ := da2 h2
    exact ⟨_, _, _, rfl, h1, h3, h4⟩
/-! isinstance -/
def tyN : PyData → String
  | .none => "NoneType"
  | .bool _ => "bool"
  | .int _ => "int"
  | .str _ => "str"
  | .list _ => "list"
  | .tuple _ => "tuple"
  | .dict _ => "dict"
theorem tyx_of (h : Dp K H v d) : TyX K H v (.type (tyN d)) := by
  cases h with
  | non => exact .base .non
  | bl b => exact .base (.bl b)
  | int i => exact .base (.int i)
  | str x => exact .base (.str x)
  | lst hs _ =>
    rcases hs with (hs | ⟨o, hs⟩) | ⟨o, _, _, hk, hc, _⟩
    · exact .base (.lst hs)
    · exact .base (.frz hs)
    · exact .kList hk hc
  | tup hs _ =>
    rcases hs with (hs | ⟨o, hs⟩) | ⟨o, _, _, hk, hc, _⟩
    · exact .base (.tup hs)
    · exact .fTuple hs
    · exact .kTuple hk hc
theorem ed_isi {n : String} (h : ED K M te σ H d) (hk : kitB (tyN d) n = some b) : ED K M (tCB (rIsi K) (tCons te (tCons (tC (.ty n)) tNil))) σ H (.bool b) := fun H1 e Q q =>
  h H1 e _ fun v H2 e2 hv => ⟨v, .ty n, .type (tyN d), .type n, b, rfl, .ty n, tyx_of hv.dp, kit_ty hk, q _ H2 e2 (.bl b)⟩
theorem ed_isi2 {n m : String} {b1 b2 : Bool} (h : ED K M te σ H d) (hk : kitB (tyN d) n = some b1) (hk2 : kitB (tyN d) m = some b2) :
    ED K M (tCB (rIsiT K) (tCons te (tCons (tTup (tCons (tC (.ty n)) (tCons (tC (.ty m)) tNil))) tNil))) σ H (.bool (b1 || b2)) := fun H1 e Q q =>
  h H1 e _ fun v H2 e2 hv => ⟨by show 2 ≤ sizeLine; decide, fun p hp => ⟨v, p, [.ty n, .ty m], .type (tyN d), [.type n, .type m], b1 || b2, rfl, upd_same, .cons (.ty n) (.cons (.ty m) .nil), tyx_of (hv.mono (Ex.new hp)).dp, by
    refine kitAny_cons (kit_ty hk) (fun z => ?_) (fun z => ?_)
    · subst z
      refine kitAny_cons (kit_ty hk2) (fun z => ?_) (fun z => ?_)
      · subst z; exact kitAny_nil
      · subst z; rfl
    · subst z; rfl, q _ _ (e2.trans (Ex.new hp)) (.bl _)⟩⟩
/-! comparisons -/
theorem ed_chain {f g : Int → Int → Bool} {i j k : Int} (ha : ED K M ta σ H (.int i)) (hb : ED K M tb σ H (.int j)) (hc : ED K M tc σ H (.int k)) :
    ED K M (tChain (rI0 fun i j => .bl (f i j)) (rI0 fun i j => .bl (g i j)) ta tb tc) σ H (.bool (f i j && g j k)) := fun H1 e Q q =>
  ha H1 e _ fun x H2 e2 hx => hb H2 (e.trans e2) _ fun y H3 e3 hy => by
    rw [da_int hx, da_int hy]
    refine ⟨i, j, rfl, rfl, f i j, rfl, ?_⟩
    cases hf : f i j with
    | true =>
      show tc σ H3 _
      refine hc H3 ((e.trans e2).trans e3) _ fun z H4 e4 hz => ?_
      rw [da_int hz]
      refine ⟨j, k, rfl, rfl, q _ H4 ((e2.trans e3).trans e4) ?_⟩
      rw [hf, Bool.true_and]
      exact .bl (g j k)
    | false =>
      refine q _ H3 (e2.trans e3) ?_
      rw [hf, Bool.false_and]
      exact .bl false
theorem ed_eqS {x y : Str} (ha : ED K M ta σ H (.str x)) (hb : ED K M tb σ H (.str y)) : ED K M (tOp rEq ta tb) σ H (.bool (decide (x = y))) :=
  ed_op ha hb fun v w H1 _ hx hy Q q => by
    rw [da_str hx, da_str hy]
    refine ⟨rfl, q _ H1 (Ex.refl H1) ?_⟩
    have e : decide (V.str x = V.str y) = decide (x = y) := decide_eq_decide.mpr ⟨fun z => V.str.inj z, fun z => by rw [z]⟩
    rw [e]; exact .bl _
theorem ed_neS {x y : Str} (ha : ED K M ta σ H (.str x)) (hb : ED K M tb σ H (.str y)) : ED K M (tOp rNe ta tb) σ H (.bool (!decide (x = y))) :=
  ed_op ha hb fun v w H1 _ hx hy Q q => by
    rw [da_str hx, da_str hy]
    refine ⟨rfl, q _ H1 (Ex.refl H1) ?_⟩
    have e : decide (V.str x = V.str y) = decide (x = y) := decide_eq_decide.mpr ⟨fun z => V.str.inj z, fun z => by rw [z]⟩
    rw [e]; exact .bl _
theorem ed_eqI {x y : Int} (ha : ED K M ta σ H (.int x)) (hb : ED K M tb σ H (.int y)) : ED K M (tOp rEq ta tb) σ H (.bool (decide (x = y))) :=
  ed_op ha hb fun v w H1 _ hx hy Q q => by
    rw [da_int hx, da_int hy]
    refine ⟨rfl, q _ H1 (Ex.refl H1) ?_⟩
    have e : decide (V.int x = V.int y) = decide (x = y) := decide_eq_decide.mpr ⟨fun z => V.int.inj z, fun z => by rw [z]⟩
    rw [e]; exact .bl _
theorem ed_neI {x y : Int} (ha : ED K M ta σ H (.int x)) (hb : ED K M tb σ H (.int y)) : ED K M (tOp rNe ta tb) σ H (.bool (!decide (x = y))) :=
  ed_op ha hb fun v w H1 _ hx hy Q q => by
    rw [da_int hx, da_int hy]
    refine ⟨rfl, q _ H1 (Ex.refl H1) ?_⟩
    have e : decide (V.int x = V.int y) = decide (x = y) := decide_eq_decide.mpr ⟨fun z => V.int.inj z, fun z => by rw [z]⟩
    rw [e]; exact .bl _
theorem ed_neB {x y : Bool} (ha : ED K M ta σ H (.bool x)) (hb : ED K M tb σ H (.bool y)) : ED K M (tOp rNe ta tb) σ H (.bool (!decide (x = y))) :=
  ed_op ha hb fun v w H1 _ hx hy Q q => by
    rw [da_bl hx, da_bl hy]
    refine ⟨rfl, q _ H1 (Ex.refl H1) ?_⟩
    have e : decide (V.bl x = V.bl y) = decide (x = y) := decide_eq_decide.mpr ⟨fun z => V.bl.inj z, fun z => by rw [z]⟩
    rw [e]; exact .bl _
theorem ed_inSign {c : Nat} {z : Str} (ha : ED K M ta σ H (.str ⟨#[c]⟩)) (hb : ED K M tb σ H (.str z)) : ED K M (tOp rInSign ta tb) σ H (.bool (decide (c ∈ z.cps.toList))) :=
  ed_op ha hb fun v w H1 _ hx hy Q q => ⟨c, z, da_str hx, da_str hy, q _ H1 (Ex.refl H1) (.bl _)⟩
theorem ed_allF {α : Type} {l : List α} {f : α → Bool} (h : ED K M te σ H (.list (l.map fun a => .bool (f a)))) : ED K M (tCB (rAll K) (tCons te tNil)) σ H (.bool (l.all f)) :=
  (ed_all (bs := l.map f) (h.is (by rw [List.map_map]; rfl))).is (by rw [List.all_map]; rfl)
theorem ed_anyF {α : Type} {l : List α} {f : α → Bool} (h : ED K M te σ H (.list (l.map fun a => .bool (f a)))) : ED K M (tCB (rAny K) (tCons te tNil)) σ H (.bool (l.any f)) :=
  (ed_any (bs := l.map f) (h.is (by rw [List.map_map]; rfl))).is (by rw [List.any_map]; rfl)
/-- a text in a sequence of texts, told as it is -/
theorem ed_inS {k : Bool} {x : Str} {ys : List Str} (ha : ED K M ta σ H (.str x)) (hb : ED K M tb σ H (sq k (ys.map PyData.str))) : ED K M (tOp (rIn K false) ta tb) σ H (.bool (decide (x ∈ ys))) := (ed_in ha hb).is (by simp)
theorem ed_niS {k : Bool} {x : Str} {ys : List Str} (ha : ED K M ta σ H (.str x)) (hb : ED K M tb σ H (sq k (ys.map PyData.str))) : ED K M (tOp (rIn K true) ta tb) σ H (.bool (!decide (x ∈ ys))) := (ed_in ha hb).is (by simp)
/-! the target of a comprehension takes its item -/
theorem step_name {j : Nat} {vs : List Nat} {d : PyData} (hw : wipe ((wipe σ vs).set j (some v)) vs = wipe σ vs) (ht : EvT tt ((wipe σ vs).set j (some v)) H b) (he : b = true → ED K M te ((wipe σ vs).set j (some v)) H d) :
    LcStep K M σ H (gName j) tt te vs v b d := ⟨_, fun _ r => r, hw, ht, he⟩
theorem step_tri {i j k : Nat} {vs : List Nat} {d : PyData} (h : Da K M H v (.tuple [d1, d2, d3])) (hw : ∀ v1 v2 v3, wipe ((((wipe σ vs).set i (some v1)).set j (some v2)).set k (some v3)) vs = wipe σ vs)
    (st : ∀ v1 v2 v3, Da K M H v1 d1 → Da K M H v2 d2 → Da K M H v3 d3 → EvT tt ((((wipe σ vs).set i (some v1)).set j (some v2)).set k (some v3)) H b ∧ (b = true → ED K M te ((((wipe σ vs).set i (some v1)).set j (some v2)).set k (some v3)) H d)) :
    LcStep K M σ H (gTup K 3 (gCons (gName i) (gCons (gName j) (gCons (gName k) gNil)))) tt te vs v b d := by
  cases h with
  | @tup a xs _ hs ha =>
    obtain ⟨v1, v2, v3, rfl, h1, h2, h3⟩ := da3 (K := K) (M := M) (H := H) ha
    obtain ⟨s1, s2⟩ := st v1 v2 v3 h1 h2 h3
    refine ⟨_, fun R r => ?_, hw v1 v2 v3, s1, s2⟩
    exact ⟨a, [v1, v2, v3], rfl, ex_t ex_hid hs, rfl, v1, _, rfl, v2, _, rfl, v3, _, rfl, rfl, r⟩
end

/-! ### this program's data -/
theorem eqvAll_strs : ∀ xs ys : List Str, PyData.eqvAll (xs.map PyData.str) (ys.map PyData.str) = decide (xs = ys)
  | [], [] => by simp [PyData.eqvAll]
  | [], y :: ys => by simp [PyData.eqvAll]
  | x :: xs, [] => by simp [PyData.eqvAll]
  | x :: xs, y :: ys => by
    rw [List.map_cons, List.map_cons, PyData.eqvAll, eqvAll_strs xs ys]
    show ((x == y) && decide (xs = ys)) = _
    by_cases h : x = y
    · subst h; simp
    · have e : (x == y) = false := beq_eq_false_iff_ne.mpr h
      rw [e, Bool.false_and, decide_eq_false]
      intro z
      exact h (List.cons.inj z).1
theorem eqv_Ts (xs ys : List Str) : PyData.eqv (dTs xs) (dTs ys) = decide (xs = ys) := by unfold dTs; rw [PyData.eqv]; exact eqvAll_strs xs ys
theorem eqv_Ls (xs ys : List Str) : PyData.eqv (dLs xs) (dLs ys) = decide (xs = ys) := by unfold dLs; rw [PyData.eqv]; exact eqvAll_strs xs ys
theorem wd_ok {x : Str} (h : Wd x) : PyData.strOk x = true := by
  unfold PyData.strOk
  rw [Array.all_eq_true]
  intro i hi
  have m : x.cps[i] ∈ x.cps.toList := Array.getElem_mem_toList hi
  have q := h.2.2 _ m
  have all : ∀ c ∈ ("abcdefghijklmnopqrstuvwxyz" : Str).cps.toList, c < 0x110000 := by decide +kernel
  exact decide_eq_true (all _ q)
theorem lay_strs : ∀ {xs : List Str}, (∀ x ∈ xs, Wd x) → PyData.canLayAll0 (xs.map PyData.str) = true
  | [], _ => by simp [PyData.canLayAll0]
  | x :: xs, h => by
    rw [List.map_cons, PyData.canLayAll0, lay_strs fun y hy => h y (List.mem_cons_of_mem _ hy)]
    have := wd_ok (h x List.mem_cons_self)
    simp [PyData.canLay0, this]
theorem depth_strs : ∀ xs : List Str, PyData.depthAll (xs.map PyData.str) = 0
  | [] => by simp [PyData.depthAll]
  | x :: xs => by rw [List.map_cons, PyData.depthAll, depth_strs xs]; simp [PyData.depth]
theorem shaped_Ts {xs : List Str} (h : ∀ x ∈ xs, Wd x) : SeqAt.shaped (dTs xs) = true := by
  unfold SeqAt.shaped dTs
  rw [PyData.canLay0, PyData.depth, lay_strs h, depth_strs]; rfl
theorem shaped_Ls {xs : List Str} (h : ∀ x ∈ xs, Wd x) : SeqAt.shaped (dLs xs) = true := by
  unfold SeqAt.shaped dLs
  rw [PyData.canLay0, PyData.depth, lay_strs h, depth_strs]; rfl
/-- lists of lists, of tuples of texts -/
theorem lay_map {f : List Str → PyData} (hf : ∀ r, (∀ x ∈ r, Wd x) → (f r).canLay0 = true) : ∀ {rows : List (List Str)}, (∀ r ∈ rows, ∀ x ∈ r, Wd x) → PyData.canLayAll0 (rows.map f) = true
  | [], _ => by simp [PyData.canLayAll0]
  | r :: rows, h => by
    rw [List.map_cons, PyData.canLayAll0, lay_map hf fun y hy => h y (List.mem_cons_of_mem _ hy), hf r (h r List.mem_cons_self)]; rfl
theorem depth_map {f : List Str → PyData} (hf : ∀ r, (f r).depth ≤ 1) : ∀ rows : List (List Str), PyData.depthAll (rows.map f) ≤ 1
  | [] => by simp [PyData.depthAll]
  | r :: rows => by
    rw [List.map_cons, PyData.depthAll]
    have := hf r
    have := depth_map hf rows
    omega
theorem shaped_rows {f : List Str → PyData} (h1 : ∀ r, (∀ x ∈ r, Wd x) → (f r).canLay0 = true) (h2 : ∀ r, (f r).depth ≤ 1) {rows : List (List Str)} (h : ∀ r ∈ rows, ∀ x ∈ r, Wd x) : SeqAt.shaped (.list (rows.map f)) = true := by
  unfold SeqAt.shaped
  rw [PyData.canLay0, PyData.depth, lay_map h1 h]
  have := depth_map h2 rows
  rw [Bool.true_and]
  exact decide_eq_true (by omega)
theorem shaped_rowsL {rows : List (List Str)} (h : ∀ r ∈ rows, ∀ x ∈ r, Wd x) : SeqAt.shaped (.list (rows.map dLs)) = true :=
  shaped_rows (fun r hr => SeqAt.canLay_of_shaped (shaped_Ls hr)) (fun r => by unfold dLs; rw [PyData.depth, depth_strs]; exact Nat.le_refl _) h
theorem shaped_rowsT {rows : List (List Str)} (h : ∀ r ∈ rows, ∀ x ∈ r, Wd x) : SeqAt.shaped (.list (rows.map dTs)) = true :=
  shaped_rows (fun r hr => SeqAt.canLay_of_shaped (shaped_Ts hr)) (fun r => by unfold dTs; rw [PyData.depth, depth_strs]; exact Nat.le_refl _) h
theorem any_rowsL (rows : List (List Str)) (r : List Str) : ((rows.map dLs).any fun z => PyData.eqv z (dLs r)) = decide (r ∈ rows) := by
  induction rows with
  | nil => simp
  | cons x rows ih =>
    rw [List.map_cons, List.any_cons, ih, eqv_Ls]
    by_cases h : x = r
    · subst h; simp
    · have h' : ¬ r = x := fun z => h z.symm
      simp [h, h']
theorem shaped_nil : SeqAt.shaped (.list []) = true := by unfold SeqAt.shaped; rw [PyData.canLay0, PyData.canLayAll0, PyData.depth, PyData.depthAll]; rfl
/-- a list is the empty one -/
theorem eqv_nil (ds : List PyData) : PyData.eqv (.list ds) (.list []) = decide (ds = []) := by
  cases ds with
  | nil => simp [PyData.eqv, PyData.eqvAll]
  | cons d ds => simp [PyData.eqv, PyData.eqvAll]
theorem map_nil {α β : Type} {f : α → β} (l : List α) : decide (l.map f = []) = decide (l = []) := decide_eq_decide.mpr List.map_eq_nil_iff

/-! ### a def, its walk and its reading -/
theorem df_mk {P : Program} {w : World} {K : PySem.W.Frag} {mg : Str → Option Value} {base : Heap} {x : Str} {st : Stmt} {f : Addr} {fd : FuncData} {N ps : List Str} {k : Nat} {sp : Sp} {t : TS} (A : AtDef K mg x st f fd) (sc : FnScope N ps (defScope st))
    (hb : ∀ (kV doc pm : Value) (an : Option Addr) (cdv ct : Value) (us : List Value), us.length = ps.length → bindArgs (PySem.W.fnOf x x (defArgs st) (defBody st) (defScope st) .none kV doc pm an cdv ct) ⟨us, []⟩ = pure (ps.zip us))
    (len : ∀ vs H Q E, sp vs H Q E → vs.length = ps.length)
    (wk : ∀ (cdv : Value) (A : Around) (outer : List Env) (s : Shared) (H : Hp) (E : XK), Room k (A.deeper (PyProof.Rows.envOfC x (defScope st) s.heap.objs.size f cdv)) → PSs (cxOf CX0 P w K mg base N x (defScope st) f cdv A outer s H E).nox (defBody st) t)
    (rd : ∀ vs H Q E, sp vs H Q E → t { nx := fun _ H' => Q .non H', rt := Q } (start N vs) H) : Df P w K mg base (k + 1) x ps sp :=
  ⟨f, fd, A.1.ok sc len fun cdv A outer s H vs Q E hr h => ⟨t, wk cdv A outer s H E hr, rd vs H Q E h⟩, A.2, A.1.kp, A.1.binds hb⟩
theorem len_spD {K : PySem.W.Frag} {C : List PyData → PyData → Prop} {n : Nat} (hC : ∀ ds d, C ds d → ds.length = n) : ∀ vs H Q E, spD K C vs H Q E → vs.length = n := fun vs H Q E h => by
  obtain ⟨M, ds, d, _, hds, c, _⟩ := h
  rw [dpAll_len hds]
  exact hC ds d c
end Rt

/-! The program's defs: each reading keeps its promise. -/
namespace Rt
open PySem L2 Evl RtM

section
variable {K : PySem.W.Frag} {M : List Addr} {H H' : Hp} {σ : St} {v : V} {d : PyData} {te tl : TE}
/-- the data of an argument, seen later -/
theorem kit_s : kitB "str" "str" = some true := by decide +kernel
theorem kit_t : kitB "tuple" "tuple" = some true := by decide +kernel
theorem kit_l : kitB "list" "list" = some true := by decide +kernel
theorem kit_tl : kitB "tuple" "list" = some false := by decide +kernel
theorem kit_lt : kitB "list" "tuple" = some false := by decide +kernel
theorem kit_b : kitB "bool" "bool" = some true := by decide +kernel
theorem ev_at {i : Nat} (e : σ[i]? = some (some v)) (h : Da K M H v d) (x : Ex H H') : ED K M (tVar i) σ H' d := ed_var e (h.mono x)

theorem r_is_word (vs : List V) (H : Hp) (Q : VK) (E : XK) (h : sp_is_word K vs H Q E) : t_is_word K { nx := fun _ H' => Q .non H', rt := Q } (start ["value", "sign"] vs) H := by
  obtain ⟨M, ds, d, hM, hds, ⟨x, rfl, hx, rfl⟩, q⟩ := h
  obtain ⟨v0, rfl, h0⟩ := da1 hds
  refine qd_skip ?_ fun H1 e1 => ?_
  · refine et_is (et_or (et_not (et_b (ed_isi (ed_var rfl h0) kit_s))) fun _ => et_not (et_t (ed_chain ed_int (ed_lenT (ed_var rfl h0) (by have := hx.2.1; omega)) ed_int))) ?_
    have a1 : decide ((1 : Int) ≤ (x.length : Int)) = true := decide_eq_true (by have := hx.1; omega)
    have a2 : decide ((x.length : Int) ≤ (8 : Int)) = true := decide_eq_true (by have := hx.2.1; omega)
    rw [a1, a2]; rfl
  · refine sd_ret (d := .bool true) ?_ fun v H2 e2 hv => q v H2 (e1.trans e2) hv
    refine ED.is (ed_allF (l := x.cps.toList) (f := fun c => decide (c ∈ ("abcdefghijklmnopqrstuvwxyz" : Str).cps.toList)) (ed_lcS (hM.mono e1) (ev_at rfl h0 e1) (by have := hx.2.1; omega) (fun _ => rfl) fun c hc M' H2 ex => ?_)) ?_
    · exact ed_inSign (ed_var rfl (.str _)) ed_str
    · congr 1
      rw [List.all_eq_true]
      exact fun c hc => decide_eq_true (hx.2.2 c hc)
theorem r_is_row (vs : List V) (H : Hp) (Q : VK) (E : XK) (h : sp_is_row K vs H Q E) : t_is_row K { nx := fun _ H' => Q .non H', rt := Q } (start ["value"] vs) H := by
  obtain ⟨M, ds, d, hM, hds, ⟨k, l, rfl, rfl⟩, q⟩ := h
  obtain ⟨v0, rfl, h0⟩ := da1 hds
  refine sd_ret (d := .bool true) ?_ q
  cases k with
  | true => exact ed_isi2 (ed_var rfl h0) kit_tl kit_t
  | false => exact ed_isi2 (ed_var rfl h0) kit_l kit_lt
theorem ed_lenDc {α : Type} {l : List α} {enc : α → PyData} {key : α → Str} {k : Bool} {g : TG} {tk : TE} {vs : List Nat} (hM : Al M H) (hs : ED K M tl σ H (sq k (l.map enc))) (hz : l.length ≤ 50000) (nd : (l.map key).Nodup)
    (step : ∀ a ∈ l, ∀ M' v H1, Ext M H M' H1 → Da K M' H1 v (enc a) → ∃ σ2, (∀ R : St → Hp → Prop, R σ2 H1 → g v (wipe σ vs) H1 R) ∧ wipe σ2 vs = wipe σ vs ∧ ED K M' tk σ2 H1 (.str (key a)) ∧ ED K M' (tC (.bl true)) σ2 H1 (.bool true)) :
    ED K M (tCB rLenD (tCons (tDc (iSeq K tl) g tYes tk (tC (.bl true)) vs) tNil)) σ H (.int (l.length : Nat)) := fun H1 e Q q =>
  ed_dc (f := fun _ => .bool true) hM hs hz nd step H1 e (fun v H2 => rLenD [v] H2 Q) fun v H2 e2 hv => by
    obtain ⟨p, kvs, rfl, _, hp, hk, _⟩ := hv
    refine ⟨p, kvs, rfl, hp, ?_⟩
    have e3 := congrArg List.length hk
    rw [List.length_map, List.length_map, List.length_map] at e3
    rw [e3]
    exact q _ H2 e2 (.int _)
theorem r_are_unlike (vs : List V) (H : Hp) (Q : VK) (E : XK) (h : sp_are_unlike K vs H Q E) : t_are_unlike K { nx := fun _ H' => Q .non H', rt := Q } (start ["some", "one"] vs) H := by
  obtain ⟨M, ds, d, hM, hds, ⟨k, xs, rfl, nd, hz, rfl⟩, q⟩ := h
  obtain ⟨v0, rfl, h0⟩ := da1 hds
  refine sd_ret (d := .bool true) ?_ q
  refine ED.is (ed_eqI (ed_lenDc (l := xs) (enc := PyData.str) (key := fun x => x) hM (ed_var rfl h0) (by omega) (by rw [List.map_id']; exact nd) fun a ha M' v H1 ex hv => ⟨_, fun _ r => r, rfl, ed_var rfl hv, ed_bl⟩) (ed_lenS (ed_var rfl h0))) ?_
  rw [List.length_map, decide_eq_true rfl]
theorem r_are_words (vs : List V) (H : Hp) (Q : VK) (E : XK) (h : sp_are_words K vs H Q E) : t_are_words K { nx := fun _ H' => Q .non H', rt := Q } (start ["value", "low", "high", "word"] vs) H := by
  obtain ⟨M, ds, d, hM, hds, ⟨k, xs, lo, hi, rfl, hw, nd, hlo, hhi, hz, rfl⟩, q⟩ := h
  obtain ⟨v0, v1, v2, rfl, h0, h1, h2⟩ := da3 hds
  have hl : xs.length ≤ 100 := by omega
  refine qd_skip ?_ fun H1 e1 => ?_
  · refine et_is (et_or (et_not (et_b (ed_call hM (eda_cons (ed_var rfl h0) eda_nil) ⟨k, _, rfl, rfl⟩))) fun _ => et_or (et_not (et_t (ed_chain (ed_var rfl h1) (ed_lenS (ed_var rfl h0)) (ed_var rfl h2)))) fun _ => et_not (et_b
      (ed_allF (l := xs) (f := fun _ => true) (ed_lc1 (enc := PyData.str) hM (ed_var rfl h0) (by omega) fun a ha M' v H1 ex hv => step_name rfl et_yes fun _ => ed_call ex.al (eda_cons (ed_var rfl hv) eda_nil) ⟨a, rfl, hw a ha, rfl⟩)))) ?_
    rw [List.length_map, decide_eq_true hlo, decide_eq_true hhi]
    simp
  · exact sd_ret (d := .bool true) (ed_call (hM.mono e1) (eda_cons (ev_at rfl h0 e1) eda_nil) ⟨k, xs, rfl, nd, hl, rfl⟩) fun v H2 e2 hv => q v H2 (e1.trans e2) hv
theorem sub_wd {names b : List Str} (hn : Nms names) (hb : b = names.filter fun n => decide (n ∈ b)) : ∀ x ∈ b, Wd x := fun x hx => by
  rw [hb] at hx
  exact hn.wd x (List.mem_filter.mp hx).1
theorem sub_len {names b : List Str} (hn : Nms names) (hb : b = names.filter fun n => decide (n ∈ b)) : b.length ≤ 12 := by
  rw [hb]
  exact Nat.le_trans (List.length_filter_le _ _) hn.hi
theorem r_is_build_of (vs : List V) (H : Hp) (Q : VK) (E : XK) (h : sp_is_build_of K vs H Q E) : t_is_build_of K { nx := fun _ H' => Q .non H', rt := Q } (start ["names", "value", "name"] vs) H := by
  obtain ⟨M, ds, d, hM, hds, ⟨k, names, b, rfl, hn, hb, rfl⟩, q⟩ := h
  obtain ⟨v0, v1, rfl, h0, h1⟩ := da2 hds
  have hw := sub_wd hn hb
  have hl := sub_len hn hb
  have hl2 := hn.hi
  refine qd_skip ?_ fun H1 e1 => ?_
  · refine et_is (et_or (et_not (et_b (ed_isi (ed_var rfl h1) kit_t))) fun _ => et_not (et_b
      (ed_allF (l := b) (f := fun _ => true) (ed_lc1 (k := true) (enc := PyData.str) hM (ed_var rfl h1) (by omega) fun a ha M' v H1 ex hv => step_name rfl et_yes fun _ => ed_call ex.al (eda_cons (ed_var rfl hv) eda_nil) ⟨a, rfl, hw a ha, rfl⟩)))) ?_
    simp
  · refine sd_ret (d := .bool true) ?_ fun v H2 e2 hv => q v H2 (e1.trans e2) hv
    have c : ED K M (tCB (rTupleOf K) (tCons (tLc (iSeq K (tVar 0)) (gName 2) (tTest (tOp (rIn K false) (tVar 2) (tVar 1))) (tVar 2) [2]) tNil)) (start ["names", "value", "name"] [v0, v1]) H1 (dTs b) := by
      refine ED.is (ed_tupleOf (k := false) (hM.mono e1) (ed_lc (l := names) (enc := PyData.str) (p := fun n => decide (n ∈ b)) (f := PyData.str) (hM.mono e1) (ev_at rfl h0 e1) (by omega) fun a ha M' v H2 ex hv => step_name rfl (et_t (ed_inS (k := true) (ed_var rfl hv) (ed_var rfl ((h1.mono e1).ext ex)))) fun _ => ed_var rfl hv)) ?_
      unfold dTs
      rw [← hb]
    refine ED.is (ed_eq (ev_at rfl h1 e1) c (shaped_Ts hw) (shaped_Ts hw)) ?_
    rw [eqv_Ts, decide_eq_true rfl]
theorem r_is_triple (vs : List V) (H : Hp) (Q : VK) (E : XK) (h : sp_is_triple K vs H Q E) : t_is_triple K { nx := fun _ H' => Q .non H', rt := Q } (start ["names", "value"] vs) H := by
  obtain ⟨M, ds, d, hM, hds, ⟨k, names, t, rfl, hn, ht, rfl⟩, q⟩ := h
  obtain ⟨v0, v1, rfl, h0, h1⟩ := da2 hds
  obtain ⟨b, s, l⟩ := t
  have at0 : ∀ {H1}, Ex H H1 → ED K M (tOp (rIx K) (tVar 1) (tC (.int 0))) (start ["names", "value"] [v0, v1]) H1 (dTs b) := fun e => ed_ix (k := true) (i := 0) (ev_at rfl h1 e) ed_int rfl
  have at1 : ∀ {H1}, Ex H H1 → ED K M (tOp (rIx K) (tVar 1) (tC (.int 1))) (start ["names", "value"] [v0, v1]) H1 (.str s) := fun e => ed_ix (k := true) (i := 1) (ev_at rfl h1 e) ed_int rfl
  have at2 : ∀ {H1}, Ex H H1 → ED K M (tOp (rIx K) (tVar 1) (tC (.int 2))) (start ["names", "value"] [v0, v1]) H1 (.bool l) := fun e => ed_ix (k := true) (i := 2) (ev_at rfl h1 e) ed_int rfl
  refine qd_skip ?_ fun H1 e1 => ?_
  · refine et_is (et_or (et_not (et_b (ed_isi (ed_var rfl h1) kit_t))) fun _ => et_or (et_t (ed_neI (ed_lenS (k := true) (ds := [dTs b, .str s, .bool l]) (ed_var rfl h1)) ed_int)) fun _ => et_not (et_b
      (ed_call hM (eda_cons (ed_var rfl h0) (eda_cons (at0 (Ex.refl H)) eda_nil)) ⟨k, names, b, rfl, hn, ht.ord, rfl⟩))) ?_
    rfl
  · refine sd_ret (d := .bool true) ?_ fun v H2 e2 hv => q v H2 (e1.trans e2) hv
    have hs : Wd s := hn.wd s ht.sk
    refine ED.is (ed_and (ed_call (hM.mono e1) (eda_cons (at1 e1) eda_nil) ⟨s, rfl, hs, rfl⟩) fun _ => ed_and (ed_inS (k := k) (at1 e1) (ev_at rfl h0 e1)) fun _ => ed_and (ed_niS (k := true) (at1 e1) (at0 e1)) fun _ => ed_isi (at2 e1) kit_b) ?_
    rw [decide_eq_true (show s ∈ names from ht.sk), decide_eq_false (show ¬ s ∈ b from ht.out)]
    rfl
theorem r_look_at_names (vs : List V) (H : Hp) (Q : VK) (E : XK) (h : sp_look_at_names K vs H Q E) : t_look_at_names K { nx := fun _ H' => Q .non H', rt := Q } (start ["names"] vs) H := by
  obtain ⟨M, ds, d, hM, hds, ⟨k, names, rfl, hn, rfl⟩, q⟩ := h
  obtain ⟨v0, rfl, h0⟩ := da1 hds
  refine sd_skip ?_ fun H1 e1 => q _ H1 e1 .non
  refine et_not (a := true) (et_b (ed_call hM (eda_cons (ed_var rfl h0) (eda_cons ed_int (eda_cons ed_int eda_nil))) ⟨k, names, 1, 12, rfl, hn.wd, hn.nd, ?_, ?_, by omega, rfl⟩))
  · have := hn.lo; omega
  · have := hn.hi; omega
theorem r_are_triples (vs : List V) (H : Hp) (Q : VK) (E : XK) (h : sp_are_triples K vs H Q E) : t_are_triples K { nx := fun _ H' => Q .non H', rt := Q } (start ["names", "value", "triple"] vs) H := by
  obtain ⟨M, ds, d, hM, hds, ⟨k, names, j, seen, rfl, hn, hs, rfl⟩, q⟩ := h
  obtain ⟨v0, v1, rfl, h0, h1⟩ := da2 hds
  have hl := hs.len
  refine sd_ret (d := .bool true) ?_ q
  refine ED.is (ed_and (ed_call hM (eda_cons (ed_var rfl h1) eda_nil) ⟨j, _, rfl, rfl⟩) fun _ => ed_allF (l := seen) (f := fun _ => true) (ed_lc1 (enc := dTri) hM (ed_var rfl h1) (by omega) fun a ha M' v H1 ex hv => step_name rfl et_yes fun _ =>
    ed_call ex.al (eda_cons (ed_var rfl (h0.ext ex)) (eda_cons (ed_var rfl hv) eda_nil)) ⟨k, names, a, rfl, hn, hs.all a ha, rfl⟩)) ?_
  simp
theorem r_look_at_seen (vs : List V) (H : Hp) (Q : VK) (E : XK) (h : sp_look_at_seen K vs H Q E) : t_look_at_seen K { nx := fun _ H' => Q .non H', rt := Q } (start ["names", "seen"] vs) H := by
  obtain ⟨M, ds, d, hM, hds, ⟨k, names, j, seen, rfl, hn, hs, rfl⟩, q⟩ := h
  obtain ⟨v0, v1, rfl, h0, h1⟩ := da2 hds
  refine qd_drop (ed_call hM (eda_cons (ed_var rfl h0) eda_nil) ⟨k, names, rfl, hn, rfl⟩) fun H1 e1 => ?_
  refine sd_skip ?_ fun H2 e2 => q _ H2 (e1.trans e2) .non
  exact et_not (a := true) (et_b (ed_call (hM.mono e1) (eda_cons (ev_at rfl h0 e1) (eda_cons (ev_at rfl h1 e1) eda_nil)) ⟨k, names, j, seen, rfl, hn, hs, rfl⟩))
theorem r_most_wanted (vs : List V) (H : Hp) (Q : VK) (E : XK) (h : sp_most_wanted K vs H Q E) : t_most_wanted K { nx := fun _ H' => Q .non H', rt := Q } (start ["names", "seen", "skill", "rows", "build", "one", "let", "name"] vs) H := by
  obtain ⟨M, ds, d, hM, hds, ⟨k, names, j, seen, s, rfl, hn, hs, rfl⟩, q⟩ := h
  obtain ⟨v0, v1, v2, rfl, h0, h1, h2⟩ := da3 hds
  have hl := hs.len
  have hl2 := hn.hi
  refine qd_asg (K := K) (M := M) (d := .list ((lets seen s).map fun t => dTs t.1)) ?_ fun v3 H1 e1 h3 => ?_
  · exact ed_lc (enc := dTri) (p := fun t : An Str => decide (t.2.1 = s) && t.2.2) hM (ed_var rfl h1) (by omega) fun a ha M' v H1 ex hv => step_tri hv (fun _ _ _ => rfl) fun w1 w2 w3 g1 g2 g3 =>
      ⟨et_and (et_t (ed_eqS (ed_var rfl g2) (ed_var rfl (h2.ext ex)))) fun _ => et_b (ed_var rfl g3), fun _ => ed_var rfl g1⟩
  · refine sd_ret (d := dTs (most names seen s)) ?_ fun v H2 e2 hv => q v H2 (e1.trans e2) hv
    refine ed_tupleOf (k := false) (hM.mono e1) (ed_lc (l := names) (enc := PyData.str) (f := PyData.str) (p := fun n => (!decide (n = s)) && (lets seen s).all fun t => decide (n ∈ t.1)) (hM.mono e1) (ev_at rfl h0 e1) (by omega) fun a ha M' v H2 ex hv =>
      step_name rfl (et_and (et_t (ed_neS (ed_var rfl hv) (ed_var rfl ((h2.mono e1).ext ex)))) fun _ => et_b
        (ed_allF (l := lets seen s) (f := fun t => decide (a ∈ t.1)) (ed_lc1 (k := false) (enc := fun t : An Str => dTs t.1) ex.al (ed_var rfl (h3.ext ex)) (Nat.le_trans (List.length_filter_le _ _) (by omega)) fun t ht M2 v' H3 ex2 hv' =>
          step_name rfl et_yes fun _ => ed_inS (k := true) (ed_var rfl (hv.ext ex2)) (ed_var rfl hv')))) fun _ => ed_var rfl hv)
theorem r_refused_rows (vs : List V) (H : Hp) (Q : VK) (E : XK) (h : sp_refused_rows K vs H Q E) : t_refused_rows K { nx := fun _ H' => Q .non H', rt := Q } (start ["names", "seen", "skill", "most", "name", "build", "one", "let"] vs) H := by
  obtain ⟨M, ds, d, hM, hds, ⟨k, names, j, seen, s, rfl, hn, hs, rfl⟩, q⟩ := h
  obtain ⟨v0, v1, v2, rfl, h0, h1, h2⟩ := da3 hds
  have hl := hs.len
  have hl2 := hn.hi
  refine qd_asg (ed_call hM (eda_cons (ed_var rfl h0) (eda_cons (ed_var rfl h1) (eda_cons (ed_var rfl h2) eda_nil))) ⟨k, names, j, seen, s, rfl, hn, hs, rfl⟩) fun v3 H1 e1 h3 => ?_
  refine sd_ret (d := .list ((refused names seen s).map dLs)) ?_ fun v H2 e2 hv => q v H2 (e1.trans e2) hv
  refine ED.is (ed_lc (l := seen) (enc := dTri) (p := fun t : An Str => decide (t.2.1 = s) && !t.2.2) (f := fun t => dLs ((most names seen s).filter fun n => !decide (n ∈ t.1))) (hM.mono e1) (ev_at rfl h1 e1) (by omega) fun a ha M' v H2 ex hv => step_tri hv (fun _ _ _ => rfl) fun w1 w2 w3 g1 g2 g3 =>
    ⟨et_and (et_t (ed_eqS (ed_var rfl g2) (ed_var rfl ((h2.mono e1).ext ex)))) fun _ => et_not (et_b (ed_var rfl g3)), fun _ =>
      ed_lc (k := true) (l := most names seen s) (enc := PyData.str) (f := PyData.str) (p := fun n => !decide (n ∈ a.1)) ex.al (ed_var rfl (h3.ext ex)) (Nat.le_trans (List.length_filter_le _ _) (by omega)) fun n hn' M2 v' H3 ex2 hv' =>
        step_name rfl (et_t (ed_niS (k := true) (ed_var rfl hv') (ed_var rfl (g1.ext ex2)))) fun _ => ed_var rfl hv'⟩) ?_
  unfold refused refs
  rw [List.map_map]
  rfl
theorem refused_wd {names : List Str} {seen : List (An Str)} {s : Str} (hn : Nms names) : ∀ r ∈ refused names seen s, ∀ x ∈ r, Wd x := fun r hr x hx => by
  obtain ⟨t, _, rfl⟩ := in_refused.mp hr
  exact hn.wd x (in_most.mp (List.mem_filter.mp hx).1).1
theorem most_wd {names : List Str} {seen : List (An Str)} {s : Str} (hn : Nms names) : ∀ x ∈ most names seen s, Wd x := fun x hx => hn.wd x (in_most.mp hx).1
theorem nil_wd : ∀ x ∈ ([] : List Str), Wd x := fun x hx => absurd hx List.not_mem_nil
theorem r_is_explained (vs : List V) (H : Hp) (Q : VK) (E : XK) (h : sp_is_explained K vs H Q E) : t_is_explained K { nx := fun _ H' => Q .non H', rt := Q } (start ["names", "seen", "skill"] vs) H := by
  obtain ⟨M, ds, d, hM, hds, ⟨k, names, j, seen, rfl, hn, hs, rfl⟩, q⟩ := h
  obtain ⟨v0, v1, rfl, h0, h1⟩ := da2 hds
  have hl2 := hn.hi
  refine sd_ret (d := .bool (explained names seen)) ?_ q
  refine ed_not (ed_anyF (l := names) (f := fun s => decide ([] ∈ refused names seen s)) (ed_lc1 (enc := PyData.str) hM (ed_var rfl h0) (by omega) fun a ha M' v H1 ex hv => step_name rfl et_yes fun _ => ?_))
  refine ED.is (ed_inD (ed_lst ex.al eda_nil (by decide)) (ed_call ex.al (eda_cons (ed_var rfl (h0.ext ex)) (eda_cons (ed_var rfl (h1.ext ex)) (eda_cons (ed_var rfl hv) eda_nil))) ⟨k, names, j, seen, a, rfl, hn, hs, rfl⟩) shaped_nil (shaped_rowsL (refused_wd hn))) ?_
  exact congrArg PyData.bool (any_rowsL (refused names seen a) [])
theorem r_greatest_wants (vs : List V) (H : Hp) (Q : VK) (E : XK) (h : sp_greatest_wants K vs H Q E) : t_greatest_wants K { nx := fun _ H' => Q .non H', rt := Q } (start ["names", "seen", "skill"] vs) H := by
  obtain ⟨M, k, names, j, seen, hM, hds, hn, hs, q0, q1⟩ := h
  obtain ⟨v0, v1, rfl, h0, h1⟩ := da2 hds
  have hl2 := hn.hi
  refine qd_drop (ed_call hM (eda_cons (ed_var rfl h0) (eda_cons (ed_var rfl h1) eda_nil)) ⟨k, names, j, seen, rfl, hn, hs, rfl⟩) fun H1 e1 => ?_
  refine q_when (b := !explained names seen) (et_not (et_b (ed_call (hM.mono e1) (eda_cons (ev_at rfl h0 e1) (eda_cons (ev_at rfl h1 e1) eda_nil)) ⟨k, names, j, seen, rfl, hn, hs, rfl⟩))) (fun hb H2 e2 => ?_) fun hb H2 e2 => ?_
  · have hx : explained names seen = false := by simpa using hb
    exact q0 hx H2 (e1.trans e2)
  · have hx : explained names seen = true := by simpa using hb
    have e12 := e1.trans e2
    refine ed_dc (l := names) (enc := PyData.str) (key := fun x => x) (f := fun s => dTs (most names seen s)) (hM.mono e12) (ev_at rfl h0 e12) (by omega) (by rw [List.map_id']; exact hn.nd) (fun a ha M' v H3 ex hv => ⟨(wipe (start ["names", "seen", "skill"] [v0, v1]) [2]).set 2 (some v), fun _ r => r, rfl, ed_var rfl hv, ?_⟩) H2 (Ex.refl H2) _ fun v H3 e3 hv => ?_
    · exact ed_call ex.al (eda_cons (ed_var rfl ((h0.mono e12).ext ex)) (eda_cons (ed_var rfl ((h1.mono e12).ext ex)) (eda_cons (ed_var rfl hv) eda_nil))) ⟨k, names, j, seen, a, rfl, hn, hs, rfl⟩
    · rw [List.map_id'] at hv
      exact q1 hx v H3 (e12.trans e3) hv
theorem r_look_at_question (vs : List V) (H : Hp) (Q : VK) (E : XK) (h : sp_look_at_question K vs H Q E) : t_look_at_question K { nx := fun _ H' => Q .non H', rt := Q } (start ["names", "seen", "skill"] vs) H := by
  obtain ⟨M, ds, d, hM, hds, ⟨k, names, j, seen, s, rfl, hn, hs, hsn, rfl⟩, q⟩ := h
  obtain ⟨v0, v1, v2, rfl, h0, h1, h2⟩ := da3 hds
  refine qd_drop (ed_call hM (eda_cons (ed_var rfl h0) (eda_cons (ed_var rfl h1) eda_nil)) ⟨k, names, j, seen, rfl, hn, hs, rfl⟩) fun H1 e1 => ?_
  refine sd_skip ?_ fun H2 e2 => q _ H2 (e1.trans e2) .non
  refine et_is (et_or (et_not (et_b (ed_call (hM.mono e1) (eda_cons (ev_at rfl h2 e1) eda_nil) ⟨s, rfl, hn.wd s hsn, rfl⟩))) fun _ => et_t (ed_niS (k := k) (ev_at rfl h2 e1) (ev_at rfl h0 e1))) ?_
  rw [decide_eq_true hsn]; rfl
theorem r_must (vs : List V) (H : Hp) (Q : VK) (E : XK) (h : sp_must K vs H Q E) : t_must K { nx := fun _ H' => Q .non H', rt := Q } (start ["names", "seen", "skill", "rows", "name"] vs) H := by
  obtain ⟨M, ds, d, hM, hds, ⟨k, names, j, seen, s, rfl, hn, hs, hsn, rfl⟩, q⟩ := h
  obtain ⟨v0, v1, v2, rfl, h0, h1, h2⟩ := da3 hds
  have hl2 := hn.hi
  refine qd_drop (ed_call hM (eda_cons (ed_var rfl h0) (eda_cons (ed_var rfl h1) (eda_cons (ed_var rfl h2) eda_nil))) ⟨k, names, j, seen, s, rfl, hn, hs, hsn, rfl⟩) fun H1 e1 => ?_
  refine q_when (b := !explained names seen) (et_not (et_b (ed_call (hM.mono e1) (eda_cons (ev_at rfl h0 e1) (eda_cons (ev_at rfl h1 e1) eda_nil)) ⟨k, names, j, seen, rfl, hn, hs, rfl⟩))) (fun hb H2 e2 => ?_) fun hb H2 e2 => ?_
  · have hx : explained names seen = false := by simpa using hb
    refine sd_ret (K := K) (M := M) (ed_lst (hM.mono (e1.trans e2)) eda_nil (by decide)) fun v H3 e3 hv => q v H3 ((e1.trans e2).trans e3) ?_
    unfold mustOf
    rw [hx]
    exact hv
  · have hx : explained names seen = true := by simpa using hb
    have e12 := e1.trans e2
    refine qd_asg (ed_call (hM.mono e12) (eda_cons (ev_at rfl h0 e12) (eda_cons (ev_at rfl h1 e12) (eda_cons (ev_at rfl h2 e12) eda_nil))) ⟨k, names, j, seen, s, rfl, hn, hs, rfl⟩) fun v3 H3 e3 h3 => ?_
    have e13 := e12.trans e3
    refine sd_ret (d := dLs (mustOf names seen s)) ?_ fun v H4 e4 hv => q v H4 (e13.trans e4) hv
    unfold mustOf
    rw [hx]
    refine ed_lc (l := names) (enc := PyData.str) (f := PyData.str) (p := fun n => decide ([n] ∈ refused names seen s)) (hM.mono e13) (ev_at rfl h0 e13) (by omega) fun a ha M' v H4 ex hv => step_name rfl (et_t (K := K) (M := M') ?_) fun _ => ed_var rfl hv
    refine ED.is (ed_inD (d1 := dLs [a]) (ed_lst ex.al (eda_cons (ed_var rfl hv) eda_nil) (by simp)) (ed_var rfl (h3.ext ex)) (shaped_Ls fun x hx => by rw [List.mem_singleton.mp hx]; exact hn.wd a ha) (shaped_rowsL (refused_wd hn))) ?_
    exact congrArg PyData.bool (any_rowsL (refused names seen s) [a])
theorem r_may (vs : List V) (H : Hp) (Q : VK) (E : XK) (h : sp_may K vs H Q E) : t_may K { nx := fun _ H' => Q .non H', rt := Q } (start ["names", "seen", "skill"] vs) H := by
  obtain ⟨M, ds, d, hM, hds, ⟨k, names, j, seen, s, rfl, hn, hs, hsn, rfl⟩, q⟩ := h
  obtain ⟨v0, v1, v2, rfl, h0, h1, h2⟩ := da3 hds
  refine qd_drop (ed_call hM (eda_cons (ed_var rfl h0) (eda_cons (ed_var rfl h1) (eda_cons (ed_var rfl h2) eda_nil))) ⟨k, names, j, seen, s, rfl, hn, hs, hsn, rfl⟩) fun H1 e1 => ?_
  refine sd_ret (d := dLs (mayOf names seen s)) ?_ fun v H2 e2 hv => q v H2 (e1.trans e2) hv
  refine ed_if (b := explained names seen) (et_b (ed_call (hM.mono e1) (eda_cons (ev_at rfl h0 e1) (eda_cons (ev_at rfl h1 e1) eda_nil)) ⟨k, names, j, seen, rfl, hn, hs, rfl⟩)) (fun hx => ?_) fun hx => ?_
  · unfold mayOf
    rw [hx]
    exact ed_listOf (k := true) (hM.mono e1) (ed_call (hM.mono e1) (eda_cons (ev_at rfl h0 e1) (eda_cons (ev_at rfl h1 e1) (eda_cons (ev_at rfl h2 e1) eda_nil))) ⟨k, names, j, seen, s, rfl, hn, hs, rfl⟩)
  · unfold mayOf
    rw [hx]
    exact ed_lst (ds := []) (hM.mono e1) eda_nil (by decide)
theorem must_wd {names : List Str} {seen : List (An Str)} {s : Str} (hn : Nms names) : ∀ x ∈ mustOf names seen s, Wd x := fun x hx => by
  unfold mustOf at hx
  split at hx
  · exact hn.wd x (List.mem_filter.mp hx).1
  · exact absurd hx List.not_mem_nil
theorem may_wd {names : List Str} {seen : List (An Str)} {s : Str} (hn : Nms names) : ∀ x ∈ mayOf names seen s, Wd x := fun x hx => by
  unfold mayOf at hx
  split at hx
  · exact most_wd hn x hx
  · exact absurd hx List.not_mem_nil
theorem r_next_ask (vs : List V) (H : Hp) (Q : VK) (E : XK) (h : sp_next_ask K vs H Q E) : t_next_ask K { nx := fun _ H' => Q .non H', rt := Q } (start ["names", "seen", "skill"] vs) H := by
  obtain ⟨M, ds, d, hM, hds, ⟨k, names, j, seen, s, rfl, hn, hs, hsn, rfl⟩, q⟩ := h
  obtain ⟨v0, v1, v2, rfl, h0, h1, h2⟩ := da3 hds
  have as : EDA K M (tCons (tVar 0) (tCons (tVar 1) (tCons (tVar 2) tNil))) (start ["names", "seen", "skill"] [v0, v1, v2]) H [dNm k names, dSn j seen, .str s] := eda_cons (ed_var rfl h0) (eda_cons (ed_var rfl h1) (eda_cons (ed_var rfl h2) eda_nil))
  refine sd_ret ((ed_ne (ed_call hM as ⟨k, names, j, seen, s, rfl, hn, hs, hsn, rfl⟩) (ed_call hM as ⟨k, names, j, seen, s, rfl, hn, hs, hsn, rfl⟩) (shaped_Ls (may_wd hn)) (shaped_Ls (must_wd hn))).is ?_) q
  rw [eqv_Ls]
end
end Rt

/-! Arithmetic, lists that grow, the pool, dicts that are filled: for the law's own defs. -/
namespace Rt
open PySem L2 Evl RtM

section
variable {K : PySem.W.Frag} {M M' : List Addr} {σ : St} {H H' : Hp} {te ta tb tc tl : TE} {tt tu : TT} {d d' d1 d2 d3 : PyData} {b : Bool} {v : V} {vs : List V} {i j : Int}
/-! ### ints -/
theorem ed_add (ha : ED K M ta σ H (.int i)) (hb : ED K M tb σ H (.int j)) : ED K M (tOp (rI0 fun i j => .int (i + j)) ta tb) σ H (.int (i + j)) := ed_I0 ha hb fun _ => .int _
theorem ed_sub (ha : ED K M ta σ H (.int i)) (hb : ED K M tb σ H (.int j)) : ED K M (tOp (rI0 fun i j => .int (i - j)) ta tb) σ H (.int (i - j)) := ed_I0 ha hb fun _ => .int _
theorem ed_lt (ha : ED K M ta σ H (.int i)) (hb : ED K M tb σ H (.int j)) : ED K M (tOp (rI0 fun i j => .bl (decide (i < j))) ta tb) σ H (.bool (decide (i < j))) := ed_I0 ha hb fun _ => .bl _
theorem ed_gt (ha : ED K M ta σ H (.int i)) (hb : ED K M tb σ H (.int j)) : ED K M (tOp (rI0 fun i j => .bl (decide (j < i))) ta tb) σ H (.bool (decide (j < i))) := ed_I0 ha hb fun _ => .bl _
theorem ed_ge (ha : ED K M ta σ H (.int i)) (hb : ED K M tb σ H (.int j)) : ED K M (tOp (rI0 fun i j => .bl (decide (j ≤ i))) ta tb) σ H (.bool (decide (j ≤ i))) := ed_I0 ha hb fun _ => .bl _
theorem ed_mul (ha : ED K M ta σ H (.int i)) (hb : ED K M tb σ H (.int j)) (hc : CMul i j) : ED K M (tOp (rI CMul fun i j => .int (i * j)) ta tb) σ H (.int (i * j)) := ed_I ha hb hc fun _ => .int _
theorem ed_mod (ha : ED K M ta σ H (.int i)) (hb : ED K M tb σ H (.int j)) (hc : 0 < j) : ED K M (tOp (rI (fun _ j => 0 < j) fun i j => .int (i % j)) ta tb) σ H (.int (i % j)) := ed_I ha hb hc fun _ => .int _
theorem ed_div (ha : ED K M ta σ H (.int i)) (hb : ED K M tb σ H (.int j)) (hc : CDiv i j) : ED K M (tOp (rI CDiv fun i j => .int (i / j)) ta tb) σ H (.int (i / j)) := ed_I ha hb hc fun _ => .int _
theorem ed_pow (ha : ED K M ta σ H (.int i)) (hb : ED K M tb σ H (.int j)) (hc : CPow i j) : ED K M (tOp (rI CPow fun i j => .int (i ^ j.toNat)) ta tb) σ H (.int (i ^ j.toNat)) := ed_I ha hb hc fun _ => .int _
theorem ed_neg (ha : ED K M ta σ H (.int i)) : ED K M (tUn (rU fun i => .int (-i)) ta) σ H (.int (-i)) := ed_un ha fun x H1 _ hx Q q => ⟨i, da_int hx, q _ H1 (Ex.refl H1) (.int _)⟩
theorem ed_int1 (h : ED K M te σ H (.int i)) : ED K M (tCB rInt1 (tCons te tNil)) σ H (.int i) := fun H1 e Q q =>
  h H1 e _ fun v H2 e2 hv => .inl ⟨i, by rw [da_int hv], q _ H2 e2 (.int i)⟩
theorem ed_int1b (h : ED K M te σ H (.bool b)) : ED K M (tCB rInt1 (tCons te tNil)) σ H (.int (if b then 1 else 0)) := fun H1 e Q q =>
  h H1 e _ fun v H2 e2 hv => .inr ⟨b, by rw [da_bl hv], q _ H2 e2 (.int _)⟩
theorem ed_max2 (ha : ED K M ta σ H (.int i)) (hb : ED K M tb σ H (.int j)) : ED K M (tCB rMax2_ (tCons ta (tCons tb tNil))) σ H (.int (if j > i then j else i)) := fun H1 e Q q =>
  ha H1 e _ fun x H2 e2 hx => hb H2 (e.trans e2) _ fun y H3 e3 hy => ⟨i, j, by rw [da_int hx, da_int hy], q _ H3 (e2.trans e3) (.int _)⟩
theorem ed_min2 (ha : ED K M ta σ H (.int i)) (hb : ED K M tb σ H (.int j)) : ED K M (tCB rMin2_ (tCons ta (tCons tb tNil))) σ H (.int (if j < i then j else i)) := fun H1 e Q q =>
  ha H1 e _ fun x H2 e2 hx => hb H2 (e.trans e2) _ fun y H3 e3 hy => ⟨i, j, by rw [da_int hx, da_int hy], q _ H3 (e2.trans e3) (.int _)⟩
/-! ### lists made: display, +, *, slice -/
variable {ds ds' ds1 ds2 : List PyData}
theorem tl_lst {ta : TA} (hM : Al M H) (h : EDA K M ta σ H ds) (hl : ds.length ≤ 100000) : EDL K M (tLst ta) σ H ds := fun H1 e Q q =>
  h H1 e _ fun vs H2 e2 hv => ⟨by rw [dpAll_len hv]; exact sz_of hl, fun p hp => q _ _ (e2.trans (Ex.new hp)) ⟨p, vs, rfl, hide_new (hM.mono (e.trans e2)) hp, hv.mono (Ex.new hp)⟩⟩
theorem tl_cat (hM : Al M H) (ha : EDL K M ta σ H ds1) (hb : EDL K M tb σ H ds2) (hl : ds1.length + ds2.length ≤ 100000) : EDL K M (tOp rCat ta tb) σ H (ds1 ++ ds2) := fun H1 e Q q =>
  ha H1 e _ fun x H2 e2 hx => hb H2 (e.trans e2) _ fun y H3 e3 hy => by
    obtain ⟨p1, v1, rfl, hp1, hd1⟩ := hx.mono e3
    obtain ⟨p2, v2, rfl, hp2, hd2⟩ := hy
    refine ⟨p1, p2, v1, v2, rfl, rfl, (hide_in hp1).2, (hide_in hp2).2, ?_, fun p hp => ?_⟩
    · rw [dpAll_len hd1, dpAll_len hd2]
      exact sz_of hl
    · have hM3 := hM.mono ((e.trans e2).trans e3)
      exact q _ _ ((e2.trans e3).trans (Ex.new hp)) ⟨p, v1 ++ v2, rfl, hide_new hM3 hp, dpAll_app (hd1.mono (Ex.new hp)) (hd2.mono (Ex.new hp))⟩
theorem dpAll_rep : ∀ n : Nat, DpAll K H vs ds → DpAll K H (List.replicate n vs).flatten (List.replicate n ds).flatten
  | 0, _ => .nil
  | n + 1, h => by
    rw [List.replicate_succ, List.replicate_succ, List.flatten_cons, List.flatten_cons]
    exact dpAll_app h (dpAll_rep n h)
theorem tl_rep {n : Nat} (hM : Al M H) (ha : EDL K M ta σ H ds) (hb : ED K M tb σ H (.int (n : Int))) (hl : ds.length * n ≤ 100000) (hn : n ≤ 100000) : EDL K M (tOp rRep ta tb) σ H (List.replicate n ds).flatten := fun H1 e Q q =>
  ha H1 e _ fun x H2 e2 hx => hb H2 (e.trans e2) _ fun y H3 e3 hy => by
    obtain ⟨p1, v1, rfl, hp1, hd1⟩ := hx.mono e3
    rw [da_int hy]
    refine ⟨p1, (n : Int), v1, rfl, rfl, (hide_in hp1).2, by omega, by omega, ?_, fun p hp => ?_⟩
    · rw [dpAll_len hd1, Int.toNat_natCast]
      exact sz_of hl
    · have hM3 := hM.mono ((e.trans e2).trans e3)
      refine q _ _ ((e2.trans e3).trans (Ex.new hp)) ⟨p, _, rfl, hide_new hM3 hp, ?_⟩
      rw [Int.toNat_natCast]
      exact dpAll_rep n (hd1.mono (Ex.new hp))
def cutD (ds : List PyData) (lo hi : Option Int) : List PyData := (ds.drop (HT.sIx ds.length 0 lo)).take (HT.sIx ds.length ds.length hi - HT.sIx ds.length 0 lo)
def EDO (to : TO) (σ : St) (H : Hp) (o : Option Int) : Prop := ∀ H1, Ex H H1 → ∀ Q : Option Int → Hp → Prop, (∀ H2, Ex H1 H2 → Q o H2) → to σ H1 Q
theorem edo_none : EDO tNoPart σ H none := fun H1 _ Q q => q H1 (Ex.refl H1)
theorem edo_int (h : ED K M te σ H (.int i)) : EDO (tPart te) σ H (some i) := fun H1 e Q q => h H1 e _ fun v H2 e2 hv => ⟨i, da_int hv, q H2 e2⟩
theorem tl_slice {tlo thi : TO} {lo hi : Option Int} (hM : Al M H) (ha : ED K M ta σ H (.list ds)) (hlo : EDO tlo σ H lo) (hhi : EDO thi σ H hi) : EDL K M (tSl (rSlL K) ta tlo thi) σ H (cutD ds lo hi) := fun H1 e Q q =>
  ha H1 e _ fun x H2 e2 hx => hlo H2 (e.trans e2) _ fun H3 e3 => hhi H3 ((e.trans e2).trans e3) _ fun H4 e4 => by
    have hx4 := hx.mono (e3.trans e4)
    cases hx4 with
    | @lst a vs _ hs hd =>
      refine ⟨a, vs, rfl, ex_l ex_hid hs, fun p hp => q _ _ (((e2.trans e3).trans e4).trans (Ex.new hp)) ⟨p, _, rfl, hide_new (hM.mono (((e.trans e2).trans e3).trans e4)) hp, ?_⟩⟩
      have l := dpAll_len hd
      unfold cutV cutD
      rw [l]
      exact dpAll_mono (ex_hide (Ex.new hp)) _ _ (dpAll_take _ (dpAll_drop _ hd))
/-- a tuple and one item more -/
theorem ed_catA (hM : Al M H) (ha : ED K M ta σ H (.tuple ds1)) (hb : ED K M tb σ H (.tuple ds2)) (hl : ds1.length + ds2.length ≤ 100000) : ED K M (tOp (rCatA K) ta tb) σ H (.tuple (ds1 ++ ds2)) := fun H1 e Q q =>
  ha H1 e _ fun x H2 e2 hx => hb H2 (e.trans e2) _ fun y H3 e3 hy => by
    have hx3 := hx.mono e3
    cases hx3 with
    | @tup a va _ hsa hda =>
      cases hy with
      | @tup b vb _ hsb hdb =>
        have la := dpAll_len hda
        have lb := dpAll_len hdb
        refine ⟨a, b, va, vb, rfl, rfl, ex_t ex_hid hsa, ex_t ex_hid hsb, by rw [la, lb]; exact sz_of hl, fun z => ?_, fun _ z => ?_, fun _ _ p hp => ?_⟩
        · subst z
          cases hda
          exact q _ _ (e2.trans e3) (.tup hsb hdb)
        · subst z
          cases hdb
          refine q _ _ (e2.trans e3) ?_
          rw [List.append_nil]
          exact .tup hsa hda
        · exact q _ _ ((e2.trans e3).trans (Ex.new hp)) (.tup (.inl (.inl (hide_new (hM.mono ((e.trans e2).trans e3)) hp))) (dpAll_mono (ex_hide (Ex.new hp)) _ _ (dpAll_app hda hdb)))
/-! ### statements over them -/
variable {D : Ends} {tz : TS}
theorem s_tl {n : Nat} (h : EDL K M te σ H ds) (k : ∀ v H1, Ex H H1 → Tr K M H1 v ds → D.nx (σ.set n (some v)) H1) : tAsg te (gName n) D σ H := h H (Ex.refl H) _ fun v H1 e hv => k v H1 e hv
theorem q_tl {n : Nat} (h : EDL K M te σ H ds) (k : ∀ v H1, Ex H H1 → Tr K M H1 v ds → tz D (σ.set n (some v)) H1) : tSeq (tAsg te (gName n)) tz D σ H := s_tl (D := { D with nx := tz D }) h k
theorem s_retlst {ta : TA} (h : EDA K M ta σ H ds) (hl : ds.length ≤ 100000) (k : ∀ vs p H1, Ex H H1 → DaAll K M H1 vs ds → H1 p = none → D.rt (.ref p) (upd H1 p (.lst vs))) : tRet (tLst ta) D σ H :=
  h H (Ex.refl H) _ fun vs H1 e hv => ⟨by rw [dpAll_len hv]; exact sz_of hl, fun p hp => k vs p H1 e hv hp⟩
theorem q_for {α : Type} {l : List α} {enc : α → PyData} {k : Bool} {g : TG} {tu1 : TS} (hs : ED K M tl σ H (sq k (l.map enc))) (Pv : Nat → St → Hp → Prop) (h0 : ∀ H1, Ex H H1 → Pv 0 σ H1)
    (step : ∀ H2, Ex H H2 → ∀ (i : Nat) a v σ' H', l[i]? = some a → Pv i σ' H' → Ex (hide M H2) (hide M H') → Da K M H' v (enc a) →
      g v σ' H' fun σ3 H3 => tu1 { D with nx := fun σ4 H4 => Pv (i + 1) σ4 H4 ∧ Ex (hide M H2) (hide M H4), ct := fun σ4 H4 => Pv (i + 1) σ4 H4 ∧ Ex (hide M H2) (hide M H4), bk := tz D } σ3 H3)
    (hd : ∀ σ' H', Pv l.length σ' H' → Ex (hide M H) (hide M H') → tz D σ' H') : tSeq (tFor (iSeq K tl) g tu1) tz D σ H := sd_for (D := { D with nx := tz D }) hs Pv h0 step hd
theorem q_dnew {n : Nat} (k : ∀ p, H p = none → tz D (σ.set n (some (.ref p))) (upd H p (.dK []))) : tSeq (tAsg tDNewK (gName n)) tz D σ H := k
theorem q_lnew {n : Nat} (k : ∀ p, H p = none → tz D (σ.set n (some (.ref p))) (upd H p (.lst []))) : tSeq (tAsg (tLst tNil) (gName n)) tz D σ H := ⟨Nat.zero_le _, k⟩
/-- if t: x = e, x an int ahead and behind -/
theorem q_ifint {n : Nat} {c0 : Int} (h : EvT tt σ H b) (h1 : b = true → ∃ c : Int, ED K M te σ H (.int c)) (h2 : σ.set n (some (.int c0)) = σ) (k : ∀ (c : Int) H1, Ex H H1 → tz D (σ.set n (some (.int c))) H1) : tSeq (tIfS tt (tAsg te (gName n)) tNext) tz D σ H :=
  q_when h (fun hb H1 e1 => by
    obtain ⟨c, hc⟩ := h1 hb
    exact sd_asg (D := { D with nx := tz D }) (hc.mono e1) fun v H2 e2 hv => by
      rw [da_int hv]
      exact k c H2 (e1.trans e2)) fun hb H1 e1 => by
    have g := k c0 H1 e1
    rw [h2] at g
    exact g
/-! ### the pool -/
theorem Drawn.pre {p : Addr} {H1 : Hp} (e : Ex H H1) (h : Drawn p H1 H') : Drawn p H H' := ⟨(ex_hide e).trans h.1, h.2⟩
theorem Drawn.post {p : Addr} {H1 : Hp} (h : Drawn p H H1) (e : Ex H1 H') : Drawn p H H' := ⟨h.1.trans (ex_hide e), by
  obtain ⟨x, y, hp, r⟩ := h.2
  exact ⟨x, y, e p _ hp, r⟩⟩
theorem Drawn.trans {p : Addr} {H1 : Hp} (h : Drawn p H H1) (k : Drawn p H1 H') : Drawn p H H' := ⟨h.1.trans k.1, k.2⟩
theorem pool_mono {p : Addr} (h : Pool H p) (e : Ex H H') : Pool H' p := by
  obtain ⟨x, y, hp, r⟩ := h
  exact ⟨x, y, e p _ hp, r⟩
theorem pool_ne {p : Addr} (h : Pool H p) : H p ≠ none := by
  obtain ⟨x, y, hp, _⟩ := h
  rw [hp]; exact fun z => nomatch z
theorem Drawn.at {p q : Addr} {o : HO} (h : Drawn p H H') (n : q ≠ p) (e : H q = some o) : H' q = some o :=
  (hide_in (h.1 q o (hide_of (fun z => n (List.mem_singleton.mp z)) e))).2
theorem Drawn.ext {p : Addr} (h : Drawn p H H') (hp : p ∈ M) (a : Al M H) : Ext M H M H' := by
  refine ⟨fun b o q => ?_, fun b hb => ?_⟩
  · obtain ⟨c, q⟩ := hide_in q
    exact hide_of c (h.at (fun z => c (by rw [z]; exact hp)) q)
  · by_cases z : b = p
    · rw [z]; exact pool_ne h.2
    · cases q : H b with
      | none => exact absurd q (a b hb)
      | some o => rw [h.at z q]; exact fun z => nomatch z
/-- a call of take: any number below the bound -/
theorem ed_take {p : Addr} {n : Nat} {bd : Int} (e : σ[n]? = some (some (.ref p))) (hP : Pool H p) (h : ED K M te σ H (.int bd)) (h0 : 0 < bd) (h1 : bd < 1000) (Q : VK) (q : ∀ (r : Nat) H', (r : Int) < bd → Drawn p H H' → Q (.int (r : Int)) H') :
    tCall (sp_L_take K) [] E0 (tCons (tVar n) (tCons te tNil)) σ H Q :=
  ⟨.ref p, e, h H (Ex.refl H) _ fun v H1 e1 hv => by
    rw [da_int hv]
    exact ⟨p, bd, rfl, pool_mono hP e1, h0, h1, fun r H' hr dr => q r H' hr (dr.pre e1)⟩⟩
/-- a call of one: any of the things -/
theorem ed_one {p : Addr} {n : Nat} {k : Bool} (e : σ[n]? = some (some (.ref p))) (hP : Pool H p) (hp : p ∈ M) (hM : Al M H) (h : ED K M te σ H (sq k ds)) (h0 : 0 < ds.length) (h1 : ds.length < 1000) (Q : VK) (q : ∀ d ∈ ds, ∀ v' H', Drawn p H H' → Da K M H' v' d → Q v' H') :
    tCall (sp_L_one K) [] E0 (tCons (tVar n) (tCons te tNil)) σ H Q :=
  ⟨.ref p, e, h H (Ex.refl H) _ fun v H1 e1 hv => ⟨M, p, v, k, ds, rfl, pool_mono hP e1, hp, hM.mono e1, hv, h0, h1, fun d hd v' H' dr hv' => q d hd v' H' (dr.pre e1) hv'⟩⟩
theorem q_one {p : Addr} {n i : Nat} {k : Bool} (e : σ[n]? = some (some (.ref p))) (hP : Pool H p) (hp : p ∈ M) (hM : Al M H) (h : ED K M te σ H (sq k ds)) (h0 : 0 < ds.length) (h1 : ds.length < 1000)
    (q : ∀ d ∈ ds, ∀ v' H', Drawn p H H' → Da K M H' v' d → tz D (σ.set i (some v')) H') : tSeq (tAsg (tCall (sp_L_one K) [] E0 (tCons (tVar n) (tCons te tNil))) (gName i)) tz D σ H := ed_one e hP hp hM h h0 h1 _ q
/-! ### a dict that is read -/
theorem valV_at {kvs : List (Key × V)} {keys : List Str} {ds : List PyData} {i : Nat} {x : Str} {d : PyData} (nd : keys.Nodup) (hk : kvs.map (·.1) = keys.map (Sum.inr : Str → Key)) (hd : DpAll K H (kvs.map (·.2)) ds) (hx : keys[i]? = some x) (hi : ds[i]? = some d) :
    ∃ v, valV kvs (Sum.inr x) = some v ∧ Dp K H v d := by
  obtain ⟨v, hv, hdv⟩ := dpAll_get hd hi
  refine ⟨v, ?_, hdv⟩
  rw [List.getElem?_map] at hv
  obtain ⟨pr, hpr, rfl⟩ := Option.map_eq_some_iff.mp hv
  have hk1 : pr.1 = Sum.inr x := by
    have := congrArg (·[i]?) hk
    simp only [List.getElem?_map, hpr, hx, Option.map_some] at this
    exact Option.some.inj this
  -- the first pair with this key is that one
  have fst : ∀ (l : List (Key × V)) (i : Nat), (l.map (·.1)).Nodup → l[i]? = some pr → valV l pr.1 = some pr.2 := by
    intro l
    induction l with
    | nil => intro i _ h; simp at h
    | cons y l ih =>
      intro i nd h
      rw [List.map_cons, List.nodup_cons] at nd
      cases i with
      | zero =>
        have : y = pr := by simpa using h
        rw [this]; exact valV_pos rfl
      | succ i =>
        have h' : l[i]? = some pr := by simpa using h
        have ne : ¬ y.1 = pr.1 := fun z => nd.1 (List.mem_map.mpr ⟨pr, List.mem_of_getElem? h', z.symm⟩)
        rw [valV_neg ne]
        exact ih i nd.2 h'
  rw [← hk1]
  refine fst kvs i ?_ hpr
  rw [hk]
  exact List.Pairwise.map _ (fun a b z q => z (Sum.inr.inj q)) nd
/-- d[k], the dict at a slot -/
theorem ed_dget {n : Nat} {q : Addr} {kvs : List (Key × V)} {x : Str} (e : σ[n]? = some (some (.ref q))) (hq : H q = some (.dK kvs)) (hk : ED K M tb σ H (.str x)) (hv : valV kvs (Sum.inr x) = some v) (hd : Da K M H v d) : ED K M (tDGet (tVar n) tb) σ H d := fun H1 e1 Q k =>
  ⟨.ref q, e, hk H1 e1 _ fun y H2 e2 hy => by
    rw [da_str hy]
    refine ⟨q, v, rfl, ?_, k v H2 e2 (hd.mono (e1.trans e2))⟩
    have g := DGet.k (k := (Sum.inr x : Key)) (e2 q _ (e1 q _ hq))
    rw [hv] at g
    exact g⟩
end
end Rt

/-! The law's own defs: each reading keeps its promise. -/
namespace Rt
open PySem L2 Evl RtM

section
variable {K : PySem.W.Frag} {M : List Addr} {H H' : Hp} {σ : St} {v : V} {d : PyData} {te tl : TE}
theorem dpAll_ints : ∀ ns : List Int, DpAll K H (ns.map V.int) (ns.map PyData.int)
  | [] => .nil
  | n :: ns => .cons (.int n) (dpAll_ints ns)
theorem da_nil (h : Dp K H v d) : Da K [] H v d := by
  have e : hide [] H = H := by
    funext b
    unfold hide
    rw [if_neg List.not_mem_nil]
  unfold Da
  rw [e]; exact h
theorem ev_at' {i : Nat} (e : σ[i]? = some (some v)) (h : Da K M H v d) (x : Ex H H') : ED K M (tVar i) σ H' d := ed_var e (h.mono x)

theorem r_L_pool (vs : List V) (H : Hp) (Q : VK) (E : XK) (h : sp_L_pool K vs H Q E) : t_L_pool K { nx := fun _ H' => Q .non H', rt := Q } (start ["_law_script", "_law_k", "_law_cell", "_law_big", "_law_mixed"] vs) H := by
  obtain ⟨a, ns, k, rfl, hS, hl, hk, q⟩ := h
  have h0 : Da K [] H (.ref a) (.list (ns.map PyData.int)) := da_nil (.lst hS (dpAll_ints ns))
  have h1 : Da K [] H (.int (k : Int)) (.int (k : Int)) := .int _
  refine qd_asg (K := K) (M := []) ed_int fun v2 H1 e1 h2 => ?_
  have e2 := da_int h2
  subst e2
  refine q_ifint (K := K) (M := []) (c0 := 0) (et_t (ed_lt (ed_var (i := 1) rfl (h1.mono e1)) (ed_lenS (k := false) (ed_var (i := 0) rfl (h0.mono e1))))) (fun hb => ?_) rfl fun c H2 e2 => ?_
  · rw [List.length_map] at hb
    have hk' : k < ns.length := by have := of_decide_eq_true hb; omega
    exact ⟨ns[k], ed_ix (k := false) (ds := ns.map PyData.int) (i := k) (d := .int ns[k]) (ed_var (i := 0) rfl (h0.mono e1)) (ed_var (i := 1) rfl (h1.mono e1)) (by rw [List.getElem?_map, List.getElem?_eq_getElem hk']; rfl)⟩
  · have e12 := e1.trans e2
    have h2 : Da K [] H2 (.int c) (.int c) := .int _
    refine qd_asg (ed_max2 (ed_int1 (ed_var (i := 2) rfl h2)) (ed_int1 (ed_sub (ed_neg ed_int) (ed_var (i := 2) rfl h2)))) fun v3 H3 e3 h3 => ?_
    have hb : (0 : Int) ≤ (if (-1 - c) > c then (-1 - c) else c) := by split <;> omega
    generalize (if (-1 - c) > c then (-1 - c) else c) = big at h3 hb
    have e4 := da_int h3
    subst e4
    have h3' : ∀ {H3}, Da K [] H3 (.int big) (.int big) := .int _
    have hk' : ∀ {H3}, Da K [] H3 (.int (k : Int)) (.int (k : Int)) := .int _
    have kb : CMul (7919 : Int) (k : Int) := .inl ⟨by decide, by decide⟩
    refine qd_asg (ed_mod (ed_int1 (ed_mul (ed_add (ed_add (ed_add (ed_mod (ed_int1 (ed_var (i := 3) rfl h3)) ed_int (by decide)) (ed_mul (ed_mul ed_int (ed_var (i := 1) rfl hk') kb) (ed_var (i := 1) rfl hk') (.inr ⟨by omega, by omega⟩))) (ed_mul ed_int (ed_var (i := 1) rfl hk') (.inl ⟨by decide, by decide⟩))) ed_int) ed_int (.inr ⟨by decide, by decide⟩))) ed_int (by decide)) fun v4 H4 e4 h4 => ?_
    have m0 := Int.emod_nonneg ((big % 2147483629 + 7919 * (k : Int) * (k : Int) + 31 * (k : Int) + 17) * 48271) (show (2147483647 : Int) ≠ 0 by decide)
    have m1 := Int.emod_lt_of_pos ((big % 2147483629 + 7919 * (k : Int) * (k : Int) + 31 * (k : Int) + 17) * 48271) (show (0 : Int) < 2147483647 by decide)
    generalize ((big % 2147483629 + 7919 * (k : Int) * (k : Int) + 31 * (k : Int) + 17) * 48271) % 2147483647 = mx at h4 m0 m1
    have e7 := da_int h4
    subst e7
    have cc : CMul big (if decide ((10 : Int) ^ (18 : Int).toNat ≤ big) = true then 1 else 0) := .inr ⟨by split <;> decide, by split <;> decide⟩
    refine s_retlst (K := K) (M := []) (eda_cons (ed_mul (ed_var (i := 3) rfl h3') (ed_int1b (ed_ge (ed_var (i := 3) rfl h3') (ed_pow (i := 10) (j := 18) ed_int ed_int ⟨by decide, by decide, by decide⟩))) cc) (eda_cons (ed_var (i := 4) rfl h4) eda_nil)) (by simp) fun vs p H5 e5 hv hp => ?_
    obtain ⟨w1, w2, rfl, g1, g2⟩ := da2 hv
    have e8 := da_int g1
    have e9 := da_int g2
    subst e8 e9
    have e15 := ((e12.trans e3).trans e4).trans e5
    refine q p _ (fresh_back e15 hp) (e15.trans (Ex.new hp)) ⟨_, _, upd_same, ?_, m0, m1⟩
    split
    · rw [Int.mul_one]; exact hb
    · rw [Int.mul_zero]; exact Int.le_refl 0
/-- one number of the pool is written -/
theorem pool_set {p : Addr} {n j : Nat} {xs : List V} {z : Int} {D : Ends} {tz : TS} (e : σ[n]? = some (some (.ref p))) (hp : H p = some (.lst xs)) (hj : j < xs.length) (h : ED K M te σ H (.int z)) (k : ∀ H1, Ex H H1 → tz D σ (upd H1 p (.lst (xs.set j (.int z))))) :
    tSeq (tAsg te (gSub (tVar n) (tC (.int (j : Int))) rSetL)) tz D σ H := h H (Ex.refl H) _ fun v H1 e1 hv => by
  rw [da_int hv]
  refine ⟨.ref p, e, p, xs, (j : Int), j, rfl, rfl, e1 p _ hp, ?_, k H1 e1⟩
  unfold ixN
  rw [if_pos (by omega), if_pos (by omega), Int.toNat_natCast]
theorem drawn_upd {p : Addr} {x y : Int} (e : Ex H H') (h0 : 0 ≤ x) (h1 : 0 ≤ y) (h2 : y < 2147483647) : Drawn p H (upd H' p (.lst [.int x, .int y])) :=
  ⟨by rw [hide_upd (List.mem_singleton.mpr rfl)]; exact ex_hide e, x, y, upd_same, h0, h1, h2⟩
theorem r_L_take (vs : List V) (H : Hp) (Q : VK) (E : XK) (h : sp_L_take K vs H Q E) : t_L_take K { nx := fun _ H' => Q .non H', rt := Q } (start ["_law_pool_here", "_law_bound", "_law_result"] vs) H := by
  obtain ⟨p, b, rfl, ⟨x, y, hp, hx, hy, hy2⟩, b0, b1, q⟩ := h
  have da : ∀ {H1} {x y : Int}, H1 p = some (.lst [.int x, .int y]) → Da K [] H1 (.ref p) (.list [.int x, .int y]) := fun e => da_nil (.lst (.inl (.inl e)) (.cons (.int _) (.cons (.int _) .nil)))
  have db : ∀ {H1 : Hp}, Da K [] H1 (.int b) (.int b) := .int b
  refine q_when (et_t (ed_gt (ed_ix (k := false) (i := 0) (d := .int x) (ed_var (i := 0) rfl (da hp)) ed_int rfl) ed_int)) (fun hb H1 e1 => ?_) fun hb H1 e1 => ?_
  · have hp1 := e1 p _ hp
    refine qd_asg (ed_mod (ed_int1 (ed_ix (k := false) (i := 0) (d := .int x) (ed_var (i := 0) rfl (da hp1)) ed_int rfl)) (ed_var (i := 1) rfl db) b0) fun v2 H2 e2 h2 => ?_
    have e3 := da_int h2
    subst e3
    have hp2 := e2 p _ hp1
    refine pool_set (K := K) (M := []) (j := 0) rfl hp2 (by simp) (ed_div (ed_ix (k := false) (i := 0) (d := .int x) (ed_var (i := 0) rfl (da hp2)) ed_int rfl) (ed_var (i := 1) rfl db) ⟨b0, by omega⟩) fun H3 e3 => ?_
    have r0 := Int.emod_nonneg x (show b ≠ 0 by omega)
    have r1 := Int.emod_lt_of_pos x b0
    have dr : Drawn p H (upd H3 p (.lst [.int (x / b), .int y])) := drawn_upd ((e1.trans e2).trans e3) (Int.ediv_nonneg hx (by omega)) hy hy2
    have g := q (x % b).toNat (upd H3 p (.lst [.int (x / b), .int y])) (by omega) dr
    rw [Int.toNat_of_nonneg r0] at g
    exact ⟨_, rfl, g⟩
  · have hp1 := e1 p _ hp
    refine pool_set (K := K) (M := []) (j := 1) rfl hp1 (by simp) (ed_mod (ed_int1 (ed_add (ed_mul (ed_ix (k := false) (i := 1) (d := .int y) (ed_var (i := 0) rfl (da hp1)) ed_int rfl) ed_int (.inr ⟨by decide, by decide⟩)) ed_int)) ed_int (by decide)) fun H2 e2 => ?_
    have m0 := Int.emod_nonneg (y * 39373 + 7) (show (2147483647 : Int) ≠ 0 by decide)
    have m1 := Int.emod_lt_of_pos (y * 39373 + 7) (show (0 : Int) < 2147483647 by decide)
    generalize (y * 39373 + 7) % 2147483647 = z at m0 m1
    have dr : Drawn p H (upd H2 p (.lst [.int x, .int z])) := drawn_upd (e1.trans e2) hx m0 m1
    have hp3 : (upd H2 p (.lst ([V.int x, V.int y].set 1 (.int z)))) p = some (.lst [.int x, .int z]) := upd_same
    have at1 : ED K [] (tOp (rIx K) (tVar 0) (tC (.int 1))) (start ["_law_pool_here", "_law_bound", "_law_result"] [.ref p, .int b]) (upd H2 p (.lst ([V.int x, V.int y].set 1 (.int z)))) (.int z) := ed_ix (k := false) (i := 1) (ed_var (i := 0) rfl (da hp3)) ed_int rfl
    refine sd_ret (ed_mod (ed_int1 (ed_div (ed_mod (ed_int1 (ed_mul at1 at1 (.inl ⟨by omega, by omega⟩))) ed_int (by decide)) ed_int ⟨by decide, by decide⟩)) (ed_var (i := 1) rfl db) b0) fun v H3 e3 hv => ?_
    rw [da_int hv]
    have r0 := Int.emod_nonneg (z * z % 2147483629 / 32) (show b ≠ 0 by omega)
    have r1 := Int.emod_lt_of_pos (z * z % 2147483629 / 32) b0
    have g := q (z * z % 2147483629 / 32 % b).toNat H3 (by omega) (dr.post e3)
    rw [Int.toNat_of_nonneg r0] at g
    exact g
theorem r_L_one (vs : List V) (H : Hp) (Q : VK) (E : XK) (h : sp_L_one K vs H Q E) : t_L_one K { nx := fun _ H' => Q .non H', rt := Q } (start ["_law_pool_here", "_law_things"] vs) H := by
  obtain ⟨M, p, v, k, ds, rfl, hP, hp, hM, hv, l0, l1, q⟩ := h
  refine ⟨v, rfl, ?_⟩
  refine ed_take (M := M) rfl hP (ed_lenS (k := k) (ed_var (i := 1) rfl hv)) (by omega) (by omega) _ fun r H1 hr dr => ?_
  have ex := dr.ext hp hM
  obtain ⟨a, vs, rfl, hs, hd⟩ := sq_at (hv.ext ex)
  have hr' : r < ds.length := by omega
  obtain ⟨w, hw, hdw⟩ := dpAll_get hd (List.getElem?_eq_getElem hr')
  have fin := q _ (List.getElem_mem hr') w H1 dr hdw
  rcases hs with ⟨_, hs⟩ | ⟨_, hs⟩
  · exact .inl ⟨a, vs, (r : Int), w, rfl, rfl, ex_l ex_hid hs, atI_nat hw, fin⟩
  · exact .inr (.inl ⟨a, vs, (r : Int), w, rfl, rfl, ex_t ex_hid hs, atI_nat hw, fin⟩)
def names1 : List Str := ["a", "b", "c", "d"]
def names2 : List Str := ["z", "abcdefgh", "a", "b"]
def names3 : List Str := ["d", "c", "b", "a"]
theorem nms_take {l : List Str} (hw : ∀ x ∈ l, Wd x) (nd : l.Nodup) (hl : l.length = 4) {n : Nat} (h : 1 ≤ n) : Nms (l.take n) where
  wd := fun x hx => hw x (List.mem_of_mem_take hx)
  nd := nd.sublist (List.take_sublist n l)
  lo := by rw [List.length_take]; omega
  hi := by rw [List.length_take]; omega
instance (x : Str) : Decidable (Wd x) := by unfold Wd; infer_instance
theorem ok1 : (∀ x ∈ names1, Wd x) ∧ names1.Nodup := by decide +kernel
theorem ok2 : (∀ x ∈ names2, Wd x) ∧ names2.Nodup := by decide +kernel
theorem ok3 : (∀ x ∈ names3, Wd x) ∧ names3.Nodup := by decide +kernel
theorem r_L_told_names (vs : List V) (H : Hp) (Q : VK) (E : XK) (h : sp_L_told_names K vs H Q E) : t_L_told_names K { nx := fun _ H' => Q .non H', rt := Q } (start ["_law_pool_here", "_law_top", "_law_some"] vs) H := by
  obtain ⟨M, p, rfl, hP, hp, hM, q⟩ := h
  have lists : ED K M _ (start ["_law_pool_here", "_law_top", "_law_some"] [.ref p, .int 4]) H (.list [dLs names1, dLs names2, dLs names3]) :=
    ed_lst hM (eda_cons (ed_lst hM (eda_cons ed_str (eda_cons ed_str (eda_cons ed_str (eda_cons ed_str eda_nil)))) (by decide)) (eda_cons (ed_lst hM (eda_cons ed_str (eda_cons ed_str (eda_cons ed_str (eda_cons ed_str eda_nil)))) (by decide)) (eda_cons (ed_lst hM (eda_cons ed_str (eda_cons ed_str (eda_cons ed_str (eda_cons ed_str eda_nil)))) (by decide)) eda_nil))) (by decide)
  refine ed_one (M := M) rfl hP hp hM (k := false) lists (by decide) (by decide) _ fun d hd v2 H1 dr h2 => ?_
  have hl : ∃ l : List Str, d = dLs l ∧ (∀ x ∈ l, Wd x) ∧ l.Nodup ∧ l.length = 4 := by
    rcases List.mem_cons.mp hd with rfl | hd
    · exact ⟨names1, rfl, ok1.1, ok1.2, rfl⟩
    · rcases List.mem_cons.mp hd with rfl | hd
      · exact ⟨names2, rfl, ok2.1, ok2.2, rfl⟩
      · rw [List.mem_singleton.mp hd]
        exact ⟨names3, rfl, ok3.1, ok3.2, rfl⟩
  obtain ⟨l, rfl, hw, nd, l4⟩ := hl
  have ex := dr.ext hp hM
  -- tuple(some[:1 + take(pool, top)])
  refine ⟨v2, rfl, ?_⟩
  show tOp _ _ _ _ H1 _
  refine ed_take (M := M) (σ := [some (.ref p), some (.int 4), some v2]) (n := 0) rfl dr.2 (ed_var (i := 1) rfl (.int 4)) (by decide) (by decide) _ fun r H2 hr dr2 => ?_
  have ex2 := dr2.ext hp ex.al
  have h2' := h2.ext ex2
  cases h2' with
  | @lst a ws _ hs ha =>
    refine ⟨1, (r : Int), rfl, rfl, 1 + (r : Int), rfl, a, ws, rfl, ex_l ex_hid hs, fun c hc => ?_⟩
    have cut : cutV ws none (some (1 + (r : Int))) = ws.take (1 + r) := by
      have ec : (1 + (r : Int)) = ((1 + r : Nat) : Int) := by omega
      unfold cutV
      rw [ec, HT.sIx_none, HT.sIx_nat, List.drop_zero, Nat.sub_zero, ← List.take_take, List.take_length]
    rw [cut]
    refine ⟨c, ws.take (1 + r), rfl, .inl ⟨.inl (.inl upd_same), fun t ht => ?_⟩⟩
    refine q (l.take (1 + r)) (nms_take hw nd l4 (by omega)) (by rw [List.length_take]; omega) (.ref t) _ ((dr.trans dr2).post ((Ex.new hc).trans (Ex.new ht))) ?_
    refine .tup (.inl (.inl (hide_new (ex2.al.mono (Ex.new hc)) ht))) ?_
    rw [List.map_take]
    exact dpAll_mono (ex_hide ((Ex.new hc).trans (Ex.new ht))) _ _ (dpAll_take _ ha)
omit K M H H' σ v d te tl in
theorem partsFrom_snoc {α : Type} : ∀ (xs : List α) (acc : List (List α)) (x : α), partsFrom acc (xs ++ [x]) = partsFrom acc xs ++ (partsFrom acc xs).map fun r => r ++ [x]
  | [], _, _ => rfl
  | y :: ys, acc, x => partsFrom_snoc ys (acc ++ acc.map fun r => r ++ [y]) x
theorem len_partsFrom {α : Type} : ∀ (xs : List α) (acc : List (List α)), (partsFrom acc xs).length = acc.length * 2 ^ xs.length
  | [], acc => by rw [List.length_nil, Nat.pow_zero, Nat.mul_one]; rfl
  | y :: ys, acc => by
    show (partsFrom (acc ++ acc.map fun r => r ++ [y]) ys).length = _
    rw [len_partsFrom ys, List.length_append, List.length_map, List.length_cons, Nat.pow_succ]
    rw [← Nat.two_mul, Nat.mul_comm 2 acc.length, Nat.mul_assoc, Nat.mul_comm 2]
theorem len_parts {α : Type} (xs : List α) (h : xs.length ≤ 4) : (parts xs).length ≤ 16 := by
  unfold parts
  rw [len_partsFrom, List.length_singleton, Nat.one_mul]
  exact Nat.le_trans (Nat.pow_le_pow_right (by decide) h) (by decide)
theorem r_L_parts (vs : List V) (H : Hp) (Q : VK) (E : XK) (h : sp_L_parts K vs H Q E) : t_L_parts K { nx := fun _ H' => Q .non H', rt := Q } (start ["_law_some", "_law_found", "_law_name", "_law_row"] vs) H := by
  obtain ⟨M, ds, d, hM, hds, ⟨k, xs, rfl, hl, rfl⟩, q⟩ := h
  obtain ⟨v0, rfl, h0⟩ := da1 hds
  refine q_tl (tl_lst (K := K) (M := M) hM (eda_cons (ed_tup hM eda_nil (by decide)) eda_nil) (by decide)) fun v1 H1 e1 h1 => ?_
  have hM1 := hM.mono e1
  refine sd_for (K := K) (M := M) (l := xs) (enc := PyData.str) (D := { nx := tRet (tVar 1) { nx := fun _ H' => Q .non H', rt := Q }, rt := Q }) (ed_var rfl (h0.mono e1)) (fun i σ' H' => Ex H H' ∧ ∃ w y2, σ' = [some v0, some w, y2, none] ∧ Tr K M H' w ((parts (xs.take i)).map dTs)) (fun H2 e2 => ⟨e1.trans e2, v1, none, rfl, h1.mono e2⟩) ?_ ?_
  · rintro H2 e2 i x v σ' H' hi ⟨eH, w, y2, rfl, hw⟩ hE hv
    have hMx : Al M H' := hM.mono eH
    show tAsg _ _ _ [some v0, some w, some v, none] H'
    have hi4 : i < xs.length := (List.getElem?_eq_some_iff.mp hi).1
    have lp : (parts (xs.take i)).length ≤ 16 := len_parts _ (by rw [List.length_take]; omega)
    have more : EDL K M (tLc (iSeq K (tVar 1)) (gName 3) tYes (tOp (rCatA K) (tVar 3) (tTup (tCons (tVar 2) tNil))) [3]) [some v0, some w, some v, none] H' ((parts (xs.take i)).map fun r => dTs (r ++ [x])) := by
      refine tl_lc1 (k := false) (enc := dTs) hMx (ed_var rfl hw.da) (by omega) fun r hr M' u H3 ex hu => step_name rfl et_yes fun _ => ?_
      refine ED.is (ed_catA (ds1 := r.map PyData.str) (ds2 := [.str x]) ex.al (ed_var rfl hu) (ed_tup ex.al (eda_cons (ed_var rfl (hv.ext ex)) eda_nil) (by simp)) ?_) ?_
      · rw [List.length_map]
        have := (mem_parts.mp hr).length_le
        rw [List.length_take] at this
        show r.length + 1 ≤ 100000
        omega
      · unfold dTs
        rw [List.map_append]; rfl
    refine s_tl (tl_cat hMx (tl_var rfl hw) more (by rw [List.length_map, List.length_map]; omega)) fun w' H3 e3 hw' => ?_
    refine ⟨⟨eH.trans e3, w', some v, rfl, ?_⟩, hE.trans (ex_hide e3)⟩
    rw [take_more hi]
    unfold parts
    rw [partsFrom_snoc, List.map_append, List.map_map]
    exact hw'
  · rintro σ' H' ⟨eH, w, y2, rfl, hw⟩ hE
    rw [List.take_length] at hw
    exact ⟨w, rfl, q w H' eH hw.da⟩
theorem others_len {names : List Str} {s : Str} (h : names.length ≤ 4) : (others names s).length ≤ 4 := Nat.le_trans (List.length_filter_le _ _) h
/-- [other for other in names if other != skill] -/
theorem ed_others {k : Bool} {names : List Str} {s : Str} {j m : Nat} {ws : V} (hM : Al M H) (h0 : ED K M tl σ H (dNm k names)) (hn : names.length ≤ 4) (hw : ∀ y, wipe ((wipe σ [j]).set j (some y)) [j] = wipe σ [j]) (hj : ∀ y, ((wipe σ [j]).set j (some y))[j]? = some (some y)) (hm : ∀ y, ((wipe σ [j]).set j (some y))[m]? = some (some ws)) (hs : Da K M H ws (.str s)) :
    ED K M (tLc (iSeq K tl) (gName j) (tTest (tOp rNe (tVar j) (tVar m))) (tVar j) [j]) σ H (dNm false (others names s)) :=
  ed_lc (l := names) (enc := PyData.str) (f := PyData.str) (p := fun n => !decide (n = s)) hM h0 (by omega) fun a ha M' v H2 ex hv => step_name (hw _) (et_t (ed_neS (ed_var (hj _) hv) (ed_var (hm _) (hs.ext ex)))) fun _ => ed_var (hj _) hv
theorem shaped_strs {xs : List Str} (h : ∀ x ∈ xs, Wd x) : SeqAt.shaped (.list (xs.map PyData.str)) = true := shaped_Ls h
theorem flat_rep (b : Bool) (d : PyData) : (List.replicate (if b then 1 else 0) [d]).flatten = if b then [d] else [] := by cases b <;> rfl
theorem dTri_shaped {names : List Str} {t : An Str} (hn : Nms names) (h : An1 names t) : (dTri t).canLay0 = true := by
  have hb : ∀ x ∈ t.1, Wd x := fun x hx => by
    rw [h.ord] at hx
    exact hn.wd x (List.mem_filter.mp hx).1
  have c1 := SeqAt.canLay_of_shaped (shaped_Ts hb)
  have c2 := wd_ok (hn.wd _ h.sk)
  unfold dTri
  simp only [PyData.canLay0, PyData.canLayAll0, c1, c2]
  rfl
theorem dTri_depth (t : An Str) : (dTri t).depth ≤ 2 := by
  unfold dTri dTs
  simp only [PyData.depth, PyData.depthAll, depth_strs]
  decide
theorem seen_lay : ∀ {names : List Str} {seen : List (An Str)}, Nms names → (∀ t ∈ seen, An1 names t) → PyData.canLayAll0 (seen.map dTri) = true
  | _, [], _, _ => by simp [PyData.canLayAll0]
  | names, t :: seen, hn, h => by
    rw [List.map_cons, PyData.canLayAll0, dTri_shaped hn (h t List.mem_cons_self), seen_lay hn fun u hu => h u (List.mem_cons_of_mem _ hu)]; rfl
theorem seen_depth : ∀ seen : List (An Str), PyData.depthAll (seen.map dTri) ≤ 2
  | [] => by simp [PyData.depthAll]
  | t :: seen => by
    rw [List.map_cons, PyData.depthAll]
    have := dTri_depth t
    have := seen_depth seen
    omega
theorem shaped_seen {names : List Str} {seen : List (An Str)} (hn : Nms names) (h : ∀ t ∈ seen, An1 names t) : SeqAt.shaped (.list (seen.map dTri)) = true := by
  unfold SeqAt.shaped
  rw [PyData.canLay0, PyData.depth, seen_lay hn h]
  have := seen_depth seen
  rw [Bool.true_and]
  exact decide_eq_true (by omega)
theorem r_L_fitting (vs : List V) (H : Hp) (Q : VK) (E : XK) (h : sp_L_fitting K vs H Q E) : t_L_fitting K { nx := fun _ H' => Q .non H', rt := Q } (start ["_law_names", "_law_seen", "_law_skill", "_law_found", "_law_row", "_law_other", "_law_bad", "_law_one_here", "_law_name"] vs) H := by
  obtain ⟨M, ds, d, hM, hds, ⟨k, names, j, seen, s, rfl, hn, hn4, hs, rfl⟩, q⟩ := h
  obtain ⟨v0, v1, v2, rfl, h0, h1, h2⟩ := da3 hds
  have hl := hs.len
  refine q_tl (tl_lst (K := K) (M := M) hM eda_nil (by decide)) fun v3 H1 e1 h3 => ?_
  have hM1 := hM.mono e1
  refine sd_for (K := K) (M := M) (D := { nx := tRet (tVar 3) { nx := fun _ H' => Q .non H', rt := Q }, rt := Q }) (k := false) (l := parts (others names s)) (enc := dTs) (ed_call hM1 (eda_cons (ed_others (j := 5) (m := 2) hM1 (ed_var (i := 0) rfl (h0.mono e1)) hn4 (fun _ => rfl) (fun _ => rfl) (fun _ => rfl) (h2.mono e1)) eda_nil) ⟨false, _, rfl, others_len hn4, rfl⟩) (fun i σ' H' => Ex H H' ∧ ∃ w y4 y6, σ' = [some v0, some v1, some v2, some w, y4, none, y6, none, none] ∧ Tr K M H' w ((((parts (others names s)).take i).filter (fits seen s)).map dTs)) (fun H2 e2 => ⟨e1.trans e2, v3, none, none, rfl, h3.mono e2⟩) ?_ ?_
  · rintro H2 e2 i row v σ' H' hi ⟨eH, w, y4, y6, rfl, hw⟩ hE hv
    have hMx : Al M H' := hM.mono eH
    have hrow : row ∈ parts (others names s) := List.mem_of_getElem? hi
    have rwd : ∀ x ∈ row, Wd x := fun x hx => by
      have := (mem_parts.mp hrow).subset hx
      unfold others at this
      exact hn.wd x (List.mem_filter.mp this).1
    have rlen : row.length ≤ 4 := Nat.le_trans (mem_parts.mp hrow).length_le (others_len hn4)
    have hi16 : i < 16 := by
      have := (List.getElem?_eq_some_iff.mp hi).1
      have := len_parts (others names s) (others_len hn4)
      omega
    show tSeq (tAsg _ (gName 6)) (tAsg _ (gName 3)) _ [some v0, some v1, some v2, some w, some v, none, y6, none, none] H'
    refine qd_asg (K := K) (M := M) (d := .list ((seen.filter (bad row s)).map dTri)) ?_ fun v6 H3 e3 h6 => ?_
    · refine ed_lc (k := j) (l := seen) (enc := dTri) (f := dTri) (p := bad row s) hMx (ed_var (i := 1) rfl (h1.mono eH)) (by omega) fun t ht M' u H3 ex hu => ?_
      have at0 : ∀ {σ1 : St} {M2 : List Addr} {H4 : Hp}, σ1[7]? = some (some u) → Ext M' H3 M2 H4 → ED K M2 (tOp (rIx K) (tVar 7) (tC (.int 0))) σ1 H4 (dTs t.1) := fun e x => ed_ix (k := true) (i := 0) (ed_var e (hu.ext x)) ed_int rfl
      have at1 : ∀ {σ1 : St}, σ1[7]? = some (some u) → ED K M' (tOp (rIx K) (tVar 7) (tC (.int 1))) σ1 H3 (.str t.2.1) := fun e => ed_ix (k := true) (i := 1) (ed_var e hu) ed_int rfl
      have at2 : ∀ {σ1 : St}, σ1[7]? = some (some u) → ED K M' (tOp (rIx K) (tVar 7) (tC (.int 2))) σ1 H3 (.bool t.2.2) := fun e => ed_ix (k := true) (i := 2) (ed_var e hu) ed_int rfl
      refine step_name rfl (et_and (et_t (ed_eqS (at1 rfl) (ed_var (i := 2) rfl ((h2.mono eH).ext ex)))) fun _ => et_t (K := K) (M := M') (ed_neB (at2 rfl) ?_)) fun _ => ed_var rfl hu
      refine ED.is (ed_eq (d1 := .list ((row.filter fun n => !decide (n ∈ t.1)).map PyData.str)) (d2 := .list []) ?_ (ed_lst ex.al eda_nil (by decide)) (shaped_Ls fun x hx => rwd x (List.mem_filter.mp hx).1) shaped_nil) ?_
      · exact ed_lc (k := true) (l := row) (enc := PyData.str) (f := PyData.str) (p := fun n => !decide (n ∈ t.1)) ex.al (ed_var (i := 4) rfl (hv.ext ex)) (by omega) fun n hn' M2 u' H4 ex2 hu' => step_name rfl (et_t (ed_niS (k := true) (ed_var rfl hu') (at0 rfl ex2))) fun _ => ed_var rfl hu'
      · rw [eqv_nil, map_nil]
    · have hM3 := hMx.mono e3
      have one : ED K M (tCB rInt1 (tCons (tOp (rEqD K) (tVar 6) (tLst tNil)) tNil)) [some v0, some v1, some v2, some w, some v, none, some v6, none, none] H3 (.int ((if fits seen s row then 1 else 0 : Nat) : Int)) := by
        refine ED.is (ed_int1b (ed_eq (ed_var (i := 6) rfl h6) (ed_lst hM3 eda_nil (by decide)) (shaped_seen hn fun t ht => hs.all t (List.mem_filter.mp ht).1) shaped_nil)) ?_
        rw [eqv_nil, map_nil]
        show PyData.int (if fits seen s row = true then 1 else 0) = _
        cases fits seen s row <;> rfl
      have rep : EDL K M (tOp rRep (tLst (tCons (tVar 4) tNil)) (tCB rInt1 (tCons (tOp (rEqD K) (tVar 6) (tLst tNil)) tNil))) [some v0, some v1, some v2, some w, some v, none, some v6, none, none] H3 (if fits seen s row then [dTs row] else []) := by
        refine EDL.is (tl_rep (n := if fits seen s row then 1 else 0) hM3 (tl_lst hM3 (eda_cons (ed_var (i := 4) rfl (hv.mono e3)) eda_nil) (by simp)) one ?_ ?_) (flat_rep _ _)
        · split <;> simp
        · split <;> omega
      refine s_tl (tl_cat hM3 (tl_var (i := 3) rfl (hw.mono e3)) rep ?_) fun w' H4 e4 hw' => ?_
      · rw [List.length_map]
        have l1 := List.length_filter_le (fits seen s) ((parts (others names s)).take i)
        rw [List.length_take] at l1
        split <;> simp <;> omega
      · refine ⟨⟨(eH.trans e3).trans e4, w', some v, some v6, rfl, ?_⟩, hE.trans (ex_hide (e3.trans e4))⟩
        rw [take_more hi, List.filter_append, List.map_append]
        have e5 : ([row].filter (fits seen s)).map dTs = if fits seen s row then [dTs row] else [] := by
          cases hf : fits seen s row with
          | true => rw [List.filter_cons, if_pos hf]; rfl
          | false => rw [List.filter_cons, if_neg (by rw [hf]; exact Bool.false_ne_true)]; rfl
        rw [e5]
        exact hw'
  · rintro σ' H' ⟨eH, w, y4, y6, rfl, hw⟩ hE
    rw [List.take_length] at hw
    exact ⟨w, rfl, q w H' eH hw.da⟩
theorem r_L_union (vs : List V) (H : Hp) (Q : VK) (E : XK) (h : sp_L_union K vs H Q E) : t_L_union K { nx := fun _ H' => Q .non H', rt := Q } (start ["_law_names", "_law_rows", "_law_name", "_law_row"] vs) H := by
  obtain ⟨M, ds, d, hM, hds, ⟨k, names, rows, rfl, hn, hl, hw, rfl⟩, q⟩ := h
  obtain ⟨v0, v1, rfl, h0, h1⟩ := da2 hds
  have hl2 := hn.hi
  refine sd_ret (d := dLs (unionOf names rows)) ?_ q
  refine ed_lc (l := names) (enc := PyData.str) (f := PyData.str) (p := fun n => !decide (rows.filter (fun r => decide (n ∈ r)) = [])) hM (ed_var rfl h0) (by omega) fun a ha M' v H1 ex hv => step_name rfl (et_t (K := K) (M := M') ?_) fun _ => ed_var rfl hv
  refine ED.is (ed_ne (d1 := .list ((rows.filter fun r => decide (a ∈ r)).map dTs)) (d2 := .list []) ?_ (ed_lst ex.al eda_nil (by decide)) (shaped_rowsT fun r hr => hw r (List.mem_filter.mp hr).1) shaped_nil) ?_
  · exact ed_lc (k := false) (l := rows) (enc := dTs) (f := dTs) (p := fun r => decide (a ∈ r)) ex.al (ed_var rfl (h1.ext ex)) (by omega) fun r hr M2 u H2 ex2 hu => step_name rfl (et_t (ed_inS (k := true) (ed_var rfl (hv.ext ex2)) (ed_var rfl hu))) fun _ => ed_var rfl hu
  · rw [eqv_nil, map_nil]
theorem r_L_common (vs : List V) (H : Hp) (Q : VK) (E : XK) (h : sp_L_common K vs H Q E) : t_L_common K { nx := fun _ H' => Q .non H', rt := Q } (start ["_law_names", "_law_rows", "_law_name", "_law_row"] vs) H := by
  obtain ⟨M, ds, d, hM, hds, ⟨k, names, rows, rfl, hn, hl, hw, rfl⟩, q⟩ := h
  obtain ⟨v0, v1, rfl, h0, h1⟩ := da2 hds
  have hl2 := hn.hi
  refine sd_ret (d := dLs (commonOf names rows)) ?_ q
  refine ed_lc (l := names) (enc := PyData.str) (f := PyData.str) (p := fun n => decide (rows.filter (fun r => !decide (n ∈ r)) = [])) hM (ed_var rfl h0) (by omega) fun a ha M' v H1 ex hv => step_name rfl (et_t (K := K) (M := M') ?_) fun _ => ed_var rfl hv
  refine ED.is (ed_eq (d1 := .list ((rows.filter fun r => !decide (a ∈ r)).map dTs)) (d2 := .list []) ?_ (ed_lst ex.al eda_nil (by decide)) (shaped_rowsT fun r hr => hw r (List.mem_filter.mp hr).1) shaped_nil) ?_
  · exact ed_lc (k := false) (l := rows) (enc := dTs) (f := dTs) (p := fun r => !decide (a ∈ r)) ex.al (ed_var rfl (h1.ext ex)) (by omega) fun r hr M2 u H2 ex2 hu => step_name rfl (et_t (ed_niS (k := true) (ed_var rfl (hv.ext ex2)) (ed_var rfl hu))) fun _ => ed_var rfl hu
  · rw [eqv_nil, map_nil]
end
end Rt

/-! The known case of twelve skills; the answers that are drawn. -/
namespace Rt
open PySem L2 Evl RtM

section
variable {K : PySem.W.Frag} {M : List Addr} {H H' : Hp} {σ : St} {v : V} {d : PyData} {te tl tb : TE} {keys : List Str} {ds : List PyData}
/-- evaluates to a dict -/
def EDD (K : PySem.W.Frag) (M : List Addr) (te : TE) (σ : St) (H : Hp) (keys : List Str) (ds : List PyData) : Prop := ∀ H1, Ex H H1 → ∀ Q : VK, (∀ v H2, Ex H1 H2 → DicAt K M H2 v keys ds → Q v H2) → te σ H1 Q
theorem DicAt.mono (h : DicAt K M H v keys ds) (e : Ex H H') : DicAt K M H' v keys ds := by
  obtain ⟨q, kvs, h1, h2, h3, h4, h5⟩ := h
  exact ⟨q, kvs, h1, h2, e q _ h3, h4, h5.mono e⟩
/-- what stands under a key -/
theorem DicAt.val {i : Nat} {x : Str} (nd : keys.Nodup) (hM : Al M H) (h : DicAt K M H v keys ds) (hx : keys[i]? = some x) (hi : ds[i]? = some d) : ∃ q kvs w, v = .ref q ∧ H q = some (.dK kvs) ∧ valV kvs (Sum.inr x) = some w ∧ Da K M H w d := by
  obtain ⟨q, kvs, h1, h2, h3, h4, h5⟩ := h
  obtain ⟨w, hw, hd⟩ := valV_at nd h4 h5 hx hi
  have al : Al (q :: M) H := fun b hb => by
    rcases List.mem_cons.mp hb with z | z
    · rw [z, h3]; exact fun z => nomatch z
    · exact hM b z
  exact ⟨q, kvs, w, h1, h3, hw, Da.ext (M := q :: M) hd (ext_show al)⟩
theorem ed_dgetC {i : Nat} {x : Str} (nd : keys.Nodup) (hM : Al M H) (h : EDD K M te σ H keys ds) (hk : ED K M tb σ H (.str x)) (hx : keys[i]? = some x) (hi : ds[i]? = some d) : ED K M (tDGet te tb) σ H d := fun H1 e Q k =>
  h H1 e _ fun v H2 e2 hv => hk H2 (e.trans e2) _ fun y H3 e3 hy => by
    rw [da_str hy]
    obtain ⟨q, kvs, w, rfl, hq, hw, hd⟩ := DicAt.val nd (hM.mono ((e.trans e2).trans e3)) (hv.mono e3) hx hi
    have g := DGet.k (k := (Sum.inr x : Key)) hq
    rw [hw] at g
    exact ⟨q, w, rfl, g, k w H3 (e2.trans e3) hd⟩
theorem ed_gw {k j : Bool} {names : List Str} {seen : List (An Str)} {ta : TA} (hM : Al M H) (h : EDA K M ta σ H [dNm k names, dSn j seen]) (hn : Nms names) (hs : Sn names seen) (hx : explained names seen = true) : EDD K M (tCall (sp_greatest_wants K) [] E0 ta) σ H names (dMost names seen) := fun H1 e Q q =>
  h H1 e _ fun vs H2 e2 hv => by
    rw [List.append_nil]
    exact ⟨M, k, names, j, seen, hM.mono (e.trans e2), hv, hn, hs, (fun z => by rw [hx] at z; cases z), fun _ v H' e3 hv' => q v H' (e2.trans e3) hv'⟩
def N12 : List Str := ["a", "b", "c", "d", "e", "f", "g", "h", "i", "j", "k", "l"]
def S12 : List (An Str) := [(["a", "b", "c", "d", "e", "f"], "l", true), (["d", "e", "f", "g", "h", "i"], "l", true), (["a", "b", "c", "d", "e"], "l", false)]
theorem n12_wd : (∀ x ∈ N12, Wd x) ∧ N12.Nodup := by decide +kernel
theorem n12 : Nms N12 := ⟨n12_wd.1, n12_wd.2, by decide, by decide⟩
theorem s12_ok : ∀ t ∈ S12, (t.1 = N12.filter fun n => decide (n ∈ t.1)) ∧ t.2.1 ∈ N12 ∧ t.2.1 ∉ t.1 := by decide +kernel
theorem s12 : Sn N12 S12 := ⟨by decide, fun t ht => ⟨(s12_ok t ht).1, (s12_ok t ht).2.1, (s12_ok t ht).2.2⟩⟩
theorem k12_must : mustOf N12 S12 "l" = (["f"] : List Str) := by decide +kernel
theorem k12_may : mayOf N12 S12 "l" = (["d", "e", "f"] : List Str) := by decide +kernel
theorem k12_mayA : mayOf N12 S12 "a" = (["b", "c", "d", "e", "f", "g", "h", "i", "j", "k", "l"] : List Str) := by decide +kernel
theorem k12_ex : explained N12 S12 = true := by decide +kernel
theorem k12_most : most N12 S12 "l" = (["d", "e", "f"] : List Str) := by decide +kernel
theorem l_in : ("l" : Str) ∈ N12 := by decide +kernel
theorem a_in : ("a" : Str) ∈ N12 := by decide +kernel
theorem r_L_twelve (vs : List V) (H : Hp) (Q : VK) (E : XK) (h : sp_L_twelve K vs H Q E) : t_L_twelve K { nx := fun _ H' => Q .non H', rt := Q } (start ["_law_names", "_law_seen"] vs) H := by
  obtain ⟨M, ds, d, hM, hds, ⟨rfl, rfl⟩, q⟩ := h
  cases hds
  refine qd_asg (K := K) (M := M) (d := dLs N12) (ed_lst hM (eda_cons ed_str (eda_cons ed_str (eda_cons ed_str (eda_cons ed_str (eda_cons ed_str (eda_cons ed_str (eda_cons ed_str (eda_cons ed_str (eda_cons ed_str (eda_cons ed_str (eda_cons ed_str (eda_cons ed_str eda_nil)))))))))))) (by decide)) fun v0 H1 e1 h0 => ?_
  have hM1 := hM.mono e1
  have ev0 : ∀ {σ : St} {H' : Hp}, σ[0]? = some (some v0) → Ex H1 H' → ED K M (tVar 0) σ H' (dLs N12) := fun e x => ed_var e (h0.mono x)
  refine qd_asg (K := K) (M := M) (d := dSn false S12) ?_ fun v1 H2 e2 h1 => ?_
  · refine ed_lst hM1 (eda_cons (ed_tup hM1 (eda_cons (ED.is (d' := dTs ["a", "b", "c", "d", "e", "f"]) (ed_tupleOf (k := false) hM1 (tl_slice (lo := none) (hi := some 6) hM1 (ev0 rfl (Ex.refl _)) edo_none (edo_int (K := K) (M := M) ed_int)).ed) ?_) (eda_cons ed_str (eda_cons ed_bl eda_nil))) (by simp))
      (eda_cons (ed_tup hM1 (eda_cons (ED.is (d' := dTs ["d", "e", "f", "g", "h", "i"]) (ed_tupleOf (k := false) hM1 (tl_slice (lo := some 3) (hi := some 9) hM1 (ev0 rfl (Ex.refl _)) (edo_int (K := K) (M := M) ed_int) (edo_int (K := K) (M := M) ed_int)).ed) ?_) (eda_cons ed_str (eda_cons ed_bl eda_nil))) (by simp))
      (eda_cons (ed_tup hM1 (eda_cons (ED.is (d' := dTs ["a", "b", "c", "d", "e"]) (ed_tupleOf (k := false) hM1 (tl_slice (lo := none) (hi := some 5) hM1 (ev0 rfl (Ex.refl _)) edo_none (edo_int (K := K) (M := M) ed_int)).ed) ?_) (eda_cons ed_str (eda_cons ed_bl eda_nil))) (by simp)) eda_nil))) (by decide)
    · rfl
    · rfl
    · rfl
  · have hM2 := hM1.mono e2
    have as : ∀ {x : Str} {H'}, Ex H2 H' → EDA K M (tCons (tVar 0) (tCons (tVar 1) (tCons (tC (.str x)) tNil))) [some v0, some v1] H' [dNm false N12, dSn false S12, .str x] := fun x => eda_cons (ev0 rfl (e2.trans x)) (eda_cons (ed_var rfl (h1.mono x)) (eda_cons ed_str eda_nil))
    have lwd : ∀ x ∈ (["d", "e", "f"] : List Str), Wd x := by decide +kernel
    have fwd : ∀ x ∈ (["f"] : List Str), Wd x := by decide +kernel
    refine qd_skip ?_ fun H3 e3 => ?_
    · refine et_is (et_or (et_t (ed_ne (d2 := dLs ["f"]) (ed_call hM2 (as (Ex.refl _)) ⟨false, N12, false, S12, "l", rfl, n12, s12, l_in, rfl⟩) (ed_lst hM2 (eda_cons ed_str eda_nil) (by decide)) (shaped_Ls (must_wd' n12)) (shaped_Ls fwd))) fun _ =>
        et_or (et_t (ed_ne (d2 := dLs ["d", "e", "f"]) (ed_call hM2 (as (Ex.refl _)) ⟨false, N12, false, S12, "l", rfl, n12, s12, l_in, rfl⟩) (ed_lst hM2 (eda_cons ed_str (eda_cons ed_str (eda_cons ed_str eda_nil))) (by decide)) (shaped_Ls (may_wd' n12)) (shaped_Ls lwd))) fun _ =>
        et_not (et_b (ed_call hM2 (as (Ex.refl _)) ⟨false, N12, false, S12, "l", rfl, n12, s12, l_in, rfl⟩))) ?_
      rw [eqv_Ls, eqv_Ls, k12_must, k12_may]
      decide +kernel
    · have hM3 := hM2.mono e3
      refine sd_ret (K := K) (M := M) (d := .bool true) ?_ fun v H4 e4 hv => q v H4 (((e1.trans e2).trans e3).trans e4) hv
      refine ED.is (ed_and (b := true) (b' := true) (ED.is (ed_eq (d1 := dTs (most N12 S12 "l")) (d2 := dTs ["d", "e", "f"]) (ed_dgetC (i := 11) n12.nd hM3 (ed_gw (k := false) (j := false) hM3 (eda_cons (ev0 rfl (e2.trans e3)) (eda_cons (ed_var rfl (h1.mono e3)) eda_nil)) n12 s12 k12_ex) ed_str rfl rfl) (ed_tup hM3 (eda_cons ed_str (eda_cons ed_str (eda_cons ed_str eda_nil))) (by decide)) (shaped_Ts (most_wd' n12)) (shaped_Ts lwd)) ?_) fun _ =>
        ED.is (ed_eq (d2 := dLs ["b", "c", "d", "e", "f", "g", "h", "i", "j", "k", "l"]) (ed_call hM3 (as e3) ⟨false, N12, false, S12, "a", rfl, n12, s12, a_in, rfl⟩) (ED.is (tl_slice (lo := some 1) (hi := none) hM3 (ev0 rfl (e2.trans e3)) (edo_int (K := K) (M := M) ed_int) edo_none).ed ?_) (shaped_Ls (may_wd' n12)) (shaped_Ls ?_)) ?_) rfl
      · rw [eqv_Ts, k12_most]; rfl
      · rfl
      · intro x hx
        exact n12.wd x (List.mem_cons_of_mem _ hx)
      · rw [eqv_Ls, k12_mayA, decide_eq_true rfl]
where
  most_wd' {names : List Str} {seen : List (An Str)} {s : Str} (hn : Nms names) : ∀ x ∈ most names seen s, Wd x := fun x hx => hn.wd x (in_most.mp hx).1
  must_wd' {names : List Str} {seen : List (An Str)} {s : Str} (hn : Nms names) : ∀ x ∈ mustOf names seen s, Wd x := fun x hx => by
    unfold mustOf at hx
    split at hx
    · exact hn.wd x (List.mem_filter.mp hx).1
    · exact absurd hx List.not_mem_nil
  may_wd' {names : List Str} {seen : List (An Str)} {s : Str} (hn : Nms names) : ∀ x ∈ mayOf names seen s, Wd x := fun x hx => by
    unfold mayOf at hx
    split at hx
    · exact hn.wd x (in_most.mp hx).1
    · exact absurd hx List.not_mem_nil
end
end Rt

/-! The drawn answers: whatever is drawn, they are answers over the names. -/
namespace Rt
open PySem L2 Evl RtM

section
variable {K : PySem.W.Frag} {M M' : List Addr} {H H' : Hp} {σ : St} {v : V} {d : PyData} {te tl tb : TE} {p q f : Addr} {names ns : List Str}
/-- drawn wants of some skills -/
def WantsAt (K : PySem.W.Frag) (M : List Addr) (H : Hp) (q : Addr) (ns names : List Str) : Prop :=
  ∃ kvs, H q = some (.dK kvs) ∧ kvs.length ≤ ns.length ∧ ∀ n ∈ ns, ∃ w row, valV kvs (Sum.inr n) = some w ∧ Da K M H w (dTs row) ∧ (∀ x ∈ row, x ∈ names) ∧ row.length ≤ 4
theorem WantsAt.keep (h : WantsAt K M H q ns names) (e : Ext M H M' H') (eq : ∀ o, H q = some o → H' q = some o) : WantsAt K M' H' q ns names := by
  obtain ⟨kvs, hq, hl, hv⟩ := h
  refine ⟨kvs, eq _ hq, hl, fun n hn => ?_⟩
  obtain ⟨w, row, h1, h2, h3⟩ := hv n hn
  exact ⟨w, row, h1, h2.ext e, h3⟩
theorem drawn_wr {o : HO} (h : Drawn p H H') (n : H q = none) (ne : q ≠ p) : Drawn p H (upd H' q o) := by
  refine ⟨fun b u hb => ?_, ?_⟩
  · obtain ⟨c, e⟩ := hide_in hb
    have nb : b ≠ q := fun z => by rw [z, n] at e; cases e
    refine hide_of c ?_
    rw [upd_ne nb]
    exact (hide_in (h.1 b u hb)).2
  · obtain ⟨x, y, hp, r⟩ := h.2
    exact ⟨x, y, by rw [upd_ne fun z => ne z.symm]; exact hp, r⟩
theorem drawn_free (h : Drawn p H H') (n : H' f = none) : H f = none ∧ f ≠ p := by
  have np : f ≠ p := fun z => pool_ne h.2 (by rw [← z]; exact n)
  refine ⟨?_, np⟩
  cases e : H f with
  | none => rfl
  | some o => rw [h.at np e] at n; cases n
theorem if_bool {n : Nat} {b : Bool} {Q : VK} (c : Bool) (e : σ[n]? = some (some (.bl b))) (k : ∀ bl, Q (.bl bl) H) : if c = true then tVar n σ H Q else tNotV (tVar n) σ H Q := by
  cases c with
  | true => exact ⟨_, e, k _⟩
  | false => exact ⟨_, e, b, rfl, k _⟩
theorem parts_pos {α : Type} (xs : List α) : 0 < (parts xs).length := by
  unfold parts
  rw [len_partsFrom, List.length_singleton, Nat.one_mul]
  exact Nat.pow_pos (by decide)
theorem sub_filter {α : Type} [DecidableEq α] {l r : List α} (h : r.Sublist l) : l.Nodup → r = l.filter fun n => decide (n ∈ r) := by
  induction h with
  | slnil => intro _; rfl
  | cons a h ih =>
    intro nd
    have na := (List.nodup_cons.mp nd).1
    rw [List.filter_cons, if_neg (by simpa using fun z => na (h.subset z))]
    exact ih (List.nodup_cons.mp nd).2
  | @cons_cons r l a h ih =>
    intro nd
    have na := (List.nodup_cons.mp nd).1
    have ih := ih (List.nodup_cons.mp nd).2
    rw [List.filter_cons, if_pos (by simp)]
    have e : (l.filter fun n => decide (n ∈ a :: r)) = l.filter fun n => decide (n ∈ r) := by
      apply List.filter_congr
      intro x hx
      have nx : x ≠ a := fun z => na (z ▸ hx)
      simp [nx]
    rw [e, ← ih]
theorem an1_of {n : Str} {row : List Str} {b : Bool} (hn : Nms names) (hs : n ∈ names) (hr : row.Sublist (others names n)) : An1 names (row, n, b) where
  ord := by
    have h : row.Sublist names := hr.trans (by unfold others; exact List.filter_sublist)
    exact sub_filter h hn.nd
  sk := hs
  out := fun h => by
    have := hr.subset h
    unfold others at this
    rw [List.mem_filter] at this
    simp at this
theorem Da.Ts {row : List Str} (h : Da K M H v (dTs row)) : Da K M H v (sq true (row.map PyData.str)) := h
theorem r_L_answers (vs : List V) (H : Hp) (Q : VK) (E : XK) (h : sp_L_answers K vs H Q E) : t_L_answers K { nx := fun _ H' => Q .non H', rt := Q } (start ["_law_pool_here", "_law_names", "_law_many", "_law_wants", "_law_name", "_law_other", "_law_found", "_law_turn", "_law_skill", "_law_build", "_law_lets"] vs) H := by
  obtain ⟨M, p, v, names, many, rfl, hP, hp, hM, hv, hn, hn4, hmany, fin⟩ := h
  -- wants = {}
  refine q_dnew fun q hq => ?_
  have npq : q ≠ p := fun z => pool_ne hP (by rw [← z]; exact hq)
  have xq : Ext M H (q :: M) (upd H q (.dK [])) := ext_hide hM hq (Ex.new hq) (by rw [upd_same]; exact fun z => nomatch z)
  have pm : p ∈ q :: M := List.mem_cons_of_mem _ hp
  refine q_for (K := K) (M := q :: M) (l := names) (enc := PyData.str) (k := true) (ed_var (i := 1) rfl (hv.ext xq)) (fun i σ' H' => Drawn p H H' ∧ Ext M H (q :: M) H' ∧ WantsAt K (q :: M) H' q (names.take i) names ∧
    ∃ y4, σ' = [some (.ref p), some v, some (.int (many : Int)), some (.ref q), y4, none, none, none, none, none, none]) (fun H1 e1 => ⟨(Drawn.pre (Ex.new hq) ⟨ex_hide e1, pool_mono (pool_mono hP (Ex.new hq)) e1⟩), xq.more e1, ⟨[], e1 q _ upd_same, Nat.zero_le _, fun n hn => absurd hn (by simp)⟩, none, rfl⟩) ?_ ?_
  · rintro H2 e2 i n w σ' H' hi ⟨dr, ex, hw, y4, rfl⟩ hE hwv
    have e3 := da_str hwv
    subst e3
    have lo := others_len (s := n) hn4
    refine ed_one (M := q :: M) (σ := [some (.ref p), some v, some (.int (many : Int)), some (.ref q), some (.str n), none, none, none, none, none, none]) (k := false) (ds := (parts (others names n)).map dTs) rfl dr.2 pm ex.al (ed_call ex.al (eda_cons (ed_others (k := true) (j := 5) (m := 4) ex.al (ed_var (i := 1) rfl (hv.ext ex)) hn4 (fun _ => rfl) (fun _ => rfl) (fun _ => rfl) hwv) eda_nil) ⟨false, _, rfl, lo, rfl⟩)
      (by rw [List.length_map]; exact parts_pos _) (by rw [List.length_map]; have := len_parts _ lo; omega) _ fun d hd w3 H3 dr3 h3 => ?_
    obtain ⟨row, hrow, rfl⟩ := List.mem_map.mp hd
    obtain ⟨kvs, hk, hkl, hkv⟩ := hw
    have hk3 := dr3.at npq hk
    have hi' : i < names.length := (List.getElem?_eq_some_iff.mp hi).1
    have hlt : (names.take i).length = i := by rw [List.length_take]; omega
    have sub := mem_parts.mp hrow
    have ex3 : Ext (q :: M) H' (q :: M) H3 := dr3.ext pm ex.al
    have exw : Ext (q :: M) H' (q :: M) (upd H3 q (.dK (putK kvs (Sum.inr n) w3))) := ex3.trans (Ext.wr List.mem_cons_self ex3.al)
    refine ⟨.ref q, rfl, .str n, rfl, q, _, rfl, DPut.k (k := (Sum.inr n : Key)) hk3 (sz_lt (by omega)), ⟨drawn_wr (dr.trans dr3) hq npq, ex.trans exw, ⟨_, upd_same, ?_, ?_⟩, some (.str n), rfl⟩, hE.trans exw.hid⟩
    · have := length_putK kvs (Sum.inr n) w3
      rw [List.length_take]
      omega
    · intro m hm
      rw [take_more hi] at hm
      rw [valV_put]
      by_cases e : m = n
      · subst e
        rw [if_pos rfl]
        refine ⟨w3, row, rfl, h3.ext (Ext.wr List.mem_cons_self ex3.al), fun x hx => ?_, Nat.le_trans sub.length_le lo⟩
        have := sub.subset hx
        unfold others at this
        exact (List.mem_filter.mp this).1
      · have hm' : m ∈ names.take i := by
          rcases List.mem_append.mp hm with z | z
          · exact z
          · exact absurd (List.mem_singleton.mp z) e
        obtain ⟨w', row', g1, g2, g3⟩ := hkv m hm'
        rw [if_neg fun z => e (Sum.inr.inj z)]
        exact ⟨w', row', g1, g2.ext exw, g3⟩
  · rintro σ1 H1 ⟨dr1, ex1, hw1, y4, rfl⟩ hE1
    rw [List.take_length] at hw1
    -- found = []
    refine q_lnew fun f hf => ?_
    obtain ⟨hf0, nfp⟩ := drawn_free dr1 hf
    have nfq : f ≠ q := fun z => by
      obtain ⟨kvs, hk, _⟩ := hw1
      rw [← z, hf] at hk; cases hk
    have xf : Ext (q :: M) H1 (f :: q :: M) (upd H1 f (.lst [])) := ext_hide ex1.al hf (Ex.new hf) (by rw [upd_same]; exact fun z => nomatch z)
    have pf : p ∈ f :: q :: M := List.mem_cons_of_mem _ pm
    have hlo := hn.lo
    refine q_forR1 (n := (many : Int)) (ea_cons (ev_var rfl) ea_nil) (by omega) (fun i σ' H' => Drawn p H H' ∧ Ext M H (f :: q :: M) H' ∧ WantsAt K (f :: q :: M) H' q names names ∧
      (∃ (seen : List (An Str)) (ws : List V), H' f = some (.lst ws) ∧ DaAll K (f :: q :: M) H' ws (seen.map dTri) ∧ (∀ t ∈ seen, An1 names t) ∧ seen.length = i) ∧
      ∃ y4 y7 y8 y9 y10, σ' = [some (.ref p), some v, some (.int (many : Int)), some (.ref q), y4, none, some (.ref f), y7, y8, y9, y10]) (fun H2 e2 => ?_) ?_ ?_
    · have xx := xf.more e2
      refine ⟨(drawn_wr dr1 hf0 nfp).post e2, ex1.trans xx, hw1.keep xx fun o ho => e2 q _ (by rw [upd_ne (fun z => nfq z.symm)]; exact ho), ⟨[], [], e2 f _ upd_same, .nil, fun t ht => absurd ht List.not_mem_nil, rfl⟩, y4, none, none, none, none, rfl⟩
    · rintro i σ' H2 hi ⟨dr2, ex2, hw2, ⟨seen, ws, hf2, hd2, han, hsl⟩, z4, y7, y8, y9, y10, rfl⟩
      -- skill = one(pool, names)
      refine q_one (M := f :: q :: M) (σ := [some (.ref p), some v, some (.int (many : Int)), some (.ref q), z4, none, some (.ref f), some (.int (i : Int)), y8, y9, y10]) (k := true) (ds := names.map PyData.str) rfl dr2.2 pf ex2.al (ed_var (i := 1) rfl (hv.ext ex2)) (by rw [List.length_map]; omega) (by rw [List.length_map]; omega) fun d hd w8 H3 dr3 h8 => ?_
      obtain ⟨n, hnn, rfl⟩ := List.mem_map.mp hd
      have e8 := da_str h8
      subst e8
      have ex3 := dr3.ext pf ex2.al
      have lo := others_len (s := n) hn4
      -- build = one(pool, parts(others))
      refine q_one (M := f :: q :: M) (σ := [some (.ref p), some v, some (.int (many : Int)), some (.ref q), z4, none, some (.ref f), some (.int (i : Int)), some (.str n), y9, y10]) (k := false) (ds := (parts (others names n)).map dTs) rfl dr3.2 pf ex3.al (ed_call ex3.al (eda_cons (ed_others (k := true) (j := 5) (m := 8) ex3.al (ed_var (i := 1) rfl ((hv.ext ex2).ext ex3)) hn4 (fun _ => rfl) (fun _ => rfl) (fun _ => rfl) h8) eda_nil) ⟨false, _, rfl, lo, rfl⟩)
        (by rw [List.length_map]; exact parts_pos _) (by rw [List.length_map]; have := len_parts _ lo; omega) fun d hd w9 H4 dr4 h9 => ?_
      obtain ⟨row, hrow, rfl⟩ := List.mem_map.mp hd
      have sub := mem_parts.mp hrow
      have ex4' := dr4.ext pf ex3.al
      have ex4 := ex3.trans ex4'
      have hw4 := hw2.keep ex4 fun o ho => dr4.at npq (dr3.at npq ho)
      have hf4 := dr4.at nfp (dr3.at nfp hf2)
      obtain ⟨kvs, hk4, _, hkv⟩ := id hw4
      obtain ⟨w0, wrow, g1, g2, g3, g4⟩ := hkv n hnn
      -- lets
      refine qd_asg (K := K) (M := f :: q :: M) (σ := [some (.ref p), some v, some (.int (many : Int)), some (.ref q), z4, none, some (.ref f), some (.int (i : Int)), some (.str n), some w9, y10]) (d := .bool (decide (wrow.filter (fun x => !decide (x ∈ row)) = []))) ?_ fun v10 H5 e5 h10 => ?_
      · refine ED.is (ed_eq (d1 := .list ((wrow.filter fun x => !decide (x ∈ row)).map PyData.str)) (d2 := .list []) ?_ (ed_lst ex4.al eda_nil (by decide)) (shaped_Ls fun x hx => hn.wd x (g3 x (List.mem_filter.mp hx).1)) shaped_nil) ?_
        · exact ed_lc (k := true) (l := wrow) (enc := PyData.str) (f := PyData.str) (p := fun x => !decide (x ∈ row)) ex4.al (ed_dget (n := 3) rfl hk4 (ed_var (i := 8) rfl (h8.ext ex4')) g1 g2) (by omega) fun x hx M2 u H6 ex6 hu =>
            step_name rfl (et_t (ed_niS (k := true) (ed_var rfl hu) (ed_var (i := 9) rfl (h9.ext ex6)))) fun _ => ed_var rfl hu
        · rw [eqv_nil, map_nil]
      · have e10 := da_bl h10
        subst e10
        have al5 := ex4.al.mono e5
        have dr5 : Drawn p H H5 := ((dr2.trans dr3).trans dr4).post e5
        have hf5 := e5 f _ hf4
        -- found.append(..)
        refine ⟨.ref f, rfl, .inl ⟨rfl, _, SqL.of hf5⟩, ?_⟩
        refine ⟨w9, rfl, .str n, rfl, ?_⟩
        refine ed_take (M := f :: q :: M) (σ := [some (.ref p), some v, some (.int (many : Int)), some (.ref q), z4, none, some (.ref f), some (.int (i : Int)), some (.str n), some w9, some (.bl _)]) (n := 0) rfl dr5.2 (ed_int (i := 12)) (by decide) (by decide) _ fun r H6 hr dr6 => ?_
        refine ⟨(r : Int), 0, rfl, rfl, decide ((0 : Int) < (r : Int)), rfl, ?_⟩
        refine if_bool _ rfl fun bl => ?_
        have ex6 := dr6.ext pf al5
        have hf6 := dr6.at nfp hf5
        have x26 : Ext (f :: q :: M) H2 (f :: q :: M) H6 := (ex4.more e5).trans ex6
        refine ⟨by show 3 ≤ sizeLine; decide, fun t ht => ?_⟩
        have nft : f ≠ t := ne_of_none hf6 ht
        have hf7 : (upd H6 t (.tup [w9, .str n, .bl bl])) f = some (.lst ws) := by rw [upd_ne nft]; exact hf6
        have lws : ws.length = seen.length := by rw [dpAll_len hd2, List.length_map]
        refine ⟨f, ws, .ref t, rfl, rfl, hf7, sz_lt (by omega), ?_⟩
        have x68 : Ext (f :: q :: M) H6 (f :: q :: M) (upd (upd H6 t (.tup [w9, .str n, .bl bl])) f (.lst (ws ++ [.ref t]))) :=
          (Ext.ex ex6.al (Ex.new ht)).trans (Ext.wr List.mem_cons_self (ex6.al.mono (Ex.new ht)))
        have x28 := x26.trans x68
        have dr8 : Drawn p H (upd (upd H6 t (.tup [w9, .str n, .bl bl])) f (.lst (ws ++ [.ref t]))) := drawn_wr ((dr5.trans dr6).post (Ex.new ht)) hf0 nfp
        have hq8 : ∀ o, H2 q = some o → (upd (upd H6 t (.tup [w9, .str n, .bl bl])) f (.lst (ws ++ [.ref t]))) q = some o := fun o ho => by
          have hq6 := dr6.at npq (e5 q _ (dr4.at npq (dr3.at npq ho)))
          rw [upd_ne (fun z => nfq z.symm), upd_ne (ne_of_none hq6 ht)]
          exact hq6
        refine ⟨dr8, ex2.trans x28, hw2.keep x28 hq8, ⟨seen ++ [(row, n, bl)], ws ++ [.ref t], upd_same, ?_, fun u hu => ?_, by rw [List.length_append, hsl]; rfl⟩, z4, _, _, _, _, rfl⟩
        · rw [List.map_append]
          refine dpAll_app (hd2.over x28.hid) (.cons ?_ .nil)
          have w98 : Da K (f :: q :: M) (upd (upd H6 t (.tup [w9, .str n, .bl bl])) f (.lst (ws ++ [.ref t]))) w9 (dTs row) := ((h9.mono e5).ext ex6).ext x68
          have at_ : hide (f :: q :: M) (upd (upd H6 t (.tup [w9, .str n, .bl bl])) f (.lst (ws ++ [.ref t]))) t = some (.tup [w9, .str n, .bl bl]) := by
            rw [hide_upd List.mem_cons_self]
            exact hide_new ex6.al ht
          exact .tup (.inl (.inl at_)) (.cons w98 (.cons (.str n) (.cons (.bl bl) .nil)))
        · rcases List.mem_append.mp hu with z | z
          · exact han u z
          · rw [List.mem_singleton.mp z]
            exact an1_of hn hnn sub
    · rintro σ' H2 ⟨dr2, ex2, hw2, ⟨seen, ws, hf2, hd2, han, hsl⟩, z4, y7, y8, y9, y10, rfl⟩
      have hl : seen.length = many := by rw [hsl]; exact Int.toNat_natCast many
      refine ⟨.ref f, rfl, fin seen ⟨by omega, han⟩ (by omega) (.ref f) H2 dr2 ?_⟩
      have fM : f ∉ M := hM.new hf0
      refine .lst (.inl (.inl (hide_of fM hf2))) (hd2.over ?_)
      exact (ext_show ex2.al).hid.trans (ext_show (ext_show ex2.al).al).hid
end
end Rt

/-! The law itself: its statements, one by one. -/
namespace Rt
open PySem L2 Evl RtM

section
variable {K : PySem.W.Frag} {M : List Addr} {H H' : Hp} {σ : St} {v : V} {d : PyData} {te tl tb : TE} {names : List Str} {seen : List (An Str)} {s : Str}
/-! ### the text of the answers -/
theorem show_strs : ∀ xs : List Str, PyData.showableAll (xs.map PyData.str) = true
  | [] => by simp [PyData.showableAll]
  | x :: xs => by rw [List.map_cons, PyData.showableAll, show_strs xs]; simp [PyData.showable]
theorem show_seen : ∀ seen : List (An Str), PyData.showableAll (seen.map dTri) = true
  | [] => by simp [PyData.showableAll]
  | t :: seen => by
    rw [List.map_cons, PyData.showableAll, show_seen seen]
    unfold dTri dTs
    simp [PyData.showable, PyData.showableAll, show_strs]
theorem ints_seen : ∀ seen : List (An Str), PyData.intsShortAll 13 (seen.map dTri) = true
  | [] => by simp [PyData.intsShortAll]
  | t :: seen => by
    rw [List.map_cons, PyData.intsShortAll, ints_seen seen]
    unfold dTri dTs
    simp [PyData.intsShort, PyData.intsShortAll, PyData.intsShortAll_strs]
theorem weigh_strs : ∀ {xs : List Str}, (∀ x ∈ xs, Wd x) → PyData.weightAll (xs.map PyData.str) ≤ 9 * xs.length
  | [], _ => by simp [PyData.weightAll]
  | x :: xs, h => by
    rw [List.map_cons, PyData.weightAll, List.length_cons]
    have h1 := weigh_strs fun y hy => h y (List.mem_cons_of_mem _ hy)
    have h2 : PyData.weight (PyData.str x) ≤ 8 := (h x List.mem_cons_self).2.1
    omega
theorem weigh_seen (hn : Nms names) : ∀ {seen : List (An Str)}, (∀ t ∈ seen, An1 names t) → PyData.weightAll (seen.map dTri) ≤ 200 * seen.length
  | [], _ => by simp [PyData.weightAll]
  | t :: seen, h => by
    rw [List.map_cons, PyData.weightAll, List.length_cons]
    have h1 := weigh_seen hn fun u hu => h u (List.mem_cons_of_mem _ hu)
    have a := h t List.mem_cons_self
    have hb : ∀ x ∈ t.1, Wd x := fun x hx => by
      rw [a.ord] at hx
      exact hn.wd x (List.mem_filter.mp hx).1
    have hl : t.1.length ≤ 12 := by
      rw [a.ord]
      exact Nat.le_trans (List.length_filter_le _ _) hn.hi
    have h2 := weigh_strs hb
    have h3 : PyData.weight (PyData.str t.2.1) ≤ 8 := (hn.wd _ a.sk).2.1
    have h4 : PyData.weight (dTri t) ≤ 150 := by
      unfold dTri dTs
      have h5 : PyData.weight (PyData.bool t.2.2) = 0 := by rw [PyData.weight]
      have h6 : PyData.weight (PyData.tuple (t.1.map PyData.str)) = PyData.weightAll (t.1.map PyData.str) := by rw [PyData.weight]
      rw [PyData.weight, PyData.weightAll, PyData.weightAll, PyData.weightAll, PyData.weightAll]
      omega
    omega
theorem text_ok (hn : Nms names) (hs : Sn names seen) : (PyData.list (seen.map dTri)).showable = true ∧ (PyData.list (seen.map dTri)).hasDict = false ∧ (PyData.list (seen.map dTri)).depth ≤ 64 ∧ (PyData.list (seen.map dTri)).shown.length ≤ sizeLine := by
  have c : (PyData.list (seen.map dTri)).canLay0 = true := by rw [PyData.canLay0]; exact seen_lay hn hs.all
  have dd : (PyData.list (seen.map dTri)).depth ≤ 64 := by
    rw [PyData.depth]
    have := seen_depth seen
    omega
  have w : (PyData.list (seen.map dTri)).weight ≤ 2 ^ 20 := by
    rw [PyData.weight]
    have h1 := weigh_seen hn hs.all
    have h2 := hs.len
    have e : (2 : Nat) ^ 20 = 1048576 := by decide
    omega
  refine ⟨by rw [PyData.showable]; exact show_seen seen, PyData.hasDict_of_canLay _ c, dd, PyData.shown_fits_of_layable0 (B := 13) (by decide) (by decide) ?_ (by rw [PyData.intsShort]; exact ints_seen seen)⟩
  unfold PyData.layable0
  rw [c, decide_eq_true dd, decide_eq_true w]; rfl
theorem ed_repr {ds : List PyData} (h : ED K M te σ H (.list ds)) (t : (PyData.list ds).showable = true ∧ (PyData.list ds).hasDict = false ∧ (PyData.list ds).depth ≤ 64 ∧ (PyData.list ds).shown.length ≤ sizeLine) :
    ED K M (tCB (rReprD K) (tCons te tNil)) σ H (.str (PyData.list ds).shown) := fun H1 e Q q =>
  h H1 e _ fun v H2 e2 hv => by
    have hd := hv.dp
    have hr : ∃ a, v = .ref a := by
      cases hd
      exact ⟨_, rfl⟩
    obtain ⟨a, rfl⟩ := hr
    exact ⟨a, .list ds, rfl, hd, t.1, t.2.1, t.2.2.1, t.2.2.2, q _ H2 e2 (.str _)⟩
/-! ### the pool, the names, the answers -/
variable {D : Ends} {tz tu : TS} {p q : Addr}
theorem q_pool {a : Addr} {ns : List Int} {k i : Nat} (e0 : σ[0]? = some (some (.ref a))) (e1 : σ[1]? = some (some (.int (k : Int)))) (hS : SqL K H a (ns.map V.int)) (hl : ns.length ≤ 63) (hk : k ≤ 8)
    (c : ∀ p H', H p = none → Ex H H' → Pool H' p → tz D (σ.set i (some (.ref p))) H') : tSeq (tAsg (tCall (sp_L_pool K) [] E0 (tCons (tVar 0) (tCons (tVar 1) tNil))) (gName i)) tz D σ H :=
  ⟨.ref a, e0, .int (k : Int), e1, a, ns, k, rfl, hS, hl, hk, c⟩
theorem q_told {i : Nat} (e2 : σ[2]? = some (some (.ref p))) (hP : Pool H p) (hp : p ∈ M) (hM : Al M H) (c : ∀ names, Nms names → names.length ≤ 4 → ∀ v' H', Drawn p H H' → Da K M H' v' (dTs names) → tz D (σ.set i (some v')) H') :
    tSeq (tAsg (tCall (sp_L_told_names K) [] E0 (tCons (tVar 2) (tCons (tC (.int 4)) tNil))) (gName i)) tz D σ H :=
  ⟨.ref p, e2, M, p, rfl, hP, hp, hM, c⟩
theorem q_answers {i : Nat} (e2 : σ[2]? = some (some (.ref p))) (e3 : σ[3]? = some (some v)) (hP : Pool H p) (hp : p ∈ M) (hM : Al M H) (hv : Da K M H v (dTs names)) (hn : Nms names) (hn4 : names.length ≤ 4)
    (c : ∀ seen, Sn names seen → ∀ v' H', Drawn p H H' → Da K M H' v' (.list (seen.map dTri)) → tz D (σ.set i (some v')) H') :
    tSeq (tAsg (tCall (sp_L_answers K) [] E0 (tCons (tVar 2) (tCons (tVar 3) (tCons (tCall (sp_L_take K) [] E0 (tCons (tVar 2) (tCons (tC (.int 11)) tNil))) tNil)))) (gName i)) tz D σ H :=
  ⟨.ref p, e2, v, e3, ed_take (M := M) e2 hP ed_int (by decide) (by decide) _ fun r H1 hr dr => ⟨M, p, v, names, r, rfl, dr.2, hp, (dr.ext hp hM).al, hv.ext (dr.ext hp hM), hn, hn4, by omega, fun seen hs _ v' H' dr2 hv' => c seen hs v' H' (dr.trans dr2) hv'⟩⟩
/-! ### two names at once -/
theorem q_two {ds : List PyData} (e4 : σ[4]? = some (some v)) (h : Da K M H v (.list ds)) (t : (PyData.list ds).showable = true ∧ (PyData.list ds).hasDict = false ∧ (PyData.list ds).depth ≤ 64 ∧ (PyData.list ds).shown.length ≤ sizeLine)
    (c : ∀ q H', H q = none → Ex H H' → H' q = some (.dK []) → tz D ((σ.set 5 (some (.ref q))).set 6 (some (.str (PyData.list ds).shown))) H') :
    tSeq (tAsg (tTup (tCons tDNewK (tCons (tCB (rReprD K) (tCons (tVar 4) tNil)) tNil))) (gTup K 2 (gCons (gName 5) (gCons (gName 6) gNil)))) tz D σ H := fun q hq => by
  refine ed_repr (K := K) (M := M) (σ := σ) (H := H) (ed_var e4 h) t _ (Ex.new hq) _ fun w H2 e2 hw => ?_
  rw [da_str hw]
  refine ⟨by show 2 ≤ sizeLine; decide, fun b hb => ?_⟩
  have hq2 := e2 q _ upd_same
  refine ⟨b, _, rfl, .inl (.inl upd_same), rfl, .ref q, _, rfl, .str (PyData.list ds).shown, _, rfl, rfl, c q _ hq (((Ex.new hq).trans e2).trans (Ex.new hb)) ?_⟩
  exact (Ex.new hb) q _ hq2
/-! ### a dict that a loop fills -/
theorem edd_var {i : Nat} {keys : List Str} {ds : List PyData} (e : σ[i]? = some (some v)) (h : DicAt K M H v keys ds) : EDD K M (tVar i) σ H keys ds := fun H1 a Q k => ⟨v, e, k v H1 (Ex.refl H1) (h.mono a)⟩
theorem putK_out {kvs : List (Key × V)} {x : Str} {i : Nat} {names : List Str} {w : V} (nd : names.Nodup) (hi : names[i]? = some x) (hk : kvs.map (·.1) = (names.take i).map (Sum.inr : Str → Key)) : putK kvs (Sum.inr x) w = kvs ++ [(Sum.inr x, w)] := by
  refine putK_new w (valV_out ?_)
  rw [hk]
  intro hm
  obtain ⟨c, hc, ec⟩ := List.mem_map.mp hm
  have ec : c = x := Sum.inr.inj ec
  subst ec
  obtain ⟨j, hj, ej⟩ := List.mem_take_iff_getElem.mp hc
  have hj' : names[j]? = some c := by
    rw [List.getElem?_eq_getElem (by omega), ej]
  have := nodup_ix nd hj' hi
  omega
theorem q_fill {n : Nat} {H0 : Hp} {f : Str → PyData} {y7 : Option V} (n0 : H0 q = none) (e0 : Ex H0 H) (hq : H q = some (.dK [])) (nd : names.Nodup) (hl : names.length ≤ 100) (e3 : σ[3]? = some (some v)) (h3 : Da K [] H0 v (dTs names)) (h7 : σ.set 7 y7 = σ)
    (hn : ∀ y, (σ.set 7 y)[n]? = some (some (.ref q))) (h7' : ∀ y, (σ.set 7 (some y))[7]? = some (some y)) (step : ∀ s ∈ names, ∀ H', Ext [] H0 [q] H' → ED K [q] te (σ.set 7 (some (.str s))) H' (f s))
    (c : ∀ y H', Ex H0 H' → DicAt K [] H' (.ref q) names (names.map f) → tz D (σ.set 7 y) H') : tSeq (tFor (iSeq K (tVar 3)) (gName 7) (sDPut (tVar n) (tVar 7) te)) tz D σ H := by
  have hq0 : H q ≠ none := by rw [hq]; exact fun z => nomatch z
  have al : Al [q] H := fun b hb => by rw [List.mem_singleton.mp hb]; exact hq0
  have x0 : Ext [] H0 [q] H := ext_hide Al.nil n0 e0 hq0
  refine q_for (K := K) (M := [q]) (l := names) (enc := PyData.str) (k := true) (ed_var e3 (h3.ext x0)) (fun i σ' H' => (∃ y, σ' = σ.set 7 y) ∧ Ext [] H0 [q] H' ∧ ∃ kvs, H' q = some (.dK kvs) ∧ kvs.map (·.1) = (names.take i).map (Sum.inr : Str → Key) ∧ DaAll K [q] H' (kvs.map (·.2)) ((names.take i).map f))
    (fun H1 e1 => ⟨⟨y7, h7.symm⟩, x0.more e1, [], e1 q _ hq, rfl, .nil⟩) ?_ ?_
  · rintro H2 e2 i x w σ' H' hi ⟨⟨y, rfl⟩, ex, kvs, hk, hks, hda⟩ hE hw
    have ew := da_str hw
    subst ew
    have es : (σ.set 7 y).set 7 (some (.str x)) = σ.set 7 (some (.str x)) := by rw [List.set_set]
    show sDPut (tVar n) (tVar 7) te _ ((σ.set 7 y).set 7 (some (.str x))) H'
    rw [es]
    have hi' : i < names.length := (List.getElem?_eq_some_iff.mp hi).1
    have kl : kvs.length ≤ i := by
      have := congrArg List.length hks
      rw [List.length_map, List.length_map, List.length_take] at this
      omega
    refine step x (List.mem_of_getElem? hi) H' ex H' (Ex.refl H') _ fun w H3 e3 hw3 => ?_
    have hk3 := e3 q _ hk
    have al3 : Al [q] H3 := ex.al.mono e3
    refine ⟨.ref q, hn _, .str x, h7' _, q, _, rfl, DPut.k (k := (Sum.inr x : Key)) hk3 (sz_lt (by omega)), ?_⟩
    have wr : Ext [q] H3 [q] (upd H3 q (.dK (putK kvs (Sum.inr x) w))) := Ext.wr List.mem_cons_self al3
    refine ⟨⟨⟨_, rfl⟩, (ex.more e3).trans wr, _, upd_same, ?_, ?_⟩, (hE.trans (ex_hide e3)).trans wr.hid⟩
    · rw [putK_out nd hi hks, List.map_append, hks, take_more hi, List.map_append]; rfl
    · rw [putK_out nd hi hks, List.map_append, take_more hi, List.map_append]
      unfold DaAll
      rw [hide_upd List.mem_cons_self]
      exact dpAll_app (hda.mono e3) (.cons hw3 .nil)
  · rintro σ' H' ⟨⟨y, rfl⟩, ex, kvs, hk, hks, hda⟩ hE
    rw [List.take_length] at hks hda
    refine c y H' (fun b o hb => ?_) ⟨q, kvs, rfl, List.not_mem_nil, hk, hks, hda⟩
    exact (hide_in (ex.hid b o (hide_of List.not_mem_nil hb))).2
end
end Rt

/-! The law itself: its reading keeps its promise. -/
namespace Rt
open PySem L2 Evl RtM

section
variable {K : PySem.W.Frag} {M : List Addr} {H H' : Hp} {σ : St} {v : V} {d : PyData} {te tl tb : TE} {names : List Str} {seen : List (An Str)} {s : Str}
abbrev fRow (names : List Str) (seen : List (An Str)) : Str → PyData := fun s => .list ((fitting names seen s).map dTs)
abbrev fWant (names : List Str) (seen : List (An Str)) : Str → PyData := fun s => dTs (unionOf names (fitting names seen s))
theorem fit_wd (hn : Nms names) : ∀ r ∈ fitting names seen s, ∀ x ∈ r, Wd x := fun r hr x hx => by
  have h := (in_fitting.mp hr).1.subset hx
  unfold others at h
  exact hn.wd x (List.mem_filter.mp h).1
theorem fit_len (h4 : names.length ≤ 4) : (fitting names seen s).length ≤ 100 := by
  unfold fitting
  have h1 := List.length_filter_le (fits seen s) (parts (others names s))
  have h2 := len_parts (others names s) (others_len h4)
  omega
theorem most_eq (hx : explained names seen = true) : dMost names seen = names.map (fWant names seen) := by
  unfold dMost
  refine List.map_congr_left fun s hs => ?_
  show dTs (most names seen s) = dTs (unionOf names (fitting names seen s))
  rw [law_most hx hs]
theorem DicAt.ext {M' : List Addr} {keys : List Str} {ds : List PyData} (h : DicAt K M H v keys ds) (e : Ext M H M' H') : DicAt K M' H' v keys ds := by
  obtain ⟨q, kvs, h1, h2, h3, h4, h5⟩ := h
  obtain ⟨g1, g2⟩ := hide_in (e.hid q _ (hide_of h2 h3))
  refine ⟨q, kvs, h1, g1, g2, h4, h5.over fun b o hb => ?_⟩
  obtain ⟨n1, hb⟩ := hide_in hb
  obtain ⟨n2, hb'⟩ := hide_in (e.hid b o (hide_of (fun z => n1 (List.mem_cons_of_mem _ z)) hb))
  refine hide_of (fun z => ?_) hb'
  rcases List.mem_cons.mp z with z | z
  · exact n1 (List.mem_cons.mpr (.inl z))
  · exact n2 z
theorem ed_rowOf (hn : Nms names) (hM : Al M H) (e5 : σ[5]? = some (some v)) (hv : DicAt K M H v names (names.map (fRow names seen))) (h7 : ED K M (tVar 7) σ H (.str s)) (hs : s ∈ names) :
    ED K M (tDGet (tVar 5) (tVar 7)) σ H (fRow names seen s) := by
  obtain ⟨i, hi⟩ := List.getElem?_of_mem hs
  exact ed_dgetC hn.nd hM (edd_var e5 hv) h7 hi (by rw [List.getElem?_map, hi]; rfl)
theorem ed_union {k : Bool} (hn : Nms names) (h4 : names.length ≤ 4) (hM : Al M H) (h3 : ED K M (tVar 3) σ H (dNm k names)) (h5 : ED K M (tDGet (tVar 5) (tVar 7)) σ H (fRow names seen s)) :
    ED K M (tCall (sp_L_union K) [] E0 (tCons (tVar 3) (tCons (tDGet (tVar 5) (tVar 7)) tNil))) σ H (dLs (unionOf names (fitting names seen s))) := ed_call hM (eda_cons h3 (eda_cons h5 eda_nil)) ⟨k, names, _, rfl, hn, fit_len h4, fit_wd hn, rfl⟩
theorem ed_common {k : Bool} (hn : Nms names) (h4 : names.length ≤ 4) (hM : Al M H) (h3 : ED K M (tVar 3) σ H (dNm k names)) (h5 : ED K M (tDGet (tVar 5) (tVar 7)) σ H (fRow names seen s)) :
    ED K M (tCall (sp_L_common K) [] E0 (tCons (tVar 3) (tCons (tDGet (tVar 5) (tVar 7)) tNil))) σ H (dLs (commonOf names (fitting names seen s))) := ed_call hM (eda_cons h3 (eda_cons h5 eda_nil)) ⟨k, names, _, rfl, hn, fit_len h4, fit_wd hn, rfl⟩
/-- the two dicts are alike: or both are None -/
theorem ev_wanted {v3 v4 : V} {q2 : Addr} (hn : Nms names) (hs : Sn names seen) (e3 : σ[3]? = some (some v3)) (e4 : σ[4]? = some (some v4)) (e8 : σ[8]? = some (some (.bl (isNone names seen)))) (e9 : σ[9]? = some (some (.ref q2)))
    (h3 : Da K [] H v3 (dTs names)) (h4 : Da K [] H v4 (.list (seen.map dTri))) (h9 : DicAt K [] H (.ref q2) names (names.map (fWant names seen))) :
    Ev (tOp (rNeW K) (tCall (sp_greatest_wants K) [] E0 (tCons (tVar 3) (tCons (tVar 4) tNil))) (tIf (tB (tVar 8)) (tC .non) (tVar 9))) σ H (.bl false) := fun H1 e1 Q c => by
  show tCall (sp_greatest_wants K) [] E0 (tCons (tVar 3) (tCons (tVar 4) tNil)) σ H1 _
  have as : EDA K [] (tCons (tVar 3) (tCons (tVar 4) tNil)) σ H [dTs names, .list (seen.map dTri)] := eda_cons (ed_var e3 h3) (eda_cons (ed_var e4 h4) eda_nil)
  refine as H1 e1 _ fun vs H2 e2 hv => ?_
  rw [List.append_nil]
  have b8 : ∀ {H3 : Hp}, EvT (tB (tVar 8)) σ H3 (isNone names seen) := et_B (ev_var e8)
  have hN := isNone_eq names seen
  refine ⟨[], true, names, false, seen, Al.nil, hv, hn, hs, fun hx H3 ex3 => ?_, fun hx v H3 ex3 hd => ?_⟩
  · rw [hx] at hN
    refine b8 H3 (Ex.refl H3) _ fun H4 e4' => ?_
    rw [hN]
    exact .inl ⟨rfl, rfl, c H4 ((e2.trans ex3).trans e4')⟩
  · rw [hx] at hN
    refine b8 H3 (Ex.refl H3) _ fun H4 e4' => ?_
    rw [hN]
    refine ⟨.ref q2, e9, ?_⟩
    have hd4 := hd.mono e4'
    have h94 := h9.mono ((e1.trans e2).trans (ex3.trans e4'))
    rw [most_eq hx] at hd4
    obtain ⟨a, ks, rfl, _, ha, hk, hda⟩ := hd4
    obtain ⟨b, ls, hbe, _, hb, hl, hdb⟩ := h94
    refine .inr ⟨a, b, ks, ls, rfl, hbe, ha, hb, ?_, fun pr hpr => ?_, c H4 ((e2.trans ex3).trans e4')⟩
    · have l1 := congrArg List.length hk
      have l2 := congrArg List.length hl
      rw [List.length_map, List.length_map] at l1 l2
      omega
    · obtain ⟨i, hi⟩ := List.getElem?_of_mem hpr
      have hk1 := congrArg (·[i]?) hk
      simp only [List.getElem?_map, hi, Option.map_some] at hk1
      obtain ⟨x, hx', ex⟩ := Option.map_eq_some_iff.mp hk1.symm
      have hvi : (ks.map (·.2))[i]? = some pr.2 := by rw [List.getElem?_map, hi]; rfl
      obtain ⟨d, hdi, hdp⟩ := dpAll_get' hda hvi
      obtain ⟨u, hu, hdu⟩ := valV_at hn.nd hl hdb hx' hdi
      have ed : d = fWant names seen x := by
        rw [List.getElem?_map, hx'] at hdi
        exact (Option.some.inj hdi).symm
      have wd : ∀ y ∈ unionOf names (fitting names seen x), Wd y := fun y hy => hn.wd y (by unfold unionOf at hy; exact (List.mem_filter.mp hy).1)
      subst ed
      exact ⟨u, _, by rw [← ex]; exact hu, Da.dp (M := [a]) hdp, Da.dp (M := [b]) hdu, shaped_Ts wd, by rw [eqv_Ts]; exact decide_eq_true rfl⟩
theorem hide_nil (H : Hp) : hide [] H = H := by
  funext b
  unfold hide
  rw [if_neg List.not_mem_nil]
theorem ev_i {i : Int} (h : ED K M te σ H (.int i)) : Ev te σ H (.int i) := fun H1 e Q q => h H1 e Q fun v H2 e2 hv => by
  rw [da_int hv]
  exact q H2 e2
theorem r_law (vs : List V) (H : Hp) (Q : VK) (E : XK) (h : sp_law K vs H Q E) : t_law K { nx := fun _ H' => Q .non H', rt := Q } (start ["_law_script", "_law_k", "_law_pool_here", "_law_names", "_law_seen", "_law_rows", "_law_text", "_law_skill", "_law_is_none", "_law_wanted", "_law_all_have", "_law_some_have"] vs) H := by
  obtain ⟨a, ns, rfl, hS, hl, q⟩ := h
  have h0 : Da K [] H (.ref a) (.list (ns.map PyData.int)) := da_nil (.lst hS (dpAll_ints ns))
  have hb := ed_max2 (σ := start ["_law_script", "_law_k", "_law_pool_here", "_law_names", "_law_seen", "_law_rows", "_law_text", "_law_skill", "_law_is_none", "_law_wanted", "_law_all_have", "_law_some_have"] [.ref a]) (ed_int (K := K) (M := []) (H := H) (i := 1)) (ed_min2 (ed_int (i := 8)) (ed_lenS (k := false) (ed_var (i := 0) rfl h0)))
  have n0 : (0 : Int) ≤ (if (if ((ns.map PyData.int).length : Int) < 8 then ((ns.map PyData.int).length : Int) else 8) > 1 then (if ((ns.map PyData.int).length : Int) < 8 then ((ns.map PyData.int).length : Int) else 8) else 1) := by split <;> split <;> omega
  have n8 : (if (if ((ns.map PyData.int).length : Int) < 8 then ((ns.map PyData.int).length : Int) else 8) > 1 then (if ((ns.map PyData.int).length : Int) < 8 then ((ns.map PyData.int).length : Int) else 8) else 1) ≤ (8 : Int) := by split <;> split <;> omega
  generalize (if (if ((ns.map PyData.int).length : Int) < 8 then ((ns.map PyData.int).length : Int) else 8) > 1 then (if ((ns.map PyData.int).length : Int) < 8 then ((ns.map PyData.int).length : Int) else 8) else 1) = n at hb n0 n8
  refine q_forR1 (n := n) (ea_cons (ev_i hb) ea_nil) ⟨n0, by omega⟩ (fun i σ' H' => Ex H H' ∧ ∃ y1 y2 y3 y4 y5 y6 y7 y8 y9 y10 y11, σ' = [some (.ref a), y1, y2, y3, y4, y5, y6, y7, y8, y9, y10, y11]) (fun H1 e1 => ⟨e1, none, none, none, none, none, none, none, none, none, none, none, rfl⟩) ?_ ?_
  · rintro i σ' H1 hi ⟨e1, y1, y2, y3, y4, y5, y6, y7, y8, y9, y10, y11, rfl⟩
    refine q_pool (a := a) (ns := ns) (k := i) rfl rfl (ex_l e1 hS) hl (by omega) fun p H2 np e2 hP => ?_
    have hpm : p ∈ [p] := List.mem_cons_self
    have al2 : Al [p] H2 := fun b hb => by rw [List.mem_singleton.mp hb]; exact pool_ne hP
    refine q_told (M := [p]) rfl hP hpm al2 fun names hn hn4 v3 H3 dr3 h3 => ?_
    have x3 := dr3.ext hpm al2
    refine q_answers (M := [p]) (v := v3) (names := names) rfl rfl dr3.2 hpm x3.al h3 hn hn4 fun seen hs v4 H4 dr4 h4 => ?_
    have h3 : Da K [] H4 v3 (dTs names) := da_nil (h3.ext (dr4.ext hpm x3.al)).dp
    have h4 : Da K [] H4 v4 (.list (seen.map dTri)) := da_nil h4.dp
    have e4 : Ex H1 H4 := fun b o hb => by
      have nb : b ≠ p := fun z => by rw [z, np] at hb; cases hb
      exact (dr3.trans dr4).at nb (e2 b o hb)
    have hnl := hn.hi
    have hsl := hs.len
    have tx := text_ok hn hs
    -- rows, text = {}, repr(seen)
    refine q_two (K := K) (M := []) (v := v4) (ds := seen.map dTri) rfl h4 tx fun q5 H5 nq5 e5 hq5 => ?_
    refine q_fill (K := K) (v := v3) (f := fRow names seen) (H0 := H4) (y7 := y7) nq5 e5 hq5 hn.nd (by omega) rfl h3 rfl (fun _ => rfl) (fun _ => rfl) (fun s hs' H6 ex => ?_) fun z7 H6 e6 h5 => ?_
    · exact ed_call ex.al (eda_cons (ed_var rfl (h3.ext ex)) (eda_cons (ed_var rfl (h4.ext ex)) (eda_cons (ed_var rfl (.str s)) eda_nil))) ⟨true, names, false, seen, s, rfl, hn, hn4, hs, rfl⟩
    have h3 := h3.mono e6
    have h4 := h4.mono e6
    -- is_none
    refine qd_asg (K := K) (M := []) (d := .bool (isNone names seen)) ?_ fun v8 H7 e7 h8 => ?_
    · refine ED.is (ed_ne (d1 := .list ((names.filter fun s => decide (fitting names seen s = [])).map PyData.str)) (d2 := .list []) ?_ (ed_lst Al.nil eda_nil (by decide)) (shaped_Ls fun x hx => hn.wd x (List.mem_filter.mp hx).1) shaped_nil) ?_
      · refine ed_lc (k := true) (l := names) (enc := PyData.str) (f := PyData.str) (p := fun s => decide (fitting names seen s = [])) Al.nil (ed_var rfl h3) (by omega) fun s hs' M' u H8 ex hu => step_name rfl (et_t (K := K) (M := M') ?_) fun _ => ed_var rfl hu
        refine ED.is (ed_eq (ed_rowOf hn ex.al rfl (h5.ext ex) (ed_var rfl hu) hs') (ed_lst ex.al eda_nil (by decide)) (shaped_rowsT (fit_wd hn)) shaped_nil) ?_
        rw [eqv_nil, map_nil]
      · rw [eqv_nil, map_nil]; rfl
    · have b8 := da_bl h8
      subst b8
      have h3 := h3.mono e7
      have h4 := h4.mono e7
      have h5 := h5.mono e7
      -- wanted = {}, filled
      refine q_dnew fun q9 nq9 => ?_
      have hd3 : ∀ {H8 : Hp} {k : Bool}, Ext [] H7 [q9] H8 → Da K [q9] H8 v3 (dTs names) := fun ex => h3.ext ex
      refine q_fill (K := K) (v := v3) (f := fWant names seen) (H0 := H7) (y7 := z7) nq9 (Ex.new nq9) upd_same hn.nd (by omega) rfl h3 rfl (fun _ => rfl) (fun _ => rfl) (fun s hs' H8 ex => ?_) fun z7 H8 e8 h9 => ?_
      · exact ed_tupleOf (k := false) ex.al (ed_union (k := true) hn hn4 ex.al (ed_var rfl (h3.ext ex)) (ed_rowOf hn ex.al rfl (h5.ext ex) (ed_var rfl (.str s)) hs'))
      have h3 := h3.mono e8
      have h4 := h4.mono e8
      have h5 := h5.mono e8
      refine qd_skip (et_test (ev_wanted hn hs rfl rfl rfl rfl h3 h4 h9)) fun H9 e9 => ?_
      have h3 := h3.mono e9
      have h4 := h4.mono e9
      have h5 := h5.mono e9
      have e19 : Ex H H9 := ((((((e1.trans e4).trans e6).trans e7).trans e8).trans e9))
      refine q_for (K := K) (M := []) (l := names) (enc := PyData.str) (k := true) (ed_var rfl h3) (fun _ σ' H' => Ex H9 H' ∧ ∃ w7 w10 w11, σ' = [some (.ref a), some (.int (i : Int)), some (.ref p), some v3, some v4, some (.ref q5), some (.str (PyData.list (seen.map dTri)).shown), w7, some (.bl (isNone names seen)), some (.ref q9), w10, w11])
        (fun H10 e10 => ⟨e10, _, _, _, rfl⟩) ?_ ?_
      · rintro H10 e10 j s u σ' H11 hj ⟨e11, w7, w10, w11, rfl⟩ hE hu
        have eu := da_str hu
        subst eu
        have hs' : s ∈ names := List.mem_of_getElem? hj
        have h3 := h3.mono e11
        have h4 := h4.mono e11
        have h5 := h5.mono e11
        have hE' : Ex H10 H11 := by rwa [hide_nil, hide_nil] at hE
        refine qd_asg (K := K) (M := []) (σ := [some (.ref a), some (.int (i : Int)), some (.ref p), some v3, some v4, some (.ref q5), some (.str (PyData.list (seen.map dTri)).shown), some (.str s), some (.bl (isNone names seen)), some (.ref q9), w10, w11]) (d := dLs (mustOf names seen s)) ?_ fun v10 H12 e12 h10 => ?_
        · rw [law_must hn.nd hs']
          refine ed_if (b := isNone names seen) (et_B (ev_var rfl)) (fun hb => ?_) fun hb => ?_
          · rw [hb]
            exact ed_lst (ds := []) Al.nil eda_nil (by decide)
          · rw [hb]
            exact ed_common (k := true) hn hn4 Al.nil (ed_var rfl h3) (ed_rowOf hn Al.nil rfl h5 (ed_var rfl hu) hs')
        have h3 := h3.mono e12
        have h4 := h4.mono e12
        have h5 := h5.mono e12
        have hu := hu.mono e12
        refine qd_asg (K := K) (M := []) (σ := [some (.ref a), some (.int (i : Int)), some (.ref p), some v3, some v4, some (.ref q5), some (.str (PyData.list (seen.map dTri)).shown), some (.str s), some (.bl (isNone names seen)), some (.ref q9), some v10, w11]) (d := dLs (mayOf names seen s)) ?_ fun v11 H13 e13 h11 => ?_
        · rw [law_may hs']
          refine ed_if (b := isNone names seen) (et_B (ev_var rfl)) (fun hb => ?_) fun hb => ?_
          · rw [hb]
            exact ed_lst (ds := []) Al.nil eda_nil (by decide)
          · rw [hb]
            exact ed_union (k := true) hn hn4 Al.nil (ed_var rfl h3) (ed_rowOf hn Al.nil rfl h5 (ed_var rfl hu) hs')
        have h3 := h3.mono e13
        have h4 := h4.mono e13
        have h10 := h10.mono e13
        have hu := hu.mono e13
        have wm : ∀ x ∈ mustOf names seen s, Wd x := must_wd hn
        have wy : ∀ x ∈ mayOf names seen s, Wd x := may_wd hn
        refine qd_skip (et_is (et_or (et_t (K := K) (M := []) (ed_ne (ed_call Al.nil (eda_cons (ed_var rfl h3) (eda_cons (ed_var rfl h4) (eda_cons (ed_var rfl hu) eda_nil))) ⟨true, names, false, seen, s, rfl, hn, hs, hs', rfl⟩) (ed_var rfl h10) (shaped_Ls wm) (shaped_Ls wm))) fun _ =>
          et_t (K := K) (M := []) (ed_ne (ed_call Al.nil (eda_cons (ed_listOf (k := true) Al.nil (ed_var rfl h3)) (eda_cons (ed_tupleOf (k := false) Al.nil (ed_var rfl h4)) (eda_cons (ed_var rfl hu) eda_nil))) ⟨false, names, true, seen, s, rfl, hn, hs, hs', rfl⟩) (ed_var rfl h11) (shaped_Ls wy) (shaped_Ls wy))) ?_) fun H14 e14 => ?_
        · rw [eqv_Ls, eqv_Ls, decide_eq_true rfl, decide_eq_true rfl]; rfl
        · refine sd_skip (et_is (et_t (K := K) (M := []) (ed_neB (ed_call Al.nil (eda_cons (ed_var rfl (h3.mono e14)) (eda_cons (ed_var rfl (h4.mono e14)) (eda_cons (ed_var rfl (hu.mono e14)) eda_nil))) ⟨true, names, false, seen, s, rfl, hn, hs, hs', rfl⟩) (ed_ne (ed_var rfl (h10.mono e14)) (ed_var rfl (h11.mono e14)) (shaped_Ls wm) (shaped_Ls wy)))) ?_) fun H15 e15 => ?_
          · rw [eqv_Ls, decide_eq_decide.mpr (show mayOf names seen s = mustOf names seen s ↔ mustOf names seen s = mayOf names seen s from ⟨fun z => z.symm, fun z => z.symm⟩), decide_eq_true rfl]; rfl
          · have e5' := ((e12.trans e13).trans e14).trans e15
            exact ⟨⟨e11.trans e5', _, _, _, rfl⟩, by rw [hide_nil, hide_nil]; exact hE'.trans e5'⟩
      · rintro σ' H10 ⟨e10, w7, w10, w11, rfl⟩ hE
        have h4 := h4.mono e10
        refine sd_skip (et_is (et_t (K := K) (M := []) (ed_neS (ed_repr (ed_var rfl h4) tx) (ed_var rfl (.str _)))) (by rw [decide_eq_true rfl]; rfl)) fun H11 e11 => ⟨(e19.trans e10).trans e11, _, _, _, _, _, _, _, _, _, _, _, rfl⟩
  · rintro σ' H1 ⟨e1, y1, y2, y3, y4, y5, y6, y7, y8, y9, y10, y11, rfl⟩
    exact sd_ret (K := K) (M := []) (d := .bool true) (ed_call Al.nil eda_nil ⟨rfl, rfl⟩) fun v H2 e2 hv => by
      rw [da_bl hv]
      exact q H2
end
end Rt

/-! Every def as its callers know it; the law's call; the head's goal. -/
namespace Rt
open PySem L2 Evl RtM PyProof.Rows

section
variable {K : PySem.W.Frag} {ds : List PyData} {d : PyData}
theorem len_is_word (h : C_is_word ds d) : ds.length = 1 := by
  obtain ⟨_, rfl, _⟩ := h
  rfl
theorem len_is_row (h : C_is_row ds d) : ds.length = 1 := by
  obtain ⟨_, _, rfl, _⟩ := h
  rfl
theorem len_are_unlike (h : C_are_unlike ds d) : ds.length = 1 := by
  obtain ⟨_, _, rfl, _⟩ := h
  rfl
theorem len_are_words (h : C_are_words ds d) : ds.length = 3 := by
  obtain ⟨_, _, _, _, rfl, _⟩ := h
  rfl
theorem len_is_build_of (h : C_is_build_of ds d) : ds.length = 2 := by
  obtain ⟨_, _, _, rfl, _⟩ := h
  rfl
theorem len_is_triple (h : C_is_triple ds d) : ds.length = 2 := by
  obtain ⟨_, _, _, rfl, _⟩ := h
  rfl
theorem len_look_at_names (h : C_look_at_names ds d) : ds.length = 1 := by
  obtain ⟨_, _, rfl, _⟩ := h
  rfl
theorem len_are_triples (h : C_are_triples ds d) : ds.length = 2 := by
  obtain ⟨_, _, _, _, rfl, _⟩ := h
  rfl
theorem len_look_at_seen (h : C_look_at_seen ds d) : ds.length = 2 := by
  obtain ⟨_, _, _, _, rfl, _⟩ := h
  rfl
theorem len_most_wanted (h : C_most_wanted ds d) : ds.length = 3 := by
  obtain ⟨_, _, _, _, _, rfl, _⟩ := h
  rfl
theorem len_refused_rows (h : C_refused_rows ds d) : ds.length = 3 := by
  obtain ⟨_, _, _, _, _, rfl, _⟩ := h
  rfl
theorem len_is_explained (h : C_is_explained ds d) : ds.length = 2 := by
  obtain ⟨_, _, _, _, rfl, _⟩ := h
  rfl
theorem len_greatest_wants : ∀ vs H Q E, sp_greatest_wants K vs H Q E → vs.length = 2 := fun vs H Q E h => by
  obtain ⟨_, _, _, _, _, _, h, _⟩ := h
  rw [dpAll_len h]
  rfl
theorem len_look_at_question (h : C_look_at_question ds d) : ds.length = 3 := by
  obtain ⟨_, _, _, _, _, rfl, _⟩ := h
  rfl
theorem len_must (h : C_must ds d) : ds.length = 3 := by
  obtain ⟨_, _, _, _, _, rfl, _⟩ := h
  rfl
theorem len_may (h : C_may ds d) : ds.length = 3 := by
  obtain ⟨_, _, _, _, _, rfl, _⟩ := h
  rfl
theorem len_next_ask (h : C_next_ask ds d) : ds.length = 3 := by
  obtain ⟨_, _, _, _, _, rfl, _⟩ := h
  rfl
theorem len_L_pool : ∀ vs H Q E, sp_L_pool K vs H Q E → vs.length = 2 := fun vs H Q E h => by
  obtain ⟨_, _, _, rfl, _⟩ := h
  rfl
theorem len_L_take : ∀ vs H Q E, sp_L_take K vs H Q E → vs.length = 2 := fun vs H Q E h => by
  obtain ⟨_, _, rfl, _⟩ := h
  rfl
theorem len_L_one : ∀ vs H Q E, sp_L_one K vs H Q E → vs.length = 2 := fun vs H Q E h => by
  obtain ⟨_, _, _, _, _, rfl, _⟩ := h
  rfl
theorem len_L_told_names : ∀ vs H Q E, sp_L_told_names K vs H Q E → vs.length = 2 := fun vs H Q E h => by
  obtain ⟨_, _, rfl, _⟩ := h
  rfl
theorem len_L_parts (h : C_L_parts ds d) : ds.length = 1 := by
  obtain ⟨_, _, rfl, _⟩ := h
  rfl
theorem len_L_answers : ∀ vs H Q E, sp_L_answers K vs H Q E → vs.length = 3 := fun vs H Q E h => by
  obtain ⟨_, _, _, _, _, rfl, _⟩ := h
  rfl
theorem len_L_fitting (h : C_L_fitting ds d) : ds.length = 3 := by
  obtain ⟨_, _, _, _, _, rfl, _⟩ := h
  rfl
theorem len_L_union (h : C_L_union ds d) : ds.length = 2 := by
  obtain ⟨_, _, _, rfl, _⟩ := h
  rfl
theorem len_L_common (h : C_L_common ds d) : ds.length = 2 := by
  obtain ⟨_, _, _, rfl, _⟩ := h
  rfl
theorem len_L_twelve (h : C_L_twelve ds d) : ds.length = 0 := by
  obtain ⟨rfl, _⟩ := h
  rfl
end
/-- where every def of the text stands -/
structure Places (K : PySem.W.Frag) (mg : Str → Option Value) : Prop where
  p_is_word : ∃ f fd, AtDef K mg "is_word" s_is_word f fd
  p_is_row : ∃ f fd, AtDef K mg "is_row" s_is_row f fd
  p_are_unlike : ∃ f fd, AtDef K mg "are_unlike" s_are_unlike f fd
  p_are_words : ∃ f fd, AtDef K mg "are_words" s_are_words f fd
  p_is_build_of : ∃ f fd, AtDef K mg "is_build_of" s_is_build_of f fd
  p_is_triple : ∃ f fd, AtDef K mg "is_triple" s_is_triple f fd
  p_look_at_names : ∃ f fd, AtDef K mg "look_at_names" s_look_at_names f fd
  p_are_triples : ∃ f fd, AtDef K mg "are_triples" s_are_triples f fd
  p_look_at_seen : ∃ f fd, AtDef K mg "look_at_seen" s_look_at_seen f fd
  p_most_wanted : ∃ f fd, AtDef K mg "most_wanted" s_most_wanted f fd
  p_refused_rows : ∃ f fd, AtDef K mg "refused_rows" s_refused_rows f fd
  p_is_explained : ∃ f fd, AtDef K mg "is_explained" s_is_explained f fd
  p_greatest_wants : ∃ f fd, AtDef K mg "greatest_wants" s_greatest_wants f fd
  p_look_at_question : ∃ f fd, AtDef K mg "look_at_question" s_look_at_question f fd
  p_must : ∃ f fd, AtDef K mg "must" s_must f fd
  p_may : ∃ f fd, AtDef K mg "may" s_may f fd
  p_next_ask : ∃ f fd, AtDef K mg "next_ask" s_next_ask f fd
  p_L_pool : ∃ f fd, AtDef K mg "_law_pool" s_L_pool f fd
  p_L_take : ∃ f fd, AtDef K mg "_law_take" s_L_take f fd
  p_L_one : ∃ f fd, AtDef K mg "_law_one" s_L_one f fd
  p_L_told_names : ∃ f fd, AtDef K mg "_law_told_names" s_L_told_names f fd
  p_L_parts : ∃ f fd, AtDef K mg "_law_parts" s_L_parts f fd
  p_L_answers : ∃ f fd, AtDef K mg "_law_answers" s_L_answers f fd
  p_L_fitting : ∃ f fd, AtDef K mg "_law_fitting" s_L_fitting f fd
  p_L_union : ∃ f fd, AtDef K mg "_law_union" s_L_union f fd
  p_L_common : ∃ f fd, AtDef K mg "_law_common" s_L_common f fd
  p_L_twelve : ∃ f fd, AtDef K mg "_law_twelve" s_L_twelve f fd
  p_law : ∃ f fd, AtDef K mg "law" s_law f fd
section
variable {P : Program} {w : World} {K : PySem.W.Frag} {mg : Str → Option Value} {base : Heap}
theorem d_is_word (B : Places K mg) (T : Txt K mg) : Df P w K mg base 1 "is_word" ["value"] (sp_is_word K) := by
  obtain ⟨f, fd, at_⟩ := B.p_is_word
  exact df_mk at_ sc_is_word (fun _ _ _ _ _ _ us hl => match us, hl with | [_], _ => rfl) (len_spD fun ds d h => len_is_word h) (fun cdv A outer s H E hr => w_is_word hr T) r_is_word
theorem d_is_row (B : Places K mg) (T : Txt K mg) : Df P w K mg base 1 "is_row" ["value"] (sp_is_row K) := by
  obtain ⟨f, fd, at_⟩ := B.p_is_row
  exact df_mk at_ sc_is_row (fun _ _ _ _ _ _ us hl => match us, hl with | [_], _ => rfl) (len_spD fun ds d h => len_is_row h) (fun cdv A outer s H E hr => w_is_row hr T) r_is_row
theorem d_are_unlike (B : Places K mg) (T : Txt K mg) : Df P w K mg base 1 "are_unlike" ["some"] (sp_are_unlike K) := by
  obtain ⟨f, fd, at_⟩ := B.p_are_unlike
  exact df_mk at_ sc_are_unlike (fun _ _ _ _ _ _ us hl => match us, hl with | [_], _ => rfl) (len_spD fun ds d h => len_are_unlike h) (fun cdv A outer s H E hr => w_are_unlike hr T) r_are_unlike
theorem d_are_words (B : Places K mg) (T : Txt K mg) : Df P w K mg base 2 "are_words" ["value", "low", "high"] (sp_are_words K) := by
  obtain ⟨f, fd, at_⟩ := B.p_are_words
  exact df_mk at_ sc_are_words (fun _ _ _ _ _ _ us hl => match us, hl with | [_, _, _], _ => rfl) (len_spD fun ds d h => len_are_words h) (fun cdv A outer s H E hr => w_are_words hr T (d_are_unlike B T) (d_is_word B T) (d_is_row B T)) r_are_words
theorem d_is_build_of (B : Places K mg) (T : Txt K mg) : Df P w K mg base 2 "is_build_of" ["names", "value"] (sp_is_build_of K) := by
  obtain ⟨f, fd, at_⟩ := B.p_is_build_of
  exact df_mk at_ sc_is_build_of (fun _ _ _ _ _ _ us hl => match us, hl with | [_, _], _ => rfl) (len_spD fun ds d h => len_is_build_of h) (fun cdv A outer s H E hr => w_is_build_of hr T (d_is_word B T)) r_is_build_of
theorem d_is_triple (B : Places K mg) (T : Txt K mg) : Df P w K mg base 3 "is_triple" ["names", "value"] (sp_is_triple K) := by
  obtain ⟨f, fd, at_⟩ := B.p_is_triple
  exact df_mk at_ sc_is_triple (fun _ _ _ _ _ _ us hl => match us, hl with | [_, _], _ => rfl) (len_spD fun ds d h => len_is_triple h) (fun cdv A outer s H E hr => w_is_triple hr T (d_is_word B T) (d_is_build_of B T)) r_is_triple
theorem d_look_at_names (B : Places K mg) (T : Txt K mg) : Df P w K mg base 3 "look_at_names" ["names"] (sp_look_at_names K) := by
  obtain ⟨f, fd, at_⟩ := B.p_look_at_names
  exact df_mk at_ sc_look_at_names (fun _ _ _ _ _ _ us hl => match us, hl with | [_], _ => rfl) (len_spD fun ds d h => len_look_at_names h) (fun cdv A outer s H E hr => w_look_at_names hr T (d_are_words B T)) r_look_at_names
theorem d_are_triples (B : Places K mg) (T : Txt K mg) : Df P w K mg base 4 "are_triples" ["names", "value"] (sp_are_triples K) := by
  obtain ⟨f, fd, at_⟩ := B.p_are_triples
  exact df_mk at_ sc_are_triples (fun _ _ _ _ _ _ us hl => match us, hl with | [_, _], _ => rfl) (len_spD fun ds d h => len_are_triples h) (fun cdv A outer s H E hr => w_are_triples hr T (d_is_triple B T) (d_is_row B T)) r_are_triples
theorem d_look_at_seen (B : Places K mg) (T : Txt K mg) : Df P w K mg base 5 "look_at_seen" ["names", "seen"] (sp_look_at_seen K) := by
  obtain ⟨f, fd, at_⟩ := B.p_look_at_seen
  exact df_mk at_ sc_look_at_seen (fun _ _ _ _ _ _ us hl => match us, hl with | [_, _], _ => rfl) (len_spD fun ds d h => len_look_at_seen h) (fun cdv A outer s H E hr => w_look_at_seen hr T (d_are_triples B T) (d_look_at_names B T)) r_look_at_seen
theorem d_most_wanted (B : Places K mg) (T : Txt K mg) : Df P w K mg base 1 "most_wanted" ["names", "seen", "skill"] (sp_most_wanted K) := by
  obtain ⟨f, fd, at_⟩ := B.p_most_wanted
  exact df_mk at_ sc_most_wanted (fun _ _ _ _ _ _ us hl => match us, hl with | [_, _, _], _ => rfl) (len_spD fun ds d h => len_most_wanted h) (fun cdv A outer s H E hr => w_most_wanted hr T) r_most_wanted
theorem d_refused_rows (B : Places K mg) (T : Txt K mg) : Df P w K mg base 2 "refused_rows" ["names", "seen", "skill"] (sp_refused_rows K) := by
  obtain ⟨f, fd, at_⟩ := B.p_refused_rows
  exact df_mk at_ sc_refused_rows (fun _ _ _ _ _ _ us hl => match us, hl with | [_, _, _], _ => rfl) (len_spD fun ds d h => len_refused_rows h) (fun cdv A outer s H E hr => w_refused_rows hr T (d_most_wanted B T)) r_refused_rows
theorem d_is_explained (B : Places K mg) (T : Txt K mg) : Df P w K mg base 3 "is_explained" ["names", "seen"] (sp_is_explained K) := by
  obtain ⟨f, fd, at_⟩ := B.p_is_explained
  exact df_mk at_ sc_is_explained (fun _ _ _ _ _ _ us hl => match us, hl with | [_, _], _ => rfl) (len_spD fun ds d h => len_is_explained h) (fun cdv A outer s H E hr => w_is_explained hr T (d_refused_rows B T)) r_is_explained
theorem d_greatest_wants (B : Places K mg) (T : Txt K mg) : Df P w K mg base 6 "greatest_wants" ["names", "seen"] (sp_greatest_wants K) := by
  obtain ⟨f, fd, at_⟩ := B.p_greatest_wants
  exact df_mk at_ sc_greatest_wants (fun _ _ _ _ _ _ us hl => match us, hl with | [_, _], _ => rfl) len_greatest_wants (fun cdv A outer s H E hr => w_greatest_wants hr T (d_most_wanted B T) (d_is_explained B T) (d_look_at_seen B T)) r_greatest_wants
theorem d_look_at_question (B : Places K mg) (T : Txt K mg) : Df P w K mg base 6 "look_at_question" ["names", "seen", "skill"] (sp_look_at_question K) := by
  obtain ⟨f, fd, at_⟩ := B.p_look_at_question
  exact df_mk at_ sc_look_at_question (fun _ _ _ _ _ _ us hl => match us, hl with | [_, _, _], _ => rfl) (len_spD fun ds d h => len_look_at_question h) (fun cdv A outer s H E hr => w_look_at_question hr T (d_is_word B T) (d_look_at_seen B T)) r_look_at_question
theorem d_must (B : Places K mg) (T : Txt K mg) : Df P w K mg base 7 "must" ["names", "seen", "skill"] (sp_must K) := by
  obtain ⟨f, fd, at_⟩ := B.p_must
  exact df_mk at_ sc_must (fun _ _ _ _ _ _ us hl => match us, hl with | [_, _, _], _ => rfl) (len_spD fun ds d h => len_must h) (fun cdv A outer s H E hr => w_must hr T (d_refused_rows B T) (d_is_explained B T) (d_look_at_question B T)) r_must
theorem d_may (B : Places K mg) (T : Txt K mg) : Df P w K mg base 7 "may" ["names", "seen", "skill"] (sp_may K) := by
  obtain ⟨f, fd, at_⟩ := B.p_may
  exact df_mk at_ sc_may (fun _ _ _ _ _ _ us hl => match us, hl with | [_, _, _], _ => rfl) (len_spD fun ds d h => len_may h) (fun cdv A outer s H E hr => w_may hr T (d_is_explained B T) (d_most_wanted B T) (d_look_at_question B T)) r_may
theorem d_next_ask (B : Places K mg) (T : Txt K mg) : Df P w K mg base 8 "next_ask" ["names", "seen", "skill"] (sp_next_ask K) := by
  obtain ⟨f, fd, at_⟩ := B.p_next_ask
  exact df_mk at_ sc_next_ask (fun _ _ _ _ _ _ us hl => match us, hl with | [_, _, _], _ => rfl) (len_spD fun ds d h => len_next_ask h) (fun cdv A outer s H E hr => w_next_ask hr T (d_may B T) (d_must B T)) r_next_ask
theorem d_L_pool (B : Places K mg) (T : Txt K mg) : Df P w K mg base 1 "_law_pool" ["_law_script", "_law_k"] (sp_L_pool K) := by
  obtain ⟨f, fd, at_⟩ := B.p_L_pool
  exact df_mk at_ sc_L_pool (fun _ _ _ _ _ _ us hl => match us, hl with | [_, _], _ => rfl) len_L_pool (fun cdv A outer s H E hr => w_L_pool hr T) r_L_pool
theorem d_L_take (B : Places K mg) (T : Txt K mg) : Df P w K mg base 1 "_law_take" ["_law_pool_here", "_law_bound"] (sp_L_take K) := by
  obtain ⟨f, fd, at_⟩ := B.p_L_take
  exact df_mk at_ sc_L_take (fun _ _ _ _ _ _ us hl => match us, hl with | [_, _], _ => rfl) len_L_take (fun cdv A outer s H E hr => w_L_take hr T) r_L_take
theorem d_L_one (B : Places K mg) (T : Txt K mg) : Df P w K mg base 2 "_law_one" ["_law_pool_here", "_law_things"] (sp_L_one K) := by
  obtain ⟨f, fd, at_⟩ := B.p_L_one
  exact df_mk at_ sc_L_one (fun _ _ _ _ _ _ us hl => match us, hl with | [_, _], _ => rfl) len_L_one (fun cdv A outer s H E hr => w_L_one hr T (d_L_take B T)) r_L_one
theorem d_L_told_names (B : Places K mg) (T : Txt K mg) : Df P w K mg base 3 "_law_told_names" ["_law_pool_here", "_law_top"] (sp_L_told_names K) := by
  obtain ⟨f, fd, at_⟩ := B.p_L_told_names
  exact df_mk at_ sc_L_told_names (fun _ _ _ _ _ _ us hl => match us, hl with | [_, _], _ => rfl) len_L_told_names (fun cdv A outer s H E hr => w_L_told_names hr T (d_L_take B T) (d_L_one B T)) r_L_told_names
theorem d_L_parts (B : Places K mg) (T : Txt K mg) : Df P w K mg base 1 "_law_parts" ["_law_some"] (sp_L_parts K) := by
  obtain ⟨f, fd, at_⟩ := B.p_L_parts
  exact df_mk at_ sc_L_parts (fun _ _ _ _ _ _ us hl => match us, hl with | [_], _ => rfl) (len_spD fun ds d h => len_L_parts h) (fun cdv A outer s H E hr => w_L_parts hr T) r_L_parts
theorem d_L_answers (B : Places K mg) (T : Txt K mg) : Df P w K mg base 3 "_law_answers" ["_law_pool_here", "_law_names", "_law_many"] (sp_L_answers K) := by
  obtain ⟨f, fd, at_⟩ := B.p_L_answers
  exact df_mk at_ sc_L_answers (fun _ _ _ _ _ _ us hl => match us, hl with | [_, _, _], _ => rfl) len_L_answers (fun cdv A outer s H E hr => w_L_answers hr T (d_L_take B T) (d_L_parts B T) (d_L_one B T)) r_L_answers
theorem d_L_fitting (B : Places K mg) (T : Txt K mg) : Df P w K mg base 2 "_law_fitting" ["_law_names", "_law_seen", "_law_skill"] (sp_L_fitting K) := by
  obtain ⟨f, fd, at_⟩ := B.p_L_fitting
  exact df_mk at_ sc_L_fitting (fun _ _ _ _ _ _ us hl => match us, hl with | [_, _, _], _ => rfl) (len_spD fun ds d h => len_L_fitting h) (fun cdv A outer s H E hr => w_L_fitting hr T (d_L_parts B T)) r_L_fitting
theorem d_L_union (B : Places K mg) (T : Txt K mg) : Df P w K mg base 1 "_law_union" ["_law_names", "_law_rows"] (sp_L_union K) := by
  obtain ⟨f, fd, at_⟩ := B.p_L_union
  exact df_mk at_ sc_L_union (fun _ _ _ _ _ _ us hl => match us, hl with | [_, _], _ => rfl) (len_spD fun ds d h => len_L_union h) (fun cdv A outer s H E hr => w_L_union hr T) r_L_union
theorem d_L_common (B : Places K mg) (T : Txt K mg) : Df P w K mg base 1 "_law_common" ["_law_names", "_law_rows"] (sp_L_common K) := by
  obtain ⟨f, fd, at_⟩ := B.p_L_common
  exact df_mk at_ sc_L_common (fun _ _ _ _ _ _ us hl => match us, hl with | [_, _], _ => rfl) (len_spD fun ds d h => len_L_common h) (fun cdv A outer s H E hr => w_L_common hr T) r_L_common
theorem d_L_twelve (B : Places K mg) (T : Txt K mg) : Df P w K mg base 9 "_law_twelve" [] (sp_L_twelve K) := by
  obtain ⟨f, fd, at_⟩ := B.p_L_twelve
  exact df_mk at_ sc_L_twelve (fun _ _ _ _ _ _ us hl => match us, hl with | [], _ => rfl) (len_spD fun ds d h => len_L_twelve h) (fun cdv A outer s H E hr => w_L_twelve hr T (d_may B T) (d_greatest_wants B T) (d_next_ask B T) (d_must B T)) r_L_twelve
theorem walk_law (B : Places K mg) (T : Txt K mg) {f : Addr} (cdv : Value) (A : Around) (outer : List Env) (s : Shared) (H : Hp) (E : XK) (hg : A.guards = some []) (hr : Room 9 (A.deeper (envOfC "law" (defScope s_law) s.heap.objs.size f cdv))) :
    PSs (cxOf CX0 P w K mg base ["_law_script", "_law_k", "_law_pool_here", "_law_names", "_law_seen", "_law_rows", "_law_text", "_law_skill", "_law_is_none", "_law_wanted", "_law_all_have", "_law_some_have"] "law" (defScope s_law) f cdv A outer s H E).nox (defBody s_law) (t_law K) := w_law hg hr T (d_L_twelve B T) (d_next_ask B T) (d_may B T) (d_must B T) (d_L_union B T) (d_L_common B T) (d_greatest_wants B T) (d_L_fitting B T) (d_L_take B T) (d_L_answers B T) (d_L_told_names B T) (d_L_pool B T)
end
/-! ### the law's call: the one place where no repr is under way -/
section
variable {P : Program} {w : World} {K : PySem.W.Frag} {mg : Str → Option Value}
theorem run_law {base : Heap} (B : Places K mg) (T : Txt K mg) {fa a : Addr} {fd : FuncData} (L : AtDef K mg "law" s_law fa fd) {s : Shared} {H : Hp} {ns : List Int} (e0 : Env0 P w K mg base callerA [] s H) (hS : SqL K H a (ns.map V.int)) (hl : ns.length ≤ 63) :
    codeAny (model P w) callerA (.call (.ref fa) ⟨[.ref a], []⟩) (CR CX0 [] P w H s (fun v _ => v = .bl true) E0) s := by
  obtain ⟨oc, od, kV, doc, pm, an, cdv, ct, osl, rfl, lk, hcd⟩ := L.1.ex
  have room : Room 10 callerA := ⟨rfl, by decide, by decide⟩
  have stay : ∀ b o, base.get? b = some o → s.heap.get? b = some o := fun b o e => (e0.bs b o e).1
  have kin : K.In s.heap := e0.mod.kin.keeps stay
  have bnd : ∀ t : Shared, BindsTo t (PySem.W.fnOf "law" "law" (defArgs s_law) (defBody s_law) (defScope s_law) .none kV doc pm an cdv ct) ⟨[.ref a], []⟩ [("_law_script", .ref a)] := fun t => .of_eq rfl
  refine codeAny_call_function room.depth (kin _ _ lk) rfl sc_law.co sc_law.gen rfl (PySem.W.codeRec_of kin hcd) (bnd s _ _ _ _ ?_)
  refine wpAny_newFunctionEnv_cells sc_law.kind (fun y hy => ?_) fun env he s1 x => ?_
  · rw [List.mem_singleton.mp hy]
    exact .inl rfl
  · subst he
    refine ⟨(e0.mod.nolimit.keeps stay).keeps x.toInCall.keep, codeAny_func ?_⟩
    have I : Inv (cxOf CX0 P w K mg base ["_law_script", "_law_k", "_law_pool_here", "_law_names", "_law_seen", "_law_rows", "_law_text", "_law_skill", "_law_is_none", "_law_wanted", "_law_all_have", "_law_some_have"] "law" (defScope s_law) fa cdv callerA [] s H E0) []
        (start ["_law_script", "_law_k", "_law_pool_here", "_law_names", "_law_seen", "_law_rows", "_law_text", "_law_skill", "_law_is_none", "_law_wanted", "_law_all_have", "_law_some_have"] [.ref a]) H s1 := inv_start (us := [.ref a]) sc_law room.hd e0 rfl (.cons rfl .nil) x
    have wk := (walk_law (P := P) (w := w) (base := base) B T (f := fa) cdv callerA [] s H E0 rfl (room.deeper _)).nox
    have rd := r_law (K := K) [.ref a] H (fun v _ => v = .bl true) E0 ⟨a, ns, rfl, hS, hl, fun _ => rfl⟩
    refine wpAny_mono (wk.run [] s1 _ H _ I rd) (fun fl s' hs => ?_) fun e s' hs => hs
    cases fl with
    | ret u =>
      obtain ⟨v, σ', H', J, rv, q⟩ := hs
      exact ⟨v, H', J.os, J.bare, J.base, J.hok, rv, q⟩
    | next =>
      obtain ⟨σ', H', J, q⟩ := hs
      cases q
    | brk =>
      obtain ⟨_, _, _, q⟩ := hs
      exact q.elim
    | cont =>
      obtain ⟨_, _, _, q⟩ := hs
      exact q.elim
/-- the heap that tells the script, where the module does not own it -/
def tell (K : PySem.W.Frag) (a : Addr) (o : Obj) (xs : List V) : Hp := fun b => if b = a ∧ K.lookup a = none then some (.frz o (.lst xs)) else none
theorem tell_in {a b : Addr} {o : Obj} {xs : List V} {u : HO} (h : tell K a o xs b = some u) : b = a ∧ K.lookup a = none ∧ u = .frz o (.lst xs) := by
  unfold tell at h
  split at h
  · rename_i c
    exact ⟨c.1, c.2, (Option.some.inj h).symm⟩
  · cases h
theorem tell_not {a b : Addr} {o : Obj} {xs : List V} (h : ¬ (b = a ∧ K.lookup a = none)) : tell K a o xs b = none := if_neg h
theorem call_law {mb : Str → Option Value} {fa a : Addr} {fd : FuncData} {s₁ : Shared} {vs : List Value} {ns : List Int} (B : Places K mg) (T : Txt K mg) (L : AtDef K mg "law" s_law fa fd) (kin : K.In s₁.heap) (hns : s₁.heap.Ns mainGlobals mg) (hb : s₁.heap.Ns builtinsNs mb)
    (hbb : ∀ x : Str, x ≠ "__name__" → mb x = bootBuiltins x) (hlim : s₁.heap.NoLimit) (hg : s₁.gens = #[]) (ha : s₁.heap.get? a = some { cls := .type "list", data := .seq vs.toArray }) (hi : IntsAre vs ns) (hl : ns.length ≤ 63) :
    codeAny (model P w) callerA (.call (.ref fa) ⟨[.ref a], []⟩) (fun r s' => r = .ok (.ret (.bool true)) ∧ OldK s₁.heap s'.heap ∧ s'.os = s₁.os ∧ AllBare s'.gens) s₁ := by
  have rv := vals_ints hi
  have hz : (ns.map V.int).length ≤ sizeLine := by
    rw [List.length_map]
    exact Nat.le_of_lt (sz_lt (by omega))
  generalize hH : tell K a { cls := .type "list", data := .seq vs.toArray } (ns.map V.int) = H
  have only : ∀ {b : Addr} {u : HO}, H b = some u → b = a ∧ K.lookup a = none ∧ u = .frz { cls := .type "list", data := .seq vs.toArray } (.lst (ns.map V.int)) := fun h => by
    rw [← hH] at h
    exact tell_in h
  -- what is no list stands untold
  have dictFree : ∀ {b : Addr} {o : Obj} {es : Array DictEntry} {n : Nat}, s₁.heap.get? b = some o → o.data = .dict es n → H b = none := fun {b o es n} e d => by
    cases q : H b with
    | none => rfl
    | some u =>
      have eb := (only q).1
      rw [eb, ha] at e
      rw [← Option.some.inj e] at d
      cases (show Data.seq vs.toArray _ = Data.dict es n from d)
  have nsK : ∀ {b : Addr} {m : Str → Option Value}, s₁.heap.Ns b m → (hidT s₁.heap H).Ns b m := by
    rintro b m ⟨o, es, n, e, d, r⟩
    exact ⟨o, es, n, hidT_get e (dictFree e d), d, r⟩
  have hK : K.In (hidT s₁.heap H) := fun b o e => hidT_get (kin b o e) (by
    cases q : H b with
    | none => rfl
    | some u =>
      obtain ⟨eb, no, _⟩ := only q
      rw [eb, no] at e
      cases e)
  have hM : Mod K mg (hidT s₁.heap H) := by
    obtain ⟨mc, l1, l2⟩ := hlim
    exact ⟨hK, nsK hns, ⟨mb, nsK hb, hbb⟩, ⟨mc, nsK l1, l2⟩⟩
  have hok : HOk P w H s₁.heap := fun b u h => by
    obtain ⟨eb, _, eu⟩ := only h
    subst eb eu
    exact ⟨ha, hz, vs, _, rv, ha⟩
  have none_in : ∀ b : Addr, b ∉ frs ([] : List Env) := fun b hb => by
    have hb : b ∈ ([] : List Addr) := hb
    exact List.not_mem_nil hb
  have e0 : Env0 P w K mg (hidT s₁.heap H) callerA [] s₁ H := ⟨rfl, hM, fun b o e => of_hidT e, Nat.le_of_eq (hidT_size _ _), trivial, fun b hb => absurd hb (none_in b), hok, .of_eq hg⟩
  have hS : SqL K H a (ns.map V.int) := by
    cases q : K.lookup a with
    | none => exact .inl (.inr ⟨_, by rw [← hH]; exact if_pos ⟨rfl, q⟩⟩)
    | some o =>
      have e := kin a o q
      rw [ha] at e
      cases e
      have lv := rv.length
      exact .inr ⟨_, vs.toArray, _, q, rfl, rfl, rfl, by rw [List.size_toArray, ← lv]; exact hz, by simpa using rv⟩
  refine codeAny_mono (run_law B T L e0 hS hl) fun r s' h => ?_
  cases r with
  | error e => exact h.elim
  | ok fl =>
    cases fl with
    | next => exact h.elim
    | brk => exact h.elim
    | cont => exact h.elim
    | ret u =>
      obtain ⟨v, H', os, bare, un, hok', rv', q⟩ := h
      have q : v = .bl true := q
      subst q
      have eu : u = Value.bool true := rv'
      subst eu
      refine ⟨rfl, .of_keep fun b o e => ?_, os, bare⟩
      cases hb : H b with
      | none => exact un.keep b o e hb (none_in b) List.not_mem_nil
      | some u =>
        obtain ⟨eb, _, eu⟩ := only hb
        subst eb eu
        obtain ⟨e2, _⟩ := hok' _ _ (un.frzs _ _ _ hb)
        rw [ha] at e
        cases e
        exact e2
end
end Rt

/-! The head's goal from the facts of the top. -/
namespace Rt
open PySem L2 Evl RtM PyProof.Rows
section
variable {K : PySem.W.Frag} {h : Heap} {mg : Str → Option Value} {x : Str}
theorem at_mk {st : Stmt} {f : Addr} {oc kV doc pm cdv ct : Value} {od an : Option Addr} {osl : Array (Option Value)} (X : K.In h) (G : h.Ns mainGlobals mg) (a : PySem.W.nsIn K mainGlobals x = some (some (.ref f)))
    (l : K.lookup f = some ⟨oc, od, .func (PySem.W.fnOf x x (defArgs st) (defBody st) (defScope st) .none kV doc pm an cdv ct), osl⟩) (c : PySem.W.codeIn K cdv x = true) (k : PySem.W.keepIn K (.ref f) = true) : ∃ f fd, AtDef K mg x st f fd :=
  ⟨f, _, fun_mk l c k, PySem.W.mg_of X G a⟩
theorem free_mk (X : K.In h) (G : h.Ns mainGlobals mg) (a : PySem.W.nsIn K mainGlobals x = some none) : mg x = none := PySem.W.mg_none_of X G a
theorem str_mk {z : Str} {t : Nat} (X : K.In h) (G : h.Ns mainGlobals mg) (a : PySem.W.nsIn K mainGlobals x = some (some (.str z t))) : ∃ t, mg x = some (.str z t) := ⟨t, PySem.W.mg_of X G a⟩
theorem int_mk {i : Int} {t : Nat} (X : K.In h) (G : h.Ns mainGlobals mg) (a : PySem.W.nsIn K mainGlobals x = some (some (.int i t))) : ∃ t, mg x = some (.int i t) := ⟨t, PySem.W.mg_of X G a⟩
end
theorem walk_end {l : PySem.W.OpenLaw} {q : Program} {loose : List Str} {XP : (Str → Option Value) → Heap → Prop} {YP : World → Heap → Prop} {d : DefRec} {K : Params → PySem.W.Frag} (hn : l.most = some 63) (hdf : d.params.defaults = []) (hd : d.name = "law")
    (hY : ∀ (w : World) (h : Heap), YP w h → (K w.params).In h) (F : ∀ (w : World) (mg : Str → Option Value) (h : Heap), (K w.params).In h → h.Ns mainGlobals mg → Places (K w.params) mg ∧ Txt (K w.params) mg) :
    PySem.W.WalkO q loose XP YP l.row.toRowW d [] (fun f vs => PySem.call f vs) := by
  refine Att.attach_call hn hdf fun w s₀ s₁ mg mb fa o pm cd doc a vs ns G Y ho hfd hcd hmg hobj hints hlen hg => ?_
  have kin := hY w _ Y
  obtain ⟨B, T⟩ := F w mg _ kin G.T.g
  obtain ⟨f, fd, L⟩ := B.p_law
  rw [hd, L.2] at hmg
  cases hmg
  exact call_law B T L kin G.T.g G.T.b G.T.builtins G.T.nolimit hg hobj hints hlen
end Rt


open PySem PySem.W PyProof.Rows
set_option maxHeartbeats 0
theorem PySem.Challenge.cw_refundtrees_k70_whole_wants_told_back_holds : PySem.Challenge.rw_refundtrees_k70_whole_wants_told_back.Holds := by
  w_on; o_law; k_head; (case hw => w_witness2)
  k_fill
  refine Rt.walk_end (l := PySem.Challenge.rw_refundtrees_k70_whole_wants_told_back) rfl rfl rfl (fun w h Y => PySem.W.kIn_of Y) ?F
  case F =>
    intro w mg h KX G
    refine' ⟨⟨?q0, ?q1, ?q2, ?q3, ?q4, ?q5, ?q6, ?q7, ?q8, ?q9, ?q10, ?q11, ?q12, ?q13, ?q14, ?q15, ?q16, ?q17, ?q18, ?q19, ?q20, ?q21, ?q22, ?q23, ?q24, ?q25, ?q26, ?q27⟩, ⟨?z0, ?z1, ?z2, ?z3, ?z4, ?z5, ?z6, ?z7, ?z8, ?z9, ?z10, ?z11, ?z12, ?z13, ?z14, ?z15⟩⟩
    (case q0 => refine' Rt.at_mk KX G ?a ?l ?c ?k; (case a => k_is); (case l => k_is); (case c => k_is); (case k => k_is))
    (case q1 => refine' Rt.at_mk KX G ?a ?l ?c ?k; (case a => k_is); (case l => k_is); (case c => k_is); (case k => k_is))
    (case q2 => refine' Rt.at_mk KX G ?a ?l ?c ?k; (case a => k_is); (case l => k_is); (case c => k_is); (case k => k_is))
    (case q3 => refine' Rt.at_mk KX G ?a ?l ?c ?k; (case a => k_is); (case l => k_is); (case c => k_is); (case k => k_is))
    (case q4 => refine' Rt.at_mk KX G ?a ?l ?c ?k; (case a => k_is); (case l => k_is); (case c => k_is); (case k => k_is))
    (case q5 => refine' Rt.at_mk KX G ?a ?l ?c ?k; (case a => k_is); (case l => k_is); (case c => k_is); (case k => k_is))
    (case q6 => refine' Rt.at_mk KX G ?a ?l ?c ?k; (case a => k_is); (case l => k_is); (case c => k_is); (case k => k_is))
    (case q7 => refine' Rt.at_mk KX G ?a ?l ?c ?k; (case a => k_is); (case l => k_is); (case c => k_is); (case k => k_is))
    (case q8 => refine' Rt.at_mk KX G ?a ?l ?c ?k; (case a => k_is); (case l => k_is); (case c => k_is); (case k => k_is))
    (case q9 => refine' Rt.at_mk KX G ?a ?l ?c ?k; (case a => k_is); (case l => k_is); (case c => k_is); (case k => k_is))
    (case q10 => refine' Rt.at_mk KX G ?a ?l ?c ?k; (case a => k_is); (case l => k_is); (case c => k_is); (case k => k_is))
    (case q11 => refine' Rt.at_mk KX G ?a ?l ?c ?k; (case a => k_is); (case l => k_is); (case c => k_is); (case k => k_is))
    (case q12 => refine' Rt.at_mk KX G ?a ?l ?c ?k; (case a => k_is); (case l => k_is); (case c => k_is); (case k => k_is))
    (case q13 => refine' Rt.at_mk KX G ?a ?l ?c ?k; (case a => k_is); (case l => k_is); (case c => k_is); (case k => k_is))
    (case q14 => refine' Rt.at_mk KX G ?a ?l ?c ?k; (case a => k_is); (case l => k_is); (case c => k_is); (case k => k_is))
    (case q15 => refine' Rt.at_mk KX G ?a ?l ?c ?k; (case a => k_is); (case l => k_is); (case c => k_is); (case k => k_is))
    (case q16 => refine' Rt.at_mk KX G ?a ?l ?c ?k; (case a => k_is); (case l => k_is); (case c => k_is); (case k => k_is))
    (case q17 => refine' Rt.at_mk KX G ?a ?l ?c ?k; (case a => k_is); (case l => k_is); (case c => k_is); (case k => k_is))
    (case q18 => refine' Rt.at_mk KX G ?a ?l ?c ?k; (case a => k_is); (case l => k_is); (case c => k_is); (case k => k_is))
    (case q19 => refine' Rt.at_mk KX G ?a ?l ?c ?k; (case a => k_is); (case l => k_is); (case c => k_is); (case k => k_is))
    (case q20 => refine' Rt.at_mk KX G ?a ?l ?c ?k; (case a => k_is); (case l => k_is); (case c => k_is); (case k => k_is))
    (case q21 => refine' Rt.at_mk KX G ?a ?l ?c ?k; (case a => k_is); (case l => k_is); (case c => k_is); (case k => k_is))
    (case q22 => refine' Rt.at_mk KX G ?a ?l ?c ?k; (case a => k_is); (case l => k_is); (case c => k_is); (case k => k_is))
    (case q23 => refine' Rt.at_mk KX G ?a ?l ?c ?k; (case a => k_is); (case l => k_is); (case c => k_is); (case k => k_is))
    (case q24 => refine' Rt.at_mk KX G ?a ?l ?c ?k; (case a => k_is); (case l => k_is); (case c => k_is); (case k => k_is))
    (case q25 => refine' Rt.at_mk KX G ?a ?l ?c ?k; (case a => k_is); (case l => k_is); (case c => k_is); (case k => k_is))
    (case q26 => refine' Rt.at_mk KX G ?a ?l ?c ?k; (case a => k_is); (case l => k_is); (case c => k_is); (case k => k_is))
    (case q27 => refine' Rt.at_mk KX G ?a ?l ?c ?k; (case a => k_is); (case l => k_is); (case c => k_is); (case k => k_is))
    (case z0 => refine' Rt.free_mk KX G ?a; (case a => k_is))
    (case z1 => refine' Rt.free_mk KX G ?a; (case a => k_is))
    (case z2 => refine' Rt.free_mk KX G ?a; (case a => k_is))
    (case z3 => refine' Rt.free_mk KX G ?a; (case a => k_is))
    (case z4 => refine' Rt.free_mk KX G ?a; (case a => k_is))
    (case z5 => refine' Rt.free_mk KX G ?a; (case a => k_is))
    (case z6 => refine' Rt.free_mk KX G ?a; (case a => k_is))
    (case z7 => refine' Rt.free_mk KX G ?a; (case a => k_is))
    (case z8 => refine' Rt.free_mk KX G ?a; (case a => k_is))
    (case z9 => refine' Rt.free_mk KX G ?a; (case a => k_is))
    (case z10 => refine' Rt.free_mk KX G ?a; (case a => k_is))
    (case z11 => refine' Rt.free_mk KX G ?a; (case a => k_is))
    (case z12 => refine' Rt.free_mk KX G ?a; (case a => k_is))
    (case z13 => refine' Rt.str_mk KX G ?a; (case a => k_is))
    (case z14 => refine' Rt.int_mk KX G ?a; (case a => k_is))
    (case z15 => refine' Rt.int_mk KX G ?a; (case a => k_is))
