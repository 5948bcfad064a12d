import PyProof.Rows.All
import Wide.All
import OpenK.AllK
import Wide.FinOn
import HandS.ForMost
import HandS.Evl
import HandS.IsInst
import HandS.TupAny
import KE.GoesEnum
import HandS.Zip
import KE.GoesEnumKw
import PyProof.Rows.CallKwBuiltin
import PyProof.CollectIter
import PyProof.WalksMore
import KE.KDictPairs
import HandS.DictComp
import KE.KDictDisplayH
import HandS.More
import HandS.WrittenGet
import KE.SortData
import HandS.SortInts
import HandS.TupMul
import HandS.ExcInit
import PyProof.ExcBaseAll.OverflowError
import KE.KExcInit
import HandS.Walk
import PySem.Challenge.RW_waitedmeets_k57_whole_fewer_letters_hold
import HandS.Steps
import HandS.Defaults
import HandS.Style
import HandS.WordsExc
import HandS.TupLe
import HandS.TryOnly
import HandS.HeadHook3
set_option Elab.async false
set_option linter.all false
set_option maxRecDepth 100000
set_option maxHeartbeats 2000000
/-! Data without lists (numbers, truths, texts, None, tuples of such) and how readings evaluate to it. -/
namespace Mt
open PySem L2 Evl

/-- v stands for the data d: only tuples, which never change -/
inductive ImAt (H : Hp) : Bool → List V → List PyData → Prop
  | non : ImAt H true [.non] [.none]
  | bl (b : Bool) : ImAt H true [.bl b] [.bool b]
  | int (i : Int) : ImAt H true [.int i] [.int i]
  | str (x : Str) : ImAt H true [.str x] [.str x]
  | tup {p : Addr} {xs : List V} {ds : List PyData} (h : Rd H p (.tup xs)) (k : ImAt H false xs ds) : ImAt H true [.ref p] [.tuple ds]
  | nil : ImAt H false [] []
  | cons {v : V} {d : PyData} {vs : List V} {ds : List PyData} (h : ImAt H true [v] [d]) (k : ImAt H false vs ds) : ImAt H false (v :: vs) (d :: ds)
def Im (H : Hp) (v : V) (d : PyData) : Prop := ImAt H true [v] [d]
def Ims (H : Hp) (vs : List V) (ds : List PyData) : Prop := ImAt H false vs ds

/-- tuples stay, frozen ones too -/
def Tu (u : HO) : Prop := ∃ xs, u = .tup xs ∨ ∃ o, u = .frz o (.tup xs)
def Tx (H H' : Hp) : Prop := ∀ p u, Tu u → H p = some u → H' p = some u
theorem Tx.refl (H : Hp) : Tx H H := fun _ _ _ h => h
theorem Tx.trans {H H1 H2 : Hp} (a : Tx H H1) (b : Tx H1 H2) : Tx H H2 := fun p u t h => b p u t (a p u t h)
theorem tx_of {H H' : Hp} (e : Ex H H') : Tx H H' := fun p u _ h => e p u h
theorem Tx.rd {H H' : Hp} {p : Addr} {xs : List V} (e : Tx H H') (h : Rd H p (.tup xs)) : Rd H' p (.tup xs) := by
  rcases h with h | ⟨o, h⟩
  · exact .inl (e p _ ⟨xs, .inl rfl⟩ h)
  · exact .inr ⟨o, e p _ ⟨xs, .inr ⟨o, rfl⟩⟩ h⟩
theorem tx_upd {H : Hp} {p : Addr} {o : HO} (h : ∀ u, Tu u → H p ≠ some u) : Tx H (upd H p o) := fun q u t e => by
  by_cases z : q = p
  · subst z
    exact absurd e (h u t)
  · rw [upd_ne z]
    exact e
theorem no_rd {H : Hp} {p : Addr} {o : HO} (h : H p = some o) (n : ¬ Tu o) : ∀ u, Tu u → H p ≠ some u := fun u t e => by
  rw [h] at e
  exact n (Option.some.inj e ▸ t)
theorem nt_lst {ys : List V} : ¬ Tu (.lst ys) := fun ⟨xs, h⟩ => by
  rcases h with h | ⟨o, h⟩ <;> cases h
theorem nt_dK {ys : List (Key × V)} : ¬ Tu (.dK ys) := fun ⟨xs, h⟩ => by
  rcases h with h | ⟨o, h⟩ <;> cases h
theorem nt_dT {ys : List (List Key × V)} : ¬ Tu (.dT ys) := fun ⟨xs, h⟩ => by
  rcases h with h | ⟨o, h⟩ <;> cases h
theorem nt_ins {C dx : Addr} {fs : List (Str × V)} : ¬ Tu (.ins C dx fs) := fun ⟨xs, h⟩ => by
  rcases h with h | ⟨o, h⟩ <;> cases h
theorem tx_lst {H : Hp} {p : Addr} {o : HO} {ys : List V} (h : H p = some (.lst ys)) : Tx H (upd H p o) := tx_upd (no_rd h nt_lst)
theorem tx_dK {H : Hp} {p : Addr} {o : HO} {ys : List (Key × V)} (h : H p = some (.dK ys)) : Tx H (upd H p o) := tx_upd (no_rd h nt_dK)
theorem tx_dT {H : Hp} {p : Addr} {o : HO} {ys : List (List Key × V)} (h : H p = some (.dT ys)) : Tx H (upd H p o) := tx_upd (no_rd h nt_dT)
theorem tx_ins {H : Hp} {p : Addr} {o : HO} {C dx : Addr} {fs : List (Str × V)} (h : H p = some (.ins C dx fs)) : Tx H (upd H p o) := tx_upd (no_rd h nt_ins)

theorem ImAt.tx {H H' : Hp} (e : Tx H H') : ∀ {b : Bool} {vs : List V} {ds : List PyData}, ImAt H b vs ds → ImAt H' b vs ds := by
  intro b vs ds h
  induction h with
  | non => exact .non
  | bl b => exact .bl b
  | int i => exact .int i
  | str x => exact .str x
  | tup h k ih => exact .tup (e.rd h) ih
  | nil => exact .nil
  | cons h k ih1 ih2 => exact .cons ih1 ih2
theorem Im.tx {H H' : Hp} {v : V} {d : PyData} (h : Im H v d) (e : Tx H H') : Im H' v d := ImAt.tx e h
theorem Ims.tx {H H' : Hp} {v : List V} {d : List PyData} (h : Ims H v d) (e : Tx H H') : Ims H' v d := ImAt.tx e h
theorem Im.ex {H H' : Hp} {v : V} {d : PyData} (h : Im H v d) (e : Ex H H') : Im H' v d := h.tx (tx_of e)
theorem Ims.ex {H H' : Hp} {v : List V} {d : List PyData} (h : Ims H v d) (e : Ex H H') : Ims H' v d := h.tx (tx_of e)

theorem im_non {H : Hp} : Im H .non .none := .non
theorem im_bl {H : Hp} (b : Bool) : Im H (.bl b) (.bool b) := .bl b
theorem im_int {H : Hp} (i : Int) : Im H (.int i) (.int i) := .int i
theorem im_str {H : Hp} (x : Str) : Im H (.str x) (.str x) := .str x
theorem im_tup {H : Hp} {p : Addr} {xs : List V} {ds : List PyData} (h : H p = some (.tup xs)) (k : Ims H xs ds) : Im H (.ref p) (.tuple ds) := .tup (.inl h) k
theorem im_tupR {H : Hp} {p : Addr} {xs : List V} {ds : List PyData} (h : Rd H p (.tup xs)) (k : Ims H xs ds) : Im H (.ref p) (.tuple ds) := .tup h k
theorem ims_nil {H : Hp} : Ims H [] [] := .nil
theorem ims_cons {H : Hp} {v : V} {d : PyData} {vs : List V} {ds : List PyData} (h : Im H v d) (k : Ims H vs ds) : Ims H (v :: vs) (d :: ds) := .cons h k

/-! ### turned about -/
theorem Im.int_iff {H : Hp} {v : V} {i : Int} (h : Im H v (.int i)) : v = .int i := by cases h; rfl
theorem Im.str_iff {H : Hp} {v : V} {i : Str} (h : Im H v (.str i)) : v = .str i := by cases h; rfl
theorem Im.bl_iff {H : Hp} {v : V} {i : Bool} (h : Im H v (.bool i)) : v = .bl i := by cases h; rfl
theorem Im.non_iff {H : Hp} {v : V} (h : Im H v .none) : v = .non := by cases h; rfl
theorem Im.tup_iff {H : Hp} {v : V} {ds : List PyData} (h : Im H v (.tuple ds)) : ∃ p xs, v = .ref p ∧ Rd H p (.tup xs) ∧ Ims H xs ds := by
  cases h with
  | tup h k => exact ⟨_, _, rfl, h, k⟩
theorem Ims.nil_iff {H : Hp} {vs : List V} (h : Ims H vs []) : vs = [] := by cases h; rfl
theorem Ims.cons_iff {H : Hp} {vs : List V} {d : PyData} {ds : List PyData} (h : Ims H vs (d :: ds)) : ∃ v ws, vs = v :: ws ∧ Im H v d ∧ Ims H ws ds := by
  cases h with
  | cons h k => exact ⟨_, _, rfl, h, k⟩
theorem Ims.len : ∀ {H : Hp} {vs : List V} {ds : List PyData}, Ims H vs ds → vs.length = ds.length
  | H, vs, [], h => by rw [h.nil_iff]; rfl
  | H, vs, d :: ds, h => by
    obtain ⟨v, ws, rfl, _, k⟩ := h.cons_iff
    rw [List.length_cons, List.length_cons, k.len]
theorem Ims.at : ∀ {H : Hp} {vs : List V} {ds : List PyData} {i : Nat} {d : PyData}, Ims H vs ds → ds[i]? = some d → ∃ v, vs[i]? = some v ∧ Im H v d
  | H, vs, [], i, d, h, e => by simp at e
  | H, vs, d0 :: ds, 0, d, h, e => by
    obtain ⟨v, ws, rfl, k1, k⟩ := h.cons_iff
    simp at e
    subst e
    exact ⟨v, rfl, k1⟩
  | H, vs, d0 :: ds, i + 1, d, h, e => by
    obtain ⟨v, ws, rfl, k1, k⟩ := h.cons_iff
    obtain ⟨u, h1, h2⟩ := Ims.at (i := i) (d := d) k (by simpa using e)
    exact ⟨u, by simpa using h1, h2⟩
theorem Ims.at' : ∀ {H : Hp} {vs : List V} {ds : List PyData} {i : Nat} {v : V}, Ims H vs ds → vs[i]? = some v → ∃ d, ds[i]? = some d ∧ Im H v d
  | H, vs, [], i, d, h, e => by rw [h.nil_iff] at e; simp at e
  | H, vs, d0 :: ds, 0, v0, h, e => by
    obtain ⟨v, ws, rfl, k1, k⟩ := h.cons_iff
    simp at e
    subst e
    exact ⟨d0, rfl, k1⟩
  | H, vs, d0 :: ds, i + 1, v0, h, e => by
    obtain ⟨v, ws, rfl, k1, k⟩ := h.cons_iff
    obtain ⟨u, h1, h2⟩ := Ims.at' (i := i) (v := v0) k (by simpa using e)
    exact ⟨u, by simpa using h1, h2⟩
theorem Ims.app : ∀ {H : Hp} {vs ws : List V} {ds es : List PyData}, Ims H vs ds → Ims H ws es → Ims H (vs ++ ws) (ds ++ es)
  | H, vs, ws, [], es, h, k => by rw [h.nil_iff]; exact k
  | H, vs, ws, d :: ds, es, h, k => by
    obtain ⟨v, us, rfl, k1, k2⟩ := h.cons_iff
    exact ims_cons k1 (k2.app k)
theorem Ims.take : ∀ {H : Hp} {vs : List V} {ds : List PyData} (n : Nat), Ims H vs ds → Ims H (vs.take n) (ds.take n)
  | H, vs, ds, 0, h => by rw [List.take_zero, List.take_zero]; exact ims_nil
  | H, vs, [], n + 1, h => by rw [h.nil_iff]; exact ims_nil
  | H, vs, d :: ds, n + 1, h => by
    obtain ⟨v, us, rfl, k1, k2⟩ := h.cons_iff
    exact ims_cons k1 (k2.take n)
theorem Ims.drop : ∀ {H : Hp} {vs : List V} {ds : List PyData} (n : Nat), Ims H vs ds → Ims H (vs.drop n) (ds.drop n)
  | H, vs, ds, 0, h => h
  | H, vs, [], n + 1, h => by rw [h.nil_iff]; exact ims_nil
  | H, vs, d :: ds, n + 1, h => by
    obtain ⟨v, us, rfl, k1, k2⟩ := h.cons_iff
    exact k2.drop n
/-- flat data: the value is fixed -/
def toV : PyData → V
  | .none => .non
  | .bool b => .bl b
  | .int i => .int i
  | .str x => .str x
  | _ => .non
def flatD : PyData → Bool
  | .none => true
  | .bool _ => true
  | .int _ => true
  | .str _ => true
  | _ => false
theorem Im.flat {H : Hp} {v : V} {d : PyData} (h : Im H v d) (f : flatD d = true) : v = toV d := by
  cases h with
  | tup => cases f
  | _ => rfl
theorem im_flat {H : Hp} {d : PyData} (f : flatD d = true) : Im H (toV d) d := by
  cases d with
  | none => exact .non
  | bool b => exact .bl b
  | int b => exact .int b
  | str b => exact .str b
  | _ => cases f
theorem Ims.flat : ∀ {H : Hp} {vs : List V} {ds : List PyData}, Ims H vs ds → ds.all flatD = true → vs = ds.map toV
  | H, vs, [], h, _ => h.nil_iff
  | H, vs, d :: ds, h, f => by
    obtain ⟨v, us, rfl, k1, k2⟩ := h.cons_iff
    rw [List.all_cons, Bool.and_eq_true] at f
    rw [List.map_cons, k1.flat f.1, k2.flat f.2]
theorem ims_flat : ∀ {H : Hp} {ds : List PyData}, ds.all flatD = true → Ims H (ds.map toV) ds
  | H, [], _ => ims_nil
  | H, d :: ds, f => by
    rw [List.all_cons, Bool.and_eq_true] at f
    exact ims_cons (im_flat f.1) (ims_flat f.2)
theorem ims_ints {H : Hp} (ns : List Int) : Ims H (ns.map V.int) (ns.map PyData.int) := by
  induction ns with
  | nil => exact ims_nil
  | cons n ns ih => exact ims_cons (im_int n) ih
theorem Ims.ints : ∀ {H : Hp} {vs : List V} {ns : List Int}, Ims H vs (ns.map PyData.int) → vs = ns.map V.int
  | H, vs, [], h => h.nil_iff
  | H, vs, n :: ns, h => by
    obtain ⟨v, us, rfl, k1, k2⟩ := h.cons_iff
    rw [List.map_cons, k1.int_iff, k2.ints]
theorem ims_strs {H : Hp} (ns : List Str) : Ims H (ns.map V.str) (ns.map PyData.str) := by
  induction ns with
  | nil => exact ims_nil
  | cons n ns ih => exact ims_cons (im_str n) ih
theorem Ims.strs : ∀ {H : Hp} {vs : List V} {ns : List Str}, Ims H vs (ns.map PyData.str) → vs = ns.map V.str
  | H, vs, [], h => h.nil_iff
  | H, vs, n :: ns, h => by
    obtain ⟨v, us, rfl, k1, k2⟩ := h.cons_iff
    rw [List.map_cons, k1.str_iff, k2.strs]
theorem Ims.bls : ∀ {H : Hp} {vs : List V} {ns : List Bool}, Ims H vs (ns.map PyData.bool) → vs = ns.map V.bl
  | H, vs, [], h => h.nil_iff
  | H, vs, n :: ns, h => by
    obtain ⟨v, us, rfl, k1, k2⟩ := h.cons_iff
    rw [List.map_cons, k1.bl_iff, k2.bls]

/-! ### what evaluates to data -/
def EvD (te : TE) (σ : L2.St) (H : Hp) (d : PyData) : Prop := ∀ H1, Ex H H1 → ∀ Q : VK, (∀ v H2, Ex H1 H2 → Im H2 v d → Q v H2) → te σ H1 Q
/-- a new list of data -/
def EvN (te : TE) (σ : L2.St) (H : Hp) (ds : List PyData) : Prop := ∀ H1, Ex H H1 → ∀ Q : VK, (∀ p xs H2, H1 p = none → Ex H1 H2 → H2 p = some (.lst xs) → Ims H2 xs ds → Q (.ref p) H2) → te σ H1 Q
/-- a list of data that may be read -/
def LsAt (H : Hp) (v : V) (ds : List PyData) : Prop := ∃ p xs, v = .ref p ∧ H p = some (.lst xs) ∧ Ims H xs ds
def EvS (te : TE) (σ : L2.St) (H : Hp) (ds : List PyData) : Prop := ∀ H1, Ex H H1 → ∀ Q : VK, (∀ v H2, Ex H1 H2 → LsAt H2 v ds → Q v H2) → te σ H1 Q
def EvDs (ta : TA) (σ : L2.St) (H : Hp) (ds : List PyData) : Prop := ∀ H1, Ex H H1 → ∀ Q : List V → Hp → Prop, (∀ vs H2, Ex H1 H2 → Ims H2 vs ds → Q vs H2) → ta σ H1 Q
section
variable {K : PySem.W.Frag} {σ : L2.St} {H H' : Hp} {ta tb te tx : TE} {t u : TT} {x y z v : V} {r : R2} {d d1 d2 : PyData} {ds es : List PyData}
theorem LsAt.ex {H H' : Hp} (h : LsAt H v ds) (e : Ex H H') : LsAt H' v ds := by
  obtain ⟨p, xs, rfl, h, k⟩ := h
  exact ⟨p, xs, rfl, e _ _ h, k.ex e⟩
theorem EvD.mono (h : EvD te σ H d) (e : Ex H H') : EvD te σ H' d := fun H1 a Q q => h H1 (e.trans a) Q q
theorem EvN.mono (h : EvN te σ H ds) (e : Ex H H') : EvN te σ H' ds := fun H1 a Q q => h H1 (e.trans a) Q q
theorem EvS.mono (h : EvS te σ H ds) (e : Ex H H') : EvS te σ H' ds := fun H1 a Q q => h H1 (e.trans a) Q q
theorem EvN.s (h : EvN te σ H ds) : EvS te σ H ds := fun H1 e Q q => h H1 e Q fun p xs H2 _ e2 h2 k => q _ H2 e2 ⟨p, xs, rfl, h2, k⟩
theorem ed_var {i : Nat} (h : σ[i]? = some (some v)) (m : Im H v d) : EvD (tVar i) σ H d := fun H1 e _ q => ⟨v, h, q v H1 (Ex.refl H1) (m.ex e)⟩
theorem es_var {i : Nat} (h : σ[i]? = some (some v)) (m : LsAt H v ds) : EvS (tVar i) σ H ds := fun H1 e _ q => ⟨v, h, q v H1 (Ex.refl H1) (m.ex e)⟩
theorem ed_of (h : Ev te σ H v) (m : Im H v d) : EvD te σ H d := fun H1 e _ q => h H1 e _ fun H2 e2 => q v H2 e2 (m.ex (e.trans e2))
theorem ev_of (h : EvD te σ H d) (f : flatD d = true) : Ev te σ H (toV d) := fun H1 e _ q => h H1 e _ fun w H2 e2 m => by
  rw [m.flat f]
  exact q H2 e2
theorem ev_int {i : Int} (h : EvD te σ H (.int i)) : Ev te σ H (.int i) := ev_of h rfl
theorem ev_bl {i : Bool} (h : EvD te σ H (.bool i)) : Ev te σ H (.bl i) := ev_of h rfl
theorem ev_str {i : Str} (h : EvD te σ H (.str i)) : Ev te σ H (.str i) := ev_of h rfl
theorem ed_int {i : Int} (h : Ev te σ H (.int i)) : EvD te σ H (.int i) := ed_of h (.int i)
theorem ed_bl {i : Bool} (h : Ev te σ H (.bl i)) : EvD te σ H (.bool i) := ed_of h (.bl i)
theorem ed_str {i : Str} (h : Ev te σ H (.str i)) : EvD te σ H (.str i) := ed_of h (.str i)
theorem ed_ci {i : Int} : EvD (tC (.int i)) σ H (.int i) := ed_of ev_c (.int i)
theorem ed_cb {i : Bool} : EvD (tC (.bl i)) σ H (.bool i) := ed_of ev_c (.bl i)
theorem ed_cs {i : Str} : EvD (tC (.str i)) σ H (.str i) := ed_of ev_c (.str i)
theorem ed_cn : EvD (tC .non) σ H .none := ed_of ev_c .non
theorem ed_is (h : EvD te σ H d) (e : d = d1) : EvD te σ H d1 := by
  rw [← e]
  exact h
theorem eds_nil : EvDs tNil σ H [] := fun H1 _ _ q => q [] H1 (Ex.refl H1) ims_nil
theorem eds_cons {tr : TA} (h : EvD te σ H d) (hr : EvDs tr σ H ds) : EvDs (tCons te tr) σ H (d :: ds) := fun H1 e _ q =>
  h H1 e _ fun v H2 e2 m => hr H2 (e.trans e2) _ fun vs H3 e3 ms => q _ H3 (e2.trans e3) (ims_cons (m.ex e3) ms)
theorem ed_tup {ta : TA} (h : EvDs ta σ H ds) (hl : ds.length ≤ 100000) : EvD (tTup ta) σ H (.tuple ds) := fun H1 e _ q =>
  h H1 e _ fun vs H2 e2 ms => ⟨sz_of (by rw [ms.len]; exact hl), fun p hp => q _ _ (e2.trans (Ex.new hp)) (im_tup upd_same (ms.ex (Ex.new hp)))⟩
theorem en_lst {ta : TA} (h : EvDs ta σ H ds) (hl : ds.length ≤ 100000) : EvN (tLst ta) σ H ds := fun H1 e _ q =>
  h H1 e _ fun vs H2 e2 ms => ⟨sz_of (by rw [ms.len]; exact hl), fun p hp => q _ _ _ (fresh_back e2 hp) (e2.trans (Ex.new hp)) upd_same (ms.ex (Ex.new hp))⟩
/-- t[i] -/
theorem ed_ixT {i : Int} {j : Nat} (ha : EvD ta σ H (.tuple ds)) (hb : EvD tb σ H (.int i)) (hi : ixN ds.length i = some j) (hd : ds[j]? = some d) : EvD (tOp (rIxT K) ta tb) σ H d := fun H1 e _ q =>
  ha H1 e _ fun x H2 e2 m => hb H2 (e.trans e2) _ fun y H3 e3 m2 => by
    obtain ⟨p, xs, rfl, h, k⟩ := (m.ex e3).tup_iff
    obtain ⟨v, hv, kv⟩ := k.at hd
    rw [m2.int_iff]
    refine ⟨p, xs, i, v, rfl, rfl, .inl h, ?_, q v H3 (e2.trans e3) kv⟩
    unfold atI
    rw [k.len, hi]
    exact hv
/-- xs[i] -/
theorem ed_ixL {i : Int} {j : Nat} (ha : EvS ta σ H ds) (hb : EvD tb σ H (.int i)) (hi : ixN ds.length i = some j) (hd : ds[j]? = some d) : EvD (tOp (rIxL K) ta tb) σ H d := fun H1 e _ q =>
  ha H1 e _ fun x H2 e2 m => hb H2 (e.trans e2) _ fun y H3 e3 m2 => by
    obtain ⟨p, xs, rfl, h, k⟩ := m.ex e3
    obtain ⟨v, hv, kv⟩ := k.at hd
    rw [m2.int_iff]
    refine ⟨p, xs, i, v, rfl, rfl, SqL.of h, ?_, q v H3 (e2.trans e3) kv⟩
    unfold atI
    rw [k.len, hi]
    exact hv
theorem ixN_last {n : Nat} (h : 0 < n) : ixN n (-1) = some (n - 1) := by
  unfold ixN
  rw [if_neg (by omega), if_pos (by omega)]
  congr 1
  omega
/-- a call of a def that keeps to data -/
def SpD (sp : Sp) (ds : List PyData) (d : PyData) : Prop := ∀ vs H, Ims H vs ds → ∀ Q : VK, (∀ v H2, Ex H H2 → Im H2 v d → Q v H2) → ∀ E : XK, sp vs H Q E
theorem ed_call {sp : Sp} {E : XK} {ta : TA} (h : EvDs ta σ H ds) (hs : SpD sp ds d) : EvD (tCall sp [] E ta) σ H d := fun H1 e Q q =>
  h H1 e _ fun vs H2 e2 m => by
    show sp (vs ++ []) H2 Q E
    rw [List.append_nil]
    exact hs vs H2 m Q (fun v H3 e3 m3 => q v H3 (e2.trans e3) m3) E
/-- the promise of a def that keeps to data -/
def spD (n : Nat) (pre : List PyData → Prop) (f : List PyData → PyData) : Sp := fun vs H Q _ => ∃ ds, ds.length = n ∧ Ims H vs ds ∧ pre ds ∧ ∀ v H2, Ex H H2 → Im H2 v (f ds) → Q v H2
theorem spD_len {n : Nat} {pre : List PyData → Prop} {f : List PyData → PyData} {vs : List V} {H : Hp} {Q : VK} {E : XK} (h : spD n pre f vs H Q E) : vs.length = n := by
  obtain ⟨ds, hl, m, _⟩ := h
  rw [m.len, hl]
theorem spD_at {n : Nat} {pre : List PyData → Prop} {f : List PyData → PyData} (hl : ds.length = n) (hp : pre ds) (hd : f ds = d) : SpD (spD n pre f) ds d := fun vs H m Q q E => ⟨ds, hl, m, hp, fun v H2 e k => q v H2 e (by rw [← hd]; exact k)⟩
/-! ### isinstance, len -/
def isTy (T : String) : PyData → Bool
  | .none => T == "NoneType"
  | .bool _ => T == "bool" || T == "int"
  | .int _ => T == "int"
  | .str _ => T == "str"
  | .tuple _ => T == "tuple"
  | _ => false
theorem kit5 {K : PySem.W.Frag} (T : String) (hT : T = "int" ∨ T = "bool" ∨ T = "str" ∨ T = "tuple" ∨ T = "list") {H : Hp} {v : V} {d : PyData} (m : Im H v d) : ∃ t, TyX K H v t ∧ PySem.W.kitOne K t (.type T) = some (isTy T d) := by
  cases m with
  | non => exact ⟨_, .base .non, by rcases hT with rfl | rfl | rfl | rfl | rfl <;> exact kit_ty (by decide +kernel)⟩
  | bl b => exact ⟨_, .base (.bl b), by rcases hT with rfl | rfl | rfl | rfl | rfl <;> exact kit_ty (show _ = some (isTy _ (.bool true)) by decide +kernel)⟩
  | int b => exact ⟨_, .base (.int b), by rcases hT with rfl | rfl | rfl | rfl | rfl <;> exact kit_ty (show _ = some (isTy _ (.int 0)) by decide +kernel)⟩
  | str b => exact ⟨_, .base (.str b), by rcases hT with rfl | rfl | rfl | rfl | rfl <;> exact kit_ty (show _ = some (isTy _ (.str Str.empty)) by decide +kernel)⟩
  | tup h k =>
    rcases h with h | ⟨ob, h⟩
    · exact ⟨_, .base (.tup h), by rcases hT with rfl | rfl | rfl | rfl | rfl <;> exact kit_ty (show _ = some (isTy _ (.tuple [])) by decide +kernel)⟩
    · exact ⟨_, .fTuple h, by rcases hT with rfl | rfl | rfl | rfl | rfl <;> exact kit_ty (show _ = some (isTy _ (.tuple [])) by decide +kernel)⟩
theorem ev_isi {T : String} (hT : T = "int" ∨ T = "bool" ∨ T = "str" ∨ T = "tuple" ∨ T = "list") (h : EvD te σ H d) : Ev (tCB (rIsi K) (tCons te (tCons (tC (.ty T)) tNil))) σ H (.bl (isTy T d)) := fun H1 e _ q =>
  h H1 e _ fun v H2 e2 m => by
    obtain ⟨t, ty, k⟩ := kit5 (K := K) T hT m
    exact ⟨v, .ty T, t, .type T, _, rfl, .ty T, ty, k, q H2 e2⟩
theorem ev_lenT {n : Nat} (h : EvD te σ H (.tuple ds)) (hn : ds.length = n) : Ev (tCB (rLenS K) (tCons te tNil)) σ H (.int (n : Int)) := fun H1 e _ q =>
  h H1 e _ fun v H2 e2 m => by
    obtain ⟨p, xs, rfl, hp, k⟩ := m.tup_iff
    refine ⟨p, xs, rfl, .inr (.inl hp), ?_⟩
    rw [k.len, hn]
    exact q H2 e2
theorem ev_lenLs {n : Nat} (h : EvS te σ H ds) (hn : ds.length = n) : Ev (tCB (rLenS K) (tCons te tNil)) σ H (.int (n : Int)) := fun H1 e _ q =>
  h H1 e _ fun v H2 e2 m => by
    obtain ⟨p, xs, rfl, hp, k⟩ := m
    refine ⟨p, xs, rfl, .inl (SqL.of hp), ?_⟩
    rw [k.len, hn]
    exact q H2 e2
/-- all(xs), any(xs) of a new list of truths -/
theorem ev_all {bs : List Bool} (h : EvS te σ H (bs.map PyData.bool)) : Ev (tCB (rAll K) (tCons te tNil)) σ H (.bl (bs.all id)) := fun H1 e _ q =>
  h H1 e _ fun v H2 e2 m => by
    obtain ⟨p, xs, rfl, hp, k⟩ := m
    exact ⟨p, bs, rfl, SqL.of (by rw [hp, k.bls]), q H2 e2⟩
theorem ev_any {bs : List Bool} (h : EvS te σ H (bs.map PyData.bool)) : Ev (tCB (rAny K) (tCons te tNil)) σ H (.bl (bs.any id)) := fun H1 e _ q =>
  h H1 e _ fun v H2 e2 m => by
    obtain ⟨p, xs, rfl, hp, k⟩ := m
    exact ⟨p, bs, rfl, SqL.of (by rw [hp, k.bls]), q H2 e2⟩
/-! ### statements -/
variable {D : Ends} {tu tw tz : TS}
theorem sd_asg {i : Nat} (h : EvD te σ H d) (k : ∀ v H1, Ex H H1 → Im H1 v d → D.nx (σ.set i (some v)) H1) : tAsg te (gName i) D σ H := h H (Ex.refl H) _ fun v H1 e m => k v H1 e m
theorem qd_asg {i : Nat} (h : EvD te σ H d) (k : ∀ v H1, Ex H H1 → Im H1 v d → tz D (σ.set i (some v)) H1) : tSeq (tAsg te (gName i)) tz D σ H := sd_asg (D := { D with nx := tz D }) h k
theorem sn_asg {i : Nat} (h : EvN te σ H ds) (k : ∀ p xs H1, H p = none → Ex H H1 → H1 p = some (.lst xs) → Ims H1 xs ds → D.nx (σ.set i (some (.ref p))) H1) : tAsg te (gName i) D σ H := h H (Ex.refl H) _ k
theorem qn_asg {i : Nat} (h : EvN te σ H ds) (k : ∀ p xs H1, H p = none → Ex H H1 → H1 p = some (.lst xs) → Ims H1 xs ds → tz D (σ.set i (some (.ref p))) H1) : tSeq (tAsg te (gName i)) tz D σ H := sn_asg (D := { D with nx := tz D }) h k
theorem sd_ret (h : EvD te σ H d) (k : ∀ v H1, Ex H H1 → Im H1 v d → D.rt v H1) : tRet te D σ H := h H (Ex.refl H) _ k
theorem sn_ret (h : EvN te σ H ds) (k : ∀ p xs H1, H p = none → Ex H H1 → H1 p = some (.lst xs) → Ims H1 xs ds → D.rt (.ref p) H1) : tRet te D σ H := h H (Ex.refl H) _ k
end
/-- a def of the module, as a caller sees it -/
structure Df (P : Program) (w : World) (K : PySem.W.Frag) (mg : Str → Option Value) (base : Heap) (x : Str) (k : Nat) (ps : List Str) (sp : Sp) : Prop where
  ex : ∃ (f : Addr) (fd : FuncData), FnOk P w K mg base CX0 k f fd ps sp ∧ mg x = some (.ref f) ∧ PySem.W.keepIn K (.ref f) = true ∧ Binds K fd ps []
theorem pe_df {X : Cx} {x : Str} {k : Nat} {ps : List Str} {sp : Sp} {p pos : Pos} {e : Expr} {es : List Expr} {t : TA} (D : Df X.prog X.w X.K X.mg X.base x k ps sp) (hr : Room k X.A) (hg : Gl X x) (ha : PA X (e :: es) t) (hdb : (x == ("__debug__" : Str)) = false := by decide)
    (he : starEach (e :: es) X.env = (false, eval e X.env) :: starEach es X.env := by rfl) (hpl : (backTo pos (starEach es X.env)).any (·.1) = false := by rfl) : PE X (.Call (.Name x p) (e :: es) [] pos) (tCall sp [] E0 t) := by
  obtain ⟨f, fd, F, m, kp, b⟩ := D.ex
  exact pe_call F hr hg m kp b .nil pass0 ha hdb he hpl
theorem Df.mk' {P : Program} {w : World} {K : PySem.W.Frag} {mg : Str → Option Value} {base : Heap} {x : Str} {k : Nat} {ps : List Str} {sp : Sp} {f : Addr} {fd : FuncData} (F : FnOk P w K mg base CX0 k f fd ps sp) (m : mg x = some (.ref f)) (kp : PySem.W.keepIn K (.ref f) = true) (b : Binds K fd ps []) : Df P w K mg base x k ps sp := ⟨f, fd, F, m, kp, b⟩
end Mt

set_option maxHeartbeats 4000000
/-! enumerate(t), t a tuple -/
namespace Mt
open PySem L2 Evl PyProof.Rows

theorem meets_enumT (l : Addr) (items : Array Value) :
    Meets (Builtin.«enumerate.__new__» ⟨[.type "enumerate", .ref l], []⟩) (fun _ R s => s.heap.IsTuple l items ∧
      R (.ok (.ret (.ref (s.heap.push { cls := .type "tuple_iterator", data := .fields #[.ref l, .int 0 0] }).objs.size)))
        { s with heap := (s.heap.push { cls := .type "tuple_iterator", data := .fields #[.ref l, .int 0 0] }).push { cls := .type "enumerate", data := .fields #[.none, .bool false, .ref s.heap.objs.size, rawInt 0, .none, .none] } }) :=
  .of_wp fun prog w A R s h => by
    obtain ⟨hp, g, d, tk, os⟩ := s
    obtain ⟨hl, h⟩ := h
    have hsub := sub_enumerate
    have hL : Heap.IsTuple (Shared.heap ⟨hp, g, d, tk, os⟩) l items := hl
    wp_walk using wpAny_pyIter_tuple hL
    refine wpAny_stack_any fun st => wpAny_pure ?_
    split
    · rename_i c _ _ _ _ _
      cases (c == Value.type "enumerate")
      · wp_walk using wpAny_pyIter_tuple hL
        exact ⟨_, rfl, h⟩
      · wp_walk using wpAny_pyIter_tuple hL
        exact ⟨_, rfl, h⟩
    · wp_walk using wpAny_pyIter_tuple hL
      exact ⟨_, rfl, h⟩
section
variable {prog : Program} {w : World} {A : Around} {E : Value → Shared → Prop} {s : Shared}
theorem call_enumT {l : Addr} {items : Array Value} {Q : Value → Shared → Prop} (hL : s.heap.IsTuple l items)
    (h : ∀ h', IsEnum h' (s.heap.objs.size + 1) s.heap.objs.size 0 .none → h'.IsTupleIter s.heap.objs.size l 0 → h'.objs.size = s.heap.objs.size + 2 →
      (∀ b o, s.heap.get? b = some o → h'.get? b = some o) → Q (.ref (s.heap.objs.size + 1)) { s with heap := h' }) :
    wpAny (model prog w) A (call (.type "enumerate") [.ref l]) Q E s := by
  refine callType_new F.called_enumerate (by decide) (F.typeCall_enumerate_1 _) (F.newCall_enumerate_1 _) (fun obj => F.args_object_init_2 obj _) F.entry_enumerate_new
    (meets_enumT l items) ⟨hL, ?_⟩
  have hz : (s.heap.push { cls := .type "tuple_iterator", data := .fields #[.ref l, .int 0 0] }).objs.size = s.heap.objs.size + 1 := Heap.size_push ..
  show _ ∧ _
  rw [hz]
  generalize hP : s.heap.push { cls := .type "tuple_iterator", data := .fields #[.ref l, .int 0 0] } = P at hz
  have he : IsEnum (P.push { cls := .type "enumerate", data := .fields #[.none, .bool false, .ref s.heap.objs.size, rawInt 0, .none, .none] }) (s.heap.objs.size + 1) s.heap.objs.size 0 .none := by
    have := Heap.get?_push_size P (o := { cls := .type "enumerate", data := .fields #[.none, .bool false, .ref s.heap.objs.size, rawInt 0, .none, .none] }) rfl
    rw [hz] at this
    exact this
  have hi : P.get? s.heap.objs.size = some { cls := .type "tuple_iterator", data := .fields #[.ref l, .int 0 0] } := by
    rw [← hP]
    exact Heap.get?_push_size _ rfl
  refine ⟨⟨_, he, rfl⟩, h _ he ⟨_, Heap.get?_push_of_some _ hi, rfl, rfl⟩ (by rw [Heap.size_push, hz]) fun b o x => Heap.get?_push_of_some _ ?_⟩
  rw [← hP]
  exact Heap.get?_push_of_some _ x
end

/-- the tuple at a, its items in new pairs behind their numbers -/
def IteT (K : PySem.W.Frag) (a : Addr) : It :=
  ⟨fun i H => ∃ (xs : List V) (x : V), SqT K H a xs ∧ xs[i]? = some x,
    fun i H v H' => ∃ T x, v = .ref T ∧ H T = none ∧ H' = upd H T (.tup [.int (i : Nat), x]) ∧ ∀ xs, SqT K H a xs → xs[i]? = some x,
    fun i H => ∃ xs : List V, SqT K H a xs ∧ xs.length ≤ i⟩
theorem turn_enumT {P : Program} {w : World} {K : PySem.W.Frag} {elts : List Expr} {kk : Nat} {tpos : Pos} (a e it : Addr) :
    Turn P w K (.Tuple elts kk tpos) (IteT K a) [e, it] e (fun i h => (∃ old, IsEnum h e it ((i : Nat) : Int) old) ∧ h.IsTupleIter it a i ∧ e ≠ it ∧ e ≠ a ∧ a ≠ it) where
  mem := by simp
  obj := fun i h st b hb => by
    obtain ⟨⟨old, he⟩, ⟨o, ho, hc, hd⟩, _⟩ := st
    have e' : b = e ∨ b = it := by simpa using hb
    rcases e' with z | z
    · rw [z]
      exact ⟨_, he, fun v q => nomatch q⟩
    · rw [z]
      exact ⟨o, ho, fun v q => by rw [hd] at q; cases q⟩
  keep := fun i h h' st k => by
    obtain ⟨⟨old, he⟩, hi, hne⟩ := st
    exact ⟨⟨old, k e (by simp) _ he⟩, hi.at fun o q => k it (by simp) o q, hne⟩
  item := by
    intro X hP hw hK hc i pins s σ H E I hf st hg
    subst hP hw hK
    obtain ⟨⟨old, he⟩, hit, hne, hea, hai⟩ := st
    obtain ⟨xs, x, hq, hx⟩ := hg
    obtain ⟨its, rv, p, hz⟩ := I.tuple hq
    obtain ⟨u, hu, ru⟩ := rv.get hx
    have hel : e < s.heap.objs.size := Heap.lt_size he
    have hil : it < s.heap.objs.size := by
      obtain ⟨_, q, _⟩ := hit
      exact Heap.lt_size q
    have Dr := Draws.tuple (prog := X.prog) (w := X.w) (A := X.A.in1) (I.ok.hd hc) it a hai its.toArray
    have hef : e ∉ [it, a] := fun hm => by
      rcases List.mem_cons.mp hm with z | hm
      · exact hne z
      · exact hea (List.mem_singleton.mp hm)
    have hlt : i < its.toArray.size := by
      rw [List.size_toArray]
      exact (List.getElem?_eq_some_iff.mp hu).1
    refine wpAny_pyNext_enum_itemD Dr he ⟨hit, p⟩ hlt hne hef fun y h' tk hy ho hst' hT hsz hk => ?_
    obtain rfl : u = y := by
      have hy' : its[i]? = some y := by simpa using hy
      rw [hu] at hy'
      exact Option.some.inj hy'
    refine ⟨_, rfl, wpAny_letOwnedTupleGo_enum (s := { s with heap := h', toks := tk + 1 }) ho fun h'' he' sb => ?_⟩
    have hT2 : h''.get? s.heap.objs.size = some { cls := .type "tuple", data := .seq #[.int i tk, u] } := (sb.2 _ (Nat.ne_of_gt hel)).trans hT
    have new : ObjOk X.prog X.w (upd H s.heap.objs.size (.tup [.int (i : Nat), x])) h'' s.heap.objs.size (.tup [.int (i : Nat), x]) :=
      ⟨by show 2 ≤ sizeLine; decide, [.int i tk, u], .cons ⟨_, rfl⟩ (.cons ru .nil), ⟨_, hT2, rfl, _, rfl⟩⟩
    have I1 : Inv X pins σ (upd H s.heap.objs.size (.tup [.int (i : Nat), x])) { s with heap := h'', toks := tk + 1 } :=
      I.turnedNew (t' := tk + 1) (ch := [e, it]) (fun b ob hb q => (sb.2 b (fun z => hb (by simp [z]))).trans (hk b ob (fun z => hb (by simp [z])) (fun z => hb (by simp [z])) q)) hf (Nat.le_refl _) new
    refine ⟨.ref s.heap.objs.size, _, I1, rfl, ⟨_, x, rfl, I.hok.fresh (Nat.le_refl _), rfl, fun ys hy => by rw [I.tuple_inj hy hq]; exact hx⟩, ⟨⟨u, ?_⟩, hst'.1.at fun o q => (sb.2 it (Ne.symm hne)).trans q, hne, hea, hai⟩, fun b hb => ?_⟩
    · have e1 : ((i + 1 : Nat) : Int) = (i : Int) + 1 := by omega
      rw [e1]
      exact he'
    · have hb' : b < s.heap.objs.size := by
        have e' : b = e ∨ b = it := by simpa using hb
        rcases e' with z | z
        · rw [z]
          exact hel
        · rw [z]
          exact hil
      rw [upd_ne (Nat.ne_of_lt hb')]
      exact (hf b hb).1
  done := by
    intro X hP hw hK hc i pins s σ H E I hf st hg
    subst hP hw hK
    obtain ⟨⟨old, he⟩, hit, hne, hea, hai⟩ := st
    obtain ⟨xs, hq, hx⟩ := hg
    obtain ⟨its, rv, p, hz⟩ := I.tuple hq
    obtain ⟨f0, f1, f2, f3, f4, f5⟩ := hf it (by simp)
    have hl := rv.length
    -- behind the last one
    have hT : s.TypeIs (.ref e) "enumerate" := ⟨_, he, rfl⟩
    unfold pyNext
    refine wpAny_bind (wpAny_attempt (wpAny_callSpecial?_slot (name := Str.ofString "__next__") hT F.slot_enumerate_next
      (wpAny_call_entry F.slot_enumerate_next hT F.entry_enumerate_next ?_ (F.args_enumerate_next_1 _))))
    show wpAny _ _ (field (.ref e) 2 >>= _) _ _ _
    refine wpAny_bind (wpAny_field he rfl (x := .ref it) rfl ?_)
    refine wpAny_bind (wpAny_nextOf_tuple_end (I.ok.hd hc) hit p (by simp; omega) fun h' x he' hx' => ?_)
    obtain ⟨o, ho, hc'⟩ := hx'
    refine wpAny_bind (wpAny_isInstance (T := "StopIteration") (b := true) ⟨o, ho, hc'⟩ isSubtype_stop ?_)
    exact wpAny_pure ⟨rfl, I.turned (t' := s.toks) (fun b o hb q => he' b o hb q) f0 f1 f3 f4 f5⟩
  self := fun A i s Q E st h => by
    obtain ⟨⟨_, he⟩, _⟩ := st
    exact wpAny_pyIter_enum he h
def iEnumT (K : PySem.W.Frag) (ta : TA) : TI := fun σ H R => ta σ H fun vs H1 => ∃ a xs, vs = [.ref a] ∧ SqT K H1 a xs ∧ R (IteT K a) H1
theorem pi_enumT {X : Cx} {e : Expr} {ta : TA} {p pos tpos : Pos} {elts : List Expr} {kk : Nat} (hg : Gl X "enumerate") (hm : X.mg "enumerate" = none) (ha : PA X [e] ta) (hs : starEach [e] X.env = [(false, eval e X.env)] := by rfl) :
    PI X (.Tuple elts kk tpos) (.Call (.Name "enumerate" p) [e] [] pos) (iEnumT X.K ta) := by
  refine ⟨fun pins s σ H R I h => ?_⟩
  refine Call_ (ld_blt I hg hm boot_enumerate (PyProof.Rows.callWith_type1 (thn (ha.run pos pins s σ H _ I h) fun us s1 ⟨vs, H1, I1, r1, q1⟩ => ?_) hs rfl))
  obtain ⟨a, xs, ex, hq, q⟩ := q1
  subst ex
  cases r1 with
  | cons r rr =>
    cases rr
    cases r
    obtain ⟨its, rv, p', hz⟩ := I1.tuple hq
    have hla : a < s1.heap.objs.size := by
      obtain ⟨o, ho, _⟩ := p'
      exact Heap.lt_size ho
    refine call_enumT (show s1.heap.IsTuple a its.toArray from p') fun h' he hit hsz hk => wpAny_pyIter_enum he ?_
    have I2 : Inv X pins σ H1 { s1 with heap := h' } := I1.kept (t' := s1.toks) hk
    refine ⟨s1.heap.objs.size + 1, [s1.heap.objs.size + 1, s1.heap.objs.size], _, _, H1, rfl, I2, turn_enumT a (s1.heap.objs.size + 1) s1.heap.objs.size, ⟨⟨.none, he⟩, hit, Nat.succ_ne_self _, Nat.ne_of_gt (Nat.lt_succ_of_lt hla), Nat.ne_of_lt hla⟩, fun b hb => ?_, q⟩
    have e' : b = s1.heap.objs.size + 1 ∨ b = s1.heap.objs.size := by simpa using hb
    have hle : s1.heap.objs.size ≤ b := by
      rcases e' with z | z
      · rw [z]
        exact Nat.le_add_right _ _
      · rw [z]
        exact Nat.le_refl _
    exact I1.fpOk hle (I1.hok.fresh hle)
end Mt

set_option maxHeartbeats 4000000
/-! zip(s, t, strict=True), s and t tuples of one length -/
namespace Mt
open PySem L2 Evl PyProof.Rows
open PySem.Sem (wp)

abbrev IsZipS (h : Heap) (z TI TO : Addr) (f0 : Value) : Prop :=
  h.get? z = some { cls := .type "zip", dict := none, data := .fields #[f0, .bool false, .bool true, .ref TI, .ref TO], slots := #[] }
section
variable {prog : Program} {w : World} {A : Around} {E : Value → Shared → Prop} {s : Shared}
theorem orEnd_item {it l : Addr} {i : Nat} {items} {x : Value} {Q : Option Value → Shared → Prop} (hit : s.heap.IsTupleIter it l i)
    (hl : s.heap.IsTuple l items) (hx : items[i]? = some x)
    (hQ : ∀ h', h'.IsTupleIter it l (i + 1) → Heap.SameBut it s.heap h' → Q (some x) { s with heap := h' }) :
    wpAny (model prog w) A (Builtin.SmallTypes.nextOrEnd (.ref it)) Q E s := by
  unfold Builtin.SmallTypes.nextOrEnd
  exact wpAny_bind (wpAny_attempt (RZ.nextOf_tuple_item hit hl hx fun h' a b => wpAny_pure (hQ h' a b)))
theorem orEnd_end {it l : Addr} {i : Nat} {items} {Q : Option Value → Shared → Prop} (hh : A.handled = none) (hit : s.heap.IsTupleIter it l i)
    (hl : s.heap.IsTuple l items) (hx : items[i]? = none)
    (hQ : ∀ h', Heap.ExtBut it s.heap h' → Q none { s with heap := h' }) :
    wpAny (model prog w) A (Builtin.SmallTypes.nextOrEnd (.ref it)) Q E s := by
  unfold Builtin.SmallTypes.nextOrEnd
  refine wpAny_bind (wpAny_attempt (RZ.nextOf_tuple_end hh hit hl hx fun h' e he hx' => ?_))
  obtain ⟨o, ho, hc⟩ := hx'
  refine wpAny_bind (wpAny_isInstance (T := "StopIteration") (b := true) ⟨o, ho, hc⟩ isSubtype_stop ?_)
  exact wpAny_pure (hQ h' he)

theorem zipS_item {z TI TO i1 i2 l1 l2 : Addr} {k1 k2 : Nat} {xs ys : Array Value} {x y a b : Value} {Q : Value → Shared → Prop} (D : ZipApart z TI TO i1 i2 l1 l2)
    (hz : IsZipS s.heap z TI TO .none) (hTI : IsPair s.heap TI (.ref i1) (.ref i2)) (hTO : IsPair s.heap TO a b)
    (h1 : s.heap.IsTupleIter i1 l1 k1) (h2 : s.heap.IsTupleIter i2 l2 k2) (hl1 : s.heap.IsTuple l1 xs) (hl2 : s.heap.IsTuple l2 ys) (hx : xs[k1]? = some x) (hy : ys[k2]? = some y)
    (hQ : ∀ h', IsZipS h' z TI TO (rawInt s.heap.objs.size) → IsPair h' TO x y → h'.IsTupleIter i1 l1 (k1 + 1) → h'.IsTupleIter i2 l2 (k2 + 1) → IsPair h' s.heap.objs.size x y → h'.objs.size = s.heap.objs.size + 1 →
      (∀ c o, c ≠ z → c ≠ TO → c ≠ i1 → c ≠ i2 → s.heap.get? c = some o → h'.get? c = some o) → Q (.ref s.heap.objs.size) { s with heap := h' }) :
    wpAny (model prog w) A (Builtin.«zip.__next__» ⟨[.ref z], []⟩) (fun fin s' => ∃ v, fin = .done (.ret v) ∧ Q v s') E s := by
  show wpAny _ _ (field (.ref z) 2 >>= _) _ _ _
  refine wpAny_bind (wpAny_field hz rfl (x := .bool true) rfl ?_)
  show wpAny _ _ (field (.ref z) 3 >>= _) _ _ _
  refine wpAny_bind (wpAny_field hz rfl (x := .ref TI) rfl ?_)
  refine wpAny_bind (wpAny_seqItems hTI rfl ?_)
  show wpAny _ _ (Builtin.SmallTypes.ownedTupleIsFree (.ref z) >>= _) _ _ _
  refine wpAny_bind ?_
  unfold Builtin.SmallTypes.ownedTupleIsFree
  refine wpAny_bind (wpAny_field hz rfl (x := .none) rfl (wpAny_pure ?_))
  simp only [if_true]
  refine wpAny_bind (wpAny_rule ?_)
  refine wpAny_bind (wpAny_field hz rfl (x := .ref TO) rfl ?_)
  refine wpAny_bind (wpAny_setField_rec hz (by simp) fun h₁ hz₁ hs₁ => ?_)
  replace hz₁ : IsZipS h₁ z TI TO .ellipsis := hz₁
  refine wpAny_bind ?_
  simp only [List.zipIdx_cons, List.zipIdx_nil, List.forIn_cons, List.forIn_nil]
  -- the first one
  refine wpAny_bind (wpAny_bind (wpAny_onRaise ?_))
  show wpAny _ _ (Builtin.SmallTypes.nextOrEnd (.ref i1)) _ _ _
  refine orEnd_item (h1.extBut hs₁.extBut D.i1z) (hl1.extBut hs₁.extBut D.l1z) hx fun h₂ h1₂ hs₂ => ?_
  have hTO₂ : IsPair h₂ TO a b := hs₂.extBut _ _ D.TOi1 (hs₁.extBut _ _ D.TOz hTO)
  refine wpAny_bind (wpAny_seqItems hTO₂ rfl ?_)
  refine wpAny_bind (wpAny_updateSeq_pair hTO₂ fun h₃ hTO₃ hs₃ => ?_)
  replace hTO₃ : IsPair h₃ TO x b := hTO₃
  refine wpAny_bind (wpAny_letGo (wpAny_pure ?_))
  -- the second one
  refine wpAny_bind (wpAny_bind (wpAny_onRaise ?_))
  show wpAny _ _ (Builtin.SmallTypes.nextOrEnd (.ref i2)) _ _ _
  refine orEnd_item (((h2.extBut hs₁.extBut D.i2z).extBut hs₂.extBut D.i12.symm).extBut hs₃.extBut D.TOi2.symm)
    (((hl2.extBut hs₁.extBut D.l2z).extBut hs₂.extBut D.l2i1).extBut hs₃.extBut D.l2TO) hy fun h₄ h2₄ hs₄ => ?_
  have hTO₄ : IsPair h₄ TO x b := hs₄.extBut _ _ D.TOi2 hTO₃
  refine wpAny_bind (wpAny_seqItems hTO₄ rfl ?_)
  refine wpAny_bind (wpAny_updateSeq_pair hTO₄ fun h₅ hTO₅ hs₅ => ?_)
  replace hTO₅ : IsPair h₅ TO x y := hTO₅
  refine wpAny_bind (wpAny_letGo (wpAny_pure (wpAny_pure ?_)))
  -- the pair
  refine wpAny_bind (wpAny_seqItems hTO₅ rfl ?_)
  refine wpAny_bind (wpAny_newTuple ?_)
  have hsz : h₅.objs.size = s.heap.objs.size := by rw [hs₅.1, hs₄.1, hs₃.1, hs₂.1, hs₁.1]
  have hz₅ : IsZipS h₅ z TI TO .ellipsis := hs₅.extBut _ _ D.TOz.symm (hs₄.extBut _ _ D.i2z.symm (hs₃.extBut _ _ D.TOz.symm (hs₂.extBut _ _ D.i1z.symm hz₁)))
  have hk₅ : ∀ c o, c ≠ z → c ≠ TO → c ≠ i1 → c ≠ i2 → s.heap.get? c = some o → h₅.get? c = some o := fun c o c1 c2 c3 c4 e =>
    hs₅.extBut _ _ c2 (hs₄.extBut _ _ c4 (hs₃.extBut _ _ c2 (hs₂.extBut _ _ c3 (hs₁.extBut _ _ c1 e))))
  have h1₅ : h₅.IsTupleIter i1 l1 (k1 + 1) := ((h1₂.extBut hs₃.extBut D.TOi1.symm).extBut hs₄.extBut D.i12).extBut hs₅.extBut D.TOi1.symm
  have h2₅ : h₅.IsTupleIter i2 l2 (k2 + 1) := h2₄.extBut hs₅.extBut D.TOi2.symm
  have hzlt : z < h₅.objs.size := Heap.lt_size hz₅
  show wpAny _ _ (Builtin.SmallTypes.ownedTupleHandOut (.ref z) (.ref h₅.objs.size) >>= _) _ _ _
  refine wpAny_bind ?_
  unfold Builtin.SmallTypes.ownedTupleHandOut
  have hz₆ : IsZipS (h₅.push { cls := .type "tuple", data := .seq #[x, y] }) z TI TO .ellipsis := Heap.get?_push_of_some _ hz₅
  refine wpAny_bind (wpAny_setField_rec hz₆ (by simp) fun h₇ hz₇ hs₇ => ?_)
  replace hz₇ : IsZipS h₇ z TI TO (rawInt h₅.objs.size) := hz₇
  refine wpAny_setField_rec hz₇ (by simp) fun h₈ hz₈ hs₈ => ?_
  replace hz₈ : IsZipS h₈ z TI TO (rawInt h₅.objs.size) := hz₈
  have up : ∀ c o, c ≠ z → h₅.get? c = some o → h₈.get? c = some o := fun c o c1 e => hs₈.extBut _ _ c1 (hs₇.extBut _ _ c1 (Heap.get?_push_of_some _ e))
  have hT₈ : IsPair h₈ h₅.objs.size x y := hs₈.extBut _ _ (Nat.ne_of_gt hzlt) (hs₇.extBut _ _ (Nat.ne_of_gt hzlt) (Heap.get?_push_size _ rfl))
  have hz8 : h₈.objs.size = h₅.objs.size + 1 := by rw [hs₈.1, hs₇.1, Heap.size_push]
  rw [hsz] at hz₈ hT₈ hz8
  refine wpAny_pure ⟨_, rfl, ?_⟩
  show Q (.ref h₅.objs.size) _
  rw [hsz]
  exact hQ h₈ hz₈ (up _ _ D.TOz hTO₅) (h1₅.at fun o e => up _ o D.i1z e) (h2₅.at fun o e => up _ o D.i2z e) hT₈ hz8 fun c o c1 c2 c3 c4 e => up c o c1 (hk₅ c o c1 c2 c3 c4 e)

theorem zipS_end {z TI TO i1 i2 l1 l2 : Addr} {k1 k2 : Nat} {xs ys : Array Value} {a b : Value} {Q : Fin → Shared → Prop} (hh : A.handled = none) (D : ZipApart z TI TO i1 i2 l1 l2)
    (hz : IsZipS s.heap z TI TO .none) (hTI : IsPair s.heap TI (.ref i1) (.ref i2)) (hTO : IsPair s.heap TO a b)
    (h1 : s.heap.IsTupleIter i1 l1 k1) (h2 : s.heap.IsTupleIter i2 l2 k2) (hl1 : s.heap.IsTuple l1 xs) (hl2 : s.heap.IsTuple l2 ys) (hx : xs[k1]? = none) (hy : ys[k2]? = none)
    (hE : ∀ h' e, (∀ c o, c ≠ z → c ≠ TO → c ≠ i1 → c ≠ i2 → s.heap.get? c = some o → h'.get? c = some o) → (∃ o, h'.get? e = some o ∧ o.cls = .type "StopIteration") → E (.ref e) { s with heap := h' }) :
    wpAny (model prog w) A (Builtin.«zip.__next__» ⟨[.ref z], []⟩) Q E s := by
  show wpAny _ _ (field (.ref z) 2 >>= _) _ _ _
  refine wpAny_bind (wpAny_field hz rfl (x := .bool true) rfl ?_)
  show wpAny _ _ (field (.ref z) 3 >>= _) _ _ _
  refine wpAny_bind (wpAny_field hz rfl (x := .ref TI) rfl ?_)
  refine wpAny_bind (wpAny_seqItems hTI rfl ?_)
  show wpAny _ _ (Builtin.SmallTypes.ownedTupleIsFree (.ref z) >>= _) _ _ _
  refine wpAny_bind ?_
  unfold Builtin.SmallTypes.ownedTupleIsFree
  refine wpAny_bind (wpAny_field hz rfl (x := .none) rfl (wpAny_pure ?_))
  simp only [if_true]
  refine wpAny_bind (wpAny_rule ?_)
  refine wpAny_bind (wpAny_field hz rfl (x := .ref TO) rfl ?_)
  refine wpAny_bind (wpAny_setField_rec hz (by simp) fun h₁ hz₁ hs₁ => ?_)
  replace hz₁ : IsZipS h₁ z TI TO .ellipsis := hz₁
  refine wpAny_bind ?_
  simp only [List.zipIdx_cons, List.zipIdx_nil, List.forIn_cons, List.forIn_nil]
  refine wpAny_bind (wpAny_bind (wpAny_onRaise ?_))
  show wpAny _ _ (Builtin.SmallTypes.nextOrEnd (.ref i1)) _ _ _
  refine orEnd_end hh (h1.extBut hs₁.extBut D.i1z) (hl1.extBut hs₁.extBut D.l1z) hx fun h₂ hs₂ => ?_
  have hz₂ : IsZipS h₂ z TI TO .ellipsis := hs₂ _ _ D.i1z.symm hz₁
  refine wpAny_bind (wpAny_setField_rec hz₂ (by simp) fun h₃ hz₃ hs₃ => ?_)
  refine wpAny_bind ?_
  show wpAny _ _ ((forIn [((.ref i2 : Value), 1)] _ _) >>= _) _ _ _
  simp only [List.forIn_cons, List.forIn_nil]
  refine wpAny_bind (wpAny_bind (wpAny_bind ?_))
  refine orEnd_end hh (((h2.extBut hs₁.extBut D.i2z).at fun o e => hs₂ _ _ D.i12.symm e).extBut hs₃.extBut D.i2z) (((hl2.extBut hs₁.extBut D.l2z).at fun o e => hs₂ _ _ D.l2i1 e).extBut hs₃.extBut D.l2z) hy fun h₄ hs₄ => ?_
  have key : ∀ c o, c ≠ z → c ≠ TO → c ≠ i1 → c ≠ i2 → s.heap.get? c = some o → h₄.get? c = some o := fun c o c1 c2 c3 c4 e =>
    hs₄ _ _ c4 (hs₃.extBut _ _ c1 (hs₂ _ _ c3 (hs₁.extBut _ _ c1 e)))
  refine wpAny_pure (wpAny_pure (wpAny_bind (wpAny_rule ?_)))
  unfold Builtin.SmallTypes.stopIteration
  show wpAny _ _ (newExc (.type "StopIteration") [] >>= _) _ _ _
  refine wpAny_bind ?_
  simp only [newExc, newTuple]
  refine wpAny_bind (wpAny_newObj_type ?_ (by size_fits))
  refine wpAny_bind (m := firstArgMember _ _) (wpAny_of_eq (a := Value.none) (by first | rfl | (simp only [firstArgMember]; rfl)) ?_)
  refine wpAny_newObj_type ?_ (by size_fits)
  simp only [raiseNew]
  refine wpAny_bind (wpAny_handled ?_)
  first
    | rw [show A.in1.handled = none from hh]
    | rw [hh]
  refine wpAny_bind (wpAny_pure (wpAny_throw ?_))
  exact hE _ _ (fun c o c1 c2 c3 c4 e => Heap.get?_push_of_some _ (Heap.get?_push_of_some _ (key c o c1 c2 c3 c4 e))) ⟨_, Heap.get?_push_size _ rfl, rfl⟩

theorem nextS_item {z TI TO i1 i2 l1 l2 : Addr} {k1 k2 : Nat} {xs ys : Array Value} {x y a b : Value} {Q : Option Value → Shared → Prop} (D : ZipApart z TI TO i1 i2 l1 l2)
    (hz : IsZipS s.heap z TI TO .none) (hTI : IsPair s.heap TI (.ref i1) (.ref i2)) (hTO : IsPair s.heap TO a b)
    (h1 : s.heap.IsTupleIter i1 l1 k1) (h2 : s.heap.IsTupleIter i2 l2 k2) (hl1 : s.heap.IsTuple l1 xs) (hl2 : s.heap.IsTuple l2 ys) (hx : xs[k1]? = some x) (hy : ys[k2]? = some y)
    (hQ : ∀ h', IsZipS h' z TI TO (rawInt s.heap.objs.size) → IsPair h' TO x y → h'.IsTupleIter i1 l1 (k1 + 1) → h'.IsTupleIter i2 l2 (k2 + 1) → IsPair h' s.heap.objs.size x y → h'.objs.size = s.heap.objs.size + 1 →
      (∀ c o, c ≠ z → c ≠ TO → c ≠ i1 → c ≠ i2 → s.heap.get? c = some o → h'.get? c = some o) → Q (some (.ref s.heap.objs.size)) { s with heap := h' }) :
    wpAny (model prog w) A (pyNext (.ref z)) Q E s := by
  have hT : s.TypeIs (.ref z) "zip" := ⟨_, hz, rfl⟩
  unfold pyNext
  refine wpAny_bind (wpAny_attempt (wpAny_callSpecial?_slot (name := Str.ofString "__next__") hT F.slot_zip_next (wpAny_call_entry F.slot_zip_next hT F.entry_zip_next ?_ (F.args_zip_next_1 _))))
  exact zipS_item D hz hTI hTO h1 h2 hl1 hl2 hx hy fun h' a1 a2 a3 a4 a5 a6 a7 => wpAny_pure (hQ h' a1 a2 a3 a4 a5 a6 a7)
theorem nextS_end {z TI TO i1 i2 l1 l2 : Addr} {k1 k2 : Nat} {xs ys : Array Value} {a b : Value} {Q : Option Value → Shared → Prop} (hh : A.handled = none) (D : ZipApart z TI TO i1 i2 l1 l2)
    (hz : IsZipS s.heap z TI TO .none) (hTI : IsPair s.heap TI (.ref i1) (.ref i2)) (hTO : IsPair s.heap TO a b)
    (h1 : s.heap.IsTupleIter i1 l1 k1) (h2 : s.heap.IsTupleIter i2 l2 k2) (hl1 : s.heap.IsTuple l1 xs) (hl2 : s.heap.IsTuple l2 ys) (hx : xs[k1]? = none) (hy : ys[k2]? = none)
    (hQ : ∀ h', (∀ c o, c ≠ z → c ≠ TO → c ≠ i1 → c ≠ i2 → s.heap.get? c = some o → h'.get? c = some o) → Q none { s with heap := h' }) : wpAny (model prog w) A (pyNext (.ref z)) Q E s := by
  have hT : s.TypeIs (.ref z) "zip" := ⟨_, hz, rfl⟩
  unfold pyNext
  refine wpAny_bind (wpAny_attempt (wpAny_callSpecial?_slot (name := Str.ofString "__next__") hT F.slot_zip_next (wpAny_call_entry F.slot_zip_next hT F.entry_zip_next ?_ (F.args_zip_next_1 _))))
  refine zipS_end hh D hz hTI hTO h1 h2 hl1 hl2 hx hy fun h' e hk he => ?_
  obtain ⟨o, ho, hc⟩ := he
  refine wpAny_bind (wpAny_isInstance (T := "StopIteration") (b := true) ⟨o, ho, hc⟩ isSubtype_stop ?_)
  exact wpAny_pure (hQ _ hk)
theorem goS_zip {elts : List Expr} {x1} {pos : Pos} {z TI TO T : Addr} {Q : Unit → Shared → Prop} (hz : IsZipS s.heap z TI TO (rawInt T))
    (hQ : ∀ h', IsZipS h' z TI TO .none → Heap.SameBut z s.heap h' → Q () { s with heap := h' }) :
    wpAny (model prog w) A (letOwnedTupleGo (.Tuple elts x1 pos) (.ref z) (.ref T)) Q E s := by
  unfold letOwnedTupleGo
  refine wpAny_bind (wpAny_load hz ?_)
  show wpAny _ _ (if (["enumerate", "zip", "dict_itemiterator", "dict_reverseitemiterator", "odict_iterator", "itertools.zip_longest", "itertools.pairwise"].contains "zip" &&
      (#[rawInt T, .bool false, .bool true, .ref TI, .ref TO] : Array Value)[0]? == some (rawInt T)) = true then _ else _) Q E s
  rw [if_pos (by simp)]
  refine wpAny_bind (wpAny_rule ?_)
  show wpAny _ _ (setField (.ref z) 0 .none) Q E s
  exact wpAny_setField_rec hz (by simp) fun h' hz' hs' => hQ h' hz' hs'
theorem iterS_zip {z TI TO : Addr} {f0 : Value} {Q : Value → Shared → Prop} (hz : IsZipS s.heap z TI TO f0) (h : Q (.ref z) s) : wpAny (model prog w) A (pyIter (.ref z)) Q E s := by
  have hT : s.TypeIs (.ref z) "zip" := ⟨_, hz, rfl⟩
  refine wpAny_pyIter_slot hT F.slot_zip_iter (wpAny_call_entry F.slot_zip_iter hT F.entry_zip_iter ?_ (F.args_zip_iter_1 _))
  show wpAny _ _ (ret (.ref z)) _ _ s
  exact wpAny_pure ⟨_, rfl, "zip", _, hT, F.slot_zip_next.lookup, h⟩
end

abbrev kwS : List (Str × Value) := [(Str.ofString "strict", .bool true)]
theorem typeCall_zipS (a b : Value) : checkTypeCall "zip" ⟨[a, b], kwS⟩ = pure () := by kernel_rfl
theorem newCall_zipS (a b : Value) : checkBuiltinCall "zip.__new__" ⟨[.type "zip", a, b], kwS⟩ = pure () := by kernel_rfl
theorem args_objS (obj a b : Value) : argsOk "object.__init__" ⟨[obj, a, b], kwS⟩ := by unfold argsOk; kernel_rfl
abbrev zsH5 (h : Heap) (l1 l2 : Addr) : Heap := (RZ.zipTH4 h l1 l2).push { cls := .type "zip", data := .fields #[.none, .bool false, .bool true, .ref (RZ.zipTH2 h l1 l2).objs.size, .ref (RZ.zipTH3 h l1 l2).objs.size] }
theorem meets_zipS_new (l1 l2 : Addr) (xs ys : Array Value) :
    Meets (Builtin.«zip.__new__» ⟨[.type "zip", .ref l1, .ref l2], kwS⟩) (fun _ R s => s.heap.IsTuple l1 xs ∧ s.heap.IsTuple l2 ys ∧
      R (.ok (.ret (.ref (RZ.zipTH4 s.heap l1 l2).objs.size))) { s with heap := zsH5 s.heap l1 l2 }) :=
  .of_wp fun prog w A R s h => by
    obtain ⟨hp, g, d, tk, os⟩ := s
    obtain ⟨hl1, hl2, h⟩ := h
    have hsub := sub_zip
    have hL1 : Heap.IsTuple (Shared.heap ⟨hp, g, d, tk, os⟩) l1 xs := hl1
    have hL2 : Heap.IsTuple (Shared.heap ⟨hp.push { cls := .type "tuple_iterator", data := .fields #[.ref l1, .int 0 0] }, g, d, tk, os⟩) l2 ys := Heap.IsTuple.push hl2 _
    have e1 : (Str.ofString "strict" != ("strict" : Str)) = false := by decide +kernel
    wp_walk using wpAny_pyIter_tuple hL1, wpAny_pyIter_tuple hL2
    exact ⟨_, rfl, h⟩
section
variable {prog : Program} {w : World} {A : Around} {E : Value → Shared → Prop} {s : Shared}
theorem call_zipS {l1 l2 : Addr} {xs ys : Array Value} {Q : Value → Shared → Prop} (hl1 : s.heap.IsTuple l1 xs) (hl2 : s.heap.IsTuple l2 ys)
    (h : ∀ h', IsZipS h' (s.heap.objs.size + 4) (s.heap.objs.size + 2) (s.heap.objs.size + 3) .none → IsPair h' (s.heap.objs.size + 2) (.ref s.heap.objs.size) (.ref (s.heap.objs.size + 1)) →
      IsPair h' (s.heap.objs.size + 3) .none .none → h'.IsTupleIter s.heap.objs.size l1 0 → h'.IsTupleIter (s.heap.objs.size + 1) l2 0 → h'.objs.size = s.heap.objs.size + 5 →
      (∀ c o, s.heap.get? c = some o → h'.get? c = some o) → Q (.ref (s.heap.objs.size + 4)) { s with heap := h' }) :
    wpAny (model prog w) A (call (.type "zip") [.ref l1, .ref l2] kwS) Q E s := by
  refine callType_newKw F.called_zip (by decide) (typeCall_zipS _ _) (newCall_zipS _ _) (fun obj => args_objS obj _ _) F.entry_zip_new
    (meets_zipS_new l1 l2 xs ys) ⟨hl1, hl2, ?_⟩
  have z1 : (RZ.zipTH1 s.heap l1).objs.size = s.heap.objs.size + 1 := Heap.size_push ..
  have z2 : (RZ.zipTH2 s.heap l1 l2).objs.size = s.heap.objs.size + 2 := by rw [Heap.size_push, z1]
  have z3 : (RZ.zipTH3 s.heap l1 l2).objs.size = s.heap.objs.size + 3 := by rw [Heap.size_push, z2]
  have z4 : (RZ.zipTH4 s.heap l1 l2).objs.size = s.heap.objs.size + 4 := by rw [Heap.size_push, z3]
  have z5 : (zsH5 s.heap l1 l2).objs.size = s.heap.objs.size + 5 := by rw [Heap.size_push, z4]
  have g5 : (zsH5 s.heap l1 l2).get? (RZ.zipTH4 s.heap l1 l2).objs.size = some _ := Heap.get?_push_size _ rfl
  have g4 : (zsH5 s.heap l1 l2).get? (RZ.zipTH3 s.heap l1 l2).objs.size = some _ := Heap.get?_push_of_some _ (Heap.get?_push_size _ rfl)
  have g3 : (zsH5 s.heap l1 l2).get? (RZ.zipTH2 s.heap l1 l2).objs.size = some _ := Heap.get?_push_of_some _ (Heap.get?_push_of_some _ (Heap.get?_push_size _ rfl))
  have g2 : (zsH5 s.heap l1 l2).get? (RZ.zipTH1 s.heap l1).objs.size = some _ := Heap.get?_push_of_some _ (Heap.get?_push_of_some _ (Heap.get?_push_of_some _ (Heap.get?_push_size _ rfl)))
  have g1 : (zsH5 s.heap l1 l2).get? s.heap.objs.size = some _ := Heap.get?_push_of_some _ (Heap.get?_push_of_some _ (Heap.get?_push_of_some _ (Heap.get?_push_of_some _ (Heap.get?_push_size _ rfl))))
  show _ ∧ _
  rw [z2, z3, z4] at g5
  rw [z1, z2] at g3
  rw [z3] at g4
  rw [z1] at g2
  rw [z4]
  exact ⟨⟨_, g5, rfl⟩, h _ g5 g3 g4 ⟨_, g1, rfl, rfl⟩ ⟨_, g2, rfl, rfl⟩ z5 fun c o x =>
    Heap.get?_push_of_some _ (Heap.get?_push_of_some _ (Heap.get?_push_of_some _ (Heap.get?_push_of_some _ (Heap.get?_push_of_some _ x))))⟩
end

/-- both tuples at their ends at once -/
def ItzS (K : PySem.W.Frag) (a b : Addr) : It :=
  ⟨fun i H => ∃ (xs ys : List V) (x y : V), SqT K H a xs ∧ SqT K H b ys ∧ xs[i]? = some x ∧ ys[i]? = some y,
    fun i H v H' => ∃ T x y, v = .ref T ∧ H T = none ∧ H' = upd H T (.tup [x, y]) ∧ (∀ xs, SqT K H a xs → xs[i]? = some x) ∧ ∀ ys, SqT K H b ys → ys[i]? = some y,
    fun i H => ∃ xs ys : List V, SqT K H a xs ∧ SqT K H b ys ∧ xs.length ≤ i ∧ ys.length ≤ i⟩
theorem turn_zipS {P : Program} {w : World} {K : PySem.W.Frag} {elts : List Expr} {kk : Nat} {tpos : Pos} {a b z TI TO i1 i2 : Addr} (D : ZipApart z TI TO i1 i2 a b) :
    Turn P w K (.Tuple elts kk tpos) (ItzS K a b) [z, TI, TO, i1, i2] z (fun i h => IsZipS h z TI TO .none ∧ IsPair h TI (.ref i1) (.ref i2) ∧ (∃ x y, IsPair h TO x y) ∧ h.IsTupleIter i1 a i ∧ h.IsTupleIter i2 b i) where
  mem := by simp
  obj := fun i h st c hc => by
    obtain ⟨hz, hTI, ⟨x, y, hTO⟩, ⟨o1, e1, _, d1⟩, ⟨o2, e2, _, d2⟩⟩ := st
    have e' : c = z ∨ c = TI ∨ c = TO ∨ c = i1 ∨ c = i2 := by simpa using hc
    rcases e' with q | q | q | q | q
    · rw [q]
      exact ⟨_, hz, fun v q => nomatch q⟩
    · rw [q]
      exact ⟨_, hTI, fun v q => nomatch q⟩
    · rw [q]
      exact ⟨_, hTO, fun v q => nomatch q⟩
    · rw [q]
      exact ⟨o1, e1, fun v q => by rw [d1] at q; cases q⟩
    · rw [q]
      exact ⟨o2, e2, fun v q => by rw [d2] at q; cases q⟩
  keep := fun i h h' st k => by
    obtain ⟨hz, hTI, ⟨x, y, hTO⟩, h1, h2⟩ := st
    exact ⟨k z (by simp) _ hz, k TI (by simp) _ hTI, ⟨x, y, k TO (by simp) _ hTO⟩, h1.at fun o q => k i1 (by simp) o q, h2.at fun o q => k i2 (by simp) o q⟩
  item := by
    intro X hP hw hK hc i pins s σ H E I hf st hg
    subst hP hw hK
    obtain ⟨hz, hTI, ⟨x0, y0, hTO⟩, h1, h2⟩ := st
    obtain ⟨xs, ys, x, y, hqx, hqy, hx, hy⟩ := hg
    obtain ⟨its, rv, p, _⟩ := I.tuple hqx
    obtain ⟨its2, rv2, p2, _⟩ := I.tuple hqy
    obtain ⟨u, hu, ru⟩ := rv.get hx
    obtain ⟨u2, hu2, ru2⟩ := rv2.get hy
    have hzl : z < s.heap.objs.size := Heap.lt_size hz
    refine nextS_item D hz hTI hTO h1 h2 p p2 (x := u) (y := u2) (by simpa using hu) (by simpa using hu2) fun h' z' TO' h1' h2' hT hsz hk => ?_
    refine ⟨_, rfl, goS_zip (s := { s with heap := h' }) z' fun h'' z'' sb => ?_⟩
    have hT2 : h''.get? s.heap.objs.size = some { cls := .type "tuple", data := .seq #[u, u2] } := (sb.2 _ (Nat.ne_of_gt hzl)).trans hT
    have new : ObjOk X.prog X.w (upd H s.heap.objs.size (.tup [x, y])) h'' s.heap.objs.size (.tup [x, y]) :=
      ⟨by show 2 ≤ sizeLine; decide, [u, u2], .cons ru (.cons ru2 .nil), ⟨_, hT2, rfl, _, rfl⟩⟩
    have I1 : Inv X pins σ (upd H s.heap.objs.size (.tup [x, y])) { s with heap := h'' } :=
      I.turnedNew (t' := s.toks) (ch := [z, TI, TO, i1, i2]) (fun c o hb q => (sb.2 c (fun q' => hb (by simp [q']))).trans (hk c o (fun q' => hb (by simp [q'])) (fun q' => hb (by simp [q'])) (fun q' => hb (by simp [q'])) (fun q' => hb (by simp [q'])) q)) hf (Nat.le_refl _) new
    refine ⟨.ref s.heap.objs.size, _, I1, rfl, ⟨_, x, y, rfl, I.hok.fresh (Nat.le_refl _), rfl, fun l hl => by rw [I.tuple_inj hl hqx]; exact hx, fun l hl => by rw [I.tuple_inj hl hqy]; exact hy⟩, ⟨z'', ?_, ⟨u, u2, ?_⟩, ?_, ?_⟩, fun c hcm => ?_⟩
    · exact (sb.2 _ D.TIz).trans (hk _ _ D.TIz D.TITO D.TIi1 D.TIi2 hTI)
    · exact (sb.2 _ D.TOz).trans TO'
    · exact h1'.at fun o q => (sb.2 _ D.i1z).trans q
    · exact h2'.at fun o q => (sb.2 _ D.i2z).trans q
    · have hlt : c < s.heap.objs.size := by
        have e' : c = z ∨ c = TI ∨ c = TO ∨ c = i1 ∨ c = i2 := by simpa using hcm
        rcases e' with q | q | q | q | q
        · rw [q]
          exact hzl
        · rw [q]
          exact Heap.lt_size hTI
        · rw [q]
          exact Heap.lt_size hTO
        · rw [q]
          obtain ⟨_, e1, _⟩ := h1
          exact Heap.lt_size e1
        · rw [q]
          obtain ⟨_, e2, _⟩ := h2
          exact Heap.lt_size e2
      rw [upd_ne (Nat.ne_of_lt hlt)]
      exact (hf c hcm).1
  done := by
    intro X hP hw hK hc i pins s σ H E I hf st hg
    subst hP hw hK
    obtain ⟨hz, hTI, ⟨x0, y0, hTO⟩, h1, h2⟩ := st
    obtain ⟨xs, ys, hqx, hqy, he1, he2⟩ := hg
    obtain ⟨its, rv, p, _⟩ := I.tuple hqx
    obtain ⟨its2, rv2, p2, _⟩ := I.tuple hqy
    have l1 := rv.length
    have l2 := rv2.length
    exact nextS_end (I.ok.hd hc) D hz hTI hTO h1 h2 p p2 (by simp; omega) (by simp; omega) fun h' hk => ⟨rfl, I.turnedL (t' := s.toks) (ch := [z, TI, TO, i1, i2]) (fun c o hb q =>
      hk c o (fun q' => hb (by simp [q'])) (fun q' => hb (by simp [q'])) (fun q' => hb (by simp [q'])) (fun q' => hb (by simp [q'])) q) hf⟩
  self := fun A i s Q E st h => iterS_zip st.1 h

theorem callWith_typeK {M : Model} {A : Around} {E : Value → Shared → Prop} {s : Shared} {env : Env} {pos : Pos} {T : String} {e : Expr} {rest : List Expr} {kws : List Keyword} {Q : Value → Shared → Prop}
    (h : wpAny M A (spliced (backTo pos (starEach (e :: rest) env))) (fun vs s₁ => wpAny M A (evalAll ((backToKw pos (keywordEach kws env)).map (·.2)))
      (fun kvs s₂ => wpAny M A (call (.type T) vs (((backToKw pos (keywordEach kws env)).filterMap (·.1)).zip kvs)) Q E s₂) E s₁) E s)
    (he : backTo pos (starEach (e :: rest) env) = (false, eval e env) :: backTo pos (starEach rest env) := by rfl)
    (hplain : (backTo pos (starEach (e :: rest) env)).any (·.1) = false := by rfl)
    (hall : (backToKw pos (keywordEach kws env)).all (·.1.isSome) = true := by rfl)
    (hkw : (backToKw pos (keywordEach kws env)).any (·.1.isNone) = false := by rfl) :
    wpAny M A (callWith pos (.type T) [] (backTo pos (starEach (e :: rest) env)) (backToKw pos (keywordEach kws env))) Q E s := by
  have hq : ((backTo pos (starEach (e :: rest) env)).any (·.1) || (backToKw pos (keywordEach kws env)).any (·.1.isNone)) = false := by rw [hplain, hkw]; rfl
  rw [he] at h hq ⊢
  have g := PyProof.Rows.evalArgs_kwB (f := .type T) (Q := fun a s₁ => wpAny M A (call (.type T) ([] ++ a.pos) a.kw) Q E s₁) hall h
  unfold callWith
  refine wpAny_bind (wpAny_holding (wpAny_mono g (fun a s₁ h₁ => wpAny_bind (wpAny_standAt ?_)) fun _ _ x => x))
  simp only [hq]
  refine wpAny_bind (wpAny_pure ?_)
  exact wpAny_bind (wpAny_mono h₁ (fun r s₂ hr => wpAny_bind (wpAny_holding (wpAny_point (wpAny_pure hr)))) fun _ _ x => x)

def iZipS (K : PySem.W.Frag) (ta : TA) : TI := fun σ H R => ta σ H fun vs H1 => ∃ a b xs ys, vs = [.ref a, .ref b] ∧ SqT K H1 a xs ∧ SqT K H1 b ys ∧ R (ItzS K a b) H1
theorem pi_zipS {X : Cx} {e e2 : Expr} {ta : TA} {p pos tpos kpos : Pos} {jj : Nat} {cpos : Pos} {elts : List Expr} {kk : Nat} (hg : Gl X "zip") (hm : X.mg "zip" = none) (ha : PA X [e, e2] ta)
    (hs : backTo pos (starEach [e, e2] X.env) = (false, eval e X.env) :: backTo pos (starEach [e2] X.env) := by rfl) (hpl : (backTo pos (starEach [e, e2] X.env)).any (·.1) = false := by rfl) :
    PI X (.Tuple elts kk tpos) (.Call (.Name "zip" p) [e, e2] [⟨some (Str.ofString "strict"), .Constant (.bool true) jj cpos, kpos⟩] pos) (iZipS X.K ta) := by
  refine ⟨fun pins s σ H R I h => ?_⟩
  refine wpAny_Call_Name_kw (ld_blt I hg hm PyProof.Rows.boot_zip ?_)
  refine callWith_typeK (thn (ha.run pos pins s σ H _ I h) fun us s1 ⟨vs, H1, I1, r1, q1⟩ => ?_) hs hpl
  have kw : PK X [⟨some (Str.ofString "strict"), .Constant (.bool true) jj cpos, kpos⟩] (tCons (tC (.bl true)) tNil) := pk_cons pe_bl pk_nil
  refine thn (kw.run pos pins s1 σ H1 (fun ws H2 => ws = [.bl true] ∧ H2 = H1) I1 ⟨rfl, rfl⟩) fun ws s2 ⟨zs, H2, I2, r2, ez, eH⟩ => ?_
  subst ez eH
  obtain rfl : ws = [.bool true] := by
    cases r2 with
    | cons r rr =>
      cases rr
      cases r
      rfl
  show wpAny _ _ (call (.type "zip") us kwS) _ _ _
  obtain ⟨a, b, xs, ys, ex, hqx, hqy, q⟩ := q1
  subst ex
  cases r1 with
  | cons r rr =>
    cases rr with
    | cons r' rr =>
      cases rr
      cases r
      cases r'
      have fresh5 : ∀ c, c ∈ [s2.heap.objs.size + 4, s2.heap.objs.size + 2, s2.heap.objs.size + 3, s2.heap.objs.size, s2.heap.objs.size + 1] → FpOk X pins H2 c := fun c hcm => by
        have e' : c = s2.heap.objs.size + 4 ∨ c = s2.heap.objs.size + 2 ∨ c = s2.heap.objs.size + 3 ∨ c = s2.heap.objs.size ∨ c = s2.heap.objs.size + 1 := by simpa using hcm
        have hle : s2.heap.objs.size ≤ c := by
          rcases e' with z | z | z | z | z
          · rw [z]
            exact Nat.le_add_right _ _
          · rw [z]
            exact Nat.le_add_right _ _
          · rw [z]
            exact Nat.le_add_right _ _
          · rw [z]
            exact Nat.le_refl _
          · rw [z]
            exact Nat.le_add_right _ _
        exact I2.fpOk hle (I2.hok.fresh hle)
      obtain ⟨its, rv, p1, _⟩ := I2.tuple hqx
      obtain ⟨its2, rv2, p2, _⟩ := I2.tuple hqy
      obtain ⟨o1, ho1, _⟩ := id p1
      obtain ⟨o2, ho2, _⟩ := id p2
      refine call_zipS (show s2.heap.IsTuple a its.toArray from p1) (show s2.heap.IsTuple b its2.toArray from p2) fun h' hz hTI hTO h1 h2 hsz hk => iterS_zip hz ?_
      have I3 : Inv X pins σ H2 { s2 with heap := h' } := I2.kept (t' := s2.toks) hk
      exact ⟨s2.heap.objs.size + 4, [s2.heap.objs.size + 4, s2.heap.objs.size + 2, s2.heap.objs.size + 3, s2.heap.objs.size, s2.heap.objs.size + 1], _, _, H2, rfl, I3, turn_zipS (PySem.W.ktu_apart s2.heap.objs.size a b (Heap.lt_size ho1) (Heap.lt_size ho2)), ⟨hz, hTI, ⟨_, _, hTO⟩, h1, h2⟩, fresh5, q⟩
end Mt

set_option maxHeartbeats 4000000
/-! a, .., *rest = t, t a tuple -/
namespace Mt
open PySem L2 Evl PyProof.Rows
open PySem.Sem (wp)

theorem Walks.shift {prog : Program} {w : World} {A : Around} {I : Addr} {fp wr : List Addr} {n : Nat} {P : Nat → Value → Prop} {St : Nat → Heap → Prop} (W : Walks prog w A I fp wr n P St) (k : Nat) (hk : k ≤ n) :
    Walks prog w A I fp wr (n - k) (fun i v => P (k + i) v) (fun i h => St (k + i) h) where
  sub := W.sub
  frame := fun i h h' st e => W.frame (k + i) h h' st e
  item := fun i s Q E hi st hQ => W.item (k + i) s Q E (by omega) st fun v h' tk p st' kp => hQ v h' tk p st' kp
  done := fun s Q E st hQ => W.done s Q E (by
    have e : k + (n - k) = n := by omega
    rw [e] at st
    exact st) hQ
  self := fun i s Q E st hQ => W.self (k + i) s Q E st hQ
theorem items_drop {items : Array Value} {k : Nat} {acc : Array Value} (hk : k ≤ items.size) (h : ItemsOf (fun i v => items[k + i]? = some v) acc (items.size - k)) : acc.toList = items.toList.drop k := by
  obtain ⟨h1, h2⟩ := h
  refine List.ext_getElem? fun j => ?_
  rw [List.getElem?_drop]
  by_cases hj : j < acc.size
  · have e1 : acc.toList[j]? = some acc[j] := by simp [hj]
    have e2 := h2 j acc[j] (by simp [hj])
    rw [e1]
    have e3 : items.toList[k + j]? = items[k + j]? := by simp
    rw [e3, e2]
  · rw [List.getElem?_eq_none (by simpa using hj), List.getElem?_eq_none (by rw [Array.length_toList]; omega)]
section
variable {prog : Program} {w : World} {A : Around} {E : Value → Shared → Prop} {s : Shared}
theorem unpack_star {t : Addr} {items : Array Value} {i : Nat} {Q : List Value → Shared → Prop} (hh : A.handled = none) (ht : IsTup s.heap t items) (hi : i ≤ items.size) (hz : items.size ≤ sizeLine)
    (hQ : ∀ (h' : Heap) (tk : Nat), (∀ b o, s.heap.get? b = some o → h'.get? b = some o) →
      Q (items.toList.take i ++ [.ref h'.objs.size]) { s with heap := h'.push { cls := .type "list", data := .seq (items.toList.drop i).toArray }, toks := tk }) : wpAny (model prog w) A (unpackItems (.ref t) (i + 1) (some i)) Q E s := by
  have hlt : t ≠ s.heap.objs.size := by
    obtain ⟨o, ho, _⟩ := ht
    exact Nat.ne_of_lt (Heap.lt_size ho)
  unfold unpackItems
  refine wpAny_bind ?_
  unfold notIterableAtAll
  refine wpAny_bind (wpAny_specialOf ht.typeIs slot_tuple_iter.lookup ?_)
  refine wpAny_pure ?_
  simp only [Bool.false_eq_true, if_false]
  refine wpAny_bind (wpAny_holding (iter_tuple ht ?_))
  refine wpAny_bind (wpAny_holding (draw_tuple hlt i 0 _ _ ⟨_, Heap.get?_push_size _ rfl, rfl, rfl⟩ (ht.push _) (by omega) fun h₁ hit₁ hs₁ => ?_))
  rw [List.drop_zero]
  have hl : (items.toList.take i).length = i := by
    rw [List.length_take, Array.length_toList]
    omega
  rw [if_neg (by rw [hl]; omega)]
  have ht₁ : IsTup h₁ t items := (ht.push _).extBut hs₁.extBut hlt
  rw [Nat.zero_add] at hit₁
  have hit2 : h₁.IsTupleIter s.heap.objs.size t i := hit₁
  have W := (Walks.shift (Walks.tuple (prog := prog) (w := w) (A := A.in1) hh s.heap.objs.size t hlt items) i hi).toS
  have hz1 : h₁.objs.size = s.heap.objs.size + 1 := by rw [hs₁.1, Heap.size_push]
  have htl : t < s.heap.objs.size := by
    obtain ⟨o, ho, _⟩ := ht
    exact Heap.lt_size ho
  refine wpAny_bind (wpAny_holding (wpAny_collect_iter (s := { s with heap := h₁ }) (.inr (.inr (.inr rfl))) W (fun j s' st => st.1.typeIs) ⟨by rw [Nat.add_zero]; exact hit2, ht₁⟩ (fun b hb => ?_) (by simp) (fun s' acc mv io => ?_) (by omega)))
  · show b < h₁.objs.size
    rw [hz1]
    have e' : b = s.heap.objs.size ∨ b = t := by simpa using hb
    rcases e' with z | z
    · rw [z]
      exact Nat.lt_succ_self _
    · rw [z]
      exact Nat.lt_succ_of_lt htl
  · have ea := items_drop hi io
    rw [ea]
    obtain ⟨hp', g', d', tk', os'⟩ := s'
    obtain ⟨m1, m2, m3, m4, m5⟩ := mv
    have m2 : g' = s.gens := m2
    have m3 : d' = s.drawn := m3
    have m4 : os' = s.os := m4
    subst m2 m3 m4
    have hld : (items.toList.drop i).length = items.size - i := by rw [List.length_drop, Array.length_toList]
    rw [if_neg (by omega)]
    have e1 : (items.toList.drop i).length - (i + 1 - 1 - i) = (items.toList.drop i).length := by omega
    rw [e1, List.take_length, List.drop_length]
    refine wpAny_bind (wpAny_newObj_type ?_ (by show (items.toList.drop i).toArray.size ≤ sizeLine; rw [List.size_toArray, hld]; omega))
    refine wpAny_pure ?_
    rw [List.append_nil]
    refine hQ hp' tk' (fun b o e => m1 b o (fun hb => ?_) (hs₁.extBut b o (Nat.ne_of_lt (Heap.lt_size e)) (Heap.get?_push_of_some _ e)))
    have e' : b = s.heap.objs.size := by simpa using hb
    exact absurd (Heap.lt_size e) (by rw [e']; exact Nat.lt_irrefl _)
end
/-- the last target is starred -/
def gStar (K : PySem.W.Frag) (i : Nat) (t : TGs) : TG := fun v σ H Q => ∃ a xs, v = .ref a ∧ SqT K H a xs ∧ i ≤ xs.length ∧ ∀ p, H p = none → t (xs.take i ++ [.ref p]) σ (upd H p (.lst (xs.drop i))) Q
theorem pgs_star {X : Cx} {e : Expr} {sp : Pos} {t : TG} (h1 : PG X e t) (hs : (assignEach [.Starred e sp] X.env).map (·.2) = [assign e X.env] := by rfl) : PGs X [.Starred e sp] (gCons t gNil) := by
  refine ⟨fun pins s σ H vs us Q I r h => ?_⟩
  obtain ⟨v, vr, e1, h⟩ := h
  subst e1
  cases r with
  | cons r rr =>
    rw [hs]
    refine assignInOrder_cons (thn (h1.run pins s σ H _ _ _ I r h) fun _ s1 ⟨σ1, H1, I1, q1⟩ => ?_)
    obtain ⟨ev, q1⟩ := q1
    subst ev
    cases rr
    exact assignInOrder_nil ⟨σ1, H1, I1, q1⟩
theorem pg_star {X : Cx} {pos : Pos} {es : List Expr} {k : Nat} {t : TGs} {i : Nat} (hc : X.calm = true) (h : PGs X es t)
    (hn : (assignEach es X.env).length = i + 1 := by rfl) (hst : (assignEach es X.env).findIdx? (·.1) = some i := by rfl) : PG X (.Tuple es k pos) (gStar X.K i t) := by
  refine ⟨fun pins s σ H v u Q I r hw => ?_⟩
  obtain ⟨a, xs, e1, hq, hl, hw⟩ := hw
  subst e1
  cases r
  obtain ⟨its, rv, ht, hz⟩ := I.tuple hq
  rw [assign_Tuple]
  refine wpAny_bind (wpAny_standAt ?_)
  unfold unpack
  rw [hn, hst]
  have hle : its.length = xs.length := rv.length.symm
  refine wpAny_bind (wpAny_holding (unpack_star (I.ok.hd hc) ht (by rw [List.size_toArray]; omega) (by rw [List.size_toArray, hle]; exact hz) fun h' tk kp => ?_))
  have I1 : Inv X pins σ H { s with heap := h', toks := tk } := I.kept kp
  have hfr : H h'.objs.size = none := I1.hok.fresh (Nat.le_refl _)
  have I2 : Inv X pins σ (upd H h'.objs.size (.lst (xs.drop i))) { s with heap := h'.push { cls := .type "list", data := .seq (its.toArray.toList.drop i).toArray }, toks := tk } :=
    I1.laid (t' := tk) (fun b o e => Heap.get?_push_of_some _ e) (Nat.le_refl _) ⟨by rw [List.length_drop]; omega, its.drop i, 0, rv.drop i, by
      show (h'.push _).get? h'.objs.size = _
      exact Heap.get?_push_size _ rfl⟩
  refine h.run pins _ σ _ _ _ Q I2 ?_ (hw _ hfr)
  show Vals (xs.take i ++ [.ref h'.objs.size]) (its.toArray.toList.take i ++ [.ref h'.objs.size])
  exact (rv.take i).append (.cons rfl .nil)
end Mt

set_option maxHeartbeats 4000000
/-! tuple(list) known to the object; dict(t), t such a tuple of pairs -/
namespace Mt
open PySem L2 Evl PyProof.Rows
open PySem.Sem (wp)
section
variable {X : Cx}
/-- tuple(list): the new tuple is told with its object -/
def rTupF (K : PySem.W.Frag) : List V → Hp → VK → Prop := fun xs H Q => ∃ p ys, xs = [.ref p] ∧ SqL K H p ys ∧ ∀ l o, H l = none → o.dict = none → Q (.ref l) (upd H l (.frz o (.tup ys)))
theorem call_tupF : CallR X (.type "tuple") (rTupF X.K) := by
  intro pins s σ H xs us Q I r h
  obtain ⟨p, ys, rfl, hq, q⟩ := h
  obtain ⟨u, rfl, rx⟩ := vals1 r
  cases rx
  obtain ⟨its, r', pl, hz⟩ := I.list hq
  have hlen := r'.length
  refine call_tuple_list pl.isList (fun h' kp => ?_) (by simp only [List.size_toArray] <;> omega)
  have I1 : Inv X pins σ H { s with heap := h' } := I.kept (t' := s.toks) kp
  have hg : (h'.push { cls := .type "tuple", data := .seq its.toArray }).get? h'.objs.size = some { cls := .type "tuple", data := .seq its.toArray } := Heap.get?_push_size _ rfl
  have I2 : Inv X pins σ (upd H h'.objs.size (.frz { cls := .type "tuple", data := .seq its.toArray } (.tup ys))) { s with heap := h'.push { cls := .type "tuple", data := .seq its.toArray } } :=
    I1.laid (t' := s.toks) (fun b o e => Heap.get?_push_of_some _ e) (Nat.le_refl _) ⟨hg, ⟨hz, its, r', IsTup.new _ _⟩⟩
  exact ⟨.ref h'.objs.size, _, I2, rfl, q _ _ (I1.hok.fresh (Nat.le_refl _)) rfl⟩

theorem pairs_of2 {pins : List (Addr × Obj)} {σ : L2.St} {H : Hp} {s : Shared} (I : L2.Inv X pins σ H s) : ∀ {ps : List Addr} {kvs : List (Key × V)}, Paired (fun p kv => SqT X.K H p [kV kv.1, kv.2]) ps kvs →
    ∃ (prs : List (Key × Value)) (us : List (Value × Value)), KV kvs prs ∧ prs.length = ps.length ∧ us.length = ps.length ∧
      ∀ (j : Nat) (k v : Value), us[j]? = some (k, v) → ∃ (b : Addr) (q : Key), ps[j]? = some b ∧ s.heap.IsTuple b #[k, v] ∧ prs[j]? = some (q, v) ∧ keyIs q k = true
  | _, _, .nil => ⟨[], [], .nil, rfl, rfl, fun j k v e => by simp at e⟩
  | _, _, .cons (a := p) (b := kv) h t => by
    obtain ⟨prs, us, r, hl, hl2, hp⟩ := pairs_of2 I t
    obtain ⟨its, rv, ht, _⟩ := I.tuple h
    obtain ⟨u, y, ei, ru, ry⟩ := vals2 rv
    subst ei
    refine ⟨(kv.1, y) :: prs, (u, y) :: us, .cons ⟨rfl, ry⟩ r, by rw [List.length_cons, List.length_cons, hl], by rw [List.length_cons, List.length_cons, hl2], fun j k v e => ?_⟩
    cases j with
    | zero =>
      have e' : (u, y) = (k, v) := Option.some.inj e
      cases e'
      exact ⟨p, kv.1, rfl, ht, rfl, kV_is (P := X.prog) (w := X.w) ru⟩
    | succ j =>
      obtain ⟨b, q, e1, e2, e3, e4⟩ := hp j k v (by simpa using e)
      exact ⟨b, q, by simpa using e1, e2, by simpa using e3, e4⟩
def rDictF (K : PySem.W.Frag) : List V → Hp → VK → Prop := fun xs H Q => ∃ (a : Addr) (o : Obj) (ps : List Addr) (kvs : List (Key × V)), xs = [.ref a] ∧ H a = some (.frz o (.tup (ps.map V.ref))) ∧ o.dict = none ∧ Paired (fun p kv => SqT K H p [kV kv.1, kv.2]) ps kvs ∧
    ∀ p, H p = none → Q (.ref p) (upd H p (.dK (mergeK [] kvs)))
theorem call_dictF (hcalm : X.calm = true) : CallR X (.type "dict") (rDictF X.K) := by
  intro pins s σ H xs us Q I r q
  obtain ⟨a, o, ps, kvs, ex, hq, hd, hp, q⟩ := q
  subst ex
  obtain ⟨u, eu, rx⟩ := vals1 r
  subst eu
  cases rx
  obtain ⟨ho, hz, its, rv, o', ho', hc, n, hdat⟩ := I.hok a _ hq
  rw [ho] at ho'
  cases ho'
  have ei := refs_at rv
  subst ei
  rw [List.length_map] at hz
  obtain ⟨prs, us, rel, hl, hl2, hpr⟩ := pairs_of2 I hp
  have P := PairArg.tuple (prog := X.prog) (w := X.w) a (ps.map Value.ref).toArray (fun j => ps.getD j 0) us
  refine PySem.call_dict_pairs (knd := mixKind X.prog X.w) (kvs := prs) P (I.ok.hd hcalm) ⟨⟨o, n, ho, hc, hd, hdat⟩, by simp [hl2], fun j k v e => ?_⟩ ⟨by rw [hl, hl2], fun j k v e => ?_⟩ (by rw [hl2]; exact hz) fun h' tk hd' k => ?_
  · obtain ⟨b, q, e1, e2, e3, e4⟩ := hpr j k v e
    have eb : ps.getD j 0 = b := by
      rw [List.getD_eq_getElem?_getD, e1]
      rfl
    exact ⟨by simp [e1], .inl (by show s.heap.IsTuple (ps.getD j 0) _; rw [eb]; exact e2)⟩
  · obtain ⟨b, q, e1, e2, e3, e4⟩ := hpr j k v e
    exact ⟨q, e3, e4⟩
  · have hm : (s.heap.objs.size == sysModules) = false := beq_eq_false_iff_ne.mpr (Nat.ne_of_gt I.big)
    have hlen : (mergeK [] kvs).length ≤ sizeLine := by
      refine Nat.le_trans (length_mergeK kvs []) ?_
      rw [List.length_nil, Nat.zero_add, rel.length, hl]
      exact hz
    have kk : ∀ b o, s.heap.get? b = some o → h'.get? b = some o := fun b o e => k b o (fun z => nomatch z) e
    exact ⟨.ref s.heap.objs.size, upd H s.heap.objs.size (.dK (mergeK [] kvs)), I.laid (t' := tk) kk (Nat.le_refl _) (show ObjOk X.prog X.w _ _ _ (.dK (mergeK [] kvs)) from ⟨hlen, hm, merged [] prs, KV.merge rel .nil, hd'⟩), rfl, q _ (I.hok.fresh (Nat.le_refl _))⟩
end
end Mt

set_option maxHeartbeats 4000000
/-! {k: v for t0 in i0 if .. for t1 in i1 if ..} -/
namespace Mt
open PySem L2 Evl PySem.Spec
abbrev dcx (kx vx t0 i0 t1 i1 : Expr) (f0 f1 : List Expr) (sc : Scope) (pos : Pos) : Expr := .DictComp kx vx [⟨t0, i0, f0, 0⟩, ⟨t1, i1, f1, 0⟩] sc pos
theorem dcx_out (kx vx t0 i0 t1 i1 : Expr) (f0 f1 : List Expr) (sc : Scope) (pos : Pos) (it acc : Value) (env : Env) :
    compTurn (dcx kx vx t0 i0 t1 i1 f0 f1 sc pos) 0 it acc env = (do
      standAt i0.pos
      match ← pyNext it with
      | none => pure (.done .next)
      | some v =>
        letOwnedTupleGo t0 it v
        assign t0 env v
        let mut ok := true
        for c in f0 do
          if ok then ok ← isTrue c env (eval c env)
        if ok then
          let x ← eval i1 env
          standAt i1.pos
          let x ← foldedSetIterable i1 env x
          let _ ← runOwn (.compStart (dcx kx vx t0 i0 t1 i1 f0 f1 sc pos) 1 (← holding [x] (pyIter x)) acc env) env
        again (.compLoop (dcx kx vx t0 i0 t1 i1 f0 f1 sc pos) 0 it acc env)) := by rfl
theorem dcx_in (kx vx t0 i0 t1 i1 : Expr) (f0 f1 : List Expr) (sc : Scope) (pos : Pos) (it : Value) (D : Addr) (env : Env) :
    compTurn (dcx kx vx t0 i0 t1 i1 f0 f1 sc pos) 1 it (.ref D) env = (do
      standAt i1.pos
      match ← pyNext it with
      | none => pure (.done .next)
      | some v =>
        letOwnedTupleGo t1 it v
        assign t1 env v
        let mut ok := true
        for c in f1 do
          if ok then ok ← isTrue c env (eval c env)
        if ok then
          (do
            let kv ← eval kx env
            let vv ← holding [kv] (eval vx env)
            standAt { kx.pos with endLine := vx.pos.endLine, endCol := vx.pos.endCol }
            holding [kv, vv] (dictSet D kv vv))
        again (.compLoop (dcx kx vx t0 i0 t1 i1 f0 f1 sc pos) 1 it (.ref D) env)) := by rfl
abbrev NB (M : Model) (A : Around) (env : Env) (R : Result → Shared → Prop) : Value → Shared → Prop := notedBy M A env fun e s' => R (.error e) s'
abbrev wn {α : Type} (prog : Program) (w : World) (A : Around) (env : Env) (R : Result → Shared → Prop) (t : Sem α) (Q : α → Shared → Prop) (s : Shared) : Prop := wpAny (model prog w) A t Q (NB (model prog w) A env R) s
abbrev tests (fs : List Expr) (env : Env) : Sem Bool := forIn fs true fun c r => if r = true then do let ok ← isTrue c env (eval c env); pure (ForInStep.yield ok) else pure (ForInStep.yield r)
section
variable {prog : Program} {w : World} {A : Around} {R : Result → Shared → Prop} {s : Shared} {kx vx t0 i0 t1 i1 : Expr} {f0 f1 : List Expr} {sc : Scope} {pos : Pos} {it acc : Value} {D : Addr} {env : Env}
theorem dcx_loop0 (hs : ∀ x, foldedSetIterable i1 env x = pure x) (I : Nat → Shared → Prop)
    (turn : ∀ n s, I n s → wn prog w A env R (pyNext it) ((fun r s₁ => match r with
      | none => R (.ok .next) s₁
      | some v => wn prog w A env R (letOwnedTupleGo t0 it v) ((fun _ s₂ => wn prog w A env R (assign t0 env v) ((fun _ s₃ => wn prog w A env R (tests f0 env) ((fun ok s₄ =>
            if ok = true then wn prog w A env R (eval i1 env) ((fun x s₅ => wn prog w A env R (pyIter x) ((fun it1 s₆ =>
              codeAny (model prog w) A (.compStart (dcx kx vx t0 i0 t1 i1 f0 f1 sc pos) 1 it1 acc env) (fun r s' => match r with
                | .ok _ => ∃ m, m < n ∧ I m s'
                | .error _ => False) s₆)) s₅)) s₄
            else ∃ m, m < n ∧ I m s₄)) s₃)) s₂)) s₁)) s)
    (n : Nat) (h : I n s) : codeAny (model prog w) A (.compLoop (dcx kx vx t0 i0 t1 i1 f0 f1 sc pos) 0 it acc env) R s := by
  refine codeAny_loop rfl I (fun n s hI => ?_) n h
  show wpAny _ A ((compTurn (dcx kx vx t0 i0 t1 i1 f0 f1 sc pos) 0 it acc env).onRaise (fun x => do noteFrame x env; theTreesLotGoes x)) _ _ s
  refine wpAny_noted ?_
  rw [dcx_out]
  refine wpAny_bind (wpAny_standAt (wpAny_bind (wpAny_mono (turn n s hI) (fun r sa ha => ?_) fun _ _ z => z)))
  match r, ha with
  | none, ha => exact wpAny_pure ha
  | some v, ha =>
    refine wpAny_bind (wpAny_mono ha (fun _ sb hb => ?_) fun _ _ z => z)
    refine wpAny_bind (wpAny_mono hb (fun _ sd hd => wpAny_bind (wpAny_mono hd (fun ok se he => ?_) fun _ _ z => z)) fun _ _ z => z)
    match ok, he with
    | false, he => exact wpAny_pure ⟨rfl, he⟩
    | true, he =>
      refine wpAny_bind (wpAny_mono he (fun x sf hf => ?_) fun _ _ z => z)
      refine wpAny_bind (wpAny_standAt (wpAny_bind (wpAny_of_eq (hs x) (wpAny_bind (wpAny_holding (wpAny_mono hf (fun it1 sg hg => ?_) fun _ _ z => z))))))
      refine wpAny_bind (wpAny_runOwn ?_)
      rw [Around.mark_none]
      refine codeAny_mono hg fun r s' hr => ?_
      match r, hr with
      | .ok f, hr =>
        first
          | exact wpAny_pure ⟨rfl, hr⟩
          | exact wpAny_bind (wpAny_pure (wpAny_pure ⟨rfl, hr⟩))
      | .error e, hr => exact hr.elim
theorem dcx_loop1 (I : Nat → Shared → Prop)
    (turn : ∀ n s, I n s → wn prog w A env R (pyNext it) ((fun r s₁ => match r with
      | none => R (.ok .next) s₁
      | some v => wn prog w A env R (letOwnedTupleGo t1 it v) ((fun _ s₂ => wn prog w A env R (assign t1 env v) ((fun _ s₃ => wn prog w A env R (tests f1 env) ((fun ok s₄ =>
            if ok = true then wn prog w A env R (eval kx env) ((fun kv s₅ => wn prog w A env R (eval vx env) ((fun vv s₆ => wn prog w A env R (dictSet D kv vv) ((fun _ s₇ => ∃ m, m < n ∧ I m s₇)) s₆)) s₅)) s₄
            else ∃ m, m < n ∧ I m s₄)) s₃)) s₂)) s₁)) s)
    (n : Nat) (h : I n s) : codeAny (model prog w) A (.compLoop (dcx kx vx t0 i0 t1 i1 f0 f1 sc pos) 1 it (.ref D) env) R s := by
  refine codeAny_loop rfl I (fun n s hI => ?_) n h
  show wpAny _ A ((compTurn (dcx kx vx t0 i0 t1 i1 f0 f1 sc pos) 1 it (.ref D) env).onRaise (fun x => do noteFrame x env; theTreesLotGoes x)) _ _ s
  refine wpAny_noted ?_
  rw [dcx_in]
  refine wpAny_bind (wpAny_standAt (wpAny_bind (wpAny_mono (turn n s hI) (fun r sa ha => ?_) fun _ _ z => z)))
  match r, ha with
  | none, ha => exact wpAny_pure ha
  | some v, ha =>
    refine wpAny_bind (wpAny_mono ha (fun _ sb hb => ?_) fun _ _ z => z)
    refine wpAny_bind (wpAny_mono hb (fun _ sd hd => wpAny_bind (wpAny_mono hd (fun ok se he => ?_) fun _ _ z => z)) fun _ _ z => z)
    match ok, he with
    | false, he => exact wpAny_pure ⟨rfl, he⟩
    | true, he =>
      refine wpAny_bind (wpAny_bind (wpAny_mono he (fun kv sf hf => ?_) fun _ _ z => z))
      refine wpAny_bind (wpAny_holding (wpAny_mono hf (fun vv sg hg => ?_) fun _ _ z => z))
      exact wpAny_bind (wpAny_standAt (wpAny_holding (wpAny_mono hg (fun _ sh hh => wpAny_pure ⟨rfl, hh⟩) fun _ _ z => z)))
theorem dcx_start1 (h0 : codeAny (model prog w) A (.compLoop (dcx kx vx t0 i0 t1 i1 f0 f1 sc pos) 1 it acc env) R s)
    (h : wn prog w A env R (pyIter it) ((fun it' s' => codeAny (model prog w) A (.compLoop (dcx kx vx t0 i0 t1 i1 f0 f1 sc pos) 1 it' acc env) R s')) s) :
    codeAny (model prog w) A (.compStart (dcx kx vx t0 i0 t1 i1 f0 f1 sc pos) 1 it acc env) R s := by
  refine codeAny_of_tree ?_
  show wpAny _ _ ((compStart (dcx kx vx t0 i0 t1 i1 f0 f1 sc pos) 1 it acc env).onRaise (fun x => do noteFrame x env; standAt theWindowsPlace)) _ _ s
  refine wpAny_notedAt ?_
  unfold compStart
  show wpAny _ _ (ask >>= _) _ _ s
  refine wpAny_bind (wpAny_askSetting (wpAny_ite ?_))
  split
  · first
      | exact wpAny_bind (wpAny_pure (wpAny_pure (And.intro rfl h0)))
      | exact wpAny_pure (And.intro rfl h0)
  · refine wpAny_bind (wpAny_rule ?_)
    first
      | exact wpAny_bind (wpAny_standAt (wpAny_bind (wpAny_mono h (fun it' s' h' => wpAny_pure (And.intro rfl h')) fun _ _ x => x)))
      | (show wpAny _ _ (standAt i1.pos >>= _) _ _ s; exact wpAny_bind (wpAny_standAt (wpAny_bind (wpAny_mono h (fun it' s' h' => wpAny_pure (And.intro rfl h')) fun _ _ x => x))))
end
section
variable {X : Cx}
/-- D is the new dict; behind the first clause the second source's own loop, from which Nx is reached -/
def tDc2 (wi : TI) (g : TG) (tt : TT) (wi1 : TI) (g1 : TG) (tt1 : TT) (tk tv : TE) (vs vs1 : List Nat) : TE := fun σ H Q => wi σ H fun J H1 => ∀ D, H1 D = none → ∃ W : Nat → Nat → Hp → Prop, (∃ m, W 0 m (upd H1 D (.dK []))) ∧ ∀ i m H, W i m H →
  (J.stop i H ∧ Q (.ref D) H) ∨ (J.go i H ∧ ∃ Nx : Hp → Prop, (∀ H', Nx H' → ∃ m', m' < m ∧ W (i + 1) m' H') ∧ ∀ x H', J.yld i H x H' → g x (wipe σ vs) H' fun σ2 H2 => wipe σ2 vs = wipe σ vs ∧ tt σ2 H2 fun b H3 =>
    if b = true then wi1 σ2 H3 fun J1 H4 => ∃ W1 : Nat → Nat → Hp → Prop, (∃ m, W1 0 m H4) ∧ ∀ j k H, W1 j k H →
      (J1.stop j H ∧ Nx H) ∨ (J1.go j H ∧ ∃ Nx1 : Hp → Prop, (∀ H', Nx1 H' → ∃ k', k' < k ∧ W1 (j + 1) k' H') ∧ ∀ x H', J1.yld j H x H' → g1 x (wipe σ2 vs1) H' fun σ3 H5 => wipe σ3 vs1 = wipe σ2 vs1 ∧ tt1 σ3 H5 fun b H6 =>
        if b = true then tk σ3 H6 fun y H7 => tv σ3 H7 fun z H8 => ∃ kvs q, y = kV q ∧ H8 D = some (.dK kvs) ∧ kvs.length < sizeLine ∧ Nx1 (upd H8 D (.dK (putK kvs q z))) else Nx1 H6)
    else Nx H3)
abbrev Blk (X : Cx) (sc : Scope) (s : Shared) (H : Hp) (C : Addr) (cl : List (Str × Addr)) (fp : List Addr) : Cx := X.blk s H sc (compEnvC sc cl C X.env) fp
theorem pe_dc2 {kx vx tg iter tg1 iter1 : Expr} {ifs ifs1 : List Expr} {sc : Scope} {own : List (Str × Nat)} {vs1 : List Nat} {pos : Pos} {wi wi1 : TI} {g g1 : TG} {tt tt1 : TT} {tk tv : TE} (hc : X.calm = true) (hN : X.N.Nodup) (hi : PI X tg iter wi) (ok : BlkOk X.N X.env.scope sc own) (hv : ∀ i ∈ vs1, i ∈ own.map (·.2))
    (hg : ∀ s H C cl fp, PG (Blk X sc s H C cl fp) tg g) (ht : ∀ s H C cl fp, PTs (Blk X sc s H C cl fp) ifs tt)
    (hi1 : ∀ s H C cl fp, PI (Blk X sc s H C cl fp) tg1 iter1 wi1)
    (hg1 : ∀ s H C cl fp, PG (Blk X sc s H C cl fp) tg1 g1) (ht1 : ∀ s H C cl fp, PTs (Blk X sc s H C cl fp) ifs1 tt1)
    (hk : ∀ s H C cl fp, PE (Blk X sc s H C cl fp) kx tk) (he : ∀ s H C cl fp, PE (Blk X sc s H C cl fp) vx tv)
    (hs : ∀ x, foldedSetIterable iter X.env x = pure x := by intro _; rfl) (hs1 : ∀ env x, foldedSetIterable iter1 env x = pure x := by intro _ _; rfl) :
    PE X (.DictComp kx vx [⟨tg, iter, ifs, 0⟩, ⟨tg1, iter1, ifs1, 0⟩] sc pos) (tDc2 wi g tt wi1 g1 tt1 tk tv (own.map (·.2)) vs1) := by
  refine ⟨fun pins s σ H Q I h => ?_⟩
  rw [arm_eval_DictComp]
  have hfree : ∀ y ∈ sc.names, y.2 = .free → ∃ c, X.env.cells.lookup y.1 = some c := fun y hy e =>
    (ok.free y hy e).elim (fun k => I.ok.has _ (.inl k)) fun k => I.ok.has _ (.inr k)
  refine wpAny_comprehension_free rfl hs (closure_ok hfree) ok.kind (fun y hy e => by rw [ok.uniq y hy, e]) (thn (hi.run pins s σ H _ I h) fun xv s1 hx => thn hx fun itv s2 h2 => ?_)
  obtain ⟨it, fp, tn, J, H2, e, I2, T, st2, f2, q⟩ := h2
  subst e
  refine wpAny_newObj_type (newEnv_comp ?_)
  generalize hD : s2.heap.objs.size = D
  have hDn : H2 D = none := I2.hok.fresh (Nat.le_of_eq hD)
  obtain ⟨W, ⟨m0, w0⟩, turn⟩ := q D hDn
  -- the new dict
  generalize hs3 : ({ s2 with heap := s2.heap.push { cls := .type "dict", data := .dict #[] } } : Shared) = s3
  have h3 : s3.heap = s2.heap.push { cls := .type "dict", data := .dict #[] } := by rw [← hs3]
  have I3 : Inv X pins σ (upd H2 D (.dK [])) s3 := by
    rw [← hs3]
    refine I2.laid (t' := s2.toks) (fun b o e => Heap.get?_push_of_some _ e) (Nat.le_of_eq hD) ?_
    rw [← hD]
    exact dk_empty s2.heap I2.big
  have sz : ∀ b ∈ fp, b < s2.heap.objs.size := fun b hb => let ⟨_, e, _⟩ := T.obj _ _ st2 b hb; Heap.lt_size e
  have f3 : ∀ b ∈ fp, FpOk X pins (upd H2 D (.dK [])) b ∧ b < s3.heap.objs.size := fun b hb => by
    have hlt := sz b hb
    have hne : b ≠ D := by rw [← hD]; exact Nat.ne_of_lt hlt
    exact ⟨⟨(upd_ne hne).trans (f2 b hb).1, (f2 b hb).2⟩, by rw [h3, Heap.size_push]; exact Nat.lt_succ_of_lt hlt⟩
  have st3 : tn 0 s3.heap := T.keep _ _ _ st2 fun b _ o e => by rw [h3]; exact Heap.get?_push_of_some _ e
  have I4 := block_start I3 ok hN f3
  generalize hcl : cellsFrom (s3.heap.objs.size + 1) sc.names (cloFrom X.env.cells sc.names []) = cl at I4
  have pg : PG (X.blk s3 (upd H2 D (.dK [])) sc (compEnvC sc cl s3.heap.objs.size X.env) fp) tg g := hg s3 (upd H2 D (.dK [])) s3.heap.objs.size cl fp
  have pt : PTs (X.blk s3 (upd H2 D (.dK [])) sc (compEnvC sc cl s3.heap.objs.size X.env) fp) ifs tt := ht s3 (upd H2 D (.dK [])) s3.heap.objs.size cl fp
  have pk : PE (X.blk s3 (upd H2 D (.dK [])) sc (compEnvC sc cl s3.heap.objs.size X.env) fp) kx tk := hk s3 (upd H2 D (.dK [])) s3.heap.objs.size cl fp
  have pe : PE (X.blk s3 (upd H2 D (.dK [])) sc (compEnvC sc cl s3.heap.objs.size X.env) fp) vx tv := he s3 (upd H2 D (.dK [])) s3.heap.objs.size cl fp
  have pi1 : PI (X.blk s3 (upd H2 D (.dK [])) sc (compEnvC sc cl s3.heap.objs.size X.env) fp) tg1 iter1 wi1 := hi1 s3 (upd H2 D (.dK [])) s3.heap.objs.size cl fp
  have pg1 : PG (X.blk s3 (upd H2 D (.dK [])) sc (compEnvC sc cl s3.heap.objs.size X.env) fp) tg1 g1 := hg1 s3 (upd H2 D (.dK [])) s3.heap.objs.size cl fp
  have pt1 : PTs (X.blk s3 (upd H2 D (.dK [])) sc (compEnvC sc cl s3.heap.objs.size X.env) fp) ifs1 tt1 := ht1 s3 (upd H2 D (.dK [])) s3.heap.objs.size cl fp
  generalize hPost : compPost (model X.prog X.w) X.A X.xe none (EP X pins σ Q) (.ref D) s3.heap.objs.size = Po
  have goal : codeAny (model X.prog X.w) X.A (.compStart (dcx kx vx tg iter tg1 iter1 ifs ifs1 sc pos) 0 (.ref it) (.ref D) (compEnvC sc cl s3.heap.objs.size X.env)) Po { s3 with heap := pushCells (s3.heap.push { cls := .type "dict", data := .dict #[] }) sc.names } := by
    have nfp : ∀ b ∈ fp, (upd H2 D (.dK [])) b = none := fun b hb => (f3 b hb).1.1
    generalize hce : compEnvC sc cl s3.heap.objs.size X.env = ce at I4 pg pt pk pe pi1 pg1 pt1 ⊢
    have cL : ce.locals = s3.heap.objs.size := by
      subst hce
      rfl
    generalize hH3 : upd H2 D (.dK []) = H3 at I3 I4 pg pt pk pe pi1 pg1 pt1 w0 nfp f3
    generalize hs4 : ({ s3 with heap := pushCells (s3.heap.push { cls := .type "dict", data := .dict #[] }) sc.names } : Shared) = s4 at I4 ⊢
    generalize hY : X.blk s3 H3 sc ce fp = Y at I4 pg pt pk pe pi1 pg1 pt1
    have yA : Y.A = X.A := by rw [← hY]
    have yp : Y.prog = X.prog := by rw [← hY]
    have yw : Y.w = X.w := by rw [← hY]
    have yK : Y.K = X.K := by rw [← hY]
    have yc : Y.calm = true := by rw [← hY]; exact hc
    have ye : Y.env = ce := by rw [← hY]
    have yx : Y.xe = fun _ _ => False := by rw [← hY]
    generalize hvs : own.map (·.2) = vs at *
    have st4 : tn 0 s4.heap := T.keep _ _ _ st3 fun b _ o e => by rw [← hs4]; exact pushCells_keeps _ _ _ _ (Heap.get?_push_of_some _ e)
    have stat : ∀ {σ' : L2.St} {H' : Hp} {s' : Shared}, L2.Inv Y [] σ' H' s' → (∀ b ∈ fp, H' b = none) → ∀ b ∈ fp, FpOk Y [] H' b := fun {σ' H' s'} I' hn b hb => by
      subst hY
      exact ⟨hn b hb, (I'.ok.exf b hb).1, I'.ok.exfs b hb, .inl hb, fun x c e => (I'.ok.exf b hb).2 x c e, fun p hp => absurd (show p ∈ ([] : List (Addr × Obj)) ++ [] from hp) (by simp)⟩
    have back : ∀ {H5 : Hp} {s6 : Shared}, L2.Inv Y [] (wipe σ vs) H5 s6 → Q (.ref D) H5 → Po (.ok .next) s6 := fun {H5 s6} I6 qq => by
      subst hY
      have I7 : L2.Inv X pins σ H5 s6 := I3.call' (ch := fp) I6.os I6.base I6.hok I6.bare fun b hb => ⟨(f3 b hb).1.2.2.2.1, (f3 b hb).1.2.1, (f3 b hb).1.2.2.2.2.1, (f3 b hb).1.2.2.2.2.2⟩
      have nC : H5 s3.heap.objs.size = none := by
        have z : H5 ce.locals = none := I6.free
        rw [cL] at z
        exact z
      obtain ⟨m, hn, _⟩ := I6.loc
      have hn : s6.heap.Ns ce.locals m := hn
      rw [cL] at hn
      obtain ⟨z0, z1, z2, z3, z4, z5⟩ := I3.fpOk (Nat.le_refl _) nC
      rw [← hPost]
      exact ⟨m, hn, fun h'' sb => ⟨.ref D, H5, I7.turned (t' := s6.toks) (fun b o hb e => (sb.2 b hb).trans e) z0 z1 z3 z4 z5, rfl, qq⟩⟩
    have loop : codeAny (model X.prog X.w) X.A (.compLoop (dcx kx vx tg iter tg1 iter1 ifs ifs1 sc pos) 0 (.ref it) (.ref D) ce) Po s4 := by
      refine dcx_loop0 (hs1 ce) (fun n s' => ∃ i H', L2.Inv Y [] (wipe σ vs) H' s' ∧ tn i s'.heap ∧ (∀ b ∈ fp, H' b = none) ∧ W i n H') ?_ m0 ⟨0, H3, I4, st4, nfp, w0⟩
      rintro n s5 ⟨i, H5, I5, st5, n5, w5⟩
      rcases turn i n H5 w5 with ⟨stop, qq⟩ | ⟨go, Nx, hNx, step⟩
      · have td := T.done Y yp yw yK yc i [] s5 _ H5 (fun _ _ => False) I5 (stat I5 n5) st5 stop
        rw [yA] at td
        refine thnF td fun r s6 ⟨hr, I6⟩ => ?_
        subst hr
        exact back I6 qq
      · have ti := T.item Y yp yw yK yc i [] s5 _ H5 (fun _ _ => False) I5 (stat I5 n5) st5 go
        rw [yA] at ti
        refine thnF ti fun r s6 ⟨u, hr, h6⟩ => ?_
        subst hr
        refine thnF h6 fun _ s7 ⟨x, H7, I7, r7, y7, st7, n7⟩ => ?_
        have I7' := I7.pinned (stat I7 n7) (T.obj _ _ st7)
        have rg := pg.run _ s7 _ H7 x u _ I7' r7 (step x H7 y7)
        rw [yp, yw, yA, ye, yx] at rg
        refine thnF rg fun _ s8 ⟨σ8, H8, I8, hw8, q8⟩ => ?_
        have rt := pt.run _ s8 σ8 H8 _ I8 q8
        rw [yp, yw, yA, ye, yx] at rt
        refine thnF rt fun b s9 ⟨H9, I9, q9⟩ => ?_
        have fin : ∀ {σ9 : L2.St} {s' : Shared} {H' : Hp}, L2.Inv Y ([] ++ pinsAt fp s7.heap) σ9 H' s' → (wipe σ vs).length = σ9.length → (∀ (j : Nat) v, (wipe σ vs)[j]? = some (some v) → σ9[j]? = some (some v)) → Nx H' →
            ∃ m, m < n ∧ ∃ i H', L2.Inv Y [] (wipe σ vs) H' s' ∧ tn i s'.heap ∧ (∀ b ∈ fp, H' b = none) ∧ W i m H' := fun {σ9 s' H'} I' hl hkk nx => by
          obtain ⟨m', hm, w'⟩ := hNx H' nx
          have pin' : ∀ b ∈ fp, ∀ o, s7.heap.get? b = some o → s'.heap.get? b = some o ∧ H' b = none := fun b hb o e =>
            have z := I'.pin (b, o) (List.mem_append_right _ (List.mem_append_right _ (mem_pinsAt hb e)))
            ⟨z.1, z.2.1⟩
          refine ⟨m', hm, i + 1, H', (I'.unpinned (pins := [])).weak hl hkk, T.keep _ _ _ st7 fun b hb o e => (pin' b hb o e).1, fun b hb => ?_, w'⟩
          obtain ⟨o, e, _⟩ := T.obj _ _ st7 b hb
          exact (pin' b hb o e).2
        have hl8 : (wipe σ vs).length = σ8.length := by rw [← hw8, wipe_length]
        have hk8 : ∀ (j : Nat) v, (wipe σ vs)[j]? = some (some v) → σ8[j]? = some (some v) := fun j v e => (wipe_some (show (wipe σ8 vs)[j]? = some (some v) by rw [hw8]; exact e)).1
        have hk9 : ∀ (j : Nat) v, (wipe σ vs)[j]? = some (some v) → (wipe σ8 vs1)[j]? = some (some v) := fun j v e => by
          obtain ⟨e1, e2⟩ := wipe_some (show (wipe σ8 vs)[j]? = some (some v) by rw [hw8]; exact e)
          rw [wipe_out fun z => e2 (hv j z)]
          exact e1
        match b, q9 with
        | false, q9 => exact fin I9 hl8 hk8 q9
        | true, q9 =>
          have ri := pi1.run _ s9 σ8 H9 _ I9 q9
          rw [yp, yw, yA, ye, yx] at ri
          refine thnF ri fun xv s10 hx => thnF hx fun itv s11 h11 => ?_
          obtain ⟨it1, fp1, tn1, J1, H11, e1, I11, T1, st11, f11, W1, ⟨m1, w1⟩, turn1⟩ := h11
          subst e1
          rw [yp, yw, yK] at T1
          have stat1 : ∀ {H' : Hp}, (∀ b ∈ fp1, H' b = none) → ∀ b ∈ fp1, FpOk Y ([] ++ pinsAt fp s7.heap) H' b := fun hn b hb => ⟨hn b hb, (f11 b hb).2⟩
          have loop1 : codeAny (model X.prog X.w) X.A (.compLoop (dcx kx vx tg iter tg1 iter1 ifs ifs1 sc pos) 1 (.ref it1) (.ref D) ce)
              (fun r s' => match r with
                | .ok _ => ∃ m, m < n ∧ ∃ i H', L2.Inv Y [] (wipe σ vs) H' s' ∧ tn i s'.heap ∧ (∀ b ∈ fp, H' b = none) ∧ W i m H'
                | .error _ => False) s11 := by
            refine dcx_loop1 (fun k s' => ∃ j H', L2.Inv Y ([] ++ pinsAt fp s7.heap) (wipe σ8 vs1) H' s' ∧ tn1 j s'.heap ∧ (∀ b ∈ fp1, H' b = none) ∧ W1 j k H') ?_ m1 ⟨0, H11, I11.weak (wipe_length _ _) (fun j v e => (wipe_some e).1), st11, fun b hb => (f11 b hb).1, w1⟩
            rintro k s12 ⟨j, H12, I12, st12, n12, w12⟩
            rcases turn1 j k H12 w12 with ⟨stop1, nx1⟩ | ⟨go1, Nx1, hNx1, step1⟩
            · have td := T1.done Y yp yw yK yc j _ s12 (wipe σ8 vs1) H12 (fun _ _ => False) I12 (stat1 n12) st12 stop1
              rw [yA] at td
              refine thnF td fun r s13 ⟨hr, I13⟩ => ?_
              subst hr
              exact fin I13 (hl8.trans (wipe_length σ8 vs1).symm) hk9 nx1
            · have ti := T1.item Y yp yw yK yc j _ s12 (wipe σ8 vs1) H12 (fun _ _ => False) I12 (stat1 n12) st12 go1
              rw [yA] at ti
              refine thnF ti fun r s13 ⟨u1, hr, h13⟩ => ?_
              subst hr
              refine thnF h13 fun _ s14 ⟨x1, H14, I14, r14, y14, st14, n14⟩ => ?_
              have I14' := I14.pinned (stat1 n14) (T1.obj _ _ st14)
              have rg1 := pg1.run _ s14 (wipe σ8 vs1) H14 x1 u1 _ I14' r14 (step1 x1 H14 y14)
              rw [yp, yw, yA, ye, yx] at rg1
              refine thnF rg1 fun _ s15 ⟨σ15, H15, I15, hw15, q15⟩ => ?_
              have rt1 := pt1.run _ s15 σ15 H15 _ I15 q15
              rw [yp, yw, yA, ye, yx] at rt1
              refine thnF rt1 fun b1 s16 ⟨H16, I16, q16⟩ => ?_
              have fin1 : ∀ {s' : Shared} {H' : Hp}, L2.Inv Y (([] ++ pinsAt fp s7.heap) ++ pinsAt fp1 s14.heap) σ15 H' s' → Nx1 H' → ∃ m, m < k ∧ ∃ j H', L2.Inv Y ([] ++ pinsAt fp s7.heap) (wipe σ8 vs1) H' s' ∧ tn1 j s'.heap ∧ (∀ b ∈ fp1, H' b = none) ∧ W1 j m H' := fun {s' H'} I' nx => by
                obtain ⟨m', hm, w'⟩ := hNx1 H' nx
                have pin' : ∀ b ∈ fp1, ∀ o, s14.heap.get? b = some o → s'.heap.get? b = some o ∧ H' b = none := fun b hb o e =>
                  have z := I'.pin (b, o) (List.mem_append_right _ (List.mem_append_right _ (mem_pinsAt hb e)))
                  ⟨z.1, z.2.1⟩
                refine ⟨m', hm, j + 1, H', I'.unpinned.weak (by rw [← hw15, wipe_length]) (fun j v e => (wipe_some (show (wipe σ15 vs1)[j]? = some (some v) by rw [hw15]; exact e)).1), T1.keep _ _ _ st14 fun b hb o e => (pin' b hb o e).1, fun b hb => ?_, w'⟩
                obtain ⟨o, e, _⟩ := T1.obj _ _ st14 b hb
                exact (pin' b hb o e).2
              match b1, q16 with
              | false, q16 => exact fin1 I16 q16
              | true, q16 =>
                have rk := pk.run _ s16 σ15 H16 _ I16 q16
                rw [yp, yw, yA, ye, yx] at rk
                refine thnF rk fun kv s17 ⟨yk, H17, I17, r17, q17⟩ => ?_
                have re := pe.run _ s17 σ15 H17 _ I17 q17
                rw [yp, yw, yA, ye, yx] at re
                refine thnF re fun vv s18 ⟨yv, H18, I18, r18, kvs, kq, ek, hD18, hz18, nx⟩ => ?_
                subst ek
                have ds := d_dictSet (E := NB (model X.prog X.w) X.A ce (fun r s' => match r with
                  | .ok _ => ∃ m, m < n ∧ ∃ i H', L2.Inv Y [] (wipe σ vs) H' s' ∧ tn i s'.heap ∧ (∀ b ∈ fp, H' b = none) ∧ W i m H'
                  | .error _ => False)) (Q := fun _ s₇ => ∃ m, m < k ∧ ∃ j H', L2.Inv Y ([] ++ pinsAt fp s7.heap) (wipe σ8 vs1) H' s₇ ∧ tn1 j s₇.heap ∧ (∀ b ∈ fp1, H' b = none) ∧ W1 j m H') I18 hD18 hz18 r17 r18 fun s19 I19 => fin1 I19 nx
                rw [yp, yw, yA] at ds
                exact ds
          exact dcx_start1 loop1 (T1.self X.A 0 _ _ _ st11 loop1)
    exact codeAny_compStart_dict loop (T.self X.A 0 _ _ _ st4 loop)
  subst hcl
  rw [← hPost] at goal
  exact goal
end
end Mt

set_option maxHeartbeats 4000000
/-! {t: v}, t a tuple -/
namespace Mt
open PySem L2 Evl
section
variable {X : Cx}
def tDispT (tk tv : TE) : TE := fun σ H Q => ∀ p, H p = none → tPairs [(tk, tv)] σ (upd H p (.dT [])) fun ps H2 => H2 p = some (.dT []) ∧ ∃ (k : List Key) (b : Addr) (z : V), ps = [(.ref b, z)] ∧ H2 b = some (.tup (k.map kV)) ∧ Q (.ref p) (upd H2 p (.dT [(k, z)]))
theorem pe_dispT {k v : Expr} {pos : Pos} {tk tv : TE} (hu : X.A.units + 1 < cLine) (hk : PE X k tk) (hv : PE X v tv) : PE X (.Dict [some k] [v] pos) (tDispT tk tv) := by
  refine ⟨fun pins s σ H Q I q => ?_⟩
  have hn := I.hok.fresh (Nat.le_refl s.heap.objs.size)
  have I1 := I.laid (a := s.heap.objs.size) (o := .dT []) (h' := s.heap.push { cls := .type "dict", data := .dict #[] }) (t' := s.toks) (fun _ _ q => Heap.get?_push_of_some _ q) (Nat.le_refl _) (dt_empty s.heap I.big)
  have hp : PPs X pos [some k] [v] [(tk, tv)] := pps_cons hk hv pps_nil
  have len : (pairTrees [some k] [v] X.env pos).length = 1 := pairTrees_length [some k] [v] X.env pos rfl rfl
  have ne : pairTrees [some k] [v] X.env pos ≠ [] := fun z => by rw [z] at len; cases len
  rw [arm_eval_Dict, zip_pairTrees [some k] [v] X.env pos rfl rfl, dictDisplay_pairs _ ne (by rw [len]; decide)]
  refine wpAny_bind (wpAny_standAt (wpAny_bind (wpAny_subDictH (knd := tupleKind (mixKind X.prog X.w)) (by show X.A.units < cLine; omega) (by rw [len]; decide) ?_)))
  have q0 := q _ hn
  refine thn (hp.run pins _ σ _ (fun ps H2 => H2 s.heap.objs.size = some (.dT []) ∧ ∃ (k : List Key) (b : Addr) (z : V), ps = [(.ref b, z)] ∧ H2 b = some (.tup (k.map kV)) ∧ Q (.ref s.heap.objs.size) (upd H2 s.heap.objs.size (.dT [(k, z)]))) I1 q0) fun ws s2 ⟨ps, H2, I2, rel, e, kk, b, z, ep, eb, q2⟩ => ?_
  · subst ep
    cases rel with
    | @cons _ pr _ _ r rr =>
      cases rr
      obtain ⟨u1, u2⟩ := pr
      obtain ⟨r1, r2⟩ := r
      cases (show u1 = Value.ref b from r1)
      obtain ⟨hz, hd, xs0, r0, dd⟩ := dt_of I2.hok e
      cases r0
      refine ⟨[(kk, b, u2)], ⟨rfl, rfl, key_of I2.hok eb, trivial⟩, dd, fun h' tk' dd' hs => ?_⟩
      obtain ⟨o, es, ep, h1, h2, h3, h4, _, h6⟩ := dd'
      refine wpAny_pure ⟨.ref s.heap.objs.size, _, d_write (ob := .dT [(kk, z)]) I2 (by rw [e]; exact True.intro) hs ⟨o, h1⟩ ⟨by show 1 ≤ sizeLine; decide, hd, [(kk, b, u2)], .cons ⟨rfl, ?_, r2⟩ .nil, o, es, ep, h1, h2, h3, h4, h6⟩, rfl, q2⟩
      have nb : b ≠ s.heap.objs.size := ne_of eb e (fun z => nomatch z)
      rw [upd_ne nb]
      exact eb
end
end Mt

set_option maxHeartbeats 2000000
/-! the get of a dict of the module -/
namespace Mt
open PySem L2 Evl PyProof.Rows
def tKGet (K : PySem.W.Frag) (td ty : TE) (d : Addr) : TE := fun σ H Q => td σ H fun x H1 => x = .ref d ∧ ty σ H1 fun y H2 => ∃ (z : Str) (u : Value) (v : V), y = .str z ∧ PySem.W.nsIn K d z = some (some u) ∧ RelV v u ∧ Q v H2
theorem pe_kget {X : Cx} {o e : Expr} {apos cpos : Pos} {td ty : TE} {d : Addr} {es : Array DictEntry} {n : Nat} (D : KDict X.K X.w d es n) (ho : PE X o td) (he : PE X e ty) (m : M1 X o "get" apos e cpos) : PE X (.Call (.Attribute o "get" apos) [e] [] cpos) (tKGet X.K td ty d) := by
  refine ⟨fun pins s σ H Q I h => ?_⟩
  refine wpAny_Call_method m.base m.few m.line PySem.F.plainAttrs_dict PySem.F.slot_dict_get PySem.F.type_dict_get (thn (ho.run pins s σ H _ I h) fun u s1 ⟨x, H1, I1, rx, ex, q1⟩ => ?_)
  subst ex
  obtain rfl : u = Value.ref d := rx
  refine ⟨kd_type D I1, fun b q => ?_, ?_⟩
  · cases q
    exact ⟨_, I1.kIn _ _ D.at_, rfl⟩
  rw [m.trees]
  refine Calls.callWith_builtin rfl (Calls.evalArgs_plain (Calls.spliced_cons (thn (he.run pins s1 σ H1 _ I1 q1) fun iv s2 ⟨y, H2, I2, ry, z, u0, v0, ey, hn, r, q2⟩ => Calls.spliced_nil ?_)))
  subst ey
  obtain ⟨t, rfl⟩ := ry
  have hm := PySem.W.mapOf_K (prog := X.prog) (w := X.w) I2.kIn D.at_ D.lit
  refine call_meetsIn PySem.F.slot_dict_get hm.typeIs PySem.F.entry_dict_get (PySem.F.args_dict_get_2 _ _) (meets_dict_get (PySem.strKind X.prog X.w) d (PySem.strKind_is X.prog X.w z t) D.low) ⟨_, hm, v0, H2, I2.tok _, ?_, q2⟩
  rw [PySem.W.find_K D.at_ hn]
  exact r
end Mt

set_option maxHeartbeats 4000000
/-! sorted(xs), xs a list of tuples of ints, none of them empty -/
namespace Mt
open PySem L2 Evl PySem.W
abbrev Bt := Addr × Int × List Int
def btE (b : Bt) : PyData := .tuple ((b.2.1 :: b.2.2).map .int)
def btV (b : Bt) : V := .ref b.1
def rSortedT (K : PySem.W.Frag) : List V → Hp → VK → Prop := fun xs H Q => ∃ (a : Addr) (bs : List Bt), xs = [V.ref a] ∧ H a = some (.lst (bs.map btV)) ∧ (∀ b ∈ bs, H b.1 = some (.tup ((b.2.1 :: b.2.2).map V.int))) ∧
  ∀ (bs' : List Bt) (p : Addr), bs'.Perm bs → H p = none → Q (.ref p) (upd H p (.lst (bs'.map btV)))
theorem each_of {H : Hp} {X : Cx} {pins : List (Addr × Obj)} {σ : L2.St} {s : Shared} (I : L2.Inv X pins σ H s) : ∀ {bs : List Bt} {us : List Value}, Vals (bs.map btV) us → (∀ b ∈ bs, H b.1 = some (.tup ((b.2.1 :: b.2.2).map V.int))) →
    EachIs (fun v (b : Bt) => v = Value.ref b.1) us bs ∧ EachIs (fun v b => ∃ as, Reads s.heap v (btE b) as) us bs
  | [], us, r, _ => by
    cases r
    exact ⟨.nil, .nil⟩
  | b :: bs, us, r, h => by
    cases r with
    | @cons _ u _ us r1 r2 =>
      obtain ⟨h1, h2⟩ := each_of I r2 fun c hc => h c (by simp [hc])
      have hb := h b (by simp)
      have dp : Dp X.K H (.ref b.1) (btE b) := .tup (.inl (.inl hb)) (by
        have : ∀ ns : List Int, DpAll X.K H (ns.map V.int) (ns.map PyData.int) := fun ns => by
          induction ns with
          | nil => exact .nil
          | cons n ns ih => exact .cons (.int n) ih
        exact this _)
      exact ⟨.cons r1 h1, .cons (Dp.reads I _ _ u dp r1) h2⟩
theorem vals_bt : ∀ {bs : List Bt} {out : List Value}, EachIs (fun v (b : Bt) => v = Value.ref b.1) out bs → Vals (bs.map btV) out
  | [], _, h => by
    cases h
    exact .nil
  | b :: bs, _, h => by
    cases h with
    | cons h1 h2 => exact .cons h1 (vals_bt h2)
section
variable {X : Cx}
theorem cr_sortedT (hu : X.A.units + 64 < cLine) : CallR X (.builtin "sorted") (rSortedT X.K) := by
  intro pins s σ H vs us Q I r h
  obtain ⟨a, bs, rfl, hs, hb, q⟩ := h
  obtain ⟨its, rv, hl, hz⟩ := I.list (show SqL X.K H a _ from .inl (.inl hs))
  rw [Vals.ref1 r]
  obtain ⟨e1, e2⟩ := each_of I rv hb
  rw [List.length_map] at hz
  refine sorted_data (enc := btE) (bs := bs) (R := fun v (b : Bt) => v = Value.ref b.1) hl.isList e1 e2 (AllAlike.of fun b b' => ?_) (Sortable.tuples fun b => ⟨.int b.2.1, b.2.2.map .int, rfl⟩) hz (fun b _ => ?_) fun out ho h1 => ?_
  · have := alike_ints (b.2.1 :: b.2.2) (b'.2.1 :: b'.2.2)
    unfold btE
    simpa [alike] using this
  · have : (btE b).depth = 1 := by
      show PyData.depthAll _ + 1 = 1
      rw [depth_ints]
    rw [this]
    omega
  · obtain ⟨ep, he'⟩ := PyProof.Rows.sortedAll_at s.heap its out.toArray
    have hp : (bs.mergeSort (dataLe false btE)).Perm bs := List.mergeSort_perm _ _
    have hlen : ((bs.mergeSort (dataLe false btE)).map btV).length ≤ sizeLine := by
      rw [List.length_map, hp.length_eq]
      exact hz
    exact ⟨.ref _, upd H (s.heap.objs.size + 1) (.lst ((bs.mergeSort (dataLe false btE)).map btV)), I.laid (t' := s.toks) (fun _ _ => PyProof.Rows.sortedAll_old) (Nat.le_succ _) ⟨hlen, out, ep, vals_bt h1, he'⟩, rfl, q _ _ hp (I.hok.fresh (Nat.le_succ _))⟩
end
end Mt

set_option maxHeartbeats 4000000
/-! t * 0, t * 1 -/
namespace Mt
open PySem L2 Evl PyProof.Rows
theorem tuple_mul0 (l : Addr) (items : Array Value) (n : Nat) (dd : Option Addr) (sl : Array (Option Value)) (u : Tok) (c1 : items.isEmpty = false) :
    Meets (Builtin.«tuple.__mul__» ⟨[.ref l, .int 0 u], []⟩) (fun _ R s => s.heap.get? l = some { cls := .type "tuple", dict := dd, data := .seq items n, slots := sl } ∧
      R (.ok (.ret (Value.ref s.heap.objs.size))) { s with heap := s.heap.push { cls := Value.type "tuple", data := Data.seq #[] }, toks := s.toks }) :=
  .of_wp fun prog w A R s h => by
    obtain ⟨hp, g, d, tk, os⟩ := s
    obtain ⟨hl, h⟩ := h
    have f1 := AutoSeq1.idx_int
    wp_walk using wpAny_loadPart' hl
    exact ⟨_, rfl, h⟩
theorem tuple_mul1 (l : Addr) (items : Array Value) (n : Nat) (dd : Option Addr) (sl : Array (Option Value)) (u : Tok) :
    Meets (Builtin.«tuple.__mul__» ⟨[.ref l, .int 1 u], []⟩) (fun _ R s => s.heap.get? l = some { cls := .type "tuple", dict := dd, data := .seq items n, slots := sl } ∧
      R (.ok (.ret (Value.ref l))) s) :=
  .of_wp fun prog w A R s h => by
    obtain ⟨hp, g, d, tk, os⟩ := s
    obtain ⟨hl, h⟩ := h
    have f1 := AutoSeq1.idx_int
    wp_walk using wpAny_loadPart' hl
    exact ⟨_, rfl, h⟩
/-- t * k, k any of 0 .. 1000, t not empty -/
def rRepU (K : PySem.W.Frag) : R2 := fun x y H Q => ∃ l k xs, x = .ref l ∧ y = .int k ∧ SqT K H l xs ∧ xs ≠ [] ∧ xs.length ≤ 1000 ∧ ((k = 0 ∧ ∀ p, H p = none → Q (.ref p) (upd H p (.tup []))) ∨ (k = 1 ∧ Q (.ref l) H) ∨
  (2 ≤ k ∧ k ≤ 1000 ∧ ∀ p, H p = none → Q (.ref p) (upd H p (.tup (List.replicate k.toNat xs).flatten))))
section
variable {X : Cx}
theorem op_repU : OpR X (binaryOp .Mult) (rRepU X.K) := by
  intro pins s σ H x y v u Q I rx ry h
  obtain ⟨l, k, xs, rfl, rfl, hT, hne, hz, hq⟩ := h
  rcases hq with ⟨rfl, q⟩ | ⟨rfl, q⟩ | ⟨h1, h2, q⟩
  · cases rx
    obtain ⟨t, rfl⟩ := ry
    obtain ⟨its, r, ⟨⟨cls, dd, data, sl⟩, ho, hc, n, hd⟩, hs⟩ := I.tuple hT
    simp only at hc hd
    subst hc hd
    have hle : its.length = xs.length := r.length.symm
    have hi : its.toArray.isEmpty = false := by
      cases its with
      | nil => exact absurd (List.eq_nil_of_length_eq_zero hle.symm) hne
      | cons a b => rfl
    refine wpAny_binaryOp_repeat_ref (T := "tuple") (U := "int") (by decide) ⟨_, ho, rfl⟩ (fun s' => typeIs_int s' 0 t) noFill_tuple_mul F.fills_int_mul F.slot_int_rmul repeat_tuple F.slot_int_index.lookup
      (call_meets F.slot_int_rmul (typeIs_int s 0 t) F.entry_int_rmul (F.args_int_rmul_2 _ _) (int_rmul_tuple 0 t l its.toArray n dd sl)
        ⟨ho, rfl, ⟨_, ho, rfl⟩, call_meets F.slot_tuple_mul ⟨_, ho, rfl⟩ F.entry_tuple_mul (F.args_tuple_mul_2 _ _) (tuple_mul0 l its.toArray n dd sl t hi) ⟨ho, ?_⟩⟩)
    refine ⟨.ref s.heap.objs.size, _, I.laid (t' := s.toks) (o := .tup []) (fun b ob q => Heap.get?_push_of_some _ q) (Nat.le_refl _) ?_, rfl, q _ (I.hok.fresh (Nat.le_refl _))⟩
    exact ⟨Nat.zero_le _, [], .nil, IsTup.new _ _⟩
  · cases rx
    obtain ⟨t, rfl⟩ := ry
    obtain ⟨its, r, ⟨⟨cls, dd, data, sl⟩, ho, hc, n, hd⟩, hs⟩ := I.tuple hT
    simp only at hc hd
    subst hc hd
    refine wpAny_binaryOp_repeat_ref (T := "tuple") (U := "int") (by decide) ⟨_, ho, rfl⟩ (fun s' => typeIs_int s' 1 t) noFill_tuple_mul F.fills_int_mul F.slot_int_rmul repeat_tuple F.slot_int_index.lookup
      (call_meets F.slot_int_rmul (typeIs_int s 1 t) F.entry_int_rmul (F.args_int_rmul_2 _ _) (int_rmul_tuple 1 t l its.toArray n dd sl)
        ⟨ho, rfl, ⟨_, ho, rfl⟩, call_meets F.slot_tuple_mul ⟨_, ho, rfl⟩ F.entry_tuple_mul (F.args_tuple_mul_2 _ _) (tuple_mul1 l its.toArray n dd sl t) ⟨ho, ?_⟩⟩)
    exact ⟨.ref l, H, I, rfl, q⟩
  · exact op_repT pins s σ H _ _ v u Q I rx ry ⟨l, k, xs, rfl, rfl, hT, hne, h1, h2, hz, q⟩
end
end Mt

set_option maxHeartbeats 4000000
/-! an own exception class right over OverflowError; its __init__ calls OverflowError.__init__ and sets one field -/
namespace Mt
open PySem PySem.W PySem.Calls PyProof.Rows PySem.HandSPX Builtin Builtin.ObjectAttr
abbrev oeTail : List Value := [.type "OverflowError", .type "ArithmeticError", .type "Exception", .type "BaseException", .type "object"]
section
variable {prog : Program} {w : World} {A : Around} {E : Value → Shared → Prop} {R : Result → Shared → Prop} {hp : Heap} {g : Array GenState} {d : Drawn} {t : Nat} {os : OsState}
theorem osa_one {K : W.Frag} {name : Str} {tk : Tok} {v : Value} {x C : Addr} {fv : Array Value} {cd : ClassData} (kin : K.In hp) (at_ : hp.get? x = some { cls := .ref C, data := .fields fv }) (isc : W.clsIn K C = some cd) (mr : cd.mro = .ref C :: oeTail) (hasd : cd.hasDict = true) (nof : W.findIn K (.ref C) name = some none)
    (go : ∀ h1 t1 dd, (∀ b o, b ≠ x → hp.get? b = some o → h1.get? b = some o) → hp.objs.size ≤ dd → dd ≠ x → h1.get? x = some { cls := .ref C, dict := some dd, data := .fields fv } → h1.Ns1 dd (fun y => if y = name then some v else none) → R (.ok (.ret .none)) ⟨h1, g, d, t1, os⟩) :
    codeAny (model prog w) A (.call (.builtin "object.__setattr__") ⟨[.ref x, .str name tk, v], []⟩) R ⟨hp, g, d, t, os⟩ := by
  have inst : W.InstAt hp x { cls := .ref C, data := .fields fv } C none := ⟨at_, rfl, rfl, trivial⟩
  have so := F.store_object
  have hob : cd.mro.contains (.type "object") = true := by
    rw [mr, List.contains_cons]
    rw [show oeTail.contains (.type "object") = true by decide +kernel, Bool.or_true]
  have hxs : x ≠ hp.objs.size := Nat.ne_of_lt (Heap.lt_size at_)
  have isin : W.Looks (model prog w) hp (isInstance (.ref x) (.type "object")) true := inst.type.andThen (W.looks_mroIn kin (by unfold W.mroIn; rw [isc, Option.bind_some, if_neg (by rw [mr]; exact fun e => nomatch e), hob]))
  refine codeAny_call_builtin so.slot.plain so.entry (@W.check_slot (model prog w) _ _ ⟨hp, g, d, t, os⟩ "object.__setattr__" "object" "__setattr__" (.ref x) [.str name tk, v] [] _ so.kind so.split isin (so.args (.ref x) (.str name tk) v) ?_)
  have lm : W.Looks (model prog w) hp (mroOf (.ref C)) cd.mro := (W.looks_clsIn kin isc).andThen .now
  have l3 : W.Looks (model prog w) hp (storeTaker? none) none := .now
  have lc : W.Looks (model prog w) hp (classData C) cd := W.looks_clsIn kin isc
  rw [W.osa_eq, refuse_eq]
  refine wpAny_bind (wpAny_bind (inst.type.at (wpAny_bind (lm.at ?_))))
  have pass : refuseLoop (.ref x) "__setattr__" cd.mro = pure () := by
    rw [mr, refuseLoop_ref]
    exact F.store_OverflowError.passes _
  rw [pass]
  refine wpAny_pure (wpAny_bind (inst.type.at (wpAny_bind ((W.looks_findIn kin nof).at (wpAny_bind (l3.at ?_))))))
  show wpAny _ _ (storeInOwnDict (.ref x) (.ref C) (.str name tk) name v false) _ _ _
  obtain ⟨nm, bs, mro, ns, qn, hd, sn, sb, ab, col, del⟩ := cd
  dsimp only at hasd
  subst hasd
  unfold storeInOwnDict ownDictForStores
  repeat (first | with_reducible refine store_in_new ?_ ?_ | with_reducible refine wpAny_loadPart_at at_ ?_ | with_reducible refine lc.at ?_ | wp_step)
  · exact ⟨_, #[], _, (Heap.get?_update_ne _ _ _ _ hxs.symm).trans (Heap.get?_push_at rfl rfl), rfl, fun e he => absurd he (by simp), fun _ => rfl⟩
  · intro h1 t1 n1 same
    have x1 : (hp.push { cls := .type "dict", data := .dict #[] }).get? x = some { cls := .ref C, data := .fields fv } := Heap.get?_push_of_some _ at_
    refine go h1 t1 hp.objs.size (fun b o hb ho => ?_) (Nat.le_refl _) hxs.symm ?_ n1
    · exact (same.2 b (Nat.ne_of_lt (Heap.lt_size ho))).trans ((Heap.get?_update_ne _ _ _ _ hb).trans (Heap.get?_push_of_some _ ho))
    · exact (same.2 x hxs).trans (Heap.get?_update_self _ x1 rfl)
end
theorem bt_OverflowError : bootBuiltins "OverflowError" = some (.type "OverflowError") := by decide +kernel
theorem typ_OE : typeOf (.type "OverflowError") = pure (.type "type") := by kernel_rfl
theorem tail_contains (C : Addr) (bm : List Value) (h : bm = oeTail) (Y : String) : bm.contains (.type Y) = oeTail.contains (.type Y) := by rw [h]
end Mt
namespace Mt
open PySem L2 PySem.Spec PyProof.Rows
/-- what the written part tells of the class -/
structure OfoC (K : PySem.W.Frag) (C : Addr) : Prop where
  cls : ∃ nm q N bs sn sub ab col dd k0 k1 k2 k3 k5, K.lookup C = some (excClassObj nm q C N bs oeTail true sn sub ab col dd k0 k1 k2 k3 k5 "OverflowError.__new__")
  sa : PySem.W.findIn K (.ref C) "__setattr__" = some (some (.builtin "object.__setattr__"))
  exC : PySem.W.subIn K (.ref C) (.type "BaseException") = some true
  tyC : PySem.W.typeIn K (.ref C) = some (.type "type")
  kC : PySem.W.keepIn K (.ref C) = true
section
variable {X : Cx} {pins : List (Addr × Obj)} {σ : L2.St} {H : Hp} {s : Shared} {a C dx : Addr} {f : Str} {y : V} {u : Value} {fs : List (Str × V)} {E : Value → Shared → Prop} {A : Around}
theorem set_first {Q : Unit → Shared → Prop} (T : OfoC X.K C) (I : L2.Inv X pins σ H s) (e : H a = some (exo a C none)) (hno : PySem.W.findIn X.K (.ref C) f = some none) (ry : RelV y u)
    (go : ∀ dd s1, H dd = none → dd ≠ a → L2.Inv X pins σ (upd (upd H dd (exd dd [(f, y)])) a (exo a C (some dd))) s1 → Q () s1) : wpAny (model X.prog X.w) A (setAttr (.ref a) f u) Q E s := by
  obtain ⟨nm, q, N, bs, sn, sub, ab, col, dd, k0, k1, k2, k3, k5, hC⟩ := T.cls
  have isc : PySem.W.clsIn X.K C = some { name := nm, bases := bs, mro := .ref C :: oeTail, ns := N, qualname := q, hasDict := true, slotNames := sn, subclasses := sub, abstract := ab, collection := col, hasDel := false } := by
    unfold PySem.W.clsIn
    rw [hC] <;> rfl
  obtain ⟨t1, at1⟩ := exo_at I.hok e
  obtain ⟨hp, g, d, t, os⟩ := s
  refine PySem.W.set_plain I.kIn (ox := { cls := .ref C, dict := none, data := .fields #[.ref t1, .none, .none, .none, .bool false, .none] }) (od := none) ⟨at1, rfl, rfl, trivial⟩ T.sa ?_
  refine osa_one I.kIn at1 isc rfl rfl hno (fun h1 t2 dd k dn dne hx hn => ?_)
  have hnd : H dd = none := I.hok.fresh dn
  have nd : ∀ {b : Addr} {o : Obj}, hp.get? b = some o → b ≠ dd := fun {b o} q => Nat.ne_of_lt (Nat.lt_of_lt_of_le (Heap.lt_size q) dn)
  have na : ∀ {b : Addr}, H b = none → b ≠ a := fun {b} n z => by
    rw [z, e] at n
    cases n
  have un1 : Un X.fs [] H (upd (upd H dd (exd dd [(f, y)])) a (exo a C (some dd))) hp h1 := {
    keep := fun b o q n _ _ => k b o (na n) q
    slot := fun b o q n _ _ => ⟨o.slots, k b o (na n) q⟩
    free := fun b o q n _ => by
      rw [upd_ne (na n), upd_ne (nd q)]
      exact n
    there := fun b o q _ => by
      by_cases hb : b = a
      · exact ⟨_, by rw [hb]; exact hx⟩
      · exact ⟨o, k b o hb q⟩
    tups := fun b xs q => by
      rw [upd_ne (at_ne e q exo_tup), upd_ne (ne_of_none q hnd)]
      exact q
    frzs := fun b o v q => by
      rw [upd_ne (at_ne e q exo_frz), upd_ne (ne_of_none q hnd)]
      exact q
    tbls := fun b ps q => ⟨#[], by rw [upd_ne (at_ne e q exo_tbl), upd_ne (ne_of_none q hnd), q]; simp⟩ }
  refine go dd _ hnd dne (I.un (t' := t2) un1 fun b o q => ?_)
  by_cases hb : b = a
  · subst hb
    rw [upd_same] at q
    cases q
    exact exo_ok hx
  · rw [upd_ne hb] at q
    by_cases hd : b = dd
    · subst hd
      rw [upd_same] at q
      cases q
      exact exd_ok hn (relO_put (fs := []) ry fun g => True.intro)
    · rw [upd_ne hd] at q
      refine (I.hok b o q).stay (fun c v hc z => k c v ?_ z) (fun c hc => ?_) (fun c xs hc => ?_)
      · rcases hc with hc | hc
        · rw [hc]
          exact hb
        · exact at_ne e hc exo_own
      · rw [upd_ne (at_ne e hc exo_own), upd_ne (ne_of_none hc hnd)]
        exact hc
      · rw [upd_ne (at_ne e hc exo_tup), upd_ne (ne_of_none hc hnd)]
        exact hc
theorem base_init {us : List Value} {Q : Value → Shared → Prop} (T : OfoC X.K C) (I : L2.Inv X pins σ H s) (e : H a = some (exo a C none)) (hl : us.length ≤ sizeLine) (go : ∀ s1, L2.Inv X pins σ H s1 → Q .none s1) :
    wpAny (model X.prog X.w) A (call (.builtin "OverflowError.__init__") (.ref a :: us)) Q E s := by
  obtain ⟨nm, q, N, bs, sn, sub, ab, col, dd, k0, k1, k2, k3, k5, hC⟩ := T.cls
  obtain ⟨t1, at1⟩ := exo_at I.hok e
  obtain ⟨hp, g, d, t, os⟩ := s
  refine wpAny_call (PySem.HandSPX.init_base F.excBase_OverflowError (fun _ => rfl) (I.kIn _ _ hC) at1 hl fun h1 t2 k hx => ?_)
  have J := I.write (t' := t) (x := a) (e := a) (o := exo a C none) (by rw [e]; exact True.intro) (.inl rfl) k ⟨_, hx⟩ (exo_ok hx)
  have eu : upd H a (exo a C none) = H := by
    funext b
    by_cases hb : b = a
    · rw [hb, upd_same, e]
    · rw [upd_ne hb]
  rw [eu] at J
  exact go _ J
end
/-- OverflowError.__init__(self, ..) -/
def tOeI (K : PySem.W.Frag) (ta : TA) : TE := fun σ H Q => ta σ H fun vs H1 => ∃ (a C : Addr) (ws : List V), vs = .ref a :: ws ∧ ws.length ≤ 1000 ∧ OfoC K C ∧ H1 a = some (exo a C none) ∧ Q .non H1
/-- self.f = e, the only field -/
def tOs1 (K : PySem.W.Frag) (f : Str) (to te : TE) : TS := fun D σ H => te σ H fun y H1 => to σ H1 fun x H2 => ∃ a C : Addr, x = .ref a ∧ OfoC K C ∧ PySem.W.findIn K (.ref C) f = some none ∧
  H2 a = some (exo a C none) ∧ ∀ dx, H2 dx = none → dx ≠ a → D.nx σ (upd (upd H2 dx (exd dx [(f, y)])) a (exo a C (some dx)))
section
variable {X : Cx} {o e : Expr} {es : List Expr} {to te : TE} {ta : TA} {f : Str} {p p' p1 p2 pos : Pos}
theorem pe_oeinit {pl : Sem Bool} (hg : Gl X "OverflowError") (hm : X.mg "OverflowError" = none) (vV : PySem.W.findCls X.K (.type "OverflowError") (.type "type") "__init__" = some (.val (.builtin "OverflowError.__init__"))) (ha : PA X (e :: es) ta)
    (hc : eval (.Call (.Attribute (.Name "OverflowError" p1) "__init__" p2) (e :: es) [] pos) X.env = (do
      let ov ← eval (.Name "OverflowError" p1) X.env
      standAt p2.atName
      let (f, first) ← holding [ov] (getMethod ov "__init__" pl)
      callWith pos f first (backTo pos (starEach (e :: es) X.env)) (backToKw pos (keywordEach [] X.env))) := by rfl)
    (he : starEach (e :: es) X.env = (false, eval e X.env) :: starEach es X.env := by rfl) (hpl : (backTo pos (starEach es X.env)).any (·.1) = false := by rfl) :
    PE X (.Call (.Attribute (.Name "OverflowError" p1) "__init__" p2) (e :: es) [] pos) (tOeI X.K ta) := by
  refine ⟨fun pins s σ H Q I h => ?_⟩
  refine PySem.W.methodCall_KW (ld_blt I hg hm bt_OverflowError ?_ (by decide) (by decide)) hc
  obtain ⟨m, fr⟩ := I.fr
  refine PySem.W.method_type fr I.ok.mod.kin typ_OE (by decide +kernel) vV (by decide +kernel) ?_
  show wpAny _ _ (callWith pos (Value.builtin "OverflowError.__init__") [] (backTo pos (starEach (e :: es) X.env)) []) _ _ _
  refine PyProof.Rows.callWith_method1 (thn (ha.run pos pins _ σ H _ (I.tok _) h) fun us s1 ⟨vs, H1, I1, r1, a, C, ws, ev, hl, T, ea, q⟩ => ?_) he hpl
  subst ev
  cases r1 with
  | @cons _ u0 _ ur ra rw' =>
    obtain rfl : u0 = Value.ref a := ra
    have hlen : ur.length ≤ sizeLine := by
      rw [← Paired.length rw', sizeLine_eq]
      omega
    exact base_init T I1 ea hlen fun s1 J => ⟨.non, H1, J, rfl, q⟩
theorem ps_os1 (ho : PE X o to) (he : PE X e te) (hs : swapsWith e (some (.Attribute o f p')) pos.line X.env = pure false := by rfl) : PS X (.Assign [.Attribute o f p'] e pos) (tOs1 X.K f to te) := by
  refine ⟨fun pins s σ H D I h => ?_⟩
  refine plainObj_wpAny_Assign_Attribute (thn (he.run pins s σ H _ I h) fun v s1 ⟨y, H1, I1, r1, q1⟩ => thn (ho.run pins s1 σ H1 _ I1 q1) fun u s2 ⟨x, H2, I2, r2, a, C, ex, T, hno, ea, q⟩ => ?_) hs
  subst ex
  obtain rfl : u = Value.ref a := r2
  exact set_first T I2 ea hno r1 fun dx s1 n ne J => ⟨σ, _, J, q dx n ne⟩
theorem pmk_ofo {CX : CXT} {x : Str} {C fI : Addr} {k : Nat} {fd : FuncData} {ps : List Str} {sp : Sp} {ds : List Value} {dvs : List V} (T : OfoC X.K C) (iC : PySem.W.findIn X.K (.ref C) "__init__" = some (some (.ref fI))) (tI : PySem.W.typeIn X.K (.ref fI) = some (.type "function"))
    (F1 : FnOk X.prog X.w X.K X.mg X.base CX k fI fd ps sp) (hr : Room (k + 1) X.A) (hb : Binds X.K fd ps ds) (hd : Vals dvs ds) (hx : Passes CX X (fun _ _ _ => False)) (hg : Gl X x) (hm : X.mg x = some (.ref C)) (ha : PA X (e :: es) ta)
    (hdb : (x == ("__debug__" : Str)) = false := by decide) (he : starEach (e :: es) X.env = (false, eval e X.env) :: starEach es X.env := by rfl) (hpl : (backTo pos (starEach es X.env)).any (·.1) = false := by rfl) :
    PMk X (.Call (.Name x p) (e :: es) [] pos) (tMkO C sp dvs ta) := by
  intro pins s σ H Q I h
  obtain ⟨nm, q, N, bs, sn, sub, ab, col, dd, k0, k1, k2, k3, k5, hC⟩ := T.cls
  refine wpAny_Call_Name_kw (ld_glob I hg hm ?_ hdb)
  refine PySem.W.callWith_K (h₀ := X.base) I.ok.mod.kin T.kC (thn (ha.run pos pins s σ H _ I h) fun us s1 ⟨vs, H1, I1, r1, hz, q1⟩ => ⟨I1.kIn, ?_⟩) he hpl
  show wpAny _ _ (call (.ref C) us) _ _ _
  obtain ⟨hp, g, dr, tk, os⟩ := s1
  have hsz : hp.objs.size ≤ hp.objs.size + 1 := Nat.le_succ _
  have hn : H1 (hp.objs.size + 1) = none := I1.hok.fresh hsz
  have hq := q1 (hp.objs.size + 1) hn
  have keep2 : ∀ b o, hp.get? b = some o → ((hp.push (PySem.W.kdv_tup us)).push (PySem.HandSPX.excO C hp.objs.size)).get? b = some o := fun b o e => Heap.get?_push_of_some _ (Heap.get?_push_of_some _ e)
  have made : ((hp.push (PySem.W.kdv_tup us)).push (PySem.HandSPX.excO C hp.objs.size)).get? (hp.objs.size + 1) = some (PySem.HandSPX.excO C hp.objs.size) := by heap_get
  have I2 : L2.Inv X pins σ (upd H1 (hp.objs.size + 1) (exo (hp.objs.size + 1) C none)) ⟨(hp.push (PySem.W.kdv_tup us)).push (PySem.HandSPX.excO C hp.objs.size), g, dr, tk, os⟩ :=
    I1.laid (t' := tk) (a := hp.objs.size + 1) (o := exo (hp.objs.size + 1) C none) (h' := (hp.push (PySem.W.kdv_tup us)).push (PySem.HandSPX.excO C hp.objs.size)) keep2 hsz (exo_ok made)
  have r2 : Vals (V.ref (hp.objs.size + 1) :: (vs ++ dvs)) (Value.ref (hp.objs.size + 1) :: (us ++ ds)) := .cons rfl (r1.append hd)
  have hl : (Value.ref (hp.objs.size + 1) :: us ++ ds).length = ps.length := by
    have e := r2.length
    rw [F1.len _ _ _ _ hq] at e
    exact e.symm
  have hus : us.length ≤ sizeLine := by
    rw [← Paired.length r1, sizeLine_eq]
    omega
  refine wpAny_call (PySem.HandSPX.call_own F.excBase_OverflowError (fun _ => rfl) (I1.kIn _ _ hC) (PySem.W.looks_findIn I1.kIn iC) (fun self => PySem.W.bind_fn I1.kIn self tI) hus
    (codeAny_mono (F1.run _ X.stack _ _ ⟨Value.ref (hp.objs.size + 1) :: us, []⟩ (Value.ref (hp.objs.size + 1) :: (us ++ ds)) _ _ (fun _ _ _ => False) (hr.make C us []) (I2.env0.make C us []) (hb _ (Value.ref (hp.objs.size + 1) :: us) I2.kIn hl) r2 hq) fun r s' hq' => ?_))
  cases r with
  | error er => exact hx pins σ _ _ er s' I2 hq'
  | ok fl =>
    cases fl with
    | ret u =>
      obtain ⟨v, H2, os2, bare2, un2, hok2, rv, ev, d, fs, ea, ed, hd1, q2⟩ := hq'
      subst ev
      obtain ⟨h2, g2, d2, t2, os'⟩ := s'
      exact ⟨rv, mk_end (raises_own T.exC T.tyC) I1 hsz keep2 un2 hok2 os2 bare2 ea ed hd1 q2⟩
    | next => exact False.elim hq'
    | brk => exact False.elim hq'
    | cont => exact False.elim hq'
end
end Mt

set_option maxHeartbeats 2000000
/-! loops and comprehensions over data -/
namespace Mt
open PySem L2 Evl

/-- a source of data, turn by turn; the source stands as long as tuples stand (b = false) or as long as all stands (b = true) -/
def Kp (b : Bool) (H H' : Hp) : Prop := if b = true then Ex H H' else Tx H H'
theorem Kp.ex {b : Bool} {H H' : Hp} (e : Ex H H') : Kp b H H' := by
  cases b with
  | true => exact e
  | false => exact tx_of e
theorem Kp.tx {b : Bool} {H H' : Hp} (e : Kp b H H') : Tx H H' := by
  cases b with
  | true => exact tx_of e
  | false => exact e
theorem Kp.trans {b : Bool} {H H1 H2 : Hp} (e : Kp b H H1) (f : Kp b H1 H2) : Kp b H H2 := by
  cases b with
  | true => exact Ex.trans e f
  | false => exact Tx.trans e f
def Src (b : Bool) (J : It) (H : Hp) (ds : List PyData) : Prop :=
  ∃ (G : Hp → Prop) (Y : Nat → Hp → V → Hp → Prop), Walk J ds.length G Y ∧ (∀ H1, Kp b H H1 → G H1) ∧ ∀ i Ha x Hb d, ds[i]? = some d → Kp b H Ha → Y i Ha x Hb → Ex Ha Hb ∧ Im Hb x d
def ItD (b : Bool) (wi : TI) (σ : L2.St) (H : Hp) (ds : List PyData) : Prop :=
  ∀ H1, Ex H H1 → ∀ R : It → Hp → Prop, (∀ J H2, Ex H1 H2 → Src b J H2 ds → R J H2) → wi σ H1 R
section
variable {K : PySem.W.Frag} {σ : L2.St} {H H' : Hp} {ta tb te tx tk tv : TE} {tt t u : TT} {x y z v : V} {b : Bool} {d d1 d2 : PyData} {ds es : List PyData}
theorem ItD.mono {wi : TI} (h : ItD b wi σ H ds) (e : Ex H H') : ItD b wi σ H' ds := fun H1 a R r => h H1 (e.trans a) R r
theorem src_tup {p : Addr} {xs : List V} (h : Rd H p (.tup xs)) (k : Ims H xs ds) : Src false (Itt K p) H ds := by
  refine ⟨_, _, by rw [← k.len]; exact walk_tup (K := K) (a := p) (xs := xs), fun H1 e => Or.inl (Tx.rd e h), fun i Ha x Hb d hd e y => ?_⟩
  obtain ⟨rfl, hx⟩ := y
  obtain ⟨v, hv, kv⟩ := k.at hd
  rw [hx] at hv
  cases hv
  exact ⟨Ex.refl _, kv.tx e⟩
theorem src_list {p : Addr} {xs : List V} (h : H p = some (.lst xs)) (k : Ims H xs ds) : Src true (Itl K p) H ds := by
  refine ⟨_, _, by rw [← k.len]; exact walk_list (K := K) (a := p) (xs := xs), fun H1 e => SqL.of ((show Ex H H1 from e) _ _ h), fun i Ha x Hb d hd e y => ?_⟩
  obtain ⟨rfl, hx⟩ := y
  obtain ⟨v, hv, kv⟩ := k.at hd
  rw [hx] at hv
  cases hv
  exact ⟨Ex.refl _, kv.tx e.tx⟩
theorem id_tup (h : EvD te σ H (.tuple ds)) : ItD false (iTup K te) σ H ds := fun H1 e R r => h H1 e _ fun v H2 e2 m => by
  obtain ⟨p, xs, rfl, hp, k⟩ := m.tup_iff
  exact ⟨p, rfl, ⟨xs, .inl hp⟩, r _ _ e2 (src_tup hp k)⟩
theorem id_list (h : EvS te σ H ds) : ItD true (iList K te) σ H ds := fun H1 e R r => h H1 e _ fun v H2 e2 m => by
  obtain ⟨p, xs, rfl, hp, k⟩ := m
  exact ⟨p, rfl, ⟨xs, SqL.of hp⟩, r _ _ e2 (src_list hp k)⟩
/-- (0, a), (1, b), .. -/
def numb (k : Nat) : List PyData → List PyData
  | [] => []
  | d :: ds => .tuple [.int (k : Int), d] :: numb (k + 1) ds
theorem numb_len : ∀ (k : Nat) (ds : List PyData), (numb k ds).length = ds.length
  | k, [] => rfl
  | k, d :: ds => by
    show (numb (k + 1) ds).length + 1 = ds.length + 1
    rw [numb_len (k + 1) ds]
theorem numb_at : ∀ (k : Nat) (ds : List PyData) (i : Nat) (e : PyData), (numb k ds)[i]? = some e → ∃ d, ds[i]? = some d ∧ e = .tuple [.int ((k + i : Nat) : Int), d]
  | k, [], i, e, h => by simp [numb] at h
  | k, d :: ds, 0, e, h => by
    simp [numb] at h
    exact ⟨d, by simp, h.symm⟩
  | k, d :: ds, i + 1, e, h => by
    obtain ⟨d1, h1, h2⟩ := numb_at (k + 1) ds i e (by simpa [numb] using h)
    exact ⟨d1, by simpa using h1, by rw [h2, show k + 1 + i = k + (i + 1) by omega]⟩
theorem im_pair {H : Hp} {T : Addr} (h : H T = some (.tup [x, y])) (hx : Im H x d1) (hy : Im H y d2) : Im H (.ref T) (.tuple [d1, d2]) := im_tup h (ims_cons hx (ims_cons hy ims_nil))
theorem src_enumT {p : Addr} {xs : List V} (h : Rd H p (.tup xs)) (k : Ims H xs ds) : Src false (IteT K p) H (numb 0 ds) := by
  have kl := k.len
  refine ⟨fun H1 => SqT K H1 p xs, fun i Ha v Hb => ∃ T x, v = .ref T ∧ Ha T = none ∧ Hb = upd Ha T (.tup [.int (i : Nat), x]) ∧ xs[i]? = some x, ⟨fun i H1 hi g => ?_, fun H1 g => ?_, fun i H1 x H2 hi g y => ?_⟩, fun H1 e => .inl (Tx.rd e h), fun i Ha x Hb d hd e y => ?_⟩
  · rw [numb_len, ← kl] at hi
    exact ⟨xs, xs[i], g, by simp [hi]⟩
  · rw [numb_len, ← kl]
    exact ⟨xs, g, Nat.le_refl _⟩
  · obtain ⟨T, z, h1, h2, h3, h4⟩ := y
    exact ⟨T, z, h1, h2, h3, h4 xs g⟩
  · obtain ⟨T, z, rfl, h2, rfl, h4⟩ := y
    obtain ⟨d1, h5, rfl⟩ := numb_at 0 ds i d hd
    obtain ⟨w, hw, kw⟩ := k.at h5
    rw [h4] at hw
    cases hw
    refine ⟨Ex.new h2, im_pair upd_same ?_ ((kw.tx e).ex (Ex.new h2))⟩
    rw [Nat.zero_add]
    exact im_int _
theorem src_enum {p : Addr} {xs : List V} (h : H p = some (.lst xs)) (k : Ims H xs ds) : Src true (Ite K p) H (numb 0 ds) := by
  have kl := k.len
  refine ⟨fun H1 => SqL K H1 p xs, _, (by rw [numb_len, ← kl]; exact walk_enum (K := K) (a := p) (xs := xs)), fun H1 e => SqL.of ((show Ex H H1 from e) _ _ h), fun i Ha x Hb d hd e y => ?_⟩
  obtain ⟨T, z, w, rfl, h2, rfl, h4, h5⟩ := y
  obtain ⟨d1, h6, rfl⟩ := numb_at 0 ds i d hd
  obtain ⟨w1, hw, kw⟩ := k.at h6
  rw [show xs[i]? = some w from h5] at hw
  cases hw
  cases h4
  refine ⟨Ex.new h2, im_pair upd_same ?_ ((kw.tx e.tx).ex (Ex.new h2))⟩
  rw [Nat.zero_add]
  exact im_int _
theorem id_enumT (h : EvD te σ H (.tuple ds)) : ItD false (iEnumT K (tCons te tNil)) σ H (numb 0 ds) := fun H1 e R r => h H1 e _ fun v H2 e2 m => by
  obtain ⟨p, xs, rfl, hp, k⟩ := m.tup_iff
  exact ⟨p, xs, rfl, .inl hp, r _ _ e2 (src_enumT hp k)⟩
theorem id_enum (h : EvS te σ H ds) : ItD true (iEnum K (tCons te tNil)) σ H (numb 0 ds) := fun H1 e R r => h H1 e _ fun v H2 e2 m => by
  obtain ⟨p, xs, rfl, hp, k⟩ := m
  exact ⟨p, xs, rfl, SqL.of hp, r _ _ e2 (src_enum hp k)⟩
/-- zip(a, b, strict=True) of tuples that are alike long -/
theorem id_zipS {ds es : List PyData} (h : EvD ta σ H (.tuple ds)) (h2 : EvD tb σ H (.tuple es)) (hl : ds.length = es.length) : ItD false (iZipS K (tCons ta (tCons tb tNil))) σ H (List.zipWith (fun a b => PyData.tuple [a, b]) ds es) := fun H1 e R r => h H1 e _ fun v H2 e2 m => h2 H2 (e.trans e2) _ fun w H3 e3 m3 => by
  obtain ⟨p, xs, rfl, hp, k⟩ := (m.ex e3).tup_iff
  obtain ⟨q, ys, rfl, hq, k2⟩ := m3.tup_iff
  refine ⟨p, q, xs, ys, rfl, .inl hp, .inl hq, r _ _ (e2.trans e3) ?_⟩
  have k1 := k.len
  have k21 := k2.len
  have zl : (List.zipWith (fun a b => PyData.tuple [a, b]) ds es).length = xs.length := by rw [List.length_zipWith]; omega
  refine ⟨fun H1 => SqT K H1 p xs ∧ SqT K H1 q ys, fun i Ha v Hb => ∃ T x y, v = .ref T ∧ Ha T = none ∧ Hb = upd Ha T (.tup [x, y]) ∧ xs[i]? = some x ∧ ys[i]? = some y, ⟨fun i H1 hi g => ?_, fun H1 g => ?_, fun i H1 x H2 hi g y => ?_⟩, fun H1 e => ⟨.inl (Tx.rd e hp), .inl (Tx.rd e hq)⟩, fun i Ha x Hb d hd e y => ?_⟩
  · rw [zl] at hi
    have hi2 : i < ys.length := by omega
    exact ⟨xs, ys, xs[i], ys[i], g.1, g.2, by simp [hi], by simp [hi2]⟩
  · rw [zl]
    exact ⟨xs, ys, g.1, g.2, Nat.le_refl _, by omega⟩
  · obtain ⟨T, z, w, h1, h2, h3, h4, h5⟩ := y
    exact ⟨T, z, w, h1, h2, h3, h4 xs g.1, h5 ys g.2⟩
  · obtain ⟨T, z, w, rfl, h2, rfl, h4, h5⟩ := y
    rw [List.getElem?_zipWith] at hd
    obtain ⟨a, ha, ka⟩ := k.at' h4
    obtain ⟨c, hc, kc⟩ := k2.at' h5
    rw [ha, hc] at hd
    cases hd
    exact ⟨Ex.new h2, im_pair upd_same ((ka.tx e).ex (Ex.new h2)) ((kc.tx e).ex (Ex.new h2))⟩
/-! ### targets -/
theorem g_pair {j k : Nat} {Kt : L2.St → Hp → Prop} (m : Im H x (.tuple [d1, d2])) (q : ∀ y z, Im H y d1 → Im H z d2 → Kt ((σ.set j (some y)).set k (some z)) H) : gTup K 2 (gCons (gName j) (gCons (gName k) gNil)) x σ H Kt := by
  obtain ⟨p, xs, rfl, hp, k1⟩ := m.tup_iff
  obtain ⟨y, r, rfl, m1, k2⟩ := k1.cons_iff
  obtain ⟨z, r, rfl, m2, k3⟩ := k2.cons_iff
  rw [k3.nil_iff] at hp
  exact ⟨p, [y, z], rfl, .inl hp, rfl, y, [z], rfl, z, [], rfl, rfl, q y z m1 m2⟩
/-- (a, b), c -/
theorem g_pairL {i j k : Nat} {d3 : PyData} {Kt : L2.St → Hp → Prop} (m : Im H x (.tuple [.tuple [d1, d2], d3])) (q : ∀ y z w, Im H y d1 → Im H z d2 → Im H w d3 → Kt (((σ.set i (some y)).set j (some z)).set k (some w)) H) : gTup K 2 (gCons (gTup K 2 (gCons (gName i) (gCons (gName j) gNil))) (gCons (gName k) gNil)) x σ H Kt := by
  obtain ⟨p, xs, rfl, hp, k1⟩ := m.tup_iff
  obtain ⟨y, r, rfl, m1, k2⟩ := k1.cons_iff
  obtain ⟨z, r, rfl, m2, k3⟩ := k2.cons_iff
  rw [k3.nil_iff] at hp
  exact ⟨p, [y, z], rfl, .inl hp, rfl, y, [z], rfl, g_pair m1 fun a b ma mb => ⟨z, [], rfl, rfl, q a b z ma mb m2⟩⟩
/-- a, (b, c) -/
theorem g_pairR {i j k : Nat} {d3 : PyData} {Kt : L2.St → Hp → Prop} (m : Im H x (.tuple [d1, .tuple [d2, d3]])) (q : ∀ y z w, Im H y d1 → Im H z d2 → Im H w d3 → Kt (((σ.set i (some y)).set j (some z)).set k (some w)) H) : gTup K 2 (gCons (gName i) (gCons (gTup K 2 (gCons (gName j) (gCons (gName k) gNil))) gNil)) x σ H Kt := by
  obtain ⟨p, xs, rfl, hp, k1⟩ := m.tup_iff
  obtain ⟨y, r, rfl, m1, k2⟩ := k1.cons_iff
  obtain ⟨z, r, rfl, m2, k3⟩ := k2.cons_iff
  rw [k3.nil_iff] at hp
  exact ⟨p, [y, z], rfl, .inl hp, rfl, y, [z], rfl, z, [], rfl, g_pair m2 fun a b ma mb => ⟨rfl, q y a b m1 ma mb⟩⟩
/-! ### comprehensions -/
variable {α : Type} {β : Type}
theorem take_one {zs : List α} {i : Nat} {a : α} (h : zs[i]? = some a) : zs.take (i + 1) = zs.take i ++ [a] := by
  rw [List.take_succ, h]
  rfl
/-- one for: p tells which, f what -/
theorem en_lc {wi : TI} {g : TG} {vs : List Nat} {zs : List α} {enc : α → PyData} (h : ItD b wi σ H (zs.map enc)) (hz : zs.length ≤ 40000) (p : α → Bool) (f : α → PyData)
    (ht : ∀ a ∈ zs, ∀ x H1, Ex H H1 → Im H1 x (enc a) → ∀ Kt : L2.St → Hp → Prop, (∀ σ2, wipe σ2 vs = wipe σ vs → EvT tt σ2 H1 (p a) → (p a = true → EvD te σ2 H1 (f a)) → Kt σ2 H1) → g x (wipe σ vs) H1 Kt) :
    EvN (tLc wi g tt te vs) σ H ((zs.filter p).map f) := fun H0 e Q q => h H0 e _ fun J H1 e1 sr => fun Dl hD => by
  obtain ⟨G, Y, w, hg, hy⟩ := sr
  rw [List.length_map] at w
  refine lc_it w (fun i H2 => H1 Dl = none ∧ Ex H1 H2 ∧ ∃ acc, H2 Dl = some (.lst acc) ∧ Ims H2 acc (((zs.take i).filter p).map f)) ⟨hD, Ex.new hD, [], upd_same, ims_nil⟩ (fun i H2 _ P => hg H2 (Kp.ex P.2.1)) (fun i x Ha Hb hi P y => ?_) fun H2 P => ?_
  · obtain ⟨p1, p2, acc, p3, p4⟩ := P
    obtain ⟨a, ha⟩ : ∃ a, zs[i]? = some a := ⟨zs[i], by simp [hi]⟩
    obtain ⟨eb, mb⟩ := hy i Ha x Hb (enc a) (by rw [List.getElem?_map, ha]; rfl) (Kp.ex p2) y
    have eh : Ex H Hb := ((e.trans e1).trans p2).trans eb
    refine ht a (List.mem_of_getElem? ha) x Hb eh mb _ fun σ2 hw h1 h2 => ⟨hw, h1 Hb (Ex.refl _) _ fun H3 e3 => ?_⟩
    cases hp : p a with
    | true =>
      rw [if_pos rfl]
      refine h2 hp H3 e3 _ fun v H4 e4 m4 => ⟨acc, e4 _ _ (e3 _ _ (eb _ _ p3)), sz_lt ?_, p1, Ex.mut (((p2.trans eb).trans e3).trans e4) p1, _, upd_same, ?_⟩
      · have := p4.len
        have l1 : (((zs.take i).filter p).map f).length ≤ i := by
          rw [List.length_map]
          exact Nat.le_trans (List.length_filter_le _ _) (by rw [List.length_take]; omega)
        omega
      · rw [take_one ha, List.filter_append, List.map_append]
        have t : Tx H4 (upd H4 Dl (.lst (acc ++ [v]))) := tx_lst (e4 _ _ (e3 _ _ (eb _ _ p3)))
        refine Ims.app ((p4.ex ((eb.trans e3).trans e4)).tx t) ?_
        rw [List.filter_cons_of_pos hp]
        exact ims_cons (m4.tx t) ims_nil
    | false =>
      rw [if_neg (by decide)]
      refine ⟨p1, (p2.trans eb).trans e3, acc, e3 _ _ (eb _ _ p3), ?_⟩
      rw [take_one ha, List.filter_append, List.map_append, List.filter_cons_of_neg (by rw [hp]; decide)]
      rw [List.filter_nil, List.map_nil, List.append_nil]
      exact p4.ex (eb.trans e3)
  · obtain ⟨p1, p2, acc, p3, p4⟩ := P
    rw [List.take_length] at p4
    exact q Dl acc H2 (fresh_back e1 p1) (e1.trans p2) p3 p4
theorem et_yes : EvT tYes σ H true := fun H1 _ _ q => q H1 (Ex.refl H1)
/-- with no if -/
theorem en_map {wi : TI} {g : TG} {vs : List Nat} {zs : List α} {enc : α → PyData} (h : ItD b wi σ H (zs.map enc)) (hz : zs.length ≤ 40000) (f : α → PyData)
    (ht : ∀ a ∈ zs, ∀ x H1, Ex H H1 → Im H1 x (enc a) → ∀ Kt : L2.St → Hp → Prop, (∀ σ2, wipe σ2 vs = wipe σ vs → EvD te σ2 H1 (f a) → Kt σ2 H1) → g x (wipe σ vs) H1 Kt) :
    EvN (tLc wi g tYes te vs) σ H (zs.map f) := by
  have k := en_lc (tt := tYes) (te := te) (g := g) (vs := vs) h hz (fun _ => true) f fun a ha x H1 e m Kt q => ht a ha x H1 e m Kt fun σ2 hw hd => q σ2 hw et_yes fun _ => hd
  rwa [show zs.filter (fun _ => true) = zs from List.filter_eq_self.mpr fun _ _ => rfl] at k
theorem en_none {wi : TI} {g : TG} {vs : List Nat} {zs : List α} {enc : α → PyData} (h : ItD b wi σ H (zs.map enc)) (hz : zs.length ≤ 40000)
    (ht : ∀ a ∈ zs, ∀ x H1, Ex H H1 → Im H1 x (enc a) → ∀ Kt : L2.St → Hp → Prop, (∀ σ2, wipe σ2 vs = wipe σ vs → EvT tt σ2 H1 false → Kt σ2 H1) → g x (wipe σ vs) H1 Kt) :
    EvN (tLc wi g tt te vs) σ H [] := by
  have k := en_lc (tt := tt) (te := te) (g := g) (vs := vs) h hz (fun _ => false) (fun _ => .none) fun a ha x H1 e m Kt q => ht a ha x H1 e m Kt fun σ2 hw hd => q σ2 hw hd fun e => nomatch e
  rwa [show zs.filter (fun _ => false) = [] from List.filter_eq_nil_iff.mpr fun _ _ e => nomatch e] at k
theorem ev_allM {wi : TI} {g : TG} {vs : List Nat} {zs : List α} {enc : α → PyData} (h : ItD b wi σ H (zs.map enc)) (hz : zs.length ≤ 40000) (f : α → Bool)
    (ht : ∀ a ∈ zs, ∀ x H1, Ex H H1 → Im H1 x (enc a) → ∀ Kt : L2.St → Hp → Prop, (∀ σ2, wipe σ2 vs = wipe σ vs → EvD te σ2 H1 (.bool (f a)) → Kt σ2 H1) → g x (wipe σ vs) H1 Kt) :
    Ev (tCB (rAll K) (tCons (tLc wi g tYes te vs) tNil)) σ H (.bl (zs.all f)) := by
  have k := en_map h hz (fun a => PyData.bool (f a)) ht
  refine ev_is (ev_all (bs := zs.map f) (EvN.s ?_)) ?_
  · rw [List.map_map]
    exact k
  · rw [List.all_map]
    rfl
theorem ev_anyM {wi : TI} {g : TG} {vs : List Nat} {zs : List α} {enc : α → PyData} (h : ItD b wi σ H (zs.map enc)) (hz : zs.length ≤ 40000) (f : α → Bool)
    (ht : ∀ a ∈ zs, ∀ x H1, Ex H H1 → Im H1 x (enc a) → ∀ Kt : L2.St → Hp → Prop, (∀ σ2, wipe σ2 vs = wipe σ vs → EvD te σ2 H1 (.bool (f a)) → Kt σ2 H1) → g x (wipe σ vs) H1 Kt) :
    Ev (tCB (rAny K) (tCons (tLc wi g tYes te vs) tNil)) σ H (.bl (zs.any f)) := by
  have k := en_map h hz (fun a => PyData.bool (f a)) ht
  refine ev_is (ev_any (bs := zs.map f) (EvN.s ?_)) ?_
  · rw [List.map_map]
    exact k
  · rw [List.any_map]
    rfl
theorem ev_allT {wi : TI} {g : TG} {vs : List Nat} {zs : List α} {enc : α → PyData} (h : ItD b wi σ H (zs.map enc)) (hz : zs.length ≤ 40000)
    (ht : ∀ a ∈ zs, ∀ x H1, Ex H H1 → Im H1 x (enc a) → ∀ Kt : L2.St → Hp → Prop, (∀ σ2, wipe σ2 vs = wipe σ vs → EvD te σ2 H1 (.bool true) → Kt σ2 H1) → g x (wipe σ vs) H1 Kt) :
    Ev (tCB (rAll K) (tCons (tLc wi g tYes te vs) tNil)) σ H (.bl true) :=
  ev_is (ev_allM h hz (fun _ => true) ht) (congrArg V.bl (List.all_eq_true.mpr fun _ _ => rfl))
/-- two fors, the inner one over tuples; the inner one with an if -/
theorem en_lc2 {wi wi1 : TI} {g g1 : TG} {tt1 : TT} {vs vs1 : List Nat} {zs : List α} {enc : α → PyData} (ins : α → List β) (enc1 : β → PyData) (h : ItD b wi σ H (zs.map enc)) (hz : zs.length ≤ 200) (hz1 : ∀ a ∈ zs, (ins a).length ≤ 200) (p : α → β → Bool) (f : α → β → PyData)
    (ht : ∀ a ∈ zs, ∀ x H1, Ex H H1 → Im H1 x (enc a) → ∀ Kt : L2.St → Hp → Prop, (∀ σ2, wipe σ2 vs = wipe σ vs → ItD false wi1 σ2 H1 ((ins a).map enc1) → (∀ c ∈ ins a, ∀ x H2, Ex H H2 → Tx H1 H2 → Im H2 x (enc1 c) → ∀ Kt1 : L2.St → Hp → Prop, (∀ σ3, wipe σ3 vs1 = wipe σ2 vs1 → EvT tt1 σ3 H2 (p a c) → (p a c = true → EvD te σ3 H2 (f a c)) → Kt1 σ3 H2) → g1 x (wipe σ2 vs1) H2 Kt1) → Kt σ2 H1) → g x (wipe σ vs) H1 Kt) :
    EvN (tLc2 wi g tYes wi1 g1 tt1 te vs vs1) σ H (zs.flatMap fun a => ((ins a).filter (p a)).map (f a)) := fun H0 e Q q => h H0 e _ fun J H1 e1 sr => fun Dl hD => by
  obtain ⟨G, Y, w, hg, hy⟩ := sr
  rw [List.length_map] at w
  have bd : ∀ (l : List α), (∀ a ∈ l, a ∈ zs) → (l.flatMap fun a => ((ins a).filter (p a)).map (f a)).length ≤ l.length * 200 := by
    intro l
    induction l with
    | nil => intro _; simp
    | cons a l ih =>
      intro hm
      rw [List.flatMap_cons, List.length_append, List.length_map, List.length_cons]
      have h1 := ih fun c hc => hm c (by simp [hc])
      have h2 := hz1 a (hm a (by simp))
      have h3 := List.length_filter_le (p a) (ins a)
      omega
  let Pv : Nat → Hp → Prop := fun i H2 => H1 Dl = none ∧ Ex H1 H2 ∧ ∃ acc, H2 Dl = some (.lst acc) ∧ Ims H2 acc ((zs.take i).flatMap fun a => ((ins a).filter (p a)).map (f a))
  refine ⟨fun i m H2 => m = zs.length - i ∧ i ≤ zs.length ∧ Pv i H2, ⟨zs.length, by simp, Nat.zero_le _, hD, Ex.new hD, [], upd_same, ims_nil⟩, ?_⟩
  rintro i m H2 ⟨rfl, hi, P⟩
  have q1 := hg H2 (Kp.ex P.2.1)
  by_cases hlt : i < zs.length
  · refine .inr ⟨w.goes i H2 hlt q1, Pv (i + 1), fun H' p' => ⟨zs.length - (i + 1), by omega, rfl, hlt, p'⟩, fun x Hb y => ?_⟩
    have y := w.yields i H2 x Hb hlt q1 y
    obtain ⟨p1, p2, acc, p3, p4⟩ := P
    obtain ⟨a, ha⟩ : ∃ a, zs[i]? = some a := ⟨zs[i], by simp [hlt]⟩
    obtain ⟨eb, mb⟩ := hy i H2 x Hb (enc a) (by rw [List.getElem?_map, ha]; rfl) (Kp.ex p2) y
    have eh : Ex H Hb := ((e.trans e1).trans p2).trans eb
    have am := List.mem_of_getElem? ha
    have b1 := hz1 a am
    have b2 := bd (zs.take i) fun c hc => List.mem_of_mem_take hc
    rw [List.length_take] at b2
    refine ht a am x Hb eh mb _ fun σ2 hw h1 h2 => ⟨hw, ?_⟩
    show wi1 σ2 Hb _
    refine h1 Hb (Ex.refl _) _ fun J1 H4 e4 sr1 => ?_
    obtain ⟨G1, Y1, w1, hg1, hy1⟩ := sr1
    rw [List.length_map] at w1
    let P1 : Nat → Hp → Prop := fun j H5 => Tx H4 H5 ∧ Ex H1 H5 ∧ ∃ acc, H5 Dl = some (.lst acc) ∧ Ims H5 acc (((zs.take i).flatMap fun a => ((ins a).filter (p a)).map (f a)) ++ (((ins a).take j).filter (p a)).map (f a))
    refine ⟨fun j m H5 => m = (ins a).length - j ∧ j ≤ (ins a).length ∧ P1 j H5, ⟨(ins a).length, by simp, Nat.zero_le _, Tx.refl _, (p2.trans eb).trans e4, acc, e4 _ _ (eb _ _ p3), ?_⟩, ?_⟩
    · rw [List.take_zero, List.filter_nil, List.map_nil, List.append_nil]
      exact p4.ex (eb.trans e4)
    rintro j m H5 ⟨rfl, hj, t1, t2, acc1, t3, t4⟩
    have q2 := hg1 H5 t1
    by_cases hlt1 : j < (ins a).length
    · refine .inr ⟨w1.goes j H5 hlt1 q2, P1 (j + 1), fun H' p' => ⟨(ins a).length - (j + 1), by omega, rfl, hlt1, p'⟩, fun x1 Hc y1 => ?_⟩
      have y1 := w1.yields j H5 x1 Hc hlt1 q2 y1
      obtain ⟨c, hc⟩ : ∃ c, (ins a)[j]? = some c := ⟨(ins a)[j], by simp [hlt1]⟩
      obtain ⟨ec, mc⟩ := hy1 j H5 x1 Hc (enc1 c) (by rw [List.getElem?_map, hc]; rfl) t1 y1
      refine h2 c (List.mem_of_getElem? hc) x1 Hc (((e.trans e1).trans t2).trans ec) (((tx_of e4).trans t1).trans (tx_of ec)) mc _ fun σ3 hw1 k1 k2 => ⟨hw1, k1 Hc (Ex.refl _) _ fun H6 e6 => ?_⟩
      have la := t4.len
      have la2 : (((ins a).take j).filter (p a)).length ≤ 200 := Nat.le_trans (List.length_filter_le _ _) (by rw [List.length_take]; omega)
      rw [List.length_append, List.length_map] at la
      cases hp : p a c with
      | true =>
        rw [if_pos rfl]
        refine k2 hp H6 e6 _ fun v H7 e7 m7 => ⟨acc1, e7 _ _ (e6 _ _ (ec _ _ t3)), sz_lt ?_, ?_, Ex.mut (((t2.trans ec).trans e6).trans e7) p1, _, upd_same, ?_⟩
        · have : min i zs.length * 200 ≤ 200 * 200 := Nat.mul_le_mul_right 200 (by omega)
          omega
        · exact ((t1.trans (tx_of ec)).trans ((tx_of e6).trans (tx_of e7))).trans (tx_lst (e7 _ _ (e6 _ _ (ec _ _ t3))))
        · rw [take_one hc, List.filter_append, List.map_append, ← List.append_assoc]
          have t : Tx H7 (upd H7 Dl (.lst (acc1 ++ [v]))) := tx_lst (e7 _ _ (e6 _ _ (ec _ _ t3)))
          refine Ims.app ((t4.ex ((ec.trans e6).trans e7)).tx t) ?_
          rw [List.filter_cons_of_pos hp]
          exact ims_cons (m7.tx t) ims_nil
      | false =>
        rw [if_neg (by decide)]
        refine ⟨(t1.trans (tx_of ec)).trans (tx_of e6), (t2.trans ec).trans e6, acc1, e6 _ _ (ec _ _ t3), ?_⟩
        rw [take_one hc, List.filter_append, List.map_append, List.filter_cons_of_neg (by rw [hp]; decide)]
        rw [List.filter_nil, List.map_nil, List.append_nil]
        exact t4.ex (ec.trans e6)
    · have ej : j = (ins a).length := by omega
      subst ej
      rw [List.take_length] at t4
      refine .inl ⟨w1.stops H5 q2, p1, t2, acc1, t3, ?_⟩
      rw [take_one ha, List.flatMap_append, List.flatMap_singleton]
      exact t4
  · have ei : i = zs.length := by omega
    subst ei
    obtain ⟨p1, p2, acc, p3, p4⟩ := P
    rw [List.take_length] at p4
    exact .inl ⟨w.stops H2 q1, q Dl acc H2 (fresh_back e1 p1) (e1.trans p2) p3 p4⟩
/-- a new dict -/
def EvK (te : TE) (σ : L2.St) (H : Hp) (kvs : List (Key × V)) : Prop := ∀ H1, Ex H H1 → ∀ Q : VK, (∀ p H2, H1 p = none → Ex H1 H2 → H2 p = some (.dK kvs) → Q (.ref p) H2) → te σ H1 Q
def puts (l : List (Key × V)) : List (Key × V) := l.foldl (fun acc a => putK acc a.1 a.2) []
theorem puts_app (l : List (Key × V)) (k : Key) (v : V) : puts (l ++ [(k, v)]) = putK (puts l) k v := by
  unfold puts
  rw [List.foldl_append]
  rfl
theorem putK_len (l : List (Key × V)) (k : Key) (v : V) : (putK l k v).length ≤ l.length + 1 := by
  unfold putK
  split
  · rw [List.length_map]
    omega
  · rw [List.length_append]
    exact Nat.le_refl _
theorem foldl_len : ∀ (l acc : List (Key × V)), (l.foldl (fun acc a => putK acc a.1 a.2) acc).length ≤ acc.length + l.length
  | [], acc => Nat.le_refl _
  | a :: l, acc => by
    rw [List.foldl_cons, List.length_cons]
    have := foldl_len l (putK acc a.1 a.2)
    have := putK_len acc a.1 a.2
    omega
theorem puts_len (l : List (Key × V)) : (puts l).length ≤ l.length := by
  have := foldl_len l []
  rw [List.length_nil] at this
  unfold puts
  omega
theorem ek_dc {wi : TI} {g : TG} {vs : List Nat} {zs : List α} {enc : α → PyData} (h : ItD b wi σ H (zs.map enc)) (hz : zs.length ≤ 40000) (kf : α → Key) (vf : α → V)
    (ht : ∀ a ∈ zs, ∀ x H1, Ex H H1 → Im H1 x (enc a) → ∀ Kt : L2.St → Hp → Prop, (∀ σ2, wipe σ2 vs = wipe σ vs → Ev tk σ2 H1 (kV (kf a)) → Ev tv σ2 H1 (vf a) → Kt σ2 H1) → g x (wipe σ vs) H1 Kt) :
    EvK (tDc wi g tYes tk tv vs) σ H (puts (zs.map fun a => (kf a, vf a))) := fun H0 e Q q => h H0 e _ fun J H1 e1 sr => fun Dl hD => by
  obtain ⟨G, Y, w, hg, hy⟩ := sr
  rw [List.length_map] at w
  let Pv : Nat → Hp → Prop := fun i H2 => H1 Dl = none ∧ Ex H1 H2 ∧ H2 Dl = some (.dK (puts ((zs.take i).map fun a => (kf a, vf a))))
  refine ⟨fun i m H2 => m = zs.length - i ∧ i ≤ zs.length ∧ Pv i H2, ⟨zs.length, by simp, Nat.zero_le _, hD, Ex.new hD, upd_same⟩, ?_⟩
  rintro i m H2 ⟨rfl, hi, P⟩
  have q1 := hg H2 (Kp.ex P.2.1)
  obtain ⟨p1, p2, p3⟩ := P
  by_cases hlt : i < zs.length
  · refine .inr ⟨w.goes i H2 hlt q1, Pv (i + 1), fun H' p' => ⟨zs.length - (i + 1), by omega, rfl, hlt, p'⟩, fun x Hb y => ?_⟩
    have y := w.yields i H2 x Hb hlt q1 y
    obtain ⟨a, ha⟩ : ∃ a, zs[i]? = some a := ⟨zs[i], by simp [hlt]⟩
    obtain ⟨eb, mb⟩ := hy i H2 x Hb (enc a) (by rw [List.getElem?_map, ha]; rfl) (Kp.ex p2) y
    have eh : Ex H Hb := ((e.trans e1).trans p2).trans eb
    refine ht a (List.mem_of_getElem? ha) x Hb eh mb _ fun σ2 hw h1 h2 => ⟨hw, ?_⟩
    refine et_yes Hb (Ex.refl _) _ fun H2' e2' => ?_
    rw [if_pos rfl]
    replace eb := eb.trans e2'
    refine h1 H2' e2' _ fun H3 e3 => h2 H3 (e2'.trans e3) _ fun H4 e4 => ⟨_, kf a, rfl, e4 _ _ (e3 _ _ (eb _ _ p3)), sz_lt ?_, p1, Ex.mut (((p2.trans eb).trans e3).trans e4) p1, ?_⟩
    · have := puts_len ((zs.take i).map fun a => (kf a, vf a))
      rw [List.length_map, List.length_take] at this
      omega
    · rw [take_one ha, List.map_append, List.map_cons, List.map_nil, puts_app]
      exact upd_same
  · have ei : i = zs.length := by omega
    subst ei
    rw [List.take_length] at p3
    exact .inl ⟨w.stops H2 q1, q Dl H2 (fresh_back e1 p1) (e1.trans p2) p3⟩
theorem ek_dc2 {wi wi1 : TI} {g g1 : TG} {tt1 : TT} {vs vs1 : List Nat} {zs : List α} {enc : α → PyData} (ins : α → List β) (enc1 : β → PyData) (h : ItD b wi σ H (zs.map enc)) (hz : zs.length ≤ 200) (hz1 : ∀ a ∈ zs, (ins a).length ≤ 200) (kf : α → β → Key) (vf : α → β → V)
    (ht : ∀ a ∈ zs, ∀ x H1, Ex H H1 → Im H1 x (enc a) → ∀ Kt : L2.St → Hp → Prop, (∀ σ2, wipe σ2 vs = wipe σ vs → ItD false wi1 σ2 H1 ((ins a).map enc1) → (∀ c ∈ ins a, ∀ x H2, Ex H H2 → Tx H1 H2 → Im H2 x (enc1 c) → ∀ Kt1 : L2.St → Hp → Prop, (∀ σ3, wipe σ3 vs1 = wipe σ2 vs1 → EvT tt1 σ3 H2 true → Ev tk σ3 H2 (kV (kf a c)) → Ev tv σ3 H2 (vf a c) → Kt1 σ3 H2) → g1 x (wipe σ2 vs1) H2 Kt1) → Kt σ2 H1) → g x (wipe σ vs) H1 Kt) :
    EvK (tDc2 wi g tYes wi1 g1 tt1 tk tv vs vs1) σ H (puts (zs.flatMap fun a => (ins a).map fun c => (kf a c, vf a c))) := fun H0 e Q q => h H0 e _ fun J H1 e1 sr => fun Dl hD => by
  obtain ⟨G, Y, w, hg, hy⟩ := sr
  rw [List.length_map] at w
  have bd : ∀ (l : List α), (∀ a ∈ l, a ∈ zs) → (l.flatMap fun a => (ins a).map fun c => (kf a c, vf a c)).length ≤ l.length * 200 := by
    intro l
    induction l with
    | nil => intro _; simp
    | cons a l ih =>
      intro hm
      rw [List.flatMap_cons, List.length_append, List.length_map, List.length_cons]
      have h1 := ih fun c hc => hm c (by simp [hc])
      have h2 := hz1 a (hm a (by simp))
      omega
  let Pv : Nat → Hp → Prop := fun i H2 => H1 Dl = none ∧ Ex H1 H2 ∧ H2 Dl = some (.dK (puts ((zs.take i).flatMap fun a => (ins a).map fun c => (kf a c, vf a c))))
  refine ⟨fun i m H2 => m = zs.length - i ∧ i ≤ zs.length ∧ Pv i H2, ⟨zs.length, by simp, Nat.zero_le _, hD, Ex.new hD, upd_same⟩, ?_⟩
  rintro i m H2 ⟨rfl, hi, P⟩
  have q1 := hg H2 (Kp.ex P.2.1)
  obtain ⟨p1, p2, p3⟩ := P
  by_cases hlt : i < zs.length
  · refine .inr ⟨w.goes i H2 hlt q1, Pv (i + 1), fun H' p' => ⟨zs.length - (i + 1), by omega, rfl, hlt, p'⟩, fun x Hb y => ?_⟩
    have y := w.yields i H2 x Hb hlt q1 y
    obtain ⟨a, ha⟩ : ∃ a, zs[i]? = some a := ⟨zs[i], by simp [hlt]⟩
    obtain ⟨eb, mb⟩ := hy i H2 x Hb (enc a) (by rw [List.getElem?_map, ha]; rfl) (Kp.ex p2) y
    have eh : Ex H Hb := ((e.trans e1).trans p2).trans eb
    have am := List.mem_of_getElem? ha
    have b1 := hz1 a am
    have b2 := bd (zs.take i) fun c hc => List.mem_of_mem_take hc
    rw [List.length_take] at b2
    refine ht a am x Hb eh mb _ fun σ2 hw h1 h2 => ⟨hw, ?_⟩
    show wi1 σ2 Hb _
    refine h1 Hb (Ex.refl _) _ fun J1 H4 e4 sr1 => ?_
    obtain ⟨G1, Y1, w1, hg1, hy1⟩ := sr1
    rw [List.length_map] at w1
    let P1 : Nat → Hp → Prop := fun j H5 => Tx H4 H5 ∧ Ex H1 H5 ∧ H5 Dl = some (.dK (puts (((zs.take i).flatMap fun a => (ins a).map fun c => (kf a c, vf a c)) ++ ((ins a).take j).map fun c => (kf a c, vf a c))))
    refine ⟨fun j m H5 => m = (ins a).length - j ∧ j ≤ (ins a).length ∧ P1 j H5, ⟨(ins a).length, by simp, Nat.zero_le _, Tx.refl _, (p2.trans eb).trans e4, ?_⟩, ?_⟩
    · rw [List.take_zero, List.map_nil, List.append_nil]
      exact e4 _ _ (eb _ _ p3)
    rintro j m H5 ⟨rfl, hj, t1, t2, t3⟩
    have q2 := hg1 H5 t1
    by_cases hlt1 : j < (ins a).length
    · refine .inr ⟨w1.goes j H5 hlt1 q2, P1 (j + 1), fun H' p' => ⟨(ins a).length - (j + 1), by omega, rfl, hlt1, p'⟩, fun x1 Hc y1 => ?_⟩
      have y1 := w1.yields j H5 x1 Hc hlt1 q2 y1
      obtain ⟨c, hc⟩ : ∃ c, (ins a)[j]? = some c := ⟨(ins a)[j], by simp [hlt1]⟩
      obtain ⟨ec, mc⟩ := hy1 j H5 x1 Hc (enc1 c) (by rw [List.getElem?_map, hc]; rfl) t1 y1
      refine h2 c (List.mem_of_getElem? hc) x1 Hc (((e.trans e1).trans t2).trans ec) (((tx_of e4).trans t1).trans (tx_of ec)) mc _ fun σ3 hw1 k1 k2 k3 => ⟨hw1, k1 Hc (Ex.refl _) _ fun H6 e6 => ?_⟩
      rw [if_pos rfl]
      refine k2 H6 e6 _ fun H7 e7 => k3 H7 (e6.trans e7) _ fun H8 e8 => ⟨_, kf a c, rfl, e8 _ _ (e7 _ _ (e6 _ _ (ec _ _ t3))), sz_lt ?_, ?_, Ex.mut ((((t2.trans ec).trans e6).trans e7).trans e8) p1, ?_⟩
      · have := puts_len (((zs.take i).flatMap fun a => (ins a).map fun c => (kf a c, vf a c)) ++ ((ins a).take j).map fun c => (kf a c, vf a c))
        rw [List.length_append, List.length_map, List.length_take] at this
        have : min i zs.length * 200 ≤ 200 * 200 := Nat.mul_le_mul_right 200 (by omega)
        omega
      · exact ((t1.trans (tx_of ec)).trans ((tx_of e6).trans ((tx_of e7).trans (tx_of e8)))).trans (tx_dK (e8 _ _ (e7 _ _ (e6 _ _ (ec _ _ t3)))))
      · rw [take_one hc, List.map_append, ← List.append_assoc, List.map_cons, List.map_nil, puts_app]
        exact upd_same
    · have ej : j = (ins a).length := by omega
      subst ej
      rw [List.take_length] at t3
      refine .inl ⟨w1.stops H5 q2, p1, t2, ?_⟩
      rw [take_one ha, List.flatMap_append, List.flatMap_singleton]
      exact t3
  · have ei : i = zs.length := by omega
    subst ei
    rw [List.take_length] at p3
    exact .inl ⟨w.stops H2 q1, q Dl H2 (fresh_back e1 p1) (e1.trans p2) p3⟩
/-! ### for -/
variable {D : Ends} {tu tz : TS}
theorem s_forD {wi : TI} {g : TG} {zs : List α} {enc : α → PyData} (h : ItD b wi σ H (zs.map enc)) (Pv : Hp → Nat → L2.St → Hp → Prop) (h0 : ∀ H1, Ex H H1 → Pv H1 0 σ H1) (hE : ∀ H1, Ex H H1 → ∀ i σ' H', i ≤ zs.length → Pv H1 i σ' H' → Kp b H1 H')
    (hs : ∀ H1, Ex H H1 → ∀ i a σ' H' x H2, zs[i]? = some a → Pv H1 i σ' H' → Ex H' H2 → Im H2 x (enc a) → g x σ' H2 fun σ2 H3 => tu { D with nx := Pv H1 (i + 1), ct := Pv H1 (i + 1), bk := D.nx } σ2 H3) (hd : ∀ H1, Ex H H1 → ∀ σ' H', Pv H1 zs.length σ' H' → D.nx σ' H') : tFor wi g tu D σ H :=
  h H (Ex.refl H) _ fun J H1 e1 sr => by
    obtain ⟨G, Y, w, hg, hy⟩ := sr
    rw [List.length_map] at w
    refine for_it w (Pv H1) (h0 H1 e1) (fun i σ' H' hi P => hg H' (hE H1 e1 i σ' H' hi P)) (fun i x σ' H' Hb hi P y => ?_) (hd H1 e1)
    obtain ⟨a, ha⟩ : ∃ a, zs[i]? = some a := ⟨zs[i], by simp [hi]⟩
    obtain ⟨eb, mb⟩ := hy i H' x Hb (enc a) (by rw [List.getElem?_map, ha]; rfl) (hE H1 e1 i σ' H' (Nat.le_of_lt hi) P) y
    exact hs H1 e1 i a σ' H' x Hb ha P eb mb
theorem q_forD {wi : TI} {g : TG} {zs : List α} {enc : α → PyData} (h : ItD b wi σ H (zs.map enc)) (Pv : Hp → Nat → L2.St → Hp → Prop) (h0 : ∀ H1, Ex H H1 → Pv H1 0 σ H1) (hE : ∀ H1, Ex H H1 → ∀ i σ' H', i ≤ zs.length → Pv H1 i σ' H' → Kp b H1 H')
    (hs : ∀ H1, Ex H H1 → ∀ i a σ' H' x H2, zs[i]? = some a → Pv H1 i σ' H' → Ex H' H2 → Im H2 x (enc a) → g x σ' H2 fun σ2 H3 => tu { D with nx := Pv H1 (i + 1), ct := Pv H1 (i + 1), bk := tz D } σ2 H3) (hd : ∀ H1, Ex H H1 → ∀ σ' H', Pv H1 zs.length σ' H' → tz D σ' H') : tSeq (tFor wi g tu) tz D σ H :=
  s_forD (D := { D with nx := tz D }) h Pv h0 hE hs hd
end
end Mt

set_option maxHeartbeats 2000000
/-! plain facts: cuts, members, dicts; further readings -/
namespace Mt
open PySem L2 Evl
theorem cut_take {xs : List V} {i : Nat} : cutV xs none (some (i : Int)) = xs.take i := by
  unfold cutV
  rw [HT.sIx_none, HT.sIx_nat, List.drop_zero, Nat.sub_zero]
  by_cases h : i ≤ xs.length
  · rw [Nat.min_eq_left h]
  · rw [Nat.min_eq_right (by omega), List.take_length, List.take_of_length_le (by omega)]
theorem cut_drop {xs : List V} {i : Nat} : cutV xs (some (i : Int)) none = xs.drop i := by
  unfold cutV
  rw [HT.sIx_none, HT.sIx_nat]
  by_cases h : i ≤ xs.length
  · rw [Nat.min_eq_left h, List.take_of_length_le (by rw [List.length_drop]; omega)]
  · rw [Nat.min_eq_right (by omega), List.drop_length, List.drop_eq_nil_of_le (by omega), List.take_nil]
theorem cut_init {xs : List V} : cutV xs none (some (-1)) = xs.take (xs.length - 1) := by
  unfold cutV
  rw [HT.sIx_none, List.drop_zero, Nat.sub_zero]
  unfold HT.sIx
  show xs.take (if (-1 : Int) < 0 then ((-1 : Int) + (xs.length : Int)).toNat else min (-1 : Int).toNat xs.length) = _
  rw [if_pos (by omega)]
  congr 1
  omega
theorem inV_str {x : Str} {ns : List Str} : inV (.str x) (ns.map V.str) = decide (x ∈ ns) := by
  unfold inV
  rw [List.any_map]
  rw [Bool.eq_iff_iff, List.any_eq_true, decide_eq_true_eq]
  constructor
  · rintro ⟨y, hy, e⟩
    rw [← eq_of_beq (show (y == x) = true from e)]
    exact hy
  · intro h
    exact ⟨x, h, beq_self_eq_true x⟩
theorem inV_int {x : Int} {ns : List Int} : inV (.int x) (ns.map V.int) = decide (x ∈ ns) := by
  unfold inV
  rw [List.any_map]
  rw [Bool.eq_iff_iff, List.any_eq_true, decide_eq_true_eq]
  constructor
  · rintro ⟨y, hy, e⟩
    rw [← eq_of_beq (show (y == x) = true from e)]
    exact hy
  · intro h
    exact ⟨x, h, beq_self_eq_true x⟩
theorem all_strs (ns : List Str) : (ns.map V.str).all flatV = true := by
  rw [List.all_map]
  exact List.all_eq_true.mpr fun _ _ => rfl
theorem all_ints (ns : List Int) : (ns.map V.int).all flatV = true := by
  rw [List.all_map]
  exact List.all_eq_true.mpr fun _ _ => rfl
theorem numb_zip {α : Type} (enc : α → PyData) : ∀ (k : Nat) (zs : List α), numb k (zs.map enc) = (zs.zipIdx k).map fun p => PyData.tuple [.int (p.2 : Int), enc p.1]
  | k, [] => rfl
  | k, z :: zs => by
    rw [List.map_cons, List.zipIdx_cons, List.map_cons, ← numb_zip enc (k + 1) zs]
    rfl
theorem zip_at {α : Type} {zs : List α} {p : α × Nat} (h : p ∈ zs.zipIdx) : zs[p.2]? = some p.1 := by
  obtain ⟨a, i⟩ := p
  exact (List.mk_mem_zipIdx_iff_getElem? (l := zs)).mp h
theorem zip_len {α : Type} (zs : List α) (k : Nat) : (zs.zipIdx k).length = zs.length := List.length_zipIdx
section
variable {K : PySem.W.Frag} {σ : L2.St} {H H' : Hp} {ta tb te : TE} {b : Bool} {wi : TI} {d : PyData} {ds es : List PyData} {α : Type}
theorem ItD.to (h : ItD b wi σ H ds) (e : ds = es) : ItD b wi σ H es := e ▸ h
theorem ItD.id (h : ItD b wi σ H ds) : ItD b wi σ H (ds.map fun d => d) := h.to (List.map_id' ds).symm
theorem id_enumTz {zs : List α} {enc : α → PyData} (h : EvD te σ H (.tuple (zs.map enc))) : ItD false (iEnumT K (tCons te tNil)) σ H (zs.zipIdx.map fun p => PyData.tuple [.int (p.2 : Int), enc p.1]) := (id_enumT h).to (numb_zip enc 0 zs)
theorem id_enumz {zs : List α} {enc : α → PyData} (h : EvS te σ H (zs.map enc)) : ItD true (iEnum K (tCons te tNil)) σ H (zs.zipIdx.map fun p => PyData.tuple [.int (p.2 : Int), enc p.1]) := (id_enum h).to (numb_zip enc 0 zs)
theorem id_zipSz {β : Type} {zs : List α} {ws : List β} {enc : α → PyData} {enc1 : β → PyData} (h : EvD ta σ H (.tuple (zs.map enc))) (h2 : EvD tb σ H (.tuple (ws.map enc1))) (hl : zs.length = ws.length) :
    ItD false (iZipS K (tCons ta (tCons tb tNil))) σ H ((zs.zip ws).map fun p => PyData.tuple [enc p.1, enc1 p.2]) := (id_zipS h h2 (by rw [List.length_map, List.length_map, hl])).to (by
  rw [List.zipWith_map, List.zip, List.map_zipWith])
end
/-- the dict of the places -/
def plK (pl : List (Str × Nat)) : List (Key × V) := pl.map fun x => (Sum.inr x.1, V.int (x.2 : Int))
def lookP : List (Str × Nat) → Str → Option Nat
  | [], _ => none
  | p :: r, x => if p.1 = x then some p.2 else lookP r x
theorem plK_val : ∀ (pl : List (Str × Nat)) (x : Str), valV (plK pl) (Sum.inr x) = (lookP pl x).map fun (n : Nat) => V.int (n : Int)
  | [], x => rfl
  | p :: r, x => by
    show valV ((Sum.inr p.1, V.int (p.2 : Int)) :: plK r) (Sum.inr x) = (if p.1 = x then some p.2 else lookP r x).map _
    by_cases h : p.1 = x
    · rw [if_pos h, valV_pos (by rw [h])]
      rfl
    · rw [if_neg h, valV_neg (fun e => h (Sum.inr.inj e)), plK_val r x]
theorem lookP_of : ∀ {pl : List (Str × Nat)} {x : Str} {m : Nat}, (pl.map Prod.fst).Nodup → (x, m) ∈ pl → lookP pl x = some m
  | p :: r, x, m, nd, h => by
    rw [List.map_cons, List.nodup_cons] at nd
    unfold lookP
    rcases List.mem_cons.mp h with e | h
    · rw [← e, if_pos rfl]
    · rw [if_neg fun e => nd.1 (by rw [e]; exact List.mem_map.mpr ⟨_, h, rfl⟩)]
      exact lookP_of nd.2 h
/-! ### compared with an empty one -/
section
variable {K : PySem.W.Frag} {σ : L2.St} {H H' : Hp} {ta tb te : TE} {d : PyData} {ds es : List PyData}
theorem dp_at {H : Hp} : ∀ {b : Bool} {vs : List V} {ds : List PyData}, ImAt H b vs ds → (b = true → ∀ v d, vs = [v] → ds = [d] → Dp K H v d) ∧ (b = false → DpAll K H vs ds) := by
  intro b vs ds h
  induction h with
  | non => exact ⟨fun _ v d e1 e2 => by cases e1; cases e2; exact .non, fun e => nomatch e⟩
  | bl b => exact ⟨fun _ v d e1 e2 => by cases e1; cases e2; exact .bl b, fun e => nomatch e⟩
  | int i => exact ⟨fun _ v d e1 e2 => by cases e1; cases e2; exact .int i, fun e => nomatch e⟩
  | str x => exact ⟨fun _ v d e1 e2 => by cases e1; cases e2; exact .str x, fun e => nomatch e⟩
  | tup h k ih => exact ⟨fun _ v d e1 e2 => by cases e1; cases e2; exact .tup (.inl h) (ih.2 rfl), fun e => nomatch e⟩
  | nil => exact ⟨fun e => (nomatch e), fun _ => .nil⟩
  | cons h k ih1 ih2 => exact ⟨fun e => (nomatch e), fun _ => .cons (ih1.1 rfl _ _ rfl rfl) (ih2.2 rfl)⟩
theorem dp_of {v : V} (h : Im H v d) : Dp K H v d := (dp_at h).1 rfl _ _ rfl rfl
theorem dps_of {vs : List V} (h : Ims H vs ds) : DpAll K H vs ds := (dp_at h).2 rfl
theorem ev_eqE (ha : EvD ta σ H (.tuple ds)) (hs : SeqAt.shaped (.tuple ds) = true) : Ev (tOp (rEqD K) ta (tTup tNil)) σ H (.bl ds.isEmpty) := fun H1 e Q q =>
  ha H1 e _ fun v H2 e2 m => (eu_tup (ea_nil (σ := σ) (H := H2)) (Nat.zero_le _)) H2 (Ex.refl _) _ fun p H3 hp e3 h3 => ⟨.tuple ds, .tuple [], dp_of (m.ex e3), .tup (.inl (.inl h3)) .nil, hs, by decide +kernel, by
    have : PyData.eqv (.tuple ds) (.tuple []) = ds.isEmpty := by
      cases ds <;> simp [PyData.eqv, PyData.eqvAll]
    rw [this]
    exact q H3 (e2.trans e3)⟩
theorem ev_eqL (ha : EvS ta σ H ds) (hs : SeqAt.shaped (.list ds) = true) : Ev (tOp (rEqD K) ta (tLst tNil)) σ H (.bl ds.isEmpty) := fun H1 e Q q =>
  ha H1 e _ fun v H2 e2 m => (el_lst (ea_nil (σ := σ) (H := H2)) (Nat.zero_le _)) H2 (Ex.refl _) _ fun p H3 hp e3 h3 => ⟨.list ds, .list [], (by
    obtain ⟨a, xs, rfl, ha, k⟩ := m.ex e3
    exact .lst (SqL.of ha) (dps_of k)), .lst (SqL.of h3) .nil, hs, by decide +kernel, by
    have : PyData.eqv (.list ds) (.list []) = ds.isEmpty := by
      cases ds <;> simp [PyData.eqv, PyData.eqvAll]
    rw [this]
    exact q H3 (e2.trans e3)⟩
theorem ev_neL (ha : EvS ta σ H ds) (hs : SeqAt.shaped (.list ds) = true) : Ev (tOp (rNeD K) ta (tLst tNil)) σ H (.bl (!ds.isEmpty)) := fun H1 e Q q =>
  ha H1 e _ fun v H2 e2 m => (el_lst (ea_nil (σ := σ) (H := H2)) (Nat.zero_le _)) H2 (Ex.refl _) _ fun p H3 hp e3 h3 => ⟨.list ds, .list [], (by
    obtain ⟨a, xs, rfl, ha, k⟩ := m.ex e3
    exact .lst (SqL.of ha) (dps_of k)), .lst (SqL.of h3) .nil, hs, by decide +kernel, by
    have : PyData.eqv (.list ds) (.list []) = ds.isEmpty := by
      cases ds <;> simp [PyData.eqv, PyData.eqvAll]
    rw [this]
    exact q H3 (e2.trans e3)⟩
end
theorem canAll : ∀ {ds : List PyData}, (∀ d ∈ ds, PyData.canLay0 d = true) → PyData.canLayAll0 ds = true
  | [], _ => rfl
  | d :: ds, h => by
    show (PyData.canLay0 d && PyData.canLayAll0 ds) = true
    rw [h d (by simp), canAll fun e he => h e (by simp [he])]
    rfl
theorem depAll {n : Nat} : ∀ {ds : List PyData}, (∀ d ∈ ds, PyData.depth d ≤ n) → PyData.depthAll ds ≤ n
  | [], _ => Nat.zero_le _
  | d :: ds, h => by
    show max (PyData.depth d) (PyData.depthAll ds) ≤ n
    exact Nat.max_le.mpr ⟨h d (by simp), depAll fun e he => h e (by simp [he])⟩
theorem shapedT {n : Nat} {ds : List PyData} (hn : n ≤ 63) (h : ∀ d ∈ ds, PyData.canLay0 d = true ∧ PyData.depth d ≤ n) : SeqAt.shaped (.tuple ds) = true := by
  unfold SeqAt.shaped
  rw [Bool.and_eq_true, decide_eq_true_eq]
  refine ⟨canAll fun d hd => (h d hd).1, ?_⟩
  show PyData.depthAll ds + 1 ≤ 64
  have := depAll fun d hd => (h d hd).2
  omega
theorem shapedL {n : Nat} {ds : List PyData} (hn : n ≤ 63) (h : ∀ d ∈ ds, PyData.canLay0 d = true ∧ PyData.depth d ≤ n) : SeqAt.shaped (.list ds) = true := by
  unfold SeqAt.shaped
  rw [Bool.and_eq_true, decide_eq_true_eq]
  refine ⟨canAll fun d hd => (h d hd).1, ?_⟩
  show PyData.depthAll ds + 1 ≤ 64
  have := depAll fun d hd => (h d hd).2
  omega
theorem shaped_ints (ns : List Int) : SeqAt.shaped (.list (ns.map PyData.int)) = true := shapedL (n := 0) (by decide) fun d hd => by
  obtain ⟨i, _, rfl⟩ := List.mem_map.mp hd
  exact ⟨rfl, Nat.le_refl _⟩
end Mt

set_option maxHeartbeats 2000000
/-! worths -/
namespace Mt
open PySem L2 Evl
def top (i : Nat) : Stmt := PySem.Challenge.pw_waitedmeets_k57_whole_fewer_letters_hold.main.body.getD i (.Pass ⟨0, 0, 0, 0⟩)
/-- a promise told by a relation on data -/
def spR (n : Nat) (R : List PyData → PyData → Prop) : Sp := fun vs H Q _ => ∃ ds r, ds.length = n ∧ Ims H vs ds ∧ R ds r ∧ ∀ v H2, Ex H H2 → Im H2 v r → Q v H2
theorem spR_len {n : Nat} {R : List PyData → PyData → Prop} {vs : List V} {H : Hp} {Q : VK} {E : XK} (h : spR n R vs H Q E) : vs.length = n := by
  obtain ⟨ds, r, hl, m, _⟩ := h
  rw [m.len, hl]
theorem spR_at {n : Nat} {R : List PyData → PyData → Prop} {ds : List PyData} {d : PyData} (h : R ds d) (hl : ds.length = n := by rfl) : SpD (spR n R) ds d := fun vs H m Q q E => ⟨ds, d, hl, m, h, q⟩
structure Blt (mg : Str → Option Value) : Prop where
  isinstance : mg "isinstance" = none
  int : mg "int" = none
  bool : mg "bool" = none
  str : mg "str" = none
  tuple : mg "tuple" = none
  list : mg "list" = none
  dict : mg "dict" = none
  len : mg "len" = none
  all : mg "all" = none
  any : mg "any" = none
  enumerate : mg "enumerate" = none
  zip : mg "zip" = none
  sorted : mg "sorted" = none
  max : mg "max" = none
  min : mg "min" = none
  range : mg "range" = none
theorem bt_isinstance : bootBuiltins "isinstance" = some (.builtin "isinstance") := by decide +kernel
theorem bt_len : bootBuiltins "len" = some (.builtin "len") := by decide +kernel
theorem bt_all : bootBuiltins "all" = some (.builtin "all") := by decide +kernel
theorem bt_any : bootBuiltins "any" = some (.builtin "any") := by decide +kernel
theorem bt_sorted : bootBuiltins "sorted" = some (.builtin "sorted") := by decide +kernel
theorem bt_max : bootBuiltins "max" = some (.builtin "max") := by decide +kernel
theorem bt_min : bootBuiltins "min" = some (.builtin "min") := by decide +kernel
theorem bt_int : bootBuiltins "int" = some (.type "int") := by decide +kernel
theorem bt_bool : bootBuiltins "bool" = some (.type "bool") := by decide +kernel
theorem bt_str : bootBuiltins "str" = some (.type "str") := by decide +kernel
theorem bt_tuple : bootBuiltins "tuple" = some (.type "tuple") := by decide +kernel
theorem bt_list : bootBuiltins "list" = some (.type "list") := by decide +kernel
theorem bt_dict : bootBuiltins "dict" = some (.type "dict") := by decide +kernel
theorem bt_enumerate : bootBuiltins "enumerate" = some (.type "enumerate") := by decide +kernel
theorem bt_zip : bootBuiltins "zip" = some (.type "zip") := by decide +kernel
theorem bt_range : bootBuiltins "range" = some (.type "range") := by decide +kernel
theorem CallR_len (X : Cx) : CallR X (.builtin "len") (Evl.rLenS X.K) := call_len_seq
theorem eqd_of {A : Around} {k : Nat} (hr : Room k A) : A.units + 64 < cLine := hr.units
def SIGNSv : Str := "abcdefghijklmnopqrstuvwxyz"
/-- a good word -/
def gw (x : Str) : Bool := decide (1 ≤ x.length) && decide (x.length ≤ 6) && (x.cps.toList.all fun c => SIGNSv.cps.toList.contains c) && PyData.strOk x
section
variable {K : PySem.W.Frag} {σ : L2.St} {H : Hp} {ta tb tc : TE}
theorem id_str {x : Str} (h : Ev ta σ H (.str x)) : ItD false (iStr ta) σ H (x.cps.toList.map fun c => PyData.str ⟨#[c]⟩) := fun H1 e R r => h H1 e _ fun H2 e2 => ⟨x, rfl, r _ _ e2 (by
  refine ⟨_, _, by rw [List.length_map, Array.length_toList]; exact walk_str (z := x), fun _ _ => trivial, fun i Ha v Hb d hd e y => ?_⟩
  obtain ⟨rfl, c, hc, rfl⟩ := y
  rw [List.getElem?_map, Array.getElem?_toList, hc] at hd
  cases hd
  exact ⟨Ex.refl _, im_str _⟩)⟩
theorem ev_chain {i j l : Int} (ha : Ev ta σ H (.int i)) (hb : Ev tb σ H (.int j)) (hc : Ev tc σ H (.int l)) (h1 : i ≤ j) (h2 : j ≤ l) : Ev (tChain (rI0 fun i j => .bl (decide (i ≤ j))) (rI0 fun i j => .bl (decide (i ≤ j))) ta tb tc) σ H (.bl true) := fun H1 e Q q => ha H1 e _ fun H2 e2 => hb H2 (e.trans e2) _ fun H3 e3 => ⟨i, j, rfl, rfl, true, (congrArg V.bl (decide_eq_true h1)), by
  rw [if_pos rfl]
  refine hc H3 ((e.trans e2).trans e3) _ fun H4 e4 => ⟨j, l, rfl, rfl, ?_⟩
  show Q (.bl (decide (j ≤ l))) H4
  rw [decide_eq_true h2]
  exact q H4 ((e2.trans e3).trans e4)⟩
theorem ev_chainB {i j l : Int} (ha : Ev ta σ H (.int i)) (hb : Ev tb σ H (.int j)) (hc : Ev tc σ H (.int l)) : Ev (tChain (rI0 fun i j => .bl (decide (i ≤ j))) (rI0 fun i j => .bl (decide (i ≤ j))) ta tb tc) σ H (.bl (decide (i ≤ j) && decide (j ≤ l))) := fun H1 e Q q => ha H1 e _ fun H2 e2 => hb H2 (e.trans e2) _ fun H3 e3 => ⟨i, j, rfl, rfl, decide (i ≤ j), rfl, by
  cases hd : decide (i ≤ j) with
  | false =>
    rw [if_neg (by decide)]
    rw [hd] at q
    exact q H3 (e2.trans e3)
  | true =>
    rw [if_pos rfl]
    rw [hd] at q
    exact hc H3 ((e.trans e2).trans e3) _ fun H4 e4 => ⟨j, l, rfl, rfl, q H4 ((e2.trans e3).trans e4)⟩⟩
theorem ev_lenS {x : Str} (ha : Ev ta σ H (.str x)) (hl : x.length ≤ 100000) : Ev (tCB (fun xs H Q => ∃ z, xs = [.str z] ∧ z.length ≤ sizeLine ∧ Q (.int z.length) H) (tCons ta tNil)) σ H (.int (x.length : Int)) := fun H1 e Q q => ha H1 e _ fun H2 e2 => ⟨x, rfl, sz_of hl, q H2 e2⟩
end
section
variable {P : Program} {w : World} {K : PySem.W.Frag} {mg : Str → Option Value} {base : Heap}
def spWhole : Sp := spR 1 fun ds r => ∃ i, ds = [.int i] ∧ r = .bool true
theorem sc_is_whole : FnScope ["thing"] ["thing"] (defScope (top 13)) := ⟨rfl, rfl, rfl, by decide +kernel, rfl, by decide +kernel, by decide +kernel⟩
theorem ok_is_whole {f : Addr} {fd : FuncData} (F : Fun K "is_whole" "is_whole" (top 13) f fd) (B : Blt mg) : FnOk P w K mg base CX0 1 f fd ["thing"] spWhole := by
  refine F.ok sc_is_whole (fun vs H Q E h => spR_len h) (fun cdv A outer s H vs Q E hr h => ?_)
  obtain ⟨_, _, _, m, ⟨i, rfl, rfl⟩, k⟩ := h
  obtain ⟨v, _, rfl, m1, m2⟩ := m.cons_iff
  obtain rfl := m2.nil_iff
  refine ⟨_, (pss_one (ps_ret (pe_and (pe_callB (r := rIsi K) call_isi (by rfl) B.isinstance bt_isinstance (pa_cons (pv 0) (pa_cons (pe_bltn (v := .ty "int") (by rfl) B.int bt_int rfl) pa_nil))) (pe_one (pe_not (pe_callB (r := rIsi K) call_isi (by rfl) B.isinstance bt_isinstance (pa_cons (pv 0) (pa_cons (pe_bltn (v := .ty "bool") (by rfl) B.bool bt_bool rfl) pa_nil)))))))), ?_⟩
  exact sd_ret (ed_bl (ev_andV (ev_isi (.inl rfl) (ed_var rfl m1)) fun _ => ev_notV (ev_isi (.inr (.inl rfl)) (ed_var rfl m1)))) k
def spFrom : Sp := spR 3 fun ds r => ∃ i lo hi, ds = [.int i, .int lo, .int hi] ∧ lo ≤ i ∧ i ≤ hi ∧ r = .bool true
theorem sc_is_from : FnScope ["thing", "low", "high"] ["thing", "low", "high"] (defScope (top 14)) := ⟨rfl, rfl, rfl, by decide +kernel, rfl, by decide +kernel, by decide +kernel⟩
theorem ok_is_from {f : Addr} {fd : FuncData} (F : Fun K "is_from" "is_from" (top 14) f fd) (D_is_whole : Df P w K mg base "is_whole" 1 ["thing"] spWhole) : FnOk P w K mg base CX0 2 f fd ["thing", "low", "high"] spFrom := by
  refine F.ok sc_is_from (fun vs H Q E h => spR_len h) (fun cdv A outer s H vs Q E hr h => ?_)
  obtain ⟨_, _, _, m, ⟨i, lo, hi, rfl, h1, h2, rfl⟩, k⟩ := h
  obtain rfl := Ims.ints (ns := [i, lo, hi]) m
  refine ⟨_, (pss_one (ps_ret (pe_and (pe_df D_is_whole (hr.mono (by decide)) (by rfl) (pa_cons (pv 0) pa_nil)) (pe_one (pe_chain op_le op_le (pv 1) (pv 0) (pv 2)))))), ?_⟩
  refine sd_ret (ed_bl (ev_is (ev_andV (b := true) (ev_bl (ed_call (eds_cons (ed_var rfl (im_int i)) eds_nil) (spR_at ⟨i, rfl, rfl⟩))) fun _ => ?_) rfl)) k
  exact ev_chain (i := lo) (j := i) (l := hi) (ev_var rfl) (ev_var rfl) (ev_var rfl) h1 h2
def spWord : Sp := spR 1 fun ds r => ∃ x, ds = [.str x] ∧ gw x = true ∧ r = .bool true
theorem sc_is_word : FnScope ["thing", "sign"] ["thing"] (defScope (top 15)) := ⟨rfl, rfl, rfl, by decide +kernel, rfl, by decide +kernel, by decide +kernel⟩
theorem ok_is_word {f : Addr} {fd : FuncData} (F : Fun K "is_word" "is_word" (top 15) f fd) (B : Blt mg) (C_MOST_LETTERS : ∃ n, mg "MOST_LETTERS" = some (.int 6 n)) (C_SIGNS : ∃ n, mg "SIGNS" = some (.str SIGNSv n)) : FnOk P w K mg base CX0 1 f fd ["thing"] spWord := by
  obtain ⟨n_MOST_LETTERS, C_MOST_LETTERS⟩ := C_MOST_LETTERS
  obtain ⟨n_SIGNS, C_SIGNS⟩ := C_SIGNS
  refine F.ok sc_is_word (fun vs H Q E h => spR_len h) (fun cdv A outer s H vs Q E hr h => ?_)
  obtain ⟨_, _, _, m, ⟨x, rfl, hx, rfl⟩, k⟩ := h
  obtain rfl := Ims.strs (ns := [x]) m
  have g1 := hx
  unfold gw at g1
  rw [Bool.and_eq_true, Bool.and_eq_true, Bool.and_eq_true, decide_eq_true_eq, decide_eq_true_eq] at g1
  obtain ⟨⟨⟨g1, g2⟩, g3⟩, _⟩ := g1
  refine ⟨_, (pss_one (ps_ret (pe_and (pe_callB (r := rIsi K) call_isi (by rfl) B.isinstance bt_isinstance (pa_cons (pv 0) (pa_cons (pe_bltn (v := .ty "str") (by rfl) B.str bt_str rfl) pa_nil))) (pe_and (pe_chain op_le op_le pe_int (pe_callB call_len_str (by rfl) B.len bt_len (pa_cons (pv 0) pa_nil)) (pe_glob (v := .int 6) (by rfl) C_MOST_LETTERS ⟨_, rfl⟩)) (pe_one (pe_callB (r := rAll K) (cr_all rfl) (by rfl) B.all bt_all (pa_cons (pe_lc (own := [("sign", 1)]) rfl sc_is_word.nd (pi_str (pv 0)) (blkOk_by (own := [("sign", 1)]) (N := ["thing", "sign"]) (sc := defScope (top 15)) (by decide +kernel)) (fun _ _ _ _ _ => (pg_name (i := 1) sc_is_word.nd rfl (Or.inl rfl) (by first | exact Or.inl rfl | exact Or.inr rfl))) (fun _ _ _ _ _ => pts_nil) (fun _ _ _ _ _ => (pe_cmpR op_in_sign (pv 1) (pe_glob (v := .str SIGNSv) (by rfl) C_SIGNS ⟨_, rfl⟩) (by rfl)))) pa_nil))))))), ?_⟩
  refine sd_ret (ed_bl (ev_is (ev_andV (a := true) (b := true) (ev_is (ev_isi (.inr (.inr (.inl rfl))) (ed_var rfl (im_str x))) rfl) fun _ => ev_andV (a := true) (b := true) ?_ fun _ => ?_) rfl)) k
  · exact ev_chain (i := 1) (j := (x.length : Int)) (l := 6) ev_c (ev_lenS (ev_var rfl) (by omega)) ev_c (by omega) (by omega)
  · refine ev_is (ev_allM (enc := fun c => PyData.str ⟨#[c]⟩) (id_str (ev_var rfl)) (by rw [Array.length_toList]; exact Nat.le_trans g2 (by decide)) (fun c => SIGNSv.cps.toList.contains c) fun c hc v H1 e1 mv Kt q => q _ rfl ?_) (congrArg V.bl g3)
    rw [mv.str_iff]
    refine ed_bl (ev_is (ev_op (ev_var rfl) ev_c (rv_val fun H2 _ Q q => ⟨c, SIGNSv, rfl, rfl, q⟩)) ?_)
    exact congrArg V.bl (by simp)
def spWritten : Sp := spR 1 fun ds r => ((∃ b, ds = [.bool b]) ∨ ∃ i, ds = [.int i] ∧ -1000000000 ≤ i ∧ i ≤ 1000000000) ∧ r = .bool true
theorem sc_is_written : FnScope ["thing"] ["thing"] (defScope (top 16)) := ⟨rfl, rfl, rfl, by decide +kernel, rfl, by decide +kernel, by decide +kernel⟩
theorem ok_is_written {f : Addr} {fd : FuncData} (F : Fun K "is_written" "is_written" (top 16) f fd) (D_is_from : Df P w K mg base "is_from" 2 ["thing", "low", "high"] spFrom) (B : Blt mg) (C_MOST : ∃ n, mg "MOST" = some (.int 1000000000 n)) : FnOk P w K mg base CX0 3 f fd ["thing"] spWritten := by
  obtain ⟨n_MOST, C_MOST⟩ := C_MOST
  refine F.ok sc_is_written (fun vs H Q E h => spR_len h) (fun cdv A outer s H vs Q E hr h => ?_)
  obtain ⟨_, _, _, m, ⟨g, rfl⟩, k⟩ := h
  rcases g with ⟨b, rfl⟩ | ⟨i, rfl, h1, h2⟩
  · obtain rfl := Ims.bls (ns := [b]) m
    refine ⟨_, (pss_one (ps_ret (pe_or (pe_callB (r := rIsi K) call_isi (by rfl) B.isinstance bt_isinstance (pa_cons (pv 0) (pa_cons (pe_bltn (v := .ty "bool") (by rfl) B.bool bt_bool rfl) pa_nil))) (pe_one (pe_df D_is_from (hr.mono (by decide)) (by rfl) (pa_cons (pv 0) (pa_cons (pe_un un_neg (pe_glob (v := .int 1000000000) (by rfl) C_MOST ⟨_, rfl⟩)) (pa_cons (pe_glob (v := .int 1000000000) (by rfl) C_MOST ⟨_, rfl⟩) pa_nil)))))))), ?_⟩
    exact sd_ret (ed_bl (ev_is (ev_orV (a := true) (b := true) (ev_isi (.inr (.inl rfl)) (ed_var rfl (im_bl b))) fun e => nomatch e) rfl)) k
  · obtain rfl := Ims.ints (ns := [i]) m
    refine ⟨_, (pss_one (ps_ret (pe_or (pe_callB (r := rIsi K) call_isi (by rfl) B.isinstance bt_isinstance (pa_cons (pv 0) (pa_cons (pe_bltn (v := .ty "bool") (by rfl) B.bool bt_bool rfl) pa_nil))) (pe_one (pe_df D_is_from (hr.mono (by decide)) (by rfl) (pa_cons (pv 0) (pa_cons (pe_un un_neg (pe_glob (v := .int 1000000000) (by rfl) C_MOST ⟨_, rfl⟩)) (pa_cons (pe_glob (v := .int 1000000000) (by rfl) C_MOST ⟨_, rfl⟩) pa_nil)))))))), ?_⟩
    refine sd_ret (ed_bl (ev_is (ev_orV (a := false) (b := true) (ev_isi (.inr (.inl rfl)) (ed_var rfl (im_int i))) fun _ => ?_) rfl)) k
    exact ev_bl (ed_call (eds_cons (ed_var rfl (im_int i)) (eds_cons (ed_int (ev_un ev_c ru_neg)) (eds_cons ed_ci eds_nil))) (spR_at ⟨i, _, _, rfl, h1, h2, rfl⟩))
def spTupleOf : Sp := spR 3 fun ds r => ∃ xs lo hi, ds = [.tuple xs, .int lo, .int hi] ∧ r = .bool (decide (lo ≤ (xs.length : Int)) && decide ((xs.length : Int) ≤ hi))
theorem sc_is_tuple_of : FnScope ["thing", "low", "high"] ["thing", "low", "high"] (defScope (top 17)) := ⟨rfl, rfl, rfl, by decide +kernel, rfl, by decide +kernel, by decide +kernel⟩
theorem ok_is_tuple_of {f : Addr} {fd : FuncData} (F : Fun K "is_tuple_of" "is_tuple_of" (top 17) f fd) (B : Blt mg) : FnOk P w K mg base CX0 1 f fd ["thing", "low", "high"] spTupleOf := by
  refine F.ok sc_is_tuple_of (fun vs H Q E h => spR_len h) (fun cdv A outer s H vs Q E hr h => ?_)
  obtain ⟨_, _, _, m, ⟨xs, lo, hi, rfl, rfl⟩, k⟩ := h
  obtain ⟨v, _, rfl, m1, m2⟩ := m.cons_iff
  obtain rfl := Ims.ints (ns := [lo, hi]) m2
  refine ⟨_, (pss_one (ps_ret (pe_and (pe_callB (r := rIsi K) call_isi (by rfl) B.isinstance bt_isinstance (pa_cons (pv 0) (pa_cons (pe_bltn (v := .ty "tuple") (by rfl) B.tuple bt_tuple rfl) pa_nil))) (pe_one (pe_chain op_le op_le (pv 1) (pe_callB (r := Evl.rLenS K) (CallR_len _) (by rfl) B.len bt_len (pa_cons (pv 0) pa_nil)) (pv 2)))))), ?_⟩
  refine sd_ret (ed_bl (ev_is (ev_andV (a := true) (ev_isi (.inr (.inr (.inr (.inl rfl)))) (ed_var rfl m1)) fun _ => ?_) rfl)) k
  exact ev_chainB (ev_var rfl) (ev_lenT (ed_var rfl m1) rfl) (ev_var rfl)
def spBegins : Sp := spR 3 fun ds r => ∃ x rest many y, ds = [.tuple (.str x :: rest), .int many, .str y] ∧ r = .bool (decide ((rest.length : Int) + 1 = many) && decide (x = y))
theorem sc_begins : FnScope ["thing", "many", "word"] ["thing", "many", "word"] (defScope (top 18)) := ⟨rfl, rfl, rfl, by decide +kernel, rfl, by decide +kernel, by decide +kernel⟩
theorem ok_begins {f : Addr} {fd : FuncData} (F : Fun K "begins" "begins" (top 18) f fd) (D_is_tuple_of : Df P w K mg base "is_tuple_of" 1 ["thing", "low", "high"] spTupleOf) (B : Blt mg) : FnOk P w K mg base CX0 2 f fd ["thing", "many", "word"] spBegins := by
  refine F.ok sc_begins (fun vs H Q E h => spR_len h) (fun cdv A outer s H vs Q E hr h => ?_)
  obtain ⟨_, _, _, m, ⟨x, rest, many, y, rfl, rfl⟩, k⟩ := h
  obtain ⟨v, _, rfl, m1, m2⟩ := m.cons_iff
  obtain rfl := Ims.flat (ds := [.int many, .str y]) m2 rfl
  refine ⟨_, (pss_one (ps_ret (pe_and (pe_df D_is_tuple_of (hr.mono (by decide)) (by rfl) (pa_cons (pv 0) (pa_cons (pv 1) (pa_cons (pv 1) pa_nil)))) (pe_and (pe_callB (r := rIsi K) call_isi (by rfl) B.isinstance bt_isinstance (pa_cons (pe_ix (r := rIxT K) ix_tup (pv 0) pe_int (fun _ _ => rfl)) (pa_cons (pe_bltn (v := .ty "str") (by rfl) B.str bt_str rfl) pa_nil))) (pe_one (pe_cmpR op_eq (pe_ix (r := rIxT K) ix_tup (pv 0) pe_int (fun _ _ => rfl)) (pv 2) (nomark _))))))), ?_⟩
  have hx : EvD (tOp (rIxT K) (tVar 0) (tC (.int 0))) (L2.start ["thing", "many", "word"] (v :: [PyData.int many, PyData.str y].map toV)) H (.str x) := ed_ixT (j := 0) (ed_var rfl m1) ed_ci (ixN_nat (j := 0) (Nat.succ_pos _)) rfl
  refine sd_ret (ed_bl (ev_is (ev_andV (b := decide (x = y)) (ev_bl (ed_call (eds_cons (ed_var rfl m1) (eds_cons (ed_int (ev_var rfl)) (eds_cons (ed_int (ev_var rfl)) eds_nil))) (spR_at ⟨_, many, many, rfl, rfl⟩))) fun _ => ?_) (congrArg V.bl ?_))) k
  · refine ev_andV (a := true) (ev_isi (.inr (.inr (.inl rfl))) hx) fun _ => ?_
    refine ev_is (ev_op (ev_str hx) (ev_var rfl) (rv_eq rfl)) (congrArg V.bl ?_)
    exact decide_eq_decide.mpr ⟨fun e => V.str.inj e, fun e => congrArg V.str e⟩
  · rw [List.length_cons]
    congr 1
    by_cases e : (rest.length : Int) + 1 = many
    · subst e
      simp
    · rw [decide_eq_false e, Bool.and_eq_false_iff, decide_eq_false_iff_not, decide_eq_false_iff_not]
      omega
end
end Mt

set_option maxHeartbeats 2000000
/-! the nets, as they are generated -/
namespace Mt
open PySem L2 Evl
inductive Opn where
  | of (n : Str)
  | one
  | fls
  | own
def Opn.enc : Opn → PyData
  | .of n => .tuple [.str "of", .str n]
  | .one => .tuple [.str "is", .int 1]
  | .fls => .tuple [.str "is", .bool false]
  | .own => .tuple [.str "own"]
def Opn.ok : Opn → Bool
  | .of n => gw n
  | _ => true
inductive Deed where
  | note (o : Opn)
  | put (w : Str) (o : Opn) (m : Nat)
  | set (o : Opn)
def Deed.enc : Deed → PyData
  | .note o => .tuple [.str "note", o.enc]
  | .set o => .tuple [.str "set", .str "n", o.enc]
  | .put w o m => .tuple [.str "put", .str w, .tuple (List.replicate m o.enc)]
def Deed.op : Deed → Opn
  | .note o => o
  | .set o => o
  | .put _ o _ => o
abbrev Pls := List (Str × Nat)
def Deed.ok (pl : Pls) : Deed → Prop
  | .put w o m => o.ok = true ∧ (w, m) ∈ pl
  | .note o => o.ok = true
  | .set o => o.ok = true
abbrev Head := Str × List Str
def asN (n : Str) : PyData := .tuple [.str "as", .str n]
def slotsD (ns : List Str) : PyData := .tuple (ns.map asN)
def Head.enc (h : Head) : PyData := .tuple [.str h.1, slotsD h.2]
structure Rule where
  heads : List Head
  deeds : List Deed
def Rule.hd (r : Rule) : PyData := .tuple (r.heads.map Head.enc)
def Rule.dd (r : Rule) : PyData := .tuple (r.deeds.map Deed.enc)
def Rule.enc (r : Rule) : PyData := .tuple [r.hd, r.dd]
structure Net where
  pl : Pls
  rules : List Rule
def plE (p : Str × Nat) : PyData := .tuple [.str p.1, .int (p.2 : Int)]
def plD (pl : Pls) : PyData := .tuple (pl.map plE)
def Net.enc (n : Net) : PyData := .tuple [.str "net", plD n.pl, .tuple (n.rules.map Rule.enc)]
structure PlOk (pl : Pls) : Prop where
  lo : 1 ≤ pl.length
  hi : pl.length ≤ 6
  gw : ∀ p ∈ pl, gw p.1 = true
  many : ∀ p ∈ pl, p.2 ≤ 2
  nd : (pl.map Prod.fst).Nodup
structure HeadsOk (pl : Pls) (hs : List Head) : Prop where
  lo : 1 ≤ hs.length
  hi : hs.length ≤ 4
  at_ : ∀ h ∈ hs, (h.1, h.2.length) ∈ pl
  gw : ∀ h ∈ hs, ∀ n ∈ h.2, gw n = true
  nd : (hs.map Prod.fst).Nodup
  ns : (hs.flatMap Prod.snd).Nodup
/-- each asks only for what is known -/
def Knw : List Str → List Deed → Prop
  | _, [] => True
  | kn, d :: ds => (∀ n, d.op = .of n → n ∈ kn) ∧ Knw (match d with
    | .set _ => "n" :: kn
    | _ => kn) ds
structure RuleOk (pl : Pls) (r : Rule) : Prop where
  hd : HeadsOk pl r.heads
  hi : r.deeds.length ≤ 12
  dd : ∀ d ∈ r.deeds, d.ok pl
  kn : Knw (r.heads.flatMap Prod.snd) r.deeds
structure NetOk (n : Net) : Prop where
  pl : PlOk n.pl
  hi : n.rules.length ≤ 8
  rl : ∀ r ∈ n.rules, RuleOk n.pl r
theorem begins_yes {x : Str} {rest : List PyData} {many : Int} (h : (rest.length : Int) + 1 = many) : SpD spBegins [.tuple (.str x :: rest), .int many, .str x] (.bool true) :=
  spR_at ⟨x, rest, many, x, rfl, by rw [decide_eq_true h, decide_eq_true rfl]; rfl⟩
theorem begins_len {x y : Str} {rest : List PyData} {many : Int} (h : ¬ (rest.length : Int) + 1 = many) : SpD spBegins [.tuple (.str x :: rest), .int many, .str y] (.bool false) :=
  spR_at ⟨x, rest, many, y, rfl, by rw [decide_eq_false h]; rfl⟩
theorem begins_word {x y : Str} {rest : List PyData} {many : Int} (h : ¬ x = y) : SpD spBegins [.tuple (.str x :: rest), .int many, .str y] (.bool false) :=
  spR_at ⟨x, rest, many, y, rfl, by rw [decide_eq_false h, Bool.and_false]⟩
theorem tupOf_yes {xs : List PyData} {lo hi : Int} (h1 : lo ≤ (xs.length : Int)) (h2 : (xs.length : Int) ≤ hi) : SpD spTupleOf [.tuple xs, .int lo, .int hi] (.bool true) :=
  spR_at ⟨xs, lo, hi, rfl, by rw [decide_eq_true h1, decide_eq_true h2]; rfl⟩
theorem word_yes {x : Str} (h : gw x = true) : SpD spWord [.str x] (.bool true) := spR_at ⟨x, rfl, h, rfl⟩
theorem from_yes {i lo hi : Int} (h1 : lo ≤ i) (h2 : i ≤ hi) : SpD spFrom [.int i, .int lo, .int hi] (.bool true) := spR_at ⟨i, lo, hi, rfl, h1, h2, rfl⟩
theorem written_one : SpD spWritten [.int 1] (.bool true) := spR_at ⟨.inr ⟨1, rfl, by decide, by decide⟩, rfl⟩
theorem written_fls : SpD spWritten [.bool false] (.bool true) := spR_at ⟨.inl ⟨false, rfl⟩, rfl⟩
/-! short readings -/
section
variable {K : PySem.W.Frag} {σ : L2.St} {H H' : Hp} {ta tb te tx tk tv : TE} {tt t u : TT} {x y z v : V} {b : Bool} {d d0 d1 d2 d3 : PyData} {ds es : List PyData} {D : Ends} {tu tw tz : TS}
theorem ed_ix0 (ha : EvD ta σ H (.tuple (d0 :: ds))) : EvD (tOp (rIxT K) ta (tC (.int 0))) σ H d0 := ed_ixT (j := 0) ha ed_ci (ixN_nat (j := 0) (Nat.succ_pos _)) rfl
theorem ed_ix1 (ha : EvD ta σ H (.tuple (d0 :: d1 :: ds))) : EvD (tOp (rIxT K) ta (tC (.int 1))) σ H d1 := ed_ixT (j := 1) ha ed_ci (ixN_nat (j := 1) (Nat.succ_lt_succ (Nat.succ_pos _))) rfl
theorem ed_ix2 (ha : EvD ta σ H (.tuple (d0 :: d1 :: d2 :: ds))) : EvD (tOp (rIxT K) ta (tC (.int 2))) σ H d2 := ed_ixT (j := 2) ha ed_ci (ixN_nat (j := 2) (Nat.succ_lt_succ (Nat.succ_lt_succ (Nat.succ_pos _)))) rfl
theorem eds1 (h : EvD ta σ H d) : EvDs (tCons ta tNil) σ H [d] := eds_cons h eds_nil
theorem eds2 (h : EvD ta σ H d) (h1 : EvD tb σ H d1) : EvDs (tCons ta (tCons tb tNil)) σ H [d, d1] := eds_cons h (eds1 h1)
theorem eds3 (h : EvD ta σ H d) (h1 : EvD tb σ H d1) (h2 : EvD te σ H d2) : EvDs (tCons ta (tCons tb (tCons te tNil))) σ H [d, d1, d2] := eds_cons h (eds2 h1 h2)
theorem ev_t (h : EvD te σ H (.bool true)) : Ev te σ H (.bl true) := ev_bl h
theorem ev_f (h : EvD te σ H (.bool false)) : Ev te σ H (.bl false) := ev_bl h
theorem ev_and2 (h1 : Ev ta σ H (.bl true)) (h2 : Ev tb σ H (.bl true)) : Ev (tAndV ta tb) σ H (.bl true) := ev_is (ev_andV h1 fun _ => h2) rfl
theorem ev_or1 (h1 : Ev ta σ H (.bl true)) : Ev (tOrV ta tb) σ H (.bl true) := ev_is (ev_orV (b := true) h1 fun e => nomatch e) rfl
theorem ev_or2 (h1 : Ev ta σ H (.bl false)) (h2 : Ev tb σ H (.bl true)) : Ev (tOrV ta tb) σ H (.bl true) := ev_is (ev_orV (b := true) h1 fun _ => h2) rfl
/-- a call with one list -/
theorem ed_callS {sp : Sp} {E : XK} (h : EvS te σ H ds) (hs : ∀ v H1, Ex H H1 → LsAt H1 v ds → ∀ Q : VK, (∀ v H2, Ex H1 H2 → Im H2 v d → Q v H2) → ∀ E, sp [v] H1 Q E) : EvD (tCall sp [] E (tCons te tNil)) σ H d := fun H1 e Q q => h H1 e _ fun v H2 e2 m => by
  show sp ([v] ++ []) H2 Q E
  rw [List.append_nil]
  exact hs v H2 (e.trans e2) m Q (fun v H3 e3 m3 => q v H3 (e2.trans e3) m3) E
/-- a call with a value and a data -/
theorem ed_callV {sp : Sp} {E : XK} (h : Ev ta σ H x) (h2 : EvD tb σ H d1) (hs : ∀ z H1, Ex H H1 → Im H1 z d1 → ∀ Q : VK, (∀ v H2, Ex H1 H2 → Im H2 v d → Q v H2) → ∀ E, sp [x, z] H1 Q E) : EvD (tCall sp [] E (tCons ta (tCons tb tNil))) σ H d := fun H1 e Q q => h H1 e _ fun H2 e2 => h2 H2 (e.trans e2) _ fun z H3 e3 m => by
  show sp ([x, z] ++ []) H3 Q E
  rw [List.append_nil]
  exact hs z H3 ((e.trans e2).trans e3) m Q (fun v H4 e4 m4 => q v H4 ((e2.trans e3).trans e4) m4) E
theorem ed_callV1 {sp : Sp} {E : XK} (h : Ev ta σ H x) (h2 : EvD tb σ H d1) (h3 : Ev te σ H y) (hs : ∀ z H1, Ex H H1 → Im H1 z d1 → ∀ Q : VK, (∀ v H2, Ex H1 H2 → Im H2 v d → Q v H2) → ∀ E, sp [x, z, y] H1 Q E) : EvD (tCall sp [] E (tCons ta (tCons tb (tCons te tNil)))) σ H d := fun H1 e Q q => h H1 e _ fun H2 e2 => h2 H2 (e.trans e2) _ fun z H3 e3 m => h3 H3 ((e.trans e2).trans e3) _ fun H4 e4 => by
  show sp ([x, z, y] ++ []) H4 Q E
  rw [List.append_nil]
  exact hs z H4 (((e.trans e2).trans e3).trans e4) (m.ex e4) Q (fun v H5 e5 m5 => q v H5 (((e2.trans e3).trans e4).trans e5) m5) E
theorem ed_callV2 {sp : Sp} {E : XK} (h : Ev ta σ H x) (h2 : EvD tb σ H d1) (h3 : Ev te σ H y) (h4 : Ev tx σ H v) (hs : ∀ z H1, Ex H H1 → Im H1 z d1 → ∀ Q : VK, (∀ v H2, Ex H1 H2 → Im H2 v d → Q v H2) → ∀ E, sp [x, z, y, v] H1 Q E) : EvD (tCall sp [] E (tCons ta (tCons tb (tCons te (tCons tx tNil))))) σ H d := fun H1 e Q q => h H1 e _ fun H2 e2 => h2 H2 (e.trans e2) _ fun z H3 e3 m => h3 H3 ((e.trans e2).trans e3) _ fun H4 e4 => h4 H4 (((e.trans e2).trans e3).trans e4) _ fun H5 e5 => by
  show sp ([x, z, y, v] ++ []) H5 Q E
  rw [List.append_nil]
  exact hs z H5 ((((e.trans e2).trans e3).trans e4).trans e5) ((m.ex e4).ex e5) Q (fun v H6 e6 m6 => q v H6 ((((e2.trans e3).trans e4).trans e5).trans e6) m6) E
theorem g_name {j : Nat} {Kt : L2.St → Hp → Prop} (q : Kt (σ.set j (some x)) H) : gName j x σ H Kt := q
theorem q_asgE {g : TG} (h : Ev te σ H v) (k : ∀ H1, Ex H H1 → g v σ H1 (tz D)) : tSeq (tAsg te g) tz D σ H := h H (Ex.refl H) _ k
theorem qd_asgE {g : TG} (h : EvD te σ H d) (k : ∀ v H1, Ex H H1 → Im H1 v d → g v σ H1 (tz D)) : tSeq (tAsg te g) tz D σ H := h H (Ex.refl H) _ k
theorem et_nt (h : Ev te σ H (.bl true)) : EvT (tNot (tTest te)) σ H false := et_is (et_not (et_test h)) rfl
theorem et_or2 (h1 : EvT t σ H false) (h2 : EvT u σ H false) : EvT (tOr t u) σ H false := et_is (et_or h1 fun _ => h2) rfl
theorem et_or1 (h1 : EvT t σ H true) : EvT (tOr t u) σ H true := et_is (et_or (b := true) h1 fun e => nomatch e) rfl
theorem et_and2 (h1 : EvT t σ H true) (h2 : EvT u σ H true) : EvT (tAnd t u) σ H true := et_is (et_and h1 fun _ => h2) rfl
theorem et_and1 (h1 : EvT t σ H false) : EvT (tAnd t u) σ H false := et_is (et_and (b := false) h1 fun e => nomatch e) rfl
theorem q_no (h : EvT t σ H false) (k : ∀ H1, Ex H H1 → tz D σ H1) : tSeq (tIfS t tu tNext) tz D σ H := q_when h (fun e => nomatch e) fun _ => k
theorem q_yes (h : EvT t σ H true) (k : ∀ H1, Ex H H1 → tu { D with nx := tz D } σ H1) : tSeq (tIfS t tu tNext) tz D σ H := q_when h (fun _ => k) fun e => nomatch e
theorem s_no (h : EvT t σ H false) (k : ∀ H1, Ex H H1 → D.nx σ H1) : tIfS t tu tNext D σ H := s_when h (fun e => nomatch e) fun _ => k
theorem s_yes (h : EvT t σ H true) (k : ∀ H1, Ex H H1 → tu D σ H1) : tIfS t tu tNext D σ H := s_when h (fun _ => k) fun e => nomatch e
theorem ev_eqS {a b : Str} (h1 : EvD ta σ H (.str a)) (h2 : EvD tb σ H (.str b)) : Ev (tOp rEq ta tb) σ H (.bl (decide (a = b))) :=
  ev_is (ev_op (ev_str h1) (ev_str h2) (rv_eq rfl)) (congrArg V.bl (decide_eq_decide.mpr ⟨fun e => V.str.inj e, fun e => congrArg V.str e⟩))
theorem ev_neS {a b : Str} (h1 : EvD ta σ H (.str a)) (h2 : EvD tb σ H (.str b)) : Ev (tOp rNe ta tb) σ H (.bl (!decide (a = b))) :=
  ev_is (ev_op (ev_str h1) (ev_str h2) (rv_ne rfl)) (congrArg V.bl (congrArg (!·) (decide_eq_decide.mpr ⟨fun e => V.str.inj e, fun e => congrArg V.str e⟩)))
theorem ev_eqSy {a : Str} (h1 : EvD ta σ H (.str a)) (h2 : EvD tb σ H (.str a)) : Ev (tOp rEq ta tb) σ H (.bl true) := ev_is (ev_eqS h1 h2) (congrArg V.bl (decide_eq_true rfl))
theorem ev_eqSn {a b : Str} (h1 : EvD ta σ H (.str a)) (h2 : EvD tb σ H (.str b)) (hn : ¬ a = b) : Ev (tOp rEq ta tb) σ H (.bl false) := ev_is (ev_eqS h1 h2) (congrArg V.bl (decide_eq_false hn))
theorem ev_eqI {a b : Int} (h1 : Ev ta σ H (.int a)) (h2 : Ev tb σ H (.int b)) : Ev (tOp rEq ta tb) σ H (.bl (decide (a = b))) :=
  ev_is (ev_op h1 h2 (rv_eq rfl)) (congrArg V.bl (decide_eq_decide.mpr ⟨fun e => V.int.inj e, fun e => congrArg V.int e⟩))
theorem ev_neI {a b : Int} (h1 : Ev ta σ H (.int a)) (h2 : Ev tb σ H (.int b)) : Ev (tOp rNe ta tb) σ H (.bl (!decide (a = b))) :=
  ev_is (ev_op h1 h2 (rv_ne rfl)) (congrArg V.bl (congrArg (!·) (decide_eq_decide.mpr ⟨fun e => V.int.inj e, fun e => congrArg V.int e⟩)))
theorem ev_neIn {a : Int} (h1 : Ev ta σ H (.int a)) (h2 : Ev tb σ H (.int a)) : Ev (tOp rNe ta tb) σ H (.bl false) := ev_is (ev_neI h1 h2) (congrArg V.bl (by rw [decide_eq_true rfl]; rfl))
theorem ev_isN (h : Ev ta σ H x) : Ev (tOp rIsN ta (tC .non)) σ H (.bl (decide (x = .non))) := fun H1 e Q q => h H1 e _ fun H2 e2 => ⟨rfl, q H2 e2⟩
theorem ev_notN (h : Ev ta σ H x) : Ev (tOp rNotN ta (tC .non)) σ H (.bl (!decide (x = .non))) := fun H1 e Q q => h H1 e _ fun H2 e2 => ⟨rfl, q H2 e2⟩
theorem ev_isNn {a : Addr} (h : Ev ta σ H (.ref a)) : Ev (tOp rIsN ta (tC .non)) σ H (.bl false) := ev_is (ev_isN h) (congrArg V.bl (decide_eq_false fun e => nomatch e))
theorem ev_notNy {a : Addr} (h : Ev ta σ H (.ref a)) : Ev (tOp rNotN ta (tC .non)) σ H (.bl true) := ev_is (ev_notN h) (congrArg V.bl (by rw [decide_eq_false fun e => nomatch e]; rfl))
theorem ev_notNn (h : Ev ta σ H .non) : Ev (tOp rNotN ta (tC .non)) σ H (.bl false) := ev_is (ev_notN h) (congrArg V.bl (by rw [decide_eq_true rfl]; rfl))
theorem ev_isNy (h : Ev ta σ H .non) : Ev (tOp rIsN ta (tC .non)) σ H (.bl true) := ev_is (ev_isN h) (congrArg V.bl (decide_eq_true rfl))
end
theorem so_as : ¬ (("as" : Str) = "is") := by decide +kernel
theorem so_1 : ¬ (("is" : Str) = "as") := by decide +kernel
theorem so_2 : ¬ (("is" : Str) = "of") := by decide +kernel
theorem so_3 : ¬ (("is" : Str) = "own") := by decide +kernel
theorem so_4 : ¬ (("own" : Str) = "of") := by decide +kernel
theorem so_5 : ¬ (("note" : Str) = "put") := by decide +kernel
theorem so_6 : ¬ (("note" : Str) = "answer") := by decide +kernel
theorem so_7 : ¬ (("set" : Str) = "put") := by decide +kernel
theorem so_8 : ¬ (("set" : Str) = "answer") := by decide +kernel
theorem so_9 : ¬ (("set" : Str) = "note") := by decide +kernel
theorem so_10 : ¬ (("set" : Str) = "lay") := by decide +kernel
theorem so_11 : ¬ (("set" : Str) = "when") := by decide +kernel
theorem so_12 : ¬ (("set" : Str) = "let") := by decide +kernel
theorem so_13 : ¬ (("set" : Str) = "make") := by decide +kernel
theorem so_14 : ¬ (("set" : Str) = "place") := by decide +kernel
theorem so_15 : ¬ (("set" : Str) = "call") := by decide +kernel
theorem so_16 : ¬ (("put" : Str) = "answer") := by decide +kernel
theorem so_17 : ¬ (("put" : Str) = "set") := by decide +kernel
theorem so_18 : ¬ (("note" : Str) = "set") := by decide +kernel
theorem gw_n : gw "n" = true := by decide +kernel
theorem gw_net : gw "net" = true := by decide +kernel
/-! rules with K named -/
section
variable {X : Cx} {K : PySem.W.Frag} {tg e : Expr} {te tl : TE} {pos : Pos}
theorem pg_tupK {es : List Expr} {k : Nat} {t : TGs} {n : Nat} (hK : X.K = K) (hc : X.calm = true) (h : PGs X es t)
    (hn : (assignEach es X.env).length = n := by rfl) (hst : (assignEach es X.env).findIdx? (·.1) = none := by rfl) : PG X (.Tuple es k pos) (gTup K n t) := hK ▸ pg_tup hc h hn hst
theorem pi_tupK (hK : X.K = K) (hl : PE X e tl) : PI X tg e (iTup K tl) := hK ▸ pi_tup hl
theorem pi_listK (hK : X.K = K) (hl : PE X e tl) : PI X tg e (iList K tl) := hK ▸ pi_list hl
theorem pe_fldK {f : Str} (hK : X.K = K) (he : PE X e te) (hb : attributeBase e f X.env (eval e X.env) = eval e X.env) : PE X (.Attribute e f pos) (tFld K te f) := hK ▸ pe_fld he hb
end
end Mt

set_option maxHeartbeats 4000000
/-! programs -/
namespace Mt
open PySem L2 Evl
section
variable {P : Program} {w : World} {K : PySem.W.Frag} {mg : Str → Option Value} {base : Heap}
/-- unlike texts -/
def spUnlike : Sp := fun vs H Q _ => ∃ (v : V) (ns : List Str), vs = [v] ∧ LsAt H v (ns.map PyData.str) ∧ ns.Nodup ∧ ns.length ≤ 40000 ∧ ∀ H2, Ex H H2 → Q (.bl true) H2
theorem sc_are_unlike : FnScope ["some", "at", "one"] ["some"] (defScope (top 29)) := ⟨rfl, rfl, rfl, by decide +kernel, rfl, by decide +kernel, by decide +kernel⟩
theorem ok_are_unlike {f : Addr} {fd : FuncData} (F : Fun K "are_unlike" "are_unlike" (top 29) f fd) (B : Blt mg) : FnOk P w K mg base CX0 1 f fd ["some"] spUnlike := by
  refine F.ok sc_are_unlike (fun vs H Q E h => (by obtain ⟨v, ns, rfl, _⟩ := h; rfl)) (fun cdv A outer s H vs Q E hr h => ?_)
  obtain ⟨v, ns, rfl, m, nd, hz, k⟩ := h
  refine ⟨_, (pss_one (ps_ret (pe_callB (r := rAll K) (cr_all rfl) (by rfl) B.all bt_all (pa_cons (pe_lc (own := [("at", 1), ("one", 2)]) rfl sc_are_unlike.nd (pi_enum (by rfl) B.enumerate (pa_cons (pv 0) pa_nil)) (blkOk_by (own := [("at", 1), ("one", 2)]) (N := ["some", "at", "one"]) (sc := defScope (top 29)) (by decide +kernel)) (fun _ _ _ _ _ => (pg_tupK (K := K) (n := 2) rfl rfl (pgs_cons (pg_name (i := 1) sc_are_unlike.nd rfl (Or.inl rfl) (by first | exact Or.inl rfl | exact Or.inr rfl)) (pgs_cons (pg_name (i := 2) sc_are_unlike.nd rfl (Or.inl rfl) (by first | exact Or.inl rfl | exact Or.inr rfl)) pgs_nil)))) (fun _ _ _ _ _ => pts_nil) (fun _ _ _ _ _ => (pe_cmpR (r := rIn K true) op_notIn_seq (pv 2) (pe_slice (r := rSlL K) sl_list (pv 0) po_none (po_some (pv 1))) (by rfl)))) pa_nil)))), ?_⟩
  refine s_ret (ev_allT (enc := fun p : Str × Nat => PyData.tuple [.int (p.2 : Int), .str p.1]) (id_enumz (es_var rfl m)) (by rw [zip_len]; exact hz) fun a ha x H1 e mx Kt q => g_pair mx fun y z my mz => q _ rfl ?_) k
  have hat := zip_at ha
  rw [my.int_iff, mz.str_iff]
  obtain ⟨p, xs, rfl, hp, mk⟩ := m.ex e
  obtain rfl := mk.strs
  refine ed_bl (ev_is (ev_opL (ev_var rfl) (el_sl (ev_var rfl) eo_none (eo_some (ev_var rfl)) (sq_of hp)) fun q H2 h2 e2 => rv_niL (sq_of h2) rfl ?_) (congrArg V.bl ?_))
  · rw [cut_take, ← List.map_take]
    exact all_strs _
  · rw [cut_take, ← List.map_take, inV_str]
    rw [decide_eq_false]
    · rfl
    · intro hm
      obtain ⟨j, hj, e3⟩ := List.getElem_of_mem hm
      rw [List.length_take] at hj
      rw [List.getElem_take] at e3
      have h3 : ns[j]? = ns[a.2]? := by rw [hat, ← e3, List.getElem?_eq_getElem]
      have := (List.getElem?_inj (i := j) (j := a.2) (by omega) nd).mp h3
      omega
/-- a place -/
def spNamed : Sp := spR 1 fun ds r => ∃ p : Str × Nat, ds = [plE p] ∧ gw p.1 = true ∧ p.2 ≤ 3 ∧ r = .bool true
theorem sc_is_named_place : FnScope ["thing"] ["thing"] (defScope (top 30)) := ⟨rfl, rfl, rfl, by decide +kernel, rfl, by decide +kernel, by decide +kernel⟩
theorem ok_is_named_place {f : Addr} {fd : FuncData} (F : Fun K "is_named_place" "is_named_place" (top 30) f fd) (D_is_from : Df P w K mg base "is_from" 2 ["thing", "low", "high"] spFrom) (D_is_tuple_of : Df P w K mg base "is_tuple_of" 1 ["thing", "low", "high"] spTupleOf) (D_is_word : Df P w K mg base "is_word" 1 ["thing"] spWord) (C_MOST_MANY : ∃ n, mg "MOST_MANY" = some (.int 3 n)) : FnOk P w K mg base CX0 3 f fd ["thing"] spNamed := by
  obtain ⟨n_MOST_MANY, C_MOST_MANY⟩ := C_MOST_MANY
  refine F.ok sc_is_named_place (fun vs H Q E h => spR_len h) (fun cdv A outer s H vs Q E hr h => ?_)
  obtain ⟨_, _, _, m, ⟨p, rfl, h1, h2, rfl⟩, k⟩ := h
  obtain ⟨v, _, rfl, m1, m2⟩ := m.cons_iff
  obtain rfl := m2.nil_iff
  refine ⟨_, (pss_one (ps_ret (pe_and (pe_df D_is_tuple_of (hr.mono (by decide)) (by rfl) (pa_cons (pv 0) (pa_cons pe_int (pa_cons pe_int pa_nil)))) (pe_and (pe_df D_is_word (hr.mono (by decide)) (by rfl) (pa_cons (pe_ix (r := rIxT K) ix_tup (pv 0) pe_int (fun _ _ => rfl)) pa_nil)) (pe_one (pe_df D_is_from (hr.mono (by decide)) (by rfl) (pa_cons (pe_ix (r := rIxT K) ix_tup (pv 0) pe_int (fun _ _ => rfl)) (pa_cons pe_int (pa_cons (pe_glob (v := .int 3) (by rfl) C_MOST_MANY ⟨_, rfl⟩) pa_nil))))))))), ?_⟩
  have hv : EvD (tVar 0) (L2.start ["thing"] [v]) H (plE p) := ed_var rfl m1
  exact sd_ret (ed_bl (ev_and2 (ev_t (ed_call (eds3 hv ed_ci ed_ci) (tupOf_yes (Int.le_refl 2) (Int.le_refl 2)))) (ev_and2 (ev_t (ed_call (eds1 (ed_ix0 hv)) (word_yes h1))) (ev_t (ed_call (eds3 (ed_ix1 hv) ed_ci ed_ci) (from_yes (by omega) (by omega))))))) k
def spKind : Sp := spR 1 fun ds r => ∃ n : Net, ds = [n.enc] ∧ NetOk n ∧ r = .bool true
theorem sc_is_kind : FnScope ["thing", "one", "word", "many"] ["thing"] (defScope (top 31)) := ⟨rfl, rfl, rfl, by decide +kernel, rfl, by decide +kernel, by decide +kernel⟩
theorem ok_is_kind {f : Addr} {fd : FuncData} (F : Fun K "is_kind" "is_kind" (top 31) f fd) (D_are_unlike : Df P w K mg base "are_unlike" 1 ["some"] spUnlike) (D_is_named_place : Df P w K mg base "is_named_place" 3 ["thing"] spNamed) (D_is_tuple_of : Df P w K mg base "is_tuple_of" 1 ["thing", "low", "high"] spTupleOf) (D_is_word : Df P w K mg base "is_word" 1 ["thing"] spWord) (B : Blt mg) (C_MOST_PLACES : ∃ n, mg "MOST_PLACES" = some (.int 6 n)) (C_MOST_RULES : ∃ n, mg "MOST_RULES" = some (.int 8 n)) : FnOk P w K mg base CX0 4 f fd ["thing"] spKind := by
  obtain ⟨n_MOST_PLACES, C_MOST_PLACES⟩ := C_MOST_PLACES
  obtain ⟨n_MOST_RULES, C_MOST_RULES⟩ := C_MOST_RULES
  refine F.ok sc_is_kind (fun vs H Q E h => spR_len h) (fun cdv A outer s H vs Q E hr h => ?_)
  obtain ⟨_, _, _, m, ⟨n, rfl, ok, rfl⟩, k⟩ := h
  obtain ⟨v, _, rfl, m1, m2⟩ := m.cons_iff
  obtain rfl := m2.nil_iff
  refine ⟨_, (pss_cons (ps_if (PW.pt (pw_or (pt_not (pt_val (pe_df D_is_tuple_of (hr.mono (by decide)) (by rfl) (pa_cons (pv 0) (pa_cons pe_int (pa_cons pe_int pa_nil)))))) (pw_or (pt_not (pt_val (pe_df D_is_word (hr.mono (by decide)) (by rfl) (pa_cons (pe_ix (r := rIxT K) ix_tup (pv 0) pe_int (fun _ _ => rfl)) pa_nil)))) (pw_or1 (pt_not (pt_val (pe_df D_is_tuple_of (hr.mono (by decide)) (by rfl) (pa_cons (pe_ix (r := rIxT K) ix_tup (pv 0) pe_int (fun _ _ => rfl)) (pa_cons pe_int (pa_cons (pe_glob (v := .int 6) (by rfl) C_MOST_PLACES ⟨_, rfl⟩) pa_nil)))))))))) (pss_one (ps_ret pe_bl)) pss_nil)
      (pss_cons (ps_if (PW.pt (pw_or (pt_not (pt_val (pe_callB (r := rAll K) (cr_all rfl) (by rfl) B.all bt_all (pa_cons (pe_lc (own := [("one", 1)]) rfl sc_is_kind.nd (pi_tupK (K := K) rfl (pe_ix (r := rIxT K) ix_tup (pv 0) pe_int (fun _ _ => rfl))) (blkOk_by (own := [("one", 1)]) (N := ["thing", "one", "word", "many"]) (sc := defScope (top 31)) (by decide +kernel)) (fun _ _ _ _ _ => (pg_name (i := 1) sc_is_kind.nd rfl (Or.inl rfl) (by first | exact Or.inl rfl | exact Or.inr rfl))) (fun _ _ _ _ _ => pts_nil) (fun _ _ _ _ _ => (pe_df D_is_named_place (hr.mono (by decide)) (by rfl) (pa_cons (pv 1) pa_nil)))) pa_nil)))) (pw_or1 (pt_not (pt_val (pe_df D_are_unlike (hr.mono (by decide)) (by rfl) (pa_cons (pe_lc (own := [("word", 2), ("many", 3)]) rfl sc_is_kind.nd (pi_tupK (K := K) rfl (pe_ix (r := rIxT K) ix_tup (pv 0) pe_int (fun _ _ => rfl))) (blkOk_by (own := [("word", 2), ("many", 3)]) (N := ["thing", "one", "word", "many"]) (sc := defScope (top 31)) (by decide +kernel)) (fun _ _ _ _ _ => (pg_tupK (K := K) (n := 2) rfl rfl (pgs_cons (pg_name (i := 2) sc_is_kind.nd rfl (Or.inl rfl) (by first | exact Or.inl rfl | exact Or.inr rfl)) (pgs_cons (pg_name (i := 3) sc_is_kind.nd rfl (Or.inl rfl) (by first | exact Or.inl rfl | exact Or.inr rfl)) pgs_nil)))) (fun _ _ _ _ _ => pts_nil) (fun _ _ _ _ _ => (pv 2))) pa_nil))))))) (pss_one (ps_ret pe_bl)) pss_nil)
      (pss_one (ps_ret (pe_df D_is_tuple_of (hr.mono (by decide)) (by rfl) (pa_cons (pe_ix (r := rIxT K) ix_tup (pv 0) pe_int (fun _ _ => rfl)) (pa_cons pe_int (pa_cons (pe_glob (v := .int 8) (by rfl) C_MOST_RULES ⟨_, rfl⟩) pa_nil)))))))), ?_⟩
  have hv : ∀ H1, Ex H H1 → EvD (tVar 0) (L2.start ["thing", "one", "word", "many"] [v]) H1 n.enc := fun H1 e => ed_var rfl (m1.ex e)
  have lp : ((n.pl.map plE).length : Int) = (n.pl.length : Int) := by rw [List.length_map]
  have l1 := ok.pl.lo
  have l2 := ok.pl.hi
  have l3 := ok.hi
  refine q_no (et_or2 (et_nt (ev_t (ed_call (eds3 (hv _ (Ex.refl _)) ed_ci ed_ci) (tupOf_yes (Int.le_refl 3) (Int.le_refl 3))))) (et_or2 (et_nt (ev_t (ed_call (eds1 (ed_ix0 (hv _ (Ex.refl _)))) (word_yes gw_net)))) (et_nt (ev_t (ed_call (eds3 (ed_ix1 (hv _ (Ex.refl _))) ed_ci ed_ci) (tupOf_yes (by rw [lp]; omega) (by rw [lp]; omega))))))) fun H1 e1 => ?_
  refine q_no (et_or2 (et_nt ?_) (et_nt ?_)) fun H2 e2 => ?_
  · refine ev_allT (enc := plE) (id_tup (ed_ix1 (hv _ e1))) (by omega) fun a ha x H2 e2 mx Kt q => q _ rfl ?_
    exact ed_call (eds1 (ed_var rfl mx)) (spR_at ⟨a, rfl, ok.pl.gw a ha, Nat.le_trans (ok.pl.many a ha) (by decide), rfl⟩)
  · refine ev_t (ed_callS (EvN.s (en_map (enc := plE) (id_tup (ed_ix1 (hv _ e1))) (by omega) (fun p => .str p.1) fun a ha x H2 e2 mx Kt q => g_pair mx fun y z my mz => q _ rfl (ed_var rfl my))) fun v H2 e2 ls Q q E => ⟨v, n.pl.map Prod.fst, rfl, by rw [List.map_map]; exact ls, ok.pl.nd, by rw [List.length_map]; omega, fun H3 e3 => q _ _ e3 (.bl true)⟩)
  · exact sd_ret (ed_call (eds3 (ed_ix2 (hv _ (e1.trans e2))) ed_ci ed_ci) (tupOf_yes (by omega) (by rw [List.length_map]; omega))) (fun v H3 e3 mv => k v H3 ((e1.trans e2).trans e3) mv)
def spSlot : Sp := spR 1 fun ds r => ∃ n, ds = [asN n] ∧ gw n = true ∧ r = .bool true
theorem sc_is_slot : FnScope ["thing"] ["thing"] (defScope (top 32)) := ⟨rfl, rfl, rfl, by decide +kernel, rfl, by decide +kernel, by decide +kernel⟩
theorem ok_is_slot {f : Addr} {fd : FuncData} (F : Fun K "is_slot" "is_slot" (top 32) f fd) (D_begins : Df P w K mg base "begins" 2 ["thing", "many", "word"] spBegins) (D_is_word : Df P w K mg base "is_word" 1 ["thing"] spWord) (D_is_written : Df P w K mg base "is_written" 3 ["thing"] spWritten) : FnOk P w K mg base CX0 4 f fd ["thing"] spSlot := by
  refine F.ok sc_is_slot (fun vs H Q E h => spR_len h) (fun cdv A outer s H vs Q E hr h => ?_)
  obtain ⟨_, _, _, m, ⟨n, rfl, hn, rfl⟩, k⟩ := h
  obtain ⟨v, _, rfl, m1, m2⟩ := m.cons_iff
  obtain rfl := m2.nil_iff
  refine ⟨_, (pss_cons (ps_if (pt_val (pe_df D_begins (hr.mono (by decide)) (by rfl) (pa_cons (pv 0) (pa_cons pe_int (pa_cons pe_str pa_nil))))) (pss_one (ps_ret (pe_df D_is_word (hr.mono (by decide)) (by rfl) (pa_cons (pe_ix (r := rIxT K) ix_tup (pv 0) pe_int (fun _ _ => rfl)) pa_nil)))) pss_nil)
      (pss_one (ps_ret (pe_and (pe_df D_begins (hr.mono (by decide)) (by rfl) (pa_cons (pv 0) (pa_cons pe_int (pa_cons pe_str pa_nil)))) (pe_one (pe_df D_is_written (hr.mono (by decide)) (by rfl) (pa_cons (pe_ix (r := rIxT K) ix_tup (pv 0) pe_int (fun _ _ => rfl)) pa_nil))))))), ?_⟩
  have hv : ∀ H1, Ex H H1 → EvD (tVar 0) (L2.start ["thing"] [v]) H1 (asN n) := fun H1 e => ed_var rfl (m1.ex e)
  refine q_yes (et_test (ev_t (ed_call (eds3 (hv _ (Ex.refl _)) ed_ci ed_cs) (begins_yes rfl)))) fun H1 e1 => ?_
  exact sd_ret (ed_call (eds1 (ed_ix1 (hv _ e1))) (word_yes hn)) fun v H2 e2 => k v H2 (e1.trans e2)
/-- the dict of the places stands at a -/
def PlAt (pl : Pls) (H : Hp) (v : V) : Prop := ∃ a, v = .ref a ∧ H a = some (.dK (plK pl))
theorem PlAt.ex {pl : Pls} {H H' : Hp} {v : V} (h : PlAt pl H v) (e : Ex H H') : PlAt pl H' v := by
  obtain ⟨a, rfl, h⟩ := h
  exact ⟨a, rfl, e _ _ h⟩
section
variable {σ : L2.St} {H : Hp} {td ty : TE} {pl : Pls} {y : V} {x : Str} {m : Nat}
theorem ev_plGet (h : Ev td σ H y) (hp : PlAt pl H y) (hx : EvD ty σ H (.str x)) (nd : (pl.map Prod.fst).Nodup) (hm : (x, m) ∈ pl) : Ev (tDGet td ty) σ H (.int (m : Int)) := fun H1 e Q q => h H1 e _ fun H2 e2 => ev_str hx H2 (e.trans e2) _ fun H3 e3 => by
  obtain ⟨a, rfl, ha⟩ := hp.ex ((e.trans e2).trans e3)
  have g := DGet.k (k := Sum.inr x) ha
  rw [plK_val, lookP_of nd hm] at g
  exact ⟨a, _, rfl, g, q H3 (e2.trans e3)⟩
theorem ev_plIn (h : Ev td σ H y) (hp : PlAt pl H y) (hx : EvD ty σ H (.str x)) (nd : (pl.map Prod.fst).Nodup) (hm : (x, m) ∈ pl) : Ev (tDNotIn ty td) σ H (.bl false) := fun H1 e Q q => ev_str hx H1 e _ fun H2 e2 => h H2 (e.trans e2) _ fun H3 e3 => by
  obtain ⟨a, rfl, ha⟩ := hp.ex ((e.trans e2).trans e3)
  have g := DGet.k (k := Sum.inr x) ha
  rw [plK_val, lookP_of nd hm] at g
  exact ⟨a, _, rfl, g, q H3 (e2.trans e3)⟩
theorem ev_plGet1 (h : Ev td σ H y) (hp : PlAt pl H y) (hx : EvD ty σ H (.str x)) (nd : (pl.map Prod.fst).Nodup) (hm : (x, m) ∈ pl) : Ev (tDGet1 td ty) σ H (.int (m : Int)) := fun H1 e Q q => h H1 e _ fun H2 e2 => by
  obtain ⟨a, rfl, ha⟩ := hp.ex (e.trans e2)
  refine ⟨a, rfl, .inl ⟨_, .inl ha⟩, ev_str hx H2 (e.trans e2) _ fun H3 e3 => ?_⟩
  have g := DGet.k (k := Sum.inr x) (e3 _ _ ha)
  rw [plK_val, lookP_of nd hm] at g
  exact ⟨_, g, q H3 (e2.trans e3)⟩
theorem et_B' {b : Bool} {te : TE} (h : Ev te σ H (.bl b)) : EvT (tB te) σ H b := et_B h
end
structure HeadOk (pl : Pls) (h : Head) : Prop where
  at_ : (h.1, h.2.length) ∈ pl
  gw1 : gw h.1 = true
  gw2 : ∀ n ∈ h.2, gw n = true
  le : h.2.length ≤ 3
def spHead : Sp := fun vs H Q _ => ∃ (pv v : V) (pl : Pls) (h : Head), vs = [pv, v] ∧ PlAt pl H pv ∧ (pl.map Prod.fst).Nodup ∧ Im H v h.enc ∧ HeadOk pl h ∧ ∀ H2, Ex H H2 → Q (.bl true) H2
theorem sc_is_head : FnScope ["places", "thing", "many", "slot"] ["places", "thing"] (defScope (top 33)) := ⟨rfl, rfl, rfl, by decide +kernel, rfl, by decide +kernel, by decide +kernel⟩
theorem ok_is_head {f : Addr} {fd : FuncData} (F : Fun K "is_head" "is_head" (top 33) f fd) (D_is_slot : Df P w K mg base "is_slot" 4 ["thing"] spSlot) (D_is_tuple_of : Df P w K mg base "is_tuple_of" 1 ["thing", "low", "high"] spTupleOf) (D_is_word : Df P w K mg base "is_word" 1 ["thing"] spWord) (B : Blt mg) : FnOk P w K mg base CX0 5 f fd ["places", "thing"] spHead := by
  refine F.ok sc_is_head (fun vs H Q E h => (by obtain ⟨v, v1, _, _, rfl, _⟩ := h; rfl)) (fun cdv A outer s H vs Q E hr h => ?_)
  obtain ⟨pv', v, pl, hd, rfl, hp, nd, m1, ok, k⟩ := h
  refine ⟨_, (pss_cons (ps_if (PW.pt (pw_or (pt_not (pt_val (pe_df D_is_tuple_of (hr.mono (by decide)) (by rfl) (pa_cons (pv 1) (pa_cons pe_int (pa_cons pe_int pa_nil)))))) (pw_or (pt_not (pt_val (pe_df D_is_word (hr.mono (by decide)) (by rfl) (pa_cons (pe_ix (r := rIxT K) ix_tup (pv 1) pe_int (fun _ _ => rfl)) pa_nil)))) (pw_or1 (pt_cmp (pc_dnotin (hu_of hr) (pe_ix (r := rIxT K) ix_tup (pv 1) pe_int (fun _ _ => rfl)) (pv 0))))))) (pss_one (ps_ret pe_bl)) pss_nil)
      (pss_cons (ps_set (i := 2) sc_is_head.nd rfl (Or.inl rfl) (pe_dget (hu_of hr) (pv 0) (pe_ix (r := rIxT K) ix_tup (pv 1) pe_int (fun _ _ => rfl)) (fun _ _ => rfl)))
      (pss_one (ps_ret (pe_and (pe_df D_is_tuple_of (hr.mono (by decide)) (by rfl) (pa_cons (pe_ix (r := rIxT K) ix_tup (pv 1) pe_int (fun _ _ => rfl)) (pa_cons (pv 2) (pa_cons (pv 2) pa_nil)))) (pe_one (pe_callB (r := rAll K) (cr_all rfl) (by rfl) B.all bt_all (pa_cons (pe_lc (own := [("slot", 3)]) rfl sc_is_head.nd (pi_tupK (K := K) rfl (pe_ix (r := rIxT K) ix_tup (pv 1) pe_int (fun _ _ => rfl))) (blkOk_by (own := [("slot", 3)]) (N := ["places", "thing", "many", "slot"]) (sc := defScope (top 33)) (by decide +kernel)) (fun _ _ _ _ _ => (pg_name (i := 3) sc_is_head.nd rfl (Or.inl rfl) (by first | exact Or.inl rfl | exact Or.inr rfl))) (fun _ _ _ _ _ => pts_nil) (fun _ _ _ _ _ => (pe_df D_is_slot (hr.mono (by decide)) (by rfl) (pa_cons (pv 3) pa_nil)))) pa_nil)))))))), ?_⟩
  have hv : ∀ (H1 : Hp) (σ : L2.St), σ[1]? = some (some v) → Ex H H1 → EvD (tVar 1) σ H1 hd.enc := fun H1 σ h e => ed_var h (m1.ex e)
  have hP : ∀ (H1 : Hp) (σ : L2.St), σ[0]? = some (some pv') → Ev (tVar 0) σ H1 pv' := fun H1 σ h => ev_var h
  refine q_no (et_or2 (et_nt (ev_t (ed_call (eds3 (hv _ _ rfl (Ex.refl _)) ed_ci ed_ci) (tupOf_yes (Int.le_refl 2) (Int.le_refl 2))))) (et_or2 (et_nt (ev_t (ed_call (eds1 (ed_ix0 (hv _ _ rfl (Ex.refl _)))) (word_yes ok.gw1)))) (et_B (ev_plIn (hP _ _ rfl) hp (ed_ix0 (hv _ _ rfl (Ex.refl _))) nd ok.at_)))) fun H1 e1 => ?_
  refine q_asg (ev_plGet (hP _ _ rfl) (hp.ex e1) (ed_ix0 (hv _ _ rfl e1)) nd ok.at_) fun H2 e2 => ?_
  have l1 : ((hd.2.map asN).length : Int) = (hd.2.length : Int) := by rw [List.length_map]
  have l3 := ok.le
  refine s_ret (ev_and2 (ev_t (ed_call (eds3 (ed_ix1 (hv _ _ rfl (e1.trans e2))) (ed_int (ev_var rfl)) (ed_int (ev_var rfl))) (tupOf_yes (by rw [l1]; omega) (by rw [l1]; omega)))) ?_) fun H3 e3 => k H3 ((e1.trans e2).trans e3)
  exact ev_allT (enc := asN) (id_tup (ed_ix1 (hv _ _ rfl (e1.trans e2)))) (by omega) fun a ha x H2 e2 mx Kt q => q _ rfl (ed_call (eds1 (ed_var rfl mx)) (spR_at ⟨a, rfl, ok.gw2 a ha, rfl⟩))
def spNames : Sp := fun vs H Q _ => ∃ (v : V) (hs : List Head), vs = [v] ∧ Im H v (.tuple (hs.map Head.enc)) ∧ hs.length ≤ 4 ∧ (∀ h ∈ hs, h.2.length ≤ 3) ∧ ∀ v H2, Ex H H2 → LsAt H2 v ((hs.flatMap Prod.snd).map PyData.str) → Q v H2
theorem heads_len {hs : List Head} (h1 : hs.length ≤ 4) (h2 : ∀ h ∈ hs, h.2.length ≤ 3) : (hs.flatMap Prod.snd).length ≤ 12 := by
  have : ∀ l : List Head, (∀ h ∈ l, h.2.length ≤ 3) → (l.flatMap Prod.snd).length ≤ l.length * 3 := by
    intro l
    induction l with
    | nil => intro _; simp
    | cons a l ih =>
      intro h
      rw [List.flatMap_cons, List.length_append, List.length_cons]
      have := h a (by simp)
      have := ih fun b hb => h b (by simp [hb])
      omega
  have := this hs h2
  omega
theorem sc_names_in : FnScope ["heads", "place", "slots", "slot"] ["heads"] (defScope (top 34)) := ⟨rfl, rfl, rfl, by decide +kernel, rfl, by decide +kernel, by decide +kernel⟩
theorem ok_names_in {f : Addr} {fd : FuncData} (F : Fun K "names_in" "names_in" (top 34) f fd) : FnOk P w K mg base CX0 1 f fd ["heads"] spNames := by
  refine F.ok sc_names_in (fun vs H Q E h => (by obtain ⟨v, hs, rfl, _⟩ := h; rfl)) (fun cdv A outer s H vs Q E hr h => ?_)
  obtain ⟨v, hs, rfl, m1, hl, hl2, k⟩ := h
  refine ⟨_, (pss_one (ps_ret (pe_lc2 (own := [("place", 1), ("slots", 2), ("slot", 3)]) (vs1 := [3]) rfl sc_names_in.nd (pi_tupK (K := K) rfl (pv 0)) (blkOk_by (own := [("place", 1), ("slots", 2), ("slot", 3)]) (N := ["heads", "place", "slots", "slot"]) (sc := defScope (top 34)) (by decide +kernel)) (by decide) (fun _ _ _ _ _ => (pg_tupK (K := K) (n := 2) rfl rfl (pgs_cons (pg_name (i := 1) sc_names_in.nd rfl (Or.inl rfl) (by first | exact Or.inl rfl | exact Or.inr rfl)) (pgs_cons (pg_name (i := 2) sc_names_in.nd rfl (Or.inl rfl) (by first | exact Or.inl rfl | exact Or.inr rfl)) pgs_nil)))) (fun _ _ _ _ _ => pts_nil) (fun _ _ _ _ _ => (pi_tupK (K := K) rfl (pv 2))) (fun _ _ _ _ _ => (pg_name (i := 3) sc_names_in.nd rfl (Or.inl rfl) (by first | exact Or.inl rfl | exact Or.inr rfl))) (fun _ _ _ _ _ => (pts_one (pt_cmpR op_eq (pe_ix (r := rIxT K) ix_tup (pv 3) pe_int (fun _ _ => rfl)) pe_str (nomark _)))) (fun _ _ _ _ _ => (pe_ix (r := rIxT K) ix_tup (pv 3) pe_int (fun _ _ => rfl)))))), ?_⟩
  have e0 : (hs.flatMap fun a => (a.2.filter fun _ => true).map PyData.str) = (hs.flatMap Prod.snd).map PyData.str := by
    rw [List.map_flatMap]
    congr 1
    funext a
    rw [show a.2.filter (fun _ => true) = a.2 from List.filter_eq_self.mpr fun _ _ => rfl]
  refine sn_ret (ds := (hs.flatMap fun a => (a.2.filter fun _ => true).map PyData.str)) (en_lc2 (enc := Head.enc) Prod.snd asN (id_tup (ed_var rfl m1)) (by omega) (fun a ha => by have := hl2 a ha; omega) (fun _ _ => true) (fun _ c => PyData.str c) fun a ha x H1 e mx Kt q => g_pair mx fun y z my mz => q _ rfl (id_tup (ed_var rfl mz)) fun c hc x H2 e2 t2 mx Kt1 q1 => g_name (q1 _ rfl ?_ fun _ => ?_)) fun p xs H1 hp e h1 k1 => ?_
  · exact et_test (ev_eqSy (ed_ix0 (ed_var rfl mx)) ed_cs)
  · exact ed_ix1 (ed_var rfl mx)
  · rw [e0] at k1
    exact k _ H1 e ⟨p, xs, rfl, h1, k1⟩
def spHeads : Sp := fun vs H Q _ => ∃ (pv v : V) (pl : Pls) (hs : List Head), vs = [pv, v] ∧ PlAt pl H pv ∧ PlOk pl ∧ Im H v (.tuple (hs.map Head.enc)) ∧ HeadsOk pl hs ∧ ∀ H2, Ex H H2 → Q (.bl true) H2
theorem HeadsOk.one {pl : Pls} {hs : List Head} (p : PlOk pl) (o : HeadsOk pl hs) {h : Head} (hh : h ∈ hs) : HeadOk pl h := ⟨o.at_ h hh, p.gw _ (o.at_ h hh), o.gw h hh, Nat.le_trans (p.many _ (o.at_ h hh)) (by decide)⟩
theorem sc_are_heads : FnScope ["places", "thing", "head", "place", "slots"] ["places", "thing"] (defScope (top 35)) := ⟨rfl, rfl, rfl, by decide +kernel, rfl, by decide +kernel, by decide +kernel⟩
theorem ok_are_heads {f : Addr} {fd : FuncData} (F : Fun K "are_heads" "are_heads" (top 35) f fd) (D_are_unlike : Df P w K mg base "are_unlike" 1 ["some"] spUnlike) (D_is_head : Df P w K mg base "is_head" 5 ["places", "thing"] spHead) (D_is_tuple_of : Df P w K mg base "is_tuple_of" 1 ["thing", "low", "high"] spTupleOf) (D_names_in : Df P w K mg base "names_in" 1 ["heads"] spNames) (B : Blt mg) (C_MOST_HEADS : ∃ n, mg "MOST_HEADS" = some (.int 4 n)) : FnOk P w K mg base CX0 6 f fd ["places", "thing"] spHeads := by
  obtain ⟨n_MOST_HEADS, C_MOST_HEADS⟩ := C_MOST_HEADS
  refine F.ok sc_are_heads (fun vs H Q E h => (by obtain ⟨v, v1, _, _, rfl, _⟩ := h; rfl)) (fun cdv A outer s H vs Q E hr h => ?_)
  obtain ⟨pv', v, pl, hs, rfl, hp, po, m1, ok, k⟩ := h
  refine ⟨_, (pss_cons (ps_if (PW.pt (pw_or (pt_not (pt_val (pe_df D_is_tuple_of (hr.mono (by decide)) (by rfl) (pa_cons (pv 1) (pa_cons pe_int (pa_cons (pe_glob (v := .int 4) (by rfl) C_MOST_HEADS ⟨_, rfl⟩) pa_nil)))))) (pw_or1 (pt_not (pt_val (pe_callB (r := rAll K) (cr_all rfl) (by rfl) B.all bt_all (pa_cons (pe_lc (own := [("head", 2)]) rfl sc_are_heads.nd (pi_tupK (K := K) rfl (pv 1)) (blkOk_by (own := [("head", 2)]) (N := ["places", "thing", "head", "place", "slots"]) (sc := defScope (top 35)) (by decide +kernel)) (fun _ _ _ _ _ => (pg_name (i := 2) sc_are_heads.nd rfl (Or.inl rfl) (by first | exact Or.inl rfl | exact Or.inr rfl))) (fun _ _ _ _ _ => pts_nil) (fun _ _ _ _ _ => (pe_df D_is_head (hr.mono (by decide)) (by rfl) (pa_cons (pv 0) (pa_cons (pv 2) pa_nil))))) pa_nil))))))) (pss_one (ps_ret pe_bl)) pss_nil)
      (pss_one (ps_ret (pe_and (pe_df D_are_unlike (hr.mono (by decide)) (by rfl) (pa_cons (pe_lc (own := [("place", 3), ("slots", 4)]) rfl sc_are_heads.nd (pi_tupK (K := K) rfl (pv 1)) (blkOk_by (own := [("place", 3), ("slots", 4)]) (N := ["places", "thing", "head", "place", "slots"]) (sc := defScope (top 35)) (by decide +kernel)) (fun _ _ _ _ _ => (pg_tupK (K := K) (n := 2) rfl rfl (pgs_cons (pg_name (i := 3) sc_are_heads.nd rfl (Or.inl rfl) (by first | exact Or.inl rfl | exact Or.inr rfl)) (pgs_cons (pg_name (i := 4) sc_are_heads.nd rfl (Or.inl rfl) (by first | exact Or.inl rfl | exact Or.inr rfl)) pgs_nil)))) (fun _ _ _ _ _ => pts_nil) (fun _ _ _ _ _ => (pv 3))) pa_nil)) (pe_one (pe_df D_are_unlike (hr.mono (by decide)) (by rfl) (pa_cons (pe_df D_names_in (hr.mono (by decide)) (by rfl) (pa_cons (pv 1) pa_nil)) pa_nil))))))), ?_⟩
  have hv : ∀ (H1 : Hp) (σ : L2.St), σ[1]? = some (some v) → Ex H H1 → EvD (tVar 1) σ H1 (.tuple (hs.map Head.enc)) := fun H1 σ h e => ed_var h (m1.ex e)
  have l1 := ok.lo
  have l2 := ok.hi
  have hl3 : ∀ h ∈ hs, h.2.length ≤ 3 := fun h hh => (ok.one po hh).le
  refine q_no (et_or2 (et_nt (ev_t (ed_call (eds3 (hv _ _ rfl (Ex.refl _)) ed_ci ed_ci) (tupOf_yes (by rw [List.length_map]; omega) (by rw [List.length_map]; omega))))) (et_nt ?_)) fun H1 e1 => ?_
  · refine ev_allT (enc := Head.enc) (id_tup (hv _ _ rfl (Ex.refl _))) (by omega) fun a ha x H2 e2 mx Kt q => q _ rfl ?_
    exact ed_callV (ev_var rfl) (ed_var rfl mx) fun z H3 e3 mz Q q E => ⟨pv', z, pl, a, rfl, hp.ex (e2.trans e3), po.nd, mz, ok.one po ha, fun H6 e6 => q _ H6 e6 (.bl true)⟩
  · refine s_ret (ev_and2 (ev_t ?_) (ev_t ?_)) fun H2 e2 => k H2 (e1.trans e2)
    · exact ed_callS (EvN.s (en_map (enc := Head.enc) (id_tup (hv _ _ rfl e1)) (by omega) (fun p => .str p.1) fun a ha x H2 e2 mx Kt q => g_pair mx fun y z my mz => q _ rfl (ed_var rfl my))) fun v H2 e2 ls Q q E => ⟨v, hs.map Prod.fst, rfl, by rw [List.map_map]; exact ls, ok.nd, by rw [List.length_map]; omega, fun H3 e3 => q _ _ e3 (.bl true)⟩
    · refine ed_callS (ds := (hs.flatMap Prod.snd).map PyData.str) (fun H3 e3 Q q => (hv _ _ rfl (e1.trans e3)) H3 (Ex.refl _) _ fun z H4 e4 mz => ⟨z, hs, rfl, mz, l2, hl3, fun v H5 e5 ls => q v H5 (e4.trans e5) ls⟩) fun v H2 e2 ls Q q E => ⟨v, hs.flatMap Prod.snd, rfl, ls, ok.ns, Nat.le_trans (heads_len l2 hl3) (by decide), fun H3 e3 => q _ _ e3 (.bl true)⟩
/-! the scope -/
structure ScT (K : PySem.W.Frag) (mg : Str → Option Value) (C : Addr) : Prop where
  cl : Cls K C
  nK : NoAttr K C "kinds_known"
  nP : NoAttr K C "places_known"
  nH : NoAttr K C "heads_known"
  mgC : mg "Scope" = some (.ref C)
/-- a scope that knows the places -/
def ScAt (C : Addr) (pl : Pls) (H : Hp) (v : V) : Prop := ∃ a dx fs pv, v = .ref a ∧ H a = some (.ins C dx fs) ∧ fs.lookup ("places_known" : Str) = some pv ∧ PlAt pl H pv
theorem ScAt.ex {C : Addr} {pl : Pls} {H H' : Hp} {v : V} (h : ScAt C pl H v) (e : Ex H H') : ScAt C pl H' v := by
  obtain ⟨a, dx, fs, pv, rfl, h, h1, h2⟩ := h
  exact ⟨a, dx, fs, pv, rfl, e _ _ h, h1, h2.ex e⟩
theorem ev_scP {C : Addr} {pl : Pls} {H : Hp} {x : V} {σ : L2.St} {ta : TE} (T : ScT K mg C) (h : Ev ta σ H x) (hs : ScAt C pl H x) : ∃ pv, PlAt pl H pv ∧ Ev (tFld K ta "places_known") σ H pv := by
  obtain ⟨a, dx, fs, pv, rfl, h0, h1, h2⟩ := hs
  exact ⟨pv, h2, fun H1 e Q q => h H1 e _ fun H2 e2 => ⟨a, C, dx, fs, pv, rfl, (e.trans e2) _ _ h0, T.cl, T.nP, h1, q H2 e2⟩⟩
def spOperand (C : Addr) : Sp := fun vs H Q _ => ∃ (sv v : V) (pl : Pls) (o : Opn), vs = [sv, v] ∧ ScAt C pl H sv ∧ Im H v o.enc ∧ o.ok = true ∧ ∀ H2, Ex H H2 → Q (.bl true) H2
theorem sc_is_operand : FnScope ["scope", "thing"] ["scope", "thing"] (defScope (top 36)) := ⟨rfl, rfl, rfl, by decide +kernel, rfl, by decide +kernel, by decide +kernel⟩
theorem ok_is_operand {f : Addr} {fd : FuncData} (F : Fun K "is_operand" "is_operand" (top 36) f fd) {C : Addr} (T : ScT K mg C) (D_begins : Df P w K mg base "begins" 2 ["thing", "many", "word"] spBegins) (D_is_word : Df P w K mg base "is_word" 1 ["thing"] spWord) (D_is_written : Df P w K mg base "is_written" 3 ["thing"] spWritten) : FnOk P w K mg base CX0 4 f fd ["scope", "thing"] (spOperand C) := by
  refine F.ok sc_is_operand (fun vs H Q E h => (by obtain ⟨v, v1, _, _, rfl, _⟩ := h; rfl)) (fun cdv A outer s H vs Q E hr h => ?_)
  obtain ⟨sv, v, pl, o, rfl, hs, m1, ok, k⟩ := h
  refine ⟨_, (pss_cons (ps_if (pt_val (pe_df D_begins (hr.mono (by decide)) (by rfl) (pa_cons (pv 1) (pa_cons pe_int (pa_cons pe_str pa_nil))))) (pss_one (ps_ret (pe_df D_is_word (hr.mono (by decide)) (by rfl) (pa_cons (pe_ix (r := rIxT K) ix_tup (pv 1) pe_int (fun _ _ => rfl)) pa_nil)))) pss_nil)
      (pss_cons (ps_if (pt_val (pe_df D_begins (hr.mono (by decide)) (by rfl) (pa_cons (pv 1) (pa_cons pe_int (pa_cons pe_str pa_nil))))) (pss_one (ps_ret (pe_cmpR op_notN1 (pe_fldK (K := K) rfl (pv 0) rfl) pe_non (nomark _)))) pss_nil)
      (pss_one (ps_ret (pe_and (pe_df D_begins (hr.mono (by decide)) (by rfl) (pa_cons (pv 1) (pa_cons pe_int (pa_cons pe_str pa_nil)))) (pe_one (pe_df D_is_written (hr.mono (by decide)) (by rfl) (pa_cons (pe_ix (r := rIxT K) ix_tup (pv 1) pe_int (fun _ _ => rfl)) pa_nil)))))))), ?_⟩
  have hv : ∀ (H1 : Hp) (σ : L2.St), σ[1]? = some (some v) → Ex H H1 → EvD (tVar 1) σ H1 o.enc := fun H1 σ h e => ed_var h (m1.ex e)
  cases o with
  | of n =>
    refine q_yes (et_test (ev_t (ed_call (eds3 (hv _ _ rfl (Ex.refl _)) ed_ci ed_cs) (begins_yes rfl)))) fun H1 e1 => ?_
    exact sd_ret (ed_call (eds1 (ed_ix1 (hv _ _ rfl e1))) (word_yes ok)) fun v H2 e2 m => by rw [m.bl_iff]; exact k H2 (e1.trans e2)
  | one =>
    refine q_no (et_test (ev_f (ed_call (eds3 (hv _ _ rfl (Ex.refl _)) ed_ci ed_cs) (begins_word so_2)))) fun H1 e1 => ?_
    refine q_no (et_test (ev_f (ed_call (eds3 (hv _ _ rfl e1) ed_ci ed_cs) (begins_word so_3)))) fun H2 e2 => ?_
    exact s_ret (ev_and2 (ev_t (ed_call (eds3 (hv _ _ rfl (e1.trans e2)) ed_ci ed_cs) (begins_yes rfl))) (ev_t (ed_call (eds1 (ed_ix1 (hv _ _ rfl (e1.trans e2)))) written_one))) fun H3 e3 => k H3 ((e1.trans e2).trans e3)
  | fls =>
    refine q_no (et_test (ev_f (ed_call (eds3 (hv _ _ rfl (Ex.refl _)) ed_ci ed_cs) (begins_word so_2)))) fun H1 e1 => ?_
    refine q_no (et_test (ev_f (ed_call (eds3 (hv _ _ rfl e1) ed_ci ed_cs) (begins_word so_3)))) fun H2 e2 => ?_
    exact s_ret (ev_and2 (ev_t (ed_call (eds3 (hv _ _ rfl (e1.trans e2)) ed_ci ed_cs) (begins_yes rfl))) (ev_t (ed_call (eds1 (ed_ix1 (hv _ _ rfl (e1.trans e2)))) written_fls))) fun H3 e3 => k H3 ((e1.trans e2).trans e3)
  | own =>
    refine q_no (et_test (ev_f (ed_call (eds3 (hv _ _ rfl (Ex.refl _)) ed_ci ed_cs) (begins_word so_4)))) fun H1 e1 => ?_
    refine q_yes (et_test (ev_t (ed_call (eds3 (hv _ _ rfl e1) ed_ci ed_cs) (begins_yes rfl)))) fun H2 e2 => ?_
    obtain ⟨pv', ⟨a, rfl, _⟩, h2⟩ := ev_scP T (ta := tVar 0) (σ := L2.start ["scope", "thing"] [sv, v]) (ev_var rfl) (hs.ex (e1.trans e2))
    exact s_ret (ev_notNy h2) fun H3 e3 => k H3 ((e1.trans e2).trans e3)
end
end Mt

set_option maxHeartbeats 4000000
/-! deeds -/
namespace Mt
open PySem L2 Evl
section
variable {X : Cx} {K : PySem.W.Frag}
theorem pg_starK {pos : Pos} {es : List Expr} {k : Nat} {t : TGs} {i : Nat} (hK : X.K = K) (hc : X.calm = true) (h : PGs X es t)
    (hn : (assignEach es X.env).length = i + 1 := by rfl) (hst : (assignEach es X.env).findIdx? (·.1) = some i := by rfl) : PG X (.Tuple es k pos) (gStar K i t) := hK ▸ pg_star hc h hn hst
end
section
variable {P : Program} {w : World} {K : PySem.W.Frag} {mg : Str → Option Value} {base : Heap}
def spGiven (C : Addr) : Sp := fun vs H Q _ => ∃ (sv v : V) (pl : Pls) (o : Opn) (m : Nat), vs = [sv, v, .int (m : Int), .int (m : Int)] ∧ ScAt C pl H sv ∧ m ≤ 2 ∧ Im H v (.tuple (List.replicate m o.enc)) ∧ o.ok = true ∧ ∀ H2, Ex H H2 → Q (.bl true) H2
theorem sc_are_given : FnScope ["scope", "thing", "low", "high", "one"] ["scope", "thing", "low", "high"] (defScope (top 37)) := ⟨rfl, rfl, rfl, by decide +kernel, rfl, by decide +kernel, by decide +kernel⟩
theorem ok_are_given {f : Addr} {fd : FuncData} (F : FunD K "are_given" "are_given" (defArgs (top 37)) (defBody (top 37)) (defScope (top 37)) [.int 0, .int 3] [] f fd) {C : Addr} (D_is_operand : Df P w K mg base "is_operand" 4 ["scope", "thing"] (spOperand C)) (D_is_tuple_of : Df P w K mg base "is_tuple_of" 1 ["thing", "low", "high"] spTupleOf) (B : Blt mg) : FnOk P w K mg base CX0 5 f fd ["scope", "thing", "low", "high"] (spGiven C) := by
  refine F.ok sc_are_given (fun vs H Q E h => (by obtain ⟨v, v1, _, _, m, rfl, _⟩ := h; rfl)) (fun cdv A outer s H vs Q E hr h => ?_)
  obtain ⟨sv, v, pl, o, m, rfl, hs, hm, m1, ok, k⟩ := h
  refine ⟨_, (pss_one (ps_ret (pe_and (pe_df D_is_tuple_of (hr.mono (by decide)) (by rfl) (pa_cons (pv 1) (pa_cons (pv 2) (pa_cons (pv 3) pa_nil)))) (pe_one (pe_callB (r := rAll K) (cr_all rfl) (by rfl) B.all bt_all (pa_cons (pe_lc (own := [("one", 4)]) rfl sc_are_given.nd (pi_tupK (K := K) rfl (pv 1)) (blkOk_by (own := [("one", 4)]) (N := ["scope", "thing", "low", "high", "one"]) (sc := defScope (top 37)) (by decide +kernel)) (fun _ _ _ _ _ => (pg_name (i := 4) sc_are_given.nd rfl (Or.inl rfl) (by first | exact Or.inl rfl | exact Or.inr rfl))) (fun _ _ _ _ _ => pts_nil) (fun _ _ _ _ _ => (pe_df D_is_operand (hr.mono (by decide)) (by rfl) (pa_cons (pv 0) (pa_cons (pv 4) pa_nil))))) pa_nil)))))), ?_⟩
  have hv : EvD (tVar 1) (L2.start ["scope", "thing", "low", "high", "one"] [sv, v, .int (m : Int), .int (m : Int)]) H (.tuple (List.replicate m o.enc)) := ed_var rfl m1
  refine s_ret (ev_and2 (ev_t (ed_call (eds3 hv (ed_int (ev_var rfl)) (ed_int (ev_var rfl))) (tupOf_yes (by rw [List.length_replicate]; omega) (by rw [List.length_replicate]; omega)))) ?_) k
  refine ev_allT (enc := fun _ : Unit => o.enc) (zs := List.replicate m ()) (by rw [List.map_replicate]; exact id_tup hv) (by rw [List.length_replicate]; omega) fun a ha x H2 e2 mx Kt q => g_name (q _ rfl ?_)
  exact ed_callV (ev_var rfl) (ed_var rfl mx) fun z H3 e3 mz Q q E => ⟨sv, z, pl, o, rfl, hs.ex (e2.trans e3), mz, ok, fun H6 e6 => q _ H6 e6 (.bl true)⟩
def spOwn (C : Addr) : Sp := fun vs H Q _ => ∃ (sv v : V) (pl : Pls) (x : Str) (o : Opn) (m : Nat), vs = [sv, v] ∧ ScAt C pl H sv ∧ PlOk pl ∧ Im H v (Deed.put x o m).enc ∧ (Deed.put x o m).ok pl ∧ ∀ H2, Ex H H2 → Q (.bl true) H2
theorem sc_is_own_deed : FnScope ["scope", "thing", "many"] ["scope", "thing"] (defScope (top 38)) := ⟨rfl, rfl, rfl, by decide +kernel, rfl, by decide +kernel, by decide +kernel⟩
theorem ok_is_own_deed {f : Addr} {fd : FuncData} (F : Fun K "is_own_deed" "is_own_deed" (top 38) f fd) {C : Addr} (T : ScT K mg C) (D_are_given : Df P w K mg base "are_given" 5 ["scope", "thing", "low", "high"] (spGiven C)) (D_is_operand : Df P w K mg base "is_operand" 4 ["scope", "thing"] (spOperand C)) (D_is_word : Df P w K mg base "is_word" 1 ["thing"] spWord) : FnOk P w K mg base CX0 6 f fd ["scope", "thing"] (spOwn C) := by
  refine F.ok sc_is_own_deed (fun vs H Q E h => (by obtain ⟨v, v1, _, _, _, m, rfl, _⟩ := h; rfl)) (fun cdv A outer s H vs Q E hr h => ?_)
  obtain ⟨sv, v, pl, x, o, m, rfl, hs, po, m1, ⟨ok1, ok2⟩, k⟩ := h
  refine ⟨_, (pss_cons (ps_if (PW.pt (pw_or (pt_cmpR op_isN1 (pe_fldK (K := K) rfl (pv 0) rfl) pe_non (nomark _)) (pw_or1 (pt_not (pt_val (pe_df D_is_word (hr.mono (by decide)) (by rfl) (pa_cons (pe_ix (r := rIxT K) ix_tup (pv 1) pe_int (fun _ _ => rfl)) pa_nil))))))) (pss_one (ps_ret pe_bl)) pss_nil)
      (pss_cons (ps_if (pt_cmpR op_eq (pe_ix (r := rIxT K) ix_tup (pv 1) pe_int (fun _ _ => rfl)) pe_str (nomark _)) (pss_one (ps_ret (pe_and (pe_cmpR (r := rIn K false) op_in_seq (pe_ix (r := rIxT K) ix_tup (pv 1) pe_int (fun _ _ => rfl)) (pe_fldK (K := K) rfl (pv 0) rfl) (by rfl)) (pe_one (pe_df D_is_operand (hr.mono (by decide)) (by rfl) (pa_cons (pv 0) (pa_cons (pe_ix (r := rIxT K) ix_tup (pv 1) pe_int (fun _ _ => rfl)) pa_nil))))))) pss_nil)
      (pss_cons (ps_set (i := 2) sc_is_own_deed.nd rfl (Or.inl rfl) (pe_dget1 (hu_of hr) (pe_fldK (K := K) rfl (pv 0) rfl) (pe_ix (r := rIxT K) ix_tup (pv 1) pe_int (fun _ _ => rfl)) ⟨rfl, by rfl, rfl, rfl⟩))
      (pss_one (ps_ret (pe_and (pe_cmpR op_notN1 (pv 2) pe_non (nomark _)) (pe_one (pe_df D_are_given (hr.mono (by decide)) (by rfl) (pa_cons (pv 0) (pa_cons (pe_ix (r := rIxT K) ix_tup (pv 1) pe_int (fun _ _ => rfl)) (pa_cons (pv 2) (pa_cons (pv 2) pa_nil)))))))))))), ?_⟩
  have hv : ∀ (H1 : Hp) (σ : L2.St), σ[1]? = some (some v) → Ex H H1 → EvD (tVar 1) σ H1 (Deed.put x o m).enc := fun H1 σ h e => ed_var h (m1.ex e)
  have hm := po.many _ ok2
  obtain ⟨pv', hp, h2⟩ := ev_scP T (ta := tVar 0) (σ := L2.start ["scope", "thing", "many"] [sv, v]) (ev_var rfl) hs
  refine q_no (et_or2 (et_test ?_) (et_nt (ev_t (ed_call (eds1 (ed_ix1 (hv _ _ rfl (Ex.refl _)))) (word_yes (po.gw _ ok2)))))) fun H1 e1 => ?_
  · obtain ⟨a, rfl, _⟩ := hp
    exact ev_isNn h2
  refine q_no (et_test (ev_eqSn (ed_ix0 (hv _ _ rfl e1)) ed_cs so_16)) fun H2 e2 => ?_
  refine q_asg (ev_plGet1 (h2.mono (e1.trans e2)) (hp.ex (e1.trans e2)) (ed_ix1 (hv _ _ rfl (e1.trans e2))) po.nd ok2) fun H3 e3 => ?_
  refine s_ret (ev_and2 (ev_is (ev_notN (ev_var (v := .int (m : Int)) rfl)) ?_) (ev_t ?_)) fun H4 e4 => k H4 (((e1.trans e2).trans e3).trans e4)
  · rw [decide_eq_false fun e => nomatch e]
    rfl
  · exact ed_callV2 (ev_var rfl) (ed_ix2 (hv _ _ rfl ((e1.trans e2).trans e3))) (ev_var rfl) (ev_var rfl) fun z H4 e4 mz Q q E => ⟨sv, z, pl, o, m, rfl, hs.ex (((e1.trans e2).trans e3).trans e4), hm, mz, ok1, fun H6 e6 => q _ H6 e6 (.bl true)⟩
def spNaming (C : Addr) : Sp := fun vs H Q _ => ∃ (sv v : V) (pl : Pls) (o : Opn), vs = [sv, v] ∧ ScAt C pl H sv ∧ Im H v (Deed.set o).enc ∧ o.ok = true ∧ ∀ H2, Ex H H2 → Q (.bl true) H2
theorem sc_is_naming_deed : FnScope ["scope", "thing", "word", "name", "rest", "good"] ["scope", "thing"] (defScope (top 39)) := ⟨rfl, rfl, rfl, by decide +kernel, rfl, by decide +kernel, by decide +kernel⟩
theorem ok_is_naming_deed {f : Addr} {fd : FuncData} (F : Fun K "is_naming_deed" "is_naming_deed" (top 39) f fd) {C : Addr} (D_is_operand : Df P w K mg base "is_operand" 4 ["scope", "thing"] (spOperand C)) (D_is_word : Df P w K mg base "is_word" 1 ["thing"] spWord) : FnOk P w K mg base CX0 5 f fd ["scope", "thing"] (spNaming C) := by
  refine F.ok sc_is_naming_deed (fun vs H Q E h => (by obtain ⟨v, v1, _, _, rfl, _⟩ := h; rfl)) (fun cdv A outer s H vs Q E hr h => ?_)
  obtain ⟨sv, v, pl, o, rfl, hs, m1, ok, k⟩ := h
  refine ⟨_, (pss_cons (ps_asg (pv 1) (pg_starK (K := K) (i := 2) rfl rfl (pgs_cons (pg_name (i := 2) sc_is_naming_deed.nd rfl (Or.inl rfl) (by first | exact Or.inl rfl | exact Or.inr rfl)) (pgs_cons (pg_name (i := 3) sc_is_naming_deed.nd rfl (Or.inl rfl) (by first | exact Or.inl rfl | exact Or.inr rfl)) (pgs_star (pg_name (i := 4) sc_is_naming_deed.nd rfl (Or.inl rfl) (by first | exact Or.inl rfl | exact Or.inr rfl))))))) (pss_cons (ps_if (pt_not (pt_val (pe_df D_is_word (hr.mono (by decide)) (by rfl) (pa_cons (pv 3) pa_nil)))) (pss_one (ps_ret pe_bl)) pss_nil) (pss_cons (ps_if (pt_cmpR op_eq (pv 2) pe_str (nomark _)) pss_never pss_nil) (pss_cons (ps_if (pt_cmpR op_eq (pv 2) pe_str (nomark _)) pss_never pss_nil) (pss_cons (ps_if (pt_cmpR op_eq (pv 2) pe_str (nomark _)) pss_never pss_nil) (pss_cons (ps_if (pt_cmpR op_eq (pv 2) pe_str (nomark _)) pss_never pss_nil) (pss_one (ps_ret (pe_df D_is_operand (hr.mono (by decide)) (by rfl) (pa_cons (pv 0) (pa_cons (pe_ix (r := rIxL K) ix_list (pv 4) pe_int (fun _ _ => rfl)) pa_nil))))))))))), ?_⟩
  obtain ⟨p, xs, rfl, hp, mk⟩ := m1.tup_iff
  obtain ⟨y0, r, rfl, n0, mk⟩ := mk.cons_iff
  obtain ⟨y1, r, rfl, n1, mk⟩ := mk.cons_iff
  obtain ⟨y2, r, rfl, n2, mk⟩ := mk.cons_iff
  obtain rfl := mk.nil_iff
  obtain rfl := n0.str_iff
  obtain rfl := n1.str_iff
  refine q_asgE (ev_var (v := .ref p) rfl) fun H1 e1 => ?_
  refine ⟨p, _, rfl, .inl (ex_rd e1 hp), Nat.le_succ 2, fun l hl => ?_⟩
  refine ⟨_, _, rfl, ?_⟩
  refine ⟨_, _, rfl, ?_⟩
  refine ⟨_, _, rfl, rfl, ?_⟩
  have e2 : Ex H (upd H1 l (.lst [y2])) := e1.trans (Ex.new hl)
  have hL : LsAt (upd H1 l (.lst [y2])) (.ref l) [o.enc] := ⟨l, _, rfl, upd_same, ims_cons (n2.ex e2) ims_nil⟩
  refine q_no (et_nt (ev_t (ed_call (eds1 (ed_str (ev_var rfl))) (word_yes gw_n)))) fun H3 e3 => ?_
  refine q_no (et_test (ev_eqSn (ed_str (ev_var rfl)) ed_cs so_12)) fun H4 e4 => ?_
  refine q_no (et_test (ev_eqSn (ed_str (ev_var rfl)) ed_cs so_13)) fun H5 e5 => ?_
  refine q_no (et_test (ev_eqSn (ed_str (ev_var rfl)) ed_cs so_14)) fun H6 e6 => ?_
  refine q_no (et_test (ev_eqSn (ed_str (ev_var rfl)) ed_cs so_15)) fun H7 e7 => ?_
  have e8 := (((e3.trans e4).trans e5).trans e6).trans e7
  refine sd_ret (ed_callV (d := .bool true) (ev_var rfl) (ed_ixL (j := 0) (d := o.enc) (es_var rfl (hL.ex e8)) ed_ci rfl rfl) fun z H8 e9 mz Q q E => ⟨sv, z, pl, o, rfl, hs.ex ((e2.trans e8).trans e9), mz, ok, fun H6 e6 => q _ H6 e6 (.bl true)⟩) fun v H9 e9 m => by
    rw [m.bl_iff]
    exact k H9 ((e2.trans e8).trans e9)
structure Szs (K : PySem.W.Frag) (w : World) (mg : Str → Option Value) (a : Addr) : Prop where
  mg : mg "SIZES" = some (.ref a)
  kd : ∃ es n, KDict K w a es n
  put : ∃ n, PySem.W.nsIn K a "put" = some (some (.int 3 n))
  note : ∃ n, PySem.W.nsIn K a "note" = some (some (.int 2 n))
  set : ∃ n, PySem.W.nsIn K a "set" = some (some (.int 3 n))
def Deed.word : Deed → Str
  | .note _ => "note"
  | .set _ => "set"
  | .put _ _ _ => "put"
def Deed.size : Deed → Int
  | .note _ => 2
  | .set _ => 3
  | .put _ _ _ => 3
theorem Szs.at_ {K : PySem.W.Frag} {w : World} {mg : Str → Option Value} {a : Addr} (Z : Szs K w mg a) (d : Deed) : ∃ n, PySem.W.nsIn K a d.word = some (some (.int d.size n)) := by
  cases d with
  | note o => exact Z.note
  | set o => exact Z.set
  | put x o m => exact Z.put
theorem ev_kget {K : PySem.W.Frag} {σ : L2.St} {H : Hp} {ty : TE} {a : Addr} {z : Str} {n : Tok} {i : Int} (hy : EvD ty σ H (.str z)) (h : PySem.W.nsIn K a z = some (some (.int i n))) : Ev (tKGet K (tC (.ref a)) ty a) σ H (.int i) := fun H1 e Q q => ⟨rfl, ev_str hy H1 e _ fun H2 e2 => ⟨z, _, .int i, rfl, h, ⟨_, rfl⟩, q H2 e2⟩⟩
theorem Opn.can {o : Opn} (h : o.ok = true) : PyData.canLay0 o.enc = true ∧ PyData.depth o.enc ≤ 1 := by
  cases o with
  | of n =>
    have hn : PyData.strOk n = true := by
      have h : gw n = true := h
      unfold gw at h
      rw [Bool.and_eq_true] at h
      exact h.2
    refine ⟨?_, by simp [Opn.enc, PyData.depth, PyData.depthAll]⟩
    show (PyData.canLay0 (.str "of") && (PyData.canLay0 (.str n) && true)) = true
    rw [show PyData.canLay0 (.str "of") = true by decide +kernel, show PyData.canLay0 (.str n) = true from hn]
    rfl
  | one => exact ⟨by decide +kernel, by decide +kernel⟩
  | fls => exact ⟨by decide +kernel, by decide +kernel⟩
  | own => exact ⟨by decide +kernel, by decide +kernel⟩
theorem gw_ok {n : Str} (h : gw n = true) : PyData.canLay0 (.str n) = true := by
  unfold gw at h
  rw [Bool.and_eq_true] at h
  exact h.2
theorem Deed.shape {pl : Pls} {d : Deed} (po : PlOk pl) (h : d.ok pl) : SeqAt.shaped d.enc = true := by
  cases d with
  | note o =>
    refine shapedT (n := 2) (by decide) fun d hd => ?_
    have hc := Opn.can h
    rcases List.mem_cons.mp hd with rfl | hd
    · exact ⟨by decide +kernel, by decide +kernel⟩
    rcases List.mem_cons.mp hd with rfl | hd
    · exact ⟨hc.1, Nat.le_trans hc.2 (by decide)⟩
    cases hd
  | set o =>
    refine shapedT (n := 2) (by decide) fun d hd => ?_
    have hc := Opn.can h
    rcases List.mem_cons.mp hd with rfl | hd
    · exact ⟨by decide +kernel, by decide +kernel⟩
    rcases List.mem_cons.mp hd with rfl | hd
    · exact ⟨by decide +kernel, by decide +kernel⟩
    rcases List.mem_cons.mp hd with rfl | hd
    · exact ⟨hc.1, Nat.le_trans hc.2 (by decide)⟩
    cases hd
  | put x o m =>
    refine shapedT (n := 3) (by decide) fun d hd => ?_
    have hc := Opn.can h.1
    rcases List.mem_cons.mp hd with rfl | hd
    · exact ⟨by decide +kernel, by decide +kernel⟩
    rcases List.mem_cons.mp hd with rfl | hd
    · exact ⟨gw_ok (po.gw _ h.2), Nat.zero_le _⟩
    rcases List.mem_cons.mp hd with rfl | hd
    · refine ⟨canAll fun e he => ?_, ?_⟩
      · rw [List.eq_of_mem_replicate he]
        exact hc.1
      · show PyData.depthAll _ + 1 ≤ 3
        have := depAll (n := 1) (ds := List.replicate m o.enc) fun e he => by
          rw [List.eq_of_mem_replicate he]
          exact hc.2
        omega
    cases hd
def spDeed (C : Addr) : Sp := fun vs H Q _ => ∃ (sv v : V) (pl : Pls) (d : Deed) (b : Int), vs = [sv, v, .int b] ∧ ScAt C pl H sv ∧ PlOk pl ∧ Im H v d.enc ∧ d.ok pl ∧ ∀ H2, Ex H H2 → Q (.bl true) H2
def Deed.rest : Deed → List PyData
  | .note o => [o.enc]
  | .set o => [.str "n", o.enc]
  | .put w o m => [.str w, .tuple (List.replicate m o.enc)]
theorem Deed.enc_eq (d : Deed) : d.enc = .tuple (.str d.word :: d.rest) := by
  cases d <;> rfl
theorem Deed.size_eq (d : Deed) : ((d.rest.length + 1 : Nat) : Int) = d.size := by
  cases d <;> rfl
theorem sc_is_deed : FnScope ["scope", "thing", "behind"] ["scope", "thing", "behind"] (defScope (top 40)) := ⟨rfl, rfl, rfl, by decide +kernel, rfl, by decide +kernel, by decide +kernel⟩
theorem ok_is_deed {f : Addr} {fd : FuncData} (F : Fun K "is_deed" "is_deed" (top 40) f fd) {C aS : Addr} (T : ScT K mg C) (Z : Szs K w mg aS) (D_are_given : Df P w K mg base "are_given" 5 ["scope", "thing", "low", "high"] (spGiven C)) (D_is_from : Df P w K mg base "is_from" 2 ["thing", "low", "high"] spFrom) (D_is_naming_deed : Df P w K mg base "is_naming_deed" 5 ["scope", "thing"] (spNaming C)) (D_is_operand : Df P w K mg base "is_operand" 4 ["scope", "thing"] (spOperand C)) (D_is_own_deed : Df P w K mg base "is_own_deed" 6 ["scope", "thing"] (spOwn C)) (B : Blt mg) : FnOk P w K mg base CX0 7 f fd ["scope", "thing", "behind"] (spDeed C) := by
  refine F.ok sc_is_deed (fun vs H Q E h => (by obtain ⟨v, v1, _, _, m, rfl, _⟩ := h; rfl)) (fun cdv A outer s H vs Q E hr h => ?_)
  obtain ⟨sv, v, pl, d, b, rfl, hs, po, m1, ok, k⟩ := h
  obtain ⟨es, nd, KD⟩ := Z.kd
  refine ⟨_, (pss_cons (ps_if (PW.pt (pw_or (pt_not (pt_val (pe_callB (r := rIsi K) call_isi (by rfl) B.isinstance bt_isinstance (pa_cons (pv 1) (pa_cons (pe_bltn (v := .ty "tuple") (by rfl) B.tuple bt_tuple rfl) pa_nil))))) (pw_or (pt_cmpR (r := rEqD K) (op_eqD (eqd_of hr)) (pv 1) (pe_tup pa_nil) (nomark _)) (pw_or1 (pt_not (pt_val (pe_callB (r := rIsi K) call_isi (by rfl) B.isinstance bt_isinstance (pa_cons (pe_ix (r := rIxT K) ix_tup (pv 1) pe_int (fun _ _ => rfl)) (pa_cons (pe_bltn (v := .ty "str") (by rfl) B.str bt_str rfl) pa_nil))))))))) (pss_one (ps_ret pe_bl)) pss_nil)
      (pss_cons (ps_if (pt_cmpR op_ne (pe_kget KD (pe_glob (v := .ref aS) (by rfl) Z.mg rfl) (pe_ix (r := rIxT K) ix_tup (pv 1) pe_int (fun _ _ => rfl)) ⟨rfl, by rfl, rfl, rfl⟩) (pe_callB (r := Evl.rLenS K) (CallR_len _) (by rfl) B.len bt_len (pa_cons (pv 1) pa_nil)) (nomark _)) (pss_one (ps_ret pe_bl)) pss_nil)
      (pss_cons (ps_if (pt_cmpR (r := rIn K false) op_in_seq (pe_ix (r := rIxT K) ix_tup (pv 1) pe_int (fun _ _ => rfl)) (pe_tup (pa_cons pe_str (pa_cons pe_str pa_nil))) (by rfl)) (pss_one (ps_ret (pe_df D_is_own_deed (hr.mono (by decide)) (by rfl) (pa_cons (pv 0) (pa_cons (pv 1) pa_nil))))) pss_nil)
      (pss_cons (ps_if (pt_cmpR op_eq (pe_ix (r := rIxT K) ix_tup (pv 1) pe_int (fun _ _ => rfl)) pe_str (nomark _)) (pss_one (ps_ret (pe_df D_is_operand (hr.mono (by decide)) (by rfl) (pa_cons (pv 0) (pa_cons (pe_ix (r := rIxT K) ix_tup (pv 1) pe_int (fun _ _ => rfl)) pa_nil))))) pss_nil)
      (pss_cons (ps_if (pt_cmpR op_eq (pe_ix (r := rIxT K) ix_tup (pv 1) pe_int (fun _ _ => rfl)) pe_str (nomark _)) (pss_one (ps_ret (pe_and (pe_df D_is_operand (hr.mono (by decide)) (by rfl) (pa_cons (pv 0) (pa_cons (pe_ix (r := rIxT K) ix_tup (pv 1) pe_int (fun _ _ => rfl)) pa_nil))) (pe_one (pe_df D_are_given (hr.mono (by decide)) (by rfl) (pa_cons (pv 0) (pa_cons (pe_ix (r := rIxT K) ix_tup (pv 1) pe_int (fun _ _ => rfl)) pa_nil))))))) pss_nil)
      (pss_cons (ps_if (pt_cmpR op_eq (pe_ix (r := rIxT K) ix_tup (pv 1) pe_int (fun _ _ => rfl)) pe_str (nomark _)) (pss_one (ps_ret (pe_and (pe_df D_is_operand (hr.mono (by decide)) (by rfl) (pa_cons (pv 0) (pa_cons (pe_ix (r := rIxT K) ix_tup (pv 1) pe_int (fun _ _ => rfl)) pa_nil))) (pe_one (pe_df D_is_from (hr.mono (by decide)) (by rfl) (pa_cons (pe_ix (r := rIxT K) ix_tup (pv 1) pe_int (fun _ _ => rfl)) (pa_cons pe_int (pa_cons (pv 2) pa_nil)))))))) pss_nil)
      (pss_one (ps_ret (pe_df D_is_naming_deed (hr.mono (by decide)) (by rfl) (pa_cons (pv 0) (pa_cons (pv 1) pa_nil))))))))))), ?_⟩
  have e0 := d.enc_eq
  have hv0 : ∀ (H1 : Hp) (σ : L2.St), σ[1]? = some (some v) → Ex H H1 → EvD (tVar 1) σ H1 d.enc := fun H1 σ h e => ed_var h (m1.ex e)
  have hv : ∀ (H1 : Hp) (σ : L2.St), σ[1]? = some (some v) → Ex H H1 → EvD (tVar 1) σ H1 (.tuple (.str d.word :: d.rest)) := fun H1 σ h e => by
    rw [← e0]
    exact hv0 H1 σ h e
  obtain ⟨nz, hz⟩ := Z.at_ d
  refine q_no (et_or2 (et_nt (ev_isi (.inr (.inr (.inr (.inl rfl)))) (hv _ _ rfl (Ex.refl _)))) (et_or2 (et_test (ev_eqE (hv _ _ rfl (Ex.refl _)) (by rw [← e0]; exact d.shape po ok))) (et_nt (ev_isi (.inr (.inr (.inl rfl))) (ed_ix0 (hv _ _ rfl (Ex.refl _))))))) fun H1 e1 => ?_
  refine q_no (et_test (ev_neIn (ev_kget (ed_ix0 (hv _ _ rfl e1)) hz) (ev_is (ev_lenT (hv _ _ rfl e1) rfl) (congrArg V.int (by rw [List.length_cons]; exact d.size_eq))))) fun H2 e2 => ?_
  have e12 := e1.trans e2
  have hin : ∀ (H1 : Hp) (σ : L2.St), σ[1]? = some (some v) → Ex H H1 → Ev (tOp (rIn K false) (tOp (rIxT K) (tVar 1) (tC (.int 0))) (tTup (tCons (tC (.str "put")) (tCons (tC (.str "answer")) tNil)))) σ H1 (.bl (decide (d.word ∈ (["put", "answer"] : List Str)))) := fun H1 σ h e =>
    ev_is (ev_inU (ev_str (ed_ix0 (hv _ _ h e))) (eu_tup (ea_cons ev_c (ea_cons ev_c ea_nil)) (by decide)) rfl rfl) (congrArg V.bl (inV_str (ns := ["put", "answer"])))
  cases d with
  | put x o m =>
    refine q_yes (et_test (ev_is (hin _ _ rfl e12) (congrArg V.bl (decide_eq_true (by simp [Deed.word]))))) fun H3 e3 => ?_
    exact sd_ret (ed_callV (d := .bool true) (ev_var rfl) (hv0 _ _ rfl (e12.trans e3)) fun z H8 e9 mz Q q E => ⟨sv, z, pl, x, o, m, rfl, hs.ex ((e12.trans e3).trans e9), po, mz, ok, fun H6 e6 => q _ H6 e6 (.bl true)⟩) fun v H9 e9 m => by
      rw [m.bl_iff]
      exact k H9 ((e12.trans e3).trans e9)
  | note o =>
    refine q_no (et_test (ev_is (hin _ _ rfl e12) (congrArg V.bl (decide_eq_false (show ¬ ("note" : Str) ∈ (["put", "answer"] : List Str) by decide +kernel))))) fun H3 e3 => ?_
    refine q_yes (et_test (ev_eqSy (ed_ix0 (hv _ _ rfl (e12.trans e3))) ed_cs)) fun H4 e4 => ?_
    exact sd_ret (ed_callV (d := .bool true) (ev_var rfl) (ed_ix1 (hv _ _ rfl ((e12.trans e3).trans e4))) fun z H8 e9 mz Q q E => ⟨sv, z, pl, o, rfl, hs.ex (((e12.trans e3).trans e4).trans e9), mz, ok, fun H6 e6 => q _ H6 e6 (.bl true)⟩) fun v H9 e9 m => by
      rw [m.bl_iff]
      exact k H9 (((e12.trans e3).trans e4).trans e9)
  | set o =>
    refine q_no (et_test (ev_is (hin _ _ rfl e12) (congrArg V.bl (decide_eq_false (show ¬ ("set" : Str) ∈ (["put", "answer"] : List Str) by decide +kernel))))) fun H3 e3 => ?_
    refine q_no (et_test (ev_eqSn (ed_ix0 (hv _ _ rfl (e12.trans e3))) ed_cs so_9)) fun H4 e4 => ?_
    have e14 := (e12.trans e3).trans e4
    refine q_no (et_test (ev_eqSn (ed_ix0 (hv _ _ rfl e14)) ed_cs so_10)) fun H5 e5 => ?_
    refine q_no (et_test (ev_eqSn (ed_ix0 (hv _ _ rfl (e14.trans e5))) ed_cs so_11)) fun H6 e6 => ?_
    have e16 := (e14.trans e5).trans e6
    exact sd_ret (ed_callV (d := .bool true) (ev_var rfl) (hv0 _ _ rfl e16) fun z H8 e9 mz Q q E => ⟨sv, z, pl, o, rfl, hs.ex (e16.trans e9), mz, ok, fun H6 e6 => q _ H6 e6 (.bl true)⟩) fun v H9 e9 m => by
      rw [m.bl_iff]
      exact k H9 (e16.trans e9)
def spWrong (C : Addr) : Sp := fun vs H Q _ => ∃ (sv v : V) (pl : Pls) (ds : List Deed), vs = [sv, v] ∧ (ds = [] ∨ ScAt C pl H sv) ∧ PlOk pl ∧ Im H v (.tuple (ds.map Deed.enc)) ∧ ds.length ≤ 12 ∧ (∀ d ∈ ds, d.ok pl) ∧ ∀ H2, Ex H H2 → Q .non H2
theorem sc_wrong_deed : FnScope ["scope", "deeds", "wrong", "at", "deed"] ["scope", "deeds"] (defScope (top 41)) := ⟨rfl, rfl, rfl, by decide +kernel, rfl, by decide +kernel, by decide +kernel⟩
theorem ok_wrong_deed {f : Addr} {fd : FuncData} (F : Fun K "wrong_deed" "wrong_deed" (top 41) f fd) {C aS : Addr} (D_is_deed : Df P w K mg base "is_deed" 7 ["scope", "thing", "behind"] (spDeed C)) (B : Blt mg) : FnOk P w K mg base CX0 8 f fd ["scope", "deeds"] (spWrong C) := by
  refine F.ok sc_wrong_deed (fun vs H Q E h => (by obtain ⟨v, v1, _, _, rfl, _⟩ := h; rfl)) (fun cdv A outer s H vs Q E hr h => ?_)
  obtain ⟨sv, v, pl, ds, rfl, hs, po, m1, hl, ok, k⟩ := h
  refine ⟨_, (pss_cons (ps_setLc (i := 2) (own := [("at", 3), ("deed", 4)]) rfl sc_wrong_deed.nd rfl rfl (sw_true rfl rfl rfl (by decide +kernel)) (pi_enumT (by rfl) B.enumerate (pa_cons (pv 1) pa_nil)) (blkOk_by (own := [("at", 3), ("deed", 4)]) (N := ["scope", "deeds", "wrong", "at", "deed"]) (sc := defScope (top 41)) (by decide +kernel)) (fun _ _ _ _ _ => (pg_tupK (K := K) (n := 2) rfl rfl (pgs_cons (pg_name (i := 3) sc_wrong_deed.nd rfl (Or.inl rfl) (by first | exact Or.inl rfl | exact Or.inr rfl)) (pgs_cons (pg_name (i := 4) sc_wrong_deed.nd rfl (Or.inl rfl) (by first | exact Or.inl rfl | exact Or.inr rfl)) pgs_nil)))) (fun _ _ _ _ _ => (pts_one (pt_not (pt_val (pe_df D_is_deed (hr.mono (by decide)) (by rfl) (pa_cons (pv 0) (pa_cons (pv 4) (pa_cons (pe_op op_sub (pe_op op_sub (pe_callB (r := Evl.rLenS K) (CallR_len _) (by rfl) B.len bt_len (pa_cons (pv 1) pa_nil)) (pv 3)) pe_int) pa_nil)))))))) (fun _ _ _ _ _ => (pv 3)))
      (pss_one (ps_ret (pe_ifExp (pt_cmpR (r := rNeD K) (op_neD (eqd_of hr)) (pv 2) (pe_lst pa_nil) (nomark _)) (pe_ix (r := rIxL K) ix_list (pv 2) pe_int (fun _ _ => rfl)) pe_non)))), ?_⟩
  have hv : ∀ (H1 : Hp) (σ : L2.St), σ[1]? = some (some v) → Ex H H1 → EvD (tVar 1) σ H1 (.tuple (ds.map Deed.enc)) := fun H1 σ h e => ed_var h (m1.ex e)
  refine qn_asg (en_none (enc := fun p : Deed × Nat => PyData.tuple [.int (p.2 : Int), p.1.enc]) (id_enumTz (hv _ _ rfl (Ex.refl _))) (by rw [zip_len]; omega) fun a ha x H1 e mx Kt q => g_pair mx fun y z my mz => q _ rfl (et_not (a := true) (et_test ?_))) fun p xs H1 hp e1 h1 k1 => ?_
  · rw [my.int_iff]
    have hm := zip_at ha
    have hd := ok a.1 (List.mem_of_getElem? hm)
    refine ev_t (ed_callV1 (y := .int ((ds.length : Int) - (a.2 : Int) - 1)) (ev_var rfl) (ed_var rfl mz) (ev_op (ev_op (ev_is (ev_lenT (hv _ _ rfl e) rfl) (congrArg V.int (by rw [List.length_map]))) (ev_var rfl) rv_I0) ev_c rv_I0) fun w H8 e9 mw Q q E => ?_)
    rcases hs with rfl | hs
    · simp at hm
    · exact ⟨sv, w, pl, a.1, _, rfl, hs.ex (e.trans e9), po, mw, hd, fun H6 e6 => q _ H6 e6 (.bl true)⟩
  · have hL : LsAt H1 (.ref p) [] := ⟨p, xs, rfl, h1, k1⟩
    exact s_ret (ev_if (b := false) (et_test (ev_neL (es_var rfl hL) (by decide +kernel))) (fun e => nomatch e) fun _ => ev_c) fun H2 e2 => k H2 (e1.trans e2)
end
end Mt

set_option maxHeartbeats 4000000
/-! the look at a program -/
namespace Mt
open PySem L2 Evl
theorem foldK_nd : ∀ (l acc : List (Key × V)), (l.map Prod.fst).Nodup → (∀ a ∈ l, ∀ b ∈ acc, b.1 ≠ a.1) → l.foldl (fun acc a => putK acc a.1 a.2) acc = acc ++ l
  | [], acc, _, _ => (List.append_nil acc).symm
  | a :: l, acc, nd, h => by
    rw [List.map_cons, List.nodup_cons] at nd
    have h1 : putK acc a.1 a.2 = acc ++ [a] := by
      unfold putK
      rw [if_neg]
      intro he
      obtain ⟨b, hb, e⟩ := List.any_eq_true.mp he
      exact h a (by simp) b hb (of_decide_eq_true e)
    rw [List.foldl_cons, h1, foldK_nd l (acc ++ [a]) nd.2 fun c hc b hb => ?_, List.append_assoc]
    · rfl
    · rcases List.mem_append.mp hb with hb | hb
      · exact h c (by simp [hc]) b hb
      · rw [List.mem_singleton] at hb
        rw [hb]
        intro e
        exact nd.1 (by rw [e]; exact List.mem_map.mpr ⟨c, hc, rfl⟩)
theorem puts_nd {l : List (Key × V)} (nd : (l.map Prod.fst).Nodup) : puts l = l := by
  unfold puts
  rw [foldK_nd l [] nd fun _ _ b hb => by cases hb]
  rfl
theorem plK_nd {pl : Pls} (nd : (pl.map Prod.fst).Nodup) : ((plK pl).map Prod.fst).Nodup := by
  have : (plK pl).map Prod.fst = (pl.map Prod.fst).map (Sum.inr : Str → Key) := by
    unfold plK
    rw [List.map_map, List.map_map]
    rfl
  rw [this]
  exact List.Pairwise.map _ (fun a b h e => h (Sum.inr.inj e)) nd
theorem rd_inj {H : Hp} {a : Addr} {xs ys : List V} (h1 : Rd H a (.tup xs)) (h2 : Rd H a (.tup ys)) : xs = ys := by
  rcases h1 with h1 | ⟨o, h1⟩ <;> rcases h2 with h2 | ⟨o2, h2⟩ <;> rw [h1] at h2 <;> cases h2 <;> rfl
/-- the places of the net at v are frozen -/
def FrzPl (H : Hp) (v : V) : Prop := ∃ a y pp z o xs, v = .ref a ∧ Rd H a (.tup [y, .ref pp, z]) ∧ H pp = some (.frz o (.tup xs)) ∧ o.dict = none
theorem FrzPl.tx {H H' : Hp} {v : V} (h : FrzPl H v) (e : Tx H H') : FrzPl H' v := by
  obtain ⟨a, y, pp, z, o, xs, rfl, h1, h2, h3⟩ := h
  exact ⟨a, y, pp, z, o, xs, rfl, e.rd h1, e _ _ ⟨xs, .inr ⟨o, rfl⟩⟩ h2, h3⟩
structure NetAt (n : Net) (H : Hp) (v : V) : Prop where
  im : Im H v n.enc
  fz : FrzPl H v
theorem NetAt.tx {n : Net} {H H' : Hp} {v : V} (h : NetAt n H v) (e : Tx H H') : NetAt n H' v := ⟨h.im.tx e, h.fz.tx e⟩
theorem NetAt.ex {n : Net} {H H' : Hp} {v : V} (h : NetAt n H v) (e : Ex H H') : NetAt n H' v := h.tx (tx_of e)
section
variable {K : PySem.W.Frag} {σ : L2.St} {H H' : Hp} {ta tb te tx tk tv : TE} {x y z v : V} {d d1 : PyData} {ds : List PyData} {D : Ends} {tz : TS}
def EvP (te : TE) (σ : L2.St) (H : Hp) (Φ : V → Hp → Prop) : Prop := ∀ H1, Ex H H1 → ∀ Q : VK, (∀ v H2, Ex H1 H2 → Φ v H2 → Q v H2) → te σ H1 Q
theorem qk_asg {i : Nat} {kvs : List (Key × V)} (h : EvK te σ H kvs) (k : ∀ p H1, H p = none → Ex H H1 → H1 p = some (.dK kvs) → tz D (σ.set i (some (.ref p))) H1) : tSeq (tAsg te (gName i)) tz D σ H := h H (Ex.refl H) _ k
theorem prs_of : ∀ {pl : Pls} {xs : List V}, Ims H xs (pl.map plE) → ∃ ps : List Addr, xs = ps.map V.ref ∧ Paired (fun p kv => SqT K H p [kV kv.1, kv.2]) ps (plK pl)
  | [], xs, h => ⟨[], h.nil_iff, .nil⟩
  | p :: pl, xs, h => by
    obtain ⟨v, ws, rfl, h1, h2⟩ := Ims.cons_iff h
    obtain ⟨ps, rfl, h3⟩ := prs_of h2
    obtain ⟨q, ys, rfl, hq, hy⟩ := Im.tup_iff h1
    obtain ⟨a, r, rfl, m1, hy⟩ := hy.cons_iff
    obtain ⟨b, r, rfl, m2, hy⟩ := hy.cons_iff
    rw [hy.nil_iff, m1.str_iff, m2.int_iff] at hq
    exact ⟨q :: ps, rfl, .cons (.inl hq) h3⟩
theorem ek_dict {n : Net} (h : Ev ta σ H v) (hn : NetAt n H v) (nd : (n.pl.map Prod.fst).Nodup) : EvK (tCB (rDictF K) (tCons (tOp (rIxT K) ta (tC (.int 1))) tNil)) σ H (plK n.pl) := fun H1 e Q q => h H1 e _ fun H2 e2 => by
  have hn := hn.ex (e.trans e2)
  obtain ⟨a, y, pp, z, o, xs, rfl, f1, f2, f3⟩ := hn.fz
  obtain ⟨a', ys, ea, g1, gk⟩ := hn.im.tup_iff
  cases ea
  rw [rd_inj g1 f1] at gk
  obtain ⟨_, _, eq, m1, gk⟩ := gk.cons_iff
  cases eq
  obtain ⟨_, _, eq, m2, gk⟩ := gk.cons_iff
  cases eq
  obtain ⟨p', xs', ep, p1, pk⟩ := m2.tup_iff
  cases ep
  have ex : xs' = xs := rd_inj p1 (.inr ⟨o, f2⟩)
  rw [ex] at pk
  obtain ⟨ps, rfl, pr⟩ := prs_of (K := K) pk
  refine ⟨a, _, 1, .ref pp, rfl, rfl, .inl f1, rfl, ?_⟩
  refine ⟨pp, o, ps, plK n.pl, rfl, f2, f3, pr, fun p hp => q p _ (fresh_back e2 hp) (e2.trans (Ex.new hp)) ?_⟩
  rw [show mergeK [] (plK n.pl) = plK n.pl from puts_nd (plK_nd nd)]
  exact upd_same
theorem ed_slTake {i : Nat} (ha : EvD ta σ H (.tuple ds)) (hi : Ev te σ H (.int (i : Int))) : EvD (tSl (rSlA K) ta tNoPart (tPart te)) σ H (.tuple (ds.take i)) := fun H1 e Q q => ha H1 e _ fun v H2 e2 m => by
  refine hi H2 (e.trans e2) _ fun H3 e3 => ⟨(i : Int), rfl, ?_⟩
  obtain ⟨p, xs, rfl, hp, k⟩ := (m.ex e3).tup_iff
  refine ⟨p, xs, rfl, .inl hp, fun hw => ?_, fun _ r hr => ?_⟩
  · refine q _ _ (e2.trans e3) ?_
    have h2 := hw.2
    rw [HT.sIx_nat] at h2
    have kl := k.len
    rw [List.take_of_length_le (by omega)]
    exact m.ex e3
  · rw [cut_take]
    exact q _ _ ((e2.trans e3).trans (Ex.new hr)) (im_tup upd_same ((k.take i).ex (Ex.new hr)))
theorem ev_inS {neg : Bool} {x : Str} {ns : List Str} (ha : EvD ta σ H (.str x)) (hb : EvS tb σ H (ns.map PyData.str)) : Ev (tOp (rIn K neg) ta tb) σ H (.bl (if neg then !decide (x ∈ ns) else decide (x ∈ ns))) := fun H1 e Q q => ev_str ha H1 e _ fun H2 e2 => hb H2 (e.trans e2) _ fun v H3 e3 m => by
  obtain ⟨p, xs, rfl, hp, k⟩ := m
  rw [k.strs] at hp
  refine ⟨p, _, rfl, .inl (SqL.of hp), rfl, all_strs _, ?_⟩
  rw [inV_str]
  exact q H3 (e2.trans e3)
theorem ev_inI {neg : Bool} {x : Int} {ns : List Int} (ha : EvD ta σ H (.int x)) (hb : EvS tb σ H (ns.map PyData.int)) : Ev (tOp (rIn K neg) ta tb) σ H (.bl (if neg then !decide (x ∈ ns) else decide (x ∈ ns))) := fun H1 e Q q => ev_int ha H1 e _ fun H2 e2 => hb H2 (e.trans e2) _ fun v H3 e3 m => by
  obtain ⟨p, xs, rfl, hp, k⟩ := m
  rw [k.ints] at hp
  refine ⟨p, _, rfl, .inl (SqL.of hp), rfl, all_ints _, ?_⟩
  rw [inV_int]
  exact q H3 (e2.trans e3)
/-- for over enumerate of a tuple of one, the item itself -/
theorem q_forE1 {g : TG} {tu : TS} {p : Addr} (h : Ev te σ H (.ref p)) (hp : Rd H p (.tup [x])) (N : L2.St → Hp → Prop) (hN : ∀ σ' H', N σ' H' → Tx H H') (hb : ∀ T H1, Ex H H1 → H1 T = some (.tup [.int 0, x]) → g (.ref T) σ H1 fun σ2 H2 => tu { D with nx := N, ct := N, bk := tz D } σ2 H2) (hd : ∀ σ' H', N σ' H' → tz D σ' H') : tSeq (tFor (iEnumT K (tCons te tNil)) g tu) tz D σ H :=
  h H (Ex.refl H) _ fun H1 e1 => ⟨p, [x], rfl, .inl (ex_rd e1 hp), by
    refine ⟨fun i m σ' H' => (i = 0 ∧ m = 1 ∧ σ' = σ ∧ H' = H1) ∨ (i = 1 ∧ m = 0 ∧ N σ' H'), ⟨1, .inl ⟨rfl, rfl, rfl, rfl⟩⟩, ?_⟩
    rintro i m σ' H' (⟨rfl, rfl, rfl, rfl⟩ | ⟨rfl, rfl, n⟩)
    · refine .inr ⟨⟨[x], x, .inl (ex_rd e1 hp), rfl⟩, N, fun σ2 H2 n => ⟨0, by decide, .inr ⟨rfl, rfl, n⟩⟩, fun y H2 hy => ?_⟩
      obtain ⟨T, z, rfl, hT, rfl, hz⟩ := hy
      have ez := hz [x] (.inl (ex_rd e1 hp))
      cases ez
      exact hb T _ (e1.trans (Ex.new hT)) upd_same
    · exact .inl ⟨⟨[x], .inl ((hN _ _ n).rd hp), Nat.le_refl 1⟩, hd _ _ n⟩⟩
/-- a call by a value told by Φ and a data -/
theorem ev_callP {sp : Sp} {E : XK} {Φ : V → Hp → Prop} (hΦ : ∀ v H1 H2, Ex H1 H2 → Φ v H1 → Φ v H2) (h : EvP ta σ H Φ) (h2 : EvD tb σ H d1) (hs : ∀ y z H1, Ex H H1 → Φ y H1 → Im H1 z d1 → ∀ Q : VK, (∀ H2, Ex H1 H2 → Q x H2) → ∀ E, sp [y, z] H1 Q E) : Ev (tCall sp [] E (tCons ta (tCons tb tNil))) σ H x := fun H1 e Q q => h H1 e _ fun y H2 e2 p => h2 H2 (e.trans e2) _ fun z H3 e3 m => by
  show sp ([y, z] ++ []) H3 Q E
  rw [List.append_nil]
  exact hs y z H3 ((e.trans e2).trans e3) (hΦ _ _ _ e3 p) m Q (fun H4 e4 => q H4 ((e2.trans e3).trans e4)) E
end
section
variable {P : Program} {w : World} {K : PySem.W.Frag} {mg : Str → Option Value} {base : Heap}
def spSInit (C : Addr) : Sp := fun vs H Q _ => ∃ (p dx : Addr) (kv pv hv : V), vs = [.ref p, kv, pv, hv] ∧ H p = some (.ins C dx []) ∧ ∀ H' fs, (∀ a, a ≠ p → H' a = H a) → H' p = some (.ins C dx fs) → fs.lookup ("places_known" : Str) = some pv → Q .non H'
theorem ns1 : ¬ (("kinds_known" : Str) = "places_known") := by decide +kernel
theorem ns2 : ¬ (("heads_known" : Str) = "places_known") := by decide +kernel
theorem putF_len (f : Str) (v : V) (fs : List (Str × V)) : (putF f v fs).length ≤ fs.length + 1 := by
  induction fs with
  | nil => exact Nat.le_refl _
  | cons p r ih =>
    unfold putF
    split
    · simp
    · rw [List.length_cons, List.length_cons]
      omega
theorem sc_Scope___init__ : FnScope ["self", "kinds", "places", "heads"] ["self", "kinds", "places", "heads"] (defScope (inClass (top 28) 0)) := ⟨rfl, rfl, rfl, by decide +kernel, rfl, by decide +kernel, by decide +kernel⟩
theorem ok_Scope___init__ {f : Addr} {fd : FuncData} (F : Fun K "__init__" "Scope.__init__" (inClass (top 28) 0) f fd) {C : Addr} (T : ScT K mg C) : FnOk P w K mg base CX0 1 f fd ["self", "kinds", "places", "heads"] (spSInit C) := by
  refine F.ok sc_Scope___init__ (fun vs H Q E h => (by obtain ⟨p, dx, kv, v, hv, rfl, _⟩ := h; rfl)) (fun cdv A outer s H vs Q E hr h => ?_)
  obtain ⟨p, dx, kv, pv', hv, rfl, hp, k⟩ := h
  refine ⟨_, (pss_cons (ps_fld (pv 0) (pv 1) rfl)
      (pss_cons (ps_fld (pv 0) (pv 2) rfl)
      (pss_one (ps_fld (pv 0) (pv 3) rfl)))), ?_⟩
  refine ⟨kv, rfl, ⟨.ref p, rfl, p, C, dx, _, rfl, hp, T.cl, T.nK, by decide, ?_⟩⟩
  have l1 := putF_len "kinds_known" kv []
  have l2 := putF_len "places_known" pv' (putF "kinds_known" kv [])
  rw [List.length_nil] at l1
  refine ⟨pv', rfl, ⟨.ref p, rfl, p, C, dx, _, rfl, upd_same, T.cl, T.nP, by omega, ?_⟩⟩
  refine ⟨hv, rfl, ⟨.ref p, rfl, p, C, dx, _, rfl, upd_same, T.cl, T.nH, by omega, ?_⟩⟩
  refine k _ _ (fun a ha => by rw [upd_ne ha, upd_ne ha, upd_ne ha]) upd_same ?_
  rw [lookup_putF, if_neg (fun e => ns2 e.symm), lookup_putF, if_pos rfl]
/-- Scope stands -/
structure ScMk (P : Program) (w : World) (K : PySem.W.Frag) (mg : Str → Option Value) (base : Heap) (C : Addr) : Prop where
  at_ : ∃ f fd, Mk K C f ∧ FnOk P w K mg base CX0 1 f fd ["self", "kinds", "places", "heads"] (spSInit C) ∧ Binds K fd ["self", "kinds", "places", "heads"] []
end
section
variable {K : PySem.W.Frag} {σ : L2.St} {H H' : Hp} {ta tb te tx tk tv : TE} {x y z v : V} {d d1 : PyData} {ds : List PyData} {D : Ends} {tz : TS}
theorem ep_scope {C : Addr} {E : XK} (h1 : Ev ta σ H x) (h2 : Ev tb σ H y) (h3 : EvS te σ H ds) : EvP (tMake C (spSInit C) [] E (tCons ta (tCons tb (tCons te tNil)))) σ H fun v H2 => ∃ p dx fs, v = .ref p ∧ H2 p = some (.ins C dx fs) ∧ fs.lookup ("places_known" : Str) = some y := fun H1 e Q q =>
  h1 H1 e _ fun H2 e2 => h2 H2 (e.trans e2) _ fun H3 e3 => h3 H3 ((e.trans e2).trans e3) _ fun z H4 e4 m p dx hp hd ne => by
    refine ⟨p, dx, x, y, z, rfl, upd_same, fun H' fs f1 f2 f3 => ⟨rfl, q _ _ ?_ ⟨p, dx, fs, rfl, f2, f3⟩⟩⟩
    refine ((e2.trans e3).trans e4).trans fun b o hb => ?_
    have n1 : b ≠ p := fun z => by rw [z, hp] at hb; cases hb
    have n2 : b ≠ dx := fun z => by rw [z, hd] at hb; cases hb
    rw [f1 b n1, upd_ne n1, upd_ne n2]
    exact hb
end
section
variable {P : Program} {w : World} {K : PySem.W.Frag} {mg : Str → Option Value} {base : Heap}
def spRules (C : Addr) : Sp := fun vs H Q _ => ∃ (x0 x1 v : V) (n : Net), vs = [x0, x1, v] ∧ NetAt n H v ∧ NetOk n ∧ ∀ H2, Ex H H2 → Q .non H2
theorem sc_look_at_rules : FnScope ["names", "number", "kind", "places", "at", "rule", "wrong", "place", "slots"] ["names", "number", "kind"] (defScope (top 43)) := ⟨rfl, rfl, rfl, by decide +kernel, rfl, by decide +kernel, by decide +kernel⟩
theorem ok_look_at_rules {f : Addr} {fd : FuncData} (F : Fun K "look_at_rules" "look_at_rules" (top 43) f fd) {C aS : Addr} (T : ScT K mg C) (SM : ScMk P w K mg base C) (D_are_heads : Df P w K mg base "are_heads" 6 ["places", "thing"] spHeads) (D_is_tuple_of : Df P w K mg base "is_tuple_of" 1 ["thing", "low", "high"] spTupleOf) (D_wrong_deed : Df P w K mg base "wrong_deed" 8 ["scope", "deeds"] (spWrong C)) (B : Blt mg) (C_MOST_DEEDS : ∃ n, mg "MOST_DEEDS" = some (.int 12 n)) : FnOk P w K mg base CX0 9 f fd ["names", "number", "kind"] (spRules C) := by
  obtain ⟨n_MOST_DEEDS, C_MOST_DEEDS⟩ := C_MOST_DEEDS
  refine F.ok sc_look_at_rules (fun vs H Q E h => (by obtain ⟨v, v1, _, _, rfl, _⟩ := h; rfl)) (fun cdv A outer s H vs Q E hr h => ?_)
  obtain ⟨x0, x1, v, n, rfl, hn, ok, k⟩ := h
  obtain ⟨fI, fdI, MK, GI, bI⟩ := SM.at_
  refine ⟨_, (pss_cons (ps_set (i := 3) sc_look_at_rules.nd rfl (Or.inl rfl) (pe_callTy (r := rDictF K) (call_dictF rfl) (by rfl) B.dict bt_dict (pa_cons (pe_ix (r := rIxT K) ix_tup (pv 2) pe_int (fun _ _ => rfl)) pa_nil)))
      (pss_one (ps_for PassesOwn.never rfl (pi_enumT (by rfl) B.enumerate (pa_cons (pe_ix (r := rIxT K) ix_tup (pv 2) pe_int (fun _ _ => rfl)) pa_nil)) (pg_tupK (K := K) (n := 2) rfl rfl (pgs_cons (pg_name (i := 4) sc_look_at_rules.nd rfl (Or.inl rfl) (by first | exact Or.inl rfl | exact Or.inr rfl)) (pgs_cons (pg_name (i := 5) sc_look_at_rules.nd rfl (Or.inl rfl) (by first | exact Or.inl rfl | exact Or.inr rfl)) pgs_nil))) (pss_cons (ps_if (PW.pt (pw_or (pt_not (pt_val (pe_df D_is_tuple_of (hr.mono (by decide)) (by rfl) (pa_cons (pv 5) (pa_cons pe_int (pa_cons pe_int pa_nil)))))) (pw_or (pt_not (pt_val (pe_df D_are_heads (hr.mono (by decide)) (by rfl) (pa_cons (pv 3) (pa_cons (pe_ix (r := rIxT K) ix_tup (pv 5) pe_int (fun _ _ => rfl)) pa_nil))))) (pw_or1 (pt_not (pt_val (pe_df D_is_tuple_of (hr.mono (by decide)) (by rfl) (pa_cons (pe_ix (r := rIxT K) ix_tup (pv 5) pe_int (fun _ _ => rfl)) (pa_cons pe_int (pa_cons (pe_glob (v := .int 12) (by rfl) C_MOST_DEEDS ⟨_, rfl⟩) pa_nil)))))))))) (pss_one ps_never) pss_nil)
      (pss_cons (ps_set (i := 6) sc_look_at_rules.nd rfl (Or.inl rfl) (pe_df D_wrong_deed (hr.mono (by decide)) (by rfl) (pa_cons (pe_make MK GI (hr.mono (by decide)) (by rfl) T.mgC bI .nil pass0 (pa_cons (pv 0) (pa_cons (pv 3) (pa_cons (pe_lc (own := [("place", 7), ("slots", 8)]) rfl sc_look_at_rules.nd (pi_tupK (K := K) rfl (pe_ix (r := rIxT K) ix_tup (pv 5) pe_int (fun _ _ => rfl))) (blkOk_by (own := [("place", 7), ("slots", 8)]) (N := ["names", "number", "kind", "places", "at", "rule", "wrong", "place", "slots"]) (sc := defScope (top 43)) (by decide +kernel)) (fun _ _ _ _ _ => (pg_tupK (K := K) (n := 2) rfl rfl (pgs_cons (pg_name (i := 7) sc_look_at_rules.nd rfl (Or.inl rfl) (by first | exact Or.inl rfl | exact Or.inr rfl)) (pgs_cons (pg_name (i := 8) sc_look_at_rules.nd rfl (Or.inl rfl) (by first | exact Or.inl rfl | exact Or.inr rfl)) pgs_nil)))) (fun _ _ _ _ _ => pts_nil) (fun _ _ _ _ _ => (pv 7))) pa_nil)))) (pa_cons (pe_ix (r := rIxT K) ix_tup (pv 5) pe_int (fun _ _ => rfl)) pa_nil))))
      (pss_one (ps_if (pt_cmpR op_notN1 (pv 6) pe_non (nomark _)) (pss_one ps_never) pss_nil))))))), ?_⟩
  have hv : ∀ (H1 : Hp) (σ : L2.St), σ[2]? = some (some v) → Ex H H1 → EvD (tVar 2) σ H1 n.enc := fun H1 σ h e => ed_var h (hn.im.ex e)
  refine qk_asg (ek_dict (ev_var rfl) hn ok.pl.nd) fun p H1 hp e1 hd => ?_
  have l3 := ok.hi
  refine s_forD (enc := fun p : Rule × Nat => PyData.tuple [.int (p.2 : Int), p.1.enc]) (id_enumTz (ed_ix2 (hv _ _ rfl e1))) (fun H2 _ σ' H' => Ex H2 H' ∧ ∃ a b c, σ' = [some x0, some x1, some v, some (.ref p), a, b, c, none, none])
    (fun H2 e2 => ⟨Ex.refl _, _, _, _, rfl⟩) (fun H2 e2 i σ' H' _ h => Kp.ex h.1) (fun H2 e2 i a σ' H' x H3 ha h e3 mx => ?_) fun H2 e2 σ' H' h => k _ ((e1.trans e2).trans h.1)
  obtain ⟨h1, a1, b1, c1, rfl⟩ := h
  have rk : RuleOk n.pl a.1 := ok.rl a.1 (List.mem_of_getElem? (zip_at (List.mem_of_getElem? ha)))
  refine g_pair mx fun y z my mz => ?_
  have e4 : Ex H1 H3 := (e2.trans h1).trans e3
  have hz : ∀ (H1 : Hp) (σ : L2.St), σ[5]? = some (some z) → Ex H3 H1 → EvD (tVar 5) σ H1 a.1.enc := fun H1 σ h e => ed_var h (mz.ex e)
  have hp : ∀ H4, Ex H3 H4 → PlAt n.pl H4 (.ref p) := fun H4 e => ⟨p, rfl, e _ _ (e4 _ _ hd)⟩
  have l1 := rk.hd.lo
  have l2 := rk.hd.hi
  have l4 := rk.hi
  refine q_no (et_or2 (et_nt (ev_t (ed_call (eds3 (hz _ _ rfl (Ex.refl _)) ed_ci ed_ci) (tupOf_yes (Int.le_refl 2) (Int.le_refl 2))))) (et_or2 (et_nt (ev_t (ed_callV (d := .bool true) (ev_var rfl) (ed_ix0 (hz _ _ rfl (Ex.refl _))) fun u H4 e4 mu Q q E => ⟨.ref p, u, n.pl, a.1.heads, rfl, hp _ e4, ok.pl, mu, rk.hd, fun H5 e5 => q _ H5 e5 (.bl true)⟩))) (et_nt (ev_t (ed_call (eds3 (ed_ix1 (hz _ _ rfl (Ex.refl _))) ed_ci ed_ci) (tupOf_yes (by omega) (by rw [List.length_map]; omega))))))) fun H4 e5 => ?_
  refine q_asg (ev_callP (x := .non) (fun v H1 H2 e ⟨q, dx, fs, h1, h2, h3⟩ => ⟨q, dx, fs, h1, e _ _ h2, h3⟩) (ep_scope (ev_var rfl) (ev_var rfl) (EvN.s (en_map (enc := Head.enc) (id_tup (ed_ix0 (hz _ _ rfl e5))) (by omega) (fun p => .str p.1) fun a ha x H2 e2 mx Kt q => g_pair mx fun y z my mz => q _ rfl (ed_var rfl my)))) (ed_ix1 (hz _ _ rfl e5)) fun y z H5 e6 hs mz Q q E => ?_) fun H5 e6 => ?_
  · obtain ⟨q1, dx, fs, h1, h2, h3⟩ := hs
    exact ⟨y, z, n.pl, a.1.deeds, rfl, .inr ⟨q1, dx, fs, .ref p, h1, h2, h3, hp _ (e5.trans e6)⟩, ok.pl, mz, l4, rk.dd, q⟩
  · exact s_no (et_test (ev_notNn (ev_var rfl))) fun H6 e7 => ⟨((h1.trans e3).trans e5).trans (e6.trans e7), _, _, _, rfl⟩
def spKinds : Sp := fun vs H Q _ => ∃ (v : V) (n : Net), vs = [v] ∧ Im H v (.tuple [n.enc]) ∧ NetOk n ∧ ∀ H2, Ex H H2 → Q .non H2
theorem sc_look_at_kinds : FnScope ["kinds", "number", "kind", "name", "rest"] ["kinds"] (defScope (top 42)) := ⟨rfl, rfl, rfl, by decide +kernel, rfl, by decide +kernel, by decide +kernel⟩
theorem ok_look_at_kinds {f : Addr} {fd : FuncData} (F : Fun K "look_at_kinds" "look_at_kinds" (top 42) f fd) (D_is_kind : Df P w K mg base "is_kind" 4 ["thing"] spKind) (B : Blt mg) : FnOk P w K mg base CX0 5 f fd ["kinds"] spKinds := by
  refine F.ok sc_look_at_kinds (fun vs H Q E h => (by obtain ⟨v, _, rfl, _⟩ := h; rfl)) (fun cdv A outer s H vs Q E hr h => ?_)
  obtain ⟨v, n, rfl, m1, ok, k⟩ := h
  refine ⟨_, (pss_one (ps_for PassesOwn.never rfl (pi_enumT (by rfl) B.enumerate (pa_cons (pv 0) pa_nil)) (pg_tupK (K := K) (n := 2) rfl rfl (pgs_cons (pg_name (i := 1) sc_look_at_kinds.nd rfl (Or.inl rfl) (by first | exact Or.inl rfl | exact Or.inr rfl)) (pgs_cons (pg_name (i := 2) sc_look_at_kinds.nd rfl (Or.inl rfl) (by first | exact Or.inl rfl | exact Or.inr rfl)) pgs_nil))) (pss_one (ps_if (PW.pt (pw_or (pt_not (pt_val (pe_df D_is_kind (hr.mono (by decide)) (by rfl) (pa_cons (pv 2) pa_nil)))) (pw_or1 (pt_cmpR (r := rIn K false) op_in_seq (pe_ix (r := rIxT K) ix_tup (pv 2) pe_int (fun _ _ => rfl)) (pe_lc (own := [("name", 3), ("rest", 4)]) rfl sc_look_at_kinds.nd (pi_tupK (K := K) rfl (pe_slice (r := rSlA K) sl_tupA (pv 0) po_none (po_some (pv 1)))) (blkOk_by (own := [("name", 3), ("rest", 4)]) (N := ["kinds", "number", "kind", "name", "rest"]) (sc := defScope (top 42)) (by decide +kernel)) (fun _ _ _ _ _ => (pg_starK (K := K) (i := 1) rfl rfl (pgs_cons (pg_name (i := 3) sc_look_at_kinds.nd rfl (Or.inl rfl) (by first | exact Or.inl rfl | exact Or.inr rfl)) (pgs_star (pg_name (i := 4) sc_look_at_kinds.nd rfl (Or.inl rfl) (by first | exact Or.inl rfl | exact Or.inr rfl)))))) (fun _ _ _ _ _ => pts_nil) (fun _ _ _ _ _ => (pv 3))) (by rfl))))) (pss_one ps_never) pss_nil)))), ?_⟩
  have hv : ∀ (H1 : Hp) (σ : L2.St), σ[0]? = some (some v) → Ex H H1 → EvD (tVar 0) σ H1 (.tuple [n.enc]) := fun H1 σ h e => ed_var h (m1.ex e)
  refine s_forD (zs := [n].zipIdx) (enc := fun p : Net × Nat => PyData.tuple [.int (p.2 : Int), p.1.enc]) (id_enumTz (zs := [n]) (enc := Net.enc) (hv _ _ rfl (Ex.refl _))) (fun H2 _ σ' H' => Ex H2 H' ∧ ∃ a b, σ' = [some v, a, b, none, none])
    (fun H2 e2 => ⟨Ex.refl _, _, _, rfl⟩) (fun H2 e2 i σ' H' _ h => Kp.ex h.1) (fun H2 e2 i a σ' H' x H3 ha h e3 mx => ?_) fun H2 e2 σ' H' h => k _ (e2.trans h.1)
  obtain ⟨h1, a1, b1, rfl⟩ := h
  have ea : a = (n, 0) := by
    have := List.mem_of_getElem? ha
    simpa using this
  subst ea
  refine g_pair mx fun y z my mz => ?_
  have e4 : Ex H H3 := (e2.trans h1).trans e3
  have hz : ∀ (H1 : Hp) (σ : L2.St), σ[2]? = some (some z) → Ex H3 H1 → EvD (tVar 2) σ H1 n.enc := fun H1 σ h e => ed_var h (mz.ex e)
  rw [my.int_iff]
  refine s_no (et_or2 (et_nt (ev_t (ed_call (eds1 (hz _ _ rfl (Ex.refl _))) (spR_at ⟨n, rfl, ok, rfl⟩)))) (et_test ?_)) fun H4 e5 => ⟨(h1.trans e3).trans e5, _, _, rfl⟩
  exact ev_inS (ns := []) (ed_ix0 (hz _ _ rfl (Ex.refl _))) (EvN.s (en_map (zs := ([] : List PyData)) (enc := id) (id_tup (ed_slTake (i := 0) (hv _ _ rfl e4) (ev_var rfl))) (Nat.zero_le _) (fun _ => .none) fun a ha => nomatch ha))
def spProg : Sp := fun vs H Q _ => ∃ (n : Net) (nv : V) (a b c : Addr), vs = [.ref a] ∧ Rd H a (.tup [.ref b, .ref c]) ∧ Rd H b (.tup [nv]) ∧ Rd H c (.tup []) ∧ NetAt n H nv ∧ NetOk n ∧ ∀ H2, Ex H H2 → Q .non H2
theorem sc_look_at_program : FnScope ["thing", "kinds", "main", "names", "number", "kind", "wrong"] ["thing"] (defScope (top 44)) := ⟨rfl, rfl, rfl, by decide +kernel, rfl, by decide +kernel, by decide +kernel⟩
theorem ok_look_at_program {f : Addr} {fd : FuncData} (F : Fun K "look_at_program" "look_at_program" (top 44) f fd) {C : Addr} (T : ScT K mg C) (SM : ScMk P w K mg base C) (D_is_tuple_of : Df P w K mg base "is_tuple_of" 1 ["thing", "low", "high"] spTupleOf) (D_look_at_kinds : Df P w K mg base "look_at_kinds" 5 ["kinds"] spKinds) (D_look_at_rules : Df P w K mg base "look_at_rules" 9 ["names", "number", "kind"] (spRules C)) (D_wrong_deed : Df P w K mg base "wrong_deed" 8 ["scope", "deeds"] (spWrong C)) (B : Blt mg) (C_MOST_KINDS : ∃ n, mg "MOST_KINDS" = some (.int 6 n)) (C_MOST_MAIN : ∃ n, mg "MOST_MAIN" = some (.int 16 n)) : FnOk P w K mg base CX0 10 f fd ["thing"] spProg := by
  obtain ⟨n_MOST_KINDS, C_MOST_KINDS⟩ := C_MOST_KINDS
  obtain ⟨n_MOST_MAIN, C_MOST_MAIN⟩ := C_MOST_MAIN
  refine F.ok sc_look_at_program (fun vs H Q E h => (by obtain ⟨n, _, a, b, c, rfl, _⟩ := h; rfl)) (fun cdv A outer s H vs Q E hr h => ?_)
  obtain ⟨n, nv, a, b, c, rfl, ha, hb, hc, hn, ok, k⟩ := h
  obtain ⟨fI, fdI, MK, GI, bI⟩ := SM.at_
  refine ⟨_, (pss_cons (ps_if (PW.pt (pw_or (pt_not (pt_val (pe_df D_is_tuple_of (hr.mono (by decide)) (by rfl) (pa_cons (pv 0) (pa_cons pe_int (pa_cons pe_int pa_nil)))))) (pw_or1 (pt_not (pt_val (pe_df D_is_tuple_of (hr.mono (by decide)) (by rfl) (pa_cons (pe_ix (r := rIxT K) ix_tup (pv 0) pe_int (fun _ _ => rfl)) (pa_cons pe_int (pa_cons (pe_glob (v := .int 6) (by rfl) C_MOST_KINDS ⟨_, rfl⟩) pa_nil))))))))) (pss_one ps_never) pss_nil)
      (pss_cons (ps_asg (pv 0) (pg_tupK (K := K) (n := 2) rfl rfl (pgs_cons (pg_name (i := 1) sc_look_at_program.nd rfl (Or.inl rfl) (by first | exact Or.inl rfl | exact Or.inr rfl)) (pgs_cons (pg_name (i := 2) sc_look_at_program.nd rfl (Or.inl rfl) (by first | exact Or.inl rfl | exact Or.inr rfl)) pgs_nil))))
      (pss_cons (ps_if (pt_not (pt_val (pe_df D_is_tuple_of (hr.mono (by decide)) (by rfl) (pa_cons (pv 2) (pa_cons pe_int (pa_cons (pe_glob (v := .int 16) (by rfl) C_MOST_MAIN ⟨_, rfl⟩) pa_nil)))))) (pss_one ps_never) pss_nil)
      (pss_cons (ps_expr (pe_df D_look_at_kinds (hr.mono (by decide)) (by rfl) (pa_cons (pv 1) pa_nil)))
      (pss_cons (ps_setLc (i := 3) (own := [("kind", 5)]) rfl sc_look_at_program.nd rfl rfl (sw_true rfl rfl rfl (by decide +kernel)) (pi_tupK (K := K) rfl (pv 1)) (blkOk_by (own := [("kind", 5)]) (N := ["thing", "kinds", "main", "names", "number", "kind", "wrong"]) (sc := defScope (top 44)) (by decide +kernel)) (fun _ _ _ _ _ => (pg_name (i := 5) sc_look_at_program.nd rfl (Or.inl rfl) (by first | exact Or.inl rfl | exact Or.inr rfl))) (fun _ _ _ _ _ => pts_nil) (fun _ _ _ _ _ => (pe_ix (r := rIxT K) ix_tup (pv 5) pe_int (fun _ _ => rfl))))
      (pss_cons (ps_for PassesOwn.never rfl (pi_enumT (by rfl) B.enumerate (pa_cons (pv 1) pa_nil)) (pg_tupK (K := K) (n := 2) rfl rfl (pgs_cons (pg_name (i := 4) sc_look_at_program.nd rfl (Or.inl rfl) (by first | exact Or.inl rfl | exact Or.inr rfl)) (pgs_cons (pg_name (i := 5) sc_look_at_program.nd rfl (Or.inl rfl) (by first | exact Or.inl rfl | exact Or.inr rfl)) pgs_nil))) (pss_one (ps_expr (pe_df D_look_at_rules (hr.mono (by decide)) (by rfl) (pa_cons (pv 3) (pa_cons (pv 4) (pa_cons (pv 5) pa_nil)))))))
      (pss_cons (ps_set (i := 6) sc_look_at_program.nd rfl (Or.inl rfl) (pe_df D_wrong_deed (hr.mono (by decide)) (by rfl) (pa_cons (pe_make MK GI (hr.mono (by decide)) (by rfl) T.mgC bI .nil pass0 (pa_cons (pv 3) (pa_cons pe_non (pa_cons (pe_lst pa_nil) pa_nil)))) (pa_cons (pv 2) pa_nil))))
      (pss_one (ps_if (pt_cmpR op_notN1 (pv 6) pe_non (nomark _)) (pss_one ps_never) pss_nil))))))))), ?_⟩
  have mb : Im H (.ref b) (.tuple [n.enc]) := im_tupR hb (ims_cons hn.im ims_nil)
  have mc : Im H (.ref c) (.tuple []) := im_tupR hc ims_nil
  have ma : Im H (.ref a) (.tuple [.tuple [n.enc], .tuple []]) := im_tupR ha (ims_cons mb (ims_cons mc ims_nil))
  refine q_no (et_or2 (et_nt (ev_t (ed_call (eds3 (ed_var rfl ma) ed_ci ed_ci) (tupOf_yes (Int.le_refl 2) (Int.le_refl 2))))) (et_nt (ev_t (ed_call (eds3 (ed_ix0 (ed_var rfl ma)) ed_ci ed_ci) (tupOf_yes (Int.le_refl 1) (show (1 : Int) ≤ 6 by decide)))))) fun H1 e1 => ?_
  refine q_asgE (ev_var (v := .ref a) rfl) fun H2 e2 => ?_
  refine ⟨a, _, rfl, .inl (ex_rd (e1.trans e2) ha), rfl, .ref b, _, rfl, .ref c, _, rfl, rfl, ?_⟩
  refine q_no (et_nt (ev_t (ed_call (eds3 (ed_var rfl (mc.ex (e1.trans e2))) ed_ci ed_ci) (tupOf_yes (Int.le_refl 0) (by decide +kernel))))) fun H3 e3 => ?_
  have e13 := (e1.trans e2).trans e3
  refine q_drop (v := .non) (fun H4 e4 Q q => (ed_var (i := 1) rfl (mb.ex (e13.trans e4))) H4 (Ex.refl _) _ fun z H5 e5 mz => ⟨z, n, rfl, mz, ok, fun H6 e6 => q H6 (e5.trans e6)⟩) fun H4 e4 => ?_
  have e14 := e13.trans e4
  refine qn_asg (en_map (zs := [n]) (enc := Net.enc) (id_tup (ed_var rfl (mb.ex e14))) (show 1 ≤ 40000 by decide) (fun p => .str "net") fun a ha x H2 e2 mx Kt q => g_name (q _ rfl (ed_ix0 (ed_var rfl mx)))) fun l xs H5 hl e5 h5 k5 => ?_
  have e15 := e14.trans e5
  refine q_forE1 (ev_var rfl) (ex_rd e15 hb) (fun σ' H' => Ex H5 H' ∧ ∃ u v, σ' = [some (.ref a), some (.ref b), some (.ref c), some (.ref l), u, v, none]) (fun σ' H' h => tx_of h.1) (fun Tt H6 e6 h6 => ?_) fun σ' H' h => ?_
  · refine ⟨Tt, _, rfl, .inl (.inl h6), rfl, _, _, rfl, _, _, rfl, rfl, ?_⟩
    refine s_drop (v := .non) (fun H7 e7 Q q => ⟨_, rfl, _, rfl, _, rfl, _, _, _, n, rfl, hn.ex ((e15.trans e6).trans e7), ok, fun H8 e8 => q H8 e8⟩) fun H7 e7 => ⟨e6.trans e7, _, _, rfl⟩
  · obtain ⟨e6, u, v, rfl⟩ := h
    refine q_asg (ev_callP (x := .non) (fun v H1 H2 e ⟨q, dx, fs, h1, h2, h3⟩ => ⟨q, dx, fs, h1, e _ _ h2, h3⟩) (ep_scope (ev_var rfl) ev_c (EvN.s (en_lst eds_nil (by decide)))) (ed_var rfl (mc.ex (e15.trans e6))) fun y z H5 e6 hs mz Q q E => ?_) fun H7 e7 => ?_
    · exact ⟨y, z, n.pl, [], rfl, .inl rfl, ok.pl, mz, by decide, (fun d hd => nomatch hd), q⟩
    · exact s_no (et_test (ev_notNn (ev_var rfl))) fun H8 e8 => k _ (((e15.trans e6).trans e7).trans e8)
def spNet : Sp := fun vs H Q _ => ∃ (v : V) (n : Net), vs = [v] ∧ NetAt n H v ∧ NetOk n ∧ ∀ H2, Ex H H2 → Q (.bl true) H2
theorem sc_is_kind_alone : FnScope ["thing"] ["thing"] (defScope (top 47)) := ⟨rfl, rfl, rfl, by decide +kernel, rfl, by decide +kernel, by decide +kernel⟩
theorem ok_is_kind_alone {f : Addr} {fd : FuncData} (F : Fun K "is_kind_alone" "is_kind_alone" (top 47) f fd) (D_look_at_program : Df P w K mg base "look_at_program" 10 ["thing"] spProg) : FnOk P w K mg base CX0 11 f fd ["thing"] spNet := by
  refine F.ok sc_is_kind_alone (fun vs H Q E h => (by obtain ⟨v, _, rfl, _⟩ := h; rfl)) (fun cdv A outer s H vs Q E hr h => ?_)
  obtain ⟨v, n, rfl, hn, ok, k⟩ := h
  refine ⟨_, (pss_cons (ps_try_thru0 (pss_one (ps_expr (pe_df D_look_at_program (hr.mono (by decide)) (by rfl) (pa_cons (pe_tup (pa_cons (pe_tup (pa_cons (pv 0) pa_nil)) (pa_cons (pe_tup pa_nil) pa_nil))) pa_nil)))))
      (pss_one (ps_ret pe_bl))), ?_⟩
  refine ⟨v, rfl, sz_of (show 1 ≤ 100000 by decide), fun b hb => ?_⟩
  refine ⟨Nat.zero_le _, fun c hc => ?_⟩
  refine ⟨sz_of (show 2 ≤ 100000 by decide), fun a ha => ?_⟩
  have e1 := Ex.new (o := .tup [v]) hb
  have e2 := Ex.new (o := .tup []) hc
  have e3 := Ex.new (o := .tup [.ref b, .ref c]) ha
  refine ⟨n, v, a, b, c, rfl, .inl upd_same, .inl (e3 _ _ (e2 _ _ upd_same)), .inl (e3 _ _ upd_same), hn.ex ((e1.trans e2).trans e3), ok, fun H2 e4 => ?_⟩
  show tRet (tC (V.bl true)) { nx := fun x H' => Q V.non H', rt := Q } (L2.start ["thing"] [v]) H2
  refine s_ret ev_c fun H3 e5 => ?_
  exact k H3 ((((e1.trans e2).trans e3).trans e4).trans e5)
end
end Mt

set_option maxHeartbeats 4000000
/-! nets -/
namespace Mt
open PySem L2 Evl
section
variable {K : PySem.W.Frag} {σ : L2.St} {H H' : Hp} {ta tb te tx tk tv : TE} {x y z v : V} {d d1 : PyData} {ds es : List PyData} {D : Ends} {tz : TS}
theorem es_call1 {sp : Sp} {E : XK} (h : EvD te σ H d) (hs : ∀ z H1, Ex H H1 → Im H1 z d → ∀ Q : VK, (∀ v H2, Ex H1 H2 → LsAt H2 v ds → Q v H2) → ∀ E, sp [z] H1 Q E) : EvS (tCall sp [] E (tCons te tNil)) σ H ds := fun H1 e Q q => h H1 e _ fun z H2 e2 m => by
  show sp ([z] ++ []) H2 Q E
  rw [List.append_nil]
  exact hs z H2 (e.trans e2) m Q (fun v H3 e3 m3 => q v H3 (e2.trans e3) m3) E
theorem ed_cat1 (ha : EvD ta σ H (.tuple ds)) (hb : EvD tb σ H d) (hne : ds ≠ []) (hl : ds.length ≤ 100) : EvD (tOp (rCatA K) ta (tTup (tCons tb tNil))) σ H (.tuple (ds ++ [d])) := fun H1 e Q q => ha H1 e _ fun v H2 e2 m => (ed_tup (eds1 hb) (show 1 ≤ 100000 by decide)) H2 (e.trans e2) _ fun u H3 e3 mu => by
  obtain ⟨p, xs, rfl, hp, k⟩ := (m.ex e3).tup_iff
  obtain ⟨r, ys, rfl, hr, k2⟩ := mu.tup_iff
  have l1 := k.len
  have l2 := k2.len
  refine ⟨p, r, xs, ys, rfl, rfl, .inl hp, .inl hr, ?_, fun e0 => ?_, fun _ e0 => ?_, fun _ _ a ha => ?_⟩
  · exact sz_of (by rw [l1, l2]; show ds.length + 1 ≤ 100000; omega)
  · exact absurd (List.length_eq_zero_iff.mp (by rw [← l1, e0]; rfl)) hne
  · rw [e0] at l2
    exact absurd l2 (fun e => nomatch e)
  · exact q _ _ ((e2.trans e3).trans (Ex.new ha)) (im_tup upd_same ((k.app k2).ex (Ex.new ha)))
end
def Deed.asked : Deed → List Opn
  | .note o => [o]
  | .set o => [o]
  | .put _ o m => List.replicate m o
def Opn.word : Opn → Str
  | .of _ => "of"
  | .one => "is"
  | .fls => "is"
  | .own => "own"
def Opn.what : Opn → PyData
  | .of n => .str n
  | .one => .int 1
  | .fls => .bool false
  | .own => .none
def Opn.two (o : Opn) : PyData := .tuple [.str o.word, o.what]
section
variable {K : PySem.W.Frag} {σ : L2.St} {H : Hp} {ta : TE}
theorem ed_two (o : Opn) (h : EvD ta σ H o.enc) : EvD (tSl (rSlA K) (tOp (rCatA K) ta (tTup (tCons (tC .non) tNil))) tNoPart (tPart (tC (.int 2)))) σ H o.two := by
  have mv : ∀ t : List PyData, o.enc = .tuple t → t ≠ [] → t.length ≤ 2 → (t ++ [PyData.none]).take 2 = [.str o.word, o.what] → EvD (tSl (rSlA K) (tOp (rCatA K) ta (tTup (tCons (tC .non) tNil))) tNoPart (tPart (tC (.int 2)))) σ H o.two := fun t e h1 h2 h3 =>
    ed_is (ed_slTake (K := K) (i := 2) (ed_cat1 (K := K) (by rw [← e]; exact h) ed_cn h1 (by omega)) ev_c) (by rw [h3]; rfl)
  cases o with
  | of n => exact mv _ rfl (fun e => nomatch e) (Nat.le_refl 2) rfl
  | one => exact mv _ rfl (fun e => nomatch e) (Nat.le_refl 2) rfl
  | fls => exact mv _ rfl (fun e => nomatch e) (Nat.le_refl 2) rfl
  | own => exact mv _ rfl (fun e => nomatch e) (Nat.le_succ 1) rfl
end
section
variable {P : Program} {w : World} {K : PySem.W.Frag} {mg : Str → Option Value} {base : Heap}
def spAsked : Sp := fun vs H Q _ => ∃ (v : V) (d : Deed), vs = [v] ∧ Im H v d.enc ∧ ∀ v H2, Ex H H2 → LsAt H2 v (d.asked.map Opn.enc) → Q v H2
theorem sc_asked_by : FnScope ["deed", "word", "rest"] ["deed"] (defScope (top 48)) := ⟨rfl, rfl, rfl, by decide +kernel, rfl, by decide +kernel, by decide +kernel⟩
theorem ok_asked_by {f : Addr} {fd : FuncData} (F : Fun K "asked_by" "asked_by" (top 48) f fd) (B : Blt mg) : FnOk P w K mg base CX0 1 f fd ["deed"] spAsked := by
  refine F.ok sc_asked_by (fun vs H Q E h => (by obtain ⟨v, _, rfl, _⟩ := h; rfl)) (fun cdv A outer s H vs Q E hr h => ?_)
  obtain ⟨v, d, rfl, m1, k⟩ := h
  refine ⟨_, (pss_cons (ps_asg (pv 0) (pg_starK (K := K) (i := 1) rfl rfl (pgs_cons (pg_name (i := 1) sc_asked_by.nd rfl (Or.inl rfl) (by first | exact Or.inl rfl | exact Or.inr rfl)) (pgs_star (pg_name (i := 2) sc_asked_by.nd rfl (Or.inl rfl) (by first | exact Or.inl rfl | exact Or.inr rfl))))))
      (pss_one (ps_ret (pe_ifExp (pt_cmpR op_eq (pv 1) pe_str (nomark _)) (pe_callTy call_list_of (by rfl) B.list bt_list (pa_cons (pe_ix (r := rIxL K) ix_list (pv 2) pe_int (fun _ _ => rfl)) pa_nil)) (pe_lst (pa_cons (pe_ix (r := rIxL K) ix_list (pv 2) (pe_un un_neg pe_int) (fun _ _ => rfl)) pa_nil)))))), ?_⟩
  rw [d.enc_eq] at m1
  obtain ⟨p, xs, rfl, hp, mk⟩ := m1.tup_iff
  obtain ⟨y0, r, rfl, n0, mk1⟩ := mk.cons_iff
  obtain rfl := n0.str_iff
  refine q_asgE (ev_var (v := .ref p) rfl) fun H1 e1 => ?_
  refine ⟨p, _, rfl, .inl (ex_rd e1 hp), Nat.succ_le_succ (Nat.zero_le _), fun l hl => ?_⟩
  refine ⟨_, _, rfl, ?_⟩
  refine ⟨_, _, rfl, rfl, ?_⟩
  have e2 : Ex H (upd H1 l (.lst r)) := e1.trans (Ex.new hl)
  have hL : LsAt (upd H1 l (.lst r)) (.ref l) d.rest := ⟨l, _, rfl, upd_same, mk1.ex e2⟩
  cases d with
  | note o =>
    refine ev_eqSn (H := upd H1 l (.lst r)) (ed_str (ev_var (i := 1) rfl)) ed_cs so_5 _ (Ex.refl _) _ fun H3 e3 => ⟨false, rfl, ?_⟩
    refine (en_lst (H := H3) (eds1 (ed_ixL (j := 0) (i := -1) (d := o.enc) (es_var (i := 2) rfl (hL.ex e3)) (ed_int (ev_un ev_c ru_neg)) rfl rfl)) (show 1 ≤ 100000 by decide)) H3 (Ex.refl _) _ fun a ys H4 ha e4 h4 k4 => k _ H4 ((e2.trans e3).trans e4) ⟨a, ys, rfl, h4, k4⟩
  | set o =>
    refine ev_eqSn (H := upd H1 l (.lst r)) (ed_str (ev_var (i := 1) rfl)) ed_cs so_7 _ (Ex.refl _) _ fun H3 e3 => ⟨false, rfl, ?_⟩
    refine (en_lst (H := H3) (eds1 (ed_ixL (j := 1) (i := -1) (d := o.enc) (es_var (i := 2) rfl (hL.ex e3)) (ed_int (ev_un ev_c ru_neg)) rfl rfl)) (show 1 ≤ 100000 by decide)) H3 (Ex.refl _) _ fun a ys H4 ha e4 h4 k4 => k _ H4 ((e2.trans e3).trans e4) ⟨a, ys, rfl, h4, k4⟩
  | put x o m =>
    refine ev_eqSy (H := upd H1 l (.lst r)) (ed_str (ev_var (i := 1) rfl)) ed_cs _ (Ex.refl _) _ fun H3 e3 => ⟨true, rfl, ?_⟩
    refine (ed_ixL (H := H3) (j := 1) (i := 1) (d := .tuple (List.replicate m o.enc)) (es_var (i := 2) rfl (hL.ex e3)) ed_ci rfl rfl) H3 (Ex.refl _) _ fun z H4 e4 mz => ?_
    obtain ⟨b, ys, rfl, hb, kb⟩ := mz.tup_iff
    refine ⟨b, ys, rfl, .inr (.inl hb), fun a ha => k _ _ ((e2.trans e3).trans (e4.trans (Ex.new ha))) ⟨a, ys, rfl, upd_same, ?_⟩⟩
    have := kb.ex (Ex.new (o := .lst ys) ha)
    rwa [show (Deed.asked (Deed.put x o m)).map Opn.enc = List.replicate m o.enc from List.map_replicate]
theorem valV_puts : ∀ (l acc : List (Key × V)) (k : Key), (valV acc k).isSome = true ∨ k ∈ l.map Prod.fst → (valV (l.foldl (fun acc a => putK acc a.1 a.2) acc) k).isSome = true
  | [], acc, k, h => by
    rcases h with h | h
    · exact h
    · cases h
  | a :: l, acc, k, h => by
    refine valV_puts l (putK acc a.1 a.2) k ?_
    rw [valV_put]
    by_cases e : k = a.1
    · rw [if_pos e]
      exact .inl rfl
    · rw [if_neg e]
      rcases h with h | h
      · exact .inl h
      · rcases List.mem_cons.mp h with h | h
        · exact absurd h e
        · exact .inr h
def namK (hs : List Head) : List (Key × V) := hs.flatMap fun a => a.2.map fun c => ((Sum.inr c : Key), V.bl true)
theorem namK_all {hs : List Head} {n : Str} (h : n ∈ hs.flatMap Prod.snd) : (valV (puts (namK hs)) (Sum.inr n)).isSome = true := by
  refine valV_puts _ [] _ (.inr ?_)
  obtain ⟨a, ha, hn⟩ := List.mem_flatMap.mp h
  exact List.mem_map.mpr ⟨(Sum.inr n, .bl true), List.mem_flatMap.mpr ⟨a, ha, List.mem_map.mpr ⟨n, hn, rfl⟩⟩, rfl⟩
theorem namK_len {hs : List Head} (h1 : hs.length ≤ 4) (h2 : ∀ h ∈ hs, h.2.length ≤ 3) : (puts (namK hs)).length ≤ 12 := by
  refine Nat.le_trans (puts_len _) ?_
  have : (namK hs).length = (hs.flatMap Prod.snd).length := by
    unfold namK
    rw [List.length_flatMap, List.length_flatMap]
    congr 1
    exact List.map_congr_left fun a _ => List.length_map _
  rw [this]
  exact heads_len h1 h2
def Deed.next (kn : List Str) : Deed → List Str
  | .set _ => "n" :: kn
  | _ => kn
theorem Knw.cons_iff {kn : List Str} {d : Deed} {ds : List Deed} : Knw kn (d :: ds) ↔ (∀ n, d.op = .of n → n ∈ kn) ∧ Knw (d.next kn) ds := by
  cases d <;> exact Iff.rfl
def spAsks : Sp := fun vs H Q _ => ∃ (hv dv : V) (r : Rule) (pl : Pls), vs = [hv, dv] ∧ Im H hv r.hd ∧ Im H dv r.dd ∧ PlOk pl ∧ RuleOk pl r ∧ ∀ H2, Ex H H2 → Q (.bl true) H2
theorem sc_asks_known : FnScope ["heads", "deeds", "known", "deed", "place", "slots", "word", "what", "one"] ["heads", "deeds"] (defScope (top 49)) := ⟨rfl, rfl, rfl, by decide +kernel, rfl, by decide +kernel, by decide +kernel⟩
theorem ok_asks_known {f : Addr} {fd : FuncData} (F : Fun K "asks_known" "asks_known" (top 49) f fd) (D_asked_by : Df P w K mg base "asked_by" 1 ["deed"] spAsked) (B : Blt mg) : FnOk P w K mg base CX0 2 f fd ["heads", "deeds"] spAsks := by
  refine F.ok sc_asks_known (fun vs H Q E h => (by obtain ⟨v, v1, _, _, rfl, _⟩ := h; rfl)) (fun cdv A outer s H vs Q E hr h => ?_)
  obtain ⟨hv, dv, r, pl, rfl, mh, md, po, ok, k⟩ := h
  refine ⟨_, (pss_cons (ps_set (i := 2) sc_asks_known.nd rfl (Or.inr rfl) (pe_dc2 (own := [("place", 4), ("slots", 5), ("word", 6), ("what", 7)]) (vs1 := [6, 7]) rfl sc_asks_known.nd (pi_tupK (K := K) rfl (pv 0)) (blkOk_by (own := [("place", 4), ("slots", 5), ("word", 6), ("what", 7)]) (N := ["heads", "deeds", "known", "deed", "place", "slots", "word", "what", "one"]) (sc := defScope (top 49)) (by decide +kernel)) (by decide) (fun _ _ _ _ _ => (pg_tupK (K := K) (n := 2) rfl rfl (pgs_cons (pg_name (i := 4) sc_asks_known.nd rfl (Or.inl rfl) (by first | exact Or.inl rfl | exact Or.inr rfl)) (pgs_cons (pg_name (i := 5) sc_asks_known.nd rfl (Or.inl rfl) (by first | exact Or.inl rfl | exact Or.inr rfl)) pgs_nil)))) (fun _ _ _ _ _ => pts_nil) (fun _ _ _ _ _ => (pi_tupK (K := K) rfl (pv 5))) (fun _ _ _ _ _ => (pg_tupK (K := K) (n := 2) rfl rfl (pgs_cons (pg_name (i := 6) sc_asks_known.nd rfl (Or.inl rfl) (by first | exact Or.inl rfl | exact Or.inr rfl)) (pgs_cons (pg_name (i := 7) sc_asks_known.nd rfl (Or.inl rfl) (by first | exact Or.inl rfl | exact Or.inr rfl)) pgs_nil)))) (fun _ _ _ _ _ => (pts_one (pt_cmpR op_eq (pv 6) pe_str (nomark _)))) (fun _ _ _ _ _ => (pv 7)) (fun _ _ _ _ _ => pe_bl)))
      (pss_cons (ps_for PassesOwn.never rfl (pi_tupK (K := K) rfl (pv 1)) (pg_name (i := 3) sc_asks_known.nd rfl (Or.inl rfl) (by first | exact Or.inl rfl | exact Or.inr rfl)) (pss_cons (ps_if (pt_not (pt_val (pe_callB (r := rAll K) (cr_all rfl) (by rfl) B.all bt_all (pa_cons (pe_lc (own := [("word", 6), ("what", 7)]) rfl sc_asks_known.nd (pi_listK (K := K) rfl (pe_lc (own := [("one", 8)]) rfl sc_asks_known.nd (pi_listK (K := K) rfl (pe_df D_asked_by (hr.mono (by decide)) (by rfl) (pa_cons (pv 3) pa_nil))) (blkOk_by (own := [("one", 8)]) (N := ["heads", "deeds", "known", "deed", "place", "slots", "word", "what", "one"]) (sc := defScope (top 49)) (by decide +kernel)) (fun _ _ _ _ _ => (pg_name (i := 8) sc_asks_known.nd rfl (Or.inl rfl) (by first | exact Or.inl rfl | exact Or.inr rfl))) (fun _ _ _ _ _ => pts_nil) (fun _ _ _ _ _ => (pe_slice (r := rSlA K) sl_tupA (pe_op (r := rCatA K) op_catA (pv 8) (pe_tup (pa_cons pe_non pa_nil))) po_none (po_some pe_int))))) (blkOk_by (own := [("word", 6), ("what", 7)]) (N := ["heads", "deeds", "known", "deed", "place", "slots", "word", "what", "one"]) (sc := defScope (top 49)) (by decide +kernel)) (fun _ _ _ _ _ => (pg_tupK (K := K) (n := 2) rfl rfl (pgs_cons (pg_name (i := 6) sc_asks_known.nd rfl (Or.inl rfl) (by first | exact Or.inl rfl | exact Or.inr rfl)) (pgs_cons (pg_name (i := 7) sc_asks_known.nd rfl (Or.inl rfl) (by first | exact Or.inl rfl | exact Or.inr rfl)) pgs_nil)))) (fun _ _ _ _ _ => pts_nil) (fun _ _ _ _ _ => (pe_or (pe_cmpR op_ne (pv 6) pe_str (nomark _)) (pe_one (pe_cmp (pc_din (hu_of hr) (pv 7) (pv 2))))))) pa_nil)))) (pss_one (ps_ret pe_bl)) pss_nil)
      (pss_one (ps_if (pt_cmpR op_eq (pe_ix (r := rIxT K) ix_tup (pv 3) pe_int (fun _ _ => rfl)) pe_str (nomark _)) (pss_one (ps_dput (hu_of hr) (pv 2) (pe_ix (r := rIxT K) ix_tup (pv 3) pe_int (fun _ _ => rfl)) pe_bl rfl)) pss_nil))))
      (pss_one (ps_ret pe_bl)))), ?_⟩
  have l1 := ok.hd.lo
  have l2 := ok.hd.hi
  have l3 : ∀ h ∈ r.heads, h.2.length ≤ 3 := fun h hh => (ok.hd.one po hh).le
  have l4 := ok.hi
  refine qk_asg (ek_dc2 (enc := Head.enc) Prod.snd asN (id_tup (ed_var rfl mh)) (by omega) (fun a ha => by have := l3 a ha; omega) (fun _ c => Sum.inr c) (fun _ _ => .bl true) fun a ha x H1 e mx Kt q => g_pair mx fun y z my mz => q _ rfl (id_tup (ed_var rfl mz)) fun c hc x H2 e2 t2 mx Kt1 q1 => g_pair mx fun y z my mz => q1 _ rfl (et_test (ev_eqSy (ed_var rfl my) ed_cs)) (ev_str (ed_var rfl mz)) ev_c) fun kd H1 hkd e1 hk => ?_
  refine q_forD (enc := Deed.enc) (id_tup (ed_var rfl (md.ex e1))) (fun H2 i σ' H' => Tx H2 H' ∧ Ex H H' ∧ (∃ kvs kn, H' kd = some (.dK kvs) ∧ (∀ n ∈ kn, (valV kvs (Sum.inr n)).isSome = true) ∧ kvs.length ≤ 100 + i ∧ Knw kn (r.deeds.drop i)) ∧ ∃ a, σ' = [some hv, some dv, some (.ref kd), a, none, none, none, none, none])
    (fun H2 e2 => ⟨Tx.refl _, e1.trans e2, ⟨puts (namK r.heads), _, e2 _ _ hk, fun n hn => namK_all hn, Nat.le_trans (namK_len l2 l3) (by decide), ok.kn⟩, _, rfl⟩) (fun H2 e2 i σ' H' _ h => h.1) (fun H2 e2 i d σ' H' x H3 ha h e3 mx => ?_) fun H2 e2 σ' H' h => ?_
  · obtain ⟨t1, x1, ⟨kvs, kn, hd, hkn, hlen, knw⟩, a1, rfl⟩ := h
    refine g_name ?_
    obtain ⟨hi, hdi⟩ := List.getElem?_eq_some_iff.mp ha
    rw [List.drop_eq_getElem_cons hi, hdi, Knw.cons_iff] at knw
    have hx : ∀ (H1 : Hp) (σ : L2.St), σ[3]? = some (some x) → Ex H3 H1 → EvD (tVar 3) σ H1 d.enc := fun H1 σ h e => ed_var h (mx.ex e)
    have ask : ∀ o ∈ d.asked, o = d.op := by
      intro o ho
      cases d with
      | note o => exact List.mem_singleton.mp ho
      | set o => exact List.mem_singleton.mp ho
      | put x o m => exact List.eq_of_mem_replicate ho
    have lask : d.asked.length ≤ 2 := by
      have hok := ok.dd d (List.mem_of_getElem? ha)
      cases d with
      | note o => exact Nat.le_succ 1
      | set o => exact Nat.le_succ 1
      | put x o m =>
        show (List.replicate m o).length ≤ 2
        rw [List.length_replicate]
        exact po.many _ hok.2
    refine q_no (et_nt ?_) fun H4 e4 => ?_
    · refine ev_allT (enc := Opn.two) (zs := d.asked) (id_list (EvN.s (en_map (enc := Opn.enc) (zs := d.asked) (id_list (es_call1 (hx _ _ rfl (Ex.refl _)) fun z H5 e5 mz Q q E => ⟨z, d, rfl, mz, q⟩)) (by omega) Opn.two fun o ho x H5 e5 mo Kt q => g_name (q _ rfl ?_)))) (by omega) fun o ho x H5 e5 mo Kt q => g_pair mo fun y z my mz => q _ rfl ?_
      · exact ed_two o (ed_var rfl mo)
      · cases o with
        | of n =>
          refine ed_bl (ev_or2 (ev_is (ev_neS (a := "of") (b := "of") (ed_var rfl my) ed_cs) (congrArg V.bl (by rw [decide_eq_true rfl]; rfl))) ?_)
          have hn := hkn n (knw.1 n (ask _ ho).symm)
          intro H6 e6 Q q
          refine ev_str (ed_var (i := 7) rfl mz) H6 e6 _ fun H7 e7 => ?_
          refine ⟨_, rfl, kd, _, rfl, DGet.k (k := Sum.inr n) ((((e3.trans e5).trans e6).trans e7) _ _ hd), ?_⟩
          rw [hn]
          exact q H7 e7
        | one => exact ed_bl (ev_or1 (ev_is (ev_neS (a := "is") (b := "of") (ed_var rfl my) ed_cs) (congrArg V.bl (by rw [decide_eq_false so_2]; rfl))))
        | fls => exact ed_bl (ev_or1 (ev_is (ev_neS (a := "is") (b := "of") (ed_var rfl my) ed_cs) (congrArg V.bl (by rw [decide_eq_false so_2]; rfl))))
        | own => exact ed_bl (ev_or1 (ev_is (ev_neS (a := "own") (b := "of") (ed_var rfl my) ed_cs) (congrArg V.bl (by rw [decide_eq_false so_4]; rfl))))
    · have hx0 : ∀ (H1 : Hp) (σ : L2.St), σ[3]? = some (some x) → Ex H3 H1 → EvD (tVar 3) σ H1 (.tuple (.str d.word :: d.rest)) := fun H1 σ h e => by
        rw [← d.enc_eq]
        exact hx H1 σ h e
      have t34 : Tx H' H4 := tx_of (e3.trans e4)
      by_cases hs : d.word = "set"
      · cases d with
        | note o => exact absurd hs so_18
        | put x o m => exact absurd hs so_17
        | set o =>
          refine s_yes (et_test (ev_eqSy (ed_ix0 (hx0 _ _ rfl e4)) ed_cs)) fun H5 e5 => ?_
          refine ⟨_, rfl, ?_⟩
          refine (ed_ix1 (K := K) (d0 := .str "set") (d1 := .str "n") (ds := [o.enc]) (hx0 H5 _ rfl (e4.trans e5))) H5 (Ex.refl _) _ fun y H6 e6 my => ?_
          rw [my.str_iff]
          have hd6 := (((e3.trans e4).trans e5).trans e6) _ _ hd
          refine ⟨kd, _, rfl, DPut.k (k := Sum.inr ("n" : Str)) hd6 (sz_lt (by omega)), ?_⟩
          refine ⟨(t1.trans t34).trans ((tx_of (e5.trans e6)).trans (tx_dK hd6)), Ex.mut (((x1.trans (e3.trans e4)).trans e5).trans e6) hkd, ⟨_, "n" :: kn, upd_same, fun n hn => ?_, ?_, knw.2⟩, _, rfl⟩
          · rw [valV_put]
            by_cases en : (Sum.inr n : Key) = Sum.inr ("n" : Str)
            · rw [if_pos en]
              rfl
            · rw [if_neg en]
              rcases List.mem_cons.mp hn with hn | hn
              · exact absurd (by rw [hn]) en
              · exact hkn n hn
          · have := putK_len kvs (Sum.inr ("n" : Str)) (.bl true)
            omega
      · refine s_no (et_test (ev_eqSn (ed_ix0 (hx0 _ _ rfl e4)) ed_cs hs)) fun H5 e5 => ?_
        refine ⟨(t1.trans t34).trans (tx_of e5), (x1.trans (e3.trans e4)).trans e5, ⟨kvs, kn, ((e3.trans e4).trans e5) _ _ hd, hkn, by omega, ?_⟩, _, rfl⟩
        have h2 := knw.2
        cases d with
        | note o => exact h2
        | put x o m => exact h2
        | set o => exact absurd rfl hs
  · obtain ⟨t1, x1, _, a1, rfl⟩ := h
    exact s_ret ev_c fun H3 e3 => k H3 (x1.trans e3)
end
end Mt

set_option maxHeartbeats 4000000
/-! nets, their markings -/
namespace Mt
open PySem L2 Evl
section
variable {K : PySem.W.Frag} {σ : L2.St} {H H' : Hp} {ta tb te tx tk tv : TE} {x y z v : V} {d d1 : PyData} {ds es : List PyData} {D : Ends} {tz : TS}
theorem any_ff : ∀ {bs : List Bool}, (∀ b ∈ bs, b = false) → bs.any id = false
  | [], _ => rfl
  | b :: bs, h => by
    rw [List.any_cons, h b (by simp), any_ff fun c hc => h c (by simp [hc])]
    rfl
theorem ev_anyF {bs : List Bool} (h : EvS te σ H (bs.map PyData.bool)) (hb : ∀ b ∈ bs, b = false) : Ev (tCB (rAny K) (tCons te tNil)) σ H (.bl false) := ev_is (ev_any h) (congrArg V.bl (any_ff hb))
end
structure Wds (K : PySem.W.Frag) (mg : Str → Option Value) (a : Addr) : Prop where
  mg : mg "WORDS_OF_NETS" = some (.ref a)
  sq : ∀ H, SqT K H a ((["set", "put", "note"] : List Str).map V.str)
theorem Deed.in_ws (d : Deed) : d.word ∈ (["set", "put", "note"] : List Str) := by
  cases d <;> simp [Deed.word]
section
variable {P : Program} {w : World} {K : PySem.W.Frag} {mg : Str → Option Value} {base : Heap}
def spNRule : Sp := fun vs H Q _ => ∃ (v : V) (r : Rule) (pl : Pls), vs = [v] ∧ Im H v r.enc ∧ PlOk pl ∧ RuleOk pl r ∧ ∀ H2, Ex H H2 → Q (.bl true) H2
theorem sc_is_net_rule : FnScope ["rule", "heads", "deeds", "place", "slots", "word", "what", "deed"] ["rule"] (defScope (top 50)) := ⟨rfl, rfl, rfl, by decide +kernel, rfl, by decide +kernel, by decide +kernel⟩
theorem ok_is_net_rule {f : Addr} {fd : FuncData} (F : Fun K "is_net_rule" "is_net_rule" (top 50) f fd) {aW : Addr} (Wd : Wds K mg aW) (D_asks_known : Df P w K mg base "asks_known" 2 ["heads", "deeds"] spAsks) (B : Blt mg) : FnOk P w K mg base CX0 3 f fd ["rule"] spNRule := by
  refine F.ok sc_is_net_rule (fun vs H Q E h => (by obtain ⟨v, _, _, rfl, _⟩ := h; rfl)) (fun cdv A outer s H vs Q E hr h => ?_)
  obtain ⟨v, r, pl, rfl, m1, po, ok, k⟩ := h
  refine ⟨_, (pss_cons (ps_asg (pv 0) (pg_tupK (K := K) (n := 2) rfl rfl (pgs_cons (pg_name (i := 1) sc_is_net_rule.nd rfl (Or.inl rfl) (by first | exact Or.inl rfl | exact Or.inr rfl)) (pgs_cons (pg_name (i := 2) sc_is_net_rule.nd rfl (Or.inl rfl) (by first | exact Or.inl rfl | exact Or.inr rfl)) pgs_nil))))
      (pss_cons (ps_if (pt_val (pe_callB (r := rAny K) (cr_any rfl) (by rfl) B.any bt_any (pa_cons (pe_lc2 (own := [("place", 3), ("slots", 4), ("word", 5), ("what", 6)]) (vs1 := [5, 6]) rfl sc_is_net_rule.nd (pi_tupK (K := K) rfl (pv 1)) (blkOk_by (own := [("place", 3), ("slots", 4), ("word", 5), ("what", 6)]) (N := ["rule", "heads", "deeds", "place", "slots", "word", "what", "deed"]) (sc := defScope (top 50)) (by decide +kernel)) (by decide) (fun _ _ _ _ _ => (pg_tupK (K := K) (n := 2) rfl rfl (pgs_cons (pg_name (i := 3) sc_is_net_rule.nd rfl (Or.inl rfl) (by first | exact Or.inl rfl | exact Or.inr rfl)) (pgs_cons (pg_name (i := 4) sc_is_net_rule.nd rfl (Or.inl rfl) (by first | exact Or.inl rfl | exact Or.inr rfl)) pgs_nil)))) (fun _ _ _ _ _ => pts_nil) (fun _ _ _ _ _ => (pi_tupK (K := K) rfl (pv 4))) (fun _ _ _ _ _ => (pg_tupK (K := K) (n := 2) rfl rfl (pgs_cons (pg_name (i := 5) sc_is_net_rule.nd rfl (Or.inl rfl) (by first | exact Or.inl rfl | exact Or.inr rfl)) (pgs_cons (pg_name (i := 6) sc_is_net_rule.nd rfl (Or.inl rfl) (by first | exact Or.inl rfl | exact Or.inr rfl)) pgs_nil)))) (fun _ _ _ _ _ => pts_nil) (fun _ _ _ _ _ => (pe_cmpR op_eq (pv 5) pe_str (nomark _)))) pa_nil))) (pss_one (ps_ret pe_bl)) pss_nil)
      (pss_one (ps_ret (pe_and (pe_callB (r := rAll K) (cr_all rfl) (by rfl) B.all bt_all (pa_cons (pe_lc (own := [("deed", 7)]) rfl sc_is_net_rule.nd (pi_tupK (K := K) rfl (pv 2)) (blkOk_by (own := [("deed", 7)]) (N := ["rule", "heads", "deeds", "place", "slots", "word", "what", "deed"]) (sc := defScope (top 50)) (by decide +kernel)) (fun _ _ _ _ _ => (pg_name (i := 7) sc_is_net_rule.nd rfl (Or.inl rfl) (by first | exact Or.inl rfl | exact Or.inr rfl))) (fun _ _ _ _ _ => pts_nil) (fun _ _ _ _ _ => (pe_cmpR (r := rIn K false) op_in_seq (pe_ix (r := rIxT K) ix_tup (pv 7) pe_int (fun _ _ => rfl)) (pe_glob (v := .ref aW) (by rfl) Wd.mg rfl) (by rfl)))) pa_nil)) (pe_one (pe_df D_asks_known (hr.mono (by decide)) (by rfl) (pa_cons (pv 1) (pa_cons (pv 2) pa_nil))))))))), ?_⟩
  have l1 := ok.hd.lo
  have l2 := ok.hd.hi
  have l3 : ∀ h ∈ r.heads, h.2.length ≤ 3 := fun h hh => (ok.hd.one po hh).le
  have l4 := ok.hi
  refine qd_asgE (ed_var rfl m1) fun z H1 e1 mz => g_pair mz fun hv dv mh md => ?_
  refine q_no (et_test (ev_anyF (bs := r.heads.flatMap fun a => (a.2.filter fun _ => true).map fun _ => false) (EvN.s ?_) ?_)) fun H2 e2 => ?_
  · rw [List.map_flatMap]
    simp only [List.map_map]
    exact en_lc2 (enc := Head.enc) Prod.snd asN (id_tup (ed_var rfl mh)) (by omega) (fun a ha => by have := l3 a ha; omega) (fun _ _ => true) (fun _ _ => PyData.bool false) fun a ha x H1 e mx Kt q => g_pair mx fun y z my mz => q _ rfl (id_tup (ed_var rfl mz)) fun c hc x H2 e2 t2 mx Kt1 q1 => g_pair mx fun y z my mz => q1 _ rfl et_yes fun _ => ed_bl (ev_eqSn (ed_var rfl my) ed_cs so_as)
  · intro b hb
    obtain ⟨a, _, h2⟩ := List.mem_flatMap.mp hb
    obtain ⟨c, _, h3⟩ := List.mem_map.mp h2
    exact h3.symm
  · refine s_ret (ev_and2 ?_ (ev_t ?_)) fun H3 e3 => k H3 ((e1.trans e2).trans e3)
    · refine ev_allT (enc := Deed.enc) (id_tup (ed_var rfl (md.ex e2))) (by omega) fun a ha x H3 e3 mx Kt q => g_name (q _ rfl ?_)
      rw [a.enc_eq] at mx
      refine ed_bl (ev_is (ev_op (ev_str (ed_ix0 (ed_var rfl mx))) ev_c (rv_isT (Wd.sq _) rfl (all_strs _))) (congrArg V.bl ?_))
      rw [inV_str]
      exact decide_eq_true a.in_ws
    · refine fun H3 e3 Q q => ⟨hv, rfl, dv, rfl, hv, dv, r, pl, rfl, mh.ex (e2.trans e3), md.ex (e2.trans e3), po, ok, fun H4 e4 => q _ H4 e4 (.bl true)⟩
theorem sc_is_net : FnScope ["thing", "rule"] ["thing"] (defScope (top 51)) := ⟨rfl, rfl, rfl, by decide +kernel, rfl, by decide +kernel, by decide +kernel⟩
theorem ok_is_net {f : Addr} {fd : FuncData} (F : Fun K "is_net" "is_net" (top 51) f fd) (D_is_kind_alone : Df P w K mg base "is_kind_alone" 11 ["thing"] spNet) (D_is_net_rule : Df P w K mg base "is_net_rule" 3 ["rule"] spNRule) (B : Blt mg) : FnOk P w K mg base CX0 12 f fd ["thing"] spNet := by
  refine F.ok sc_is_net (fun vs H Q E h => (by obtain ⟨v, _, rfl, _⟩ := h; rfl)) (fun cdv A outer s H vs Q E hr h => ?_)
  obtain ⟨v, n, rfl, hn, ok, k⟩ := h
  refine ⟨_, (pss_one (ps_ret (pe_and (pe_df D_is_kind_alone (hr.mono (by decide)) (by rfl) (pa_cons (pv 0) pa_nil)) (pe_one (pe_callB (r := rAll K) (cr_all rfl) (by rfl) B.all bt_all (pa_cons (pe_lc (own := [("rule", 1)]) rfl sc_is_net.nd (pi_tupK (K := K) rfl (pe_ix (r := rIxT K) ix_tup (pv 0) pe_int (fun _ _ => rfl))) (blkOk_by (own := [("rule", 1)]) (N := ["thing", "rule"]) (sc := defScope (top 51)) (by decide +kernel)) (fun _ _ _ _ _ => (pg_name (i := 1) sc_is_net.nd rfl (Or.inl rfl) (by first | exact Or.inl rfl | exact Or.inr rfl))) (fun _ _ _ _ _ => pts_nil) (fun _ _ _ _ _ => (pe_df D_is_net_rule (hr.mono (by decide)) (by rfl) (pa_cons (pv 1) pa_nil)))) pa_nil)))))), ?_⟩
  have l1 := ok.hi
  refine s_ret (ev_and2 (fun H1 e1 Q q => ⟨v, rfl, v, n, rfl, hn.ex e1, ok, fun H2 e2 => q H2 e2⟩) ?_) k
  refine ev_allT (enc := Rule.enc) (id_tup (ed_ix2 (ed_var rfl hn.im))) (by omega) fun a ha x H3 e3 mx Kt q => g_name (q _ rfl ?_)
  exact fun H4 e4 Q q => ⟨x, rfl, x, a, n.pl, rfl, mx.ex e4, ok.pl, ok.rl a ha, fun H5 e5 => q _ H5 e5 (.bl true)⟩
/-- a marking -/
def MkAt (H : Hp) (v : V) (m : List Int) : Prop := ∃ p, v = .ref p ∧ H p = some (.tup (m.map V.int))
theorem MkAt.ex {H H' : Hp} {v : V} {m : List Int} (h : MkAt H v m) (e : Ex H H') : MkAt H' v m := by
  obtain ⟨p, rfl, h⟩ := h
  exact ⟨p, rfl, e _ _ h⟩
theorem MkAt.tx {H H' : Hp} {v : V} {m : List Int} (h : MkAt H v m) (e : Tx H H') : MkAt H' v m := by
  obtain ⟨p, rfl, h⟩ := h
  exact ⟨p, rfl, e _ _ ⟨_, .inl rfl⟩ h⟩
theorem MkAt.im {H : Hp} {v : V} {m : List Int} (h : MkAt H v m) : Im H v (.tuple (m.map PyData.int)) := by
  obtain ⟨p, rfl, h⟩ := h
  exact im_tup h (ims_ints m)
structure MOk (n : Net) (m : List Int) : Prop where
  len : m.length = n.pl.length
  pos : ∀ i ∈ m, 0 ≤ i
def spLookM : Sp := fun vs H Q _ => ∃ (v mv : V) (n : Net) (m : List Int), vs = [v, mv] ∧ NetAt n H v ∧ NetOk n ∧ MkAt H mv m ∧ MOk n m ∧ ∀ H2, Ex H H2 → Q .non H2
theorem sc_look_at_marking : FnScope ["net", "marking", "many"] ["net", "marking"] (defScope (top 52)) := ⟨rfl, rfl, rfl, by decide +kernel, rfl, by decide +kernel, by decide +kernel⟩
theorem ok_look_at_marking {f : Addr} {fd : FuncData} (F : Fun K "look_at_marking" "look_at_marking" (top 52) f fd) (D_is_net : Df P w K mg base "is_net" 12 ["thing"] spNet) (D_is_whole : Df P w K mg base "is_whole" 1 ["thing"] spWhole) (B : Blt mg) : FnOk P w K mg base CX0 13 f fd ["net", "marking"] spLookM := by
  refine F.ok sc_look_at_marking (fun vs H Q E h => (by obtain ⟨v, v1, _, m, rfl, _⟩ := h; rfl)) (fun cdv A outer s H vs Q E hr h => ?_)
  obtain ⟨v, mv, n, m, rfl, hn, ok, hm, mo, k⟩ := h
  refine ⟨_, (pss_cons (ps_if (pt_not (pt_val (pe_df D_is_net (hr.mono (by decide)) (by rfl) (pa_cons (pv 0) pa_nil)))) (pss_one ps_never) pss_nil)
      (pss_cons (ps_if (PW.pt (pw_or (pt_not (pt_val (pe_callB (r := rIsi K) call_isi (by rfl) B.isinstance bt_isinstance (pa_cons (pv 1) (pa_cons (pe_bltn (v := .ty "tuple") (by rfl) B.tuple bt_tuple rfl) pa_nil))))) (pw_or1 (pt_cmpR op_ne (pe_callB (r := Evl.rLenS K) (CallR_len _) (by rfl) B.len bt_len (pa_cons (pv 1) pa_nil)) (pe_callB (r := Evl.rLenS K) (CallR_len _) (by rfl) B.len bt_len (pa_cons (pe_ix (r := rIxT K) ix_tup (pv 0) pe_int (fun _ _ => rfl)) pa_nil)) (nomark _))))) (pss_one ps_never) pss_nil)
      (pss_one (ps_if (pt_not (pt_val (pe_callB (r := rAll K) (cr_all rfl) (by rfl) B.all bt_all (pa_cons (pe_lc (own := [("many", 2)]) rfl sc_look_at_marking.nd (pi_tupK (K := K) rfl (pv 1)) (blkOk_by (own := [("many", 2)]) (N := ["net", "marking", "many"]) (sc := defScope (top 52)) (by decide +kernel)) (fun _ _ _ _ _ => (pg_name (i := 2) sc_look_at_marking.nd rfl (Or.inl rfl) (by first | exact Or.inl rfl | exact Or.inr rfl))) (fun _ _ _ _ _ => pts_nil) (fun _ _ _ _ _ => (pe_and (pe_df D_is_whole (hr.mono (by decide)) (by rfl) (pa_cons (pv 2) pa_nil)) (pe_one (pe_cmpR op_ge (pv 2) pe_int (nomark _)))))) pa_nil)))) (pss_one ps_never) pss_nil)))), ?_⟩
  have l2 := ok.pl.hi
  have l3 := mo.len
  refine q_no (et_nt fun H1 e1 Q q => ⟨v, rfl, v, n, rfl, hn.ex e1, ok, fun H2 e2 => q H2 e2⟩) fun H1 e1 => ?_
  refine q_no (et_or2 (et_nt (ev_isi (.inr (.inr (.inr (.inl rfl)))) (ed_var rfl (hm.ex e1).im))) (et_test (ev_neIn (a := (n.pl.length : Int)) (ev_lenT (ed_var rfl (hm.ex e1).im) (by rw [List.length_map, l3])) (ev_lenT (ed_ix1 (ed_var rfl (hn.ex e1).im)) (by rw [List.length_map]))))) fun H2 e2 => ?_
  refine s_no (et_nt ?_) fun H3 e3 => k H3 ((e1.trans e2).trans e3)
  refine ev_allT (enc := PyData.int) (id_tup (ed_var rfl (hm.ex (e1.trans e2)).im)) (by omega) fun a ha x H3 e3 mx Kt q => g_name (q _ rfl ?_)
  refine ed_bl (ev_and2 (ev_t (ed_call (eds1 (ed_var rfl mx)) (spR_at ⟨a, rfl, rfl⟩))) (ev_is (ev_op (ev_int (ed_var rfl mx)) ev_c rv_I0) (congrArg V.bl (decide_eq_true (mo.pos a ha)))))
end
end Mt

set_option maxHeartbeats 4000000
/-! steps of a net -/
namespace Mt
open PySem L2 Evl
def rTupS (K : PySem.W.Frag) : List V → Hp → VK → Prop := fun xs H Q => ∃ p ys, xs = [.ref p] ∧ ((SqL K H p ys ∧ ∀ l, H l = none → Q (.ref l) (upd H l (.tup ys))) ∨ (SqT K H p ys ∧ Q (.ref p) H))
theorem CallR_tup (X : Cx) : CallR X (.type "tuple") (rTupS X.K) := call_tuple_of
theorem eu_tupN {K : PySem.W.Frag} {σ : L2.St} {H : Hp} {te : TE} {ns : List Int} (h : EvN te σ H (ns.map PyData.int)) : EvU (tCB (rTupS K) (tCons te tNil)) σ H (ns.map V.int) := fun H1 e Q q => h H1 e _ fun p xs H2 hp e2 h2 k2 => ⟨p, xs, rfl, .inl ⟨SqL.of h2, fun l hl => q l _ (fresh_back e2 hl) (e2.trans (Ex.new hl)) (by rw [k2.ints]; exact upd_same)⟩⟩
/-- how many stand at w -/
def cnt : Pls → List Int → Str → Int
  | p :: pl, c :: m, w => if p.1 = w then c else cnt pl m w
  | _, _, _ => 0
def mkK (pl : Pls) (m : List Int) : List (Key × V) := (pl.zip m).map fun a => ((Sum.inr a.1.1 : Key), V.int a.2)
theorem mkK_fst {pl : Pls} {m : List Int} (h : m.length = pl.length) : (mkK pl m).map Prod.fst = (pl.map Prod.fst).map (Sum.inr : Str → Key) := by
  unfold mkK
  rw [List.map_map, List.map_map]
  have : (pl.zip m).map Prod.fst = pl := List.map_fst_zip (by omega)
  rw [show (Prod.fst ∘ fun a : (Str × Nat) × Int => ((Sum.inr a.1.1 : Key), V.int a.2)) = (fun p : Str × Nat => (Sum.inr p.1 : Key)) ∘ Prod.fst from rfl, ← List.map_map, this]
  rfl
theorem mkK_nd {pl : Pls} {m : List Int} (h : m.length = pl.length) (nd : (pl.map Prod.fst).Nodup) : ((mkK pl m).map Prod.fst).Nodup := by
  rw [mkK_fst h]
  exact List.Pairwise.map _ (fun a b h e => h (Sum.inr.inj e)) nd
theorem mkK_val : ∀ {pl : Pls} {m : List Int} {w : Str}, m.length = pl.length → w ∈ pl.map Prod.fst → valV (mkK pl m) (Sum.inr w) = some (.int (cnt pl m w))
  | p :: pl, c :: m, w, h, hw => by
    show valV ((Sum.inr p.1, V.int c) :: mkK pl m) (Sum.inr w) = some (.int (if p.1 = w then c else cnt pl m w))
    by_cases e : p.1 = w
    · rw [if_pos e, valV_pos (by rw [e])]
    · rw [if_neg e, valV_neg (fun z => e (Sum.inr.inj z))]
      refine mkK_val (by simpa using h) ?_
      rw [List.map_cons] at hw
      rcases List.mem_cons.mp hw with hw | hw
      · exact absurd hw.symm e
      · exact hw
  | [], _, w, h, hw => by cases hw
  | p :: pl, [], w, h, hw => by cases h
def canOne (pl : Pls) (m : List Int) (r : Rule) : Bool := r.heads.all fun h => decide (0 < cnt pl m h.1)
/-- which rules can be done -/
def canL (n : Net) (m : List Int) : List Nat := (n.rules.zipIdx.filter fun a => canOne n.pl m a.1).map Prod.snd
def natsV (l : List Nat) : List V := l.map fun i : Nat => V.int (i : Int)
/-- what a rule changes at w -/
def Deed.adds (w : Str) : Deed → Bool
  | .put x _ _ => decide (x = w)
  | _ => false
def dlt (r : Rule) (w : Str) : Int := (r.deeds.countP (Deed.adds w) : Int) - (r.heads.countP (fun h => decide (h.1 = w)) : Int)
def behL (pl : Pls) (m : List Int) (r : Rule) : List Int := (pl.zip m).map fun a => a.2 + dlt r a.1.1
section
variable {K : PySem.W.Frag} {σ : L2.St} {H H' : Hp} {ta tb te tx tk tv : TE} {x y z v : V} {d d1 : PyData} {ds es : List PyData} {D : Ends} {tz : TS} {n : Net} {m : List Int}
theorem ek_many {vs : List Nat} (e0 : vs = [3, 4, 5] ∨ vs = [9, 10, 11]) (i j k : Nat) (ez : vs = [i, j, k]) (ha : EvD ta σ H (plD n.pl)) (hb : EvD tb σ H (.tuple (m.map PyData.int))) (hm : MOk n m) (ok : NetOk n) (hσ : σ.length = 11 ∨ σ.length = 12)
    (hw : ∀ a b c : V, wipe ((((wipe σ vs).set i (some a)).set j (some b)).set k (some c)) vs = wipe σ vs ∧ ((((wipe σ vs).set i (some a)).set j (some b)).set k (some c))[i]? = some (some a) ∧ ((((wipe σ vs).set i (some a)).set j (some b)).set k (some c))[k]? = some (some c)) :
    EvK (tDc (iZipS K (tCons ta (tCons tb tNil))) (gTup K 2 (gCons (gTup K 2 (gCons (gName i) (gCons (gName j) gNil))) (gCons (gName k) gNil))) tYes (tVar i) (tVar k) vs) σ H (mkK n.pl m) := by
  have l2 := ok.pl.hi
  have h := ek_dc (tk := tVar i) (tv := tVar k) (g := gTup K 2 (gCons (gTup K 2 (gCons (gName i) (gCons (gName j) gNil))) (gCons (gName k) gNil))) (vs := vs) (id_zipSz (K := K) (enc := plE) (enc1 := PyData.int) ha hb hm.len.symm) (by rw [List.length_zip]; omega) (fun a => Sum.inr a.1.1) (fun a => .int a.2) fun a ha x H1 e mx Kt q => g_pairL mx fun y z w my mz mw => q _ (hw y z w).1 (ev_str (ed_var (hw y z w).2.1 my)) (ev_int (ed_var (hw y z w).2.2 mw))
  rwa [show puts ((n.pl.zip m).map fun a => ((Sum.inr a.1.1 : Key), V.int a.2)) = mkK n.pl m from puts_nd (mkK_nd hm.len ok.pl.nd)] at h
theorem ev_cntGet {kd : Addr} {kvs : List (Key × V)} {w : Str} {c : Int} (h : Ev ta σ H (.ref kd)) (hk : H kd = some (.dK kvs)) (hx : EvD tx σ H (.str w)) (hv : valV kvs (Sum.inr w) = some (.int c)) : Ev (tDGet ta tx) σ H (.int c) := fun H1 e Q q => h H1 e _ fun H2 e2 => ev_str hx H2 (e.trans e2) _ fun H3 e3 => by
  have g := DGet.k (k := Sum.inr w) (((e.trans e2).trans e3) _ _ hk)
  rw [hv] at g
  exact ⟨kd, _, rfl, g, q H3 (e2.trans e3)⟩
end
def lcScope : Stmt → Scope
  | .Return (some (.ListComp _ _ sc _)) _ => sc
  | _ => { kind := .function, names := [], isGenerator := false, isCoroutine := false }
section
variable {P : Program} {w : World} {K : PySem.W.Frag} {mg : Str → Option Value} {base : Heap}
def spCanBy : Sp := fun vs H Q _ => ∃ (v mv : V) (n : Net) (m : List Int), vs = [v, mv] ∧ NetAt n H v ∧ NetOk n ∧ MkAt H mv m ∧ MOk n m ∧ ∀ v H2, Ex H H2 → (∃ p, v = .ref p ∧ H p = none ∧ H2 p = some (.lst (natsV (canL n m)))) → Q v H2
theorem sc_can_by : FnScope ["net", "marking", "many", "word", "things", "here", "rule", "heads", "deeds", "place", "slots"] ["net", "marking"] (defScope (top 53)) := ⟨rfl, rfl, rfl, by decide +kernel, rfl, by decide +kernel, by decide +kernel⟩
theorem ok_can_by {f : Addr} {fd : FuncData} (F : Fun K "can_by" "can_by" (top 53) f fd) (B : Blt mg) : FnOk P w K mg base CX0 1 f fd ["net", "marking"] spCanBy := by
  refine F.ok sc_can_by (fun vs H Q E h => (by obtain ⟨v, v1, _, m, rfl, _⟩ := h; rfl)) (fun cdv A outer s H vs Q E hr h => ?_)
  obtain ⟨v, mv, n, m, rfl, hn, ok, hm, mo, k⟩ := h
  refine ⟨_, (pss_cons (ps_set (i := 2) sc_can_by.nd rfl (Or.inr rfl) (pe_dc (own := [("word", 3), ("things", 4), ("here", 5)]) rfl sc_can_by.nd (pi_zipS (by rfl) B.zip (pa_cons (pe_ix (r := rIxT K) ix_tup (pv 0) pe_int (fun _ _ => rfl)) (pa_cons (pv 1) pa_nil))) (blkOk_by (own := [("word", 3), ("things", 4), ("here", 5)]) (N := ["net", "marking", "many", "word", "things", "here", "rule", "heads", "deeds", "place", "slots"]) (sc := defScope (top 53)) (by decide +kernel)) (fun _ _ _ _ _ => (pg_tupK (K := K) (n := 2) rfl rfl (pgs_cons (pg_tupK (K := K) (n := 2) rfl rfl (pgs_cons (pg_name (i := 3) sc_can_by.nd rfl (Or.inl rfl) (by first | exact Or.inl rfl | exact Or.inr rfl)) (pgs_cons (pg_name (i := 4) sc_can_by.nd rfl (Or.inl rfl) (by first | exact Or.inl rfl | exact Or.inr rfl)) pgs_nil))) (pgs_cons (pg_name (i := 5) sc_can_by.nd rfl (Or.inl rfl) (by first | exact Or.inl rfl | exact Or.inr rfl)) pgs_nil)))) (fun _ _ _ _ _ => pts_nil) (fun _ _ _ _ _ => (pv 3)) (fun _ _ _ _ _ => (pv 5))))
      (pss_one (ps_ret (pe_lc (own := [("rule", 6), ("heads", 7), ("deeds", 8)]) rfl sc_can_by.nd (pi_enumT (by rfl) B.enumerate (pa_cons (pe_ix (r := rIxT K) ix_tup (pv 0) pe_int (fun _ _ => rfl)) pa_nil)) (blkOk_by (own := [("rule", 6), ("heads", 7), ("deeds", 8)]) (N := ["net", "marking", "many", "word", "things", "here", "rule", "heads", "deeds", "place", "slots"]) (sc := defScope (top 53)) (by decide +kernel)) (fun _ _ _ _ _ => (pg_tupK (K := K) (n := 2) rfl rfl (pgs_cons (pg_name (i := 6) sc_can_by.nd rfl (Or.inl rfl) (by first | exact Or.inl rfl | exact Or.inr rfl)) (pgs_cons (pg_tupK (K := K) (n := 2) rfl rfl (pgs_cons (pg_name (i := 7) sc_can_by.nd rfl (Or.inl rfl) (by first | exact Or.inl rfl | exact Or.inr rfl)) (pgs_cons (pg_name (i := 8) sc_can_by.nd rfl (Or.inl rfl) (by first | exact Or.inl rfl | exact Or.inr rfl)) pgs_nil))) pgs_nil)))) (fun _ _ _ _ _ => (pts_one (pt_val (pe_callB (r := rAll K) (cr_all rfl) (by rfl) B.all bt_all (pa_cons (pe_lc (own := [("place", 9), ("slots", 10)]) rfl sc_can_by.nd (pi_tupK (K := K) rfl (pv 7)) (blkOk_by (own := [("place", 9), ("slots", 10)]) (N := ["net", "marking", "many", "word", "things", "here", "rule", "heads", "deeds", "place", "slots"]) (sc := relS (lcScope ((defBody (top 53)).getD 1 (.Pass ⟨0, 0, 0, 0⟩))) (defScope (top 53))) (by decide +kernel)) (fun _ _ _ _ _ => (pg_tupK (K := K) (n := 2) rfl rfl (pgs_cons (pg_name (i := 9) sc_can_by.nd rfl (Or.inl rfl) (by first | exact Or.inl rfl | exact Or.inr rfl)) (pgs_cons (pg_name (i := 10) sc_can_by.nd rfl (Or.inl rfl) (by first | exact Or.inl rfl | exact Or.inr rfl)) pgs_nil)))) (fun _ _ _ _ _ => pts_nil) (fun _ _ _ _ _ => (pe_cmpR op_gt (pe_dget (hu_of hr) (pv 2) (pv 9) (fun _ _ => rfl)) pe_int (nomark _)))) pa_nil))))) (fun _ _ _ _ _ => (pv 6)))))), ?_⟩
  have l2 := ok.pl.hi
  have l3 := ok.hi
  refine qk_asg (ek_many (.inl rfl) 3 4 5 rfl (ed_ix1 (ed_var rfl hn.im)) (ed_var rfl hm.im) mo ok (.inl rfl) fun a b c => ⟨rfl, rfl, rfl⟩) fun kd H1 hkd e1 hk => ?_
  refine sn_ret (en_lc (enc := fun p : Rule × Nat => PyData.tuple [.int (p.2 : Int), p.1.enc]) (id_enumTz (ed_ix2 (ed_var rfl (hn.ex e1).im))) (by rw [zip_len]; omega) (fun a => canOne n.pl m a.1) (fun a => .int (a.2 : Int)) fun a ha x H2 e2 mx Kt q => g_pairR mx fun y z u my mz mu => q _ rfl (et_test ?_) fun _ => ed_var rfl my) fun p xs H2 hp e2 h2 k2 => ?_
  · have rk : RuleOk n.pl a.1 := ok.rl a.1 (List.mem_of_getElem? (zip_at ha))
    have l4 := rk.hd.hi
    refine ev_allM (enc := Head.enc) (id_tup (ed_var rfl mz)) (by omega) (fun h => decide (0 < cnt n.pl m h.1)) fun h hh x H3 e3 mx Kt q => g_pair mx fun y z my mz => q _ rfl (ed_bl ?_)
    refine ev_op (ev_cntGet (c := cnt n.pl m h.1) (ev_var rfl) ((e2.trans e3) _ _ hk) (ed_var rfl my) ?_) ev_c rv_I0
    exact mkK_val mo.len (List.mem_map.mpr ⟨_, rk.hd.at_ h hh, rfl⟩)
  · refine k _ H2 (e1.trans e2) ⟨p, rfl, fresh_back e1 hp, ?_⟩
    have : xs = natsV (canL n m) := by
      refine (Ims.ints (H := H2) (ns := (canL n m).map fun i : Nat => (i : Int)) ?_).trans ?_
      · unfold canL
        rw [List.map_map, List.map_map]
        exact k2
      · rw [List.map_map]
        rfl
    rw [h2, this]
theorem behL_eq {f : Str → Int} : ∀ {pl : Pls} {m : List Int}, m.length = pl.length → (pl.map Prod.fst).Nodup → ((pl.zip m).map fun a => a.2 + f a.1.1) = pl.map fun p => cnt pl m p.1 + f p.1
  | [], _, _, _ => by simp
  | p :: pl, [], h, _ => by cases h
  | p :: pl, c :: m, h, nd => by
    rw [List.map_cons, List.nodup_cons] at nd
    rw [List.zip_cons_cons, List.map_cons, List.map_cons, behL_eq (by simpa using h) nd.2]
    congr 1
    · show c + f p.1 = (if p.1 = p.1 then c else _) + f p.1
      rw [if_pos rfl]
    · refine List.map_congr_left fun q hq => ?_
      show cnt pl m q.1 + f q.1 = (if p.1 = q.1 then c else cnt pl m q.1) + f q.1
      rw [if_neg fun e => nd.1 (by rw [e]; exact List.mem_map.mpr ⟨q, hq, rfl⟩)]
theorem dlt_nil (w : Str) : dlt ⟨[], []⟩ w = 0 := rfl
theorem countP_take {α : Type} (p : α → Bool) {l : List α} {i : Nat} {a : α} (h : l[i]? = some a) : (l.take (i + 1)).countP p = (l.take i).countP p + if p a = true then 1 else 0 := by
  rw [take_one h, List.countP_append, List.countP_singleton]
def spBehBy : Sp := fun vs H Q _ => ∃ (v mv : V) (n : Net) (m : List Int) (i : Nat) (r : Rule), vs = [v, mv, .int (i : Int)] ∧ NetAt n H v ∧ NetOk n ∧ MkAt H mv m ∧ MOk n m ∧ n.rules[i]? = some r ∧ ∀ v H2, Ex H H2 → (∃ p, v = .ref p ∧ H p = none ∧ H2 p = some (.tup ((behL n.pl m r).map V.int))) → Q v H2
theorem sc_behind_by : FnScope ["net", "marking", "rule", "heads", "deeds", "many", "place", "slots", "deed", "word", "things", "here"] ["net", "marking", "rule"] (defScope (top 54)) := ⟨rfl, rfl, rfl, by decide +kernel, rfl, by decide +kernel, by decide +kernel⟩
theorem ok_behind_by {f : Addr} {fd : FuncData} (F : Fun K "behind_by" "behind_by" (top 54) f fd) (B : Blt mg) : FnOk P w K mg base CX0 1 f fd ["net", "marking", "rule"] spBehBy := by
  refine F.ok sc_behind_by (fun vs H Q E h => (by obtain ⟨v, v1, _, m, i, r, rfl, _⟩ := h; rfl)) (fun cdv A outer s H vs Q E hr h => ?_)
  obtain ⟨v, mv, n, m, i, r, rfl, hn, ok, hm, mo, hr1, k⟩ := h
  refine ⟨_, (pss_cons (ps_asg (pe_ix (r := rIxT K) ix_tup (pe_ix (r := rIxT K) ix_tup (pv 0) pe_int (fun _ _ => rfl)) (pv 2) (fun _ _ => rfl)) (pg_tupK (K := K) (n := 2) rfl rfl (pgs_cons (pg_name (i := 3) sc_behind_by.nd rfl (Or.inl rfl) (by first | exact Or.inl rfl | exact Or.inr rfl)) (pgs_cons (pg_name (i := 4) sc_behind_by.nd rfl (Or.inl rfl) (by first | exact Or.inl rfl | exact Or.inr rfl)) pgs_nil))))
      (pss_cons (ps_set (i := 5) sc_behind_by.nd rfl (Or.inr rfl) (pe_dc (own := [("word", 9), ("things", 10), ("here", 11)]) rfl sc_behind_by.nd (pi_zipS (by rfl) B.zip (pa_cons (pe_ix (r := rIxT K) ix_tup (pv 0) pe_int (fun _ _ => rfl)) (pa_cons (pv 1) pa_nil))) (blkOk_by (own := [("word", 9), ("things", 10), ("here", 11)]) (N := ["net", "marking", "rule", "heads", "deeds", "many", "place", "slots", "deed", "word", "things", "here"]) (sc := defScope (top 54)) (by decide +kernel)) (fun _ _ _ _ _ => (pg_tupK (K := K) (n := 2) rfl rfl (pgs_cons (pg_tupK (K := K) (n := 2) rfl rfl (pgs_cons (pg_name (i := 9) sc_behind_by.nd rfl (Or.inl rfl) (by first | exact Or.inl rfl | exact Or.inr rfl)) (pgs_cons (pg_name (i := 10) sc_behind_by.nd rfl (Or.inl rfl) (by first | exact Or.inl rfl | exact Or.inr rfl)) pgs_nil))) (pgs_cons (pg_name (i := 11) sc_behind_by.nd rfl (Or.inl rfl) (by first | exact Or.inl rfl | exact Or.inr rfl)) pgs_nil)))) (fun _ _ _ _ _ => pts_nil) (fun _ _ _ _ _ => (pv 9)) (fun _ _ _ _ _ => (pv 11))))
      (pss_cons (ps_for PassesOwn.never rfl (pi_tupK (K := K) rfl (pv 3)) (pg_tupK (K := K) (n := 2) rfl rfl (pgs_cons (pg_name (i := 6) sc_behind_by.nd rfl (Or.inl rfl) (by first | exact Or.inl rfl | exact Or.inr rfl)) (pgs_cons (pg_name (i := 7) sc_behind_by.nd rfl (Or.inl rfl) (by first | exact Or.inl rfl | exact Or.inr rfl)) pgs_nil))) (pss_one (ps_daug (hu_of hr) (pv 5) (pv 6) pe_int in_sub (fun _ _ _ => rfl))))
      (pss_cons (ps_for PassesOwn.never rfl (pi_tupK (K := K) rfl (pv 4)) (pg_name (i := 8) sc_behind_by.nd rfl (Or.inl rfl) (by first | exact Or.inl rfl | exact Or.inr rfl)) (pss_one (ps_if (pt_cmpR op_eq (pe_ix (r := rIxT K) ix_tup (pv 8) pe_int (fun _ _ => rfl)) pe_str (nomark _)) (pss_one (ps_daug (hu_of hr) (pv 5) (pe_ix (r := rIxT K) ix_tup (pv 8) pe_int (fun _ _ => rfl)) pe_int in_add (fun _ _ _ => rfl))) pss_nil)))
      (pss_one (ps_ret (pe_callTy (r := rTupS K) (CallR_tup _) (by rfl) B.tuple bt_tuple (pa_cons (pe_lc (own := [("word", 9), ("things", 10)]) rfl sc_behind_by.nd (pi_tupK (K := K) rfl (pe_ix (r := rIxT K) ix_tup (pv 0) pe_int (fun _ _ => rfl))) (blkOk_by (own := [("word", 9), ("things", 10)]) (N := ["net", "marking", "rule", "heads", "deeds", "many", "place", "slots", "deed", "word", "things", "here"]) (sc := defScope (top 54)) (by decide +kernel)) (fun _ _ _ _ _ => (pg_tupK (K := K) (n := 2) rfl rfl (pgs_cons (pg_name (i := 9) sc_behind_by.nd rfl (Or.inl rfl) (by first | exact Or.inl rfl | exact Or.inr rfl)) (pgs_cons (pg_name (i := 10) sc_behind_by.nd rfl (Or.inl rfl) (by first | exact Or.inl rfl | exact Or.inr rfl)) pgs_nil)))) (fun _ _ _ _ _ => pts_nil) (fun _ _ _ _ _ => (pe_dget (hu_of hr) (pv 5) (pv 9) (fun _ _ => rfl)))) pa_nil)))))))), ?_⟩
  have l2 := ok.pl.hi
  have l3 := ok.hi
  have rk : RuleOk n.pl r := ok.rl r (List.mem_of_getElem? hr1)
  have l4 := rk.hd.hi
  have l5 := rk.hi
  obtain ⟨hi, _⟩ := List.getElem?_eq_some_iff.mp hr1
  refine qd_asgE (ed_ixT (j := i) (d := r.enc) (ed_ix2 (ed_var rfl hn.im)) (ed_int (ev_var rfl)) (by rw [List.length_map]; exact ixN_nat hi) (by rw [List.getElem?_map, hr1]; rfl)) fun z H1 e1 mz => g_pair mz fun hv dv mh md => ?_
  refine qk_asg (ek_many (.inr rfl) 9 10 11 rfl (ed_ix1 (ed_var rfl (hn.ex e1).im)) (ed_var rfl (hm.ex e1).im) mo ok (.inr rfl) fun a b c => ⟨rfl, rfl, rfl⟩) fun kd H2 hkd e2 hk => ?_
  have hkd0 : H kd = none := fresh_back e1 hkd
  refine q_forD (enc := Head.enc) (id_tup (ed_var rfl (mh.ex e2))) (fun H3 i' σ' H' => Tx H3 H' ∧ Ex H1 H' ∧ (∃ kvs, H' kd = some (.dK kvs) ∧ kvs.length ≤ 10 ∧ ∀ w, w ∈ n.pl.map Prod.fst → valV kvs (Sum.inr w) = some (.int (cnt n.pl m w - ((r.heads.take i').countP (fun h => decide (h.1 = w)) : Int)))) ∧ ∃ a b, σ' = [some v, some mv, some (.int (i : Int)), some hv, some dv, some (.ref kd), a, b, none, none, none, none])
    (fun H3 e3 => ⟨Tx.refl _, e2.trans e3, ⟨mkK n.pl m, e3 _ _ hk, ?_, fun w hw => ?_⟩, _, _, rfl⟩) (fun H3 e3 i' σ' H' _ h => h.1) (fun H3 e3 i' a σ' H' x H4 ha h e4 mx => ?_) fun H3 e3 σ' H' h => ?_
  · unfold mkK
    rw [List.length_map, List.length_zip]
    omega
  · rw [mkK_val mo.len hw]
    congr 1
    show V.int _ = V.int (_ - (0 : Int))
    rw [Int.sub_zero]
  · obtain ⟨t1, x1, ⟨kvs, hd, hl, hval⟩, a1, b1, rfl⟩ := h
    refine g_pair mx fun y z my mz => ?_
    have hw : a.1 ∈ n.pl.map Prod.fst := List.mem_map.mpr ⟨_, rk.hd.at_ a (List.mem_of_getElem? ha), rfl⟩
    rw [my.str_iff]
    have hv1 := hval a.1 hw
    have hd4 := e4 _ _ hd
    refine ⟨_, rfl, _, rfl, kd, .int (cnt n.pl m a.1 - ((r.heads.take i').countP (fun h => decide (h.1 = a.1)) : Int)), rfl, ?_, _, _, rfl, rfl, _, DPut.k (k := Sum.inr a.1) hd4 (sz_lt (by omega)), ?_⟩
    · have g := DGet.k (k := Sum.inr a.1) hd4
      rw [hv1] at g
      exact g
    · refine ⟨(t1.trans (tx_of e4)).trans (tx_dK hd4), Ex.mut (x1.trans e4) hkd, ⟨_, upd_same, ?_, fun w hw => ?_⟩, _, _, rfl⟩
      · have : (putK kvs (Sum.inr a.1) (.int (cnt n.pl m a.1 - ((r.heads.take i').countP (fun h => decide (h.1 = a.1)) : Int) - 1))).length = kvs.length := by
          unfold putK
          rw [if_pos (by rw [valV_any, hv1]; rfl), List.length_map]
        rw [this]
        exact hl
      · rw [valV_put, countP_take _ ha]
        by_cases e : a.1 = w
        · subst e
          rw [if_pos rfl, if_pos (by rw [decide_eq_true rfl])]
          congr 2
          omega
        · rw [if_neg (fun z => e (Sum.inr.inj z).symm), hval w hw, if_neg (by rw [decide_eq_false e]; decide)]
          rfl
  obtain ⟨t3, x3, ⟨kvs, hd, hl, hval⟩, a3, b3, rfl⟩ := h
  rw [List.take_length] at hval
  have md3 : Im H' dv r.dd := (md.ex x3)
  refine q_forD (enc := Deed.enc) (id_tup (ed_var rfl md3)) (fun H3 i' σ' H' => Tx H3 H' ∧ Ex H1 H' ∧ (∃ kvs, H' kd = some (.dK kvs) ∧ kvs.length ≤ 10 ∧ ∀ w, w ∈ n.pl.map Prod.fst → valV kvs (Sum.inr w) = some (.int (cnt n.pl m w - (r.heads.countP (fun h => decide (h.1 = w)) : Int) + ((r.deeds.take i').countP (Deed.adds w) : Int)))) ∧ ∃ a b c, σ' = [some v, some mv, some (.int (i : Int)), some hv, some dv, some (.ref kd), a, b, c, none, none, none])
    (fun H3 e3 => ⟨Tx.refl _, x3.trans e3, ⟨kvs, e3 _ _ hd, hl, fun w hw => ?_⟩, _, _, _, rfl⟩) (fun H3 e3 i' σ' H' _ h => h.1) (fun H3 e3 i' a σ' H' x H4 ha h e4 mx => ?_) fun H3 e3 σ' H' h => ?_
  · rw [hval w hw]
    congr 1
    show V.int _ = V.int (_ + (0 : Int))
    rw [Int.add_zero]
  · obtain ⟨t1, x1, ⟨kvs, hd, hl, hval⟩, a1, b1, c1, rfl⟩ := h
    refine g_name ?_
    have hx : ∀ (H1 : Hp) (σ : L2.St), σ[8]? = some (some x) → Ex H4 H1 → EvD (tVar 8) σ H1 (.tuple (.str a.word :: a.rest)) := fun H1 σ h e => by
      rw [← a.enc_eq]
      exact ed_var h (mx.ex e)
    have hak := rk.dd a (List.mem_of_getElem? ha)
    by_cases hs : a.word = "put"
    · cases a with
      | note o => exact absurd hs so_5
      | set o => exact absurd hs so_7
      | put x1' o c =>
        refine s_yes (et_test (ev_eqSy (ed_ix0 (hx _ _ rfl (Ex.refl _))) ed_cs)) fun H5 e5 => ?_
        have hw : x1' ∈ n.pl.map Prod.fst := List.mem_map.mpr ⟨_, hak.2, rfl⟩
        refine ⟨_, rfl, ?_⟩
        refine (ed_ix1 (K := K) (d0 := .str "put") (d1 := .str x1') (ds := [.tuple (List.replicate c o.enc)]) (hx H5 _ rfl e5)) H5 (Ex.refl _) _ fun y H6 e6 my => ?_
        rw [my.str_iff]
        have hd6 := ((e4.trans e5).trans e6) _ _ hd
        have hv1 := hval x1' hw
        refine ⟨kd, _, rfl, (by have g := DGet.k (k := Sum.inr x1') hd6; rw [hv1] at g; exact g), _, _, rfl, rfl, _, DPut.k (k := Sum.inr x1') hd6 (sz_lt (by omega)), ?_⟩
        refine ⟨(t1.trans (tx_of e4)).trans ((tx_of (e5.trans e6)).trans (tx_dK hd6)), Ex.mut ((x1.trans e4).trans (e5.trans e6)) hkd, ⟨_, upd_same, ?_, fun w hw => ?_⟩, _, _, _, rfl⟩
        · unfold putK
          rw [if_pos (by rw [valV_any, hv1]; rfl), List.length_map]
          exact hl
        · rw [valV_put, countP_take _ ha]
          by_cases e : x1' = w
          · subst e
            rw [if_pos rfl, if_pos (show Deed.adds x1' (.put x1' o c) = true from decide_eq_true rfl)]
            congr 2
            omega
          · rw [if_neg (fun z => e (Sum.inr.inj z).symm), hval w hw, if_neg (show ¬ Deed.adds w (.put x1' o c) = true from fun z => e (of_decide_eq_true z))]
            rfl
    · refine s_no (et_test (ev_eqSn (ed_ix0 (hx _ _ rfl (Ex.refl _))) ed_cs hs)) fun H5 e5 => ?_
      refine ⟨(t1.trans (tx_of e4)).trans (tx_of e5), (x1.trans e4).trans e5, ⟨kvs, (e4.trans e5) _ _ hd, hl, fun w hw => ?_⟩, _, _, _, rfl⟩
      rw [hval w hw, countP_take _ ha, if_neg]
      · rfl
      · cases a with
        | note o => exact fun z => nomatch z
        | set o => exact fun z => nomatch z
        | put x o c => exact absurd rfl hs
  obtain ⟨t5, x5, ⟨kvs', hd', hl', hval'⟩, a5, b5, c5, rfl⟩ := h
  rw [List.take_length] at hval'
  have hn5 := hn.ex (e1.trans x5)
  have hb : (behL n.pl m r).map PyData.int = n.pl.map fun p => PyData.int (cnt n.pl m p.1 + dlt r p.1) := by
    unfold behL
    rw [behL_eq mo.len ok.pl.nd, List.map_map]
    rfl
  refine s_retU (eu_tupN (ns := behL n.pl m r) ?_) fun p H6 hp e6 h6 => k _ _ ((e1.trans x5).trans e6) ⟨p, rfl, fresh_back (e1.trans x5) hp, h6⟩
  rw [hb]
  refine en_map (enc := plE) (id_tup (ed_ix1 (ed_var rfl hn5.im))) (by omega) (fun p => .int (cnt n.pl m p.1 + dlt r p.1)) fun p hp x H6 e6 mx Kt q => g_pair mx fun y z my mz => q _ rfl (ed_int (ev_cntGet (ev_var rfl) (e6 _ _ hd') (ed_var rfl my) ?_))
  rw [hval' p.1 (List.mem_map.mpr ⟨p, hp, rfl⟩)]
  congr 2
  unfold dlt
  omega
theorem behL_len {pl : Pls} {m : List Int} {r : Rule} (h : m.length = pl.length) : (behL pl m r).length = pl.length := by
  unfold behL
  rw [List.length_map, List.length_zip]
  omega
theorem canL_at {n : Net} {m : List Int} {i : Nat} (h : i ∈ canL n m) : ∃ r, n.rules[i]? = some r ∧ canOne n.pl m r = true := by
  unfold canL at h
  obtain ⟨a, ha, rfl⟩ := List.mem_map.mp h
  obtain ⟨h1, h2⟩ := List.mem_filter.mp ha
  exact ⟨a.1, zip_at h1, h2⟩
theorem canL_mem {n : Net} {m : List Int} {i : Nat} {r : Rule} (h1 : n.rules[i]? = some r) (h2 : canOne n.pl m r = true) : i ∈ canL n m := by
  unfold canL
  exact List.mem_map.mpr ⟨(r, i), List.mem_filter.mpr ⟨(List.mk_mem_zipIdx_iff_getElem? (l := n.rules)).mpr h1, h2⟩, rfl⟩
theorem sc_can : FnScope ["net", "marking"] ["net", "marking"] (defScope (top 55)) := ⟨rfl, rfl, rfl, by decide +kernel, rfl, by decide +kernel, by decide +kernel⟩
theorem ok_can {f : Addr} {fd : FuncData} (F : Fun K "can" "can" (top 55) f fd) (D_can_by : Df P w K mg base "can_by" 1 ["net", "marking"] spCanBy) (D_look_at_marking : Df P w K mg base "look_at_marking" 13 ["net", "marking"] spLookM) : FnOk P w K mg base CX0 14 f fd ["net", "marking"] spCanBy := by
  refine F.ok sc_can (fun vs H Q E h => (by obtain ⟨v, v1, _, m, rfl, _⟩ := h; rfl)) (fun cdv A outer s H vs Q E hr h => ?_)
  obtain ⟨v, mv, n, m, rfl, hn, ok, hm, mo, k⟩ := h
  refine ⟨_, (pss_cons (ps_expr (pe_df D_look_at_marking (hr.mono (by decide)) (by rfl) (pa_cons (pv 0) (pa_cons (pv 1) pa_nil))))
      (pss_one (ps_ret (pe_df D_can_by (hr.mono (by decide)) (by rfl) (pa_cons (pv 0) (pa_cons (pv 1) pa_nil)))))), ?_⟩
  refine q_drop (v := .non) (fun H1 e1 Q q => ⟨v, rfl, mv, rfl, v, mv, n, m, rfl, hn.ex e1, ok, hm.ex e1, mo, q⟩) fun H1 e1 => ?_
  exact ⟨v, rfl, mv, rfl, v, mv, n, m, rfl, hn.ex e1, ok, hm.ex e1, mo, fun u H2 e2 ⟨p, h1, h2, h3⟩ => k u H2 (e1.trans e2) ⟨p, h1, fresh_back e1 h2, h3⟩⟩
def spBeh : Sp := fun vs H Q _ => ∃ (v mv : V) (n : Net) (m : List Int) (i : Nat) (r : Rule), vs = [v, mv, .int (i : Int)] ∧ NetAt n H v ∧ NetOk n ∧ MkAt H mv m ∧ MOk n m ∧ n.rules[i]? = some r ∧ i ∈ canL n m ∧ ∀ v H2, Ex H H2 → (∃ p, v = .ref p ∧ H p = none ∧ H2 p = some (.tup ((behL n.pl m r).map V.int))) → Q v H2
/-- the call of can_by as a new list of numbers -/
theorem en_canBy {σ : L2.St} {H : Hp} {ta tb : TE} {E : XK} {v mv : V} {n : Net} {m : List Int} (h1 : Ev ta σ H v) (h2 : Ev tb σ H mv) (hn : NetAt n H v) (ok : NetOk n) (hm : MkAt H mv m) (mo : MOk n m) : EvN (tCall spCanBy [] E (tCons ta (tCons tb tNil))) σ H (((canL n m).map fun i : Nat => (i : Int)).map PyData.int) := fun H1 e Q q => h1 H1 e _ fun H2 e2 => h2 H2 (e.trans e2) _ fun H3 e3 => by
  have e13 := (e.trans e2).trans e3
  refine ⟨v, mv, n, m, rfl, hn.ex e13, ok, hm.ex e13, mo, fun u H4 e4 ⟨p, h5, h6, h7⟩ => ?_⟩
  subst h5
  refine q p _ H4 (fresh_back (e2.trans e3) h6) ((e2.trans e3).trans e4) h7 ?_
  have := ims_ints (H := H4) ((canL n m).map fun i : Nat => (i : Int))
  rwa [List.map_map] at this
theorem nat_mem {l : List Nat} {i : Nat} : ((i : Int) ∈ l.map fun i : Nat => (i : Int)) ↔ i ∈ l := by
  rw [List.mem_map]
  constructor
  · rintro ⟨j, h, e⟩
    rw [← Int.ofNat.inj e]
    exact h
  · intro h
    exact ⟨i, h, rfl⟩
theorem sc_behind : FnScope ["net", "marking", "rule"] ["net", "marking", "rule"] (defScope (top 56)) := ⟨rfl, rfl, rfl, by decide +kernel, rfl, by decide +kernel, by decide +kernel⟩
theorem ok_behind {f : Addr} {fd : FuncData} (F : Fun K "behind" "behind" (top 56) f fd) (D_behind_by : Df P w K mg base "behind_by" 1 ["net", "marking", "rule"] spBehBy) (D_can_by : Df P w K mg base "can_by" 1 ["net", "marking"] spCanBy) (D_is_whole : Df P w K mg base "is_whole" 1 ["thing"] spWhole) (D_look_at_marking : Df P w K mg base "look_at_marking" 13 ["net", "marking"] spLookM) : FnOk P w K mg base CX0 14 f fd ["net", "marking", "rule"] spBeh := by
  refine F.ok sc_behind (fun vs H Q E h => (by obtain ⟨v, v1, _, m, i, r, rfl, _⟩ := h; rfl)) (fun cdv A outer s H vs Q E hr h => ?_)
  obtain ⟨v, mv, n, m, i, r, rfl, hn, ok, hm, mo, hr1, hc, k⟩ := h
  refine ⟨_, (pss_cons (ps_expr (pe_df D_look_at_marking (hr.mono (by decide)) (by rfl) (pa_cons (pv 0) (pa_cons (pv 1) pa_nil))))
      (pss_cons (ps_if (PW.pt (pw_or (pt_not (pt_val (pe_df D_is_whole (hr.mono (by decide)) (by rfl) (pa_cons (pv 2) pa_nil)))) (pw_or1 (pt_cmpR (r := rIn K true) op_notIn_seq (pv 2) (pe_df D_can_by (hr.mono (by decide)) (by rfl) (pa_cons (pv 0) (pa_cons (pv 1) pa_nil))) (by rfl))))) (pss_one ps_never) pss_nil)
      (pss_one (ps_ret (pe_df D_behind_by (hr.mono (by decide)) (by rfl) (pa_cons (pv 0) (pa_cons (pv 1) (pa_cons (pv 2) pa_nil)))))))), ?_⟩
  refine q_drop (v := .non) (fun H1 e1 Q q => ⟨v, rfl, mv, rfl, v, mv, n, m, rfl, hn.ex e1, ok, hm.ex e1, mo, q⟩) fun H1 e1 => ?_
  refine q_no (et_or2 (et_nt (ev_t (ed_call (eds1 (ed_int (ev_var rfl))) (spR_at ⟨(i : Int), rfl, rfl⟩)))) (et_test ?_)) fun H2 e2 => ?_
  · refine ev_is (ev_inI (neg := true) (x := (i : Int)) (ed_int (ev_var rfl)) (EvN.s (en_canBy (ev_var rfl) (ev_var rfl) (hn.ex e1) ok (hm.ex e1) mo))) (congrArg V.bl ?_)
    rw [if_pos rfl, decide_eq_true (nat_mem.mpr hc)]
    rfl
  · have e12 := e1.trans e2
    exact ⟨v, rfl, mv, rfl, .int (i : Int), rfl, v, mv, n, m, i, r, rfl, hn.ex e12, ok, hm.ex e12, mo, hr1, fun u H3 e3 ⟨p, h1, h2, h3⟩ => k u H3 (e12.trans e3) ⟨p, h1, fresh_back e12 h2, h3⟩⟩
def leL (a b : List Int) : Bool := (a.zip b).all fun p => decide (p.1 ≤ p.2)
def spWithin : Sp := fun vs H Q _ => ∃ (v u : V) (a b : List Int), vs = [v, u] ∧ MkAt H v a ∧ MkAt H u b ∧ a.length = b.length ∧ a.length ≤ 6 ∧ ∀ H2, Ex H H2 → Q (.bl (leL a b)) H2
theorem sc_is_within : FnScope ["one", "other", "here", "there"] ["one", "other"] (defScope (top 59)) := ⟨rfl, rfl, rfl, by decide +kernel, rfl, by decide +kernel, by decide +kernel⟩
theorem ok_is_within {f : Addr} {fd : FuncData} (F : Fun K "is_within" "is_within" (top 59) f fd) (B : Blt mg) : FnOk P w K mg base CX0 1 f fd ["one", "other"] spWithin := by
  refine F.ok sc_is_within (fun vs H Q E h => (by obtain ⟨v, v1, _, m, rfl, _⟩ := h; rfl)) (fun cdv A outer s H vs Q E hr h => ?_)
  obtain ⟨v, u, a, b, rfl, ha, hb, hl, h6, k⟩ := h
  refine ⟨_, (pss_one (ps_ret (pe_callB (r := rAll K) (cr_all rfl) (by rfl) B.all bt_all (pa_cons (pe_lc (own := [("here", 2), ("there", 3)]) rfl sc_is_within.nd (pi_zipS (by rfl) B.zip (pa_cons (pv 0) (pa_cons (pv 1) pa_nil))) (blkOk_by (own := [("here", 2), ("there", 3)]) (N := ["one", "other", "here", "there"]) (sc := defScope (top 59)) (by decide +kernel)) (fun _ _ _ _ _ => (pg_tupK (K := K) (n := 2) rfl rfl (pgs_cons (pg_name (i := 2) sc_is_within.nd rfl (Or.inl rfl) (by first | exact Or.inl rfl | exact Or.inr rfl)) (pgs_cons (pg_name (i := 3) sc_is_within.nd rfl (Or.inl rfl) (by first | exact Or.inl rfl | exact Or.inr rfl)) pgs_nil)))) (fun _ _ _ _ _ => pts_nil) (fun _ _ _ _ _ => (pe_cmpR op_le (pv 2) (pv 3) (nomark _)))) pa_nil)))), ?_⟩
  refine s_ret (ev_allM (enc := fun p : Int × Int => PyData.tuple [.int p.1, .int p.2]) (id_zipSz (enc := PyData.int) (enc1 := PyData.int) (ed_var rfl ha.im) (ed_var rfl hb.im) hl) (by rw [List.length_zip]; omega) (fun p => decide (p.1 ≤ p.2)) fun a ha x H2 e2 mx Kt q => g_pair mx fun y z my mz => q _ rfl (ed_bl (ev_op (ev_int (ed_var rfl my)) (ev_int (ed_var rfl mz)) rv_I0))) k
end
end Mt

set_option maxHeartbeats 2000000
/-! the search, in plain Lean -/
namespace Mt
open PySem L2 Evl
/-- these rules, one behind another, lead from here to there -/
inductive Led (n : Net) : List Int → List Nat → List Int → Prop
  | nil (m : List Int) : Led n m [] m
  | cons {m : List Int} {i : Nat} {r : Rule} {is : List Nat} {m1 : List Int} (h1 : i ∈ canL n m) (h2 : n.rules[i]? = some r) (h3 : Led n (behL n.pl m r) is m1) : Led n m (i :: is) m1
theorem Led.app {n : Net} {m x y : List Int} {is js : List Nat} (h : Led n m is x) (k : Led n x js y) : Led n m (is ++ js) y := by
  induction h with
  | nil => exact k
  | cons h1 h2 _ ih => exact .cons h1 h2 (ih k)
theorem Led.snoc {n : Net} {m x : List Int} {is : List Nat} {i : Nat} {r : Rule} (h : Led n m is x) (h1 : i ∈ canL n x) (h2 : n.rules[i]? = some r) : Led n m (is ++ [i]) (behL n.pl x r) := h.app (.cons h1 h2 (.nil _))
def Reach (n : Net) (m x : List Int) : Prop := ∃ is, Led n m is x
abbrev Cms := List (Option (Nat × Nat))
structure Srch (n : Net) (m0 : List Int) (ms : List (List Int)) (cm : Cms) : Prop where
  len : cm.length = ms.length
  z : ms[0]? = some m0
  cz : cm[0]? = some none
  st : ∀ i, 0 < i → i < ms.length → ∃ a r rr x, cm[i]? = some (some (a, r)) ∧ a < i ∧ ms[a]? = some x ∧ r ∈ canL n x ∧ n.rules[r]? = some rr ∧ ms[i]? = some (behL n.pl x rr)
  nd : ms.Nodup
  ok : ∀ m ∈ ms, MOk n m
inductive Way (cm : Cms) : List Nat → Nat → Prop
  | root {i : Nat} (h : cm[i]? = some none) : Way cm [i] i
  | step {ws : List Nat} {a i r : Nat} (h : Way cm ws a) (h1 : cm[i]? = some (some (a, r))) : Way cm (ws ++ [i]) i
def rul (cm : Cms) (j : Nat) : Nat := match cm[j]? with
  | some (some (_, r)) => r
  | _ => 0
theorem rul_eq {cm : Cms} {j a r : Nat} (h : cm[j]? = some (some (a, r))) : rul cm j = r := by
  unfold rul
  rw [h]
section
variable {n : Net} {m0 : List Int} {ms : List (List Int)} {cm : Cms}
theorem Srch.some_at (S : Srch n m0 ms cm) {i : Nat} {c : Option (Nat × Nat)} (h : cm[i]? = some c) : i < ms.length := by
  obtain ⟨h1, _⟩ := List.getElem?_eq_some_iff.mp h
  have := S.len
  omega
theorem Srch.step_at (S : Srch n m0 ms cm) {i a r : Nat} (h : cm[i]? = some (some (a, r))) : ∃ rr x, a < i ∧ ms[a]? = some x ∧ r ∈ canL n x ∧ n.rules[r]? = some rr ∧ ms[i]? = some (behL n.pl x rr) := by
  have hl := S.some_at h
  have hi : 0 < i := by
    rcases Nat.eq_zero_or_pos i with e | e
    · rw [e, S.cz] at h
      cases h
    · exact e
  obtain ⟨a1, r1, rr, x, h1, h2, h3, h4, h5, h6⟩ := S.st i hi hl
  rw [h] at h1
  cases h1
  exact ⟨rr, x, h2, h3, h4, h5, h6⟩
theorem Srch.root_at (S : Srch n m0 ms cm) {i : Nat} (h : cm[i]? = some none) : i = 0 := by
  rcases Nat.eq_zero_or_pos i with e | e
  · exact e
  · obtain ⟨a1, r1, rr, x, h1, _⟩ := S.st i e (S.some_at h)
    rw [h] at h1
    cases h1
theorem Way.ne {ws : List Nat} {i : Nat} (h : Way cm ws i) : 0 < ws.length := by
  cases h with
  | root h => exact Nat.succ_pos _
  | step h h1 => rw [List.length_append]; exact Nat.succ_pos _
theorem Way.last {ws : List Nat} {i : Nat} (h : Way cm ws i) : ws[ws.length - 1]? = some i := by
  cases h with
  | root h => rfl
  | step h h1 => simp
theorem Way.cm_at {ws : List Nat} {i : Nat} (h : Way cm ws i) : ∃ c, cm[i]? = some c := by
  cases h with
  | root h => exact ⟨_, h⟩
  | step h h1 => exact ⟨_, h1⟩
/-- the rules behind place k lead on to the end -/
theorem Way.led (S : Srch n m0 ms cm) {ws : List Nat} {i : Nat} (h : Way cm ws i) : ∀ k a x, ws[k]? = some a → ms[a]? = some x → ∃ y, ms[i]? = some y ∧ Led n x ((ws.drop (k + 1)).map (rul cm)) y := by
  induction h with
  | @root i h =>
    intro k a x hk hx
    obtain ⟨hk1, hk2⟩ := List.getElem?_eq_some_iff.mp hk
    have e : k = 0 := by simpa using hk1
    subst e
    have ea : i = a := by simpa using hk2
    subst ea
    exact ⟨x, hx, .nil x⟩
  | @step ws a0 i r h h1 ih =>
    intro k a x hk hx
    obtain ⟨rr, z, h2, h3, h4, h5, h6⟩ := S.step_at h1
    by_cases hlt : k < ws.length
    · rw [List.getElem?_append_left hlt] at hk
      obtain ⟨y, hy, hl⟩ := ih k a x hk hx
      rw [h3] at hy
      cases hy
      refine ⟨_, h6, ?_⟩
      rw [List.drop_append_of_le_length (by omega), List.map_append, List.map_cons, List.map_nil, rul_eq h1]
      exact hl.snoc h4 h5
    · have hk1 := (List.getElem?_eq_some_iff.mp hk).1
      rw [List.length_append, List.length_singleton] at hk1
      have e : k = ws.length := by omega
      subst e
      have ea : i = a := by simpa using hk
      subst ea
      refine ⟨x, hx, ?_⟩
      rw [List.drop_eq_nil_of_le (by rw [List.length_append, List.length_singleton]; exact Nat.le_refl _)]
      exact .nil x
theorem Way.take {ws : List Nat} {i : Nat} (h : Way cm ws i) : ∀ k a, ws[k]? = some a → Way cm (ws.take (k + 1)) a := by
  induction h with
  | @root i h =>
    intro k a hk
    obtain ⟨hk1, hk2⟩ := List.getElem?_eq_some_iff.mp hk
    have e : k = 0 := by simpa using hk1
    subst e
    have ea : i = a := by simpa using hk2
    subst ea
    exact .root h
  | @step ws a0 i r h h1 ih =>
    intro k a hk
    by_cases hlt : k < ws.length
    · rw [List.getElem?_append_left hlt] at hk
      rw [List.take_append_of_le_length (by omega)]
      exact ih k a hk
    · have hk1 := (List.getElem?_eq_some_iff.mp hk).1
      rw [List.length_append, List.length_singleton] at hk1
      have e : k = ws.length := by omega
      subst e
      have ea : i = a := by simpa using hk
      subst ea
      rw [List.take_of_length_le (by rw [List.length_append, List.length_singleton]; exact Nat.le_refl _)]
      exact .step h h1
theorem Way.head (S : Srch n m0 ms cm) {ws : List Nat} {i : Nat} (h : Way cm ws i) : ws[0]? = some 0 := by
  induction h with
  | root h => rw [S.root_at h]; rfl
  | step h h1 ih => rw [List.getElem?_append_left h.ne]; exact ih
theorem Way.le (S : Srch n m0 ms cm) {ws : List Nat} {i : Nat} (h : Way cm ws i) : ∀ k a, ws[k]? = some a → a ≤ i ∧ (k + 1 < ws.length → a < i) := by
  induction h with
  | @root i h =>
    intro k a hk
    obtain ⟨hk1, hk2⟩ := List.getElem?_eq_some_iff.mp hk
    have e : k = 0 := by simpa using hk1
    subst e
    have ea : i = a := by simpa using hk2
    subst ea
    exact ⟨Nat.le_refl _, fun h => absurd h (by simp)⟩
  | @step ws a0 i r h h1 ih =>
    intro k a hk
    obtain ⟨rr, z, h2, h3, h4, h5, h6⟩ := S.step_at h1
    by_cases hlt : k < ws.length
    · rw [List.getElem?_append_left hlt] at hk
      have := (ih k a hk).1
      exact ⟨by omega, fun _ => by omega⟩
    · have hk1 := (List.getElem?_eq_some_iff.mp hk).1
      rw [List.length_append, List.length_singleton] at hk1
      have e : k = ws.length := by omega
      subst e
      have ea : i = a := by simpa using hk
      subst ea
      exact ⟨Nat.le_refl _, fun hh => by rw [List.length_append, List.length_singleton] at hh; omega⟩
theorem Way.lt (S : Srch n m0 ms cm) {ws : List Nat} {i : Nat} (h : Way cm ws i) {a : Nat} (ha : a ∈ ws) : a < ms.length := by
  obtain ⟨k, hk⟩ := List.mem_iff_getElem?.mp ha
  have := (h.le S k a hk).1
  obtain ⟨c, hc⟩ := h.cm_at
  have := S.some_at hc
  omega
/-- every one behind the first has come by a rule -/
theorem Way.tail_some {ws : List Nat} {i : Nat} (h : Way cm ws i) : ∀ k, 0 < k → ∀ j, ws[k]? = some j → ∃ a r, cm[j]? = some (some (a, r)) := by
  induction h with
  | @root i h =>
    intro k hk j hj
    obtain ⟨hk1, _⟩ := List.getElem?_eq_some_iff.mp hj
    have : k = 0 := by simpa using hk1
    omega
  | @step ws a0 i r h h1 ih =>
    intro k hk j hj
    by_cases hlt : k < ws.length
    · rw [List.getElem?_append_left hlt] at hj
      exact ih k hk j hj
    · have hk1 := (List.getElem?_eq_some_iff.mp hj).1
      rw [List.length_append, List.length_singleton] at hk1
      have e : k = ws.length := by omega
      subst e
      have ea : i = j := by simpa using hj
      subst ea
      exact ⟨a0, r, h1⟩
theorem Srch.reach (S : Srch n m0 ms cm) : ∀ (i : Nat) (x : List Int), ms[i]? = some x → Reach n m0 x := by
  intro i
  induction i using Nat.strongRecOn with
  | _ i ih =>
    intro x hx
    rcases Nat.eq_zero_or_pos i with e | e
    · subst e
      rw [S.z] at hx
      cases hx
      exact ⟨[], .nil _⟩
    · obtain ⟨hl, _⟩ := List.getElem?_eq_some_iff.mp hx
      obtain ⟨a, r, rr, z, h1, h2, h3, h4, h5, h6⟩ := S.st i e hl
      obtain ⟨is, hi⟩ := ih a h2 z h3
      rw [h6] at hx
      cases hx
      exact ⟨_, hi.snoc h4 h5⟩
theorem Srch.one (ok : MOk n m0) : Srch n m0 [m0] [none] := ⟨rfl, rfl, rfl, fun i h1 h2 => by simp at h2; omega, by simp, fun m hm => by rw [List.mem_singleton.mp hm]; exact ok⟩
theorem Srch.grow (S : Srch n m0 ms cm) {a r : Nat} {x : List Int} {rr : Rule} (ha : ms[a]? = some x) (hr : r ∈ canL n x) (hrr : n.rules[r]? = some rr) (hn : behL n.pl x rr ∉ ms) (ok : MOk n (behL n.pl x rr)) : Srch n m0 (ms ++ [behL n.pl x rr]) (cm ++ [some (a, r)]) := by
  have hal := (List.getElem?_eq_some_iff.mp ha).1
  have hl := S.len
  refine ⟨by rw [List.length_append, List.length_append, S.len]; rfl, ?_, ?_, fun i h1 h2 => ?_, ?_, fun m hm => ?_⟩
  · rw [List.getElem?_append_left (by omega)]
    exact S.z
  · rw [List.getElem?_append_left (by omega)]
    exact S.cz
  · rw [List.length_append, List.length_singleton] at h2
    by_cases hlt : i < ms.length
    · obtain ⟨a1, r1, rr1, x1, g1, g2, g3, g4, g5, g6⟩ := S.st i h1 hlt
      exact ⟨a1, r1, rr1, x1, by rw [List.getElem?_append_left (by omega)]; exact g1, g2, by rw [List.getElem?_append_left (by omega)]; exact g3, g4, g5, by rw [List.getElem?_append_left (by omega)]; exact g6⟩
    · have e : i = ms.length := by omega
      subst e
      exact ⟨a, r, rr, x, by rw [← hl]; simp, hal, by rw [List.getElem?_append_left hal]; exact ha, hr, hrr, by simp⟩
  · rw [List.nodup_append]
    refine ⟨S.nd, by simp, fun a ha b hb => ?_⟩
    rw [List.mem_singleton] at hb
    rw [hb]
    intro e
    rw [e] at ha
    exact hn ha
  · rcases List.mem_append.mp hm with hm | hm
    · exact S.ok m hm
    · rw [List.mem_singleton.mp hm]
      exact ok
end
theorem countP_one : ∀ {hs : List Head} (w : Str), (hs.map Prod.fst).Nodup → hs.countP (fun h => decide (h.1 = w)) ≤ 1 ∧ (0 < hs.countP (fun h => decide (h.1 = w)) → ∃ h ∈ hs, h.1 = w)
  | [], w, _ => ⟨Nat.zero_le _, fun h => absurd h (by simp)⟩
  | h :: hs, w, nd => by
    rw [List.map_cons, List.nodup_cons] at nd
    obtain ⟨i1, i2⟩ := countP_one (hs := hs) w nd.2
    rw [List.countP_cons]
    by_cases e : h.1 = w
    · have z : hs.countP (fun h => decide (h.1 = w)) = 0 := by
        rcases Nat.eq_zero_or_pos (hs.countP (fun h => decide (h.1 = w))) with z | z
        · exact z
        · obtain ⟨k, hk, ek⟩ := i2 z
          exact absurd (List.mem_map.mpr ⟨k, hk, ek.trans e.symm⟩) nd.1
      rw [z, if_pos (decide_eq_true e)]
      exact ⟨Nat.le_refl 1, fun _ => ⟨h, List.mem_cons_self .., e⟩⟩
    · rw [if_neg (by rw [decide_eq_false e]; decide), Nat.add_zero]
      exact ⟨i1, fun z => by
        obtain ⟨k, hk, ek⟩ := i2 z
        exact ⟨k, List.mem_cons_of_mem _ hk, ek⟩⟩
theorem cnt_pos : ∀ {pl : Pls} {m : List Int} {w : Str}, (∀ i ∈ m, 0 ≤ i) → 0 ≤ cnt pl m w
  | [], _, _, _ => Int.le_refl 0
  | _ :: _, [], _, _ => Int.le_refl 0
  | p :: pl, c :: m, w, h => by
    show 0 ≤ if p.1 = w then c else cnt pl m w
    split
    · exact h c (by simp)
    · exact cnt_pos fun i hi => h i (by simp [hi])
theorem beh_ok {n : Net} {m : List Int} {r : Rule} (ok : NetOk n) (mo : MOk n m) (hr : r ∈ n.rules) (hc : canOne n.pl m r = true) : MOk n (behL n.pl m r) := by
  refine ⟨behL_len mo.len, fun i hi => ?_⟩
  have hb : behL n.pl m r = n.pl.map fun p => cnt n.pl m p.1 + dlt r p.1 := behL_eq mo.len ok.pl.nd
  rw [hb] at hi
  obtain ⟨p, hp, rfl⟩ := List.mem_map.mp hi
  have hp0 := cnt_pos (pl := n.pl) (w := p.1) mo.pos
  obtain ⟨c1, c2⟩ := countP_one (hs := r.heads) p.1 (ok.rl r hr).hd.nd
  unfold dlt
  by_cases z : 0 < r.heads.countP (fun h => decide (h.1 = p.1))
  · obtain ⟨h, hh, e⟩ := c2 z
    have := of_decide_eq_true (List.all_eq_true.mp hc h hh)
    rw [e] at this
    omega
  · omega
theorem beh_okI {n : Net} {m : List Int} {r : Rule} {i : Nat} (ok : NetOk n) (mo : MOk n m) (hi : i ∈ canL n m) (hr : n.rules[i]? = some r) : MOk n (behL n.pl m r) := by
  obtain ⟨r1, h1, h2⟩ := canL_at hi
  rw [hr] at h1
  cases h1
  exact beh_ok ok mo (List.mem_of_getElem? hr) h2
theorem Led.ok {n : Net} {m x : List Int} {is : List Nat} (o : NetOk n) (mo : MOk n m) (h : Led n m is x) : MOk n x := by
  induction h with
  | nil => exact mo
  | cons h1 h2 _ ih => exact ih (beh_okI o mo h1 h2)
/-- what a search tells: all that is reached -/
structure Closed (n : Net) (m0 : List Int) (ms : List (List Int)) : Prop where
  nd : ms.Nodup
  mem : m0 ∈ ms
  cl : ∀ m ∈ ms, ∀ i r, i ∈ canL n m → n.rules[i]? = some r → behL n.pl m r ∈ ms
  re : ∀ m ∈ ms, Reach n m0 m
  le : ms.length ≤ 250
  ok : ∀ m ∈ ms, MOk n m
theorem Closed.perm {n : Net} {m0 : List Int} {ms ms' : List (List Int)} (c : Closed n m0 ms) (h : ms'.Perm ms) : Closed n m0 ms' :=
  ⟨h.nodup_iff.mpr c.nd, h.mem_iff.mpr c.mem, fun m hm i r h1 h2 => h.mem_iff.mpr (c.cl m (h.mem_iff.mp hm) i r h1 h2), fun m hm => c.re m (h.mem_iff.mp hm), by rw [h.length_eq]; exact c.le, fun m hm => c.ok m (h.mem_iff.mp hm)⟩
/-- .. or that it grows -/
def Grows (n : Net) (m0 : List Int) (stem lap : List Nat) : Prop := ∃ x y, Led n m0 stem x ∧ lap ≠ [] ∧ Led n x lap y ∧ leL x y = true ∧ x ≠ y
/-- .. or that there are too many -/
def Many (n : Net) (m0 : List Int) : Prop := ∃ ms : List (List Int), ms.Nodup ∧ ms.length = 251 ∧ ∀ m ∈ ms, Reach n m0 m
end Mt

set_option maxHeartbeats 2000000
/-! the search's object -/
namespace Mt
open PySem L2 Evl
structure GA where
  g : Addr
  lf : Addr
  lk : Addr
  lc : Addr
  dx : Addr
  nv : V
  fs : List (Str × V)
abbrev Fnd := List (Addr × List Int)
def fndV (F : Fnd) : List V := F.map fun b => V.ref b.1
def fndK (F : Fnd) : List (List Key × V) := F.map fun b => (b.2.map (Sum.inl : Int → Key), V.bl true)
def fndM (F : Fnd) : List (List Int) := F.map Prod.snd
def CamAt (H : Hp) (v : V) : Option (Nat × Nat) → Prop
  | none => v = .non
  | some c => ∃ p, v = .ref p ∧ H p = some (.tup [.int (c.1 : Int), .int (c.2 : Int)])
theorem CamAt.ex {H H' : Hp} {v : V} {c : Option (Nat × Nat)} (h : CamAt H v c) (e : Ex H H') : CamAt H' v c := by
  cases c with
  | none => exact h
  | some c =>
    obtain ⟨p, rfl, h⟩ := h
    exact ⟨p, rfl, e _ _ h⟩
theorem CamAt.tx {H H' : Hp} {v : V} {c : Option (Nat × Nat)} (h : CamAt H v c) (e : Tx H H') : CamAt H' v c := by
  cases c with
  | none => exact h
  | some c =>
    obtain ⟨p, rfl, h⟩ := h
    exact ⟨p, rfl, e _ _ ⟨_, .inl rfl⟩ h⟩
inductive Cams (H : Hp) : List V → Cms → Prop
  | nil : Cams H [] []
  | cons {v : V} {c : Option (Nat × Nat)} {vs : List V} {cs : Cms} (h : CamAt H v c) (k : Cams H vs cs) : Cams H (v :: vs) (c :: cs)
theorem Cams.tx {H H' : Hp} (e : Tx H H') : ∀ {vs : List V} {cs : Cms}, Cams H vs cs → Cams H' vs cs
  | _, _, .nil => .nil
  | _, _, .cons h k => .cons (h.tx e) (k.tx e)
theorem Cams.len {H : Hp} : ∀ {vs : List V} {cs : Cms}, Cams H vs cs → vs.length = cs.length
  | _, _, .nil => rfl
  | _, _, .cons h k => congrArg Nat.succ k.len
theorem Cams.at {H : Hp} : ∀ {vs : List V} {cs : Cms} {i : Nat} {c : Option (Nat × Nat)}, Cams H vs cs → cs[i]? = some c → ∃ v, vs[i]? = some v ∧ CamAt H v c
  | _, _, i, c, .nil, e => by simp at e
  | _, _, 0, c, .cons h k, e => by
    simp at e
    subst e
    exact ⟨_, rfl, h⟩
  | _, _, i + 1, c, .cons h k, e => by
    obtain ⟨v, h1, h2⟩ := Cams.at (i := i) (c := c) k (by simpa using e)
    exact ⟨v, by simpa using h1, h2⟩
theorem Cams.snoc {H : Hp} {v : V} {c : Option (Nat × Nat)} (h : CamAt H v c) : ∀ {vs : List V} {cs : Cms}, Cams H vs cs → Cams H (vs ++ [v]) (cs ++ [c])
  | _, _, .nil => .cons h .nil
  | _, _, .cons k1 k => .cons k1 (k.snoc h)
structure Go (C : Addr) (a : GA) (n : Net) (H0 H : Hp) (F : Fnd) (cm : Cms) : Prop where
  ex : Ex H0 H
  f1 : H0 a.g = none
  f2 : H0 a.lf = none
  f3 : H0 a.lk = none
  f4 : H0 a.lc = none
  ob : H a.g = some (.ins C a.dx a.fs)
  o1 : a.fs.lookup ("of_net" : Str) = some a.nv
  o2 : a.fs.lookup ("at_most" : Str) = some (.int 250)
  o3 : a.fs.lookup ("found" : Str) = some (.ref a.lf)
  o4 : a.fs.lookup ("known" : Str) = some (.ref a.lk)
  o5 : a.fs.lookup ("came" : Str) = some (.ref a.lc)
  m1 : a.fs.lookup ("way_to" : Str) = none
  m2 : a.fs.lookup ("rules_on" : Str) = none
  m3 : a.fs.lookup ("grown" : Str) = none
  m4 : a.fs.lookup ("come" : Str) = none
  m5 : a.fs.lookup ("gone" : Str) = none
  net : NetAt n H0 a.nv
  nok : NetOk n
  fd : H a.lf = some (.lst (fndV F))
  ms : ∀ b ∈ F, H b.1 = some (.tup (b.2.map V.int))
  kn : H a.lk = some (.dT (fndK F))
  cm_ : ∃ cs, H a.lc = some (.lst cs) ∧ Cams H cs cm
  ne : a.lf ≠ a.lc
  le : F.length ≤ 250
theorem Go.on {C : Addr} {a : GA} {n : Net} {H0 H H' : Hp} {F : Fnd} {cm : Cms} (g : Go C a n H0 H F cm) (e : Ex H H') : Go C a n H0 H' F cm :=
  { g with
    ex := g.ex.trans e
    ob := e _ _ g.ob
    fd := e _ _ g.fd
    ms := fun b hb => e _ _ (g.ms b hb)
    kn := e _ _ g.kn
    cm_ := by
      obtain ⟨cs, h, k⟩ := g.cm_
      exact ⟨cs, e _ _ h, k.tx (tx_of e)⟩ }
structure GoT (K : PySem.W.Frag) (mg : Str → Option Value) (C : Addr) : Prop where
  cl : Cls K C
  n1 : NoAttr K C "of_net"
  n2 : NoAttr K C "at_most"
  n3 : NoAttr K C "found"
  n4 : NoAttr K C "known"
  n5 : NoAttr K C "came"
  mgC : mg "Going" = some (.ref C)
structure MeF (P : Program) (w : World) (K : PySem.W.Frag) (mg : Str → Option Value) (base : Heap) (CX : CXT) (C : Addr) (m : Str) (k : Nat) (ps : List Str) (sp : Sp) : Prop where
  at_ : ∃ f fd, Meth K C m f ∧ FnOk P w K mg base CX k f fd ps sp ∧ Binds K fd ps []
section
variable {K : PySem.W.Frag} {mg : Str → Option Value} {C : Addr} {a : GA} {n : Net} {H0 H : Hp} {F : Fnd} {cm : Cms} {σ : L2.St} {ta ti : TE} {m0 : List Int}
theorem Go.ev1 (g : Go C a n H0 H F cm) (T : GoT K mg C) (h : Ev ta σ H (.ref a.g)) : Ev (tFld K ta "of_net") σ H a.nv := fun H1 e Q q => h H1 e _ fun H2 e2 => ⟨a.g, C, a.dx, a.fs, _, rfl, (e.trans e2) _ _ g.ob, T.cl, T.n1, g.o1, q H2 e2⟩
theorem Go.ev2 (g : Go C a n H0 H F cm) (T : GoT K mg C) (h : Ev ta σ H (.ref a.g)) : Ev (tFld K ta "at_most") σ H (.int 250) := fun H1 e Q q => h H1 e _ fun H2 e2 => ⟨a.g, C, a.dx, a.fs, _, rfl, (e.trans e2) _ _ g.ob, T.cl, T.n2, g.o2, q H2 e2⟩
theorem Go.ev3 (g : Go C a n H0 H F cm) (T : GoT K mg C) (h : Ev ta σ H (.ref a.g)) : Ev (tFld K ta "found") σ H (.ref a.lf) := fun H1 e Q q => h H1 e _ fun H2 e2 => ⟨a.g, C, a.dx, a.fs, _, rfl, (e.trans e2) _ _ g.ob, T.cl, T.n3, g.o3, q H2 e2⟩
theorem Go.ev4 (g : Go C a n H0 H F cm) (T : GoT K mg C) (h : Ev ta σ H (.ref a.g)) : Ev (tFld K ta "known") σ H (.ref a.lk) := fun H1 e Q q => h H1 e _ fun H2 e2 => ⟨a.g, C, a.dx, a.fs, _, rfl, (e.trans e2) _ _ g.ob, T.cl, T.n4, g.o4, q H2 e2⟩
theorem Go.ev5 (g : Go C a n H0 H F cm) (T : GoT K mg C) (h : Ev ta σ H (.ref a.g)) : Ev (tFld K ta "came") σ H (.ref a.lc) := fun H1 e Q q => h H1 e _ fun H2 e2 => ⟨a.g, C, a.dx, a.fs, _, rfl, (e.trans e2) _ _ g.ob, T.cl, T.n5, g.o5, q H2 e2⟩
theorem atI_nat {xs : List V} {i : Nat} {v : V} (h : xs[i]? = some v) : atI xs (i : Int) = some v := by
  obtain ⟨h1, _⟩ := List.getElem?_eq_some_iff.mp h
  unfold atI
  rw [ixN_nat h1]
  exact h
theorem Go.evF (g : Go C a n H0 H F cm) (T : GoT K mg C) (h : Ev ta σ H (.ref a.g)) {i : Nat} {b : Addr × List Int} (hi : Ev ti σ H (.int (i : Int))) (hb : F[i]? = some b) : Ev (tOp (rIxL K) (tFld K ta "found") ti) σ H (.ref b.1) :=
  ev_op (g.ev3 T h) hi (rv_ixL (SqL.of g.fd) (atI_nat (by unfold fndV; rw [List.getElem?_map, hb]; rfl)))
theorem Go.evC (g : Go C a n H0 H F cm) (T : GoT K mg C) (h : Ev ta σ H (.ref a.g)) {i : Nat} {c : Option (Nat × Nat)} (hi : Ev ti σ H (.int (i : Int))) (hc : cm[i]? = some c) : ∃ v, CamAt H v c ∧ Ev (tOp (rIxL K) (tFld K ta "came") ti) σ H v := by
  obtain ⟨cs, h1, h2⟩ := g.cm_
  obtain ⟨v, h3, h4⟩ := h2.at hc
  exact ⟨v, h4, ev_op (g.ev5 T h) hi (rv_ixL (SqL.of h1) (atI_nat h3))⟩
theorem Go.mkAt (g : Go C a n H0 H F cm) {b : Addr × List Int} (hb : b ∈ F) : MkAt H (.ref b.1) b.2 := ⟨b.1, rfl, g.ms b hb⟩
end
section
variable {K : PySem.W.Frag} {σ : L2.St} {H : Hp} {te : TE} {D : Ends} {tz : TS} {Φ : V → Hp → Prop}
theorem q_asgP {i : Nat} (h : EvP te σ H Φ) (k : ∀ v H1, Ex H H1 → Φ v H1 → tz D (σ.set i (some v)) H1) : tSeq (tAsg te (gName i)) tz D σ H := h H (Ex.refl H) _ k
theorem s_asgP {i : Nat} (h : EvP te σ H Φ) (k : ∀ v H1, Ex H H1 → Φ v H1 → D.nx (σ.set i (some v)) H1) : tAsg te (gName i) D σ H := h H (Ex.refl H) _ k
theorem s_retP (h : EvP te σ H Φ) (k : ∀ v H1, Ex H H1 → Φ v H1 → D.rt v H1) : tRet te D σ H := h H (Ex.refl H) _ k
theorem ep_call {sp : Sp} {E : XK} {ta : TA} {vs : List V} (h : EvA ta σ H vs) (hs : ∀ H1, Ex H H1 → ∀ Q : VK, (∀ v H2, Ex H1 H2 → Φ v H2 → Q v H2) → sp vs H1 Q E) : EvP (tCall sp [] E ta) σ H Φ := fun H1 e Q q => h H1 e _ fun H2 e2 => by
  show sp (vs ++ []) H2 Q E
  rw [List.append_nil]
  exact hs H2 (e.trans e2) Q fun v H3 e3 p => q v H3 (e2.trans e3) p
theorem q_dputT {td ty tv : TE} {d b : Addr} {v : V} {kvs : List (List Key × V)} {k : List Key} (hv : Ev tv σ H v) (hd : Ev td σ H (.ref d)) (hy : Ev ty σ H (.ref b)) (hk : H d = some (.dT kvs)) (hb : H b = some (.tup (k.map kV))) (hl : kvs.length < 100000) (kk : ∀ H1, Ex H H1 → tz D σ (upd H1 d (.dT (putK kvs k v)))) : tSeq (sDPut td ty tv) tz D σ H :=
  hv H (Ex.refl _) _ fun H1 e1 => hd H1 e1 _ fun H2 e2 => hy H2 (e1.trans e2) _ fun H3 e3 => ⟨d, _, rfl, DPut.t (((e1.trans e2).trans e3) _ _ hk) (((e1.trans e2).trans e3) _ _ hb) (sz_lt hl), kk H3 ((e1.trans e2).trans e3)⟩
theorem q_asgX {i : Nat} (h : ∀ Q : VK, (∀ v H2, Φ v H2 → Q v H2) → te σ H Q) (k : ∀ v H1, Φ v H1 → tz D (σ.set i (some v)) H1) : tSeq (tAsg te (gName i)) tz D σ H := h _ k
theorem s_retX (h : ∀ Q : VK, (∀ v H2, Φ v H2 → Q v H2) → te σ H Q) (k : ∀ v H1, Φ v H1 → D.rt v H1) : tRet te D σ H := h _ k
end
end Mt

set_option maxHeartbeats 4000000
/-! the search's methods, first half -/
namespace Mt
open PySem L2 Evl
section
variable {P : Program} {w : World} {K : PySem.W.Frag} {mg : Str → Option Value} {base : Heap}
def spWay (C : Addr) : Sp := fun vs H Q _ => ∃ (a : GA) (n : Net) (H0 : Hp) (F : Fnd) (cm : Cms) (m0 : List Int) (i : Nat), vs = [.ref a.g, .int (i : Int)] ∧ Go C a n H0 H F cm ∧ Srch n m0 (fndM F) cm ∧ i < F.length ∧
  ∀ v H2, Ex H H2 → (∃ p ws, v = .ref p ∧ H p = none ∧ H2 p = some (.lst (natsV ws)) ∧ Way cm ws i) → Q v H2
theorem natsV_app (xs ys : List Nat) : natsV (xs ++ ys) = natsV xs ++ natsV ys := List.map_append
theorem natsV_last (xs : List Nat) (j : Nat) : atI (natsV (xs ++ [j])) (-1) = some (.int (j : Int)) := by
  unfold atI
  rw [ixN_last (by unfold natsV; rw [List.length_map, List.length_append]; exact Nat.succ_pos _)]
  show (natsV (xs ++ [j]))[(natsV (xs ++ [j])).length - 1]? = _
  unfold natsV
  rw [List.length_map, List.length_append, List.length_singleton, Nat.add_sub_cancel, List.getElem?_map]
  simp
theorem sc_Going_way_to : FnScope ["self", "at", "found"] ["self", "at"] (defScope (inClass (top 60) 1)) := ⟨rfl, rfl, rfl, by decide +kernel, rfl, by decide +kernel, by decide +kernel⟩
theorem ok_Going_way_to {f : Addr} {fd : FuncData} (F : Fun K "way_to" "Going.way_to" (inClass (top 60) 1) f fd) {C : Addr} (T : GoT K mg C) : FnOk P w K mg base CX0 1 f fd ["self", "at"] (spWay C) := by
  refine F.ok sc_Going_way_to (fun vs H Q E h => (by obtain ⟨a, _, _, _, _, _, i, rfl, _⟩ := h; rfl)) (fun cdv A outer s H vs Q E hr h => ?_)
  obtain ⟨a, n, H0, F, cm, m0, i, rfl, g, S, hi, k⟩ := h
  refine ⟨_, (pss_cons (ps_set (i := 2) sc_Going_way_to.nd rfl (Or.inl rfl) (pe_lst (pa_cons (pv 1) pa_nil)))
      (pss_cons (ps_while PassesOwn.never (pt_cmpR op_notN1 (pe_ix (r := rIxL K) ix_list (pe_fldK (K := K) rfl (pv 0) rfl) (pe_ix (r := rIxL K) ix_list (pv 2) (pe_un un_neg pe_int) (fun _ _ => rfl)) (fun _ _ => rfl)) pe_non (nomark _)) (pss_one (ps_expr (pe_bm PySem.F.plainAttrs_list PySem.F.slot_list_append PySem.F.type_list_append mt_append (pv 2) (pa_cons (pe_ix (r := rIxT K) ix_tup (pe_ix (r := rIxL K) ix_list (pe_fldK (K := K) rfl (pv 0) rfl) (pe_ix (r := rIxL K) ix_list (pv 2) (pe_un un_neg pe_int) (fun _ _ => rfl)) (fun _ _ => rfl)) pe_int (fun _ _ => rfl)) pa_nil)))))
      (pss_one (ps_ret (pe_revL (pv 2)))))), ?_⟩
  have hlen := g.le
  have hcl : cm.length = F.length := by rw [S.len]; unfold fndM; rw [List.length_map]
  refine q_asgL (el_lst (ea_cons (ev_var rfl) ea_nil) (show 1 ≤ 100000 by decide)) fun l H1 hl e1 h1 => ?_
  refine q_while (fun m σ' H' => σ' = [some (.ref a.g), some (.int (i : Int)), some (.ref l)] ∧ Ex H H' ∧ ∃ pre, H' l = some (.lst (natsV (pre ++ [m]))) ∧ (∀ ws, Way cm ws m → Way cm (ws ++ pre.reverse) i) ∧ pre.length + m ≤ i) i
    ⟨rfl, e1, [], h1, fun ws h => by rw [List.reverse_nil, List.append_nil]; exact h, by rw [List.length_nil]; omega⟩ fun m σ' H' ⟨es, e2, pre, h2, hw, hm⟩ => ?_
  subst es
  have g2 := g.on e2
  obtain ⟨c, hc⟩ : ∃ c, cm[m]? = some c := ⟨cm[m]'(by omega), List.getElem?_eq_getElem _⟩
  have hlast : ∀ H3, Ex H' H3 → Ev (tOp (rIxL K) (tVar 2) (tUn (rU fun i => .int (-i)) (tC (.int 1)))) [some (.ref a.g), some (.int (i : Int)), some (.ref l)] H3 (.int (m : Int)) := fun H3 e3 =>
    ev_op (ev_var rfl) (ev_un ev_c ru_neg) (rv_ixL (SqL.of (e3 _ _ h2)) (natsV_last pre m))
  obtain ⟨v, hv, ev⟩ := g2.evC T (ta := tVar 0) (σ := [some (.ref a.g), some (.int (i : Int)), some (.ref l)]) (ev_var rfl) (hlast H' (Ex.refl _)) hc
  refine ⟨!decide (v = .non), et_test (ev_notN ev), fun hb H3 e3 => ?_, fun hb H3 e3 => ?_⟩
  · cases c with
    | none =>
      rw [show v = .non from hv] at hb
      exact nomatch hb
    | some c =>
      obtain ⟨p, rfl, hp⟩ := hv
      obtain ⟨rr, z, g1, _⟩ := S.step_at (a := c.1) (r := c.2) hc
      refine ⟨fun σ2 H4 => σ2 = [some (.ref a.g), some (.int (i : Int)), some (.ref l)] ∧ Ex H H4 ∧ ∃ pre, H4 l = some (.lst (natsV (pre ++ [c.1]))) ∧ (∀ ws, Way cm ws c.1 → Way cm (ws ++ pre.reverse) i) ∧ pre.length + c.1 ≤ i, fun σ2 H4 h => ⟨c.1, g1, h⟩, ?_⟩
      refine s_app (e3 _ _ h2) (ev_var rfl) (ev_op (ev.mono e3) ev_c (rv_ixT (.inl (.inl (e3 _ _ hp))) rfl)) ?_ fun H4 e4 => ?_
      · unfold natsV
        rw [List.length_map, List.length_append, List.length_singleton]
        omega
      · refine ⟨rfl, Ex.mut ((e2.trans e3).trans e4) hl, pre ++ [m], ?_, fun ws hws => ?_, ?_⟩
        · rw [upd_same, natsV_app (pre ++ [m]) [c.1]]
          rfl
        · rw [List.reverse_append, List.reverse_singleton, ← List.append_assoc]
          exact hw _ (.step hws hc)
        · rw [List.length_append, List.length_singleton]
          omega
  · cases c with
    | some c =>
      obtain ⟨p, rfl, hp⟩ := hv
      exact nomatch hb
    | none =>
      refine ⟨_, rfl, l, _, rfl, SqL.of (e3 _ _ h2), fun q hq => k _ _ ((e2.trans e3).trans (Ex.new hq)) ⟨q, [m] ++ pre.reverse, rfl, fresh_back (e2.trans e3) hq, ?_, hw _ (.root hc)⟩⟩
      rw [upd_same]
      congr 2
      unfold natsV
      rw [← List.map_reverse, List.reverse_append]
      rfl
def intD (i : Nat) : PyData := .int (i : Int)
theorem ims_nats {H : Hp} (l : List Nat) : Ims H (natsV l) (l.map intD) := by
  induction l with
  | nil => exact ims_nil
  | cons i l ih => exact ims_cons (im_int _) ih
theorem Ims.nats {H : Hp} : ∀ {vs : List V} {l : List Nat}, Ims H vs (l.map intD) → vs = natsV l
  | vs, [], h => h.nil_iff
  | vs, i :: l, h => by
    obtain ⟨v, us, rfl, k1, k2⟩ := Ims.cons_iff h
    rw [Im.int_iff k1, Ims.nats k2]
    rfl
theorem en_ofL {σ : L2.St} {H : Hp} {te : TE} {l : List Nat} (h : EvL te σ H (natsV l)) : EvN te σ H (l.map intD) := fun H1 e Q q => h H1 e _ fun p H2 hp e2 h2 => q p _ H2 hp e2 h2 (ims_nats l)
def spRulOn (C : Addr) : Sp := fun vs H Q _ => ∃ (a : GA) (n : Net) (H0 : Hp) (F : Fnd) (cm : Cms) (wl : Addr) (ws : List Nat), vs = [.ref a.g, .ref wl] ∧ Go C a n H0 H F cm ∧ H wl = some (.lst (natsV ws)) ∧ ws.length ≤ 300 ∧ (∀ k, 0 < k → ∀ j, ws[k]? = some j → ∃ a r, cm[j]? = some (some (a, r))) ∧
  ∀ v H2, Ex H H2 → (∃ p, v = .ref p ∧ H p = none ∧ H2 p = some (.lst (natsV ((ws.drop 1).map (rul cm))))) → Q v H2
theorem sc_Going_rules_on : FnScope ["self", "way", "at"] ["self", "way"] (defScope (inClass (top 60) 2)) := ⟨rfl, rfl, rfl, by decide +kernel, rfl, by decide +kernel, by decide +kernel⟩
theorem ok_Going_rules_on {f : Addr} {fd : FuncData} (F : Fun K "rules_on" "Going.rules_on" (inClass (top 60) 2) f fd) {C : Addr} (T : GoT K mg C) : FnOk P w K mg base CX0 1 f fd ["self", "way"] (spRulOn C) := by
  refine F.ok sc_Going_rules_on (fun vs H Q E h => (by obtain ⟨a, _, _, _, _, wl, i, rfl, _⟩ := h; rfl)) (fun cdv A outer s H vs Q E hr h => ?_)
  obtain ⟨a, n, H0, F, cm, wl, ws, rfl, g, hw, hl, hc, k⟩ := h
  refine ⟨_, (pss_one (ps_ret (pe_lc (own := [("at", 2)]) rfl sc_Going_rules_on.nd (pi_listK (K := K) rfl (pe_slice (r := rSlL K) sl_list (pv 1) (po_some pe_int) po_none)) (blkOk_by (own := [("at", 2)]) (N := ["self", "way", "at"]) (sc := defScope (inClass (top 60) 2)) (by decide +kernel)) (fun _ _ _ _ _ => (pg_name (i := 2) sc_Going_rules_on.nd rfl (Or.inl rfl) (by first | exact Or.inl rfl | exact Or.inr rfl))) (fun _ _ _ _ _ => pts_nil) (fun _ _ _ _ _ => (pe_ix (r := rIxT K) ix_tup (pe_ix (r := rIxL K) ix_list (pe_fldK (K := K) rfl (pv 0) rfl) (pv 2) (fun _ _ => rfl)) pe_int (fun _ _ => rfl)))))), ?_⟩
  have hl2 : (ws.drop 1).length ≤ 300 := by rw [List.length_drop]; omega
  refine sn_ret (ds := (ws.drop 1).map fun j => intD (rul cm j)) (en_map (enc := intD) (id_list (EvN.s (en_ofL ?_))) (by omega) (fun j => intD (rul cm j)) fun j hj x H1 e mx Kt q => g_name (q _ rfl ?_)) fun p xs H1 hp e h1 k1 => ?_
  · have := el_sl (K := K) (te := tVar 1) (σ := L2.start ["self", "way", "at"] [.ref a.g, .ref wl]) (H := H) (ev_var rfl) (eo_some (i := 1) ev_c) eo_none (sq_of hw)
    rw [show cutV (natsV ws) (some 1) none = natsV (ws.drop 1) from (cut_drop (i := 1)).trans (by unfold natsV; rw [List.map_drop])] at this
    exact this
  · obtain ⟨i, hi⟩ := List.mem_iff_getElem?.mp hj
    rw [List.getElem?_drop] at hi
    obtain ⟨a1, r, hcm⟩ := hc (1 + i) (by omega) j hi
    rw [mx.int_iff]
    obtain ⟨v, hv, ev⟩ := (g.on e).evC T (ta := tVar 0) (ti := tVar 2) (σ := [some (.ref a.g), some (.ref wl), some (.int (j : Int))]) (ev_var rfl) (ev_var rfl) hcm
    obtain ⟨p, rfl, hp⟩ := hv
    refine ed_int (ev_op ev ev_c (rv_ixT (.inl (.inl hp)) ?_))
    rw [rul_eq hcm]
    rfl
  · refine k _ H1 e ⟨p, rfl, hp, ?_⟩
    have ex : xs = natsV ((ws.drop 1).map (rul cm)) := Ims.nats (H := H1) (by rw [List.map_map]; exact k1)
    rw [h1, ex]
def GrowsAt (B H : Hp) (v : V) (stem lap : List Nat) : Prop := ∃ p q r, v = .ref p ∧ B q = none ∧ B r = none ∧ H p = some (.tup [.str "grows", .ref q, .ref r]) ∧ H q = some (.lst (natsV stem)) ∧ H r = some (.lst (natsV lap))
def spGrown (C : Addr) : Sp := fun vs H Q _ => ∃ (a : GA) (n : Net) (H0 : Hp) (F : Fnd) (cm : Cms) (m0 : List Int) (i : Nat), vs = [.ref a.g, .int (i : Int)] ∧ Go C a n H0 H F cm ∧ Srch n m0 (fndM F) cm ∧ i < F.length ∧
  (∀ H2, Ex H H2 → Q .non H2) ∧ ∀ v H2 stem lap, Ex H H2 → GrowsAt H0 H2 v stem lap → Grows n m0 stem lap → Q v H2
theorem fnd_at {F : Fnd} {i : Nat} (h : i < F.length) : ∃ b, F[i]? = some b ∧ (fndM F)[i]? = some b.2 := ⟨F[i], List.getElem?_eq_getElem h, by unfold fndM; rw [List.getElem?_map, List.getElem?_eq_getElem h]; rfl⟩
theorem fndM_len (F : Fnd) : (fndM F).length = F.length := List.length_map _
theorem sc_Going_grown : FnScope ["self", "at", "way", "spot", "ahead"] ["self", "at"] (defScope (inClass (top 60) 3)) := ⟨rfl, rfl, rfl, by decide +kernel, rfl, by decide +kernel, by decide +kernel⟩
theorem ok_Going_grown {f : Addr} {fd : FuncData} (F : Fun K "grown" "Going.grown" (inClass (top 60) 3) f fd) {C : Addr} (T : GoT K mg C) (D_is_within : Df P w K mg base "is_within" 1 ["one", "other"] spWithin) (M_rules_on : MeF P w K mg base CX0 C "rules_on" 1 ["self", "way"] (spRulOn C)) (M_way_to : MeF P w K mg base CX0 C "way_to" 1 ["self", "at"] (spWay C)) (B : Blt mg) : FnOk P w K mg base CX0 2 f fd ["self", "at"] (spGrown C) := by
  obtain ⟨f_rules_on, fd_rules_on, m_rules_on, G_rules_on, b_rules_on⟩ := M_rules_on.at_
  obtain ⟨f_way_to, fd_way_to, m_way_to, G_way_to, b_way_to⟩ := M_way_to.at_
  refine F.ok sc_Going_grown (fun vs H Q E h => (by obtain ⟨a, _, _, _, _, _, i, rfl, _⟩ := h; rfl)) (fun cdv A outer s H vs Q E hr h => ?_)
  obtain ⟨a, n, H0, F, cm, m0, i, rfl, g, S, hi, k1, k2⟩ := h
  refine ⟨_, (pss_cons (ps_set (i := 2) sc_Going_grown.nd rfl (Or.inl rfl) (pe_meth (pv 0) T.cl m_way_to G_way_to (hr.mono (by decide)) b_way_to .nil pass0 (pa_cons (pv 1) pa_nil)))
      (pss_cons (ps_for PassesOwn.never rfl (pi_enum (by rfl) B.enumerate (pa_cons (pe_slice (r := rSlL K) sl_list (pv 2) po_none (po_some (pe_un un_neg pe_int))) pa_nil)) (pg_tupK (K := K) (n := 2) rfl rfl (pgs_cons (pg_name (i := 3) sc_Going_grown.nd rfl (Or.inl rfl) (by first | exact Or.inl rfl | exact Or.inr rfl)) (pgs_cons (pg_name (i := 4) sc_Going_grown.nd rfl (Or.inl rfl) (by first | exact Or.inl rfl | exact Or.inr rfl)) pgs_nil))) (pss_one (ps_if (pt_val (pe_df D_is_within (hr.mono (by decide)) (by rfl) (pa_cons (pe_ix (r := rIxL K) ix_list (pe_fldK (K := K) rfl (pv 0) rfl) (pv 4) (fun _ _ => rfl)) (pa_cons (pe_ix (r := rIxL K) ix_list (pe_fldK (K := K) rfl (pv 0) rfl) (pv 1) (fun _ _ => rfl)) pa_nil)))) (pss_one (ps_ret (pe_tup (pa_cons pe_str (pa_cons (pe_meth (pv 0) T.cl m_rules_on G_rules_on (hr.mono (by decide)) b_rules_on .nil pass0 (pa_cons (pe_slice (r := rSlL K) sl_list (pv 2) po_none (po_some (pe_op op_add (pv 3) pe_int))) pa_nil)) (pa_cons (pe_meth (pv 0) T.cl m_rules_on G_rules_on (hr.mono (by decide)) b_rules_on .nil pass0 (pa_cons (pe_slice (r := rSlL K) sl_list (pv 2) (po_some (pv 3)) po_none) pa_nil)) pa_nil)))))) pss_nil)))
      (pss_one (ps_ret pe_non)))), ?_⟩
  have hlen := g.le
  refine q_asgP (Φ := fun v H2 => ∃ p ws, v = .ref p ∧ H p = none ∧ H2 p = some (.lst (natsV ws)) ∧ Way cm ws i) (fun H1 e1 Q q => ⟨.ref a.g, rfl, a.g, a.dx, a.fs, rfl, (g.on e1).ob, g.m1, .int (i : Int), rfl, a, n, H0, F, cm, m0, i, rfl, g.on e1, S, hi, fun v H2 e2 ⟨p, ws, h1, h2, h3, h4⟩ => q v H2 e2 ⟨p, ws, h1, fresh_back e1 h2, h3, h4⟩⟩) fun v H1 e1 hv => ?_
  obtain ⟨l, ws, rfl, hl, h1, W⟩ := hv
  have hws : ∀ j ∈ ws, j < F.length := fun j hj => by
    have := W.lt S hj
    rwa [fndM_len] at this
  have hwl : ws.length ≤ 300 := by
    have hinc : ∀ (cm : Cms) (l : List Nat) (j : Nat), Srch n m0 (fndM F) cm → Way cm l j → l.length ≤ j + 1 := by
      intro cm l j S h
      induction h with
      | root h => simp
      | @step ws a i r h h1 ih =>
        obtain ⟨rr, z, h2, _⟩ := S.step_at h1
        rw [List.length_append, List.length_singleton]
        omega
    have := hinc cm ws i S W
    omega
  have hwne := W.ne
  refine q_forD (zs := (ws.take (ws.length - 1)).zipIdx) (enc := fun p : Nat × Nat => PyData.tuple [.int (p.2 : Int), intD p.1]) (id_enumz (zs := ws.take (ws.length - 1)) (enc := intD) (EvN.s (en_ofL ?_))) (fun H2 _ σ' H' => Ex H2 H' ∧ ∃ u v, σ' = [some (.ref a.g), some (.int (i : Int)), some (.ref l), u, v])
    (fun H2 e2 => ⟨Ex.refl _, _, _, rfl⟩) (fun H2 e2 j σ' H' _ h => h.1) (fun H2 e2 j p σ' H' x H3 hp h e3 mx => ?_) fun H2 e2 σ' H' h => ?_
  · have := el_sl (K := K) (te := tVar 2) (tl := tNoPart) (th := tPart (tUn (rU fun i => .int (-i)) (tC (.int 1)))) (σ := [some (.ref a.g), some (.int (i : Int)), some (.ref l), none, none]) (H := H1) (ev_var rfl) eo_none (eo_some (i := -1) (ev_un ev_c ru_neg)) (sq_of h1)
    rw [show cutV (natsV ws) none (some (-1)) = natsV (ws.take (ws.length - 1)) from cut_init.trans (by unfold natsV; rw [List.map_take, List.length_map])] at this
    exact this
  · obtain ⟨x3, u, v, rfl⟩ := h
    refine g_pair mx fun y z my mz => ?_
    have hz := zip_at (List.mem_of_getElem? hp)
    obtain ⟨hz1, _⟩ := List.getElem?_eq_some_iff.mp hz
    rw [List.length_take] at hz1
    have hwp : ws[p.2]? = some p.1 := by
      rw [List.getElem?_take, if_pos (by omega)] at hz
      exact hz
    rw [my.int_iff, show z = .int (p.1 : Int) from mz.int_iff]
    have hpl := hws p.1 (List.mem_of_getElem? hwp)
    obtain ⟨b1, hb1, hm1⟩ := fnd_at hpl
    obtain ⟨b2, hb2, hm2⟩ := fnd_at hi
    have e13 : Ex H1 H3 := (e2.trans x3).trans e3
    have g3 := g.on (e1.trans e13)
    have lb1 : b1.2.length = n.pl.length := (S.ok b1.2 (List.mem_of_getElem? hm1)).len
    have lb2 : b2.2.length = n.pl.length := (S.ok b2.2 (List.mem_of_getElem? hm2)).len
    have lpl := g.nok.pl.hi
    refine s_when (b := leL b1.2 b2.2) (et_test (ev_call (vs := [.ref b1.1, .ref b2.1]) (ea_cons (g3.evF T (ev_var rfl) (ev_var rfl) hb1) (ea_cons (g3.evF T (ev_var rfl) (ev_var rfl) hb2) ea_nil)) fun H4 e4 Q q E => ⟨.ref b1.1, .ref b2.1, b1.2, b2.2, rfl, (g3.on e4).mkAt (List.mem_of_getElem? hb1), (g3.on e4).mkAt (List.mem_of_getElem? hb2), lb1.trans lb2.symm, by omega, q⟩)) (fun hle H4 e4 => ?_) fun _ H4 e4 => ⟨(x3.trans e3).trans e4, _, _, rfl⟩
    have g4 := g3.on e4
    have e14 := e13.trans e4
    have sl1 := el_sl (K := K) (te := tVar 2) (tl := tNoPart) (th := tPart (tOp (rI0 fun i j => .int (i + j)) (tVar 3) (tC (.int 1)))) (σ := [some (.ref a.g), some (.int (i : Int)), some (.ref l), some (.int (p.2 : Int)), some (.int (p.1 : Int))]) (H := H4) (ev_var rfl) eo_none (eo_some (i := ((p.2 + 1 : Nat) : Int)) (ev_op (ev_var rfl) ev_c (rv_I0 (i := (p.2 : Int)) (j := 1)))) (sq_of (e14 _ _ h1))
    rw [show cutV (natsV ws) none (some ((p.2 + 1 : Nat) : Int)) = natsV (ws.take (p.2 + 1)) from cut_take.trans (by unfold natsV; rw [List.map_take])] at sl1
    refine ⟨_, rfl, a.g, a.dx, a.fs, rfl, g4.ob, g4.m2, sl1 H4 (Ex.refl _) _ fun q1 H5 hq1 e5 h5 => ?_⟩
    have g5 := g4.on e5
    have e15 := e14.trans e5
    have Wt := W.take p.2 p.1 hwp
    refine ⟨a, n, H0, F, cm, q1, ws.take (p.2 + 1), rfl, g5, h5, by rw [List.length_take]; omega, fun k hk j hj => Wt.tail_some k hk j hj, fun v1 H6 e6 hv1 => ?_⟩
    obtain ⟨r1, rfl, hr1, h6⟩ := hv1
    have g6 := g5.on e6
    have e16 := e15.trans e6
    have sl2 := el_sl (K := K) (te := tVar 2) (tl := tPart (tVar 3)) (th := tNoPart) (σ := [some (.ref a.g), some (.int (i : Int)), some (.ref l), some (.int (p.2 : Int)), some (.int (p.1 : Int))]) (H := H6) (ev_var rfl) (eo_some (i := (p.2 : Int)) (ev_var rfl)) eo_none (sq_of (e16 _ _ h1))
    rw [show cutV (natsV ws) (some (p.2 : Int)) none = natsV (ws.drop p.2) from cut_drop.trans (by unfold natsV; rw [List.map_drop])] at sl2
    refine ⟨_, rfl, a.g, a.dx, a.fs, rfl, g6.ob, g6.m2, sl2 H6 (Ex.refl _) _ fun q2 H7 hq2 e7 h7 => ?_⟩
    have g7 := g6.on e7
    refine ⟨a, n, H0, F, cm, q2, ws.drop p.2, rfl, g7, h7, by rw [List.length_drop]; omega, fun k hk j hj => W.tail_some (p.2 + k) (by omega) j (by rw [List.getElem?_drop] at hj; exact hj), fun v2 H8 e8 hv2 => ?_⟩
    obtain ⟨r2, rfl, hr2, h8⟩ := hv2
    refine ⟨sz_of (show 3 ≤ 100000 by decide), fun t ht => ?_⟩
    have e9 := Ex.new (o := .tup [V.str "grows", V.ref r1, V.ref r2]) ht
    refine k2 _ _ (((ws.take (p.2 + 1)).drop 1).map (rul cm)) (((ws.drop p.2).drop 1).map (rul cm)) (((e1.trans e16).trans (e7.trans e8)).trans e9) ⟨t, r1, r2, rfl, fresh_back g5.ex hr1, fresh_back g7.ex hr2, upd_same, e9 _ _ (e8 _ _ (e7 _ _ h6)), e9 _ _ h8⟩ ?_
    obtain ⟨y1, hy1, L1⟩ := Wt.led S 0 0 m0 (Wt.head S) S.z
    rw [hm1] at hy1
    cases hy1
    obtain ⟨y2, hy2, L2⟩ := W.led S p.2 p.1 b1.2 hwp hm1
    rw [hm2] at hy2
    cases hy2
    refine ⟨b1.2, b2.2, L1, ?_, by rw [List.drop_drop]; exact L2, hle, fun e => ?_⟩
    · intro e
      have := congrArg List.length e
      rw [List.length_map, List.length_drop, List.length_drop, List.length_nil] at this
      omega
    · have hlt := (W.le S p.2 p.1 hwp).2 (by omega)
      have h3 : (fndM F)[p.1]? = (fndM F)[i]? := by rw [hm1, hm2, e]
      have := (List.getElem?_inj (by rw [fndM_len]; exact hpl) S.nd).mp h3
      omega
  · obtain ⟨x3, u, v, rfl⟩ := h
    exact s_ret ev_c fun H3 e3 => k1 H3 ((e1.trans e2).trans (x3.trans e3))
end
end Mt

set_option maxHeartbeats 4000000
/-! the search's methods, second half -/
namespace Mt
open PySem L2 Evl
def goFs (nv : V) (lf lk lc : Addr) : List (Str × V) := putF "came" (.ref lc) (putF "known" (.ref lk) (putF "found" (.ref lf) (putF "at_most" (.int 250) (putF "of_net" nv []))))
theorem goFs_get (nv : V) (lf lk lc : Addr) (x : Str) : (goFs nv lf lk lc).lookup x = if x = "came" then some (.ref lc) else if x = "known" then some (.ref lk) else if x = "found" then some (.ref lf) else if x = "at_most" then some (.int 250) else if x = "of_net" then some nv else none := by
  unfold goFs
  rw [lookup_putF, lookup_putF, lookup_putF, lookup_putF, lookup_putF]
  rfl
section
variable {P : Program} {w : World} {K : PySem.W.Frag} {mg : Str → Option Value} {base : Heap}
def spGInit (C : Addr) : Sp := fun vs H Q _ => ∃ (g dx : Addr) (nv : V) (b : Addr) (n : Net) (m : List Int) (H0 : Hp), vs = [.ref g, nv, .ref b, .int 250] ∧ H g = some (.ins C dx []) ∧ Ex H0 H ∧ H0 g = none ∧ H0 b = some (.tup (m.map V.int)) ∧ NetAt n H0 nv ∧ NetOk n ∧ MOk n m ∧
  ∀ H' a, a.g = g → Go C a n H0 H' [(b, m)] [none] → Q .non H'
theorem sc_Going___init__ : FnScope ["self", "net", "marking", "most"] ["self", "net", "marking", "most"] (defScope (inClass (top 60) 0)) := ⟨rfl, rfl, rfl, by decide +kernel, rfl, by decide +kernel, by decide +kernel⟩
theorem ok_Going___init__ {f : Addr} {fd : FuncData} (F : Fun K "__init__" "Going.__init__" (inClass (top 60) 0) f fd) {C : Addr} (T : GoT K mg C) : FnOk P w K mg base CX0 1 f fd ["self", "net", "marking", "most"] (spGInit C) := by
  refine F.ok sc_Going___init__ (fun vs H Q E h => (by obtain ⟨a, _, _, _, _, _, i, rfl, _⟩ := h; rfl)) (fun cdv A outer s H vs Q E hr h => ?_)
  obtain ⟨g, dx, nv, b, n, m, H0, rfl, hg, e0, g0, hb, hn, ok, mo, k⟩ := h
  refine ⟨_, (pss_cons (ps_fld (pv 0) (pv 1) rfl)
      (pss_cons (ps_fld (pv 0) (pv 3) rfl)
      (pss_cons (ps_fld (pv 0) (pe_lst (pa_cons (pv 2) pa_nil)) rfl)
      (pss_cons (ps_fld (pv 0) (pe_dispT (hu_of hr) (pv 2) pe_bl) rfl)
      (pss_one (ps_fld (pv 0) (pe_lst (pa_cons pe_non pa_nil)) rfl)))))), ?_⟩
  have l1 := putF_len "of_net" nv []
  have l2 := putF_len "at_most" (.int 250) (putF "of_net" nv [])
  rw [List.length_nil] at l1
  refine ⟨nv, rfl, ⟨.ref g, rfl, g, C, dx, _, rfl, hg, T.cl, T.n1, by decide, ?_⟩⟩
  have e1 := Ex.mut (o := .ins C dx (putF "of_net" nv [])) e0 g0
  refine ⟨.int 250, rfl, ⟨.ref g, rfl, g, C, dx, _, rfl, upd_same, T.cl, T.n2, by omega, ?_⟩⟩
  have e2 := Ex.mut (o := .ins C dx (putF "at_most" (.int 250) (putF "of_net" nv []))) e1 g0
  refine ⟨.ref b, rfl, sz_of (show 1 ≤ 100000 by decide), fun lf hlf => ?_⟩
  have f2 := fresh_back e2 hlf
  have glf : g ≠ lf := ne_of_none upd_same hlf
  have e3 := Ex.mut (o := .lst [.ref b]) e2 f2
  have l3 := putF_len "found" (.ref lf) (putF "at_most" (.int 250) (putF "of_net" nv []))
  refine ⟨.ref g, rfl, g, C, dx, _, rfl, (upd_ne glf).trans upd_same, T.cl, T.n3, by omega, ?_⟩
  have e4 := Ex.mut (o := .ins C dx (putF "found" (.ref lf) (putF "at_most" (.int 250) (putF "of_net" nv [])))) e3 g0
  intro lk hlk
  have f3 := fresh_back e4 hlk
  have glk : g ≠ lk := ne_of_none upd_same hlk
  have lflk : lf ≠ lk := ne_of_none ((upd_ne glf.symm).trans upd_same) hlk
  have e5 := Ex.mut (o := .dT []) e4 f3
  refine ⟨.ref b, rfl, upd_same, m.map Sum.inl, b, .bl true, rfl, ?_, ?_⟩
  · rw [List.map_map]
    exact e5 _ _ hb
  have e6 := Ex.mut (o := .dT [(m.map (Sum.inl : Int → Key), .bl true)]) e5 f3
  have l4 := putF_len "known" (.ref lk) (putF "found" (.ref lf) (putF "at_most" (.int 250) (putF "of_net" nv [])))
  refine ⟨.ref g, rfl, g, C, dx, _, rfl, (upd_ne glk).trans ((upd_ne glk).trans upd_same), T.cl, T.n4, by omega, ?_⟩
  have e7 := Ex.mut (o := .ins C dx (putF "known" (.ref lk) (putF "found" (.ref lf) (putF "at_most" (.int 250) (putF "of_net" nv []))))) e6 g0
  refine ⟨sz_of (show 1 ≤ 100000 by decide), fun lc hlc => ?_⟩
  have f4 := fresh_back e7 hlc
  have glc : g ≠ lc := ne_of_none upd_same hlc
  have lklc : lk ≠ lc := ne_of_none ((upd_ne glk.symm).trans upd_same) hlc
  have lflc : lf ≠ lc := ne_of_none ((upd_ne glf.symm).trans ((upd_ne lflk).trans ((upd_ne lflk).trans ((upd_ne glf.symm).trans upd_same)))) hlc
  have e8 := Ex.mut (o := .lst [.non]) e7 f4
  refine ⟨.ref g, rfl, g, C, dx, _, rfl, (upd_ne glc).trans upd_same, T.cl, T.n5, by omega, ?_⟩
  have e9 := Ex.mut (o := .ins C dx (goFs nv lf lk lc)) e8 g0
  refine k _ ⟨g, lf, lk, lc, dx, nv, goFs nv lf lk lc⟩ rfl ⟨e9, g0, f2, f3, f4, upd_same, ?_, ?_, ?_, ?_, ?_, ?_, ?_, ?_, ?_, ?_, hn, ok, ?_, ?_, ?_, ⟨[.non], ?_, .cons rfl .nil⟩, lflc, show 1 ≤ 250 by decide⟩
  all_goals first
    | (rw [goFs_get]; repeat (first | rw [if_pos rfl] | rw [if_neg (by decide +kernel)]))
    | skip
  · exact (upd_ne glf.symm).trans ((upd_ne lflc).trans ((upd_ne glf.symm).trans ((upd_ne lflk).trans ((upd_ne lflk).trans ((upd_ne glf.symm).trans upd_same)))))
  · intro c hc
    rw [List.mem_singleton.mp hc]
    exact e9 _ _ hb
  · exact (upd_ne glk.symm).trans ((upd_ne lklc).trans ((upd_ne glk.symm).trans upd_same))
  · exact (upd_ne glc.symm).trans upd_same
def spTMI (K : PySem.W.Frag) (CT : Addr) : Sp := fun vs H Q _ => ∃ (x : Addr) (v : V), vs = [.ref x, v] ∧ OfoC K CT ∧ H x = some (exo x CT none) ∧ ∀ d, H d = none → d ≠ x → Q .non (upd (upd H d (exd d [(("many" : Str), v)])) x (exo x CT (some d)))
theorem sc_TooMany___init__ : FnScope ["self", "many"] ["self", "many"] (defScope (inClass (top 7) 0)) := ⟨rfl, rfl, rfl, by decide +kernel, rfl, by decide +kernel, by decide +kernel⟩
theorem ok_TooMany___init__ {f : Addr} {fd : FuncData} (F : Fun K "__init__" "TooMany.__init__" (inClass (top 7) 0) f fd) {CT : Addr} (B_OverflowError : mg "OverflowError" = none) (vV : PySem.W.findCls K (.type "OverflowError") (.type "type") "__init__" = some (.val (.builtin "OverflowError.__init__"))) (noM : PySem.W.findIn K (.ref CT) "many" = some none) : FnOk P w K mg base CX0 1 f fd ["self", "many"] (spTMI K CT) := by
  refine F.ok sc_TooMany___init__ (fun vs H Q E h => (by obtain ⟨x, v, rfl, _⟩ := h; rfl)) (fun cdv A outer s H vs Q E hr h => ?_)
  obtain ⟨x, v, rfl, T, hx, k⟩ := h
  refine ⟨_, (pss_cons (ps_expr (pe_oeinit (by rfl) B_OverflowError vV (pa_cons (pv 0) (pa_cons pe_str pa_nil)))) (pss_one (ps_os1 (pv 0) (pv 1)))), ?_⟩
  refine ⟨.ref x, rfl, x, CT, _, rfl, show 1 ≤ 1000 by decide, T, hx, ?_⟩
  exact ⟨v, rfl, .ref x, rfl, x, CT, rfl, T, noM, hx, fun d hd hne => k d hd hne⟩
structure TmF (P : Program) (w : World) (K : PySem.W.Frag) (mg : Str → Option Value) (base : Heap) (CT : Addr) : Prop where
  T : OfoC K CT
  mgC : mg "TooMany" = some (.ref CT)
  at_ : ∃ fI fd, PySem.W.findIn K (.ref CT) "__init__" = some (some (.ref fI)) ∧ PySem.W.typeIn K (.ref fI) = some (.type "function") ∧ FnOk P w K mg base CX0 1 fI fd ["self", "many"] (spTMI K CT) ∧ Binds K fd ["self", "many"] []
def KeepBut (a : GA) (H H2 : Hp) : Prop := ∀ q o, q ≠ a.lf → q ≠ a.lk → q ≠ a.lc → H q = some o → H2 q = some o
theorem KeepBut.ex {a : GA} {H H1 H2 : Hp} (k : KeepBut a H H1) (e : Ex H1 H2) : KeepBut a H H2 := fun q o h1 h2 h3 h => e _ _ (k q o h1 h2 h3 h)
theorem KeepBut.of {a : GA} {H H1 : Hp} (e : Ex H H1) : KeepBut a H H1 := fun q o _ _ _ h => e _ _ h
theorem KeepBut.trans {a : GA} {H H1 H2 : Hp} (k : KeepBut a H H1) (e : KeepBut a H1 H2) : KeepBut a H H2 := fun q o h1 h2 h3 h => e q o h1 h2 h3 (k q o h1 h2 h3 h)
theorem inl_inj {x y : List Int} (h : x.map (Sum.inl : Int → Key) = y.map Sum.inl) : x = y := List.map_inj_right (fun _ _ e => Sum.inl.inj e) |>.mp h
theorem fndK_some (F : Fnd) (m : List Int) : (valV (fndK F) (m.map Sum.inl)).isSome = decide (m ∈ fndM F) := by
  rw [← valV_any, Bool.eq_iff_iff, List.any_eq_true, decide_eq_true_eq]
  unfold fndK fndM
  constructor
  · rintro ⟨p, hp, e⟩
    obtain ⟨b, hb, rfl⟩ := List.mem_map.mp hp
    exact List.mem_map.mpr ⟨b, hb, inl_inj (of_decide_eq_true e)⟩
  · intro h
    obtain ⟨b, hb, e⟩ := List.mem_map.mp h
    exact ⟨_, List.mem_map.mpr ⟨b, hb, rfl⟩, decide_eq_true (by rw [e])⟩
theorem fndK_put (F : Fnd) (q : Addr) (m : List Int) (h : m ∉ fndM F) : putK (fndK F) (m.map Sum.inl) (.bl true) = fndK (F ++ [(q, m)]) := by
  unfold putK
  rw [if_neg]
  · unfold fndK
    rw [List.map_append]
    rfl
  · rw [valV_any, fndK_some, decide_eq_false h]
    exact Bool.false_ne_true
def spCome (C CT : Addr) : Sp := fun vs H Q E => ∃ (a : GA) (n : Net) (H0 : Hp) (F : Fnd) (cm : Cms) (m0 : List Int) (i r : Nat) (b : Addr × List Int) (rr : Rule), vs = [.ref a.g, .int (i : Int), .int (r : Int)] ∧ Go C a n H0 H F cm ∧ Srch n m0 (fndM F) cm ∧ F[i]? = some b ∧ r ∈ canL n b.2 ∧ n.rules[r]? = some rr ∧
  (∀ H2, Ex H H2 → behL n.pl b.2 rr ∈ fndM F → Q .non H2) ∧
  (∀ H2 q, KeepBut a H H2 → Go C a n H0 H2 (F ++ [(q, behL n.pl b.2 rr)]) (cm ++ [some (i, r)]) → Srch n m0 (fndM (F ++ [(q, behL n.pl b.2 rr)])) (cm ++ [some (i, r)]) → Q .non H2) ∧
  (∀ v H2 stem lap, Ex H0 H2 → GrowsAt H0 H2 v stem lap → Grows n m0 stem lap → Q v H2) ∧
  (∀ d H2, Ex H0 H2 → F.length = 250 → behL n.pl b.2 rr ∉ fndM F → E (.ref CT) d H2)
theorem sc_Going_come : FnScope ["self", "at", "rule", "later"] ["self", "at", "rule"] (defScope (inClass (top 60) 4)) := ⟨rfl, rfl, rfl, by decide +kernel, rfl, by decide +kernel, by decide +kernel⟩
theorem ok_Going_come {f : Addr} {fd : FuncData} (F : Fun K "come" "Going.come" (inClass (top 60) 4) f fd) {C CT : Addr} (T : GoT K mg C) (TM : TmF P w K mg base CT) (D_behind_by : Df P w K mg base "behind_by" 1 ["net", "marking", "rule"] spBehBy) (M_grown : MeF P w K mg base CX0 C "grown" 2 ["self", "at"] (spGrown C)) (B : Blt mg) : FnOk P w K mg base (L2.CX P w) 3 f fd ["self", "at", "rule"] (spCome C CT) := by
  obtain ⟨f_grown, fd_grown, m_grown, G_grown, b_grown⟩ := M_grown.at_
  refine F.okX sc_Going_come (fun vs H Q E h => (by obtain ⟨a, _, _, _, _, _, i, r, b, rr, rfl, _⟩ := h; rfl)) (fun cdv A outer s H vs Q E hr h => ?_)
  obtain ⟨a, n, H0, F, cm, m0, i, r, b, rr, rfl, g, S, hb, hr1, hrr, k1, k2, k3, k4⟩ := h
  obtain ⟨fI, fdI, iC, tI, FI, bI⟩ := TM.at_
  refine ⟨_, (pss_cons (ps_set (i := 3) sc_Going_come.nd rfl (Or.inl rfl) (pe_df D_behind_by (hr.mono (by decide)) (by rfl) (pa_cons (pe_fldK (K := K) rfl (pv 0) rfl) (pa_cons (pe_ix (r := rIxL K) ix_list (pe_fldK (K := K) rfl (pv 0) rfl) (pv 1) (fun _ _ => rfl)) (pa_cons (pv 2) pa_nil)))))
      (pss_cons (ps_if (pt_cmp (pc_din (hu_of hr) (pv 3) (pe_fldK (K := K) rfl (pv 0) rfl))) (pss_one (ps_ret pe_non)) pss_nil)
      (pss_cons (ps_if (pt_cmpR op_eq (pe_callB (r := Evl.rLenS K) (CallR_len _) (by rfl) B.len bt_len (pa_cons (pe_fldK (K := K) rfl (pv 0) rfl) pa_nil)) (pe_fldK (K := K) rfl (pv 0) rfl) (nomark _)) (pss_one (ps_raise rfl (takes_of rfl rfl rfl rfl) (pmk_ofo TM.T iC tI FI (hr.mono (by decide)) bI .nil pass0 (by rfl) TM.mgC (pa_cons (pe_op op_add (pe_fldK (K := K) rfl (pv 0) rfl) pe_int) pa_nil)))) pss_nil)
      (pss_cons (ps_dput (hu_of hr) (pe_fldK (K := K) rfl (pv 0) rfl) (pv 3) pe_bl rfl)
      (pss_cons (ps_expr (pe_bm PySem.F.plainAttrs_list PySem.F.slot_list_append PySem.F.type_list_append mt_append (pe_fldK (K := K) rfl (pv 0) rfl) (pa_cons (pv 3) pa_nil)))
      (pss_cons (ps_expr (pe_bm PySem.F.plainAttrs_list PySem.F.slot_list_append PySem.F.type_list_append mt_append (pe_fldK (K := K) rfl (pv 0) rfl) (pa_cons (pe_tup (pa_cons (pv 1) (pa_cons (pv 2) pa_nil))) pa_nil)))
      (pss_one (ps_ret (pe_meth (pv 0) T.cl m_grown G_grown (hr.mono (by decide)) b_grown .nil pass0 (pa_cons (pe_op op_sub (pe_callB (r := Evl.rLenS K) (CallR_len _) (by rfl) B.len bt_len (pa_cons (pe_fldK (K := K) rfl (pv 0) rfl) pa_nil)) pe_int) pa_nil)))))))))), ?_⟩
  have hil := (List.getElem?_eq_some_iff.mp hb).1
  have hm : (fndM F)[i]? = some b.2 := by unfold fndM; rw [List.getElem?_map, hb]; rfl
  have mo : MOk n b.2 := S.ok b.2 (List.mem_of_getElem? hm)
  have hbm := List.mem_of_getElem? hb
  have hle := g.le
  refine q_asgP (Φ := fun v H2 => ∃ q, v = .ref q ∧ H q = none ∧ H2 q = some (.tup ((behL n.pl b.2 rr).map V.int))) (ep_call (ea_cons (g.ev1 T (ev_var rfl)) (ea_cons (g.evF T (ev_var rfl) (ev_var rfl) hb) (ea_cons (ev_var rfl) ea_nil))) fun H1 e1 Q q => ⟨a.nv, .ref b.1, n, b.2, r, rr, rfl, g.net.ex (g.ex.trans e1), g.nok, (g.on e1).mkAt hbm, mo, hrr, fun v H2 e2 ⟨p, h1, h2, h3⟩ => q v H2 e2 ⟨p, h1, fresh_back e1 h2, h3⟩⟩) fun v H1 e1 hv => ?_
  obtain ⟨q, rfl, hq, h1⟩ := hv
  have g1 := g.on e1
  refine q_when (b := decide (behL n.pl b.2 rr ∈ fndM F)) (et_B ?_) (fun hin H2 e2 => ?_) fun hin H2 e2 => ?_
  · intro H2 e2 Q q'
    refine ⟨.ref q, rfl, (g1.on e2).ev4 T (ta := tVar 0) (ev_var rfl) H2 (Ex.refl _) _ fun H3 e3 => ?_⟩
    have e23 := e2.trans e3
    have dg := DGet.t (k := (behL n.pl b.2 rr).map Sum.inl) ((g1.on e23).kn) (b := q) (by rw [List.map_map]; exact e23 _ _ h1)
    refine ⟨a.lk, _, rfl, dg, ?_⟩
    rw [fndK_some]
    exact q' H3 e3
  · exact s_ret ev_c fun H3 e3 => k1 H3 ((e1.trans e2).trans e3) (of_decide_eq_true hin)
  have hout : behL n.pl b.2 rr ∉ fndM F := of_decide_eq_false hin
  have e12 := e1.trans e2
  have g2 := g1.on e2
  refine q_when (b := decide ((F.length : Int) = 250)) (et_test (ev_eqI (ev_is (ev_len (g2.ev3 T (ev_var rfl)) (SqL.of g2.fd)) (congrArg V.int (by unfold fndV; rw [List.length_map]))) (g2.ev2 T (ev_var rfl)))) (fun h250 H3 e3 => ?_) fun h250 H3 e3 => ?_
  · have g3 := g2.on e3
    refine (ev_op (g3.ev2 T (ta := tVar 0) (σ := [some (.ref a.g), some (.int (i : Int)), some (.int (r : Int)), some (.ref q)]) (ev_var rfl)) (ev_c (v := .int 1)) (rv_I0 (g := fun i j => .int (i + j)))) H3 (Ex.refl _) _ fun H4 e4 => ?_
    refine ⟨show 1 ≤ 1000 by decide, fun x hx => ⟨x, .int (250 + 1), rfl, TM.T, upd_same, fun d hd hne => ⟨rfl, d, _, upd_same, (upd_ne hne).trans upd_same, ?_, ?_⟩⟩⟩
    · rw [upd_ne hne] at hd
      exact hd
    · rw [upd_ne hne] at hd
      refine k4 _ _ (fun y o hy => ?_) (by have := of_decide_eq_true h250; omega) hout
      have h4 := (g3.on e4).ex _ _ hy
      have n1 : y ≠ x := fun z => by rw [z, hx] at h4; cases h4
      have n2 : y ≠ d := fun z => by rw [z, hd] at h4; cases h4
      rw [upd_ne n2, del_ne n1, upd_ne n1, upd_ne n2, upd_ne n1]
      exact h4
  have hlt : F.length < 250 := by
    have := of_decide_eq_false h250
    omega
  have e13 := e12.trans e3
  have g3 := g2.on e3
  have h3q := (e2.trans e3) _ _ h1
  have hgf : a.g ≠ a.lf := ne_of g3.ob g3.fd (fun z => nomatch z)
  have hgk : a.g ≠ a.lk := ne_of g3.ob g3.kn (fun z => nomatch z)
  obtain ⟨cs0, hcs0, _⟩ := g3.cm_
  have hgc : a.g ≠ a.lc := ne_of g3.ob hcs0 (fun z => nomatch z)
  have hfk : a.lf ≠ a.lk := ne_of g3.fd g3.kn (fun z => nomatch z)
  have hck : a.lc ≠ a.lk := ne_of hcs0 g3.kn (fun z => nomatch z)
  have hqf : q ≠ a.lf := ne_of h3q g3.fd (fun z => nomatch z)
  have hqk : q ≠ a.lk := ne_of h3q g3.kn (fun z => nomatch z)
  have hqc : q ≠ a.lc := ne_of h3q hcs0 (fun z => nomatch z)
  have hmf : ∀ c ∈ F, c.1 ≠ a.lf ∧ c.1 ≠ a.lk ∧ c.1 ≠ a.lc := fun c hc => ⟨ne_of (g3.ms c hc) g3.fd (fun z => nomatch z), ne_of (g3.ms c hc) g3.kn (fun z => nomatch z), ne_of (g3.ms c hc) hcs0 (fun z => nomatch z)⟩
  refine q_dputT (k := (behL n.pl b.2 rr).map Sum.inl) ev_c (g3.ev4 T (ev_var rfl)) (ev_var rfl) g3.kn (by rw [List.map_map]; exact h3q) (by unfold fndK; rw [List.length_map]; omega) fun H4 e4 => ?_
  have g4 := g3.on e4
  rw [fndK_put F q _ hout]
  -- the heap with the new key
  generalize hU1 : upd H4 a.lk (.dT (fndK (F ++ [(q, behL n.pl b.2 rr)]))) = U1
  have u1 : ∀ y, y ≠ a.lk → U1 y = H4 y := fun y hy => by rw [← hU1, upd_ne hy]
  have u1k : U1 a.lk = some (.dT (fndK (F ++ [(q, behL n.pl b.2 rr)]))) := by rw [← hU1, upd_same]
  have ob1 : U1 a.g = some (.ins C a.dx a.fs) := (u1 _ hgk).trans g4.ob
  have evf : ∀ {H5 : Hp} {σ : L2.St}, H5 a.g = some (.ins C a.dx a.fs) → σ[0]? = some (some (.ref a.g)) → Ev (tFld K (tVar 0) "found") σ H5 (.ref a.lf) := fun {H5 σ} ho hs H6 e6 Q q => ⟨_, hs, a.g, C, a.dx, a.fs, _, rfl, e6 _ _ ho, T.cl, T.n3, g.o3, q H6 (Ex.refl _)⟩
  have evc : ∀ {H5 : Hp} {σ : L2.St}, H5 a.g = some (.ins C a.dx a.fs) → σ[0]? = some (some (.ref a.g)) → Ev (tFld K (tVar 0) "came") σ H5 (.ref a.lc) := fun {H5 σ} ho hs H6 e6 Q q => ⟨_, hs, a.g, C, a.dx, a.fs, _, rfl, e6 _ _ ho, T.cl, T.n5, g.o5, q H6 (Ex.refl _)⟩
  refine q_app ((u1 _ hfk).trans g4.fd) (evf ob1 rfl) (ev_var rfl) (by unfold fndV; rw [List.length_map]; omega) fun H5 e5 => ?_
  generalize hU2 : upd H5 a.lf (.lst (fndV F ++ [.ref q])) = U2
  have u2 : ∀ y, y ≠ a.lf → U2 y = H5 y := fun y hy => by rw [← hU2, upd_ne hy]
  have u2f : U2 a.lf = some (.lst (fndV F ++ [.ref q])) := by rw [← hU2, upd_same]
  have ob2 : U2 a.g = some (.ins C a.dx a.fs) := (u2 _ hgf).trans (e5 _ _ ob1)
  obtain ⟨cs, hcs, hcc⟩ := g4.cm_
  have c2 : U2 a.lc = some (.lst cs) := (u2 _ g.ne.symm).trans (e5 _ _ ((u1 _ hck).trans hcs))
  refine q_appU c2 (evc ob2 rfl) (eu_tup (ea_cons (ev_var rfl) (ea_cons (ev_var rfl) ea_nil)) (show 2 ≤ 100000 by decide)) (by rw [hcc.len, S.len, fndM_len]; omega) fun t H6 ht e6 h6 => ?_
  generalize hU3 : upd H6 a.lc (.lst (cs ++ [.ref t])) = U3
  have u3 : ∀ y, y ≠ a.lc → U3 y = H6 y := fun y hy => by rw [← hU3, upd_ne hy]
  have u3c : U3 a.lc = some (.lst (cs ++ [.ref t])) := by rw [← hU3, upd_same]
  have kb : KeepBut a H3 U3 := fun y o y1 y2 y3 hy => by
    rw [u3 y y3]
    refine e6 _ _ ?_
    rw [u2 y y1]
    refine e5 _ _ ?_
    rw [u1 y y2]
    exact e4 _ _ hy
  have kb0 : KeepBut a H U3 := (KeepBut.of e13).trans kb
  have x0 : Ex H0 U3 := fun y o hy => kb y o (fun z => by rw [z, g.f2] at hy; cases hy) (fun z => by rw [z, g.f3] at hy; cases hy) (fun z => by rw [z, g.f4] at hy; cases hy) (g3.ex _ _ hy)
  have htc : t ≠ a.lc := fun z => by rw [z, c2] at ht; cases ht
  have g5 : Go C a n H0 U3 (F ++ [(q, behL n.pl b.2 rr)]) (cm ++ [some (i, r)]) := { g with
    ex := x0
    ob := (u3 _ hgc).trans (e6 _ _ ob2)
    fd := by
      rw [u3 _ g.ne]
      refine e6 _ _ ?_
      rw [u2f]
      unfold fndV
      rw [List.map_append]
      rfl
    ms := fun c hc => by
      rcases List.mem_append.mp hc with hc | hc
      · obtain ⟨y1, y2, y3⟩ := hmf c hc
        exact kb _ _ y1 y2 y3 (g3.ms c hc)
      · rw [List.mem_singleton.mp hc]
        exact kb _ _ hqf hqk hqc h3q
    kn := by
      rw [u3 _ hck.symm]
      refine e6 _ _ ?_
      rw [u2 _ hfk.symm]
      exact e5 _ _ u1k
    cm_ := by
      have tx1 : Tx H4 U1 := by rw [← hU1]; exact tx_dT g4.kn
      have tx2 : Tx H5 U2 := by rw [← hU2]; exact tx_lst (e5 _ _ ((u1 _ hfk).trans g4.fd))
      have tx3 : Tx H6 U3 := by rw [← hU3]; exact tx_lst (e6 _ _ c2)
      refine ⟨cs ++ [.ref t], u3c, Cams.snoc (c := some (i, r)) (show CamAt U3 (.ref t) (some (i, r)) from ⟨t, rfl, (u3 _ htc).trans h6⟩) (hcc.tx ?_)⟩
      exact ((tx1.trans (tx_of e5)).trans (tx2.trans (tx_of e6))).trans tx3
    le := by
      rw [List.length_append, List.length_singleton]
      omega }
  have hbM : behL n.pl b.2 rr ∉ fndM F := hout
  have S5 : Srch n m0 (fndM (F ++ [(q, behL n.pl b.2 rr)])) (cm ++ [some (i, r)]) := by
    have := S.grow hm hr1 hrr hbM (beh_okI g.nok mo hr1 hrr)
    unfold fndM at this ⊢
    rw [List.map_append]
    exact this
  have hlen5 : (F ++ [(q, behL n.pl b.2 rr)]).length = F.length + 1 := by rw [List.length_append]; rfl
  refine s_retP (Φ := fun v H2 => Ex U3 H2 ∧ (v = .non ∨ ∃ stem lap, GrowsAt H0 H2 v stem lap ∧ Grows n m0 stem lap)) (fun H7 e7 Q qq => ⟨_, rfl, a.g, a.dx, a.fs, rfl, (g5.on e7).ob, g.m3, ?_⟩) fun v H7 e7 hv => ?_
  · refine (ev_op (ev_len ((g5.on e7).ev3 T (ta := tVar 0) (σ := [some (.ref a.g), some (.int (i : Int)), some (.int (r : Int)), some (.ref q)]) (ev_var rfl)) (SqL.of (g5.on e7).fd)) (ev_c (v := .int 1)) (rv_I0 (g := fun i j => .int (i - j)))) H7 (Ex.refl _) _ fun H8 e8 => ?_
    have g8 := g5.on (e7.trans e8)
    refine ⟨a, n, H0, _, _, m0, F.length, ?_, g8, S5, by omega, fun H9 e9 => qq _ _ (e8.trans e9) ⟨(e7.trans e8).trans e9, .inl rfl⟩, fun v H9 stem lap e9 h1 h2 => qq _ _ (e8.trans e9) ⟨(e7.trans e8).trans e9, .inr ⟨stem, lap, h1, h2⟩⟩⟩
    show [V.ref a.g, V.int (((fndV (F ++ [(q, behL n.pl b.2 rr)])).length : Int) - 1)] = _
    unfold fndV
    rw [List.length_map, hlen5]
    congr 3
    omega
  · obtain ⟨e8, hv⟩ := hv
    rcases hv with rfl | ⟨stem, lap, h1, h2⟩
    · exact k2 H7 q (kb0.ex e8) (g5.on e8) S5
    · exact k3 v H7 stem lap (x0.trans e8) h1 h2
theorem el_canBy {σ : L2.St} {H : Hp} {ta tb : TE} {E : XK} {v mv : V} {n : Net} {m : List Int} (h1 : Ev ta σ H v) (h2 : Ev tb σ H mv) (hn : NetAt n H v) (ok : NetOk n) (hm : MkAt H mv m) (mo : MOk n m) : EvL (tCall spCanBy [] E (tCons ta (tCons tb tNil))) σ H (natsV (canL n m)) := fun H1 e Q q => h1 H1 e _ fun H2 e2 => h2 H2 (e.trans e2) _ fun H3 e3 => by
  have e13 := (e.trans e2).trans e3
  refine ⟨v, mv, n, m, rfl, hn.ex e13, ok, hm.ex e13, mo, fun u H4 e4 ⟨p, h5, h6, h7⟩ => ?_⟩
  subst h5
  exact q p H4 (fresh_back (e2.trans e3) h6) ((e2.trans e3).trans e4) h7
def ClosedAt (H : Hp) (v : V) (F : Fnd) : Prop := ∃ p q, v = .ref p ∧ H p = some (.tup [.str "closed", .ref q]) ∧ H q = some (.lst (fndV F)) ∧ ∀ b ∈ F, H b.1 = some (.tup (b.2.map V.int))
def spGone (C CT : Addr) : Sp := fun vs H Q E => ∃ (a : GA) (n : Net) (H0 : Hp) (F : Fnd) (cm : Cms) (m0 : List Int), vs = [.ref a.g] ∧ Go C a n H0 H F cm ∧ Srch n m0 (fndM F) cm ∧
  (∀ v H2 F', Ex H0 H2 → ClosedAt H2 v F' → Closed n m0 (fndM F') → Q v H2) ∧
  (∀ v H2 stem lap, Ex H0 H2 → GrowsAt H0 H2 v stem lap → Grows n m0 stem lap → Q v H2) ∧
  (∀ d H2, Ex H0 H2 → Many n m0 → E (.ref CT) d H2)
def toBt (b : Addr × List Int) : Bt := (b.1, b.2.headD 0, b.2.tail)
def ofBt (b : Bt) : Addr × List Int := (b.1, b.2.1 :: b.2.2)
theorem of_toBt {b : Addr × List Int} (h : b.2 ≠ []) : ofBt (toBt b) = b := by
  obtain ⟨p, l⟩ := b
  cases l with
  | nil => exact absurd rfl h
  | cons x r => rfl
theorem sc_Going_gone : FnScope ["self", "at", "rule", "grown"] ["self"] (defScope (inClass (top 60) 5)) := ⟨rfl, rfl, rfl, by decide +kernel, rfl, by decide +kernel, by decide +kernel⟩
theorem ok_Going_gone {f : Addr} {fd : FuncData} (F : Fun K "gone" "Going.gone" (inClass (top 60) 5) f fd) {C CT : Addr} (T : GoT K mg C) (D_can_by : Df P w K mg base "can_by" 1 ["net", "marking"] spCanBy) (M_come : MeF P w K mg base (L2.CX P w) C "come" 3 ["self", "at", "rule"] (spCome C CT)) (B : Blt mg) : FnOk P w K mg base (L2.CX P w) 4 f fd ["self"] (spGone C CT) := by
  obtain ⟨f_come, fd_come, m_come, G_come, b_come⟩ := M_come.at_
  refine F.okX sc_Going_gone (fun vs H Q E h => (by obtain ⟨a, _, _, _, _, _, rfl, _⟩ := h; rfl)) (fun cdv A outer s H vs Q E hr h => ?_)
  obtain ⟨a, n, H0, F, cm, m0, rfl, g, S, k1, k2, k3⟩ := h
  refine ⟨_, (pss_cons (ps_set (i := 1) sc_Going_gone.nd rfl (Or.inl rfl) pe_int)
      (pss_cons (ps_while (passes_of rfl) (pt_cmpR op_lt (pv 1) (pe_callB (r := Evl.rLenS K) (CallR_len _) (by rfl) B.len bt_len (pa_cons (pe_fldK (K := K) rfl (pv 0) rfl) pa_nil)) (nomark _)) (pss_cons (ps_for (passes_of rfl) rfl (pi_listK (K := K) rfl (pe_df D_can_by (hr.mono (by decide)) (by rfl) (pa_cons (pe_fldK (K := K) rfl (pv 0) rfl) (pa_cons (pe_ix (r := rIxL K) ix_list (pe_fldK (K := K) rfl (pv 0) rfl) (pv 1) (fun _ _ => rfl)) pa_nil)))) (pg_name (i := 2) sc_Going_gone.nd rfl (Or.inl rfl) (by first | exact Or.inl rfl | exact Or.inr rfl)) (pss_cons (ps_set (i := 3) sc_Going_gone.nd rfl (Or.inl rfl) (pe_meth (pv 0) T.cl m_come G_come (hr.mono (by decide)) b_come .nil (passes_call (takes_of rfl rfl rfl rfl) fun _ _ _ _ h => h) (pa_cons (pv 1) (pa_cons (pv 2) pa_nil))))
      (pss_one (ps_if (pt_cmpR op_notN1 (pv 3) pe_non (nomark _)) (pss_one (ps_ret (pv 3))) pss_nil))))
      (pss_one (ps_aug (i := 1) sc_Going_gone.nd rfl (Or.inl rfl) pe_int ip_add))))
      (pss_one (ps_ret (pe_tup (pa_cons pe_str (pa_cons (pe_callB (r := rSortedT K) (cr_sortedT (eqd_of hr)) (by rfl) B.sorted bt_sorted (pa_cons (pe_fldK (K := K) rfl (pv 0) rfl) pa_nil)) pa_nil))))))), ?_⟩
  refine q_asg (v := .int 0) ev_c fun H1 e1 => ?_
  refine q_while (fun m σ' H' => ∃ (F : Fnd) (cm : Cms) (i : Nat) (u v : Option V), σ' = [some (.ref a.g), some (.int (i : Int)), u, v] ∧ m = 300 - i ∧ Go C a n H0 H' F cm ∧ Srch n m0 (fndM F) cm ∧ i ≤ F.length ∧ ∀ j x, j < i → (fndM F)[j]? = some x → ∀ r rr, r ∈ canL n x → n.rules[r]? = some rr → behL n.pl x rr ∈ fndM F) 300
    ⟨F, cm, 0, none, none, rfl, rfl, g.on e1, S, Nat.zero_le _, fun j x hj => absurd hj (Nat.not_lt_zero _)⟩ fun m σ' H' ⟨F, cm, i, u, v, es, em, g, S, hi, hcl⟩ => ?_
  subst es
  have hle := g.le
  refine ⟨decide ((i : Int) < (F.length : Int)), et_test (ev_op (ev_var rfl) (ev_is (ev_len (g.ev3 T (ev_var rfl)) (SqL.of g.fd)) (congrArg V.int (by unfold fndV; rw [List.length_map]))) rv_I0), fun hb H2 e2 => ?_, fun hb H2 e2 => ?_⟩
  · have hlt : i < F.length := by
      have := of_decide_eq_true hb
      omega
    obtain ⟨b, hb1, hb2⟩ := fnd_at hlt
    have mo : MOk n b.2 := S.ok b.2 (List.mem_of_getElem? hb2)
    have g2 := g.on e2
    refine ⟨fun σ2 H3 => ∃ (F : Fnd) (cm : Cms) (u v : Option V), σ2 = [some (.ref a.g), some (.int ((i + 1 : Nat) : Int)), u, v] ∧ Go C a n H0 H3 F cm ∧ Srch n m0 (fndM F) cm ∧ i + 1 ≤ F.length ∧ ∀ j x, j < i + 1 → (fndM F)[j]? = some x → ∀ r rr, r ∈ canL n x → n.rules[r]? = some rr → behL n.pl x rr ∈ fndM F,
      fun σ2 H3 ⟨F1, cm1, u1, v1, h1, h2, h3, h4, h5⟩ => ⟨300 - (i + 1), by omega, F1, cm1, i + 1, u1, v1, h1, rfl, h2, h3, h4, h5⟩, ?_⟩
    refine q_forNLn (el_canBy (g2.ev1 T (ev_var rfl)) (g2.evF T (ev_var rfl) (ev_var rfl) hb1) (g.net.ex g2.ex) g.nok (g2.mkAt (List.mem_of_getElem? hb1)) mo)
      (fun p k σ' H' => H' p = some (.lst (natsV (canL n b.2))) ∧ p ≠ a.lf ∧ p ≠ a.lk ∧ p ≠ a.lc ∧ ∃ (F1 : Fnd) (cm1 : Cms) (u v : Option V), σ' = [some (.ref a.g), some (.int (i : Int)), u, v] ∧ Go C a n H0 H' F1 cm1 ∧ Srch n m0 (fndM F1) cm1 ∧ (∃ more, F1 = F ++ more) ∧ ∀ r ∈ (canL n b.2).take k, ∀ rr, n.rules[r]? = some rr → behL n.pl b.2 rr ∈ fndM F1)
      (fun p H3 hp e3 h3 => ?_) (fun p k σ' H' _ h => SqL.of h.1) (fun p k x σ' H' hx h => ?_) fun p σ' H' h => ?_
    · obtain ⟨cs, hcs, _⟩ := g2.cm_
      exact ⟨h3, (ne_of_none g2.fd hp).symm, (ne_of_none g2.kn hp).symm, (ne_of_none hcs hp).symm, F, cm, u, v, rfl, g2.on e3, S, ⟨[], (List.append_nil F).symm⟩, fun r hr => by rw [List.take_zero] at hr; cases hr⟩
    · obtain ⟨hp, p1, p2, p3, F1, cm1, u1, v1, rfl, g3, S3, ⟨more, rfl⟩, hdone⟩ := h
      obtain ⟨r, hr0, rfl⟩ : ∃ r, (canL n b.2)[k]? = some r ∧ x = .int (r : Int) := by
        unfold natsV at hx
        rw [List.getElem?_map] at hx
        cases h : (canL n b.2)[k]? with
        | none => rw [h] at hx; cases hx
        | some r => rw [h] at hx; exact ⟨r, rfl, (Option.some.inj hx).symm⟩
      have hrc := List.mem_of_getElem? hr0
      obtain ⟨rr, hrr, _⟩ := canL_at hrc
      have hbi : (F ++ more)[i]? = some b := by rw [List.getElem?_append_left hlt]; exact hb1
      have ext : ∀ {F2 : Fnd}, (∀ r ∈ (canL n b.2).take k, ∀ rr, n.rules[r]? = some rr → behL n.pl b.2 rr ∈ fndM F2) → behL n.pl b.2 rr ∈ fndM F2 → ∀ r ∈ (canL n b.2).take (k + 1), ∀ rr, n.rules[r]? = some rr → behL n.pl b.2 rr ∈ fndM F2 := fun {F2} h1 h2 r' hr' rr' hrr' => by
        rw [take_one hr0] at hr'
        rcases List.mem_append.mp hr' with hr' | hr'
        · exact h1 r' hr' rr' hrr'
        · rw [List.mem_singleton.mp hr', hrr] at hrr'
          cases hrr'
          exact h2
      refine q_asgX (Φ := fun v H4 => (v = .non ∧ ∃ (F2 : Fnd) (cm2 : Cms), KeepBut a H' H4 ∧ Go C a n H0 H4 F2 cm2 ∧ Srch n m0 (fndM F2) cm2 ∧ (∃ more, F2 = F ++ more) ∧ ∀ r ∈ (canL n b.2).take (k + 1), ∀ rr, n.rules[r]? = some rr → behL n.pl b.2 rr ∈ fndM F2) ∨ ∃ stem lap, Ex H0 H4 ∧ GrowsAt H0 H4 v stem lap ∧ Grows n m0 stem lap ∧ ∃ p, v = .ref p) (fun Q q => ?_) fun v H4 hv => ?_
      · refine ⟨_, rfl, a.g, a.dx, a.fs, rfl, g3.ob, g3.m4, _, rfl, _, rfl, a, n, H0, F ++ more, cm1, m0, i, r, b, rr, rfl, g3, S3, hbi, hrc, hrr, fun H5 e5 hin => ?_, fun H5 q1 kb g5 S5 => ?_, fun v H5 stem lap x5 h1 h2 => ?_, fun d H5 x5 h250 hout => ?_⟩
        · exact q _ _ (.inl ⟨rfl, F ++ more, cm1, KeepBut.of e5, g3.on e5, S3, ⟨more, rfl⟩, ext hdone hin⟩)
        · refine q _ _ (.inl ⟨rfl, _, _, kb, g5, S5, ⟨more ++ [(q1, behL n.pl b.2 rr)], by rw [List.append_assoc]⟩, ext (fun r' hr' rr' hrr' => ?_) ?_⟩)
          · have := hdone r' hr' rr' hrr'
            unfold fndM at this ⊢
            rw [List.map_append]
            exact List.mem_append_left _ this
          · unfold fndM
            rw [List.map_append]
            exact List.mem_append_right _ (List.mem_singleton.mpr rfl)
        · exact q _ _ (.inr ⟨stem, lap, x5, h1, h2, by obtain ⟨p, _, _, h, _⟩ := h1; exact ⟨p, h⟩⟩)
        · refine k3 d H5 x5 ⟨fndM (F ++ more) ++ [behL n.pl b.2 rr], ?_, ?_, fun m hm => ?_⟩
          · rw [List.nodup_append]
            refine ⟨S3.nd, by simp, fun y hy z hz e => ?_⟩
            rw [List.mem_singleton] at hz
            rw [e, hz] at hy
            exact hout hy
          · rw [List.length_append, fndM_len, h250]
            rfl
          · rcases List.mem_append.mp hm with hm | hm
            · obtain ⟨j, hj⟩ := List.mem_iff_getElem?.mp hm
              exact S3.reach j m hj
            · rw [List.mem_singleton.mp hm]
              have hbm : (fndM (F ++ more))[i]? = some b.2 := by unfold fndM; rw [List.getElem?_map, hbi]; rfl
              obtain ⟨is, hl⟩ := S3.reach i b.2 hbm
              exact ⟨_, hl.snoc hrc hrr⟩
      · rcases hv with ⟨rfl, F2, cm2, kb, g4, S4, ⟨more2, hm2⟩, hd2⟩ | ⟨stem, lap, x5, h1, h2, p5, rfl⟩
        · exact s_no (et_test (ev_notNn (ev_var rfl))) fun H5 e5 => ⟨e5 _ _ (kb p _ p1 p2 p3 hp), p1, p2, p3, F2, cm2, _, _, rfl, g4.on e5, S4, ⟨more2, hm2⟩, hd2⟩
        · refine s_yes (et_test (ev_notNy (ev_var rfl))) fun H5 e5 => s_ret (ev_var rfl) fun H6 e6 => ?_
          obtain ⟨pp, qq, rr, h3, b1, b2, h4, h5, h6⟩ := h1
          exact k2 _ H6 stem lap ((x5.trans e5).trans e6) ⟨pp, qq, rr, h3, b1, b2, e6 _ _ (e5 _ _ h4), e6 _ _ (e5 _ _ h5), e6 _ _ (e5 _ _ h6)⟩ h2
    · obtain ⟨hp, p1, p2, p3, F1, cm1, u1, v1, rfl, g3, S3, ⟨more, rfl⟩, hdone⟩ := h
      refine s_aug (a := (i : Int)) (b := 1) rfl ev_c fun H4 e4 => ⟨F ++ more, cm1, u1, v1, ?_, g3.on e4, S3, by rw [List.length_append]; omega, fun j x hj hx r rr hr hrr => ?_⟩
      · show [some (.ref a.g), some (V.int ((i : Int) + 1)), u1, v1] = _
        rw [show ((i + 1 : Nat) : Int) = (i : Int) + 1 by omega]
      · by_cases hji : j < i
        · have hx0 : (fndM F)[j]? = some x := by
            unfold fndM at hx ⊢
            rw [List.map_append, List.getElem?_append_left (by rw [List.length_map]; omega)] at hx
            exact hx
          have := hcl j x hji hx0 r rr hr hrr
          unfold fndM at this ⊢
          rw [List.map_append]
          exact List.mem_append_left _ this
        · have ej : j = i := by omega
          subst ej
          have hx0 : x = b.2 := by
            unfold fndM at hx hb2
            rw [List.map_append, List.getElem?_append_left (by rw [List.length_map]; omega), hb2] at hx
            exact (Option.some.inj hx).symm
          rw [hx0] at hr ⊢
          refine hdone r ?_ rr hrr
          have hll : (natsV (canL n b.2)).length = (canL n b.2).length := List.length_map _
          rw [hll, List.take_length]
          exact hr
  · have hge : i = F.length := by
      have := of_decide_eq_false hb
      omega
    subst hge
    have g2 := g.on e2
    have hne : ∀ b ∈ F, b.2 ≠ [] := fun b hb e => by
      have hm : b.2 ∈ fndM F := List.mem_map.mpr ⟨b, hb, rfl⟩
      have := (S.ok b.2 hm).len
      rw [e, List.length_nil] at this
      have := g.nok.pl.lo
      omega
    have hbk : (F.map toBt).map ofBt = F := by
      rw [List.map_map]
      exact (List.map_congr_left fun b hb => of_toBt (hne b hb)).trans (List.map_id' F)
    refine s_retX (Φ := fun v H3 => ∃ F', Ex H0 H3 ∧ ClosedAt H3 v F' ∧ F'.Perm F) (fun Q q => ?_) fun v H3 ⟨F', x3, h1, h2⟩ => ?_
    · refine (g2.ev3 T (ta := tVar 0) (σ := [some (.ref a.g), some (.int (F.length : Int)), u, v]) (ev_var rfl)) H2 (Ex.refl _) _ fun H4 e4 => ?_
      have g4 := g2.on e4
      refine ⟨a.lf, F.map toBt, rfl, ?_, fun b hb => ?_, fun bs' p hper hp => ⟨sz_of (show 2 ≤ 100000 by decide), fun t ht => ?_⟩⟩
      · rw [g4.fd]
        unfold fndV
        rw [List.map_map]
        rfl
      · obtain ⟨c, hc, rfl⟩ := List.mem_map.mp hb
        have hh := g4.ms c hc
        have e0 := of_toBt (hne c hc)
        have e1 : c.2 = (toBt c).2.1 :: (toBt c).2.2 := (congrArg Prod.snd e0).symm
        rw [e1] at hh
        exact hh
      · have hper2 : (bs'.map ofBt).Perm F := by
          have := hper.map ofBt
          rwa [hbk] at this
        have e5 := Ex.new (o := .lst (bs'.map btV)) hp
        have e6 := Ex.new (o := .tup [.str "closed", .ref p]) ht
        refine q _ _ ⟨bs'.map ofBt, (g4.ex.trans e5).trans e6, ⟨t, p, rfl, upd_same, ?_, fun b hb => e6 _ _ (e5 _ _ (g4.ms b (hper2.mem_iff.mp hb)))⟩, hper2⟩
        refine e6 _ _ ?_
        rw [upd_same]
        unfold fndV
        rw [List.map_map]
        rfl
    · refine k1 v H3 F' x3 h1 (Closed.perm ⟨S.nd, List.mem_of_getElem? S.z, fun m hm j r hj hr => ?_, fun m hm => ?_, by rw [fndM_len]; exact g.le, S.ok⟩ (h2.map Prod.snd))
      · obtain ⟨i, hi⟩ := List.mem_iff_getElem?.mp hm
        have hil := (List.getElem?_eq_some_iff.mp hi).1
        rw [fndM_len] at hil
        exact hcl i m hil hi j r hj hr
      · obtain ⟨i, hi⟩ := List.mem_iff_getElem?.mp hm
        exact S.reach i m hi
end
end Mt

set_option maxHeartbeats 4000000
/-! holds, and what it is let -/
namespace Mt
open PySem L2 Evl
structure GoMk (P : Program) (w : World) (K : PySem.W.Frag) (mg : Str → Option Value) (base : Heap) (C : Addr) : Prop where
  at_ : ∃ f fd, Mk K C f ∧ FnOk P w K mg base CX0 1 f fd ["self", "net", "marking", "most"] (spGInit C) ∧ Binds K fd ["self", "net", "marking", "most"] []
section
variable {K : PySem.W.Frag} {σ : L2.St} {H : Hp} {ta tb te : TE} {p : Addr} {xs : List V} {v : V} {i : Int}
theorem ev_ixE (h : Ev ta σ H (.ref p)) (hp : Rd H p (.tup xs)) (hi : atI xs i = some v) : Ev (tOp (rIxT K) ta (tC (.int i))) σ H v := ev_op h ev_c (rv_ixT (.inl hp) hi)
theorem ev_lenX {n : Nat} (h : Ev ta σ H (.ref p)) (hp : Rd H p (.tup xs)) (hn : xs.length = n) : Ev (tCB (rLenS K) (tCons ta tNil)) σ H (.int (n : Int)) := fun H1 e _ q => h H1 e _ fun H2 e2 => ⟨p, xs, rfl, .inr (.inl (ex_rd (e.trans e2) hp)), by
  rw [hn]
  exact q H2 e2⟩
theorem ev_isiL (h : Ev ta σ H (.ref p)) (hp : H p = some (.lst xs)) : Ev (tCB (rIsi K) (tCons ta (tCons (tC (.ty "list")) tNil))) σ H (.bl true) := fun H1 e _ q =>
  h H1 e _ fun H2 e2 => ⟨.ref p, .ty "list", _, .type "list", _, rfl, .ty "list", .base (.lst ((e.trans e2) _ _ hp)), kit_ty (show _ = some true by decide +kernel), q H2 e2⟩
theorem ev_isiU (h : Ev ta σ H (.ref p)) (hp : H p = some (.tup xs)) : Ev (tCB (rIsi K) (tCons ta (tCons (tC (.ty "tuple")) tNil))) σ H (.bl true) := fun H1 e _ q =>
  h H1 e _ fun H2 e2 => ⟨.ref p, .ty "tuple", _, .type "tuple", _, rfl, .ty "tuple", .base (.tup ((e.trans e2) _ _ hp)), kit_ty (show _ = some true by decide +kernel), q H2 e2⟩
theorem eqv_ints : ∀ xs ys : List Int, PyData.eqvAll (xs.map PyData.int) (ys.map PyData.int) = decide (xs = ys)
  | [], [] => by simp [PyData.eqvAll]
  | [], y :: ys => by simp [PyData.eqvAll]
  | x :: xs, [] => by simp [PyData.eqvAll]
  | x :: xs, y :: ys => by
    show (PyData.eqv (.int x) (.int y) && PyData.eqvAll (xs.map PyData.int) (ys.map PyData.int)) = _
    rw [eqv_ints xs ys]
    show ((x == y) && decide (xs = ys)) = decide (x :: xs = y :: ys)
    by_cases h : x = y
    · subst h
      simp
    · simp [h]
theorem shapedTI (ns : List Int) : SeqAt.shaped (.tuple (ns.map PyData.int)) = true := shapedT (n := 0) (by decide) fun d hd => by
  obtain ⟨i, _, rfl⟩ := List.mem_map.mp hd
  exact ⟨rfl, Nat.le_refl _⟩
theorem ev_neT {x y : V} {a b : List Int} (h1 : Ev ta σ H x) (h2 : Ev tb σ H y) (ha : MkAt H x a) (hb : MkAt H y b) (hne : a ≠ b) : Ev (tOp (rNeD K) ta tb) σ H (.bl true) := fun H1 e Q q => h1 H1 e _ fun H2 e2 => h2 H2 (e.trans e2) _ fun H3 e3 => ⟨.tuple (a.map .int), .tuple (b.map .int), dp_of (ha.ex ((e.trans e2).trans e3)).im, dp_of (hb.ex ((e.trans e2).trans e3)).im, shapedTI a, shapedTI b, by
  show Q (.bl (!PyData.eqvAll (a.map .int) (b.map .int))) H3
  rw [eqv_ints, decide_eq_false hne]
  exact q H3 (e2.trans e3)⟩
end
section
variable {P : Program} {w : World} {K : PySem.W.Frag} {mg : Str → Option Value} {base : Heap}
def spHolds (CT : Addr) : Sp := fun vs H Q E => ∃ (v mv : V) (n : Net) (m : List Int), vs = [v, mv, .int 250] ∧ NetAt n H v ∧ NetOk n ∧ MkAt H mv m ∧ MOk n m ∧
  (∀ v H2 F', Ex H H2 → ClosedAt H2 v F' → Closed n m (fndM F') → Q v H2) ∧
  (∀ v H2 stem lap, Ex H H2 → GrowsAt H H2 v stem lap → Grows n m stem lap → Q v H2) ∧
  (∀ d H2, Ex H H2 → Many n m → E (.ref CT) d H2)
theorem sc_holds : FnScope ["net", "marking", "most", "going"] ["net", "marking", "most"] (defScope (top 61)) := ⟨rfl, rfl, rfl, by decide +kernel, rfl, by decide +kernel, by decide +kernel⟩
theorem ok_holds {f : Addr} {fd : FuncData} (F : FunD K "holds" "holds" (defArgs (top 61)) (defBody (top 61)) (defScope (top 61)) [] [("most", .int 500)] f fd) {C CT : Addr} (T : GoT K mg C) (GM : GoMk P w K mg base C) (D_is_whole : Df P w K mg base "is_whole" 1 ["thing"] spWhole) (D_look_at_marking : Df P w K mg base "look_at_marking" 13 ["net", "marking"] spLookM) (M_gone : MeF P w K mg base (L2.CX P w) C "gone" 4 ["self"] (spGone C CT)) (C_MOST_MARKINGS : ∃ n, mg "MOST_MARKINGS" = some (.int 5000 n)) : FnOk P w K mg base (L2.CX P w) 14 f fd ["net", "marking", "most"] (spHolds CT) := by
  obtain ⟨n_MOST_MARKINGS, C_MOST_MARKINGS⟩ := C_MOST_MARKINGS
  obtain ⟨f_gone, fd_gone, m_gone, G_gone, b_gone⟩ := M_gone.at_
  refine F.ok sc_holds (fun vs H Q E h => (by obtain ⟨v, mv, n, m, rfl, _⟩ := h; rfl)) (fun cdv A outer s H vs Q E hr h => ?_)
  obtain ⟨v, mv, n, m, rfl, hn, ok, hm, mo, k1, k2, k3⟩ := h
  obtain ⟨fG, fdG, MKG, GG, bG⟩ := GM.at_
  refine ⟨_, (pss_cons (ps_expr (pe_df D_look_at_marking (hr.mono (by decide)) (by rfl) (pa_cons (pv 0) (pa_cons (pv 1) pa_nil))))
      (pss_cons (ps_if (PW.pt (pw_or (pt_not (pt_val (pe_df D_is_whole (hr.mono (by decide)) (by rfl) (pa_cons (pv 2) pa_nil)))) (pw_or1 (pt_not (pt_chain op_le op_le pe_int (pv 2) (pe_glob (v := .int 5000) (by rfl) C_MOST_MARKINGS ⟨_, rfl⟩)))))) (pss_one ps_never) pss_nil)
      (pss_cons (ps_set (i := 3) sc_holds.nd rfl (Or.inl rfl) (pe_make MKG GG (hr.mono (by decide)) (by rfl) T.mgC bG .nil pass0 (pa_cons (pv 0) (pa_cons (pv 1) (pa_cons (pv 2) pa_nil)))))
      (pss_one (ps_ret (pe_meth0 (pv 3) T.cl m_gone G_gone (hr.mono (by decide)) b_gone .nil (passes_call (takes_of rfl rfl rfl rfl) fun _ _ _ _ h => h))))))), ?_⟩
  refine q_drop (v := .non) (fun H1 e1 Q q => ⟨v, rfl, mv, rfl, v, mv, n, m, rfl, hn.ex e1, ok, hm.ex e1, mo, q⟩) fun H1 e1 => ?_
  refine q_no (et_or2 (et_nt (ev_t (ed_call (eds1 (ed_int (ev_var rfl))) (spR_at ⟨250, rfl, rfl⟩)))) (et_is (et_not (a := true) (et_test (ev_chain (i := 1) (j := 250) (l := 5000) ev_c (ev_var rfl) ev_c (by decide) (by decide)))) rfl)) fun H2 e2 => ?_
  have e12 := e1.trans e2
  obtain ⟨b, rfl, hb⟩ := hm.ex e12
  refine q_asgX (Φ := fun x H3 => ∃ a : GA, x = .ref a.g ∧ Go C a n H2 H3 [(b, m)] [none]) (fun Q q => ?_) fun x H3 ⟨a, ha, g⟩ => ?_
  · refine ⟨v, rfl, .ref b, rfl, .int 250, rfl, fun x dx hx hdx hne => ⟨x, dx, v, b, n, m, H2, rfl, upd_same, ?_, hx, hb, hn.ex e12, ok, mo, fun H4 a ha g => ⟨rfl, q _ _ ⟨a, by rw [ha], g⟩⟩⟩⟩
    refine (Ex.new (o := .own x) hdx).trans fun y o hy => ?_
    rw [upd_ne]
    · exact hy
    · intro e
      rw [e, upd_ne hne.symm, hx] at hy
      cases hy
  subst ha
  refine ⟨_, rfl, a.g, a.dx, a.fs, rfl, g.ob, g.m5, a, n, H2, [(b, m)], [none], m, rfl, g, Srch.one mo, fun v H4 F' e4 h1 h2 => k1 v H4 F' (e12.trans e4) h1 h2, fun v H4 stem lap e4 ⟨p, q, r, h3, b1, b2, h4⟩ h2 => k2 v H4 stem lap (e12.trans e4) ⟨p, q, r, h3, fresh_back e12 b1, fresh_back e12 b2, h4⟩ h2, fun d H4 e4 h => k3 d H4 (e12.trans e4) h⟩
def spLedBy : Sp := fun vs H Q _ => ∃ (v mv : V) (l : Addr) (n : Net) (m x : List Int) (is : List Nat), vs = [v, mv, .ref l] ∧ NetAt n H v ∧ NetOk n ∧ MkAt H mv m ∧ MOk n m ∧ H l = some (.lst (natsV is)) ∧ Led n m is x ∧ ∀ v H2, Ex H H2 → MkAt H2 v x → Q v H2
theorem sc_led_by : FnScope ["net", "marking", "rules", "rule"] ["net", "marking", "rules"] (defScope (top 64)) := ⟨rfl, rfl, rfl, by decide +kernel, rfl, by decide +kernel, by decide +kernel⟩
theorem ok_led_by {f : Addr} {fd : FuncData} (F : Fun K "led_by" "led_by" (top 64) f fd) (D_behind_by : Df P w K mg base "behind_by" 1 ["net", "marking", "rule"] spBehBy) (D_can_by : Df P w K mg base "can_by" 1 ["net", "marking"] spCanBy) (D_is_whole : Df P w K mg base "is_whole" 1 ["thing"] spWhole) (B : Blt mg) : FnOk P w K mg base CX0 2 f fd ["net", "marking", "rules"] spLedBy := by
  refine F.ok sc_led_by (fun vs H Q E h => (by obtain ⟨v, mv, l, n, m, x, is, rfl, _⟩ := h; rfl)) (fun cdv A outer s H vs Q E hr h => ?_)
  obtain ⟨v, mv, l, n, m, x, is, rfl, hn, ok, hm, mo, hl, hL, k⟩ := h
  refine ⟨_, (pss_cons (ps_if (pt_not (pt_val (pe_callB (r := rIsi K) call_isi (by rfl) B.isinstance bt_isinstance (pa_cons (pv 2) (pa_cons (pe_bltn (v := .ty "list") (by rfl) B.list bt_list rfl) pa_nil))))) (pss_one (ps_ret pe_non)) pss_nil)
      (pss_cons (ps_for PassesOwn.never rfl (pi_listK (K := K) rfl (pv 2)) (pg_name (i := 3) sc_led_by.nd rfl (Or.inl rfl) (by first | exact Or.inl rfl | exact Or.inr rfl)) (pss_cons (ps_if (PW.pt (pw_or (pt_not (pt_val (pe_df D_is_whole (hr.mono (by decide)) (by rfl) (pa_cons (pv 3) pa_nil)))) (pw_or1 (pt_cmpR (r := rIn K true) op_notIn_seq (pv 3) (pe_df D_can_by (hr.mono (by decide)) (by rfl) (pa_cons (pv 0) (pa_cons (pv 1) pa_nil))) (by rfl))))) (pss_one (ps_ret pe_non)) pss_nil)
      (pss_one (ps_set (i := 1) sc_led_by.nd rfl (Or.inl rfl) (pe_df D_behind_by (hr.mono (by decide)) (by rfl) (pa_cons (pv 0) (pa_cons (pv 1) (pa_cons (pv 3) pa_nil))))))))
      (pss_one (ps_ret (pv 1))))), ?_⟩
  refine q_no (et_nt (ev_isiL (ev_var rfl) hl)) fun H1 e1 => ?_
  refine q_forD (enc := intD) (zs := is) (id_list (es_var rfl ⟨l, _, rfl, e1 _ _ hl, ims_nats is⟩)) (fun H2 k σ' H' => Ex H2 H' ∧ ∃ mv' y u, σ' = [some v, some mv', some (.ref l), u] ∧ MkAt H' mv' y ∧ MOk n y ∧ Led n y (is.drop k) x)
    (fun H2 e2 => ⟨Ex.refl _, mv, m, _, rfl, hm.ex (e1.trans e2), mo, hL⟩) (fun H2 e2 i σ' H' _ h => h.1) (fun H2 e2 i j σ' H' z H3 hj h e3 mx => ?_) fun H2 e2 σ' H' h => ?_
  · obtain ⟨x3, mv', y, u, rfl, hy, yo, hLd⟩ := h
    refine g_name ?_
    rw [show z = .int (j : Int) from mx.int_iff]
    obtain ⟨hi, hji⟩ := List.getElem?_eq_some_iff.mp hj
    rw [List.drop_eq_getElem_cons hi, hji] at hLd
    cases hLd with
    | @cons _ _ r _ _ h1 h2 h3 =>
      have e13 := (e1.trans e2).trans (x3.trans e3)
      refine q_no (et_or2 (et_nt (ev_t (ed_call (eds1 (ed_int (ev_var rfl))) (spR_at ⟨(j : Int), rfl, rfl⟩)))) (et_test ?_)) fun H4 e4 => ?_
      · refine ev_is (ev_inI (neg := true) (x := (j : Int)) (ed_int (ev_var rfl)) (EvN.s (en_canBy (ev_var rfl) (ev_var rfl) (hn.ex e13) ok (hy.ex e3) yo))) (congrArg V.bl ?_)
        rw [if_pos rfl, decide_eq_true (nat_mem.mpr h1)]
        rfl
      · refine s_asgP (Φ := fun v H5 => MkAt H5 v (behL n.pl y r)) (ep_call (ea_cons (ev_var rfl) (ea_cons (ev_var rfl) (ea_cons (ev_var rfl) ea_nil))) fun H5 e5 Q q => ⟨v, mv', n, y, j, r, rfl, hn.ex ((e13.trans e4).trans e5), ok, ((hy.ex e3).ex e4).ex e5, yo, h2, fun u H6 e6 ⟨p, h4, _, h6⟩ => q u H6 e6 ⟨p, h4, h6⟩⟩) fun v1 H5 e5 hv => ?_
        exact ⟨((x3.trans e3).trans e4).trans e5, v1, behL n.pl y r, _, rfl, hv, beh_okI ok yo h1 h2, h3⟩
  · obtain ⟨x3, mv', y, u, rfl, hy, yo, hLd⟩ := h
    rw [List.drop_length] at hLd
    cases hLd
    exact s_ret (ev_var rfl) fun H3 e3 => k _ H3 ((e1.trans e2).trans (x3.trans e3)) (hy.ex e3)
def spLetsG : Sp := fun vs H Q _ => ∃ (v mv : V) (l1 l2 : Addr) (n : Net) (m : List Int) (stem lap : List Nat), vs = [v, mv, .ref l1, .ref l2] ∧ NetAt n H v ∧ NetOk n ∧ MkAt H mv m ∧ MOk n m ∧ H l1 = some (.lst (natsV stem)) ∧ H l2 = some (.lst (natsV lap)) ∧ Grows n m stem lap ∧ ∀ H2, Ex H H2 → Q (.bl true) H2
theorem sc_lets_grows : FnScope ["net", "marking", "stem", "lap", "begin", "end"] ["net", "marking", "stem", "lap"] (defScope (top 65)) := ⟨rfl, rfl, rfl, by decide +kernel, rfl, by decide +kernel, by decide +kernel⟩
theorem ok_lets_grows {f : Addr} {fd : FuncData} (F : Fun K "lets_grows" "lets_grows" (top 65) f fd) (D_is_within : Df P w K mg base "is_within" 1 ["one", "other"] spWithin) (D_led_by : Df P w K mg base "led_by" 2 ["net", "marking", "rules"] spLedBy) : FnOk P w K mg base CX0 3 f fd ["net", "marking", "stem", "lap"] spLetsG := by
  refine F.ok sc_lets_grows (fun vs H Q E h => (by obtain ⟨v, mv, l, n, m, x, is, _, rfl, _⟩ := h; rfl)) (fun cdv A outer s H vs Q E hr h => ?_)
  obtain ⟨v, mv, l1, l2, n, m, stem, lap, rfl, hn, ok, hm, mo, h1, h2, ⟨x, y, L1, hne, L2, hle, hxy⟩, k⟩ := h
  refine ⟨_, (pss_cons (ps_set (i := 4) sc_lets_grows.nd rfl (Or.inl rfl) (pe_df D_led_by (hr.mono (by decide)) (by rfl) (pa_cons (pv 0) (pa_cons (pv 1) (pa_cons (pv 2) pa_nil)))))
      (pss_cons (ps_if (PW.pt (pw_or (pt_cmpR op_isN1 (pv 4) pe_non (nomark _)) (pw_or1 (pt_cmpR (r := rEqD K) (op_eqD (eqd_of hr)) (pv 3) (pe_lst pa_nil) (nomark _))))) (pss_one (ps_ret pe_bl)) pss_nil)
      (pss_cons (ps_set (i := 5) sc_lets_grows.nd rfl (Or.inl rfl) (pe_df D_led_by (hr.mono (by decide)) (by rfl) (pa_cons (pv 0) (pa_cons (pv 4) (pa_cons (pv 3) pa_nil)))))
      (pss_one (ps_ret (pe_and (pe_cmpR op_notN1 (pv 5) pe_non (nomark _)) (pe_and (pe_cmpR (r := rNeD K) (op_neD (eqd_of hr)) (pv 5) (pv 4) (nomark _)) (pe_one (pe_df D_is_within (hr.mono (by decide)) (by rfl) (pa_cons (pv 4) (pa_cons (pv 5) pa_nil))))))))))), ?_⟩
  have xo : MOk n x := L1.ok ok mo
  have yo : MOk n y := L2.ok ok xo
  have lpl := ok.pl.hi
  have lx := xo.len
  have ly := yo.len
  refine q_asgP (Φ := fun v H5 => MkAt H5 v x) (ep_call (ea_cons (ev_var rfl) (ea_cons (ev_var rfl) (ea_cons (ev_var rfl) ea_nil))) fun H5 e5 Q q => ⟨v, mv, l1, n, m, x, stem, rfl, hn.ex e5, ok, hm.ex e5, mo, e5 _ _ h1, L1, q⟩) fun v1 H1 e1 hv1 => ?_
  refine q_no (et_or2 (et_test ?_) (et_test (ev_is (ev_eqL (es_var rfl ⟨l2, _, rfl, e1 _ _ h2, ims_nats lap⟩) ?_) (congrArg V.bl ?_)))) fun H2 e2 => ?_
  · obtain ⟨p, rfl, _⟩ := hv1
    exact ev_isNn (ev_var rfl)
  · have := shaped_ints (lap.map fun i : Nat => (i : Int))
    rwa [List.map_map] at this
  · cases lap with
    | nil => exact absurd rfl hne
    | cons a l => rfl
  · have e12 := e1.trans e2
    have hv2 := hv1.ex e2
    refine q_asgP (Φ := fun v H5 => MkAt H5 v y) (ep_call (ea_cons (ev_var rfl) (ea_cons (ev_var rfl) (ea_cons (ev_var rfl) ea_nil))) fun H5 e5 Q q => ⟨v, v1, l2, n, x, y, lap, rfl, hn.ex (e12.trans e5), ok, hv2.ex e5, xo, (e12.trans e5) _ _ h2, L2, q⟩) fun v2 H3 e3 hv3 => ?_
    refine s_ret (ev_and2 ?_ (ev_and2 (ev_neT (ev_var rfl) (ev_var rfl) hv3 (hv2.ex e3) hxy.symm) (ev_is (ev_call (vs := [v1, v2]) (ea_cons (ev_var rfl) (ea_cons (ev_var rfl) ea_nil)) fun H4 e4 Q q E => ⟨v1, v2, x, y, rfl, (hv2.ex e3).ex e4, hv3.ex e4, lx.trans ly.symm, by omega, q⟩) (congrArg V.bl hle)))) fun H4 e4 => k H4 ((e12.trans e3).trans e4)
    obtain ⟨p, rfl, _⟩ := hv3
    exact ev_notNy (ev_var rfl)
def spLetsH : Sp := fun vs H Q _ => ∃ (v mv t : V) (n : Net) (m : List Int) (stem lap : List Nat) (Bs : Hp), vs = [v, mv, t] ∧ NetAt n H v ∧ NetOk n ∧ MkAt H mv m ∧ MOk n m ∧ GrowsAt Bs H t stem lap ∧ Grows n m stem lap ∧ ∀ H2, Ex H H2 → Q (.bl true) H2
theorem sc_lets_holds : FnScope ["net", "marking", "thing"] ["net", "marking", "thing"] (defScope (top 66)) := ⟨rfl, rfl, rfl, by decide +kernel, rfl, by decide +kernel, by decide +kernel⟩
theorem ok_lets_holds {f : Addr} {fd : FuncData} (F : Fun K "lets_holds" "lets_holds" (top 66) f fd) (D_lets_grows : Df P w K mg base "lets_grows" 3 ["net", "marking", "stem", "lap"] spLetsG) (D_look_at_marking : Df P w K mg base "look_at_marking" 13 ["net", "marking"] spLookM) (B : Blt mg) : FnOk P w K mg base CX0 14 f fd ["net", "marking", "thing"] spLetsH := by
  refine F.ok sc_lets_holds (fun vs H Q E h => (by obtain ⟨v, mv, l, n, m, x, is, _, rfl, _⟩ := h; rfl)) (fun cdv A outer s H vs Q E hr h => ?_)
  obtain ⟨v, mv, t, n, m, stem, lap, Bs, rfl, hn, ok, hm, mo, ⟨p, l1, l2, rfl, _, _, hp, h1, h2⟩, hG, k⟩ := h
  refine ⟨_, (pss_cons (ps_expr (pe_df D_look_at_marking (hr.mono (by decide)) (by rfl) (pa_cons (pv 0) (pa_cons (pv 1) pa_nil)))) (pss_cons (ps_if (PW.pt (pw_or (pt_not (pt_val (pe_callB (r := rIsi K) call_isi (by rfl) B.isinstance bt_isinstance (pa_cons (pv 2) (pa_cons (pe_bltn (v := .ty "tuple") (by rfl) B.tuple bt_tuple rfl) pa_nil))))) (pw_or (pt_cmpR (r := rIn K true) op_notIn_seq (pe_callB (r := Evl.rLenS K) (CallR_len _) (by rfl) B.len bt_len (pa_cons (pv 2) pa_nil)) (pe_tup (pa_cons pe_int (pa_cons pe_int pa_nil))) (by rfl)) (pw_or1 (pt_not (pt_val (pe_callB (r := rIsi K) call_isi (by rfl) B.isinstance bt_isinstance (pa_cons (pe_ix (r := rIxT K) ix_tup (pv 2) pe_int (fun _ _ => rfl)) (pa_cons (pe_bltn (v := .ty "str") (by rfl) B.str bt_str rfl) pa_nil))))))))) pss_never pss_nil) (pss_cons (ps_if (pt_cmpR op_eq (pe_callB (r := Evl.rLenS K) (CallR_len _) (by rfl) B.len bt_len (pa_cons (pv 2) pa_nil)) pe_int (nomark _)) pss_never pss_nil) (pss_one (ps_ret (pe_and (pe_cmpR op_eq (pe_ix (r := rIxT K) ix_tup (pv 2) pe_int (fun _ _ => rfl)) pe_str (nomark _)) (pe_one (pe_df D_lets_grows (hr.mono (by decide)) (by rfl) (pa_cons (pv 0) (pa_cons (pv 1) (pa_cons (pe_ix (r := rIxT K) ix_tup (pv 2) pe_int (fun _ _ => rfl)) (pa_cons (pe_ix (r := rIxT K) ix_tup (pv 2) pe_int (fun _ _ => rfl)) pa_nil)))))))))))), ?_⟩
  refine q_drop (v := .non) (fun H1 e1 Q q => ⟨v, rfl, mv, rfl, v, mv, n, m, rfl, hn.ex e1, ok, hm.ex e1, mo, q⟩) fun H1 e1 => ?_
  refine q_no (et_or2 (et_nt (ev_isiU (ev_var rfl) (e1 _ _ hp))) (et_or2 (et_test ?_) (et_nt (ev_isi (.inr (.inr (.inl rfl))) (ed_str (ev_ixE (v := .str "grows") (ev_var rfl) (.inl (e1 _ _ hp)) rfl)))))) fun H2 e2 => ?_
  · refine ev_is (ev_niU (ev_lenX (n := 3) (ev_var rfl) (.inl (e1 _ _ hp)) rfl) (eu_tup (ea_cons ev_c (ea_cons ev_c ea_nil)) (show 2 ≤ 100000 by decide)) rfl rfl) (congrArg V.bl ?_)
    rw [show inV (.int ((3 : Nat) : Int)) [V.int 2, V.int 3] = decide (((3 : Nat) : Int) ∈ ([2, 3] : List Int)) from inV_int (ns := [2, 3]), decide_eq_true (by decide)]
    rfl
  have e12 := e1.trans e2
  refine q_no (et_test (ev_is (ev_eqI (ev_lenX (n := 3) (ev_var rfl) (.inl (e12 _ _ hp)) rfl) ev_c) (congrArg V.bl (decide_eq_false (by decide))))) fun H3 e3 => ?_
  have e13 := e12.trans e3
  refine s_ret (ev_and2 (ev_eqSy (ed_str (ev_ixE (v := .str "grows") (ev_var rfl) (.inl (e13 _ _ hp)) rfl)) ed_cs) (ev_call (vs := [v, mv, .ref l1, .ref l2]) (ea_cons (ev_var rfl) (ea_cons (ev_var rfl) (ea_cons (ev_ixE (ev_var rfl) (.inl (e13 _ _ hp)) rfl) (ea_cons (ev_ixE (ev_var rfl) (.inl (e13 _ _ hp)) rfl) ea_nil)))) fun H4 e4 Q q E => ⟨v, mv, l1, l2, n, m, stem, lap, rfl, hn.ex (e13.trans e4), ok, hm.ex (e13.trans e4), mo, (e13.trans e4) _ _ h1, (e13.trans e4) _ _ h2, hG, q⟩)) fun H4 e4 => k H4 (e13.trans e4)
end
end Mt

set_option maxHeartbeats 4000000
/-! the law's draws -/
namespace Mt
open PySem L2 Evl
def PoolAt (H : Hp) (l : Addr) : Prop := ∃ a b : Int, H l = some (.lst [.int a, .int b]) ∧ 0 ≤ a ∧ 0 ≤ b ∧ b < 2147483647
/-- all but the pool stays -/
def Kx (l : Addr) (H H' : Hp) : Prop := (∀ q o, q ≠ l → H q = some o → H' q = some o) ∧ PoolAt H' l
theorem Kx.refl {l : Addr} {H : Hp} (p : PoolAt H l) : Kx l H H := ⟨fun _ _ _ h => h, p⟩
theorem Kx.trans {l : Addr} {H H1 H2 : Hp} (a : Kx l H H1) (b : Kx l H1 H2) : Kx l H H2 := ⟨fun q o n h => b.1 q o n (a.1 q o n h), b.2⟩
theorem PoolAt.ex {l : Addr} {H H' : Hp} (p : PoolAt H l) (e : Ex H H') : PoolAt H' l := by
  obtain ⟨a, b, h, k⟩ := p
  exact ⟨a, b, e _ _ h, k⟩
theorem Kx.of {l : Addr} {H H' : Hp} (p : PoolAt H l) (e : Ex H H') : Kx l H H' := ⟨fun q o _ h => e q o h, p.ex e⟩
theorem Kx.tx {l : Addr} {H H' : Hp} (p : PoolAt H l) (k : Kx l H H') : Tx H H' := fun q u t h => by
  obtain ⟨a, b, hl, _⟩ := p
  refine k.1 q u (fun e => ?_) h
  rw [e, hl] at h
  exact nt_lst (Option.some.inj h ▸ t)
theorem Kx.none {l : Addr} {H H' : Hp} {q : Addr} (p : PoolAt H l) (k : Kx l H H') (h : H' q = none) : H q = none := by
  cases e : H q with
  | none => rfl
  | some o =>
    by_cases z : q = l
    · obtain ⟨a, b, hl, _⟩ := k.2
      rw [z, hl] at h
      cases h
    · rw [k.1 q o z e] at h
      cases h
section
variable {P : Program} {w : World} {K : PySem.W.Frag} {mg : Str → Option Value} {base : Heap}
def spTake : Sp := fun vs H Q _ => ∃ (l : Addr) (many : Nat), vs = [.ref l, .int (many : Int)] ∧ PoolAt H l ∧ 0 < many ∧ many ≤ 100000 ∧ ∀ (i : Nat) H', i < many → Kx l H H' → Q (.int (i : Int)) H'
theorem mod_nat {a : Int} {many : Nat} (h : 0 < many) : ∃ i : Nat, i < many ∧ a % (many : Int) = (i : Int) := by
  have h1 := Int.emod_nonneg a (b := (many : Int)) (by omega)
  have h2 := Int.emod_lt_of_pos a (b := (many : Int)) (by omega)
  exact ⟨(a % (many : Int)).toNat, by omega, by omega⟩
theorem sc_ltake : FnScope ["_law_pool_here", "_law_many", "_law_found"] ["_law_pool_here", "_law_many"] (defScope (top 69)) := ⟨rfl, rfl, rfl, by decide +kernel, rfl, by decide +kernel, by decide +kernel⟩
theorem ok_ltake {f : Addr} {fd : FuncData} (F : Fun K "_law_take" "_law_take" (top 69) f fd) : FnOk P w K mg base CX0 1 f fd ["_law_pool_here", "_law_many"] spTake := by
  refine F.ok sc_ltake (fun vs H Q E h => (by obtain ⟨l, many, rfl, _⟩ := h; rfl)) (fun cdv A outer s H vs Q E hr h => ?_)
  obtain ⟨l, many, rfl, ⟨a, b, hl, ha, hb, hb2⟩, hm, hm2, k⟩ := h
  refine ⟨_, (pss_cons (ps_if (pt_cmpR op_gt (pe_ix (r := rIxL K) ix_list (pv 0) pe_int (fun _ _ => rfl)) pe_int (nomark _)) (pss_cons (ps_set (i := 2) sc_ltake.nd rfl (Or.inl rfl) (pe_op op_mod (pe_ix (r := rIxL K) ix_list (pv 0) pe_int (fun _ _ => rfl)) (pv 1)))
      (pss_cons (ps_asg (pe_op op_fdiv (pe_ix (r := rIxL K) ix_list (pv 0) pe_int (fun _ _ => rfl)) (pv 1)) (pg_sub (pv 0) pe_int set_list))
      (pss_one (ps_ret (pv 2))))) pss_nil)
      (pss_cons (ps_asg (pe_op op_mod (pe_op op_add (pe_op op_mul (pe_ix (r := rIxL K) ix_list (pv 0) pe_int (fun _ _ => rfl)) pe_int) pe_int) pe_int) (pg_sub (pv 0) pe_int set_list))
      (pss_one (ps_ret (pe_op op_mod (pe_op op_fdiv (pe_op op_mod (pe_op op_mul (pe_ix (r := rIxL K) ix_list (pv 0) pe_int (fun _ _ => rfl)) (pe_ix (r := rIxL K) ix_list (pv 0) pe_int (fun _ _ => rfl))) pe_int) pe_int) (pv 1)))))), ?_⟩
  have v0 : ∀ {σ : L2.St} {H1 : Hp} {x y : V}, σ[0]? = some (some (.ref l)) → H1 l = some (.lst [x, y]) → Ev (tOp (rIxL K) (tVar 0) (tC (.int 0))) σ H1 x := fun {σ H1 x y} h1 h2 => ev_op (ev_var h1) ev_c (rv_ixL (SqL.of h2) rfl)
  have v1 : ∀ {σ : L2.St} {H1 : Hp} {x y : V}, σ[0]? = some (some (.ref l)) → H1 l = some (.lst [x, y]) → Ev (tOp (rIxL K) (tVar 0) (tC (.int 1))) σ H1 y := fun {σ H1 x y} h1 h2 => ev_op (ev_var h1) ev_c (rv_ixL (SqL.of h2) rfl)
  refine q_when (b := decide ((0 : Int) < a)) (et_test (ev_op (v0 rfl hl) ev_c rv_I0)) (fun hpos H1 e1 => ?_) fun hpos H1 e1 => ?_
  · obtain ⟨i, hi, ei⟩ := mod_nat (a := a) hm
    refine q_asg (ev_is (ev_op (v0 rfl (e1 _ _ hl)) (ev_var rfl) (rv_I (show (0 : Int) < (many : Int) by omega))) (congrArg V.int ei)) fun H2 e2 => ?_
    refine q_asgE (ev_op (v0 rfl (e2 _ _ (e1 _ _ hl))) (ev_var rfl) (rv_I (show CDiv a (many : Int) from ⟨by omega, by omega⟩))) fun H3 e3 => ?_
    have hl3 := e3 _ _ (e2 _ _ (e1 _ _ hl))
    refine ⟨_, rfl, l, _, 0, 0, rfl, rfl, hl3, rfl, ?_⟩
    refine s_ret (ev_var rfl) fun H4 e4 => ?_
    refine k i H4 hi ⟨fun q o hq ho => e4 _ _ ?_, a / (many : Int), b, e4 _ _ upd_same, Int.ediv_nonneg ha (by omega), hb, hb2⟩
    rw [upd_ne hq]
    exact e3 _ _ (e2 _ _ (e1 _ _ ho))
  · refine q_asgE (ev_op (ev_op (ev_op (v1 rfl (e1 _ _ hl)) ev_c (rv_I (show CMul b 48271 from .inr ⟨by decide, by decide⟩))) ev_c rv_I0) ev_c (rv_I (show (0 : Int) < 2147483647 by decide))) fun H3 e3 => ?_
    have hl3 := e3 _ _ (e1 _ _ hl)
    refine ⟨_, rfl, l, _, 1, 1, rfl, rfl, hl3, rfl, ?_⟩
    generalize hb' : (b * 48271 + 11) % 2147483647 = b'
    have b0 : 0 ≤ b' := by rw [← hb']; exact Int.emod_nonneg _ (by decide)
    have b1 : b' < 2147483647 := by rw [← hb']; exact Int.emod_lt_of_pos _ (by decide)
    have hl4 : (upd H3 l (.lst ([.int a, .int b].set 1 (.int b')))) l = some (.lst [.int a, .int b']) := upd_same
    obtain ⟨i, hi, ei⟩ := mod_nat (a := b' * b' % 2147483629 / 64) hm
    refine s_ret (ev_is (ev_op (ev_op (ev_op (ev_op (v1 rfl hl4) (v1 rfl hl4) (rv_I (show CMul b' b' from .inr ⟨by omega, by omega⟩))) ev_c (rv_I (show (0 : Int) < 2147483629 by decide))) ev_c (rv_I (show CDiv _ 64 from ⟨by decide, by decide⟩))) (ev_var rfl) (rv_I (show (0 : Int) < (many : Int) by omega))) (congrArg V.int ei)) fun H4 e4 => ?_
    refine k i H4 hi ⟨fun q o hq ho => e4 _ _ ?_, a, b', e4 _ _ hl4, ha, b0, b1⟩
    rw [upd_ne hq]
    exact e3 _ _ (e1 _ _ ho)
def spOne (K : PySem.W.Frag) : Sp := fun vs H Q _ => ∃ (l p : Addr) (xs : List V), vs = [.ref l, .ref p] ∧ PoolAt H l ∧ p ≠ l ∧ (H p = some (.lst xs) ∨ Rd H p (.tup xs)) ∧ 0 < xs.length ∧ xs.length ≤ 100000 ∧ ∀ (i : Nat) (v : V) (H' : Hp), xs[i]? = some v → Kx l H H' → Q v H'
theorem sc_lone : FnScope ["_law_pool_here", "_law_some"] ["_law_pool_here", "_law_some"] (defScope (top 70)) := ⟨rfl, rfl, rfl, by decide +kernel, rfl, by decide +kernel, by decide +kernel⟩
theorem ok_lone {f : Addr} {fd : FuncData} (F : Fun K "_law_one" "_law_one" (top 70) f fd) (D_ltake : Df P w K mg base "_law_take" 1 ["_law_pool_here", "_law_many"] spTake) (B : Blt mg) : FnOk P w K mg base CX0 2 f fd ["_law_pool_here", "_law_some"] (spOne K) := by
  refine F.ok sc_lone (fun vs H Q E h => (by obtain ⟨l, many, _, rfl, _⟩ := h; rfl)) (fun cdv A outer s H vs Q E hr h => ?_)
  obtain ⟨l, p, xs, rfl, pl, hne, hp, h0, h1, k⟩ := h
  refine ⟨_, (pss_one (ps_ret (pe_ix (r := rIx K) ix_seq (pv 1) (pe_df D_ltake (hr.mono (by decide)) (by rfl) (pa_cons (pv 0) (pa_cons (pe_callB (r := Evl.rLenS K) (CallR_len _) (by rfl) B.len bt_len (pa_cons (pv 1) pa_nil)) pa_nil))) (fun _ _ => rfl)))), ?_⟩
  refine ⟨.ref p, rfl, .ref l, rfl, .ref p, rfl, p, xs, rfl, ?_, l, xs.length, rfl, pl, h0, h1, fun i H' hi kx => ?_⟩
  · rcases hp with hp | hp
    · exact .inl (SqL.of hp)
    · exact .inr (.inl hp)
  · have hx : xs[i]? = some xs[i] := List.getElem?_eq_getElem hi
    rcases hp with hp | hp
    · exact .inl ⟨p, xs, (i : Int), xs[i], rfl, rfl, SqL.of (kx.1 p _ hne hp), atI_nat hx, k i _ _ hx kx⟩
    · refine .inr (.inl ⟨p, xs, (i : Int), xs[i], rfl, rfl, .inl ((kx.tx pl).rd hp), atI_nat hx, k i _ _ hx kx⟩)
def spPool (K : PySem.W.Frag) : Sp := fun vs H Q _ => ∃ (a : Addr) (ns : List Int) (j : Nat), vs = [.ref a, .int (j : Int)] ∧ SqL K H a (ns.map V.int) ∧ j ≤ 100 ∧ ns.length ≤ 100000 ∧ ∀ v H2, Ex H H2 → (∃ l, v = .ref l ∧ H l = none ∧ PoolAt H2 l) → Q v H2
theorem sc_lpool : FnScope ["_law_script", "_law_k", "_law_cell", "_law_size", "_law_seed"] ["_law_script", "_law_k"] (defScope (top 68)) := ⟨rfl, rfl, rfl, by decide +kernel, rfl, by decide +kernel, by decide +kernel⟩
theorem ok_lpool {f : Addr} {fd : FuncData} (F : Fun K "_law_pool" "_law_pool" (top 68) f fd) (B : Blt mg) : FnOk P w K mg base CX0 1 f fd ["_law_script", "_law_k"] (spPool K) := by
  refine F.ok sc_lpool (fun vs H Q E h => (by obtain ⟨l, many, j, rfl, _⟩ := h; rfl)) (fun cdv A outer s H vs Q E hr h => ?_)
  obtain ⟨a, ns, j, rfl, hs, hj, hl, k⟩ := h
  refine ⟨_, (pss_cons (ps_set (i := 2) sc_lpool.nd rfl (Or.inl rfl) (pe_ix (r := rIxL K) ix_list (pe_op op_cat (pe_slice (r := rSlL K) sl_list (pv 0) (po_some (pv 1)) (po_some (pe_op op_add (pv 1) pe_int))) (pe_lst (pa_cons pe_int pa_nil))) pe_int (fun _ _ => rfl)))
      (pss_cons (ps_set (i := 3) sc_lpool.nd rfl (Or.inl rfl) (pe_callB (call_max2 rfl) (by rfl) B.max bt_max (pa_cons (pv 2) (pa_cons (pe_op op_sub (pe_un un_neg pe_int) (pv 2)) pa_nil))))
      (pss_cons (ps_set (i := 4) sc_lpool.nd rfl (Or.inl rfl) (pe_op op_mod (pe_op op_mul (pe_op op_add (pe_op op_add (pe_op op_mod (pv 3) pe_int) (pe_op op_mul pe_int (pv 1))) pe_int) pe_int) pe_int))
      (pss_one (ps_ret (pe_lst (pa_cons (pe_op op_mul (pv 3) (pe_callTy call_int1 (by rfl) B.int bt_int (pa_cons (pe_cmpR op_ge (pv 3) (pe_op op_pow pe_int pe_int) (nomark _)) pa_nil))) (pa_cons (pv 4) pa_nil)))))))), ?_⟩
  have cutE : ∃ ms : List Int, cutV (ns.map V.int) (some (j : Int)) (some ((j : Int) + 1)) = ms.map V.int ∧ ms.length ≤ 100000 := by
    unfold cutV
    refine ⟨((ns.drop (HT.sIx (ns.map V.int).length 0 (some (j : Int)))).take (HT.sIx (ns.map V.int).length (ns.map V.int).length (some ((j : Int) + 1)) - HT.sIx (ns.map V.int).length 0 (some (j : Int)))), ?_, ?_⟩
    · rw [List.map_take, List.map_drop]
    · rw [List.length_take, List.length_drop]
      omega
  obtain ⟨ms, hms, hml⟩ := cutE
  have el : EvL (tOp rCat (tSl (rSlL K) (tVar 0) (tPart (tVar 1)) (tPart (tOp (rI0 fun i j => .int (i + j)) (tVar 1) (tC (.int 1))))) (tLst (tCons (tC (.int 0)) tNil))) (L2.start ["_law_script", "_law_k", "_law_cell", "_law_size", "_law_seed"] [.ref a, .int (j : Int)]) H ((ms ++ [0]).map V.int) := fun H1 e Q q => by
    have h1 := el_sl (K := K) (te := tVar 0) (tl := tPart (tVar 1)) (th := tPart (tOp (rI0 fun i j => .int (i + j)) (tVar 1) (tC (.int 1)))) (σ := L2.start ["_law_script", "_law_k", "_law_cell", "_law_size", "_law_seed"] [.ref a, .int (j : Int)]) (H := H) (ev_var rfl) (eo_some (ev_var rfl)) (eo_some (ev_op (ev_var rfl) ev_c rv_I0)) hs
    refine h1 H1 e _ fun p H2 hp e2 h2 => ?_
    rw [hms] at h2
    refine (el_lst (ea_cons (ev_c (v := .int 0)) ea_nil) (show 1 ≤ 100000 by decide)) H2 (Ex.refl _) _ fun r H3 hr e3 h3 => ?_
    refine ⟨p, r, ms.map V.int, [.int 0], rfl, rfl, e3 _ _ h2, h3, ?_, fun t ht => q t _ (fresh_back (e2.trans e3) ht) ((e2.trans e3).trans (Ex.new ht)) ?_⟩
    · rw [List.length_map]
      exact Nat.le_trans (Nat.add_le_add_right hml 1) (by decide)
    · rw [upd_same, List.map_append]
      rfl
  obtain ⟨c, hc⟩ : ∃ c, (ms ++ [0])[0]? = some c := by
    cases ms with
    | nil => exact ⟨0, rfl⟩
    | cons x r => exact ⟨x, rfl⟩
  refine q_asgP (Φ := fun v H2 => v = .int c) (fun H1 e Q q => el H1 e _ fun p H2 hp e2 h2 => ⟨p, _, 0, .int c, rfl, rfl, SqL.of h2, atI_nat (i := 0) (by rw [List.getElem?_map, hc]; rfl), q _ H2 e2 rfl⟩) fun v H1 e1 hv => ?_
  subst hv
  refine q_asg (v := .int (if -1 - c > c then -1 - c else c)) (fun H2 e2 Q q => ?_) fun H2 e2 => ?_
  · exact (ea_cons (ev_var (v := .int c) rfl) (ea_cons (ev_op (ev_un (ev_c (v := .int 1)) ru_neg) (ev_var (v := .int c) rfl) (rv_I0 (g := fun i j => .int (i - j)))) ea_nil)) H2 e2 _ fun H3 e3 => ⟨c, -1 - c, rfl, q H3 e3⟩
  have hs0 : 0 ≤ (if -1 - c > c then -1 - c else c) := by
    split <;> omega
  generalize (if -1 - c > c then -1 - c else c) = sz at hs0
  refine q_asg (ev_op (ev_op (ev_op (ev_op (ev_op (ev_var rfl) ev_c (rv_I (show (0 : Int) < 2147483629 by decide))) (ev_op ev_c (ev_var rfl) (rv_I (show CMul 7919 (j : Int) from .inl ⟨by decide, by decide⟩))) rv_I0) ev_c rv_I0) ev_c (rv_I (show CMul _ 48271 from .inr ⟨by decide, by decide⟩))) ev_c (rv_I (show (0 : Int) < 2147483647 by decide))) fun H3 e3 => ?_
  generalize hsd : (sz % 2147483629 + 7919 * (j : Int) + 1) * 48271 % 2147483647 = sd
  have d0 : 0 ≤ sd := by rw [← hsd]; exact Int.emod_nonneg _ (by decide)
  have d1 : sd < 2147483647 := by rw [← hsd]; exact Int.emod_lt_of_pos _ (by decide)
  obtain ⟨bb, hbb⟩ : ∃ bb : Bool, bb = decide ((10 : Int) ^ (18 : Int).toNat ≤ sz) := ⟨_, rfl⟩
  have hb1 : CMul sz (if bb then 1 else 0) := by
    cases bb
    · exact .inr ⟨by decide, by decide⟩
    · exact .inr ⟨by decide, by decide⟩
  refine s_retL (el_lst (ea_cons (ev_op (ev_var rfl) (ev_cb (vs := [.bl bb]) (z := .int (if bb then 1 else 0)) (ea_cons (ev_is (ev_op (ev_var rfl) (ev_op ev_c ev_c (rv_I (show CPow 10 18 from ⟨by decide, by decide, by decide⟩))) rv_I0) (congrArg V.bl hbb.symm)) ea_nil) fun H5 e5 Q q => .inr ⟨bb, rfl, q H5 (Ex.refl _)⟩) (rv_I hb1)) (ea_cons (ev_var rfl) ea_nil)) (show 2 ≤ 100000 by decide)) fun l H4 hl e4 h4 => ?_
  refine k _ H4 (((e1.trans e2).trans e3).trans e4) ⟨l, rfl, fresh_back ((e1.trans e2).trans e3) hl, _, _, h4, ?_, d0, d1⟩
  cases bb
  · simp
  · simpa using hs0
end
end Mt

set_option maxHeartbeats 4000000
/-! the law's nets -/
namespace Mt
open PySem L2 Evl
section
variable {K : PySem.W.Frag} {σ : L2.St} {H : Hp} {te ta tb : TE} {D : Ends} {tz : TS} {Φ : V → Hp → Prop} {ds es : List PyData} {d : PyData}
theorem q_asgGX {g : TG} (h : ∀ Q : VK, (∀ v H2, Φ v H2 → Q v H2) → te σ H Q) (k : ∀ v H1, Φ v H1 → g v σ H1 (tz D)) : tSeq (tAsg te g) tz D σ H := h _ k
theorem en_cat (h1 : EvN ta σ H ds) (h2 : EvN tb σ H es) (hl : ds.length + es.length ≤ 100000) : EvN (tOp rCat ta tb) σ H (ds ++ es) := fun H1 e Q q => h1 H1 e _ fun p xs H2 hp e2 h2' k2 => h2 H2 (e.trans e2) _ fun r ys H3 hr e3 h3 k3 => ⟨p, r, xs, ys, rfl, rfl, e3 _ _ h2', h3, sz_of (by rw [k2.len, k3.len]; exact hl), fun t ht => q t _ _ (fresh_back (e2.trans e3) ht) ((e2.trans e3).trans (Ex.new ht)) upd_same (((k2.ex e3).app k3).ex (Ex.new ht))⟩
theorem ed_rep {m : Nat} (ha : EvD ta σ H (.tuple [d])) (hb : Ev tb σ H (.int (m : Int))) (hm : m ≤ 2) : EvD (tOp (rRepU K) ta tb) σ H (.tuple (List.replicate m d)) := fun H1 e Q q => ha H1 e _ fun v H2 e2 mv => hb H2 (e.trans e2) _ fun H3 e3 => by
  obtain ⟨p, xs, rfl, hp, k⟩ := (mv.ex e3).tup_iff
  obtain ⟨x, r, rfl, m1, k1⟩ := k.cons_iff
  obtain rfl := k1.nil_iff
  refine ⟨p, (m : Int), [x], rfl, rfl, .inl hp, (fun e => nomatch e), show 1 ≤ 1000 by decide, ?_⟩
  have hcase : m = 0 ∨ m = 1 ∨ m = 2 := by omega
  rcases hcase with rfl | rfl | rfl
  · exact .inl ⟨rfl, fun t ht => q _ _ ((e2.trans e3).trans (Ex.new ht)) (im_tup upd_same ims_nil)⟩
  · exact .inr (.inl ⟨rfl, q _ _ (e2.trans e3) (mv.ex e3)⟩)
  · exact .inr (.inr ⟨by decide, by decide, fun t ht => q _ _ ((e2.trans e3).trans (Ex.new ht)) (im_tup upd_same (ims_cons (m1.ex (Ex.new ht)) (ims_cons (m1.ex (Ex.new ht)) ims_nil)))⟩)
theorem en_ops {kn : List Str} {j : Nat} {vs : List Nat} (h : EvS ta σ H (kn.map PyData.str)) (hw : ∀ x : V, wipe ((wipe σ vs).set j (some x)) vs = wipe σ vs) (hj : ∀ x : V, ((wipe σ vs).set j (some x))[j]? = some (some x)) (hl : kn.length ≤ 100) :
    EvN (tOp rCat (tLc (iList K ta) (gName j) tYes (tTup (tCons (tC (.str "of")) (tCons (tVar j) tNil))) vs) (tLst (tCons (tTup (tCons (tC (.str "is")) (tCons (tC (.int 1)) tNil))) (tCons (tTup (tCons (tC (.str "is")) (tCons (tC (.bl false)) tNil))) (tCons (tTup (tCons (tC (.str "own")) tNil)) tNil))))) σ H ((kn.map Opn.of ++ [Opn.one, Opn.fls, Opn.own]).map Opn.enc) := by
  have hds : (kn.map fun n => (Opn.of n).enc) ++ [Opn.one.enc, Opn.fls.enc, Opn.own.enc] = (kn.map Opn.of ++ [Opn.one, Opn.fls, Opn.own]).map Opn.enc := by
    rw [List.map_append, List.map_map]
    rfl
  rw [← hds]
  refine en_cat (en_map (enc := PyData.str) (id_list h) (by omega) (fun n => (Opn.of n).enc) fun n hn x H3 e mx Kt q => g_name (q _ (hw x) (ed_tup (eds2 ed_cs (ed_var (hj x) mx)) (show 2 ≤ 100000 by decide)))) (en_lst (eds3 (ed_tup (eds2 ed_cs ed_ci) (show 2 ≤ 100000 by decide)) (ed_tup (eds2 ed_cs ed_cb) (show 2 ≤ 100000 by decide)) (ed_tup (eds1 ed_cs) (show 1 ≤ 100000 by decide))) (show 3 ≤ 100000 by decide)) ?_
  rw [List.length_map]
  show kn.length + 3 ≤ 100000
  omega
end
section
variable {P : Program} {w : World} {K : PySem.W.Frag} {mg : Str → Option Value} {base : Heap}
def spNetDeed : Sp := fun vs H Q _ => ∃ (l kl : Addr) (pv : V) (pl : Pls) (kn : List Str), vs = [.ref l, pv, .ref kl] ∧ PoolAt H l ∧ kl ≠ l ∧ Im H pv (plD pl) ∧ H kl = some (.lst (kn.map V.str)) ∧ PlOk pl ∧ (∀ n ∈ kn, gw n = true) ∧ kn.length ≤ 100 ∧
  ∀ (v : V) (H' : Hp) (d : Deed), Kx l H H' → Im H' v d.enc → d.ok pl → (∀ n, d.op = .of n → n ∈ kn) → Q v H'
theorem sc_lnet_deed : FnScope ["_law_pool_here", "_law_places", "_law_known", "_law_way", "_law_one_here", "_law_place", "_law_many", "_law_name"] ["_law_pool_here", "_law_places", "_law_known"] (defScope (top 71)) := ⟨rfl, rfl, rfl, by decide +kernel, rfl, by decide +kernel, by decide +kernel⟩
theorem ok_lnet_deed {f : Addr} {fd : FuncData} (F : Fun K "_law_net_deed" "_law_net_deed" (top 71) f fd) (D_lone : Df P w K mg base "_law_one" 2 ["_law_pool_here", "_law_some"] (spOne K)) (D_ltake : Df P w K mg base "_law_take" 1 ["_law_pool_here", "_law_many"] spTake) : FnOk P w K mg base CX0 3 f fd ["_law_pool_here", "_law_places", "_law_known"] spNetDeed := by
  refine F.ok sc_lnet_deed (fun vs H Q E h => (by obtain ⟨l, many, _, _, _, rfl, _⟩ := h; rfl)) (fun cdv A outer s H vs Q E hr h => ?_)
  obtain ⟨l, kl, pv', pl, kn, rfl, po, hne, mp, hk, pok, hgw, hkl, k⟩ := h
  refine ⟨_, (pss_cons (ps_set (i := 3) sc_lnet_deed.nd rfl (Or.inl rfl) (pe_df D_ltake (hr.mono (by decide)) (by rfl) (pa_cons (pv 0) (pa_cons pe_int pa_nil))))
      (pss_cons (ps_set (i := 4) sc_lnet_deed.nd rfl (Or.inl rfl) (pe_df D_lone (hr.mono (by decide)) (by rfl) (pa_cons (pv 0) (pa_cons (pe_op op_cat (pe_lc (own := [("_law_name", 7)]) rfl sc_lnet_deed.nd (pi_listK (K := K) rfl (pv 2)) (blkOk_by (own := [("_law_name", 7)]) (N := ["_law_pool_here", "_law_places", "_law_known", "_law_way", "_law_one_here", "_law_place", "_law_many", "_law_name"]) (sc := defScope (top 71)) (by decide +kernel)) (fun _ _ _ _ _ => (pg_name (i := 7) sc_lnet_deed.nd rfl (Or.inl rfl) (by first | exact Or.inl rfl | exact Or.inr rfl))) (fun _ _ _ _ _ => pts_nil) (fun _ _ _ _ _ => (pe_tup (pa_cons pe_str (pa_cons (pv 7) pa_nil))))) (pe_lst (pa_cons (pe_tup (pa_cons pe_str (pa_cons pe_int pa_nil))) (pa_cons (pe_tup (pa_cons pe_str (pa_cons pe_bl pa_nil))) (pa_cons (pe_tup (pa_cons pe_str pa_nil)) pa_nil))))) pa_nil))))
      (pss_cons (ps_if (pt_cmpR op_eq (pv 3) pe_int (nomark _)) (pss_one (ps_ret (pe_tup (pa_cons pe_str (pa_cons (pv 4) pa_nil))))) pss_nil)
      (pss_cons (ps_if (pt_cmpR op_eq (pv 3) pe_int (nomark _)) (pss_one (ps_ret (pe_tup (pa_cons pe_str (pa_cons pe_str (pa_cons (pv 4) pa_nil)))))) pss_nil)
      (pss_cons (ps_asg (pe_df D_lone (hr.mono (by decide)) (by rfl) (pa_cons (pv 0) (pa_cons (pv 1) pa_nil))) (pg_tupK (K := K) (n := 2) rfl rfl (pgs_cons (pg_name (i := 5) sc_lnet_deed.nd rfl (Or.inl rfl) (by first | exact Or.inl rfl | exact Or.inr rfl)) (pgs_cons (pg_name (i := 6) sc_lnet_deed.nd rfl (Or.inl rfl) (by first | exact Or.inl rfl | exact Or.inr rfl)) pgs_nil))))
      (pss_one (ps_ret (pe_tup (pa_cons pe_str (pa_cons (pv 5) (pa_cons (pe_op (r := rRepU K) op_repU (pe_tup (pa_cons (pv 4) pa_nil)) (pv 6)) pa_nil))))))))))), ?_⟩
  refine q_asgX (Φ := fun v H1 => ∃ i : Nat, v = .int (i : Int) ∧ Kx l H H1) (fun Q q => ⟨.ref l, rfl, l, 7, rfl, po, by decide, by decide, fun i H' _ kx => q _ _ ⟨i, rfl, kx⟩⟩) fun v H1 ⟨i, hv, k1⟩ => ?_
  subst hv
  have hk1 : H1 kl = some (.lst (kn.map V.str)) := k1.1 _ _ hne hk
  have p1 := k1.2
  refine q_asgX (Φ := fun v H2 => ∃ o : Opn, Im H2 v o.enc ∧ o.ok = true ∧ (∀ n, o = .of n → n ∈ kn) ∧ Kx l H1 H2) (fun Q q => ?_) fun v H2 ⟨o, mo, oo, okn, k2⟩ => ?_
  · refine ⟨.ref l, rfl, ?_⟩
    refine (en_ops (kn := kn) (es_var rfl ⟨kl, _, rfl, hk1, ims_strs kn⟩) (fun _ => rfl) (fun _ => rfl) hkl) H1 (Ex.refl _) _ fun p xs H3 hp e3 h3 k3 => ?_
    have kl3 := k3.len
    rw [List.length_map, List.length_append, List.length_map] at kl3
    have hpl : p ≠ l := fun z => by
      obtain ⟨a, b, hl, _⟩ := p1
      rw [z, hl] at hp
      cases hp
    have p3 := p1.ex e3
    refine ⟨l, p, xs, rfl, p3, hpl, .inl h3, by rw [kl3]; exact Nat.succ_pos _, by rw [kl3]; show kn.length + 3 ≤ 100000; omega, fun i v H4 hv kx => ?_⟩
    obtain ⟨d, hd, md⟩ := (k3.tx (kx.tx p3)).at' hv
    rw [List.getElem?_map] at hd
    cases ho : (kn.map Opn.of ++ [Opn.one, Opn.fls, Opn.own])[i]? with
    | none => rw [ho] at hd; cases hd
    | some o =>
      rw [ho] at hd
      cases hd
      have hm := List.mem_of_getElem? ho
      refine q _ _ ⟨o, md, ?_, fun n en => ?_, (Kx.of p1 e3).trans kx⟩
      · rcases List.mem_append.mp hm with hm | hm
        · obtain ⟨n, hn, rfl⟩ := List.mem_map.mp hm
          exact hgw n hn
        · rcases List.mem_cons.mp hm with rfl | hm
          · rfl
          rcases List.mem_cons.mp hm with rfl | hm
          · rfl
          rcases List.mem_cons.mp hm with rfl | hm
          · rfl
          cases hm
      · subst en
        rcases List.mem_append.mp hm with hm | hm
        · obtain ⟨n', hn, e⟩ := List.mem_map.mp hm
          cases e
          exact hn
        · rcases List.mem_cons.mp hm with e | hm
          · cases e
          rcases List.mem_cons.mp hm with e | hm
          · cases e
          rcases List.mem_cons.mp hm with e | hm
          · cases e
          cases hm
  have k12 := k1.trans k2
  refine q_when (b := decide ((i : Int) = 0)) (et_test (ev_eqI (ev_var rfl) ev_c)) (fun _ H3 e3 => ?_) fun _ H3 e3 => ?_
  · exact sd_ret (ed_tup (eds2 ed_cs (ed_var rfl (mo.ex e3))) (show 2 ≤ 100000 by decide)) fun v H4 e4 m4 => k v H4 (.note o) (k12.trans (Kx.of k12.2 (e3.trans e4))) m4 oo okn
  refine q_when (b := decide ((i : Int) = 1)) (et_test (ev_eqI (ev_var rfl) ev_c)) (fun _ H4 e4 => ?_) fun _ H4 e4 => ?_
  · exact sd_ret (ed_tup (eds3 ed_cs ed_cs (ed_var rfl ((mo.ex e3).ex e4))) (show 3 ≤ 100000 by decide)) fun v H5 e5 m4 => k v H5 (.set o) (k12.trans (Kx.of k12.2 ((e3.trans e4).trans e5))) m4 oo okn
  have k14 := k12.trans (Kx.of k12.2 (e3.trans e4))
  have mo4 := (mo.ex e3).ex e4
  have mp4 := mp.tx (k14.tx po)
  refine q_asgGX (Φ := fun v H5 => ∃ p ∈ pl, Im H5 v (plE p) ∧ Kx l H4 H5) (fun Q q => ?_) fun v H5 ⟨p, hp, mv, k5⟩ => ?_
  · obtain ⟨t, xs, rfl, ht, kt⟩ := mp4.tup_iff
    have ktl := kt.len
    rw [List.length_map] at ktl
    have := pok.lo
    have := pok.hi
    refine ⟨.ref l, rfl, .ref t, rfl, l, t, xs, rfl, k14.2, fun z => ?_, .inr ht, by omega, by omega, fun i v H5 hv kx => ?_⟩
    · obtain ⟨a, b, hl, _⟩ := k14.2
      rw [z] at ht
      rcases ht with ht | ⟨o, ht⟩ <;> rw [hl] at ht <;> cases ht
    · obtain ⟨d, hd, md⟩ := (kt.tx (kx.tx k14.2)).at' hv
      rw [List.getElem?_map] at hd
      cases ho : pl[i]? with
      | none => rw [ho] at hd; cases hd
      | some p =>
        rw [ho] at hd
        cases hd
        exact q _ _ ⟨p, List.mem_of_getElem? ho, md, kx⟩
  refine g_pair mv fun y z my mz => ?_
  rw [mz.int_iff]
  refine sd_ret (ed_tup (eds3 ed_cs (ed_var rfl my) (ed_rep (m := p.2) (ed_tup (eds1 (ed_var rfl (mo4.tx (k5.tx k14.2)))) (show 1 ≤ 100000 by decide)) (ev_var rfl) (pok.many p hp))) (show 3 ≤ 100000 by decide)) fun v H6 e6 m6 => k v H6 (.put p.1 o p.2) ((k14.trans k5).trans (Kx.of k5.2 e6)) m6 ⟨oo, hp⟩ okn
end
end Mt

set_option maxHeartbeats 2000000
/-! how a rule's heads come to be: plain facts -/
namespace Mt
open PySem L2 Evl
def abcd : List Str := ["a", "b", "c", "d"]
def vw (w : Str) : List Str := ["v" ++ w, "w" ++ w]
theorem vw_gw : ∀ w ∈ abcd, ∀ n ∈ vw w, gw n = true := by decide +kernel
theorem vw_nd : ∀ w ∈ abcd, (vw w).Nodup := by decide +kernel
theorem vw_dj : ∀ w ∈ abcd, ∀ u ∈ abcd, w ≠ u → ∀ n ∈ vw w, n ∉ vw u := by decide +kernel
theorem vw0_gw : ∀ n ∈ (["v", "w"] : List Str), gw n = true := by decide +kernel
theorem vw0_nd : (["v", "w"] : List Str).Nodup := by decide +kernel
theorem abcd_gw : ∀ w ∈ abcd, gw w = true := by decide +kernel
theorem abcd_nd : abcd.Nodup := by decide +kernel
theorem abcd_len : ∀ w ∈ abcd, w.length = 1 := by decide +kernel
structure HInv (pl : Pls) (k : Nat) (hs : List Head) (ks : List Str) : Prop where
  le : hs.length ≤ 3
  at_ : ∀ h ∈ hs, ∃ m, (h.1, m) ∈ pl.take k ∧ m ≤ 2 ∧ h.2 = (vw h.1).take m
  nd : (hs.map Prod.fst).Nodup
  sub : ∀ n ∈ ks, n ∈ hs.flatMap Prod.snd
  gw : ∀ n ∈ ks, gw n = true
  kl : ks.length ≤ 2 * k
theorem HInv.nil (pl : Pls) : HInv pl 0 [] [] := ⟨Nat.zero_le _, (fun _ h => nomatch h), List.nodup_nil, (fun _ h => nomatch h), (fun _ h => nomatch h), Nat.zero_le _⟩
theorem HInv.skip {pl : Pls} {k : Nat} {hs : List Head} {ks : List Str} (h : HInv pl k hs ks) : HInv pl (k + 1) hs ks :=
  ⟨h.le, fun x hx => by
    obtain ⟨m, h1, h2⟩ := h.at_ x hx
    exact ⟨m, List.IsPrefix.subset (List.take_prefix_take_left (by omega)) h1, h2⟩, h.nd, h.sub, h.gw, by have := h.kl; omega⟩
theorem ins_perm {α : Type} (l : List α) (i : Nat) (x : α) : (l.take i ++ [x] ++ l.drop i).Perm (x :: l) := by
  rw [List.append_assoc]
  have := List.perm_middle (a := x) (l₁ := l.take i) (l₂ := l.drop i)
  rwa [List.take_append_drop] at this
theorem HInv.add {pl : Pls} {k : Nat} {hs : List Head} {ks : List Str} {p : Str × Nat} (h : HInv pl k hs ks) (hp : pl[k]? = some p) (nd : (pl.map Prod.fst).Nodup) (hm : p.2 ≤ 2) (ha : p.1 ∈ abcd) (hl : hs.length < 3) (i : Nat) :
    HInv pl (k + 1) (hs.take i ++ [(p.1, (vw p.1).take p.2)] ++ hs.drop i) (ks ++ (vw p.1).take p.2) := by
  have pr := ins_perm hs i (p.1, (vw p.1).take p.2)
  refine ⟨by rw [pr.length_eq, List.length_cons]; omega, fun x hx => ?_, ?_, fun n hn => ?_, fun n hn => ?_, ?_⟩
  · rcases List.mem_cons.mp (pr.mem_iff.mp hx) with rfl | hx
    · exact ⟨p.2, by rw [take_one hp]; exact List.mem_append_right _ (List.mem_singleton.mpr rfl), hm, rfl⟩
    · exact (h.skip).at_ x hx
  · refine (pr.map Prod.fst).nodup_iff.mpr ?_
    rw [List.map_cons, List.nodup_cons]
    refine ⟨fun hin => ?_, h.nd⟩
    obtain ⟨x, hx, ex⟩ := List.mem_map.mp hin
    obtain ⟨m, h1, _⟩ := h.at_ x hx
    obtain ⟨j, hj⟩ := List.mem_iff_getElem?.mp h1
    rw [List.getElem?_take] at hj
    split at hj
    · rename_i hjk
      have hkl := (List.getElem?_eq_some_iff.mp hp).1
      have e1 : (pl.map Prod.fst)[j]? = some x.1 := by rw [List.getElem?_map, hj]; rfl
      have e2 : (pl.map Prod.fst)[k]? = some p.1 := by rw [List.getElem?_map, hp]; rfl
      have e3 : (pl.map Prod.fst)[k]? = (pl.map Prod.fst)[j]? := by rw [e1, e2, ex]
      have := (List.getElem?_inj (by rw [List.length_map]; exact hkl) nd).mp e3
      omega
    · cases hj
  · refine (pr.flatMap_right Prod.snd).mem_iff.mpr ?_
    rw [List.flatMap_cons]
    rcases List.mem_append.mp hn with hn | hn
    · exact List.mem_append_right _ (h.sub n hn)
    · exact List.mem_append_left _ hn
  · rcases List.mem_append.mp hn with hn | hn
    · exact h.gw n hn
    · exact vw_gw _ ha n (List.mem_of_mem_take hn)
  · rw [List.length_append, List.length_take]
    have := h.kl
    have : (vw p.1).length = 2 := rfl
    omega
/-- where the places come from -/
def Abc (pl : Pls) : Prop := ∀ p ∈ pl, p.1 ∈ abcd
theorem heads_nd {pl : Pls} (ab : Abc pl) : ∀ {hs : List Head}, (hs.map Prod.fst).Nodup → (∀ h ∈ hs, ∃ m, (h.1, m) ∈ pl ∧ h.2 = (vw h.1).take m) → (hs.flatMap Prod.snd).Nodup ∧ ∀ n ∈ hs.flatMap Prod.snd, ∃ h ∈ hs, n ∈ vw h.1
  | [], _, _ => ⟨List.nodup_nil, fun _ h => nomatch h⟩
  | h :: hs, nd, at_ => by
    rw [List.map_cons, List.nodup_cons] at nd
    obtain ⟨i1, i2⟩ := heads_nd ab nd.2 fun x hx => at_ x (List.mem_cons_of_mem _ hx)
    obtain ⟨m, hm, he⟩ := at_ h (List.mem_cons_self ..)
    rw [List.flatMap_cons]
    refine ⟨List.nodup_append.mpr ⟨?_, i1, fun a ha b hb e => ?_⟩, fun n hn => ?_⟩
    · rw [he]
      exact (vw_nd _ (ab _ hm)).sublist (List.take_sublist _ _)
    · obtain ⟨g, hg, hn⟩ := i2 b hb
      obtain ⟨m2, hm2, _⟩ := at_ g (List.mem_cons_of_mem _ hg)
      rw [he] at ha
      refine vw_dj _ (ab _ hm) _ (ab _ hm2) (fun z => nd.1 ?_) a (List.mem_of_mem_take ha) (e ▸ hn)
      rw [show h.1 = g.1 from z]
      exact List.mem_map.mpr ⟨g, hg, rfl⟩
    · rcases List.mem_append.mp hn with hn | hn
      · rw [he] at hn
        exact ⟨h, List.mem_cons_self .., List.mem_of_mem_take hn⟩
      · obtain ⟨g, hg, hn⟩ := i2 n hn
        exact ⟨g, List.mem_cons_of_mem _ hg, hn⟩
theorem HInv.ok {pl : Pls} {hs : List Head} {ks : List Str} (h : HInv pl pl.length hs ks) (ab : Abc pl) (h0 : hs ≠ []) : HeadsOk pl hs := by
  have at1 : ∀ x ∈ hs, ∃ m, (x.1, m) ∈ pl ∧ m ≤ 2 ∧ x.2 = (vw x.1).take m := fun x hx => by
    obtain ⟨m, h1, h2⟩ := h.at_ x hx
    rw [List.take_length] at h1
    exact ⟨m, h1, h2⟩
  refine ⟨?_, Nat.le_succ_of_le h.le, fun x hx => ?_, fun x hx n hn => ?_, h.nd, (heads_nd ab h.nd fun x hx => ?_).1⟩
  · cases hs with
    | nil => exact absurd rfl h0
    | cons a l => exact Nat.succ_pos _
  · obtain ⟨m, h1, h2, h3⟩ := at1 x hx
    have : x.2.length = m := by
      rw [h3, List.length_take]
      have : (vw x.1).length = 2 := rfl
      omega
    rw [this]
    exact h1
  · obtain ⟨m, h1, h2, h3⟩ := at1 x hx
    rw [h3] at hn
    exact vw_gw _ (ab _ h1) n (List.mem_of_mem_take hn)
  · obtain ⟨m, h1, h2, h3⟩ := at1 x hx
    exact ⟨m, h1, h3⟩
theorem one_ok {pl : Pls} {p : Str × Nat} (hp : p ∈ pl) (hm : p.2 ≤ 2) : HeadsOk pl [(p.1, (["v", "w"] : List Str).take p.2)] := by
  have hlen : ((["v", "w"] : List Str).take p.2).length = p.2 := by
    rw [List.length_take]
    show min p.2 2 = p.2
    omega
  refine ⟨Nat.le_refl 1, show 1 ≤ 4 by decide, fun x hx => ?_, fun x hx n hn => ?_, ?_, ?_⟩
  · rw [List.mem_singleton.mp hx]
    show (p.1, ((["v", "w"] : List Str).take p.2).length) ∈ pl
    rw [hlen]
    exact hp
  · rw [List.mem_singleton.mp hx] at hn
    exact vw0_gw n (List.mem_of_mem_take hn)
  · rw [List.map_cons, List.map_nil]
    exact List.nodup_cons.mpr ⟨fun h => (nomatch h), List.nodup_nil⟩
  · rw [List.flatMap_singleton]
    exact vw0_nd.sublist (List.take_sublist _ _)
/-- what is known behind these deeds -/
def nextL (kn : List Str) (ds : List Deed) : List Str := ds.foldl (fun k d => d.next k) kn
theorem Knw.snoc : ∀ {ds : List Deed} {kn : List Str} {d : Deed}, Knw kn ds → (∀ n, d.op = .of n → n ∈ nextL kn ds) → Knw kn (ds ++ [d])
  | [], kn, d, _, h => Knw.cons_iff.mpr ⟨h, trivial⟩
  | e :: ds, kn, d, k, h => by
    rw [Knw.cons_iff] at k
    exact Knw.cons_iff.mpr ⟨k.1, k.2.snoc h⟩
theorem nextL_snoc (kn : List Str) (ds : List Deed) (d : Deed) : nextL kn (ds ++ [d]) = d.next (nextL kn ds) := by
  unfold nextL
  rw [List.foldl_append]
  rfl
theorem next_sub {kn : List Str} {d : Deed} {n : Str} (h : n ∈ kn) : n ∈ d.next kn := by
  cases d with
  | set o => exact List.mem_cons_of_mem _ h
  | note o => exact h
  | put x o m => exact h
theorem head_can {pl : Pls} {hs : List Head} (pok : PlOk pl) (h1 : ∀ h ∈ hs, ∃ m, (h.1, m) ∈ pl) (h2 : ∀ h ∈ hs, ∀ n ∈ h.2, gw n = true) : SeqAt.shaped (.list (hs.map Head.enc)) = true := shapedL (n := 3) (by decide) fun d hd => by
  obtain ⟨h, hh, rfl⟩ := List.mem_map.mp hd
  obtain ⟨m, hm⟩ := h1 h hh
  have c1 : PyData.canLay0 (.str h.1) = true := gw_ok (pok.gw _ hm)
  have c2 : ∀ e ∈ h.2.map asN, PyData.canLay0 e = true ∧ PyData.depth e ≤ 1 := fun e he => by
    obtain ⟨n, hn, rfl⟩ := List.mem_map.mp he
    refine ⟨?_, by simp [asN, PyData.depth, PyData.depthAll]⟩
    show (PyData.canLay0 (.str "as") && (PyData.canLay0 (.str n) && true)) = true
    rw [show PyData.canLay0 (.str "as") = true by decide +kernel, gw_ok (h2 h hh n hn)]
    rfl
  refine ⟨?_, ?_⟩
  · show (PyData.canLay0 (.str h.1) && (PyData.canLayAll0 (h.2.map asN) && true)) = true
    rw [c1, canAll fun e he => (c2 e he).1]
    rfl
  · show max 0 (max (PyData.depthAll (h.2.map asN) + 1) 0) + 1 ≤ 3
    have := depAll fun e he => (c2 e he).2
    omega
end Mt

set_option maxHeartbeats 8000000
/-! the law's rules -/
namespace Mt
open PySem L2 Evl
section
variable {K : PySem.W.Frag} {σ : L2.St} {H : Hp} {te ta tb tx : TE} {tt : TT} {D : Ends} {tu tz : TS} {ds es : List PyData} {d : PyData} {g : TG}
theorem s_ifX {Φ : Bool → Hp → Prop} (h : ∀ Q : Bool → Hp → Prop, (∀ b H2, Φ b H2 → Q b H2) → tt σ H Q) (h1 : ∀ H1, Φ true H1 → tu D σ H1) (h2 : ∀ H1, Φ false H1 → D.nx σ H1) : tIfS tt tu tNext D σ H := h _ fun b H2 p => by
  cases b with
  | true =>
    show (if true = true then _ else _)
    rw [if_pos rfl]
    exact h1 H2 p
  | false =>
    show (if false = true then _ else _)
    rw [if_neg (by decide)]
    exact h2 H2 p
theorem q_ifX {Φ : Bool → Hp → Prop} (h : ∀ Q : Bool → Hp → Prop, (∀ b H2, Φ b H2 → Q b H2) → tt σ H Q) (h1 : ∀ H1, Φ true H1 → tu { D with nx := tz D } σ H1) (h2 : ∀ H1, Φ false H1 → tz D σ H1) : tSeq (tIfS tt tu tNext) tz D σ H := s_ifX (D := { D with nx := tz D }) h h1 h2
theorem q_forRX {ta : TA} {j : Nat} (B : Nat) (hB : B ≤ 1000) {Φ : Hp → Prop} (h : ∀ Q : List V → Hp → Prop, (∀ (n : Nat) H1, n ≤ B → Φ H1 → Q [.int (n : Int)] H1) → ta σ H Q) (Pv : Nat → L2.St → Hp → Prop) (h0 : ∀ H1, Φ H1 → Pv 0 σ H1)
    (hs : ∀ (i : Nat) σ' H', i < B → Pv i σ' H' → tu { D with nx := Pv (i + 1), ct := Pv (i + 1), bk := tz D } (σ'.set j (some (.int (i : Int)))) H') (hd : ∀ i σ' H', i ≤ B → Pv i σ' H' → tz D σ' H') : tSeq (tFor (iRng1 ta) (gName j) tu) tz D σ H := h _ fun n H1 hn p => by
  refine ⟨(n : Int), rfl, by omega, by omega, ?_⟩
  rw [Int.toNat_natCast]
  refine for_it (D := { D with nx := tz D }) (walk_range (lo := 0) (n := n)) Pv (h0 H1 p) (fun _ _ _ _ _ => trivial) (fun i x σ' H' H2 hi P y => ?_) fun σ' H' P => hd n σ' H' hn P
  obtain ⟨rfl, rfl⟩ := y
  refine Eq.mp ?_ (hs i σ' _ (by omega) P)
  show tu _ (σ'.set j (some (.int (i : Int)))) _ = tu _ (σ'.set j (some (.int (0 + (i : Int))))) _
  rw [Int.zero_add]
def rAddStr : R2 := fun x y H Q => ∃ i j, x = .str i ∧ y = .str j ∧ i.length + j.length ≤ sizeLine ∧ Q (.str (i ++ j)) H
theorem op_addStr {X : Cx} : OpR X (binaryOp .Add) rAddStr := op_add_str
theorem ev_addS {a b : Str} (ha : Ev ta σ H (.str a)) (hb : Ev tb σ H (.str b)) (hl : a.length + b.length ≤ 100000) : Ev (tOp rAddStr ta tb) σ H (.str (a ++ b)) := ev_op ha hb (rv_val fun H1 _ Q q => ⟨a, b, rfl, rfl, sz_of hl, q⟩)
theorem el_slN {tl th : TO} {xs : List V} {lo hi : Option Int} (h : EvL te σ H xs) (h1 : EvO tl σ H lo) (h2 : EvO th σ H hi) : EvL (tSl (rSlL K) te tl th) σ H (cutV xs lo hi) := fun H1 e Q q =>
  h H1 e _ fun p H2 hp e2 h3 => h1 H2 (e.trans e2) _ fun H3 e3 => h2 H3 ((e.trans e2).trans e3) _ fun H4 e4 => ⟨p, xs, rfl, SqL.of (e4 _ _ (e3 _ _ h3)), fun r hr => q r _ (fresh_back ((e2.trans e3).trans e4) hr) (((e2.trans e3).trans e4).trans (Ex.new hr)) upd_same⟩
theorem el_names {i j m : Nat} {w : Str} (hw : Ev (tVar i) σ H (.str w)) (hm : Ev (tVar j) σ H (.int (m : Int))) (hl : w.length ≤ 10) : EvL (tSl (rSlL K) (tLst (tCons (tOp rAddStr (tC (.str "v")) (tVar i)) (tCons (tOp rAddStr (tC (.str "w")) (tVar i)) tNil))) tNoPart (tPart (tVar j))) σ H (((vw w).take m).map V.str) := by
  have h := el_slN (K := K) (el_lst (ea_cons (ev_addS ev_c hw (show ("v" : Str).length + w.length ≤ 100000 by have : ("v" : Str).length = 1 := (by decide +kernel); omega)) (ea_cons (ev_addS ev_c hw (show ("w" : Str).length + w.length ≤ 100000 by have : ("w" : Str).length = 1 := (by decide +kernel); omega)) ea_nil)) (show 2 ≤ 100000 by decide)) eo_none (eo_some hm)
  rw [cut_take] at h
  rw [List.map_take]
  exact h
theorem el_catS {xs ys : List V} {a b : Addr} (ha : Ev ta σ H (.ref a)) (hb : Ev tb σ H (.ref b)) (h1 : H a = some (.lst xs)) (h2 : H b = some (.lst ys)) (hl : xs.length + ys.length ≤ 100000) : EvL (tOp rCat ta tb) σ H (xs ++ ys) := fun H1 e Q q => ha H1 e _ fun H2 e2 => hb H2 (e.trans e2) _ fun H3 e3 => ⟨a, b, xs, ys, rfl, rfl, ((e.trans e2).trans e3) _ _ h1, ((e.trans e2).trans e3) _ _ h2, sz_of hl, fun t ht => q t _ (fresh_back (e2.trans e3) ht) ((e2.trans e3).trans (Ex.new ht)) upd_same⟩
theorem el_catN {xs ys : List V} {a : Addr} (ha : Ev ta σ H (.ref a)) (hb : EvL tb σ H ys) (h1 : H a = some (.lst xs)) (hl : xs.length + ys.length ≤ 100000) : EvL (tOp rCat ta tb) σ H (xs ++ ys) := fun H1 e Q q => ha H1 e _ fun H2 e2 => hb H2 (e.trans e2) _ fun r H3 hr e3 h3 => ⟨a, r, xs, ys, rfl, rfl, ((e.trans e2).trans e3) _ _ h1, h3, sz_of hl, fun t ht => q t _ (fresh_back (e2.trans e3) ht) ((e2.trans e3).trans (Ex.new ht)) upd_same⟩
theorem ed_tupOf (h : EvS te σ H ds) : EvD (tCB (rTupS K) (tCons te tNil)) σ H (.tuple ds) := fun H1 e Q q => h H1 e _ fun v H2 e2 m => by
  obtain ⟨p, xs, rfl, hp, k⟩ := m
  exact ⟨p, xs, rfl, .inl ⟨SqL.of hp, fun t ht => q _ _ (e2.trans (Ex.new ht)) (im_tup upd_same (k.ex (Ex.new ht)))⟩⟩
/-- tuple([('as', name) for name in names]) -/
theorem ed_slots {ns : List Str} {j : Nat} {vs : List Nat} (h : EvS ta σ H (ns.map PyData.str)) (hw : ∀ x : V, wipe ((wipe σ vs).set j (some x)) vs = wipe σ vs) (hj : ∀ x : V, ((wipe σ vs).set j (some x))[j]? = some (some x)) (hl : ns.length ≤ 100) :
    EvD (tCB (rTupS K) (tCons (tLc (iList K ta) (gName j) tYes (tTup (tCons (tC (.str "as")) (tCons (tVar j) tNil))) vs) tNil)) σ H (slotsD ns) :=
  ed_tupOf (EvN.s (en_map (enc := PyData.str) (id_list h) (by omega) asN fun n hn x H3 e mx Kt q => g_name (q _ (hw x) (ed_tup (eds2 ed_cs (ed_var (hj x) mx)) (show 2 ≤ 100000 by decide)))))
theorem ed_head {ns : List Str} {i j jn : Nat} {vs : List Nat} {w : Str} (hw0 : Ev (tVar i) σ H (.str w)) (h : EvS (tVar jn) σ H (ns.map PyData.str)) (hw : ∀ x : V, wipe ((wipe σ vs).set j (some x)) vs = wipe σ vs) (hj : ∀ x : V, ((wipe σ vs).set j (some x))[j]? = some (some x)) (hl : ns.length ≤ 100) :
    EvD (tTup (tCons (tVar i) (tCons (tCB (rTupS K) (tCons (tLc (iList K (tVar jn)) (gName j) tYes (tTup (tCons (tC (.str "as")) (tCons (tVar j) tNil))) vs) tNil)) tNil))) σ H (Head.enc (w, ns)) :=
  ed_tup (eds2 (ed_str hw0) (ed_slots h hw hj hl)) (show 2 ≤ 100000 by decide)
theorem en_strs {ns : List Str} (h : EvL te σ H (ns.map V.str)) : EvN te σ H (ns.map PyData.str) := fun H1 e Q q => h H1 e _ fun p H2 hp e2 h2 => q p _ H2 hp e2 h2 (ims_strs ns)
theorem el_vw0 {p0 : Str × Nat} {rest : Pls} {i : Nat} (h : EvD (tVar i) σ H (plD (p0 :: rest))) : EvL (tSl (rSlL K) (tLst (tCons (tC (.str "v")) (tCons (tC (.str "w")) tNil))) tNoPart (tPart (tOp (rIxT K) (tOp (rIxT K) (tVar i) (tC (.int 0))) (tC (.int 1))))) σ H (((["v", "w"] : List Str).take p0.2).map V.str) := by
  have h2 := el_slN (K := K) (el_lst (ea_cons (ev_c (v := .str "v")) (ea_cons (ev_c (v := .str "w")) ea_nil)) (show 2 ≤ 100000 by decide)) eo_none (eo_some (i := (p0.2 : Int)) (ev_int (ed_ix1 (K := K) (ed_ix0 (K := K) h))))
  rw [cut_take] at h2
  rw [List.map_take]
  exact h2
theorem en_head1 {p0 : Str × Nat} {rest : Pls} {i j : Nat} {vs : List Nat} (h : EvD (tVar i) σ H (plD (p0 :: rest))) (hw : ∀ x : V, wipe ((wipe σ vs).set j (some x)) vs = wipe σ vs) (hj : ∀ x : V, ((wipe σ vs).set j (some x))[j]? = some (some x)) :
    EvN (tLst (tCons (tTup (tCons (tOp (rIxT K) (tOp (rIxT K) (tVar i) (tC (.int 0))) (tC (.int 0))) (tCons (tCB (rTupS K) (tCons (tLc (iList K (tSl (rSlL K) (tLst (tCons (tC (.str "v")) (tCons (tC (.str "w")) tNil))) tNoPart (tPart (tOp (rIxT K) (tOp (rIxT K) (tVar i) (tC (.int 0))) (tC (.int 1)))))) (gName j) tYes (tTup (tCons (tC (.str "as")) (tCons (tVar j) tNil))) vs) tNil)) tNil))) tNil)) σ H [Head.enc (p0.1, (["v", "w"] : List Str).take p0.2)] :=
  en_lst (eds1 (ed_tup (eds2 (ed_ix0 (ed_ix0 h)) (ed_slots (EvN.s (en_strs (el_vw0 h))) hw hj (by rw [List.length_take]; exact Nat.le_trans (Nat.min_le_right _ _) (show 2 ≤ 100 by decide)))) (show 2 ≤ 100000 by decide))) (show 1 ≤ 100000 by decide)
theorem q_dropX {Φ : V → Hp → Prop} (h : ∀ Q : VK, (∀ v H2, Φ v H2 → Q v H2) → te σ H Q) (k : ∀ v H1, Φ v H1 → tz D σ H1) : tSeq (tDrop te) tz D σ H := h _ k
theorem ed_lastL {i : Nat} (h : EvS (tVar i) σ H (ds ++ [d])) : EvD (tOp (rIxL K) (tVar i) (tUn (rU fun i => .int (-i)) (tC (.int 1)))) σ H d := ed_ixL (j := ds.length) (i := -1) h (ed_int (ev_un ev_c ru_neg)) (by rw [ixN_last (by rw [List.length_append]; exact Nat.succ_pos _), List.length_append]; rfl) (by simp)
end
section
variable {P : Program} {w : World} {K : PySem.W.Frag} {mg : Str → Option Value} {base : Heap}
theorem pool_ne {H : Hp} {l q : Addr} {o : HO} (p : PoolAt H l) (h : H q = some o) (n : ∀ a b : Int, o ≠ .lst [.int a, .int b]) : q ≠ l := fun e => by
  obtain ⟨a, b, hl, _⟩ := p
  rw [e, hl] at h
  exact n a b (Option.some.inj h).symm
theorem pool_new {H : Hp} {l q : Addr} (p : PoolAt H l) (h : H q = none) : q ≠ l := fun e => by
  obtain ⟨a, b, hl, _⟩ := p
  rw [e, hl] at h
  cases h
def spNetRule : Sp := fun vs H Q _ => ∃ (l : Addr) (pv : V) (pl : Pls), vs = [.ref l, pv] ∧ PoolAt H l ∧ Im H pv (plD pl) ∧ PlOk pl ∧ Abc pl ∧
  ∀ (v : V) (H' : Hp) (r : Rule), Kx l H H' → Im H' v r.enc → RuleOk pl r → Q v H'
theorem sc_lnet_rule : FnScope ["_law_pool_here", "_law_places", "_law_heads", "_law_known", "_law_place", "_law_many", "_law_names", "_law_deeds", "_law_turn", "_law_name"] ["_law_pool_here", "_law_places"] (defScope (top 72)) := ⟨rfl, rfl, rfl, by decide +kernel, rfl, by decide +kernel, by decide +kernel⟩
theorem ok_lnet_rule {f : Addr} {fd : FuncData} (F : Fun K "_law_net_rule" "_law_net_rule" (top 72) f fd) (D_lnet_deed : Df P w K mg base "_law_net_deed" 3 ["_law_pool_here", "_law_places", "_law_known"] spNetDeed) (D_ltake : Df P w K mg base "_law_take" 1 ["_law_pool_here", "_law_many"] spTake) (B : Blt mg) : FnOk P w K mg base CX0 4 f fd ["_law_pool_here", "_law_places"] spNetRule := by
  refine F.ok sc_lnet_rule (fun vs H Q E h => (by obtain ⟨l, many, _, rfl, _⟩ := h; rfl)) (fun cdv A outer s H vs Q E hr h => ?_)
  obtain ⟨l, pv', pl, rfl, po, mp, pok, ab, k⟩ := h
  refine ⟨_, (pss_cons (ps_set (i := 2) sc_lnet_rule.nd rfl (Or.inl rfl) (pe_lst pa_nil))
      (pss_cons (ps_set (i := 3) sc_lnet_rule.nd rfl (Or.inl rfl) (pe_lst pa_nil))
      (pss_cons (ps_for PassesOwn.never rfl (pi_tupK (K := K) rfl (pv 1)) (pg_tupK (K := K) (n := 2) rfl rfl (pgs_cons (pg_name (i := 4) sc_lnet_rule.nd rfl (Or.inl rfl) (by first | exact Or.inl rfl | exact Or.inr rfl)) (pgs_cons (pg_name (i := 5) sc_lnet_rule.nd rfl (Or.inl rfl) (by first | exact Or.inl rfl | exact Or.inr rfl)) pgs_nil))) (pss_one (ps_if (PW.pt (pw_and (pt_cmpR op_eq (pe_df D_ltake (hr.mono (by decide)) (by rfl) (pa_cons (pv 0) (pa_cons pe_int pa_nil))) pe_int (nomark _)) (pw_and1 (pt_cmpR op_lt (pe_callB (r := Evl.rLenS K) (CallR_len _) (by rfl) B.len bt_len (pa_cons (pv 2) pa_nil)) pe_int (nomark _))))) (pss_cons (ps_set (i := 6) sc_lnet_rule.nd rfl (Or.inl rfl) (pe_slice (r := rSlL K) sl_list (pe_lst (pa_cons (pe_op (r := rAddStr) op_addStr pe_str (pv 4)) (pa_cons (pe_op (r := rAddStr) op_addStr pe_str (pv 4)) pa_nil))) po_none (po_some (pv 5))))
      (pss_cons (ps_set (i := 3) sc_lnet_rule.nd rfl (Or.inl rfl) (pe_op op_cat (pv 3) (pv 6)))
      (pss_one (ps_expr (pe_bm PySem.F.plainAttrs_list PySem.F.slot_list_insert PySem.F.type_list_insert mt_insert (pv 2) (pa_cons (pe_df D_ltake (hr.mono (by decide)) (by rfl) (pa_cons (pv 0) (pa_cons (pe_op op_add (pe_callB (r := Evl.rLenS K) (CallR_len _) (by rfl) B.len bt_len (pa_cons (pv 2) pa_nil)) pe_int) pa_nil))) (pa_cons (pe_tup (pa_cons (pv 4) (pa_cons (pe_callTy (r := rTupS K) (CallR_tup _) (by rfl) B.tuple bt_tuple (pa_cons (pe_lc (own := [("_law_name", 9)]) rfl sc_lnet_rule.nd (pi_listK (K := K) rfl (pv 6)) (blkOk_by (own := [("_law_name", 9)]) (N := ["_law_pool_here", "_law_places", "_law_heads", "_law_known", "_law_place", "_law_many", "_law_names", "_law_deeds", "_law_turn", "_law_name"]) (sc := defScope (top 72)) (by decide +kernel)) (fun _ _ _ _ _ => (pg_name (i := 9) sc_lnet_rule.nd rfl (Or.inl rfl) (by first | exact Or.inl rfl | exact Or.inr rfl))) (fun _ _ _ _ _ => pts_nil) (fun _ _ _ _ _ => (pe_tup (pa_cons pe_str (pa_cons (pv 9) pa_nil))))) pa_nil)) pa_nil))) pa_nil))))))) pss_nil)))
      (pss_cut (ps_if (pt_cmpR (r := rEqD K) (op_eqD (eqd_of hr)) (pv 2) (pe_lst pa_nil) (nomark _)) (pss_cons (ps_set (i := 2) sc_lnet_rule.nd rfl (Or.inl rfl) (pe_lst (pa_cons (pe_tup (pa_cons (pe_ix (r := rIxT K) ix_tup (pe_ix (r := rIxT K) ix_tup (pv 1) pe_int (fun _ _ => rfl)) pe_int (fun _ _ => rfl)) (pa_cons (pe_callTy (r := rTupS K) (CallR_tup _) (by rfl) B.tuple bt_tuple (pa_cons (pe_lc (own := [("_law_name", 9)]) rfl sc_lnet_rule.nd (pi_listK (K := K) rfl (pe_slice (r := rSlL K) sl_list (pe_lst (pa_cons pe_str (pa_cons pe_str pa_nil))) po_none (po_some (pe_ix (r := rIxT K) ix_tup (pe_ix (r := rIxT K) ix_tup (pv 1) pe_int (fun _ _ => rfl)) pe_int (fun _ _ => rfl))))) (blkOk_by (own := [("_law_name", 9)]) (N := ["_law_pool_here", "_law_places", "_law_heads", "_law_known", "_law_place", "_law_many", "_law_names", "_law_deeds", "_law_turn", "_law_name"]) (sc := defScope (top 72)) (by decide +kernel)) (fun _ _ _ _ _ => (pg_name (i := 9) sc_lnet_rule.nd rfl (Or.inl rfl) (by first | exact Or.inl rfl | exact Or.inr rfl))) (fun _ _ _ _ _ => pts_nil) (fun _ _ _ _ _ => (pe_tup (pa_cons pe_str (pa_cons (pv 9) pa_nil))))) pa_nil)) pa_nil))) pa_nil)))
      (pss_one (ps_set (i := 3) sc_lnet_rule.nd rfl (Or.inl rfl) (pe_slice (r := rSlL K) sl_list (pe_lst (pa_cons pe_str (pa_cons pe_str pa_nil))) po_none (po_some (pe_ix (r := rIxT K) ix_tup (pe_ix (r := rIxT K) ix_tup (pv 1) pe_int (fun _ _ => rfl)) pe_int (fun _ _ => rfl))))))) pss_nil)
      (pss_cons (ps_set (i := 7) sc_lnet_rule.nd rfl (Or.inl rfl) (pe_lst pa_nil))
      (pss_cons (ps_for PassesOwn.never rfl (pi_range1 (by rfl) B.range (pa_cons (pe_df D_ltake (hr.mono (by decide)) (by rfl) (pa_cons (pv 0) (pa_cons pe_int pa_nil))) pa_nil)) (pg_name (i := 8) sc_lnet_rule.nd rfl (Or.inl rfl) (by first | exact Or.inl rfl | exact Or.inr rfl)) (pss_cons (ps_expr (pe_bm PySem.F.plainAttrs_list PySem.F.slot_list_append PySem.F.type_list_append mt_append (pv 7) (pa_cons (pe_df D_lnet_deed (hr.mono (by decide)) (by rfl) (pa_cons (pv 0) (pa_cons (pv 1) (pa_cons (pv 3) pa_nil)))) pa_nil)))
      (pss_one (ps_if (PW.pt (pw_and (pt_cmpR op_eq (pe_ix (r := rIxT K) ix_tup (pe_ix (r := rIxL K) ix_list (pv 7) (pe_un un_neg pe_int) (fun _ _ => rfl)) pe_int (fun _ _ => rfl)) pe_str (nomark _)) (pw_and1 (pt_cmpR (r := rIn K true) op_notIn_seq pe_str (pv 3) (by rfl))))) (pss_one (ps_set (i := 3) sc_lnet_rule.nd rfl (Or.inl rfl) (pe_op op_cat (pv 3) (pe_lst (pa_cons pe_str pa_nil))))) pss_nil))))
      (pss_one (ps_ret (pe_tup (pa_cons (pe_callTy (r := rTupS K) (CallR_tup _) (by rfl) B.tuple bt_tuple (pa_cons (pv 2) pa_nil)) (pa_cons (pe_callTy (r := rTupS K) (CallR_tup _) (by rfl) B.tuple bt_tuple (pa_cons (pv 7) pa_nil)) pa_nil))))))))))), ?_⟩
  have lpl := pok.hi
  refine q_asgL (el_lst ea_nil (Nat.zero_le _)) fun hl H1 hhl e1 h1 => ?_
  refine q_asgL (el_lst ea_nil (Nat.zero_le _)) fun kl0 H2 hkl e2 h2 => ?_
  have p1 := po.ex e1
  have p2 := p1.ex e2
  refine q_forD (enc := plE) (zs := pl) (id_tup (ed_var rfl (mp.ex (e1.trans e2)))) (fun H3 i σ' H' => Tx H3 H' ∧ Kx l H H' ∧ ∃ kl hs ks hv a b c, σ' = [some (.ref l), some pv', some (.ref hl), some (.ref kl), a, b, c, none, none, none] ∧ hl ≠ l ∧ kl ≠ l ∧ kl ≠ hl ∧ H' hl = some (.lst hv) ∧ Ims H' hv (hs.map Head.enc) ∧ H' kl = some (.lst (ks.map V.str)) ∧ HInv pl i hs ks)
    (fun H3 e3 => ⟨Tx.refl _, Kx.of po ((e1.trans e2).trans e3), kl0, [], [], [], _, _, _, rfl, pool_new po hhl, pool_new p1 hkl, (ne_of_none h1 hkl).symm, e3 _ _ (e2 _ _ h1), ims_nil, e3 _ _ h2, HInv.nil pl⟩) (fun H3 e3 i σ' H' _ h => h.1) (fun H3 e3 i p σ' H' x H4 hp h e4 mx => ?_) fun H3 e3 σ' H' h => ?_
  · obtain ⟨t1, kx1, kl, hs, ks, hv, a, b, c, rfl, n1, n2, n3, hH, hI, hK, inv⟩ := h
    have hpm := List.mem_of_getElem? hp
    have hm2 := pok.many p hpm
    refine g_pair mx fun y z my mz => ?_
    rw [my.str_iff, mz.int_iff]
    have kx4 := kx1.trans (Kx.of kx1.2 e4)
    have hvl := hI.len
    rw [List.length_map] at hvl
    have h3 := inv.le
    refine s_ifX (Φ := fun b H5 => Kx l H4 H5 ∧ (b = true → hs.length < 3)) (fun Q q => ?_) (fun H5 ⟨kx5, hlt⟩ => ?_) fun H5 ⟨kx5, _⟩ => ?_
    · refine ⟨.ref l, rfl, l, 2, rfl, kx4.2, by decide, by decide, fun j H5 _ kx => ⟨rfl, _, rfl, ?_⟩⟩
      by_cases hj : V.int (j : Int) = V.int 0
      · show (if decide (V.int (j : Int) = V.int 0) = true then _ else _)
        rw [if_pos (decide_eq_true hj)]
        refine ⟨.ref hl, rfl, hl, hv, rfl, .inl (SqL.of (kx.1 _ _ n1 (e4 _ _ hH))), _, _, rfl, rfl, _, rfl, q _ _ ⟨kx, fun hb => ?_⟩⟩
        have := of_decide_eq_true hb
        omega
      · show (if decide (V.int (j : Int) = V.int 0) = true then _ else _)
        rw [if_neg (by rw [decide_eq_false hj]; decide)]
        exact q _ _ ⟨kx, fun e => nomatch e⟩
    · have hlt := hlt rfl
      have hH5 := kx5.1 _ _ n1 (e4 _ _ hH)
      have hK5 := kx5.1 _ _ n2 (e4 _ _ hK)
      have hI5 := (hI.ex e4).tx (kx5.tx kx4.2)
      have ha := ab p hpm
      refine q_asgL (el_names (w := p.1) (m := p.2) (ev_var rfl) (ev_var rfl) (by rw [abcd_len _ ha]; decide)) fun nl H6 hnl e6 h6 => ?_
      have hkl2 := inv.kl
      have hil := (List.getElem?_eq_some_iff.mp hp).1
      have hnlen : (((vw p.1).take p.2).map V.str).length ≤ 2 := by
        rw [List.length_map, List.length_take]
        exact Nat.min_le_right _ _
      refine q_asgL (el_catS (ev_var rfl) (ev_var rfl) (e6 _ _ hK5) h6 (by rw [List.length_map]; omega)) fun kl' H7 hkl' e7 h7 => ?_
      have kx7 := kx4.trans (kx5.trans (Kx.of kx5.2 (e6.trans e7)))
      have hH7 := e7 _ _ (e6 _ _ hH5)
      refine ⟨.ref hl, rfl, Or.inl ⟨rfl, hv, sq_of hH7⟩, ?_⟩
      refine ⟨.ref l, rfl, .ref hl, rfl, hl, hv, rfl, .inl (SqL.of hH7), _, _, rfl, rfl, l, hs.length + 1, ?_, kx7.2, Nat.succ_pos _, by omega, fun j H8 hj kx8 => ?_⟩
      · show [V.ref l, V.int ((hv.length : Int) + 1)] = [V.ref l, V.int ((hs.length + 1 : Nat) : Int)]
        rw [hvl]
        rfl
      have hH8 := kx8.1 _ _ n1 hH7
      have nk' : kl' ≠ l := pool_new (kx4.trans (kx5.trans (Kx.of kx5.2 e6))).2 hkl'
      have nkh : kl' ≠ hl := (ne_of_none (e6 _ _ hH5) hkl').symm
      have nnl : nl ≠ l := pool_new (kx4.trans kx5).2 hnl
      have nnh : nl ≠ hl := (ne_of_none hH5 hnl).symm
      have h68 := kx8.1 _ _ nnl (e7 _ _ h6)
      have ns : LsAt H8 (.ref nl) (((vw p.1).take p.2).map PyData.str) := ⟨nl, _, rfl, h68, ims_strs _⟩
      refine (ed_head (w := p.1) (ev_var rfl) (es_var rfl ns) (fun _ => rfl) (fun _ => rfl) (by rw [List.length_map] at hnlen; omega)) H8 (Ex.refl _) _ fun y H9 e9 my => ?_
      refine ⟨hl, hv, (j : Int), y, rfl, rfl, e9 _ _ hH8, sz_lt (by omega), by omega, by omega, ?_⟩
      have hH9 := e9 _ _ hH8
      have t9 : Tx H9 (upd H9 hl (.lst (hv.take j ++ [y] ++ hv.drop j))) := tx_lst hH9
      have kx9 : Kx l H (upd H9 hl (.lst (hv.take j ++ [y] ++ hv.drop j))) := by
        have kk := kx7.trans (kx8.trans (Kx.of kx8.2 e9))
        obtain ⟨a, b, hp, hq⟩ := kk.2
        refine ⟨fun q o hq ho => ?_, a, b, by rw [upd_ne n1.symm]; exact hp, hq⟩
        rw [upd_ne]
        · exact kk.1 q o hq ho
        · intro z
          have := (Kx.of po e1).1
          rw [z, hhl] at ho
          cases ho
      have t59 : Tx H5 H9 := ((tx_of (e6.trans e7)).trans (kx8.tx kx7.2)).trans (tx_of e9)
      refine ⟨((t1.trans (tx_of e4)).trans (kx5.tx kx4.2)).trans (t59.trans t9), kx9, kl', hs.take j ++ [(p.1, (vw p.1).take p.2)] ++ hs.drop j, ks ++ (vw p.1).take p.2, hv.take j ++ [y] ++ hv.drop j, _, _, _, rfl, n1, nk', nkh, ?_, ?_, ?_, inv.add hp pok.nd hm2 ha hlt j⟩
      · rw [Int.toNat_natCast]
        exact upd_same
      · rw [List.map_append, List.map_append, List.map_take, List.map_drop]
        have hI9 := (hI5.tx t59).tx t9
        exact ((hI9.take j).app (ims_cons (my.tx t9) ims_nil)).app (hI9.drop j)
      · rw [Int.toNat_natCast, upd_ne nkh, List.map_append]
        exact e9 _ _ (kx8.1 _ _ nk' h7)
    · have kk := kx4.trans kx5
      exact ⟨(t1.trans (tx_of e4)).trans (kx5.tx kx4.2), kk, kl, hs, ks, hv, _, _, _, rfl, n1, n2, n3, kx5.1 _ _ n1 (e4 _ _ hH), (hI.ex e4).tx (kx5.tx kx4.2), kx5.1 _ _ n2 (e4 _ _ hK), inv.skip⟩
  obtain ⟨t1, kx1, kl, hs, ks, hv, a, b, c, rfl, n1, n2, n3, hH, hI, hK, inv⟩ := h
  refine q_cut (M := fun σ2 H4 => Kx l H H4 ∧ ∃ (hl' kl' : Addr) (hs : List Head) (ks : List Str) (hv : List V) (a b c : Option V), σ2 = [some (.ref l), some pv', some (.ref hl'), some (.ref kl'), a, b, c, none, none, none] ∧ hl' ≠ l ∧ kl' ≠ l ∧ H4 hl' = some (.lst hv) ∧ Ims H4 hv (hs.map Head.enc) ∧ H4 kl' = some (.lst (ks.map V.str)) ∧ HeadsOk pl hs ∧ (∀ n ∈ ks, n ∈ hs.flatMap Prod.snd) ∧ (∀ n ∈ ks, gw n = true) ∧ ks.length ≤ 20) ?_ fun σ2 H4 h => ?_
  · have hkl2 := inv.kl
    have hsh : SeqAt.shaped (.list (hs.map Head.enc)) = true := head_can pok (fun x hx => by
      obtain ⟨m, h1, _⟩ := inv.at_ x hx
      rw [List.take_length] at h1
      exact ⟨m, h1⟩) fun x hx n hn => by
      obtain ⟨m, h1, _, h3⟩ := inv.at_ x hx
      rw [List.take_length] at h1
      rw [h3] at hn
      exact vw_gw _ (ab _ h1) n (List.mem_of_mem_take hn)
    refine s_when (et_test (ev_eqL (es_var rfl ⟨hl, hv, rfl, hH, hI⟩) hsh)) (fun hem H4 e4 => ?_) fun hem H4 e4 => ?_
    · obtain ⟨p0, rest, rfl⟩ : ∃ p0 rest, pl = p0 :: rest := by
        cases pl with
        | nil => have := pok.lo; simp at this
        | cons p0 rest => exact ⟨p0, rest, rfl⟩
      have kx4 := kx1.trans (Kx.of kx1.2 e4)
      have mp4 := (mp.tx (kx4.tx po))
      refine qn_asg (en_head1 (ed_var rfl mp4) (fun _ => rfl) (fun _ => rfl)) fun hl' hv' H5 hhl' e5 h5 k5 => ?_
      refine s_asgL (el_vw0 (ed_var rfl (mp4.ex e5))) fun kl' H6 hkl' e6 h6 => ?_
      have hp0 : p0 ∈ p0 :: rest := List.mem_cons_self ..
      refine ⟨kx4.trans (Kx.of kx4.2 (e5.trans e6)), hl', kl', [(p0.1, (["v", "w"] : List Str).take p0.2)], (["v", "w"] : List Str).take p0.2, hv', a, b, c, rfl, pool_new kx4.2 hhl', pool_new (kx4.2.ex e5) hkl', e6 _ _ h5, k5.ex e6, h6, one_ok hp0 (pok.many p0 hp0), fun n hn => ?_, fun n hn => vw0_gw n (List.mem_of_mem_take hn), ?_⟩
      · rw [List.flatMap_singleton]
        exact hn
      · rw [List.length_take]
        exact Nat.le_trans (Nat.min_le_right _ _) (show 2 ≤ 20 by decide)
    · refine ⟨kx1.trans (Kx.of kx1.2 e4), hl, kl, hs, ks, hv, a, b, c, rfl, n1, n2, e4 _ _ hH, hI.ex e4, e4 _ _ hK, inv.ok ab fun e => ?_, inv.sub, inv.gw, by omega⟩
      subst e
      exact nomatch hem
  · obtain ⟨kx4, hl', kl', hs, ks, hv, a, b, c, rfl, n1, n2, hH, hI, hK, hok, hsub, hgw, hks⟩ := h
    refine q_asgL (el_lst ea_nil (Nat.zero_le _)) fun dl H5 hdl e5 h5 => ?_
    have kx5 := kx4.trans (Kx.of kx4.2 e5)
    refine q_forRX 3 (by decide) (Φ := fun H6 => Kx l H5 H6) (fun Q q => ⟨.ref l, rfl, l, 4, rfl, kx5.2, by decide, by decide, fun i H6 hi kx => q i H6 (by omega) kx⟩)
      (fun i σ' H' => Kx l H H' ∧ ∃ (kl : Addr) (ks : List Str) (ds : List Deed) (dv : List V) (u : Option V), σ' = [some (.ref l), some pv', some (.ref hl'), some (.ref kl), a, b, c, some (.ref dl), u, none] ∧ kl ≠ l ∧ dl ≠ l ∧ kl ≠ dl ∧ hl' ≠ dl ∧ H' hl' = some (.lst hv) ∧ Ims H' hv (hs.map Head.enc) ∧ H' kl = some (.lst (ks.map V.str)) ∧ H' dl = some (.lst dv) ∧ Ims H' dv (ds.map Deed.enc) ∧ (∀ n ∈ ks, n ∈ nextL (hs.flatMap Prod.snd) ds) ∧ (∀ n ∈ ks, gw n = true) ∧ ks.length ≤ 20 + i ∧ ds.length = i ∧ (∀ d ∈ ds, d.ok pl) ∧ Knw (hs.flatMap Prod.snd) ds)
      (fun H6 kx6 => ?_) (fun i σ' H' hi h => ?_) fun i σ' H' hi h => ?_
    · have nd : dl ≠ l := pool_new kx4.2 hdl
      exact ⟨kx5.trans kx6, kl', ks, [], [], _, rfl, n2, nd, ne_of_none hK hdl, ne_of_none hH hdl, kx6.1 _ _ n1 (e5 _ _ hH), (hI.ex e5).tx (kx6.tx kx5.2), kx6.1 _ _ n2 (e5 _ _ hK), kx6.1 _ _ nd h5, ims_nil, hsub, hgw, by omega, rfl, (fun _ h => nomatch h), trivial⟩
    · obtain ⟨kx7, kl, ks, ds, dv, u, rfl, m1, m2, m3, m4, hH7, hI7, hK7, hD7, hDI, hsub, hgw, hks, hdsl, hdok, hknw⟩ := h
      have dvl := hDI.len
      rw [List.length_map] at dvl
      refine q_dropX (Φ := fun v H8 => ∃ (d : Deed) (y : V) (H9 : Hp), Kx l H' H9 ∧ Im H9 y d.enc ∧ d.ok pl ∧ (∀ n, d.op = .of n → n ∈ ks) ∧ H8 = upd H9 dl (.lst (dv ++ [y]))) (fun Q q => ?_) fun v H8 ⟨d, y, H9, kx9, md, dok, dkn, h8⟩ => ?_
      · refine ⟨.ref dl, rfl, Or.inl ⟨rfl, dv, sq_of hD7⟩, .ref l, rfl, _, rfl, .ref kl, rfl, l, kl, pv', pl, ks, rfl, kx7.2, m1, mp.tx (kx7.tx po), hK7, pok, hgw, by omega, fun y H9 d kx9 md dok dkn => ?_⟩
        exact ⟨dl, dv, y, rfl, rfl, kx9.1 _ _ m2 hD7, sz_lt (by omega), q _ _ ⟨d, y, H9, kx9, md, dok, dkn, rfl⟩⟩
      · subst h8
        have hD9 := kx9.1 _ _ m2 hD7
        have t9 : Tx H9 (upd H9 dl (.lst (dv ++ [y]))) := tx_lst hD9
        have kk := kx7.trans kx9
        have hdH : H dl = none := (kx4.none po hdl)
        have kx10 : Kx l H (upd H9 dl (.lst (dv ++ [y]))) := by
          obtain ⟨a, b, hp, hq⟩ := kk.2
          refine ⟨fun q o hq ho => ?_, a, b, by rw [upd_ne m2.symm]; exact hp, hq⟩
          rw [upd_ne]
          · exact kk.1 q o hq ho
          · intro z
            rw [z, hdH] at ho
            cases ho
        have hD10 : LsAt (upd H9 dl (.lst (dv ++ [y]))) (.ref dl) ((ds.map Deed.enc) ++ [.tuple (.str d.word :: d.rest)]) := ⟨dl, _, rfl, upd_same, ((hDI.tx (kx9.tx kx7.2)).tx t9).app (ims_cons (by rw [← d.enc_eq]; exact md.tx t9) ims_nil)⟩
        have hK10 : (upd H9 dl (.lst (dv ++ [y]))) kl = some (.lst (ks.map V.str)) := by rw [upd_ne m3]; exact kx9.1 _ _ m1 hK7
        have hH10 : (upd H9 dl (.lst (dv ++ [y]))) hl' = some (.lst hv) := by rw [upd_ne m4]; exact kx9.1 _ _ n1 hH7
        have hI10 := (hI7.tx (kx9.tx kx7.2)).tx t9
        have dI10 : Ims (upd H9 dl (.lst (dv ++ [y]))) (dv ++ [y]) ((ds ++ [d]).map Deed.enc) := by
          rw [List.map_append]
          exact ((hDI.tx (kx9.tx kx7.2)).tx t9).app (ims_cons (md.tx t9) ims_nil)
        have dd10 : ∀ e ∈ ds ++ [d], e.ok pl := fun e he => by
          rcases List.mem_append.mp he with he | he
          · exact hdok e he
          · rw [List.mem_singleton.mp he]
            exact dok
        have kn10 : Knw (hs.flatMap Prod.snd) (ds ++ [d]) := hknw.snoc fun n hn => hsub n (dkn n hn)
        have dl10 : (ds ++ [d]).length = i + 1 := by rw [List.length_append, hdsl]; rfl
        generalize hU : upd H9 dl (.lst (dv ++ [y])) = U at kx10 hD10 hK10 hH10 hI10 dI10
        have hD11 : U dl = some (.lst (dv ++ [y])) := by rw [← hU]; exact upd_same
        refine s_when (b := decide (d.word = "set") && !decide (("n" : Str) ∈ ks)) (et_and (et_test (ev_eqS (ed_ix0 (ed_lastL (es_var rfl hD10))) ed_cs)) fun _ => et_test (ev_is (ev_inS (neg := true) ed_cs (es_var rfl ⟨kl, _, rfl, hK10, ims_strs ks⟩)) (congrArg V.bl (if_pos rfl)))) (fun hb H11 e11 => ?_) fun hb H11 e11 => ?_
        · rw [Bool.and_eq_true, decide_eq_true_eq] at hb
          refine s_asgL (el_catN (ys := [.str "n"]) (ev_var rfl) (el_lst (ea_cons ev_c ea_nil) (show 1 ≤ 100000 by decide)) (e11 _ _ hK10) (by rw [List.length_map]; show ks.length + 1 ≤ 100000; omega)) fun kl2 H12 hkl2 e12 h12 => ?_
          have e1112 := e11.trans e12
          refine ⟨kx10.trans (Kx.of kx10.2 e1112), kl2, ks ++ [("n" : Str)], ds ++ [d], dv ++ [y], _, rfl, pool_new (kx10.2.ex e11) hkl2, m2, (ne_of_none (e11 _ _ hD11) hkl2).symm, m4, e1112 _ _ hH10, hI10.ex e1112, by rw [h12, List.map_append]; rfl, e1112 _ _ hD11, dI10.ex e1112, fun n hn => ?_, fun n hn => ?_, by rw [List.length_append, List.length_singleton]; omega, dl10, dd10, kn10⟩
          · rw [nextL_snoc]
            rcases List.mem_append.mp hn with hn | hn
            · exact next_sub (hsub n hn)
            · rw [List.mem_singleton.mp hn]
              have hw := hb.1
              cases d with
              | note o => exact absurd hw so_18
              | put x o m => exact absurd hw so_17
              | set o => exact List.mem_cons_self ..
          · rcases List.mem_append.mp hn with hn | hn
            · exact hgw n hn
            · rw [List.mem_singleton.mp hn]
              exact gw_n
        · exact ⟨kx10.trans (Kx.of kx10.2 e11), kl, ks, ds ++ [d], dv ++ [y], _, rfl, m1, m2, m3, m4, e11 _ _ hH10, hI10.ex e11, e11 _ _ hK10, e11 _ _ hD11, dI10.ex e11, fun n hn => by rw [nextL_snoc]; exact next_sub (hsub n hn), hgw, by omega, dl10, dd10, kn10⟩
    · obtain ⟨kx7, kl, ks, ds, dv, u, rfl, m1, m2, m3, m4, hH7, hI7, hK7, hD7, hDI, hsub, hgw, hks, hdsl, hdok, hknw⟩ := h
      refine sd_ret (ed_tup (eds2 (ed_tupOf (es_var rfl ⟨hl', hv, rfl, hH7, hI7⟩)) (ed_tupOf (es_var rfl ⟨dl, dv, rfl, hD7, hDI⟩))) (show 2 ≤ 100000 by decide)) fun v H8 e8 m8 => k v H8 ⟨hs, ds⟩ (kx7.trans (Kx.of kx7.2 e8)) m8 ⟨hok, ?_, hdok, hknw⟩
      show ds.length ≤ 12
      omega
end
end Mt

set_option maxHeartbeats 8000000
/-! the law's nets and markings -/
namespace Mt
open PySem L2 Evl
section
variable {K : PySem.W.Frag} {σ : L2.St} {H : Hp} {te ta tb tl : TE} {wi : TI} {l : Addr}
/-- a source, told under draws -/
def SX (l : Addr) (wi : TI) (σ : L2.St) (H : Hp) (N : Nat → Prop) (W : Nat → Nat → V → Prop) : Prop := ∀ R : It → Hp → Prop, (∀ J n G H1, N n → Kx l H H1 → Walk J n G (fun i Ha v Hb => Hb = Ha ∧ W n i v) → (∀ H2, Kx l H1 H2 → G H2) → R J H1) → wi σ H R
theorem lcX {N : Nat → Prop} {W : Nat → Nat → V → Prop} {j : Nat} {vs : List Nat} (po : PoolAt H l) (hs : SX l wi σ H N W) (hB : ∀ n, N n → n ≤ 1000) (hw : ∀ x : V, wipe ((wipe σ vs).set j (some x)) vs = wipe σ vs) (R : Nat → List PyData → Prop) (hR0 : R 0 [])
    (ht : ∀ n i x ds H1, N n → i < n → W n i x → R i ds → Kx l H H1 → ∀ Q : VK, (∀ v d H2, Kx l H1 H2 → Im H2 v d → R (i + 1) (ds ++ [d]) → Q v H2) → te ((wipe σ vs).set j (some x)) H1 Q)
    (Q : VK) (k : ∀ n p acc ds H2, N n → Kx l H H2 → p ≠ l → H2 p = some (.lst acc) → Ims H2 acc ds → R n ds → ds.length = n → Q (.ref p) H2) : tLc wi (gName j) tYes te vs σ H Q :=
  hs _ fun J n G H1 hn kx w hg Dl hD => by
    have nDl : Dl ≠ l := pool_new kx.2 hD
    have up : ∀ {H2 : Hp} {u : HO}, Kx l H1 H2 → Kx l H1 (upd H2 Dl u) := fun {H2 u} k2 => by
      obtain ⟨a, b, hp, hq⟩ := k2.2
      refine ⟨fun q o h1 h2 => ?_, a, b, by rw [upd_ne nDl.symm]; exact hp, hq⟩
      rw [upd_ne]
      · exact k2.1 q o h1 h2
      · intro z
        rw [z, hD] at h2
        cases h2
    refine lc_it w (fun i H2 => Kx l H1 H2 ∧ ∃ acc ds, H2 Dl = some (.lst acc) ∧ Ims H2 acc ds ∧ R i ds ∧ ds.length = i) ⟨up (Kx.refl kx.2), [], [], upd_same, ims_nil, hR0, rfl⟩ (fun i H2 _ P => hg H2 P.1) (fun i x Ha Hb hi P y => ?_) fun H2 P => ?_
    · obtain ⟨k2, acc, ds, h1, h2, h3, h4⟩ := P
      obtain ⟨rfl, hv⟩ := y
      refine ⟨hw x, et_yes Hb (Ex.refl _) _ fun H3 e3 => ?_⟩
      rw [if_pos rfl]
      have k3 := k2.trans (Kx.of k2.2 e3)
      refine ht n i x ds H3 hn hi hv h3 (kx.trans k3) _ fun v d H4 k4 m4 r4 => ?_
      have h14 := k4.1 _ _ nDl (e3 _ _ h1)
      have t4 : Tx H4 (upd H4 Dl (.lst (acc ++ [v]))) := tx_lst h14
      have hl2 := h2.len
      have hnn := hB n hn
      refine ⟨acc, h14, sz_lt (by omega), up (k3.trans k4), acc ++ [v], ds ++ [d], upd_same, (((h2.ex e3).tx (k4.tx k3.2)).tx t4).app (ims_cons (m4.tx t4) ims_nil), r4, by rw [List.length_append, h4]; rfl⟩
    · obtain ⟨k2, acc, ds, h1, h2, h3, h4⟩ := P
      exact k n Dl acc ds H2 hn (kx.trans k2) nDl h1 h2 h3 h4
theorem sx_list {xs : List V} (h : ∀ Q : VK, (∀ p H1, Kx l H H1 → p ≠ l → H1 p = some (.lst xs) → Q (.ref p) H1) → te σ H Q) : SX l (iList K te) σ H (fun n => n = xs.length) (fun n i v => xs[i]? = some v) := fun R r => h _ fun p H1 kx hne h1 =>
  ⟨p, rfl, ⟨xs, SqL.of h1⟩, r _ xs.length _ H1 rfl kx ((walk_list (K := K) (a := p) (xs := xs)).mono (fun _ h => h) fun i Ha x Hb _ _ y => ⟨y.1, y.2⟩) fun H2 k2 => SqL.of (k2.1 _ _ hne h1)⟩
theorem sx_tup {xs : List V} {p : Addr} (po : PoolAt H l) (h : Ev te σ H (.ref p)) (hp : Rd H p (.tup xs)) : SX l (iTup K te) σ H (fun n => n = xs.length) (fun n i v => xs[i]? = some v) := fun R r => h H (Ex.refl _) _ fun H1 e1 =>
  ⟨p, rfl, ⟨xs, .inl (ex_rd e1 hp)⟩, r _ xs.length _ H1 rfl (Kx.of po e1) ((walk_tup (K := K) (a := p) (xs := xs)).mono (fun _ h => h) fun i Ha x Hb _ _ y => ⟨y.1, y.2⟩) fun H2 k2 => .inl ((k2.tx (po.ex e1)).rd (ex_rd e1 hp))⟩
theorem sx_range {ta : TA} {B : Nat} (hB : B ≤ 1000) (h : ∀ Q : List V → Hp → Prop, (∀ (n : Nat) H1, n ≤ B → Kx l H H1 → Q [.int (n : Int)] H1) → ta σ H Q) : SX l (iRng1 ta) σ H (fun n => n ≤ B) (fun n i v => True) := fun R r => h _ fun n H1 hn kx =>
  ⟨(n : Int), rfl, by omega, by omega, by
    rw [Int.toNat_natCast]
    exact r _ n _ H1 hn kx ((walk_range (lo := 0) (n := n)).mono (fun _ h => h) fun i Ha x Hb _ _ y => ⟨y.1, trivial⟩) fun _ _ => trivial⟩
def tPlSrc (K : PySem.W.Frag) : TI := iList K (tSl (rSlL K) (tVar 2) tNoPart (tPart (tOp (rI0 fun i j => .int (i + j)) (tC (.int 1)) (tCall spTake [] E0 (tCons (tVar 0) (tCons (tVar 1) tNil))))))
theorem sx_places {ws : List Str} {p3 : Addr} {f : V} (po : PoolAt H l) (h3 : H p3 = some (.lst (ws.map V.str))) (n3 : p3 ≠ l) (wl : ws.length = 4) : SX l (tPlSrc K) [some (.ref l), some (.int 3), some (.ref p3), some f, none, none, none] H (fun n => 1 ≤ n ∧ n ≤ 3) (fun n i v => ∃ w, ws[i]? = some w ∧ v = .str w) := fun R r => by
  refine ⟨.ref p3, rfl, ?_⟩
  refine ⟨.ref l, rfl, .int 3, rfl, l, 3, rfl, po, by decide, by decide, fun m H5 hm kx => ⟨1, (m : Int), rfl, rfl, 1 + (m : Int), rfl, p3, ws.map V.str, rfl, SqL.of (kx.1 _ _ n3 h3), fun t ht => ?_⟩⟩
  have hcut : cutV (ws.map V.str) none (some (1 + (m : Int))) = (ws.take (1 + m)).map V.str := by
    rw [show (1 + (m : Int)) = ((1 + m : Nat) : Int) by omega, cut_take, List.map_take]
  rw [hcut]
  have e6 := Ex.new (o := .lst ((ws.take (1 + m)).map V.str)) ht
  have k6 := kx.trans (Kx.of kx.2 e6)
  have nt : t ≠ l := pool_new kx.2 ht
  have hlen : ((ws.take (1 + m)).map V.str).length = 1 + m := by
    rw [List.length_map, List.length_take]
    omega
  have wk := walk_list (K := K) (a := t) (xs := (ws.take (1 + m)).map V.str)
  rw [hlen] at wk
  refine ⟨t, rfl, ⟨_, SqL.of upd_same⟩, r _ (1 + m) _ _ ⟨by omega, by omega⟩ k6 (wk.mono (fun _ h => h) fun i Ha x Hb hi _ y => ⟨y.1, ?_⟩) fun H7 k7 => SqL.of (k7.1 _ _ nt upd_same)⟩
  have hx := y.2
  rw [List.getElem?_map, List.getElem?_take, if_pos hi] at hx
  cases hw : ws[i]? with
  | none => rw [hw] at hx; cases hx
  | some w => rw [hw] at hx; exact ⟨w, hw, (Option.some.inj hx).symm⟩
def tPl (K : PySem.W.Frag) : TE := tCB (rTupF K) (tCons (tLc (tPlSrc K) (gName 5) tYes (tTup (tCons (tVar 5) (tCons (tCall spTake [] E0 (tCons (tVar 0) (tCons (tC (.int 3)) tNil))) tNil))) [5]) tNil)
theorem ex_places {ws : List Str} {p3 : Addr} {f : V} (po : PoolAt H l) (h3 : H p3 = some (.lst (ws.map V.str))) (n3 : p3 ≠ l) (wl : ws.length = 4) (ab0 : ∀ w ∈ ws, w ∈ abcd) (nd0 : ws.Nodup) (Q : VK)
    (q : ∀ v H4, (∃ pl : Pls, PlOk pl ∧ Abc pl ∧ Kx l H H4 ∧ ∃ p o xs, v = .ref p ∧ H4 p = some (.frz o (.tup xs)) ∧ o.dict = none ∧ Ims H4 xs (pl.map plE)) → Q v H4) : tPl K [some (.ref l), some (.int 3), some (.ref p3), some f, none, none, none] H Q := by
  show tLc (tPlSrc K) (gName 5) tYes (tTup (tCons (tVar 5) (tCons (tCall spTake [] E0 (tCons (tVar 0) (tCons (tC (.int 3)) tNil))) tNil))) [5] _ H (fun x H1 => rTupF K [x] H1 Q)
  refine lcX (j := 5) (vs := [5]) po (sx_places (K := K) (f := f) po h3 n3 wl) (fun n h => by omega) (fun _ => rfl) (fun i ds => i ≤ 4 ∧ ∃ ps : Pls, ds = ps.map plE ∧ ps.map Prod.fst = ws.take i ∧ ∀ p ∈ ps, p.2 ≤ 2) ⟨by decide, [], rfl, rfl, fun _ h => nomatch h⟩ (fun n i x ds H5 hn hi hv hR kx Q q => ?_) _ fun n p acc ds H5 hn kx hne h5 hI hR hlen => ?_
  · obtain ⟨w, hw, rfl⟩ := hv
    have := hn.2
    obtain ⟨hi4, ps, rfl, hps, hp2⟩ := hR
    refine ⟨.str w, rfl, .ref l, rfl, l, 3, rfl, kx.2, by decide, by decide, fun m H6 hm k6 => ⟨sz_of (show 2 ≤ 100000 by decide), fun t ht => ?_⟩⟩
    refine q _ (plE (w, m)) _ (k6.trans (Kx.of k6.2 (Ex.new ht))) (im_tup upd_same (ims_cons (im_str w) (ims_cons (im_int _) ims_nil))) ⟨by omega, ps ++ [(w, m)], by rw [List.map_append]; rfl, ?_, fun p hp => ?_⟩
    · rw [List.map_append, hps, take_one hw]
      rfl
    · rcases List.mem_append.mp hp with hp | hp
      · exact hp2 p hp
      · rw [List.mem_singleton.mp hp]
        show m ≤ 2
        omega
  · obtain ⟨_, ps, rfl, hps, hp2⟩ := hR
    rw [List.length_map] at hlen
    refine ⟨p, acc, rfl, SqL.of h5, fun t o ht ho => ?_⟩
    have e6 := Ex.new (o := .frz o (.tup acc)) ht
    have hsub : ∀ p ∈ ps, p.1 ∈ ws := fun p hp => by
      have : p.1 ∈ ps.map Prod.fst := List.mem_map.mpr ⟨p, hp, rfl⟩
      rw [hps] at this
      exact List.mem_of_mem_take this
    have hn1 := hn.1
    have hn2 := hn.2
    refine q _ _ ⟨ps, ⟨by omega, by omega, fun p hp => abcd_gw _ (ab0 _ (hsub p hp)), hp2, ?_⟩, fun p hp => ab0 _ (hsub p hp), kx.trans (Kx.of kx.2 e6), t, o, acc, rfl, upd_same, ho, hI.ex e6⟩
    rw [hps]
    exact nd0.sublist (List.take_sublist _ _)
def tRls (K : PySem.W.Frag) : TE := tCB (rTupS K) (tCons (tLc (iRng1 (tCons (tCall spTake [] E0 (tCons (tVar 0) (tCons (tC (.int 5)) tNil))) tNil)) (gName 6) tYes (tCall spNetRule [] E0 (tCons (tVar 0) (tCons (tVar 4) tNil))) [6]) tNil)
theorem ex_rules {x2 x3 : Option V} {pv : V} {pl : Pls} (po : PoolAt H l) (mp : Im H pv (plD pl)) (pok : PlOk pl) (ab : Abc pl) (Q : VK)
    (q : ∀ v H4, (∃ rs : List Rule, Kx l H H4 ∧ rs.length ≤ 8 ∧ (∀ r ∈ rs, RuleOk pl r) ∧ Im H4 v (.tuple (rs.map Rule.enc))) → Q v H4) : tRls K [some (.ref l), some (.int 3), x2, x3, some pv, none, none] H Q := by
  show tLc (iRng1 (tCons (tCall spTake [] E0 (tCons (tVar 0) (tCons (tC (.int 5)) tNil))) tNil)) (gName 6) tYes (tCall spNetRule [] E0 (tCons (tVar 0) (tCons (tVar 4) tNil))) [6] _ H (fun x H1 => rTupS K [x] H1 Q)
  refine lcX (j := 6) (vs := [6]) po (sx_range (B := 4) (by decide) fun Q q => ⟨.ref l, rfl, l, 5, rfl, po, by decide, by decide, fun m H6 hm k6 => q m H6 (by omega) k6⟩) (fun n h => by omega) (fun _ => rfl) (fun i ds => ∃ rs : List Rule, ds = rs.map Rule.enc ∧ ∀ r ∈ rs, RuleOk pl r) ⟨[], rfl, fun _ h => nomatch h⟩ (fun n i x ds H5 hn hi hv hR kx Q q => ?_) _ fun n p acc ds H5 hn kx hne h5 hI hR hlen => ?_
  · obtain ⟨rs, rfl, hrs⟩ := hR
    refine ⟨.ref l, rfl, pv, rfl, l, pv, pl, rfl, kx.2, mp.tx (kx.tx po), pok, ab, fun v H6 r k6 mr rok => ?_⟩
    refine q v r.enc H6 k6 mr ⟨rs ++ [r], by rw [List.map_append]; rfl, fun e he => ?_⟩
    rcases List.mem_append.mp he with he | he
    · exact hrs e he
    · rw [List.mem_singleton.mp he]
      exact rok
  · obtain ⟨rs, rfl, hrs⟩ := hR
    rw [List.length_map] at hlen
    refine ⟨p, acc, rfl, .inl ⟨SqL.of h5, fun t ht => q _ _ ⟨rs, kx.trans (Kx.of kx.2 (Ex.new ht)), by omega, hrs, im_tup upd_same (hI.ex (Ex.new ht))⟩⟩⟩
end
section
variable {P : Program} {w : World} {K : PySem.W.Frag} {mg : Str → Option Value} {base : Heap}
def spNetL : Sp := fun vs H Q _ => ∃ (l : Addr), vs = [.ref l, .int 3] ∧ PoolAt H l ∧ ∀ (v : V) (H' : Hp) (n : Net), Kx l H H' → NetAt n H' v → NetOk n → Q v H'
theorem sc_lnet : FnScope ["_law_pool_here", "_law_top", "_law_words", "_law_first", "_law_places", "_law_word", "_law_turn"] ["_law_pool_here", "_law_top"] (defScope (top 73)) := ⟨rfl, rfl, rfl, by decide +kernel, rfl, by decide +kernel, by decide +kernel⟩
theorem ok_lnet {f : Addr} {fd : FuncData} (F : Fun K "_law_net" "_law_net" (top 73) f fd) (D_lnet_rule : Df P w K mg base "_law_net_rule" 4 ["_law_pool_here", "_law_places"] spNetRule) (D_ltake : Df P w K mg base "_law_take" 1 ["_law_pool_here", "_law_many"] spTake) (B : Blt mg) : FnOk P w K mg base CX0 5 f fd ["_law_pool_here", "_law_top"] spNetL := by
  refine F.ok sc_lnet (fun vs H Q E h => (by obtain ⟨l, rfl, _⟩ := h; rfl)) (fun cdv A outer s H vs Q E hr h => ?_)
  obtain ⟨l, rfl, po, k⟩ := h
  refine ⟨_, (pss_cons (ps_set (i := 2) sc_lnet.nd rfl (Or.inl rfl) (pe_lst (pa_cons pe_str (pa_cons pe_str (pa_cons pe_str (pa_cons pe_str pa_nil))))))
      (pss_cons (ps_set (i := 3) sc_lnet.nd rfl (Or.inl rfl) (pe_df D_ltake (hr.mono (by decide)) (by rfl) (pa_cons (pv 0) (pa_cons pe_int pa_nil))))
      (pss_cons (ps_set (i := 2) sc_lnet.nd rfl (Or.inl rfl) (pe_op op_cat (pe_slice (r := rSlL K) sl_list (pv 2) (po_some (pv 3)) po_none) (pe_slice (r := rSlL K) sl_list (pv 2) po_none (po_some (pv 3)))))
      (pss_cons (ps_set (i := 4) sc_lnet.nd rfl (Or.inr rfl) (pe_callTy (r := rTupF K) call_tupF (by rfl) B.tuple bt_tuple (pa_cons (pe_lc (own := [("_law_word", 5)]) rfl sc_lnet.nd (pi_listK (K := K) rfl (pe_slice (r := rSlL K) sl_list (pv 2) po_none (po_some (pe_op op_add pe_int (pe_df D_ltake (hr.mono (by decide)) (by rfl) (pa_cons (pv 0) (pa_cons (pv 1) pa_nil))))))) (blkOk_by (own := [("_law_word", 5)]) (N := ["_law_pool_here", "_law_top", "_law_words", "_law_first", "_law_places", "_law_word", "_law_turn"]) (sc := defScope (top 73)) (by decide +kernel)) (fun _ _ _ _ _ => (pg_name (i := 5) sc_lnet.nd rfl (Or.inl rfl) (by first | exact Or.inl rfl | exact Or.inr rfl))) (fun _ _ _ _ _ => pts_nil) (fun _ _ _ _ _ => (pe_tup (pa_cons (pv 5) (pa_cons (pe_df D_ltake (hr.mono (by decide)) (by rfl) (pa_cons (pv 0) (pa_cons pe_int pa_nil))) pa_nil))))) pa_nil)))
      (pss_one (ps_ret (pe_tup (pa_cons pe_str (pa_cons (pv 4) (pa_cons (pe_callTy (r := rTupS K) (CallR_tup _) (by rfl) B.tuple bt_tuple (pa_cons (pe_lc (own := [("_law_turn", 6)]) rfl sc_lnet.nd (pi_range1 (by rfl) B.range (pa_cons (pe_df D_ltake (hr.mono (by decide)) (by rfl) (pa_cons (pv 0) (pa_cons pe_int pa_nil))) pa_nil)) (blkOk_by (own := [("_law_turn", 6)]) (N := ["_law_pool_here", "_law_top", "_law_words", "_law_first", "_law_places", "_law_word", "_law_turn"]) (sc := defScope (top 73)) (by decide +kernel)) (fun _ _ _ _ _ => (pg_name (i := 6) sc_lnet.nd rfl (Or.inl rfl) (by first | exact Or.inl rfl | exact Or.inr rfl))) (fun _ _ _ _ _ => pts_nil) (fun _ _ _ _ _ => (pe_df D_lnet_rule (hr.mono (by decide)) (by rfl) (pa_cons (pv 0) (pa_cons (pv 4) pa_nil))))) pa_nil)) pa_nil)))))))))), ?_⟩
  refine q_asgL (el_lst (ea_cons (ev_c (v := .str "a")) (ea_cons (ev_c (v := .str "b")) (ea_cons (ev_c (v := .str "c")) (ea_cons (ev_c (v := .str "d")) ea_nil)))) (show 4 ≤ 100000 by decide)) fun p0 H1 hp0 e1 h1 => ?_
  have p1 := po.ex e1
  refine q_asgX (Φ := fun v H2 => ∃ i : Nat, v = .int (i : Int) ∧ Kx l H1 H2) (fun Q q => ⟨.ref l, rfl, l, 4, rfl, p1, by decide, by decide, fun i H' _ kx => q _ _ ⟨i, rfl, kx⟩⟩) fun v H2 ⟨f, hv, k2⟩ => ?_
  subst hv
  have n0 : p0 ≠ l := pool_new po hp0
  have h2 := k2.1 _ _ n0 h1
  have h2' : H2 p0 = some (.lst (abcd.map V.str)) := h2
  have perm : (abcd.drop f ++ abcd.take f).Perm abcd := (List.perm_append_comm).trans (by rw [List.take_append_drop])
  refine q_asgL (xs := (abcd.drop f ++ abcd.take f).map V.str) ?_ fun p3 H3 hp3 e3 h3 => ?_
  · have s1 := el_sl (K := K) (te := tVar 2) (tl := tPart (tVar 3)) (th := tNoPart) (σ := [some (.ref l), some (.int 3), some (.ref p0), some (.int (f : Int)), none, none, none]) (H := H2) (ev_var rfl) (eo_some (i := (f : Int)) (ev_var rfl)) eo_none (sq_of h2')
    have s2 := el_sl (K := K) (te := tVar 2) (tl := tNoPart) (th := tPart (tVar 3)) (σ := [some (.ref l), some (.int 3), some (.ref p0), some (.int (f : Int)), none, none, none]) (H := H2) (ev_var rfl) eo_none (eo_some (i := (f : Int)) (ev_var rfl)) (sq_of h2')
    rw [cut_drop] at s1
    rw [cut_take] at s2
    intro H4 e4 Q q
    refine s1 H4 e4 _ fun a H5 ha e5 h5 => s2 H5 (e4.trans e5) _ fun b H6 hb e6 h6 => ⟨a, b, _, _, rfl, rfl, e6 _ _ h5, h6, ?_, fun t ht => q t _ (fresh_back (e5.trans e6) ht) ((e5.trans e6).trans (Ex.new ht)) ?_⟩
    · rw [List.length_drop, List.length_take, List.length_map]
      exact sz_of (show _ ≤ 100000 by have : abcd.length = 4 := rfl; omega)
    · rw [upd_same, List.map_append, List.map_drop, List.map_take]
  have k3 : Kx l H H3 := (Kx.of po e1).trans (k2.trans (Kx.of k2.2 e3))
  have n3 : p3 ≠ l := pool_new k2.2 hp3
  generalize hws : abcd.drop f ++ abcd.take f = ws at perm h3
  have wl : ws.length = 4 := perm.length_eq
  refine q_asgX (Φ := fun v H4 => ∃ pl : Pls, PlOk pl ∧ Abc pl ∧ Kx l H3 H4 ∧ ∃ p o xs, v = .ref p ∧ H4 p = some (.frz o (.tup xs)) ∧ o.dict = none ∧ Ims H4 xs (pl.map plE)) (fun Q q => ex_places (K := K) k3.2 h3 n3 wl (fun w hw => perm.mem_iff.mp hw) (perm.nodup_iff.mpr abcd_nd) Q q) fun v H4 ⟨pl, pok, ab, k4, p4, o, xs, hv, h4, ho, hI⟩ => ?_
  subst hv
  have k04 := k3.trans k4
  have mp4 : Im H4 (.ref p4) (plD pl) := im_tupR (.inr ⟨o, h4⟩) hI
  refine ⟨.ref p4, rfl, ?_⟩
  refine ex_rules (K := K) k04.2 mp4 pok ab _ fun v H5 ⟨rs, k5, hrs, hrok, mr⟩ => ⟨sz_of (show 3 ≤ 100000 by decide), fun t ht => ?_⟩
  have e6 := Ex.new (o := .tup [.str "net", .ref p4, v]) ht
  have t46 : Tx H4 (upd H5 t (.tup [.str "net", .ref p4, v])) := (k5.tx k04.2).trans (tx_of e6)
  refine k _ _ ⟨pl, rs⟩ (k04.trans (k5.trans (Kx.of k5.2 e6))) ⟨?_, ?_⟩ ⟨pok, hrs, hrok⟩
  · exact im_tup upd_same (ims_cons (im_str _) (ims_cons (mp4.tx t46) (ims_cons (mr.ex e6) ims_nil)))
  · exact ⟨t, _, p4, _, o, xs, rfl, .inl upd_same, t46 _ _ ⟨xs, .inr ⟨o, rfl⟩⟩ h4, ho⟩
end
end Mt

set_option maxHeartbeats 2000000
/-! THE PLAIN LAW: fewer letters hold less -/
namespace Mt
open PySem L2 Evl
def diffL (a b : List Int) : List Int := (a.zip b).map fun p => p.2 - p.1
theorem leL_iff {a b : List Int} : leL a b = true ↔ ∀ d ∈ diffL a b, 0 ≤ d := by
  unfold leL diffL
  rw [List.all_eq_true]
  constructor
  · intro h d hd
    obtain ⟨p, hp, rfl⟩ := List.mem_map.mp hd
    have := of_decide_eq_true (h p hp)
    omega
  · intro h p hp
    have := h _ (List.mem_map.mpr ⟨p, hp, rfl⟩)
    exact decide_eq_true (by omega)
theorem leL_cons {x y : Int} {a b : List Int} : leL (x :: a) (y :: b) = true ↔ x ≤ y ∧ leL a b = true := by
  unfold leL
  rw [List.zip_cons_cons, List.all_cons, Bool.and_eq_true, decide_eq_true_eq]
theorem cnt_mono : ∀ {pl : Pls} {a b : List Int} {w : Str}, a.length = b.length → leL a b = true → cnt pl a w ≤ cnt pl b w
  | [], _, _, _, _, _ => Int.le_refl 0
  | _ :: _, [], [], _, _, _ => Int.le_refl 0
  | p :: pl, x :: a, y :: b, w, hl, h => by
    rw [leL_cons] at h
    show (if p.1 = w then x else cnt pl a w) ≤ if p.1 = w then y else cnt pl b w
    split
    · exact h.1
    · exact cnt_mono (by simpa using hl) h.2
theorem can_sub {n : Net} {a b : List Int} {i : Nat} (hl : a.length = b.length) (h : leL a b = true) (hi : i ∈ canL n a) : i ∈ canL n b := by
  obtain ⟨r, h1, h2⟩ := canL_at hi
  refine canL_mem h1 (List.all_eq_true.mpr fun x hx => decide_eq_true ?_)
  have := of_decide_eq_true (List.all_eq_true.mp h2 x hx)
  have := cnt_mono (pl := n.pl) (w := x.1) hl h
  omega
theorem beh_diff {r : Rule} : ∀ {pl : Pls} {a b : List Int}, a.length = pl.length → b.length = pl.length → diffL (behL pl a r) (behL pl b r) = diffL a b
  | [], [], [], _, _ => rfl
  | p :: pl, x :: a, y :: b, h1, h2 => by
    show (y + dlt r p.1 - (x + dlt r p.1)) :: diffL (behL pl a r) (behL pl b r) = (y - x) :: diffL a b
    rw [beh_diff (by simpa using h1) (by simpa using h2)]
    congr 1
    omega
  | _ :: _, [], _, h, _ => by cases h
  | _ :: _, _ :: _, [], _, h => by cases h
  | [], _ :: _, _, h, _ => by cases h
  | [], [], _ :: _, _, h => by cases h
theorem diff_inj : ∀ {a b c : List Int}, a.length = b.length → a.length = c.length → diffL a b = diffL a c → b = c
  | [], [], [], _, _, _ => rfl
  | x :: a, y :: b, z :: c, h1, h2, h => by
    have h : (y - x) :: diffL a b = (z - x) :: diffL a c := h
    have e1 := (List.cons.inj h).1
    have e2 := diff_inj (by simpa using h1) (by simpa using h2) (List.cons.inj h).2
    rw [e2, show y = z by omega]
  | [], _ :: _, _, h, _, _ => by cases h
  | [], [], _ :: _, _, h, _ => by cases h
  | _ :: _, [], _, h, _, _ => by cases h
  | _ :: _, _ :: _, [], _, h, _ => by cases h
/-- more letters by g -/
def addL (m g : List Int) : List Int := (m.zip g).map fun p => p.1 + p.2
theorem addL_len {m g : List Int} (h : g.length = m.length) : (addL m g).length = m.length := by
  unfold addL
  rw [List.length_map, List.length_zip]
  omega
theorem beh_add {r : Rule} : ∀ {pl : Pls} {m g : List Int}, m.length = pl.length → g.length = pl.length → behL pl (addL m g) r = addL (behL pl m r) g
  | [], [], [], _, _ => rfl
  | p :: pl, x :: m, d :: g, h1, h2 => by
    show (x + d + dlt r p.1) :: behL pl (addL m g) r = (x + dlt r p.1 + d) :: addL (behL pl m r) g
    rw [beh_add (by simpa using h1) (by simpa using h2)]
    congr 1
    omega
  | _ :: _, [], _, h, _ => by cases h
  | _ :: _, _ :: _, [], _, h => by cases h
  | [], _ :: _, _, h, _ => by cases h
  | [], [], _ :: _, _, h => by cases h
theorem le_add : ∀ {m g : List Int}, (∀ d ∈ g, 0 ≤ d) → leL m (addL m g) = true
  | [], _, _ => rfl
  | _ :: _, [], _ => rfl
  | x :: m, d :: g, h => by
    show leL (x :: m) ((x + d) :: addL m g) = true
    rw [leL_cons]
    exact ⟨by have := h d (by simp); omega, le_add fun e he => h e (by simp [he])⟩
theorem add_diff : ∀ {a b : List Int}, a.length = b.length → addL a (diffL a b) = b
  | [], [], _ => rfl
  | x :: a, y :: b, h => by
    show (x + (y - x)) :: addL a (diffL a b) = y :: b
    rw [add_diff (by simpa using h), show x + (y - x) = y by omega]
  | [], _ :: _, h => by cases h
  | _ :: _, [], h => by cases h
theorem diff_add : ∀ {a g : List Int}, g.length = a.length → diffL a (addL a g) = g
  | [], [], _ => rfl
  | x :: a, d :: g, h => by
    show (x + d - x) :: diffL a (addL a g) = d :: g
    rw [diff_add (by simpa using h), show x + d - x = d by omega]
  | [], _ :: _, h => by cases h
  | _ :: _, [], h => by cases h
theorem add_inj {a b g : List Int} (h1 : g.length = a.length) (h2 : g.length = b.length) (h : addL a g = addL b g) : a = b := by
  have key : ∀ (g a b : List Int), g.length = a.length → g.length = b.length → addL a g = addL b g → a = b := by
    intro g
    induction g with
    | nil =>
      intro a b ha hb _
      rw [List.length_eq_zero_iff.mp ha.symm, List.length_eq_zero_iff.mp hb.symm]
    | cons d g ih =>
      intro a b ha hb h
      cases a with
      | nil => cases ha
      | cons x a =>
        cases b with
        | nil => cases hb
        | cons y b =>
          have h : (x + d) :: addL a g = (y + d) :: addL b g := h
          rw [ih a b (by simpa using ha) (by simpa using hb) (List.cons.inj h).2, show x = y by have := (List.cons.inj h).1; omega]
  exact key g a b h1 h2 h
theorem diffL_len {a b : List Int} (h : a.length = b.length) : (diffL a b).length = a.length := by
  unfold diffL
  rw [List.length_map, List.length_zip]
  omega
section
variable {n : Net}
/-- a run from less is a run from more -/
theorem Led.shift (ok : NetOk n) {m x g : List Int} {is : List Nat} (hg : ∀ d ∈ g, 0 ≤ d) (gl : g.length = n.pl.length) (mo : MOk n m) (h : Led n m is x) : Led n (addL m g) is (addL x g) := by
  induction h with
  | nil m => exact .nil _
  | @cons m i r is x h1 h2 _ ih =>
    have mo1 := beh_okI ok mo h1 h2
    refine .cons (can_sub ?_ (le_add hg) h1) h2 ?_
    · rw [addL_len (by rw [gl, mo.len])]
    · rw [beh_add mo.len gl]
      exact ih mo1
theorem Closed.all {m0 : List Int} {ms : List (List Int)} (c : Closed n m0 ms) {m x : List Int} {is : List Nat} (h : Led n m is x) : m ∈ ms → x ∈ ms := by
  induction h with
  | nil => exact fun h => h
  | cons h1 h2 _ ih => exact fun h => ih (c.cl _ h _ _ h1 h2)
theorem nodup_le {α : Type} [DecidableEq α] : ∀ {l k : List α}, l.Nodup → (∀ a ∈ l, a ∈ k) → l.length ≤ k.length
  | [], _, _, _ => Nat.zero_le _
  | a :: l, k, nd, h => by
    rw [List.nodup_cons] at nd
    have ha := h a (by simp)
    have := nodup_le (l := l) (k := k.erase a) nd.2 fun b hb => (List.mem_erase_of_ne (fun e : b = a => nd.1 (by rw [← e]; exact hb))).mpr (h b (by simp [hb]))
    rw [List.length_erase_of_mem ha] at this
    have := List.length_pos_of_mem ha
    rw [List.length_cons]
    omega
theorem Many.shift (ok : NetOk n) {a b : List Int} (ao : MOk n a) (hl : a.length = b.length) (hle : leL a b = true) (h : Many n a) {ms : List (List Int)} (c : Closed n b ms) : False := by
  obtain ⟨l, nd, hlen, hr⟩ := h
  have gl : (diffL a b).length = n.pl.length := by rw [diffL_len hl, ao.len]
  have hg := leL_iff.mp hle
  have h1 : (l.map fun m => addL m (diffL a b)).length ≤ ms.length := by
    refine nodup_le ?_ fun x hx => ?_
    · refine List.Pairwise.map _ (R := fun x y => x ∈ l ∧ y ∈ l ∧ x ≠ y) (fun x y h e => h.2.2 ?_) ?_
      · obtain ⟨i1, L1⟩ := hr x h.1
        obtain ⟨i2, L2⟩ := hr y h.2.1
        exact add_inj (by rw [gl, (L1.ok ok ao).len]) (by rw [gl, (L2.ok ok ao).len]) e
      · have := List.Pairwise.and_mem.mp nd
        exact this.imp fun {x y} h => ⟨h.1, h.2.1, h.2.2⟩
    · obtain ⟨m, hm, rfl⟩ := List.mem_map.mp hx
      obtain ⟨is, L⟩ := hr m hm
      have L2 := L.shift ok hg gl ao
      rw [add_diff hl] at L2
      exact c.all L2 c.mem
  rw [List.length_map, hlen] at h1
  have := c.le
  omega
theorem Grows.shift (ok : NetOk n) {a b : List Int} (ao : MOk n a) (hl : a.length = b.length) (hle : leL a b = true) {stem lap : List Nat} (h : Grows n a stem lap) : Grows n b stem lap := by
  obtain ⟨x, y, L1, hne, L2, hxy, hn⟩ := h
  have gl : (diffL a b).length = n.pl.length := by rw [diffL_len hl, ao.len]
  have hg := leL_iff.mp hle
  have xo := L1.ok ok ao
  have yo := L2.ok ok xo
  have L1' := L1.shift ok hg gl ao
  rw [add_diff hl] at L1'
  refine ⟨addL x (diffL a b), addL y (diffL a b), L1', hne, L2.shift ok hg gl xo, ?_, fun e => hn (add_inj (by rw [gl, xo.len]) (by rw [gl, yo.len]) e)⟩
  have key : ∀ (g x y : List Int), leL x y = true → leL (addL x g) (addL y g) = true := by
    intro g
    induction g with
    | nil =>
      intro x y _
      unfold addL
      rw [List.zip_nil_right]
      rfl
    | cons d g ih =>
      intro x y h
      cases x with
      | nil => rfl
      | cons x0 x =>
        cases y with
        | nil =>
          unfold leL addL
          rw [List.zip_nil_left, List.map_nil, List.zip_nil_right]
          rfl
        | cons y0 y =>
          rw [leL_cons] at h
          show leL ((x0 + d) :: addL x g) ((y0 + d) :: addL y g) = true
          rw [leL_cons]
          exact ⟨by omega, ih x y h.2⟩
  exact key _ _ _ hxy
/-- k laps on -/
def mulL (k : Nat) (d : List Int) : List Int := d.map fun x => (k : Int) * x
theorem addL_mul : ∀ (k : Nat) (x d : List Int), d.length = x.length → addL (addL x (mulL k d)) d = addL x (mulL (k + 1) d)
  | k, [], [], _ => rfl
  | k, x :: xs, d :: ds, h => by
    show (x + (k : Int) * d + d) :: addL (addL xs (mulL k ds)) ds = (x + ((k + 1 : Nat) : Int) * d) :: addL xs (mulL (k + 1) ds)
    rw [addL_mul k xs ds (by simpa using h)]
    congr 1
    rw [show ((k + 1 : Nat) : Int) = (k : Int) + 1 by omega, Int.add_mul, Int.one_mul]
    omega
  | k, [], _ :: _, h => by cases h
  | k, _ :: _, [], h => by cases h
theorem addL_mul0 : ∀ (x d : List Int), d.length = x.length → addL x (mulL 0 d) = x
  | [], [], _ => rfl
  | x :: xs, d :: ds, h => by
    show (x + (0 : Nat) * d) :: addL xs (mulL 0 ds) = x :: xs
    rw [addL_mul0 xs ds (by simpa using h)]
    simp
  | [], _ :: _, h => by cases h
  | _ :: _, [], h => by cases h
theorem mulL_inj : ∀ (x d : List Int) (j k : Nat), d.length = x.length → (∃ e ∈ d, e ≠ 0) → addL x (mulL j d) = addL x (mulL k d) → j = k
  | x :: xs, d :: ds, j, k, h, he, e => by
    have e : (x + (j : Int) * d) :: addL xs (mulL j ds) = (x + (k : Int) * d) :: addL xs (mulL k ds) := e
    have e1 := (List.cons.inj e).1
    by_cases hd : d = 0
    · refine mulL_inj xs ds j k (by simpa using h) ?_ (List.cons.inj e).2
      obtain ⟨z, hz, hz0⟩ := he
      rcases List.mem_cons.mp hz with rfl | hz
      · exact absurd hd hz0
      · exact ⟨z, hz, hz0⟩
    · have : (j : Int) * d = (k : Int) * d := by omega
      have := Int.eq_of_mul_eq_mul_right hd this
      omega
  | [], [], _, _, _, he, _ => by
    obtain ⟨z, hz, _⟩ := he
    cases hz
  | [], _ :: _, _, _, h, _, _ => by cases h
  | _ :: _, [], _, _, h, _, _ => by cases h
theorem diff_ne : ∀ {x y : List Int}, x.length = y.length → x ≠ y → ∃ e ∈ diffL x y, e ≠ 0
  | [], [], _, h => absurd rfl h
  | x :: xs, y :: ys, hl, h => by
    by_cases e : x = y
    · subst e
      obtain ⟨z, hz, hz0⟩ := diff_ne (x := xs) (y := ys) (by simpa using hl) fun e => h (by rw [e])
      exact ⟨z, List.mem_cons_of_mem _ hz, hz0⟩
    · exact ⟨y - x, List.mem_cons_self .., by omega⟩
  | [], _ :: _, h, _ => by cases h
  | _ :: _, [], h, _ => by cases h
theorem Grows.not_closed (ok : NetOk n) {b : List Int} (bo : MOk n b) {stem lap : List Nat} (h : Grows n b stem lap) {ms : List (List Int)} (c : Closed n b ms) : False := by
  obtain ⟨x, y, L1, hne, L2, hxy, hn⟩ := h
  have xo := L1.ok ok bo
  have yo := L2.ok ok xo
  have hlen : x.length = y.length := by rw [xo.len, yo.len]
  have dl : (diffL x y).length = n.pl.length := by rw [diffL_len hlen, xo.len]
  have hd := leL_iff.mp hxy
  have hml : ∀ k, (mulL k (diffL x y)).length = n.pl.length := fun k => by
    unfold mulL
    rw [List.length_map, dl]
  have hm0 : ∀ k, ∀ e ∈ mulL k (diffL x y), 0 ≤ e := fun k e he => by
    obtain ⟨z, hz, rfl⟩ := List.mem_map.mp he
    exact Int.mul_nonneg (by omega) (hd z hz)
  have hin : ∀ k, addL x (mulL k (diffL x y)) ∈ ms := by
    intro k
    induction k with
    | zero =>
      rw [addL_mul0 x (diffL x y) (by rw [dl, xo.len])]
      exact c.all L1 c.mem
    | succ k ih =>
      have L := L2.shift ok (hm0 k) (hml k) xo
      have hy : addL y (mulL k (diffL x y)) = addL x (mulL (k + 1) (diffL x y)) := by
        rw [← addL_mul k x (diffL x y) (by rw [dl, xo.len])]
        have comm : ∀ (a g h : List Int), g.length = a.length → h.length = a.length → addL (addL a g) h = addL (addL a h) g := by
          intro a
          induction a with
          | nil => intro g h _ _; rfl
          | cons a0 a ih =>
            intro g h hg hh
            cases g with
            | nil => cases hg
            | cons g0 g =>
              cases h with
              | nil => cases hh
              | cons h0 h =>
                show (a0 + g0 + h0) :: addL (addL a g) h = (a0 + h0 + g0) :: addL (addL a h) g
                rw [ih g h (by simpa using hg) (by simpa using hh)]
                congr 1
                omega
        rw [comm x (mulL k (diffL x y)) (diffL x y) (by rw [hml, xo.len]) (by rw [dl, xo.len]), add_diff hlen]
      rw [← hy]
      exact c.all L ih
  have h1 : ((List.range 251).map fun k => addL x (mulL k (diffL x y))).length ≤ ms.length := by
    refine nodup_le ?_ fun z hz => ?_
    · refine List.Pairwise.map _ (fun j k h e => h (mulL_inj x (diffL x y) j k (by rw [dl, xo.len]) (diff_ne hlen hn) e)) List.nodup_range
    · obtain ⟨k, _, rfl⟩ := List.mem_map.mp hz
      exact hin k
  rw [List.length_map, List.length_range] at h1
  have := c.le
  omega
/-- each one reached from less lies in one reached from more -/
theorem Closed.covers (ok : NetOk n) {a b : List Int} (ao : MOk n a) (hl : a.length = b.length) (hle : leL a b = true) {ms ks : List (List Int)} (c : Closed n a ms) (d : Closed n b ks) {m : List Int} (hm : m ∈ ms) : ∃ k ∈ ks, leL m k = true := by
  obtain ⟨is, L⟩ := c.re m hm
  have gl : (diffL a b).length = n.pl.length := by rw [diffL_len hl, ao.len]
  have hg := leL_iff.mp hle
  have L2 := L.shift ok hg gl ao
  rw [add_diff hl] at L2
  exact ⟨_, d.all L2 d.mem, le_add hg⟩
end
end Mt

set_option maxHeartbeats 8000000
/-! the law's parts -/
namespace Mt
open PySem L2 Evl RZ
section
variable {K : PySem.W.Frag} {σ : L2.St} {H : Hp} {te ta tb tl : TE} {l : Addr}
theorem id_zipA {ds es : List PyData} (h : EvD ta σ H (.tuple ds)) (h2 : EvD tb σ H (.tuple es)) (hl : ds.length = es.length) : ItD false (iZipA K (tCons ta (tCons tb tNil))) σ H (List.zipWith (fun a b => PyData.tuple [a, b]) ds es) := fun H1 e R r => h H1 e _ fun v H2 e2 m => h2 H2 (e.trans e2) _ fun w H3 e3 m3 => by
  obtain ⟨p, xs, rfl, hp, k⟩ := (m.ex e3).tup_iff
  obtain ⟨q, ys, rfl, hq, k2⟩ := m3.tup_iff
  refine ⟨p, q, xs, ys, rfl, .inr ⟨.inl hp, .inl hq, r _ _ (e2.trans e3) ?_⟩⟩
  have k1 := k.len
  have k21 := k2.len
  have zl : (List.zipWith (fun a b => PyData.tuple [a, b]) ds es).length = xs.length := by rw [List.length_zipWith]; omega
  refine ⟨fun H1 => SqT K H1 p xs ∧ SqT K H1 q ys, fun i Ha v Hb => ∃ T x y, v = .ref T ∧ Ha T = none ∧ Hb = upd Ha T (.tup [x, y]) ∧ xs[i]? = some x ∧ ys[i]? = some y, ⟨fun i H1 hi g => ?_, fun H1 g => ?_, fun i H1 x H2 hi g y => ?_⟩, fun H1 e => ⟨.inl (Tx.rd e hp), .inl (Tx.rd e hq)⟩, fun i Ha x Hb d hd e y => ?_⟩
  · rw [zl] at hi
    have hi2 : i < ys.length := by omega
    exact ⟨xs, ys, xs[i], ys[i], g.1, g.2, by simp [hi], by simp [hi2]⟩
  · rw [zl]
    exact ⟨xs, ys, g.1, g.2, .inl (Nat.le_refl _)⟩
  · obtain ⟨T, z, w, h1, h2, h3, h4, h5⟩ := y
    exact ⟨T, z, w, h1, h2, h3, h4 xs g.1, h5 ys g.2⟩
  · obtain ⟨T, z, w, rfl, h2, rfl, h4, h5⟩ := y
    rw [List.getElem?_zipWith] at hd
    obtain ⟨a, ha, ka⟩ := k.at' h4
    obtain ⟨c, hc, kc⟩ := k2.at' h5
    rw [ha, hc] at hd
    cases hd
    exact ⟨Ex.new h2, im_pair upd_same ((ka.tx e).ex (Ex.new h2)) ((kc.tx e).ex (Ex.new h2))⟩
theorem id_zipAz {α : Type} {β : Type} {zs : List α} {ws : List β} {enc : α → PyData} {enc1 : β → PyData} (h : EvD ta σ H (.tuple (zs.map enc))) (h2 : EvD tb σ H (.tuple (ws.map enc1))) (hl : zs.length = ws.length) :
    ItD false (iZipA K (tCons ta (tCons tb tNil))) σ H ((zs.zip ws).map fun p => PyData.tuple [enc p.1, enc1 p.2]) := (id_zipA h h2 (by rw [List.length_map, List.length_map, hl])).to (by
  rw [List.zipWith_map, List.zip, List.map_zipWith])
theorem ev_neLL {a b : List Int} {p : Addr} (h1 : EvN ta σ H (a.map PyData.int)) (h2 : Ev tb σ H (.ref p)) (hp : H p = some (.lst (b.map V.int))) (e0 : a = b) : Ev (tOp (rNeD K) ta tb) σ H (.bl false) := fun H1 e Q q => h1 H1 e _ fun x xs H2 hx e2 h3 k3 => h2 H2 (e.trans e2) _ fun H3 e3 => ⟨.list (a.map .int), .list (b.map .int), .lst (SqL.of (e3 _ _ h3)) (dps_of (k3.ex e3)), .lst (SqL.of (((e.trans e2).trans e3) _ _ hp)) (dps_of (ims_ints b)), shaped_ints a, shaped_ints b, by
  show Q (.bl (!PyData.eqvAll (a.map .int) (b.map .int))) H3
  rw [eqv_ints, decide_eq_true e0]
  exact q H3 (e2.trans e3)⟩
/-- [other - one for one, other in zip(less, more)] -/
theorem en_gap {a b : List Int} {i j p q : Nat} {vs : List Nat} (ha : EvD (tVar i) σ H (.tuple (a.map PyData.int))) (hb : EvD (tVar j) σ H (.tuple (b.map PyData.int))) (hl : a.length = b.length) (h6 : a.length ≤ 6)
    (hw : ∀ x y : V, wipe (((wipe σ vs).set p (some x)).set q (some y)) vs = wipe σ vs ∧ (((wipe σ vs).set p (some x)).set q (some y))[p]? = some (some x) ∧ (((wipe σ vs).set p (some x)).set q (some y))[q]? = some (some y)) :
    EvN (tLc (iZipA K (tCons (tVar i) (tCons (tVar j) tNil))) (gTup K 2 (gCons (gName p) (gCons (gName q) gNil))) tYes (tOp (rI0 fun i j => .int (i - j)) (tVar q) (tVar p)) vs) σ H ((diffL a b).map PyData.int) := by
  have h := en_map (te := tOp (rI0 fun i j => .int (i - j)) (tVar q) (tVar p)) (g := gTup K 2 (gCons (gName p) (gCons (gName q) gNil))) (vs := vs) (id_zipAz (K := K) (enc := PyData.int) (enc1 := PyData.int) ha hb hl) (by rw [List.length_zip]; omega) (fun z => PyData.int (z.2 - z.1)) fun z hz x H1 e mx Kt q => g_pair mx fun u v mu mv => q _ (hw u v).1 (ed_int (ev_op (ev_int (ed_var (hw u v).2.2 mv)) (ev_int (ed_var (hw u v).2.1 mu)) rv_I0))
  unfold diffL
  rw [List.map_map]
  exact h
end
structure HoF (P : Program) (w : World) (K : PySem.W.Frag) (mg : Str → Option Value) (base : Heap) (CT : Addr) (kk : Nat) : Prop where
  at_ : ∃ f fd, FnOk P w K mg base (L2.CX P w) kk f fd ["net", "marking", "most"] (spHolds CT) ∧ mg "holds" = some (.ref f) ∧ PySem.W.keepIn K (.ref f) = true ∧ KBn K fd ["net", "marking", "most"] 2 ["most"] (fun us ws => us ++ ws) (fun vs zs => vs ++ zs)
section
variable {P : Program} {w : World} {K : PySem.W.Frag} {mg : Str → Option Value} {base : Heap}
def spBegun : Sp := fun vs H Q _ => ∃ (l : Addr) (v : V) (n : Net), vs = [.ref l, v] ∧ PoolAt H l ∧ NetAt n H v ∧ NetOk n ∧ ∀ (u : V) (H' : Hp) (m : List Int), Kx l H H' → MkAt H' u m → MOk n m → Q u H'
theorem sc_lbegun : FnScope ["_law_pool_here", "_law_net_here", "_law_place"] ["_law_pool_here", "_law_net_here"] (defScope (top 74)) := ⟨rfl, rfl, rfl, by decide +kernel, rfl, by decide +kernel, by decide +kernel⟩
theorem ok_lbegun {f : Addr} {fd : FuncData} (F : Fun K "_law_begun" "_law_begun" (top 74) f fd) (D_lone : Df P w K mg base "_law_one" 2 ["_law_pool_here", "_law_some"] (spOne K)) (B : Blt mg) : FnOk P w K mg base CX0 3 f fd ["_law_pool_here", "_law_net_here"] spBegun := by
  refine F.ok sc_lbegun (fun vs H Q E h => (by obtain ⟨l, v, n, rfl, _⟩ := h; rfl)) (fun cdv A outer s H vs Q E hr h => ?_)
  obtain ⟨l, v, n, rfl, po, hn, ok, k⟩ := h
  refine ⟨_, (pss_one (ps_ret (pe_callTy (r := rTupS K) (CallR_tup _) (by rfl) B.tuple bt_tuple (pa_cons (pe_lc (own := [("_law_place", 2)]) rfl sc_lbegun.nd (pi_tupK (K := K) rfl (pe_ix (r := rIxT K) ix_tup (pv 1) pe_int (fun _ _ => rfl))) (blkOk_by (own := [("_law_place", 2)]) (N := ["_law_pool_here", "_law_net_here", "_law_place"]) (sc := defScope (top 74)) (by decide +kernel)) (fun _ _ _ _ _ => (pg_name (i := 2) sc_lbegun.nd rfl (Or.inl rfl) (by first | exact Or.inl rfl | exact Or.inr rfl))) (fun _ _ _ _ _ => pts_nil) (fun _ _ _ _ _ => (pe_df D_lone (hr.mono (by decide)) (by rfl) (pa_cons (pv 0) (pa_cons (pe_lst (pa_cons pe_int (pa_cons pe_int (pa_cons pe_int (pa_cons pe_int pa_nil))))) pa_nil))))) pa_nil)))), ?_⟩
  obtain ⟨a, y, pp, z, o, xs, rfl, f1, f2, f3⟩ := hn.fz
  obtain ⟨a', ys, ea, g1, gk⟩ := hn.im.tup_iff
  cases ea
  rw [rd_inj g1 f1] at gk
  obtain ⟨_, _, eq, m1, gk⟩ := gk.cons_iff
  cases eq
  obtain ⟨_, _, eq, m2, gk⟩ := gk.cons_iff
  cases eq
  obtain ⟨p', xs', ep, hp1, pk⟩ := m2.tup_iff
  cases ep
  have pkl := pk.len
  rw [List.length_map] at pkl
  have lpl := ok.pl.hi
  show tLc (iTup K (tOp (rIxT K) (tVar 1) (tC (.int 1)))) (gName 2) tYes (tCall (spOne K) [] E0 (tCons (tVar 0) (tCons (tLst (tCons (tC (.int 0)) (tCons (tC (.int 1)) (tCons (tC (.int 1)) (tCons (tC (.int 2)) tNil))))) tNil))) [2] [some (.ref l), some (.ref a), none] H (fun x H1 => rTupS K [x] H1 Q)
  refine lcX (j := 2) (vs := [2]) po (sx_tup (K := K) (xs := xs') po (ev_ixE (ev_var rfl) f1 rfl) hp1) (fun n h => by omega) (fun _ => rfl) (fun i ds => ∃ ns : List Int, ds = ns.map PyData.int ∧ ∀ c ∈ ns, 0 ≤ c) ⟨[], rfl, fun _ h => nomatch h⟩ (fun n i x ds H5 hn hi hv hR kx Q q => ?_) _ fun n' p acc ds H5 hn' kx hne h5 hI hR hlen => ?_
  · obtain ⟨ns, rfl, hns⟩ := hR
    refine ⟨.ref l, rfl, sz_of (show 4 ≤ 100000 by decide), fun t ht => ?_⟩
    have e6 := Ex.new (o := .lst [.int 0, .int 1, .int 1, .int 2]) ht
    refine ⟨l, t, [.int 0, .int 1, .int 1, .int 2], rfl, kx.2.ex e6, pool_new kx.2 ht, .inl upd_same, Nat.succ_pos _, show 4 ≤ 100000 by decide, fun c v H7 hc k7 => ?_⟩
    obtain ⟨c0, hc0, rfl⟩ : ∃ c0 : Int, 0 ≤ c0 ∧ v = .int c0 := by
      have hm := List.mem_of_getElem? hc
      rcases List.mem_cons.mp hm with rfl | hm
      · exact ⟨0, by decide, rfl⟩
      rcases List.mem_cons.mp hm with rfl | hm
      · exact ⟨1, by decide, rfl⟩
      rcases List.mem_cons.mp hm with rfl | hm
      · exact ⟨1, by decide, rfl⟩
      rcases List.mem_cons.mp hm with rfl | hm
      · exact ⟨2, by decide, rfl⟩
      cases hm
    refine q _ (.int c0) H7 ((Kx.of kx.2 e6).trans k7) (im_int _) ⟨ns ++ [c0], by rw [List.map_append]; rfl, fun c hc => ?_⟩
    rcases List.mem_append.mp hc with hc | hc
    · exact hns c hc
    · rw [List.mem_singleton.mp hc]
      exact hc0
  · obtain ⟨ns, rfl, hns⟩ := hR
    rw [List.length_map] at hlen
    rw [hI.ints] at h5
    exact ⟨p, _, rfl, .inl ⟨SqL.of h5, fun t ht => k _ _ ns (kx.trans (Kx.of kx.2 (Ex.new ht))) ⟨t, rfl, upd_same⟩ ⟨by omega, hns⟩⟩⟩
def ManyAt (H : Hp) (v : V) : Prop := ∃ p, v = .ref p ∧ H p = some (.tup [.str "many"])
def spTold : Sp := fun vs H Q _ => ∃ (v mv : V) (n : Net) (m : List Int), vs = [v, mv] ∧ NetAt n H v ∧ NetOk n ∧ MkAt H mv m ∧ MOk n m ∧
  (∀ v H2 F', Ex H H2 → ClosedAt H2 v F' → Closed n m (fndM F') → Q v H2) ∧
  (∀ v H2 stem lap, Ex H H2 → GrowsAt H H2 v stem lap → Grows n m stem lap → Q v H2) ∧
  (∀ v H2, Ex H H2 → ManyAt H2 v → Many n m → Q v H2)
theorem sc_ltold : FnScope ["_law_net_here", "_law_begin"] ["_law_net_here", "_law_begin"] (defScope (top 75)) := ⟨rfl, rfl, rfl, by decide +kernel, rfl, by decide +kernel, by decide +kernel⟩
theorem ok_ltold {f : Addr} {fd : FuncData} (F : Fun K "_law_told" "_law_told" (top 75) f fd) {CT : Addr} (TM : TmF P w K mg base CT) (te : PySem.W.exmOne K (.ref CT) (.ref CT) = some true) (HF : HoF P w K mg base CT 14) : FnOk P w K mg base CX0 15 f fd ["_law_net_here", "_law_begin"] spTold := by
  refine F.ok sc_ltold (fun vs H Q E h => (by obtain ⟨v, mv, n, m, rfl, _⟩ := h; rfl)) (fun cdv A outer s H vs Q E hr h => ?_)
  obtain ⟨v, mv, n, m, rfl, hn, ok, hm, mo, k1, k2, k3⟩ := h
  obtain ⟨fH, fdH, GH, mH, kH, bH⟩ := HF.at_
  refine ⟨_, (pss_one (ps_try_only (c := .ref CT) (tb := fun W => tRet (tCallN 2 1 (spHolds CT) (fun vs zs => vs ++ zs) (fun cls d H => ∀ σ, W cls d σ H) (tCons (tVar 0) (tCons (tVar 1) tNil)) (tCons (tC (.int 250)) tNil))) (ts := fun a cls d => tRet (tTup (tCons (tC (.str "many")) tNil))) (Wout := fun _ _ _ _ => False) rfl rfl ⟨rfl, by decide, Or.inl TM.mgC⟩ takes0 (fun W pn xe tk _ => pss_one (ps_ret (pe_callN GH (hr.mono (by decide)) (by rfl) mH kH bH (passes_call tk fun cls d σ H h => h σ) (by exact (pa_cons (pv 0) (pa_cons (pv 1) pa_nil))) (by exact (pk_cons pe_int pk_nil))))) (fun a oe cls d pn hz hf => pss_one (ps_ret (by exact (pe_tup (pa_cons pe_str pa_nil))))))), ?_⟩
  refine ⟨v, rfl, mv, rfl, rfl, rfl, v, mv, n, m, rfl, hn, ok, hm, mo, k1, k2, fun d H2 e2 hM σ2 => ?_⟩
  refine ⟨true, te, fun _ a _ => ?_, fun e => nomatch e⟩
  exact ⟨sz_of (show 1 ≤ 100000 by decide), fun t ht => k3 _ _ (e2.trans (Ex.new ht)) ⟨t, rfl, upd_same⟩ hM⟩
end
end Mt

set_option maxHeartbeats 8000000
/-! the law's comparisons -/
namespace Mt
open PySem L2 Evl RZ
section
variable {P : Program} {w : World} {K : PySem.W.Frag} {mg : Str → Option Value} {base : Heap}
theorem atI_ints {a : List Int} {i : Nat} {c : Int} (h : a[i]? = some c) : atI (a.map V.int) (i : Int) = some (.int c) := atI_nat (by rw [List.getElem?_map, h]; rfl)
theorem given_empty {a b : List Int} (hl : a.length = b.length) : (given a.length (fun i => decide (b.getD i 0 < a.getD i 0)) (fun i => V.int (i : Int))).isEmpty = leL a b := by
  unfold given
  rw [Bool.eq_iff_iff, List.isEmpty_iff, List.map_eq_nil_iff, List.filter_eq_nil_iff]
  unfold leL
  rw [List.all_eq_true]
  constructor
  · intro h p hp
    obtain ⟨i, hi⟩ := List.mem_iff_getElem?.mp hp
    rw [List.getElem?_zip_eq_some] at hi
    have h1 := h i (List.mem_range.mpr (List.getElem?_eq_some_iff.mp hi.1).1)
    rw [List.getD_eq_getElem?_getD, List.getD_eq_getElem?_getD, hi.1, hi.2] at h1
    have h2 : ¬ p.2 < p.1 := fun e => h1 (decide_eq_true e)
    exact decide_eq_true (by omega)
  · intro h i hi hb
    have hi := List.mem_range.mp hi
    have hi2 : i < b.length := by omega
    have hm : (a[i], b[i]) ∈ a.zip b := List.mem_iff_getElem?.mpr ⟨i, by rw [List.getElem?_zip_eq_some]; exact ⟨List.getElem?_eq_getElem hi, List.getElem?_eq_getElem hi2⟩⟩
    have h1 := of_decide_eq_true (h _ hm)
    have h2 := of_decide_eq_true hb
    rw [List.getD_eq_getElem?_getD, List.getD_eq_getElem?_getD, List.getElem?_eq_getElem hi, List.getElem?_eq_getElem hi2] at h2
    have h1 : a[i] ≤ b[i] := h1
    have h2 : b[i] < a[i] := h2
    omega
/-- a marking that is there, its fields open or not -/
def MkRd (H : Hp) (v : V) (m : List Int) : Prop := ∃ p, v = .ref p ∧ Rd H p (.tup (m.map V.int))
theorem MkRd.of {H : Hp} {v : V} {m : List Int} (h : Im H v (.tuple (m.map PyData.int))) : MkRd H v m := by
  obtain ⟨p, xs, rfl, hp, k⟩ := h.tup_iff
  rw [k.ints] at hp
  exact ⟨p, rfl, hp⟩
def spWithR : Sp := fun vs H Q _ => ∃ (v u : V) (a b : List Int), vs = [v, u] ∧ MkRd H v a ∧ MkRd H u b ∧ a.length = b.length ∧ a.length ≤ 6 ∧ ∀ H2, Ex H H2 → Q (.bl (leL a b)) H2
theorem sc_lwithin : FnScope ["_law_one_here", "_law_other", "_law_at"] ["_law_one_here", "_law_other"] (defScope (top 76)) := ⟨rfl, rfl, rfl, by decide +kernel, rfl, by decide +kernel, by decide +kernel⟩
theorem ok_lwithin {f : Addr} {fd : FuncData} (F : Fun K "_law_within" "_law_within" (top 76) f fd) (B : Blt mg) : FnOk P w K mg base CX0 1 f fd ["_law_one_here", "_law_other"] spWithR := by
  refine F.ok sc_lwithin (fun vs H Q E h => (by obtain ⟨v, v1, _, m, rfl, _⟩ := h; rfl)) (fun cdv A outer s H vs Q E hr h => ?_)
  obtain ⟨v, u, a, b, rfl, ha, hb, hl, h6, k⟩ := h
  refine ⟨_, (pss_one (ps_ret (pe_cmpR (r := rEqD K) (op_eqD (eqd_of hr)) (pe_lc (own := [("_law_at", 2)]) rfl sc_lwithin.nd (pi_range1 (by rfl) B.range (pa_cons (pe_callB (r := Evl.rLenS K) (CallR_len _) (by rfl) B.len bt_len (pa_cons (pv 0) pa_nil)) pa_nil)) (blkOk_by (own := [("_law_at", 2)]) (N := ["_law_one_here", "_law_other", "_law_at"]) (sc := defScope (top 76)) (by decide +kernel)) (fun _ _ _ _ _ => (pg_name (i := 2) sc_lwithin.nd rfl (Or.inl rfl) (by first | exact Or.inl rfl | exact Or.inr rfl))) (fun _ _ _ _ _ => (pts_one (pt_cmpR op_gt (pe_ix (r := rIxT K) ix_tup (pv 0) (pv 2) (fun _ _ => rfl)) (pe_ix (r := rIxT K) ix_tup (pv 1) (pv 2) (fun _ _ => rfl)) (nomark _)))) (fun _ _ _ _ _ => (pv 2))) (pe_lst pa_nil) (nomark _)))), ?_⟩
  obtain ⟨p, rfl, hp⟩ := ha
  obtain ⟨q, rfl, hq⟩ := hb
  refine s_ret (ev_is (ev_eqL (ds := ((List.range a.length).filter (fun i => decide (b.getD i 0 < a.getD i 0))).map intD) (EvN.s (en_ofL ?_)) (shapedL (n := 0) (by decide) fun d hd => ?_)) (congrArg V.bl ?_)) k
  · have h := el_lcR1 (t := tTest (tOp (rI0 fun i j => .bl (decide (j < i))) (tOp (rIxT K) (tVar 0) (tVar 2)) (tOp (rIxT K) (tVar 1) (tVar 2)))) (te := tVar 2) (ta := tCons (tCB (rLenS K) (tCons (tVar 0) tNil)) tNil) (j := 2) (vs := [2]) (σ := L2.start ["_law_one_here", "_law_other", "_law_at"] [.ref p, .ref q]) (H := H) (n := (a.length : Int)) (fun i => decide (b.getD i 0 < a.getD i 0)) (fun i => V.int (i : Int)) (ea_cons (ev_lenX (ev_var rfl) hp (List.length_map _)) ea_nil) (by omega) (fun _ => rfl) (fun i H1 e hi => ?_) (fun i H1 e hi _ => ev_var rfl)
    · rw [Int.toNat_natCast] at h
      exact h
    · have hi1 : i < a.length := by omega
      have hi2 : i < b.length := by omega
      refine et_test (ev_is (ev_op (ev_op (ev_var rfl) (ev_var rfl) (rv_ixT (.inl (ex_rd e hp)) (atI_ints (List.getElem?_eq_getElem hi1)))) (ev_op (ev_var rfl) (ev_var rfl) (rv_ixT (.inl (ex_rd e hq)) (atI_ints (List.getElem?_eq_getElem hi2)))) rv_I0) (congrArg V.bl ?_))
      rw [List.getD_eq_getElem?_getD, List.getD_eq_getElem?_getD, List.getElem?_eq_getElem hi1, List.getElem?_eq_getElem hi2]
      rfl
  · obtain ⟨i, _, rfl⟩ := List.mem_map.mp hd
    exact ⟨rfl, Nat.le_refl _⟩
  · have := given_empty hl
    unfold given at this
    rw [List.isEmpty_map] at this ⊢
    exact this
def spLed : Sp := fun vs H Q _ => ∃ (l : Addr) (v x y : V) (n : Net) (a b : List Int), vs = [.ref l, v, x, y] ∧ PoolAt H l ∧ NetAt n H v ∧ NetOk n ∧ MkAt H x a ∧ MkAt H y b ∧ MOk n a ∧ MOk n b ∧ leL a b = true ∧ ∀ H', Kx l H H' → Q (.bl true) H'
theorem sc_lled_alike : FnScope ["_law_pool_here", "_law_net_here", "_law_less", "_law_more", "_law_gap", "_law_turn", "_law_some", "_law_rule", "_law_one_here", "_law_other"] ["_law_pool_here", "_law_net_here", "_law_less", "_law_more"] (defScope (top 77)) := ⟨rfl, rfl, rfl, by decide +kernel, rfl, by decide +kernel, by decide +kernel⟩
theorem ok_lled_alike {f : Addr} {fd : FuncData} (F : Fun K "_law_led_alike" "_law_led_alike" (top 77) f fd) (D_behind : Df P w K mg base "behind" 14 ["net", "marking", "rule"] spBeh) (D_can : Df P w K mg base "can" 14 ["net", "marking"] spCanBy) (D_lone : Df P w K mg base "_law_one" 2 ["_law_pool_here", "_law_some"] (spOne K)) (B : Blt mg) : FnOk P w K mg base CX0 15 f fd ["_law_pool_here", "_law_net_here", "_law_less", "_law_more"] spLed := by
  refine F.ok sc_lled_alike (fun vs H Q E h => (by obtain ⟨l, v, _, _, _, _, _, rfl, _⟩ := h; rfl)) (fun cdv A outer s H vs Q E hr h => ?_)
  obtain ⟨l, v, x, y, n, a, b, rfl, po, hn, ok, hx, hy, ao, bo, hle, k⟩ := h
  refine ⟨_, (pss_cons (ps_setLc (i := 4) (own := [("_law_one_here", 8), ("_law_other", 9)]) rfl sc_lled_alike.nd rfl rfl (sw_true rfl rfl rfl (by decide +kernel)) (pi_zipA (by rfl) B.zip (pa_cons (pv 2) (pa_cons (pv 3) pa_nil))) (blkOk_by (own := [("_law_one_here", 8), ("_law_other", 9)]) (N := ["_law_pool_here", "_law_net_here", "_law_less", "_law_more", "_law_gap", "_law_turn", "_law_some", "_law_rule", "_law_one_here", "_law_other"]) (sc := defScope (top 77)) (by decide +kernel)) (fun _ _ _ _ _ => (pg_tupK (K := K) (n := 2) rfl rfl (pgs_cons (pg_name (i := 8) sc_lled_alike.nd rfl (Or.inl rfl) (by first | exact Or.inl rfl | exact Or.inr rfl)) (pgs_cons (pg_name (i := 9) sc_lled_alike.nd rfl (Or.inl rfl) (by first | exact Or.inl rfl | exact Or.inr rfl)) pgs_nil)))) (fun _ _ _ _ _ => pts_nil) (fun _ _ _ _ _ => (pe_op op_sub (pv 9) (pv 8))))
      (pss_cons (ps_for PassesOwn.never rfl (pi_range1 (by rfl) B.range (pa_cons pe_int pa_nil)) (pg_name (i := 5) sc_lled_alike.nd rfl (Or.inl rfl) (by first | exact Or.inl rfl | exact Or.inr rfl)) (pss_cons (ps_set (i := 6) sc_lled_alike.nd rfl (Or.inl rfl) (pe_df D_can (hr.mono (by decide)) (by rfl) (pa_cons (pv 1) (pa_cons (pv 2) pa_nil))))
      (pss_cons (ps_if (pt_cmpR (r := rNeD K) (op_neD (eqd_of hr)) (pe_lc (own := [("_law_rule", 7)]) rfl sc_lled_alike.nd (pi_listK (K := K) rfl (pv 6)) (blkOk_by (own := [("_law_rule", 7)]) (N := ["_law_pool_here", "_law_net_here", "_law_less", "_law_more", "_law_gap", "_law_turn", "_law_some", "_law_rule", "_law_one_here", "_law_other"]) (sc := defScope (top 77)) (by decide +kernel)) (fun _ _ _ _ _ => (pg_name (i := 7) sc_lled_alike.nd rfl (Or.inl rfl) (by first | exact Or.inl rfl | exact Or.inr rfl))) (fun _ _ _ _ _ => (pts_one (pt_cmpR (r := rIn K true) op_notIn_seq (pv 7) (pe_df D_can (hr.mono (by decide)) (by rfl) (pa_cons (pv 1) (pa_cons (pv 3) pa_nil))) (by rfl)))) (fun _ _ _ _ _ => (pv 7))) (pe_lst pa_nil) (nomark _)) (pss_one (ps_ret pe_bl)) pss_nil)
      (pss_cons (ps_if (pt_cmpR (r := rEqD K) (op_eqD (eqd_of hr)) (pv 6) (pe_lst pa_nil) (nomark _)) (pss_one (ps_ret pe_bl)) pss_nil)
      (pss_cons (ps_set (i := 7) sc_lled_alike.nd rfl (Or.inl rfl) (pe_df D_lone (hr.mono (by decide)) (by rfl) (pa_cons (pv 0) (pa_cons (pv 6) pa_nil))))
      (pss_cons (ps_asg (pe_tup (pa_cons (pe_df D_behind (hr.mono (by decide)) (by rfl) (pa_cons (pv 1) (pa_cons (pv 2) (pa_cons (pv 7) pa_nil)))) (pa_cons (pe_df D_behind (hr.mono (by decide)) (by rfl) (pa_cons (pv 1) (pa_cons (pv 3) (pa_cons (pv 7) pa_nil)))) pa_nil))) (pg_tupK (K := K) (n := 2) rfl rfl (pgs_cons (pg_name (i := 2) sc_lled_alike.nd rfl (Or.inl rfl) (by first | exact Or.inl rfl | exact Or.inr rfl)) (pgs_cons (pg_name (i := 3) sc_lled_alike.nd rfl (Or.inr rfl) (by first | exact Or.inl rfl | exact Or.inr rfl)) pgs_nil))))
      (pss_one (ps_if (pt_cmpR (r := rNeD K) (op_neD (eqd_of hr)) (pe_lc (own := [("_law_one_here", 8), ("_law_other", 9)]) rfl sc_lled_alike.nd (pi_zipA (by rfl) B.zip (pa_cons (pv 2) (pa_cons (pv 3) pa_nil))) (blkOk_by (own := [("_law_one_here", 8), ("_law_other", 9)]) (N := ["_law_pool_here", "_law_net_here", "_law_less", "_law_more", "_law_gap", "_law_turn", "_law_some", "_law_rule", "_law_one_here", "_law_other"]) (sc := defScope (top 77)) (by decide +kernel)) (fun _ _ _ _ _ => (pg_tupK (K := K) (n := 2) rfl rfl (pgs_cons (pg_name (i := 8) sc_lled_alike.nd rfl (Or.inl rfl) (by first | exact Or.inl rfl | exact Or.inr rfl)) (pgs_cons (pg_name (i := 9) sc_lled_alike.nd rfl (Or.inl rfl) (by first | exact Or.inl rfl | exact Or.inr rfl)) pgs_nil)))) (fun _ _ _ _ _ => pts_nil) (fun _ _ _ _ _ => (pe_op op_sub (pv 9) (pv 8)))) (pv 4) (nomark _)) (pss_one (ps_ret pe_bl)) pss_nil))))))))
      (pss_one (ps_ret pe_bl)))), ?_⟩
  have lpl := ok.pl.hi
  have la := ao.len
  have lb := bo.len
  refine qn_asg (en_gap (ed_var rfl hx.im) (ed_var rfl hy.im) (by omega) (by omega) fun _ _ => ⟨rfl, rfl, rfl⟩) fun gl gxs H1 hgl e1 h1 k1 => ?_
  rw [k1.ints] at h1
  have p1 := po.ex e1
  have ngl : gl ≠ l := pool_new po hgl
  refine q_forR1 (n := 20) (ea_cons ev_c ea_nil) ⟨by decide, by decide⟩ (fun i σ' H' => Kx l H H' ∧ H' gl = some (.lst ((diffL a b).map V.int)) ∧ ∃ x y a1 b1 u5 u6 u7, σ' = [some (.ref l), some v, some x, some y, some (.ref gl), u5, u6, u7, none, none] ∧ MkAt H' x a1 ∧ MkAt H' y b1 ∧ MOk n a1 ∧ MOk n b1 ∧ diffL a1 b1 = diffL a b)
    (fun H2 e2 => ⟨Kx.of po (e1.trans e2), e2 _ _ h1, x, y, a, b, _, _, _, rfl, hx.ex (e1.trans e2), hy.ex (e1.trans e2), ao, bo, rfl⟩) (fun i σ' H' hi h => ?_) fun σ' H' h => ?_
  · obtain ⟨k2, hg2, x, y, a1, b1, u5, u6, u7, rfl, hx2, hy2, ao1, bo1, hd⟩ := h
    have la1 := ao1.len
    have lb1 := bo1.len
    have hle1 : leL a1 b1 = true := by
      rw [leL_iff, hd]
      exact leL_iff.mp hle
    have hn2 := hn.tx (k2.tx po)
    refine q_asgP (Φ := fun v H3 => ∃ p, v = .ref p ∧ H' p = none ∧ H3 p = some (.lst (natsV (canL n a1)))) (ep_call (ea_cons (ev_var rfl) (ea_cons (ev_var rfl) ea_nil)) fun H3 e3 Q q => ⟨v, x, n, a1, rfl, hn2.ex e3, ok, hx2.ex e3, ao1, fun v H4 e4 ⟨p, h1, h2, h3⟩ => q v H4 e4 ⟨p, h1, fresh_back e3 h2, h3⟩⟩) fun sv H3 e3 hs => ?_
    obtain ⟨sp, rfl, hsp, h3⟩ := hs
    have hS : ∀ H4, Ex H3 H4 → LsAt H4 (.ref sp) ((canL n a1).map intD) := fun H4 e4 => ⟨sp, _, rfl, e4 _ _ h3, ims_nats _⟩
    have hcl : (canL n a1).length ≤ 40000 := by
      unfold canL
      rw [List.length_map]
      refine Nat.le_trans (List.length_filter_le _ _) ?_
      rw [zip_len]
      have := ok.hi
      omega
    refine q_no (et_test (ev_is (ev_neL (ds := []) (EvN.s (en_none (enc := intD) (id_list (es_var rfl (hS _ (Ex.refl _)))) hcl fun j hj z H4 e4 mz Kt q => g_name (q _ rfl (et_test ?_)))) (by decide +kernel)) rfl)) fun H4 e4 => ?_
    · rw [show z = .int (j : Int) from mz.int_iff]
      refine ev_is (ev_inI (neg := true) (x := (j : Int)) (ed_int (ev_var rfl)) (EvN.s (en_canBy (ev_var rfl) (ev_var rfl) (hn2.ex (e3.trans e4)) ok (hy2.ex (e3.trans e4)) bo1))) (congrArg V.bl ?_)
      rw [if_pos rfl, decide_eq_true (nat_mem.mpr (can_sub (by omega) hle1 hj))]
      rfl
    have hsh : SeqAt.shaped (.list ((canL n a1).map intD)) = true := by
      have := shaped_ints ((canL n a1).map fun i : Nat => (i : Int))
      rwa [List.map_map] at this
    refine q_when (et_test (ev_eqL (es_var rfl (hS _ e4)) hsh)) (fun hem H5 e5 => ?_) fun hem H5 e5 => ?_
    · exact s_ret ev_c fun H6 e6 => k H6 (k2.trans (Kx.of k2.2 ((e3.trans e4).trans (e5.trans e6))))
    have e35 := e4.trans e5
    have k5 := k2.trans (Kx.of k2.2 (e3.trans e35))
    have nsp : sp ≠ l := pool_new k2.2 hsp
    have hne : 0 < (natsV (canL n a1)).length := by
      unfold natsV
      rw [List.length_map]
      rcases Nat.eq_zero_or_pos (canL n a1).length with z | z
      · rw [List.length_eq_zero_iff.mp z] at hem
        exact nomatch hem
      · exact z
    refine q_asgX (Φ := fun u H6 => ∃ i : Nat, u = .int (i : Int) ∧ i ∈ canL n a1 ∧ Kx l H5 H6) (fun Q q => ⟨.ref l, rfl, .ref sp, rfl, l, sp, _, rfl, k5.2, nsp, .inl (e35 _ _ h3), hne, by unfold natsV; rw [List.length_map]; omega, fun i u H6 hu kx => ?_⟩) fun u H6 ⟨i, hu, hi, k6⟩ => ?_
    · unfold natsV at hu
      rw [List.getElem?_map] at hu
      cases hc : (canL n a1)[i]? with
      | none => rw [hc] at hu; cases hu
      | some j =>
        rw [hc] at hu
        exact q _ _ ⟨j, (Option.some.inj hu).symm, List.mem_of_getElem? hc, kx⟩
    subst hu
    have k56 := k5.trans k6
    obtain ⟨r, hr, _⟩ := canL_at hi
    have t26 : Tx H' H6 := (tx_of (e3.trans e35)).trans (k6.tx k5.2)
    have hn6 := hn2.tx t26
    have hx6 := hx2.tx t26
    have hy6 := hy2.tx t26
    have hi2 := can_sub (by omega) hle1 hi
    have hg6 : H6 gl = some (.lst ((diffL a b).map V.int)) := k6.1 _ _ ngl ((e3.trans e35) _ _ hg2)
    refine q_asgGX (Φ := fun u H7 => Ex H6 H7 ∧ ∃ t s1 s2, u = .ref t ∧ H7 t = some (.tup [s1, s2]) ∧ MkAt H7 s1 (behL n.pl a1 r) ∧ MkAt H7 s2 (behL n.pl b1 r)) (fun Q q => ?_) fun u H7 ⟨e7, t, s1, s2, hu, ht, hs1, hs2⟩ => ?_
    · refine ⟨v, rfl, x, rfl, _, rfl, v, x, n, a1, i, r, rfl, hn6, ok, hx6, ao1, hr, hi, fun s1 H7 e7 ⟨q1, h1, _, h2⟩ => ?_⟩
      refine ⟨v, rfl, y, rfl, _, rfl, v, y, n, b1, i, r, rfl, hn6.ex e7, ok, hy6.ex e7, bo1, hr, hi2, fun s2 H8 e8 ⟨q2, h3, _, h4⟩ => ⟨sz_of (show 2 ≤ 100000 by decide), fun t ht => ?_⟩⟩
      have e9 := Ex.new (o := .tup [s1, s2]) ht
      exact q _ _ ⟨(e7.trans e8).trans e9, t, s1, s2, rfl, upd_same, ⟨q1, h1, e9 _ _ (e8 _ _ h2)⟩, ⟨q2, h3, e9 _ _ h4⟩⟩
    subst hu
    refine ⟨t, _, rfl, .inl (.inl ht), rfl, _, _, rfl, _, _, rfl, rfl, ?_⟩
    have k67 := k56.trans (Kx.of k56.2 e7)
    have ao2 := beh_okI ok ao1 hi hr
    have bo2 := beh_okI ok bo1 hi2 hr
    have hd2 : diffL (behL n.pl a1 r) (behL n.pl b1 r) = diffL a b := (beh_diff la1 lb1).trans hd
    have la2 := ao2.len
    have lb2 := bo2.len
    refine s_no (et_test (ev_neLL (en_gap (ed_var rfl hs1.im) (ed_var rfl hs2.im) (by omega) (by omega) fun _ _ => ⟨rfl, rfl, rfl⟩) (ev_var rfl) (e7 _ _ hg6) hd2)) fun H8 e8 => ?_
    exact ⟨k67.trans (Kx.of k67.2 e8), e8 _ _ (e7 _ _ hg6), s1, s2, _, _, _, _, _, rfl, hs1.ex e8, hs2.ex e8, ao2, bo2, hd2⟩
  · obtain ⟨k2, _, x, y, a1, b1, u5, u6, u7, rfl, _⟩ := h
    exact s_ret ev_c fun H3 e3 => k H3 (k2.trans (Kx.of k2.2 e3))
end
end Mt

set_option maxHeartbeats 8000000
/-! the law -/
namespace Mt
open PySem L2 Evl RZ
section
variable {K : PySem.W.Frag} {σ : L2.St} {H H' : Hp} {te ta tb tl : TE} {l : Addr} {D : Ends} {tz : TS} {n : Net} {m : List Int}
/-- what a search has told, and that it is so -/
def TellAt (B H : Hp) (v : V) (n : Net) (m : List Int) : Prop := (∃ F, ClosedAt H v F ∧ Closed n m (fndM F)) ∨ (∃ stem lap, GrowsAt B H v stem lap ∧ Grows n m stem lap) ∨ (ManyAt H v ∧ Many n m)
theorem ClosedAt.kx {v : V} {F : Fnd} (po : PoolAt H l) (k : Kx l H H') (h : ClosedAt H v F) : ClosedAt H' v F := by
  obtain ⟨p, q, rfl, hp, hq, hb⟩ := h
  refine ⟨p, q, rfl, k.1 _ _ (pool_ne po hp fun _ _ e => nomatch e) hp, k.1 _ _ (pool_ne po hq fun a b e => ?_) hq, fun b h => k.1 _ _ (pool_ne po (hb b h) fun _ _ e => nomatch e) (hb b h)⟩
  cases F with
  | nil => exact nomatch e
  | cons x F =>
    have := (List.cons.inj (HO.lst.inj e)).1
    exact nomatch this
theorem GrowsAt.kx {B : Hp} {v : V} {stem lap : List Nat} (po : PoolAt H l) (hB : B l ≠ none) (k : Kx l H H') (h : GrowsAt B H v stem lap) : GrowsAt B H' v stem lap := by
  obtain ⟨p, q, r, rfl, bq, br, hp, hq, hr⟩ := h
  exact ⟨p, q, r, rfl, bq, br, k.1 _ _ (pool_ne po hp fun _ _ e => nomatch e) hp, k.1 _ _ (fun e => hB (e ▸ bq)) hq, k.1 _ _ (fun e => hB (e ▸ br)) hr⟩
theorem GrowsAt.ex {B : Hp} {v : V} {stem lap : List Nat} (e : Ex H H') (h : GrowsAt B H v stem lap) : GrowsAt B H' v stem lap := by
  obtain ⟨p, q, r, rfl, bq, br, hp, hq, hr⟩ := h
  exact ⟨p, q, r, rfl, bq, br, e _ _ hp, e _ _ hq, e _ _ hr⟩
theorem ManyAt.kx {v : V} (po : PoolAt H l) (k : Kx l H H') (h : ManyAt H v) : ManyAt H' v := by
  obtain ⟨p, rfl, hp⟩ := h
  exact ⟨p, rfl, k.1 _ _ (pool_ne po hp fun _ _ e => nomatch e) hp⟩
theorem TellAt.kx {B : Hp} {v : V} (po : PoolAt H l) (hB : B l ≠ none) (k : Kx l H H') (h : TellAt B H v n m) : TellAt B H' v n m := by
  rcases h with ⟨F, h, c⟩ | ⟨s, t, h, c⟩ | ⟨h, c⟩
  · exact .inl ⟨F, h.kx po k, c⟩
  · exact .inr (.inl ⟨s, t, h.kx po hB k, c⟩)
  · exact .inr (.inr ⟨h.kx po k, c⟩)
theorem ep_told {i j : Nat} {v mv : V} (h1 : σ[i]? = some (some v)) (h2 : σ[j]? = some (some mv)) (hn : NetAt n H v) (ok : NetOk n) (hm : MkAt H mv m) (mo : MOk n m) : EvP (tCall spTold [] E0 (tCons (tVar i) (tCons (tVar j) tNil))) σ H fun u H' => TellAt H H' u n m :=
  ep_call (ea_cons (ev_var h1) (ea_cons (ev_var h2) ea_nil)) fun H1 e1 Q q => ⟨v, mv, n, m, rfl, hn.ex e1, ok, hm.ex e1, mo, fun u H2 F e2 h c => q u H2 e2 (.inl ⟨F, h, c⟩),
    fun u H2 stem lap e2 ⟨p, a, b, k1, k2, k3, k4⟩ g => q u H2 e2 (.inr (.inl ⟨stem, lap, ⟨p, a, b, k1, fresh_back e1 k2, fresh_back e1 k3, k4⟩, g⟩)), fun u H2 e2 h M => q u H2 e2 (.inr (.inr ⟨h, M⟩))⟩
theorem q_par2 {i j : Nat} {Φ Ψ : V → Hp → Prop} (h1 : EvP ta σ H Φ) (h2 : EvP tb σ H Ψ) (k : ∀ v u H1 H2, Ex H H1 → Φ v H1 → Ex H1 H2 → Ψ u H2 → tz D ((σ.set i (some v)).set j (some u)) H2) : tSeq (tPar i j (tCons ta (tCons tb tNil))) tz D σ H :=
  h1 H (Ex.refl H) _ fun v H1 e1 f1 => h2 H1 e1 _ fun u H2 e2 f2 => ⟨v, u, rfl, k v u H1 H2 e1 f1 e2 f2⟩
theorem leL_app : ∀ {a b : List Int} {x y : Int}, a.length = b.length → leL a b = true → x ≤ y → leL (a ++ [x]) (b ++ [y]) = true
  | [], [], x, y, _, _, h => by
    rw [List.nil_append, List.nil_append, leL_cons]
    exact ⟨h, rfl⟩
  | p :: a, q :: b, x, y, hl, h1, h => by
    rw [leL_cons] at h1
    rw [List.cons_append, List.cons_append, leL_cons]
    exact ⟨h1.1, leL_app (by simpa using hl) h1.2 h⟩
  | [], _ :: _, _, _, h, _, _ => by cases h
  | _ :: _, [], _, _, h, _, _ => by cases h
def mkD (m : List Int) : PyData := .tuple (m.map PyData.int)
theorem fnd_ims {F : Fnd} (h : ∀ b ∈ F, H b.1 = some (.tup (b.2.map V.int))) : Ims H (fndV F) ((fndM F).map mkD) := by
  induction F with
  | nil => exact ims_nil
  | cons b F ih => exact ims_cons (im_tup (h b (by simp)) (ims_ints b.2)) (ih fun c hc => h c (by simp [hc]))
theorem es_of {v : V} {ds : List PyData} (h : Ev te σ H v) (hl : LsAt H v ds) : EvS te σ H ds := fun H1 e _ q => h H1 e _ fun H2 e2 => q v H2 e2 (hl.ex (e.trans e2))
theorem mkD_sh (m : List Int) : PyData.canLay0 (mkD m) = true ∧ PyData.depth (mkD m) ≤ 2 := by
  unfold mkD
  refine ⟨?_, ?_⟩
  · exact canAll fun d hd => by
      obtain ⟨i, _, rfl⟩ := List.mem_map.mp hd
      rfl
  · show PyData.depthAll (m.map PyData.int) + 1 ≤ 2
    have := depAll (n := 0) (ds := m.map PyData.int) fun d hd => by
      obtain ⟨i, _, rfl⟩ := List.mem_map.mp hd
      exact Nat.le_refl _
    omega
theorem at0 {x : V} {xs : List V} : atI (x :: xs) 0 = some x := atI_nat (i := 0) rfl
theorem ev_isnot (h1 : Ev ta σ H (.bl true)) (h2 : Ev tb σ H (.bl true)) : Ev (tOp (fun x y H Q => ∃ a b, x = V.bl a ∧ y = V.bl b ∧ Q (V.bl (!decide (a = b))) H) ta tb) σ H (.bl false) := ev_op h1 h2 fun H1 e Q q => ⟨true, true, rfl, rfl, q H1 (Ex.refl _)⟩
theorem kx_ex {H0 : Hp} (h : H0 l = none) (e : Ex H0 H) (k : Kx l H H') : Ex H0 H' := fun q o ho => k.1 q o (fun z => by rw [z, h] at ho; cases ho) (e q o ho)
end
section
variable {P : Program} {w : World} {K : PySem.W.Frag} {mg : Str → Option Value} {base : Heap}
def spLaw (K : PySem.W.Frag) : Sp := fun vs H Q _ => ∃ (a : Addr) (ns : List Int), vs = [.ref a] ∧ SqL K H a (ns.map V.int) ∧ ns.length ≤ 63 ∧ ∀ H', Q (.bl true) H'
theorem sc_law : FnScope ["_law_script", "_law_k", "_law_pool_here", "_law_net_here", "_law_less", "_law_more", "_law_one_here", "_law_other", "_law_marking", "_law_many", "_law_great"] ["_law_script"] (defScope (top 78)) := ⟨rfl, rfl, rfl, by decide +kernel, rfl, by decide +kernel, by decide +kernel⟩
theorem ok_law {f : Addr} {fd : FuncData} (F : Fun K "law" "law" (top 78) f fd) (D_lbegun : Df P w K mg base "_law_begun" 3 ["_law_pool_here", "_law_net_here"] spBegun) (D_lets_holds : Df P w K mg base "lets_holds" 14 ["net", "marking", "thing"] spLetsH) (D_lled_alike : Df P w K mg base "_law_led_alike" 15 ["_law_pool_here", "_law_net_here", "_law_less", "_law_more"] spLed) (D_lnet : Df P w K mg base "_law_net" 5 ["_law_pool_here", "_law_top"] spNetL) (D_lpool : Df P w K mg base "_law_pool" 1 ["_law_script", "_law_k"] (spPool K)) (D_ltake : Df P w K mg base "_law_take" 1 ["_law_pool_here", "_law_many"] spTake) (D_ltold : Df P w K mg base "_law_told" 15 ["_law_net_here", "_law_begin"] spTold) (D_lwithin : Df P w K mg base "_law_within" 1 ["_law_one_here", "_law_other"] spWithR) (B : Blt mg) : FnOk P w K mg base CX0 16 f fd ["_law_script"] (spLaw K) := by
  refine F.ok sc_law (fun vs H Q E h => (by obtain ⟨a, ns, rfl, _⟩ := h; rfl)) (fun cdv A outer s H vs Q E hr h => ?_)
  obtain ⟨a, ns, rfl, hs, hl, k⟩ := h
  refine ⟨_, (pss_cons (ps_for PassesOwn.never rfl (pi_range1 (by rfl) B.range (pa_cons (pe_callB (call_max2 rfl) (by rfl) B.max bt_max (pa_cons pe_int (pa_cons (pe_callB (call_min2 rfl) (by rfl) B.min bt_min (pa_cons (pe_callB (r := Evl.rLenS K) (CallR_len _) (by rfl) B.len bt_len (pa_cons (pv 0) pa_nil)) (pa_cons pe_int pa_nil))) pa_nil))) pa_nil)) (pg_name (i := 1) sc_law.nd rfl (Or.inl rfl) (by first | exact Or.inl rfl | exact Or.inr rfl)) (pss_cons (ps_set (i := 2) sc_law.nd rfl (Or.inr rfl) (pe_df D_lpool (hr.mono (by decide)) (by rfl) (pa_cons (pv 0) (pa_cons (pv 1) pa_nil))))
      (pss_cons (ps_set (i := 3) sc_law.nd rfl (Or.inl rfl) (pe_df D_lnet (hr.mono (by decide)) (by rfl) (pa_cons (pv 2) (pa_cons pe_int pa_nil))))
      (pss_cons (ps_set (i := 4) sc_law.nd rfl (Or.inl rfl) (pe_df D_lbegun (hr.mono (by decide)) (by rfl) (pa_cons (pv 2) (pa_cons (pv 3) pa_nil))))
      (pss_cons (ps_set (i := 5) sc_law.nd rfl (Or.inl rfl) (pe_callTy (r := rTupS K) (CallR_tup _) (by rfl) B.tuple bt_tuple (pa_cons (pe_lc (own := [("_law_many", 9)]) rfl sc_law.nd (pi_tupK (K := K) rfl (pv 4)) (blkOk_by (own := [("_law_many", 9)]) (N := ["_law_script", "_law_k", "_law_pool_here", "_law_net_here", "_law_less", "_law_more", "_law_one_here", "_law_other", "_law_marking", "_law_many", "_law_great"]) (sc := defScope (top 78)) (by decide +kernel)) (fun _ _ _ _ _ => (pg_name (i := 9) sc_law.nd rfl (Or.inl rfl) (by first | exact Or.inl rfl | exact Or.inr rfl))) (fun _ _ _ _ _ => pts_nil) (fun _ _ _ _ _ => (pe_op op_add (pv 9) (pe_df D_ltake (hr.mono (by decide)) (by rfl) (pa_cons (pv 2) (pa_cons pe_int pa_nil)))))) pa_nil)))
      (pss_cons (ps_par (i := 6) (j := 7) (by rfl) sc_law.nd rfl rfl (by decide) rfl rfl (pa_cons (pe_df D_ltold (hr.mono (by decide)) (by rfl) (pa_cons (pv 3) (pa_cons (pv 4) pa_nil))) (pa_cons (pe_df D_ltold (hr.mono (by decide)) (by rfl) (pa_cons (pv 3) (pa_cons (pv 5) pa_nil))) pa_nil)) (by rfl))
      (pss_cons (ps_if (pt_not (pt_val (pe_df D_lled_alike (hr.mono (by decide)) (by rfl) (pa_cons (pv 2) (pa_cons (pv 3) (pa_cons (pv 4) (pa_cons (pv 5) pa_nil))))))) (pss_one (ps_ret pe_bl)) pss_nil)
      (pss_cons (ps_if (pt_cmpR op_eq (pe_ix (r := rIxT K) ix_tup (pv 7) pe_int (fun _ _ => rfl)) pe_str (nomark _)) (pss_cons (ps_if (pt_cmpR op_ne (pe_ix (r := rIxT K) ix_tup (pv 6) pe_int (fun _ _ => rfl)) pe_str (nomark _)) (pss_one (ps_ret pe_bl)) pss_nil)
      (pss_one (ps_for PassesOwn.never rfl (pi_listK (K := K) rfl (pe_ix (r := rIxT K) ix_tup (pv 6) pe_int (fun _ _ => rfl))) (pg_name (i := 8) sc_law.nd rfl (Or.inr rfl) (by first | exact Or.inl rfl | exact Or.inr rfl)) (pss_one (ps_if (pt_cmpR (r := rEqD K) (op_eqD (eqd_of hr)) (pe_lc (own := [("_law_great", 10)]) rfl sc_law.nd (pi_listK (K := K) rfl (pe_ix (r := rIxT K) ix_tup (pv 7) pe_int (fun _ _ => rfl))) (blkOk_by (own := [("_law_great", 10)]) (N := ["_law_script", "_law_k", "_law_pool_here", "_law_net_here", "_law_less", "_law_more", "_law_one_here", "_law_other", "_law_marking", "_law_many", "_law_great"]) (sc := defScope (top 78)) (by decide +kernel)) (fun _ _ _ _ _ => (pg_name (i := 10) sc_law.nd rfl (Or.inl rfl) (by first | exact Or.inl rfl | exact Or.inr rfl))) (fun _ _ _ _ _ => (pts_one (pt_val (pe_df D_lwithin (hr.mono (by decide)) (by rfl) (pa_cons (pv 8) (pa_cons (pv 10) pa_nil)))))) (fun _ _ _ _ _ => (pv 10))) (pe_lst pa_nil) (nomark _)) (pss_one (ps_ret pe_bl)) pss_nil))))) pss_nil)
      (pss_one (ps_if (PW.pt (pw_and (pt_cmpR op_eq (pe_ix (r := rIxT K) ix_tup (pv 6) pe_int (fun _ _ => rfl)) pe_str (nomark _)) (pw_and1 (PW.pt (pw_or (pt_cmpR op_eq (pe_ix (r := rIxT K) ix_tup (pv 7) pe_int (fun _ _ => rfl)) pe_str (nomark _)) (pw_or1 (pt_cmpR op_isnot_bl (pe_df D_lets_holds (hr.mono (by decide)) (by rfl) (pa_cons (pv 3) (pa_cons (pv 5) (pa_cons (pv 6) pa_nil)))) pe_bl (nomark _)))))))) (pss_one (ps_ret pe_bl)) pss_nil))))))))))
      (pss_one (ps_ret pe_bl))), ?_⟩
  have hc : ∀ x : Int, 0 ≤ (if (if (5 : Int) < x then 5 else x) > 2 then (if (5 : Int) < x then 5 else x) else 2) ∧ (if (if (5 : Int) < x then 5 else x) > 2 then (if (5 : Int) < x then 5 else x) else 2) ≤ 5 := by
    intro x
    by_cases h : (5 : Int) < x
    · rw [if_pos h]
      decide
    · rw [if_neg h]
      split <;> omega
  obtain ⟨N, hN, hN0, hN1⟩ : ∃ N : Int, (if (if (5 : Int) < ((ns.map V.int).length : Int) then 5 else ((ns.map V.int).length : Int)) > 2 then (if (5 : Int) < ((ns.map V.int).length : Int) then 5 else ((ns.map V.int).length : Int)) else 2) = N ∧ 0 ≤ N ∧ N ≤ 5 := ⟨_, rfl, (hc _).1, (hc _).2⟩
  refine q_forR1 (n := N) (ea_cons (ev_is (ev_cb (vs := [.int 2, .int (if (5 : Int) < ((ns.map V.int).length : Int) then 5 else ((ns.map V.int).length : Int))]) (ea_cons ev_c (ea_cons (ev_cb (vs := [.int ((ns.map V.int).length : Int), .int 5]) (ea_cons (ev_len (ev_var rfl) hs) (ea_cons ev_c ea_nil)) fun H5 e5 Q q => ⟨_, _, rfl, q H5 (Ex.refl _)⟩) ea_nil)) fun H5 e5 Q q => ⟨_, _, rfl, q H5 (Ex.refl _)⟩) (congrArg V.int hN)) ea_nil) ⟨by omega, by omega⟩
    (fun i σ' H' => Ex H H' ∧ ∃ u1 u2 u3 u4 u5 u6 u7 u8, σ' = [some (.ref a), u1, u2, u3, u4, u5, u6, u7, u8, none, none]) (fun H1 e1 => ⟨e1, _, _, _, _, _, _, _, _, rfl⟩) (fun i σ' H1 hi h => ?_) fun σ' H1 h => ?_
  · obtain ⟨e1, u1, u2, u3, u4, u5, u6, u7, u8, rfl⟩ := h
    refine q_asgP (Φ := fun v H2 => ∃ l, v = .ref l ∧ H1 l = none ∧ PoolAt H2 l) (ep_call (ea_cons (ev_var rfl) (ea_cons (ev_var rfl) ea_nil)) fun H2 e2 Q q => ⟨a, ns, i, rfl, hs.imp (ex_rd (e1.trans e2)) id, by omega, by omega, fun v H3 e3 ⟨l, h1, h2, h3⟩ => q v H3 e3 ⟨l, h1, fresh_back e2 h2, h3⟩⟩) fun v H2 e2 hv => ?_
    obtain ⟨l, rfl, hl1, po⟩ := hv
    refine q_asgX (Φ := fun v H3 => ∃ n, Kx l H2 H3 ∧ NetAt n H3 v ∧ NetOk n) (fun Q q => ⟨.ref l, rfl, l, rfl, po, fun v H3 n kx hn ok => q _ _ ⟨n, kx, hn, ok⟩⟩) fun nv H3 ⟨n, k3, hn, ok⟩ => ?_
    refine q_asgX (Φ := fun v H4 => ∃ m, Kx l H3 H4 ∧ MkAt H4 v m ∧ MOk n m) (fun Q q => ⟨.ref l, rfl, nv, rfl, l, nv, n, rfl, k3.2, hn, ok, fun u H4 m kx hm mo => q _ _ ⟨m, kx, hm, mo⟩⟩) fun lv H4 ⟨m, k4, hm, mo⟩ => ?_
    have lpl := ok.pl.hi
    have lm := mo.len
    refine q_asgX (Φ := fun v H5 => ∃ m2, Kx l H4 H5 ∧ MkAt H5 v m2 ∧ MOk n m2 ∧ leL m m2 = true) (fun Q q => ?_) fun gv H5 ⟨m2, k5, hm2, mo2, hle⟩ => ?_
    · obtain ⟨lp, rfl, hlp⟩ := hm
      show tLc (iTup K (tVar 4)) (gName 9) tYes (tOp (rI0 fun i j => .int (i + j)) (tVar 9) (tCall spTake [] E0 (tCons (tVar 2) (tCons (tC (.int 2)) tNil)))) [9] _ H4 (fun x H1 => rTupS K [x] H1 Q)
      refine lcX (j := 9) (vs := [9]) k4.2 (sx_tup k4.2 (ev_var rfl) (.inl hlp)) (fun n' h => by rw [h, List.length_map]; omega) (fun _ => rfl) (fun i ds => ∃ ms : List Int, ds = ms.map PyData.int ∧ ms.length = i ∧ (∀ x ∈ ms, 0 ≤ x) ∧ leL (m.take i) ms = true) ⟨[], rfl, rfl, fun _ h => (nomatch h), rfl⟩ (fun n' i x ds H6 hn' hi hv hR kx Q q => ?_) _ fun n' p acc ds H6 hn' kx hne h6 hI hR hlen => ?_
      · obtain ⟨ms, rfl, hml, hp0, hle⟩ := hR
        rw [hn', List.length_map] at hi
        have hci : m[i]? = some m[i] := List.getElem?_eq_getElem hi
        rw [List.getElem?_map, hci] at hv
        cases Option.some.inj hv
        refine ⟨.int m[i], rfl, .ref l, rfl, l, 2, rfl, kx.2, by decide, by decide, fun d H7 hd k7 => ⟨m[i], (d : Int), rfl, rfl, ?_⟩⟩
        have hpos := mo.pos m[i] (List.getElem_mem hi)
        refine q _ (.int (m[i] + (d : Int))) _ k7 (im_int _) ⟨ms ++ [m[i] + (d : Int)], by rw [List.map_append]; rfl, by rw [List.length_append, hml]; rfl, fun x hx => ?_, ?_⟩
        · rcases List.mem_append.mp hx with hx | hx
          · exact hp0 x hx
          · rw [List.mem_singleton.mp hx]
            omega
        · rw [take_one hci]
          exact leL_app (by rw [List.length_take]; omega) hle (by omega)
      · obtain ⟨ms, rfl, hml, hp0, hle⟩ := hR
        rw [List.length_map] at hn'
        rw [hn', List.take_length] at hle
        refine ⟨p, acc, rfl, .inl ⟨SqL.of h6, fun t ht => q _ _ ⟨ms, kx.trans (Kx.of kx.2 (Ex.new ht)), ⟨t, rfl, by rw [← hI.ints]; exact upd_same⟩, ⟨by omega, hp0⟩, hle⟩⟩⟩
    have k35 := k4.trans k5
    have hn5 := hn.tx (k35.tx k3.2)
    have hm5 := hm.tx (k5.tx k4.2)
    have lm2 := mo2.len
    have hlen : m.length = m2.length := by omega
    refine q_par2 (Φ := fun u H6 => TellAt H5 H6 u n m) (Ψ := fun u H6 => TellAt H5 H6 u n m2) (ep_told rfl rfl hn5 ok hm5 mo) (ep_told rfl rfl hn5 ok hm2 mo2) fun ov tv H6 H7 e6 t1 e7 t2 => ?_
    have p6 := k5.2.ex e6
    have p7 := p6.ex e7
    have e67 := e6.trans e7
    have hB : H5 l ≠ none := by
      obtain ⟨_, _, h, _⟩ := k5.2
      rw [h]
      exact fun e => nomatch e
    refine q_ifX (Φ := fun b H8 => b = false ∧ Kx l H7 H8) (fun Q q => ⟨.ref l, rfl, nv, rfl, lv, rfl, gv, rfl, l, nv, lv, gv, n, m, m2, rfl, p7, hn5.ex e67, ok, hm5.ex e67, hm2.ex e67, mo, mo2, hle, fun H8 kx => ⟨true, rfl, q _ _ ⟨rfl, kx⟩⟩⟩) (fun H8 h => nomatch h.1) fun H8 ⟨_, k8⟩ => ?_
    have t1 := t1.kx p6 hB ((Kx.of p6 e7).trans k8)
    have t2 := t2.kx p7 hB k8
    have x8 : Ex H H8 := fun q o h => kx_ex hl1 e2 (((k3.trans k35).trans (Kx.of k5.2 e67)).trans k8) q o (e1 q o h)
    have tx8 : Tx H5 H8 := ((Kx.of k5.2 e67).trans k8).tx k5.2
    have hn8 := hn5.tx tx8
    have hm8 := hm2.tx tx8
    rcases t2 with ⟨F2, c2, C2⟩ | t2
    · obtain ⟨F1, c1, C1⟩ : ∃ F1, ClosedAt H8 ov F1 ∧ Closed n m (fndM F1) := by
        rcases t1 with h | ⟨stem, lap, g, G⟩ | ⟨M, MM⟩
        · exact h
        · exact ((G.shift ok mo hlen hle).not_closed ok mo2 C2).elim
        · exact (MM.shift ok mo hlen hle C2).elim
      obtain ⟨p1, q1, rfl, hp1, hq1, hb1⟩ := c1
      obtain ⟨p2, q2, rfl, hp2, hq2, hb2⟩ := c2
      refine q_yes (et_test (ev_eqSy (ed_str (ev_ixE (v := .str "closed") (ev_var rfl) (.inl hp2) at0)) ed_cs)) fun H9 e9 => ?_
      refine q_no (et_test (ev_is (ev_neS (ed_str (ev_ixE (v := .str "closed") (ev_var rfl) (.inl (e9 _ _ hp1)) at0)) ed_cs) (congrArg V.bl (by rw [decide_eq_true rfl]; rfl)))) fun H10 e10 => ?_
      have e0 := e9.trans e10
      refine s_forD (zs := fndM F1) (enc := mkD) (id_list (es_of (ev_ixE (v := .ref q1) (ev_var rfl) (.inl (e0 _ _ hp1)) rfl) ⟨q1, _, rfl, e0 _ _ hq1, fnd_ims fun b hb => e0 _ _ (hb1 b hb)⟩))
        (fun H11 _ σ' H' => Ex H11 H' ∧ ∃ u8, σ' = [some (.ref a), some (.int (i : Int)), some (.ref l), some nv, some lv, some gv, some (.ref p1), some (.ref p2), u8, none, none]) (fun H11 e11 => ⟨Ex.refl _, _, rfl⟩) (fun H11 e11 j σ' H' _ h => h.1) (fun H11 e11 j mk σ' H' x H12 hj h e12 mx => ?_) fun H11 e11 σ' H' h => ?_
      · obtain ⟨x11, v8, rfl⟩ := h
        have e02 := ((e0.trans e11).trans x11).trans e12
        refine g_name ?_
        have hmk := List.mem_of_getElem? hj
        have mko := C1.ok mk hmk
        have lmk := mko.len
        refine s_no (et_test (ev_is (ev_eqL (EvN.s (en_lc (zs := fndM F2) (enc := mkD) (id_list (es_of (ev_ixE (v := .ref q2) (ev_var rfl) (.inl (e02 _ _ hp2)) rfl) ⟨q2, _, rfl, e02 _ _ hq2, fnd_ims fun b hb => e02 _ _ (hb2 b hb)⟩)) (by have := C2.le; omega) (fun k => leL mk k) mkD fun k hk y H13 e13 my Kt q => g_name (q _ rfl (et_B (ev_call (vs := [x, y]) (ea_cons (ev_var rfl) (ea_cons (ev_var rfl) ea_nil)) fun H14 e14 Q q E => ⟨x, y, mk, k, rfl, MkRd.of (mx.ex (e13.trans e14)), MkRd.of (my.ex e14), by have := (C2.ok k hk).len; omega, by omega, q⟩)) fun _ => ed_var rfl my))) (shapedL (n := 2) (by decide) fun d hd => ?_)) (congrArg V.bl ?_))) fun H13 e13 => ⟨(x11.trans e12).trans e13, _, rfl⟩
        · obtain ⟨k, _, rfl⟩ := List.mem_map.mp hd
          exact mkD_sh k
        · obtain ⟨k, hk, hkl⟩ := C1.covers ok mo hlen hle C2 hmk
          rw [List.isEmpty_map, ← Bool.not_eq_true, List.isEmpty_iff]
          intro z
          have := List.mem_filter.mpr ⟨hk, hkl⟩
          rw [z] at this
          cases this
      · obtain ⟨x11, v8, rfl⟩ := h
        have e02 := (e0.trans e11).trans x11
        exact s_no (et_and1 (et_test (ev_eqSn (ed_str (ev_ixE (v := .str "closed") (ev_var rfl) (.inl (e02 _ _ hp1)) at0)) ed_cs (by decide)))) fun H12 e12 => ⟨x8.trans (e02.trans e12), _, _, _, _, _, _, _, _, rfl⟩
    · obtain ⟨p2, w2, r2, rfl, hp2, hw2⟩ : ∃ (p2 : Addr) (w2 : Str) (r2 : List V), tv = .ref p2 ∧ H8 p2 = some (.tup (.str w2 :: r2)) ∧ ¬ w2 = "closed" := by
        rcases t2 with ⟨stem, lap, ⟨p, q, r, rfl, _, _, hp, _⟩, _⟩ | ⟨⟨p, rfl, hp⟩, _⟩
        · exact ⟨p, _, _, rfl, hp, by decide⟩
        · exact ⟨p, _, _, rfl, hp, by decide⟩
      refine q_no (et_test (ev_eqSn (ed_str (ev_ixE (v := .str w2) (ev_var rfl) (.inl hp2) at0)) ed_cs hw2)) fun H9 e9 => ?_
      rcases t1 with ⟨F1, ⟨p1, q1, rfl, hp1, _⟩, _⟩ | ⟨stem, lap, g1, G1⟩ | ⟨⟨p1, rfl, hp1⟩, _⟩
      · exact s_no (et_and1 (et_test (ev_eqSn (ed_str (ev_ixE (v := .str "closed") (ev_var rfl) (.inl (e9 _ _ hp1)) at0)) ed_cs (by decide)))) fun H12 e12 => ⟨x8.trans (e9.trans e12), _, _, _, _, _, _, _, _, rfl⟩
      · obtain ⟨p1, y1, z1, rfl, b1, b2, hp1, hy1, hz1⟩ := id g1
        exact s_no (et_is (et_and (et_test (ev_eqSy (ed_str (ev_ixE (v := .str "grows") (ev_var rfl) (.inl (e9 _ _ hp1)) at0)) ed_cs)) fun _ => et_or2 (et_test (ev_eqSn (ed_str (ev_ixE (v := .str w2) (ev_var rfl) (.inl (e9 _ _ hp2)) at0)) ed_cs hw2)) (et_test (ev_isnot (ev_call (vs := [nv, gv, .ref p1]) (ea_cons (ev_var rfl) (ea_cons (ev_var rfl) (ea_cons (ev_var rfl) ea_nil))) fun H14 e14 Q q E => ⟨nv, gv, .ref p1, n, m2, stem, lap, H5, rfl, hn8.ex (e9.trans e14), ok, hm8.ex (e9.trans e14), mo2, g1.ex (e9.trans e14), G1.shift ok mo hlen hle, q⟩) ev_c))) rfl) fun H12 e12 => ⟨x8.trans (e9.trans e12), _, _, _, _, _, _, _, _, rfl⟩
      · exact s_no (et_and1 (et_test (ev_eqSn (ed_str (ev_ixE (v := .str "many") (ev_var rfl) (.inl (e9 _ _ hp1)) at0)) ed_cs (by decide)))) fun H12 e12 => ⟨x8.trans (e9.trans e12), _, _, _, _, _, _, _, _, rfl⟩
  · obtain ⟨e1, u1, u2, u3, u4, u5, u6, u7, u8, rfl⟩ := h
    exact s_ret ev_c fun H3 e3 => k H3
end
end Mt

set_option maxHeartbeats 8000000
/-! what the top has written: the law's promise -/
namespace Mt
open PySem L2 Evl RZ
section
variable {P : Program} {w : World} {K : PySem.W.Frag} {mg : Str → Option Value} {base h : Heap}
structure DefF (K : PySem.W.Frag) (x : Str) (st : Stmt) : Prop where
  ex : ∃ f fd, PySem.W.nsIn K mainGlobals x = some (some (.ref f)) ∧ Fun K x x st f fd
theorem DefF.mk' {x : Str} {st : Stmt} {f : Addr} {oc : Value} {od an : Option Addr} {osl : Array (Option Value)} {kV doc pm cdv ct : Value} (a : PySem.W.nsIn K mainGlobals x = some (some (.ref f)))
    (l : K.lookup f = some ⟨oc, od, .func (PySem.W.fnOf x x (defArgs st) (defBody st) (defScope st) .none kV doc pm an cdv ct), osl⟩) (c : PySem.W.codeIn K cdv x = true) (k : PySem.W.keepIn K (.ref f) = true) : DefF K x st := ⟨f, _, a, fun_mk l c k⟩
theorem DefF.df {x : Str} {st : Stmt} {k : Nat} {ps : List Str} {sp : Sp} (d : DefF K x st) (X : K.In h) (G : h.Ns mainGlobals mg) (ok : ∀ f fd, Fun K x x st f fd → FnOk P w K mg base CX0 k f fd ps sp)
    (b : ∀ (kV doc pm : Value) (an : Option Addr) (cdv ct : Value) (us : List Value), us.length = ps.length → bindArgs (PySem.W.fnOf x x (defArgs st) (defBody st) (defScope st) .none kV doc pm an cdv ct) ⟨us, []⟩ = pure (ps.zip us)) : Df P w K mg base x k ps sp := by
  obtain ⟨f, fd, a, F⟩ := d.ex
  exact Df.mk' (ok f fd F) (PySem.W.mg_of X G a) F.kp (F.binds b)
/-- a method: where it stands, that it is this def -/
structure MetF (K : PySem.W.Frag) (C : Addr) (x q : Str) (st : Stmt) : Prop where
  ex : ∃ f fd, PySem.W.findIn K (.ref C) x = some (some (.ref f)) ∧ PySem.W.isFn K (.ref f) = true ∧ PySem.W.typeIn K (.ref f) = some (.type "function") ∧ Fun K x q st f fd
theorem MetF.mk' {C : Addr} {x q : Str} {st : Stmt} {f : Addr} {oc : Value} {od an : Option Addr} {osl : Array (Option Value)} {kV doc pm cdv ct : Value} (a : PySem.W.findIn K (.ref C) x = some (some (.ref f))) (i : PySem.W.isFn K (.ref f) = true) (t : PySem.W.typeIn K (.ref f) = some (.type "function"))
    (l : K.lookup f = some ⟨oc, od, .func (PySem.W.fnOf x q (defArgs st) (defBody st) (defScope st) .none kV doc pm an cdv ct), osl⟩) (c : PySem.W.codeIn K cdv q = true) (k : PySem.W.keepIn K (.ref f) = true) : MetF K C x q st := ⟨f, _, a, i, t, fun_mk l c k⟩
theorem con_mk {x : Str} {v : Int} {n : Tok} (a : PySem.W.nsIn K mainGlobals x = some (some (.int v n))) : ∃ n, PySem.W.nsIn K mainGlobals x = some (some (.int v n)) := ⟨n, a⟩
theorem coS_mk {x v : Str} {n : Tok} (a : PySem.W.nsIn K mainGlobals x = some (some (.str v n))) : ∃ n, PySem.W.nsIn K mainGlobals x = some (some (.str v n)) := ⟨n, a⟩
structure ClsF (K : PySem.W.Frag) (x : Str) (C : Addr) : Prop where
  at_ : PySem.W.nsIn K mainGlobals x = some (some (.ref C))
  cl : Cls K C
  mk1 : PySem.W.makesIn K C = true
  kp : PySem.W.keepIn K (.ref C) = true
theorem ClsF.mk' {x : Str} {C : Addr} (a : PySem.W.nsIn K mainGlobals x = some (some (.ref C))) (pg : PySem.W.plainGet K C Str.empty = true) (hd : PySem.W.hasDictIn K C = true) (po : PySem.W.plainOver K C = true) (sa : PySem.W.findIn K (.ref C) "__setattr__" = some (some (.builtin "object.__setattr__")))
    (mk : PySem.W.makesIn K C = true) (kc : PySem.W.keepIn K (.ref C) = true) : ClsF K x C := ⟨a, ⟨pg, hd, po, sa⟩, mk, kc⟩
structure ScF (K : PySem.W.Frag) : Prop where
  ex : ∃ C, ClsF K "Scope" C ∧ NoAttr K C "kinds_known" ∧ NoAttr K C "places_known" ∧ NoAttr K C "heads_known" ∧ MetF K C "__init__" "Scope.__init__" (inClass (top 28) 0)
structure GoF (K : PySem.W.Frag) : Prop where
  ex : ∃ C, ClsF K "Going" C ∧ NoAttr K C "of_net" ∧ NoAttr K C "at_most" ∧ NoAttr K C "found" ∧ NoAttr K C "known" ∧ NoAttr K C "came" ∧
    MetF K C "__init__" "Going.__init__" (inClass (top 60) 0) ∧ MetF K C "way_to" "Going.way_to" (inClass (top 60) 1) ∧ MetF K C "rules_on" "Going.rules_on" (inClass (top 60) 2) ∧ MetF K C "grown" "Going.grown" (inClass (top 60) 3) ∧ MetF K C "come" "Going.come" (inClass (top 60) 4) ∧ MetF K C "gone" "Going.gone" (inClass (top 60) 5)
structure TmmF (K : PySem.W.Frag) : Prop where
  ex : ∃ C, PySem.W.nsIn K mainGlobals "TooMany" = some (some (.ref C)) ∧ OfoC K C ∧ PySem.W.findIn K (.ref C) "many" = some none ∧ PySem.W.exmOne K (.ref C) (.ref C) = some true ∧ MetF K C "__init__" "TooMany.__init__" (inClass (top 7) 0)
theorem exm_own {S : Addr} (h1 : PySem.W.subIn K (.ref S) (.type "BaseException") = some true) (h2 : PySem.W.isClsIn K S = true) (h3 : PySem.W.typeIn K (.ref S) = some (.type "type")) (h4 : PySem.W.subIn K (.ref S) (.ref S) = some true) : PySem.W.exmOne K (.ref S) (.ref S) = some true := by
  have a : (PySem.W.subIn K (.ref S) (.type "BaseException") == some true) = true := by rw [h1] <;> rfl
  have b : ((PySem.W.clsIn K S).isSome && PySem.W.typeIn K (.ref S) == some (.type "type")) = true := by
    rw [h3, show (PySem.W.clsIn K S).isSome = true from h2] <;> rfl
  show (if (PySem.W.subIn K (.ref S) (.type "BaseException") == some true) = true then (if ((PySem.W.clsIn K S).isSome && PySem.W.typeIn K (.ref S) == some (.type "type")) = true then PySem.W.subIn K (.ref S) (.ref S) else none) else none) = some true
  rw [if_pos a, if_pos b]
  exact h4
theorem ofo_mk {C : Addr} {nm q : Str} {N : Addr} {bs : List Value} {sn : List Str} {sub : List Value} {ab : Bool} {col : Option Bool} {dd : Option Addr} {k0 k1 k2 k3 k5 : Option Value}
    (l : K.lookup C = some (excClassObj nm q C N bs [.type "OverflowError", .type "ArithmeticError", .type "Exception", .type "BaseException", .type "object"] true sn sub ab col dd k0 k1 k2 k3 k5 "OverflowError.__new__"))
    (sa : PySem.W.findIn K (.ref C) "__setattr__" = some (some (.builtin "object.__setattr__"))) (ec : PySem.W.subIn K (.ref C) (.type "BaseException") = some true) (tc : PySem.W.typeIn K (.ref C) = some (.type "type")) (kc : PySem.W.keepIn K (.ref C) = true) : OfoC K C :=
  ⟨⟨nm, q, N, bs, sn, sub, ab, col, dd, k0, k1, k2, k3, k5, l⟩, sa, ec, tc, kc⟩
structure GivF (K : PySem.W.Frag) : Prop where
  ex : ∃ f fd, PySem.W.nsIn K mainGlobals "are_given" = some (some (.ref f)) ∧ FunD K "are_given" "are_given" (defArgs (top 37)) (defBody (top 37)) (defScope (top 37)) [.int 0, .int 3] [] f fd
theorem GivF.mk' {f T : Addr} {oc oT : Value} {od an dT : Option Addr} {osl sT : Array (Option Value)} {n0 n3 : Tok} {nT : Nat} {kV doc pm cdv ct : Value} (a : PySem.W.nsIn K mainGlobals "are_given" = some (some (.ref f)))
    (l : K.lookup f = some ⟨oc, od, .func (PySem.W.fnOf "are_given" "are_given" (defArgs (top 37)) (defBody (top 37)) (defScope (top 37)) (.ref T) kV doc pm an cdv ct), osl⟩) (c : PySem.W.codeIn K cdv "are_given" = true) (k : PySem.W.keepIn K (.ref f) = true)
    (lT : K.lookup T = some ⟨oT, dT, .seq #[.int 0 n0, .int 3 n3] nT, sT⟩) : GivF K :=
  ⟨f, _, a, ⟨oc, od, .ref T, kV, doc, pm, an, cdv, ct, osl, rfl, l, c, .inr ⟨fun e => (nomatch e), T, _, [.int 0 n0, .int 3 n3], nT, rfl, lT, rfl, .cons ⟨_, rfl⟩ (.cons ⟨_, rfl⟩ .nil)⟩, .inl rfl⟩, k⟩
structure HolF (K : PySem.W.Frag) : Prop where
  ex : ∃ f fd, PySem.W.nsIn K mainGlobals "holds" = some (some (.ref f)) ∧ FunD K "holds" "holds" (defArgs (top 61)) (defBody (top 61)) (defScope (top 61)) [] [("most", .int 500)] f fd
theorem HolF.mk' {f D : Addr} {oc : Value} {od an : Option Addr} {osl : Array (Option Value)} {n5 : Tok} {doc pm cdv ct : Value} (a : PySem.W.nsIn K mainGlobals "holds" = some (some (.ref f)))
    (l : K.lookup f = some ⟨oc, od, .func (PySem.W.fnOf "holds" "holds" (defArgs (top 61)) (defBody (top 61)) (defScope (top 61)) .none (.ref D) doc pm an cdv ct), osl⟩) (c : PySem.W.codeIn K cdv "holds" = true) (k : PySem.W.keepIn K (.ref f) = true)
    (lD : PySem.W.nsIn K D "most" = some (some (.int 500 n5))) : HolF K :=
  ⟨f, _, a, ⟨oc, od, .none, .ref D, doc, pm, an, cdv, ct, osl, rfl, l, c, .inl ⟨rfl, rfl⟩, .inr ⟨D, rfl, fun q hq => by
    rw [List.mem_singleton.mp hq]
    exact ⟨_, lD, _, rfl⟩⟩⟩, k⟩
structure SizF (K : PySem.W.Frag) (w : World) : Prop where
  ex : ∃ a es n, PySem.W.nsIn K mainGlobals "SIZES" = some (some (.ref a)) ∧ KDict K w a es n ∧ (∃ n, PySem.W.nsIn K a "put" = some (some (.int 3 n))) ∧ (∃ n, PySem.W.nsIn K a "note" = some (some (.int 2 n))) ∧ (∃ n, PySem.W.nsIn K a "set" = some (some (.int 3 n)))
theorem SizF.mk' {a : Addr} {es : Array DictEntry} {n : Nat} {n1 n2 n3 : Tok} (x : PySem.W.nsIn K mainGlobals "SIZES" = some (some (.ref a))) (l : K.lookup a = some ⟨.type "dict", none, .dict es n, #[]⟩) (hl : es.toList.map He.keyOf = He.keysIn w.params ["set", "let", "note", "make", "place", "lay", "put", "call", "answer", "when"]) (lo : (a == sysModules) = false)
    (p1 : PySem.W.nsIn K a "put" = some (some (.int 3 n1))) (p2 : PySem.W.nsIn K a "note" = some (some (.int 2 n2))) (p3 : PySem.W.nsIn K a "set" = some (some (.int 3 n3))) : SizF K w := ⟨a, es, n, x, ⟨l, He.keysLit_of hl, lo⟩, ⟨n1, p1⟩, ⟨n2, p2⟩, ⟨n3, p3⟩⟩
structure WonF (K : PySem.W.Frag) : Prop where
  ex : ∃ a, PySem.W.nsIn K mainGlobals "WORDS_OF_NETS" = some (some (.ref a)) ∧ ∀ H, SqT K H a ((["set", "put", "note"] : List Str).map V.str)
theorem WonF.mk' {a : Addr} {d : Option Addr} {sl : Array (Option Value)} {n1 n2 n3 : Tok} {n : Nat} (x : PySem.W.nsIn K mainGlobals "WORDS_OF_NETS" = some (some (.ref a))) (l : K.lookup a = some ⟨.type "tuple", d, .seq #[.str "set" n1, .str "put" n2, .str "note" n3] n, sl⟩) : WonF K :=
  ⟨a, x, fun H => .inr ⟨_, #[.str "set" n1, .str "put" n2, .str "note" n3], n, l, rfl, rfl, show 3 ≤ sizeLine by decide, .cons ⟨_, rfl⟩ (.cons ⟨_, rfl⟩ (.cons ⟨_, rfl⟩ .nil))⟩⟩
structure BltF (K : PySem.W.Frag) : Prop where
  n_isinstance : PySem.W.nsIn K mainGlobals "isinstance" = some none
  n_int : PySem.W.nsIn K mainGlobals "int" = some none
  n_bool : PySem.W.nsIn K mainGlobals "bool" = some none
  n_str : PySem.W.nsIn K mainGlobals "str" = some none
  n_tuple : PySem.W.nsIn K mainGlobals "tuple" = some none
  n_list : PySem.W.nsIn K mainGlobals "list" = some none
  n_dict : PySem.W.nsIn K mainGlobals "dict" = some none
  n_len : PySem.W.nsIn K mainGlobals "len" = some none
  n_all : PySem.W.nsIn K mainGlobals "all" = some none
  n_any : PySem.W.nsIn K mainGlobals "any" = some none
  n_enumerate : PySem.W.nsIn K mainGlobals "enumerate" = some none
  n_zip : PySem.W.nsIn K mainGlobals "zip" = some none
  n_sorted : PySem.W.nsIn K mainGlobals "sorted" = some none
  n_max : PySem.W.nsIn K mainGlobals "max" = some none
  n_min : PySem.W.nsIn K mainGlobals "min" = some none
  n_range : PySem.W.nsIn K mainGlobals "range" = some none
  n_OverflowError : PySem.W.nsIn K mainGlobals "OverflowError" = some none
structure TopF (K : PySem.W.Frag) (w : World) : Prop where
  df_is_whole : DefF K "is_whole" (top 13)
  df_is_from : DefF K "is_from" (top 14)
  df_is_word : DefF K "is_word" (top 15)
  df_is_written : DefF K "is_written" (top 16)
  df_is_tuple_of : DefF K "is_tuple_of" (top 17)
  df_begins : DefF K "begins" (top 18)
  df_are_unlike : DefF K "are_unlike" (top 29)
  df_is_named_place : DefF K "is_named_place" (top 30)
  df_is_kind : DefF K "is_kind" (top 31)
  df_is_slot : DefF K "is_slot" (top 32)
  df_is_head : DefF K "is_head" (top 33)
  df_names_in : DefF K "names_in" (top 34)
  df_are_heads : DefF K "are_heads" (top 35)
  df_is_operand : DefF K "is_operand" (top 36)
  df_is_own_deed : DefF K "is_own_deed" (top 38)
  df_is_naming_deed : DefF K "is_naming_deed" (top 39)
  df_is_deed : DefF K "is_deed" (top 40)
  df_wrong_deed : DefF K "wrong_deed" (top 41)
  df_look_at_rules : DefF K "look_at_rules" (top 43)
  df_look_at_kinds : DefF K "look_at_kinds" (top 42)
  df_look_at_program : DefF K "look_at_program" (top 44)
  df_is_kind_alone : DefF K "is_kind_alone" (top 47)
  df_asked_by : DefF K "asked_by" (top 48)
  df_asks_known : DefF K "asks_known" (top 49)
  df_is_net_rule : DefF K "is_net_rule" (top 50)
  df_is_net : DefF K "is_net" (top 51)
  df_look_at_marking : DefF K "look_at_marking" (top 52)
  df_can_by : DefF K "can_by" (top 53)
  df_behind_by : DefF K "behind_by" (top 54)
  df_can : DefF K "can" (top 55)
  df_behind : DefF K "behind" (top 56)
  df_is_within : DefF K "is_within" (top 59)
  df_led_by : DefF K "led_by" (top 64)
  df_lets_grows : DefF K "lets_grows" (top 65)
  df_lets_holds : DefF K "lets_holds" (top 66)
  df_ltake : DefF K "_law_take" (top 69)
  df_lone : DefF K "_law_one" (top 70)
  df_lpool : DefF K "_law_pool" (top 68)
  df_lnet_deed : DefF K "_law_net_deed" (top 71)
  df_lnet_rule : DefF K "_law_net_rule" (top 72)
  df_lnet : DefF K "_law_net" (top 73)
  df_lbegun : DefF K "_law_begun" (top 74)
  df_ltold : DefF K "_law_told" (top 75)
  df_lwithin : DefF K "_law_within" (top 76)
  df_lled_alike : DefF K "_law_led_alike" (top 77)
  df_law : DefF K "law" (top 78)
  gi : GivF K
  ho : HolF K
  sz : SizF K w
  wo : WonF K
  bl : BltF K
  sc : ScF K
  go : GoF K
  tm : TmmF K
  vv : PySem.W.findCls K (.type "OverflowError") (.type "type") "__init__" = some (.val (.builtin "OverflowError.__init__"))
  c_MOST_LETTERS : ∃ n, PySem.W.nsIn K mainGlobals "MOST_LETTERS" = some (some (.int 6 n))
  c_SIGNS : ∃ n, PySem.W.nsIn K mainGlobals "SIGNS" = some (some (.str SIGNSv n))
  c_MOST : ∃ n, PySem.W.nsIn K mainGlobals "MOST" = some (some (.int 1000000000 n))
  c_MOST_MANY : ∃ n, PySem.W.nsIn K mainGlobals "MOST_MANY" = some (some (.int 3 n))
  c_MOST_PLACES : ∃ n, PySem.W.nsIn K mainGlobals "MOST_PLACES" = some (some (.int 6 n))
  c_MOST_RULES : ∃ n, PySem.W.nsIn K mainGlobals "MOST_RULES" = some (some (.int 8 n))
  c_MOST_HEADS : ∃ n, PySem.W.nsIn K mainGlobals "MOST_HEADS" = some (some (.int 4 n))
  c_MOST_DEEDS : ∃ n, PySem.W.nsIn K mainGlobals "MOST_DEEDS" = some (some (.int 12 n))
  c_MOST_KINDS : ∃ n, PySem.W.nsIn K mainGlobals "MOST_KINDS" = some (some (.int 6 n))
  c_MOST_MAIN : ∃ n, PySem.W.nsIn K mainGlobals "MOST_MAIN" = some (some (.int 16 n))
  c_MOST_MARKINGS : ∃ n, PySem.W.nsIn K mainGlobals "MOST_MARKINGS" = some (some (.int 5000 n))
theorem law_ok {fa : Addr} (X : K.In h) (G : h.Ns mainGlobals mg) (hfa : mg "law" = some (.ref fa)) (t : TopF K w) :
    ∃ fd : FuncData, (∀ (s : Shared) (v : Value), BindsTo s fd ⟨[v], []⟩ [("_law_script", v)]) ∧ ∀ base : Heap, K.In base → base.Ns mainGlobals mg → FnOk P w K mg base CX0 16 fa fd ["_law_script"] (spLaw K) := by
  obtain ⟨df_is_whole, df_is_from, df_is_word, df_is_written, df_is_tuple_of, df_begins, df_are_unlike, df_is_named_place, df_is_kind, df_is_slot, df_is_head, df_names_in, df_are_heads, df_is_operand, df_is_own_deed, df_is_naming_deed, df_is_deed, df_wrong_deed, df_look_at_rules, df_look_at_kinds, df_look_at_program, df_is_kind_alone, df_asked_by, df_asks_known, df_is_net_rule, df_is_net, df_look_at_marking, df_can_by, df_behind_by, df_can, df_behind, df_is_within, df_led_by, df_lets_grows, df_lets_holds, df_ltake, df_lone, df_lpool, df_lnet_deed, df_lnet_rule, df_lnet, df_lbegun, df_ltold, df_lwithin, df_lled_alike, df_law, gi, ho, sz, wo, bl, sc, go, tm, vv, c_MOST_LETTERS, c_SIGNS, c_MOST, c_MOST_MANY, c_MOST_PLACES, c_MOST_RULES, c_MOST_HEADS, c_MOST_DEEDS, c_MOST_KINDS, c_MOST_MAIN, c_MOST_MARKINGS⟩ := t
  have B : Blt mg := ⟨PySem.W.mg_none_of X G bl.n_isinstance, PySem.W.mg_none_of X G bl.n_int, PySem.W.mg_none_of X G bl.n_bool, PySem.W.mg_none_of X G bl.n_str, PySem.W.mg_none_of X G bl.n_tuple, PySem.W.mg_none_of X G bl.n_list, PySem.W.mg_none_of X G bl.n_dict, PySem.W.mg_none_of X G bl.n_len, PySem.W.mg_none_of X G bl.n_all, PySem.W.mg_none_of X G bl.n_any, PySem.W.mg_none_of X G bl.n_enumerate, PySem.W.mg_none_of X G bl.n_zip, PySem.W.mg_none_of X G bl.n_sorted, PySem.W.mg_none_of X G bl.n_max, PySem.W.mg_none_of X G bl.n_min, PySem.W.mg_none_of X G bl.n_range⟩
  have C_MOST_LETTERS : ∃ n, mg "MOST_LETTERS" = some (.int 6 n) := c_MOST_LETTERS.imp fun _ e => PySem.W.mg_of X G e
  have C_SIGNS : ∃ n, mg "SIGNS" = some (.str SIGNSv n) := c_SIGNS.imp fun _ e => PySem.W.mg_of X G e
  have C_MOST : ∃ n, mg "MOST" = some (.int 1000000000 n) := c_MOST.imp fun _ e => PySem.W.mg_of X G e
  have C_MOST_MANY : ∃ n, mg "MOST_MANY" = some (.int 3 n) := c_MOST_MANY.imp fun _ e => PySem.W.mg_of X G e
  have C_MOST_PLACES : ∃ n, mg "MOST_PLACES" = some (.int 6 n) := c_MOST_PLACES.imp fun _ e => PySem.W.mg_of X G e
  have C_MOST_RULES : ∃ n, mg "MOST_RULES" = some (.int 8 n) := c_MOST_RULES.imp fun _ e => PySem.W.mg_of X G e
  have C_MOST_HEADS : ∃ n, mg "MOST_HEADS" = some (.int 4 n) := c_MOST_HEADS.imp fun _ e => PySem.W.mg_of X G e
  have C_MOST_DEEDS : ∃ n, mg "MOST_DEEDS" = some (.int 12 n) := c_MOST_DEEDS.imp fun _ e => PySem.W.mg_of X G e
  have C_MOST_KINDS : ∃ n, mg "MOST_KINDS" = some (.int 6 n) := c_MOST_KINDS.imp fun _ e => PySem.W.mg_of X G e
  have C_MOST_MAIN : ∃ n, mg "MOST_MAIN" = some (.int 16 n) := c_MOST_MAIN.imp fun _ e => PySem.W.mg_of X G e
  have C_MOST_MARKINGS : ∃ n, mg "MOST_MARKINGS" = some (.int 5000 n) := c_MOST_MARKINGS.imp fun _ e => PySem.W.mg_of X G e
  obtain ⟨CS, cS, nK, nP, nH, ⟨_, _, aSi, iSi, _, FS___init__⟩⟩ := sc.ex
  have TS : ScT K mg CS := ⟨cS.cl, nK, nP, nH, PySem.W.mg_of X G cS.at_⟩
  have mkS : Mk K CS _ := ⟨cS.mk1, aSi, iSi, cS.kp⟩
  obtain ⟨CG, cG, g1, g2, g3, g4, g5, ⟨_, _, aGi, iGi, _, FG___init__⟩, ⟨_, _, aG1, iG1, _, FG_way_to⟩, ⟨_, _, aG2, iG2, _, FG_rules_on⟩, ⟨_, _, aG3, iG3, _, FG_grown⟩, ⟨_, _, aG4, iG4, _, FG_come⟩, ⟨_, _, aG5, iG5, _, FG_gone⟩⟩ := go.ex
  have TG : GoT K mg CG := ⟨cG.cl, g1, g2, g3, g4, g5, PySem.W.mg_of X G cG.at_⟩
  have mkG : Mk K CG _ := ⟨cG.mk1, aGi, iGi, cG.kp⟩
  have mway_to : Meth K CG "way_to" _ := ⟨aG1, iG1, FG_way_to.kp⟩
  have mrules_on : Meth K CG "rules_on" _ := ⟨aG2, iG2, FG_rules_on.kp⟩
  have mgrown : Meth K CG "grown" _ := ⟨aG3, iG3, FG_grown.kp⟩
  have mcome : Meth K CG "come" _ := ⟨aG4, iG4, FG_come.kp⟩
  have mgone : Meth K CG "gone" _ := ⟨aG5, iG5, FG_gone.kp⟩
  obtain ⟨CT, aT, OC, noM, te, ⟨_, _, iT, _, tT, FT___init__⟩⟩ := tm.ex
  have mgT := PySem.W.mg_of X G aT
  have B_OverflowError := PySem.W.mg_none_of X G bl.n_OverflowError
  have vV := vv
  obtain ⟨aZ, es, nZ, z0, z1, z2, z3, z4⟩ := sz.ex
  have Z : Szs K w mg aZ := ⟨PySem.W.mg_of X G z0, ⟨es, nZ, z1⟩, z2, z3, z4⟩
  obtain ⟨aW, w0, w1⟩ := wo.ex
  have Wd : Wds K mg aW := ⟨PySem.W.mg_of X G w0, w1⟩
  have gGiven := gi.ex
  have gHolds := ho.ex
  obtain ⟨fL, fd, aL, FL⟩ := df_law.ex
  have e := hfa.symm.trans (PySem.W.mg_of X G aL)
  cases e
  refine ⟨fd, fun s v => ?_, fun base _ _ => ?_⟩
  · obtain ⟨⟨oc, od, kV, doc, pm, an, cdv, ct, osl, rfl, lk, hcd⟩, kp⟩ := FL
    exact .of_eq rfl
  · have D_is_whole : Df P w K mg base "is_whole" 1 ["thing"] spWhole := df_is_whole.df X G (fun f fd F => ok_is_whole F B) fun _ _ _ _ _ _ us hl => match us, hl with | [_], _ => rfl
    have D_is_from : Df P w K mg base "is_from" 2 ["thing", "low", "high"] spFrom := df_is_from.df X G (fun f fd F => ok_is_from F D_is_whole) fun _ _ _ _ _ _ us hl => match us, hl with | [_, _, _], _ => rfl
    have D_is_word : Df P w K mg base "is_word" 1 ["thing"] spWord := df_is_word.df X G (fun f fd F => ok_is_word F B C_MOST_LETTERS C_SIGNS) fun _ _ _ _ _ _ us hl => match us, hl with | [_], _ => rfl
    have D_is_written : Df P w K mg base "is_written" 3 ["thing"] spWritten := df_is_written.df X G (fun f fd F => ok_is_written F D_is_from B C_MOST) fun _ _ _ _ _ _ us hl => match us, hl with | [_], _ => rfl
    have D_is_tuple_of : Df P w K mg base "is_tuple_of" 1 ["thing", "low", "high"] spTupleOf := df_is_tuple_of.df X G (fun f fd F => ok_is_tuple_of F B) fun _ _ _ _ _ _ us hl => match us, hl with | [_, _, _], _ => rfl
    have D_begins : Df P w K mg base "begins" 2 ["thing", "many", "word"] spBegins := df_begins.df X G (fun f fd F => ok_begins F D_is_tuple_of B) fun _ _ _ _ _ _ us hl => match us, hl with | [_, _, _], _ => rfl
    have D_are_unlike : Df P w K mg base "are_unlike" 1 ["some"] spUnlike := df_are_unlike.df X G (fun f fd F => ok_are_unlike F B) fun _ _ _ _ _ _ us hl => match us, hl with | [_], _ => rfl
    have D_is_named_place : Df P w K mg base "is_named_place" 3 ["thing"] spNamed := df_is_named_place.df X G (fun f fd F => ok_is_named_place F D_is_from D_is_tuple_of D_is_word C_MOST_MANY) fun _ _ _ _ _ _ us hl => match us, hl with | [_], _ => rfl
    have D_is_kind : Df P w K mg base "is_kind" 4 ["thing"] spKind := df_is_kind.df X G (fun f fd F => ok_is_kind F D_are_unlike D_is_named_place D_is_tuple_of D_is_word B C_MOST_PLACES C_MOST_RULES) fun _ _ _ _ _ _ us hl => match us, hl with | [_], _ => rfl
    have D_is_slot : Df P w K mg base "is_slot" 4 ["thing"] spSlot := df_is_slot.df X G (fun f fd F => ok_is_slot F D_begins D_is_word D_is_written) fun _ _ _ _ _ _ us hl => match us, hl with | [_], _ => rfl
    have D_is_head : Df P w K mg base "is_head" 5 ["places", "thing"] spHead := df_is_head.df X G (fun f fd F => ok_is_head F D_is_slot D_is_tuple_of D_is_word B) fun _ _ _ _ _ _ us hl => match us, hl with | [_, _], _ => rfl
    have D_names_in : Df P w K mg base "names_in" 1 ["heads"] spNames := df_names_in.df X G (fun f fd F => ok_names_in F ) fun _ _ _ _ _ _ us hl => match us, hl with | [_], _ => rfl
    have D_are_heads : Df P w K mg base "are_heads" 6 ["places", "thing"] spHeads := df_are_heads.df X G (fun f fd F => ok_are_heads F D_are_unlike D_is_head D_is_tuple_of D_names_in B C_MOST_HEADS) fun _ _ _ _ _ _ us hl => match us, hl with | [_, _], _ => rfl
    have D_is_operand : Df P w K mg base "is_operand" 4 ["scope", "thing"] (spOperand CS) := df_is_operand.df X G (fun f fd F => ok_is_operand F TS D_begins D_is_word D_is_written) fun _ _ _ _ _ _ us hl => match us, hl with | [_, _], _ => rfl
    have D_are_given : Df P w K mg base "are_given" 5 ["scope", "thing", "low", "high"] (spGiven CS) := by
      obtain ⟨f, fd, a, F⟩ := gGiven
      obtain ⟨ds, r, b⟩ := F.binds1 (ps := ["scope", "thing", "low", "high"]) 4 2 (by decide) rfl fun _ _ _ _ _ _ _ us its hl hi => match us, hl, its, hi with | [_, _, _, _], _, [_, _], _ => ⟨_, rfl, rfl⟩
      cases r
      exact Df.mk' (ok_are_given F D_is_operand D_is_tuple_of B) (PySem.W.mg_of X G a) F.kp b
    have D_is_own_deed : Df P w K mg base "is_own_deed" 6 ["scope", "thing"] (spOwn CS) := df_is_own_deed.df X G (fun f fd F => ok_is_own_deed F TS D_are_given D_is_operand D_is_word) fun _ _ _ _ _ _ us hl => match us, hl with | [_, _], _ => rfl
    have D_is_naming_deed : Df P w K mg base "is_naming_deed" 5 ["scope", "thing"] (spNaming CS) := df_is_naming_deed.df X G (fun f fd F => ok_is_naming_deed F D_is_operand D_is_word) fun _ _ _ _ _ _ us hl => match us, hl with | [_, _], _ => rfl
    have D_is_deed : Df P w K mg base "is_deed" 7 ["scope", "thing", "behind"] (spDeed CS) := df_is_deed.df X G (fun f fd F => ok_is_deed F TS Z D_are_given D_is_from D_is_naming_deed D_is_operand D_is_own_deed B) fun _ _ _ _ _ _ us hl => match us, hl with | [_, _, _], _ => rfl
    have D_wrong_deed : Df P w K mg base "wrong_deed" 8 ["scope", "deeds"] (spWrong CS) := df_wrong_deed.df X G (fun f fd F => ok_wrong_deed F D_is_deed B (aS := aZ)) fun _ _ _ _ _ _ us hl => match us, hl with | [_, _], _ => rfl
    have SM : ScMk P w K mg base CS := ⟨_, _, mkS, (ok_Scope___init__ FS___init__ TS), (FS___init__.binds fun _ _ _ _ _ _ us hl => match us, hl with | [_, _, _, _], _ => rfl)⟩
    have D_look_at_rules : Df P w K mg base "look_at_rules" 9 ["names", "number", "kind"] (spRules CS) := df_look_at_rules.df X G (fun f fd F => ok_look_at_rules F TS SM D_are_heads D_is_tuple_of D_wrong_deed B C_MOST_DEEDS (aS := aZ)) fun _ _ _ _ _ _ us hl => match us, hl with | [_, _, _], _ => rfl
    have D_look_at_kinds : Df P w K mg base "look_at_kinds" 5 ["kinds"] spKinds := df_look_at_kinds.df X G (fun f fd F => ok_look_at_kinds F D_is_kind B) fun _ _ _ _ _ _ us hl => match us, hl with | [_], _ => rfl
    have D_look_at_program : Df P w K mg base "look_at_program" 10 ["thing"] spProg := df_look_at_program.df X G (fun f fd F => ok_look_at_program F TS SM D_is_tuple_of D_look_at_kinds D_look_at_rules D_wrong_deed B C_MOST_KINDS C_MOST_MAIN) fun _ _ _ _ _ _ us hl => match us, hl with | [_], _ => rfl
    have D_is_kind_alone : Df P w K mg base "is_kind_alone" 11 ["thing"] spNet := df_is_kind_alone.df X G (fun f fd F => ok_is_kind_alone F D_look_at_program) fun _ _ _ _ _ _ us hl => match us, hl with | [_], _ => rfl
    have D_asked_by : Df P w K mg base "asked_by" 1 ["deed"] spAsked := df_asked_by.df X G (fun f fd F => ok_asked_by F B) fun _ _ _ _ _ _ us hl => match us, hl with | [_], _ => rfl
    have D_asks_known : Df P w K mg base "asks_known" 2 ["heads", "deeds"] spAsks := df_asks_known.df X G (fun f fd F => ok_asks_known F D_asked_by B) fun _ _ _ _ _ _ us hl => match us, hl with | [_, _], _ => rfl
    have D_is_net_rule : Df P w K mg base "is_net_rule" 3 ["rule"] spNRule := df_is_net_rule.df X G (fun f fd F => ok_is_net_rule F Wd D_asks_known B) fun _ _ _ _ _ _ us hl => match us, hl with | [_], _ => rfl
    have D_is_net : Df P w K mg base "is_net" 12 ["thing"] spNet := df_is_net.df X G (fun f fd F => ok_is_net F D_is_kind_alone D_is_net_rule B) fun _ _ _ _ _ _ us hl => match us, hl with | [_], _ => rfl
    have D_look_at_marking : Df P w K mg base "look_at_marking" 13 ["net", "marking"] spLookM := df_look_at_marking.df X G (fun f fd F => ok_look_at_marking F D_is_net D_is_whole B) fun _ _ _ _ _ _ us hl => match us, hl with | [_, _], _ => rfl
    have D_can_by : Df P w K mg base "can_by" 1 ["net", "marking"] spCanBy := df_can_by.df X G (fun f fd F => ok_can_by F B) fun _ _ _ _ _ _ us hl => match us, hl with | [_, _], _ => rfl
    have D_behind_by : Df P w K mg base "behind_by" 1 ["net", "marking", "rule"] spBehBy := df_behind_by.df X G (fun f fd F => ok_behind_by F B) fun _ _ _ _ _ _ us hl => match us, hl with | [_, _, _], _ => rfl
    have D_can : Df P w K mg base "can" 14 ["net", "marking"] spCanBy := df_can.df X G (fun f fd F => ok_can F D_can_by D_look_at_marking) fun _ _ _ _ _ _ us hl => match us, hl with | [_, _], _ => rfl
    have D_behind : Df P w K mg base "behind" 14 ["net", "marking", "rule"] spBeh := df_behind.df X G (fun f fd F => ok_behind F D_behind_by D_can_by D_is_whole D_look_at_marking) fun _ _ _ _ _ _ us hl => match us, hl with | [_, _, _], _ => rfl
    have D_is_within : Df P w K mg base "is_within" 1 ["one", "other"] spWithin := df_is_within.df X G (fun f fd F => ok_is_within F B) fun _ _ _ _ _ _ us hl => match us, hl with | [_, _], _ => rfl
    have M_way_to : MeF P w K mg base CX0 CG "way_to" 1 ["self", "at"] (spWay CG) := ⟨_, _, mway_to, ok_Going_way_to FG_way_to TG, (FG_way_to.binds fun _ _ _ _ _ _ us hl => match us, hl with | [_, _], _ => rfl)⟩
    have M_rules_on : MeF P w K mg base CX0 CG "rules_on" 1 ["self", "way"] (spRulOn CG) := ⟨_, _, mrules_on, ok_Going_rules_on FG_rules_on TG, (FG_rules_on.binds fun _ _ _ _ _ _ us hl => match us, hl with | [_, _], _ => rfl)⟩
    have M_grown : MeF P w K mg base CX0 CG "grown" 2 ["self", "at"] (spGrown CG) := ⟨_, _, mgrown, ok_Going_grown FG_grown TG D_is_within M_rules_on M_way_to B, (FG_grown.binds fun _ _ _ _ _ _ us hl => match us, hl with | [_, _], _ => rfl)⟩
    have GM : GoMk P w K mg base CG := ⟨_, _, mkG, (ok_Going___init__ FG___init__ TG), (FG___init__.binds fun _ _ _ _ _ _ us hl => match us, hl with | [_, _, _, _], _ => rfl)⟩
    have TM : TmF P w K mg base CT := ⟨OC, mgT, _, _, iT, tT, (ok_TooMany___init__ FT___init__ B_OverflowError vV noM), (FT___init__.binds fun _ _ _ _ _ _ us hl => match us, hl with | [_, _], _ => rfl)⟩
    have M_come : MeF P w K mg base (L2.CX P w) CG "come" 3 ["self", "at", "rule"] (spCome CG CT) := ⟨_, _, mcome, ok_Going_come FG_come TG TM D_behind_by M_grown B, (FG_come.binds fun _ _ _ _ _ _ us hl => match us, hl with | [_, _, _], _ => rfl)⟩
    have M_gone : MeF P w K mg base (L2.CX P w) CG "gone" 4 ["self"] (spGone CG CT) := ⟨_, _, mgone, ok_Going_gone FG_gone TG D_can_by M_come B, (FG_gone.binds fun _ _ _ _ _ _ us hl => match us, hl with | [_], _ => rfl)⟩
    have HF : HoF P w K mg base CT 14 := by
      obtain ⟨f, fd, a, F⟩ := gHolds
      refine ⟨f, fd, ok_holds F TG GM D_is_whole D_look_at_marking M_gone C_MOST_MARKINGS, PySem.W.mg_of X G a, F.kp, ?_⟩
      obtain ⟨⟨oc, od, dV, kV, doc, pm, an, cdv, ct, osl, rfl, lk, hcd, hD, hK⟩, kp⟩ := F
      rcases hD with ⟨_, rfl⟩ | ⟨z, _⟩
      · exact ⟨fun s us ws _ hl hw => match us, hl, ws, hw with | [_, _], _, [_], _ => .of_eq rfl, fun r1 r2 => r1.append r2⟩
      · exact absurd rfl z
    have D_led_by : Df P w K mg base "led_by" 2 ["net", "marking", "rules"] spLedBy := df_led_by.df X G (fun f fd F => ok_led_by F D_behind_by D_can_by D_is_whole B) fun _ _ _ _ _ _ us hl => match us, hl with | [_, _, _], _ => rfl
    have D_lets_grows : Df P w K mg base "lets_grows" 3 ["net", "marking", "stem", "lap"] spLetsG := df_lets_grows.df X G (fun f fd F => ok_lets_grows F D_is_within D_led_by) fun _ _ _ _ _ _ us hl => match us, hl with | [_, _, _, _], _ => rfl
    have D_lets_holds : Df P w K mg base "lets_holds" 14 ["net", "marking", "thing"] spLetsH := df_lets_holds.df X G (fun f fd F => ok_lets_holds F D_lets_grows D_look_at_marking B) fun _ _ _ _ _ _ us hl => match us, hl with | [_, _, _], _ => rfl
    have D_ltake : Df P w K mg base "_law_take" 1 ["_law_pool_here", "_law_many"] spTake := df_ltake.df X G (fun f fd F => ok_ltake F ) fun _ _ _ _ _ _ us hl => match us, hl with | [_, _], _ => rfl
    have D_lone : Df P w K mg base "_law_one" 2 ["_law_pool_here", "_law_some"] (spOne K) := df_lone.df X G (fun f fd F => ok_lone F D_ltake B) fun _ _ _ _ _ _ us hl => match us, hl with | [_, _], _ => rfl
    have D_lpool : Df P w K mg base "_law_pool" 1 ["_law_script", "_law_k"] (spPool K) := df_lpool.df X G (fun f fd F => ok_lpool F B) fun _ _ _ _ _ _ us hl => match us, hl with | [_, _], _ => rfl
    have D_lnet_deed : Df P w K mg base "_law_net_deed" 3 ["_law_pool_here", "_law_places", "_law_known"] spNetDeed := df_lnet_deed.df X G (fun f fd F => ok_lnet_deed F D_lone D_ltake) fun _ _ _ _ _ _ us hl => match us, hl with | [_, _, _], _ => rfl
    have D_lnet_rule : Df P w K mg base "_law_net_rule" 4 ["_law_pool_here", "_law_places"] spNetRule := df_lnet_rule.df X G (fun f fd F => ok_lnet_rule F D_lnet_deed D_ltake B) fun _ _ _ _ _ _ us hl => match us, hl with | [_, _], _ => rfl
    have D_lnet : Df P w K mg base "_law_net" 5 ["_law_pool_here", "_law_top"] spNetL := df_lnet.df X G (fun f fd F => ok_lnet F D_lnet_rule D_ltake B) fun _ _ _ _ _ _ us hl => match us, hl with | [_, _], _ => rfl
    have D_lbegun : Df P w K mg base "_law_begun" 3 ["_law_pool_here", "_law_net_here"] spBegun := df_lbegun.df X G (fun f fd F => ok_lbegun F D_lone B) fun _ _ _ _ _ _ us hl => match us, hl with | [_, _], _ => rfl
    have D_ltold : Df P w K mg base "_law_told" 15 ["_law_net_here", "_law_begin"] spTold := df_ltold.df X G (fun f fd F => ok_ltold F TM te HF) fun _ _ _ _ _ _ us hl => match us, hl with | [_, _], _ => rfl
    have D_lwithin : Df P w K mg base "_law_within" 1 ["_law_one_here", "_law_other"] spWithR := df_lwithin.df X G (fun f fd F => ok_lwithin F B) fun _ _ _ _ _ _ us hl => match us, hl with | [_, _], _ => rfl
    have D_lled_alike : Df P w K mg base "_law_led_alike" 15 ["_law_pool_here", "_law_net_here", "_law_less", "_law_more"] spLed := df_lled_alike.df X G (fun f fd F => ok_lled_alike F D_behind D_can D_lone B) fun _ _ _ _ _ _ us hl => match us, hl with | [_, _, _, _], _ => rfl
    exact ok_law FL D_lbegun D_lets_holds D_lled_alike D_lnet D_lpool D_ltake D_ltold D_lwithin B
end
end Mt

set_option maxHeartbeats 0
open PySem PySem.W PyProof.Rows
theorem PySem.Challenge.cw_waitedmeets_k57_whole_fewer_letters_hold_holds : PySem.Challenge.rw_waitedmeets_k57_whole_fewer_letters_hold.Holds := by
  w_on; o_law; k_head; (case hw => w_witness2)
  k_fill
  refine L2.walk_of (l := PySem.Challenge.rw_waitedmeets_k57_whole_fewer_letters_hold) (n := 63) (k := 16) (x := "_law_script") (CX := fun _ => L2.CX0) (sp := fun w => Mt.spLaw _) rfl (by decide) rfl ⟨rfl, by decide, by decide⟩ (fun w h Y => PySem.W.kIn_of Y) ?mt_F (fun _ _ a ns hl _ hS => ⟨a, ns, rfl, hS, hl, fun _ => rfl⟩) fun _ _ _ _ _ z => z
  case mt_F =>
    intro w mg fa h KX G hmg
    refine Mt.law_ok KX G hmg ?mt_T
    refine ⟨?mt_df_is_whole, ?mt_df_is_from, ?mt_df_is_word, ?mt_df_is_written, ?mt_df_is_tuple_of, ?mt_df_begins, ?mt_df_are_unlike, ?mt_df_is_named_place, ?mt_df_is_kind, ?mt_df_is_slot, ?mt_df_is_head, ?mt_df_names_in, ?mt_df_are_heads, ?mt_df_is_operand, ?mt_df_is_own_deed, ?mt_df_is_naming_deed, ?mt_df_is_deed, ?mt_df_wrong_deed, ?mt_df_look_at_rules, ?mt_df_look_at_kinds, ?mt_df_look_at_program, ?mt_df_is_kind_alone, ?mt_df_asked_by, ?mt_df_asks_known, ?mt_df_is_net_rule, ?mt_df_is_net, ?mt_df_look_at_marking, ?mt_df_can_by, ?mt_df_behind_by, ?mt_df_can, ?mt_df_behind, ?mt_df_is_within, ?mt_df_led_by, ?mt_df_lets_grows, ?mt_df_lets_holds, ?mt_df_ltake, ?mt_df_lone, ?mt_df_lpool, ?mt_df_lnet_deed, ?mt_df_lnet_rule, ?mt_df_lnet, ?mt_df_lbegun, ?mt_df_ltold, ?mt_df_lwithin, ?mt_df_lled_alike, ?mt_df_law, ?mt_gi, ?mt_ho, ?mt_sz, ?mt_wo, ?mt_bl, ?mt_sc, ?mt_go, ?mt_tm, ?mt_vv, ?mt_c_MOST_LETTERS, ?mt_c_SIGNS, ?mt_c_MOST, ?mt_c_MOST_MANY, ?mt_c_MOST_PLACES, ?mt_c_MOST_RULES, ?mt_c_MOST_HEADS, ?mt_c_MOST_DEEDS, ?mt_c_MOST_KINDS, ?mt_c_MOST_MAIN, ?mt_c_MOST_MARKINGS⟩
    (case mt_df_is_whole =>
      refine' Mt.DefF.mk' ?mt_a ?mt_l ?mt_c ?mt_k; (case mt_a => k_is); (case mt_l => k_is); (case mt_c => k_is); (case mt_k => k_is))
    (case mt_df_is_from =>
      refine' Mt.DefF.mk' ?mt_a ?mt_l ?mt_c ?mt_k; (case mt_a => k_is); (case mt_l => k_is); (case mt_c => k_is); (case mt_k => k_is))
    (case mt_df_is_word =>
      refine' Mt.DefF.mk' ?mt_a ?mt_l ?mt_c ?mt_k; (case mt_a => k_is); (case mt_l => k_is); (case mt_c => k_is); (case mt_k => k_is))
    (case mt_df_is_written =>
      refine' Mt.DefF.mk' ?mt_a ?mt_l ?mt_c ?mt_k; (case mt_a => k_is); (case mt_l => k_is); (case mt_c => k_is); (case mt_k => k_is))
    (case mt_df_is_tuple_of =>
      refine' Mt.DefF.mk' ?mt_a ?mt_l ?mt_c ?mt_k; (case mt_a => k_is); (case mt_l => k_is); (case mt_c => k_is); (case mt_k => k_is))
    (case mt_df_begins =>
      refine' Mt.DefF.mk' ?mt_a ?mt_l ?mt_c ?mt_k; (case mt_a => k_is); (case mt_l => k_is); (case mt_c => k_is); (case mt_k => k_is))
    (case mt_df_are_unlike =>
      refine' Mt.DefF.mk' ?mt_a ?mt_l ?mt_c ?mt_k; (case mt_a => k_is); (case mt_l => k_is); (case mt_c => k_is); (case mt_k => k_is))
    (case mt_df_is_named_place =>
      refine' Mt.DefF.mk' ?mt_a ?mt_l ?mt_c ?mt_k; (case mt_a => k_is); (case mt_l => k_is); (case mt_c => k_is); (case mt_k => k_is))
    (case mt_df_is_kind =>
      refine' Mt.DefF.mk' ?mt_a ?mt_l ?mt_c ?mt_k; (case mt_a => k_is); (case mt_l => k_is); (case mt_c => k_is); (case mt_k => k_is))
    (case mt_df_is_slot =>
      refine' Mt.DefF.mk' ?mt_a ?mt_l ?mt_c ?mt_k; (case mt_a => k_is); (case mt_l => k_is); (case mt_c => k_is); (case mt_k => k_is))
    (case mt_df_is_head =>
      refine' Mt.DefF.mk' ?mt_a ?mt_l ?mt_c ?mt_k; (case mt_a => k_is); (case mt_l => k_is); (case mt_c => k_is); (case mt_k => k_is))
    (case mt_df_names_in =>
      refine' Mt.DefF.mk' ?mt_a ?mt_l ?mt_c ?mt_k; (case mt_a => k_is); (case mt_l => k_is); (case mt_c => k_is); (case mt_k => k_is))
    (case mt_df_are_heads =>
      refine' Mt.DefF.mk' ?mt_a ?mt_l ?mt_c ?mt_k; (case mt_a => k_is); (case mt_l => k_is); (case mt_c => k_is); (case mt_k => k_is))
    (case mt_df_is_operand =>
      refine' Mt.DefF.mk' ?mt_a ?mt_l ?mt_c ?mt_k; (case mt_a => k_is); (case mt_l => k_is); (case mt_c => k_is); (case mt_k => k_is))
    (case mt_df_is_own_deed =>
      refine' Mt.DefF.mk' ?mt_a ?mt_l ?mt_c ?mt_k; (case mt_a => k_is); (case mt_l => k_is); (case mt_c => k_is); (case mt_k => k_is))
    (case mt_df_is_naming_deed =>
      refine' Mt.DefF.mk' ?mt_a ?mt_l ?mt_c ?mt_k; (case mt_a => k_is); (case mt_l => k_is); (case mt_c => k_is); (case mt_k => k_is))
    (case mt_df_is_deed =>
      refine' Mt.DefF.mk' ?mt_a ?mt_l ?mt_c ?mt_k; (case mt_a => k_is); (case mt_l => k_is); (case mt_c => k_is); (case mt_k => k_is))
    (case mt_df_wrong_deed =>
      refine' Mt.DefF.mk' ?mt_a ?mt_l ?mt_c ?mt_k; (case mt_a => k_is); (case mt_l => k_is); (case mt_c => k_is); (case mt_k => k_is))
    (case mt_df_look_at_rules =>
      refine' Mt.DefF.mk' ?mt_a ?mt_l ?mt_c ?mt_k; (case mt_a => k_is); (case mt_l => k_is); (case mt_c => k_is); (case mt_k => k_is))
    (case mt_df_look_at_kinds =>
      refine' Mt.DefF.mk' ?mt_a ?mt_l ?mt_c ?mt_k; (case mt_a => k_is); (case mt_l => k_is); (case mt_c => k_is); (case mt_k => k_is))
    (case mt_df_look_at_program =>
      refine' Mt.DefF.mk' ?mt_a ?mt_l ?mt_c ?mt_k; (case mt_a => k_is); (case mt_l => k_is); (case mt_c => k_is); (case mt_k => k_is))
    (case mt_df_is_kind_alone =>
      refine' Mt.DefF.mk' ?mt_a ?mt_l ?mt_c ?mt_k; (case mt_a => k_is); (case mt_l => k_is); (case mt_c => k_is); (case mt_k => k_is))
    (case mt_df_asked_by =>
      refine' Mt.DefF.mk' ?mt_a ?mt_l ?mt_c ?mt_k; (case mt_a => k_is); (case mt_l => k_is); (case mt_c => k_is); (case mt_k => k_is))
    (case mt_df_asks_known =>
      refine' Mt.DefF.mk' ?mt_a ?mt_l ?mt_c ?mt_k; (case mt_a => k_is); (case mt_l => k_is); (case mt_c => k_is); (case mt_k => k_is))
    (case mt_df_is_net_rule =>
      refine' Mt.DefF.mk' ?mt_a ?mt_l ?mt_c ?mt_k; (case mt_a => k_is); (case mt_l => k_is); (case mt_c => k_is); (case mt_k => k_is))
    (case mt_df_is_net =>
      refine' Mt.DefF.mk' ?mt_a ?mt_l ?mt_c ?mt_k; (case mt_a => k_is); (case mt_l => k_is); (case mt_c => k_is); (case mt_k => k_is))
    (case mt_df_look_at_marking =>
      refine' Mt.DefF.mk' ?mt_a ?mt_l ?mt_c ?mt_k; (case mt_a => k_is); (case mt_l => k_is); (case mt_c => k_is); (case mt_k => k_is))
    (case mt_df_can_by =>
      refine' Mt.DefF.mk' ?mt_a ?mt_l ?mt_c ?mt_k; (case mt_a => k_is); (case mt_l => k_is); (case mt_c => k_is); (case mt_k => k_is))
    (case mt_df_behind_by =>
      refine' Mt.DefF.mk' ?mt_a ?mt_l ?mt_c ?mt_k; (case mt_a => k_is); (case mt_l => k_is); (case mt_c => k_is); (case mt_k => k_is))
    (case mt_df_can =>
      refine' Mt.DefF.mk' ?mt_a ?mt_l ?mt_c ?mt_k; (case mt_a => k_is); (case mt_l => k_is); (case mt_c => k_is); (case mt_k => k_is))
    (case mt_df_behind =>
      refine' Mt.DefF.mk' ?mt_a ?mt_l ?mt_c ?mt_k; (case mt_a => k_is); (case mt_l => k_is); (case mt_c => k_is); (case mt_k => k_is))
    (case mt_df_is_within =>
      refine' Mt.DefF.mk' ?mt_a ?mt_l ?mt_c ?mt_k; (case mt_a => k_is); (case mt_l => k_is); (case mt_c => k_is); (case mt_k => k_is))
    (case mt_df_led_by =>
      refine' Mt.DefF.mk' ?mt_a ?mt_l ?mt_c ?mt_k; (case mt_a => k_is); (case mt_l => k_is); (case mt_c => k_is); (case mt_k => k_is))
    (case mt_df_lets_grows =>
      refine' Mt.DefF.mk' ?mt_a ?mt_l ?mt_c ?mt_k; (case mt_a => k_is); (case mt_l => k_is); (case mt_c => k_is); (case mt_k => k_is))
    (case mt_df_lets_holds =>
      refine' Mt.DefF.mk' ?mt_a ?mt_l ?mt_c ?mt_k; (case mt_a => k_is); (case mt_l => k_is); (case mt_c => k_is); (case mt_k => k_is))
    (case mt_df_ltake =>
      refine' Mt.DefF.mk' ?mt_a ?mt_l ?mt_c ?mt_k; (case mt_a => k_is); (case mt_l => k_is); (case mt_c => k_is); (case mt_k => k_is))
    (case mt_df_lone =>
      refine' Mt.DefF.mk' ?mt_a ?mt_l ?mt_c ?mt_k; (case mt_a => k_is); (case mt_l => k_is); (case mt_c => k_is); (case mt_k => k_is))
    (case mt_df_lpool =>
      refine' Mt.DefF.mk' ?mt_a ?mt_l ?mt_c ?mt_k; (case mt_a => k_is); (case mt_l => k_is); (case mt_c => k_is); (case mt_k => k_is))
    (case mt_df_lnet_deed =>
      refine' Mt.DefF.mk' ?mt_a ?mt_l ?mt_c ?mt_k; (case mt_a => k_is); (case mt_l => k_is); (case mt_c => k_is); (case mt_k => k_is))
    (case mt_df_lnet_rule =>
      refine' Mt.DefF.mk' ?mt_a ?mt_l ?mt_c ?mt_k; (case mt_a => k_is); (case mt_l => k_is); (case mt_c => k_is); (case mt_k => k_is))
    (case mt_df_lnet =>
      refine' Mt.DefF.mk' ?mt_a ?mt_l ?mt_c ?mt_k; (case mt_a => k_is); (case mt_l => k_is); (case mt_c => k_is); (case mt_k => k_is))
    (case mt_df_lbegun =>
      refine' Mt.DefF.mk' ?mt_a ?mt_l ?mt_c ?mt_k; (case mt_a => k_is); (case mt_l => k_is); (case mt_c => k_is); (case mt_k => k_is))
    (case mt_df_ltold =>
      refine' Mt.DefF.mk' ?mt_a ?mt_l ?mt_c ?mt_k; (case mt_a => k_is); (case mt_l => k_is); (case mt_c => k_is); (case mt_k => k_is))
    (case mt_df_lwithin =>
      refine' Mt.DefF.mk' ?mt_a ?mt_l ?mt_c ?mt_k; (case mt_a => k_is); (case mt_l => k_is); (case mt_c => k_is); (case mt_k => k_is))
    (case mt_df_lled_alike =>
      refine' Mt.DefF.mk' ?mt_a ?mt_l ?mt_c ?mt_k; (case mt_a => k_is); (case mt_l => k_is); (case mt_c => k_is); (case mt_k => k_is))
    (case mt_df_law =>
      refine' Mt.DefF.mk' ?mt_a ?mt_l ?mt_c ?mt_k; (case mt_a => k_is); (case mt_l => k_is); (case mt_c => k_is); (case mt_k => k_is))
    (case mt_gi =>
      refine' Mt.GivF.mk' ?mt_a ?mt_l ?mt_c ?mt_k ?mt_lT; (case mt_a => k_is); (case mt_l => k_is); (case mt_c => k_is); (case mt_k => k_is); (case mt_lT => k_is))
    (case mt_ho =>
      refine' Mt.HolF.mk' ?mt_a ?mt_l ?mt_c ?mt_k ?mt_lD; (case mt_a => k_is); (case mt_l => k_is); (case mt_c => k_is); (case mt_k => k_is); (case mt_lD => k_is))
    (case mt_sz =>
      refine' Mt.SizF.mk' ?mt_x ?mt_l ?mt_hl ?mt_lo ?mt_p1 ?mt_p2 ?mt_p3; (case mt_x => k_is); (case mt_l => k_is); (case mt_hl => rfl); (case mt_lo => rfl); (case mt_p1 => k_is); (case mt_p2 => k_is); (case mt_p3 => k_is))
    (case mt_wo =>
      refine' Mt.WonF.mk' ?mt_x ?mt_l; (case mt_x => k_is); (case mt_l => k_is))
    (case mt_bl =>
      refine ⟨?_, ?_, ?_, ?_, ?_, ?_, ?_, ?_, ?_, ?_, ?_, ?_, ?_, ?_, ?_, ?_, ?_⟩ <;> k_is)
    (case mt_sc =>
      refine' ⟨_, Mt.ClsF.mk' ?mt_a ?mt_pg ?mt_hd ?mt_po ?mt_sa ?mt_mk ?mt_kc, ?mt_n0, ?mt_n1, ?mt_n2, Mt.MetF.mk' ?mt_m0 ?mt_i0 ?mt_t0 ?mt_l0 ?mt_c0 ?mt_k0⟩
      (case mt_a => k_is)
      (case mt_pg => k_is)
      (case mt_hd => k_is)
      (case mt_po => k_is)
      (case mt_sa => k_is)
      (case mt_mk => k_is)
      (case mt_kc => k_is)
      (case mt_n0 => unfold L2.NoAttr; k_is)
      (case mt_n1 => unfold L2.NoAttr; k_is)
      (case mt_n2 => unfold L2.NoAttr; k_is)
      (case mt_m0 => k_is)
      (case mt_i0 => k_is)
      (case mt_t0 => k_is)
      (case mt_l0 => k_is)
      (case mt_c0 => k_is)
      (case mt_k0 => k_is))
    (case mt_go =>
      refine' ⟨_, Mt.ClsF.mk' ?mt_a ?mt_pg ?mt_hd ?mt_po ?mt_sa ?mt_mk ?mt_kc, ?mt_n0, ?mt_n1, ?mt_n2, ?mt_n3, ?mt_n4, Mt.MetF.mk' ?mt_m0 ?mt_i0 ?mt_t0 ?mt_l0 ?mt_c0 ?mt_k0, Mt.MetF.mk' ?mt_m1 ?mt_i1 ?mt_t1 ?mt_l1 ?mt_c1 ?mt_k1, Mt.MetF.mk' ?mt_m2 ?mt_i2 ?mt_t2 ?mt_l2 ?mt_c2 ?mt_k2, Mt.MetF.mk' ?mt_m3 ?mt_i3 ?mt_t3 ?mt_l3 ?mt_c3 ?mt_k3, Mt.MetF.mk' ?mt_m4 ?mt_i4 ?mt_t4 ?mt_l4 ?mt_c4 ?mt_k4, Mt.MetF.mk' ?mt_m5 ?mt_i5 ?mt_t5 ?mt_l5 ?mt_c5 ?mt_k5⟩
      (case mt_a => k_is)
      (case mt_pg => k_is)
      (case mt_hd => k_is)
      (case mt_po => k_is)
      (case mt_sa => k_is)
      (case mt_mk => k_is)
      (case mt_kc => k_is)
      (case mt_n0 => unfold L2.NoAttr; k_is)
      (case mt_n1 => unfold L2.NoAttr; k_is)
      (case mt_n2 => unfold L2.NoAttr; k_is)
      (case mt_n3 => unfold L2.NoAttr; k_is)
      (case mt_n4 => unfold L2.NoAttr; k_is)
      (case mt_m0 => k_is)
      (case mt_i0 => k_is)
      (case mt_t0 => k_is)
      (case mt_l0 => k_is)
      (case mt_c0 => k_is)
      (case mt_k0 => k_is)
      (case mt_m1 => k_is)
      (case mt_i1 => k_is)
      (case mt_t1 => k_is)
      (case mt_l1 => k_is)
      (case mt_c1 => k_is)
      (case mt_k1 => k_is)
      (case mt_m2 => k_is)
      (case mt_i2 => k_is)
      (case mt_t2 => k_is)
      (case mt_l2 => k_is)
      (case mt_c2 => k_is)
      (case mt_k2 => k_is)
      (case mt_m3 => k_is)
      (case mt_i3 => k_is)
      (case mt_t3 => k_is)
      (case mt_l3 => k_is)
      (case mt_c3 => k_is)
      (case mt_k3 => k_is)
      (case mt_m4 => k_is)
      (case mt_i4 => k_is)
      (case mt_t4 => k_is)
      (case mt_l4 => k_is)
      (case mt_c4 => k_is)
      (case mt_k4 => k_is)
      (case mt_m5 => k_is)
      (case mt_i5 => k_is)
      (case mt_t5 => k_is)
      (case mt_l5 => k_is)
      (case mt_c5 => k_is)
      (case mt_k5 => k_is))
    (case mt_tm =>
      refine' ⟨_, ?mt_a, Mt.ofo_mk ?mt_l ?mt_sa ?mt_ec ?mt_tc ?mt_kc, ?mt_nb, Mt.exm_own ?mt_ec2 ?mt_ic ?mt_tc2 ?mt_sc, Mt.MetF.mk' ?mt_m0 ?mt_i0 ?mt_t0 ?mt_l0 ?mt_c0 ?mt_k0⟩
      (case mt_a => k_is)
      (case mt_l => k_is)
      (case mt_sa => k_is)
      (case mt_ec => k_is)
      (case mt_tc => k_is)
      (case mt_kc => k_is)
      (case mt_nb => k_is)
      (case mt_ec2 => k_is)
      (case mt_ic => k_is)
      (case mt_tc2 => k_is)
      (case mt_sc => first | rfl | k_is)
      (case mt_m0 => k_is)
      (case mt_i0 => k_is)
      (case mt_t0 => k_is)
      (case mt_l0 => k_is)
      (case mt_c0 => k_is)
      (case mt_k0 => k_is))
    (case mt_vv =>
      k_is)
    (case mt_c_MOST_LETTERS =>
      refine' Mt.con_mk ?mt_a; (case mt_a => k_is))
    (case mt_c_SIGNS =>
      refine' Mt.coS_mk ?mt_a; (case mt_a => k_is))
    (case mt_c_MOST =>
      refine' Mt.con_mk ?mt_a; (case mt_a => k_is))
    (case mt_c_MOST_MANY =>
      refine' Mt.con_mk ?mt_a; (case mt_a => k_is))
    (case mt_c_MOST_PLACES =>
      refine' Mt.con_mk ?mt_a; (case mt_a => k_is))
    (case mt_c_MOST_RULES =>
      refine' Mt.con_mk ?mt_a; (case mt_a => k_is))
    (case mt_c_MOST_HEADS =>
      refine' Mt.con_mk ?mt_a; (case mt_a => k_is))
    (case mt_c_MOST_DEEDS =>
      refine' Mt.con_mk ?mt_a; (case mt_a => k_is))
    (case mt_c_MOST_KINDS =>
      refine' Mt.con_mk ?mt_a; (case mt_a => k_is))
    (case mt_c_MOST_MAIN =>
      refine' Mt.con_mk ?mt_a; (case mt_a => k_is))
    (case mt_c_MOST_MARKINGS =>
      refine' Mt.con_mk ?mt_a; (case mt_a => k_is))
