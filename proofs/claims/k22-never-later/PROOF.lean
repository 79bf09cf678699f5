import PyProof.Rows.All
import Wide.All
import OpenK.AllK
import Wide.FinOn
import HandS.ForMost
import HandS.ForExc
import HandS.Flow
import HandS.Style
import HandS.Star
import HandS.Defaults
import HandS.DictComp
import HandS.Conv
import HandS.Walk
import HandS.TupSets
import HandS.IsInst
import HandS.NoneIn
import HandS.TupAny
import HandS.Deep
import HandS.Sort
import HandS.More
import HandS.ExcIs
import KE.SortData
import PySem.Challenge.RW_upbyany_k22_whole_never_later
import HandS.SetTxt0
import HandS.SortKw
import KE.KDictPairs
import HandS.Iter
import HandS.WordsExc
import HandS.Text
import PyProof.TupleOfStr
import KE.GoesMore
section
set_option Elab.async false
set_option linter.all false
set_option maxRecDepth 100000
set_option maxHeartbeats 4000000
/-! Values as data over the hand layer: what evaluates to what, tuples and fresh lists. -/
namespace Up
open PySem PySem.Spec PyProof.Rows L2

/-! ### heaps -/
theorem same_new {H : Hp} {p : Addr} {o : HO} (h : H p = none) : Same H (upd H p o) := fun b x e => by
  rw [upd_ne (ne_of_none e h)]; exact e
theorem same_mut {H H' : Hp} {p : Addr} {o : HO} (e : Same H H') (h : H p = none) : Same H (upd H' p o) := fun b x hb => by
  rw [upd_ne (ne_of_none hb h)]; exact e b x hb
/-- the tuples stay -/
def TEx (H H' : Hp) : Prop := ∀ a xs, H a = some (.tup xs) → H' a = some (.tup xs)
theorem TEx.refl (H : Hp) : TEx H H := fun _ _ h => h
theorem TEx.trans {H H1 H2 : Hp} (a : TEx H H1) (b : TEx H1 H2) : TEx H H2 := fun x o h => b x o (a x o h)
theorem tex_same {H H' : Hp} (e : Same H H') : TEx H H' := fun a xs h => e a _ h
theorem tex_upd {H : Hp} {a : Addr} {o : HO} (hn : ∀ xs, H a ≠ some (.tup xs)) : TEx H (upd H a o) := fun b xs h => by
  rw [upd_ne (show b ≠ a from fun z => hn xs (by rw [← z]; exact h))]; exact h
theorem tex_lst {H : Hp} {a : Addr} {xs : List V} {o : HO} (h : H a = some (.lst xs)) : TEx H (upd H a o) := tex_upd fun ys z => by rw [h] at z; cases z
theorem tex_dK {H : Hp} {a : Addr} {kvs : List (Key × V)} {o : HO} (h : H a = some (.dK kvs)) : TEx H (upd H a o) := tex_upd fun ys z => by rw [h] at z; cases z
theorem tex_dT {H : Hp} {a : Addr} {kvs : List (List Key × V)} {o : HO} (h : H a = some (.dT kvs)) : TEx H (upd H a o) := tex_upd fun ys z => by rw [h] at z; cases z
theorem tex_frz {H : Hp} {a : Addr} {ob : Obj} {u : HO} {o : HO} (h : H a = some (.frz ob u)) : TEx H (upd H a o) := tex_upd fun ys z => by rw [h] at z; cases z
theorem sq_l {K : PySem.W.Frag} {H : Hp} {a : Addr} {xs : List V} (h : H a = some (.lst xs)) : SqL K H a xs := .inl (.inl h)
theorem sq_t {K : PySem.W.Frag} {H : Hp} {a : Addr} {xs : List V} (h : H a = some (.tup xs)) : SqT K H a xs := .inl (.inl h)
theorem size_ok {n : Nat} (h : n ≤ 100000) : n ≤ sizeLine := Nat.le_trans h (by decide)
theorem size_lt {n : Nat} (h : n < 100000) : n < sizeLine := Nat.lt_of_lt_of_le h (by decide)

/-! ### tuples of tuples of .. of scalars, all tracked -/
mutual
inductive Tt (H : Hp) : V → PyData → Prop
  | non : Tt H .non .none
  | bl (b : Bool) : Tt H (.bl b) (.bool b)
  | int (i : Int) : Tt H (.int i) (.int i)
  | str (x : Str) : Tt H (.str x) (.str x)
  | tup {a : Addr} {xs : List V} {ds : List PyData} : H a = some (.tup xs) → TtA H xs ds → Tt H (.ref a) (.tuple ds)
inductive TtA (H : Hp) : List V → List PyData → Prop
  | nil : TtA H [] []
  | cons {v : V} {vs : List V} {d : PyData} {ds : List PyData} : Tt H v d → TtA H vs ds → TtA H (v :: vs) (d :: ds)
end
section
variable {H H' : Hp}
mutual
theorem Tt.tex (e : TEx H H') : ∀ {v : V} {d : PyData}, Tt H v d → Tt H' v d
  | _, _, .non => .non
  | _, _, .bl b => .bl b
  | _, _, .int i => .int i
  | _, _, .str x => .str x
  | _, _, .tup h t => .tup (e _ _ h) (TtA.tex e t)
theorem TtA.tex (e : TEx H H') : ∀ {vs : List V} {ds : List PyData}, TtA H vs ds → TtA H' vs ds
  | _, _, .nil => .nil
  | _, _, .cons h t => .cons (Tt.tex e h) (TtA.tex e t)
end
theorem Tt.same (e : Same H H') {v : V} {d : PyData} (h : Tt H v d) : Tt H' v d := h.tex (tex_same e)
theorem TtA.same (e : Same H H') {v : List V} {d : List PyData} (h : TtA H v d) : TtA H' v d := h.tex (tex_same e)
theorem TtA.len : ∀ {vs : List V} {ds : List PyData}, TtA H vs ds → vs.length = ds.length
  | _, _, .nil => rfl
  | _, _, .cons _ t => congrArg Nat.succ t.len
theorem TtA.snoc {v : V} {d : PyData} (h : Tt H v d) : ∀ {vs : List V} {ds : List PyData}, TtA H vs ds → TtA H (vs ++ [v]) (ds ++ [d])
  | _, _, .nil => .cons h .nil
  | _, _, .cons q t => .cons q (TtA.snoc h t)
theorem TtA.app : ∀ {vs ws : List V} {ds es : List PyData}, TtA H vs ds → TtA H ws es → TtA H (vs ++ ws) (ds ++ es)
  | _, _, _, _, .nil, t => t
  | _, _, _, _, .cons q t, u => .cons q (TtA.app t u)
theorem TtA.get : ∀ {vs : List V} {ds : List PyData} {i : Nat} {v : V}, TtA H vs ds → vs[i]? = some v → ∃ d, ds[i]? = some d ∧ Tt H v d
  | _, _, _, _, .nil, e => by simp at e
  | _, _, 0, _, .cons r _, e => by simp at e; subst e; exact ⟨_, rfl, r⟩
  | _, _, i + 1, v, .cons _ t, e => by
    obtain ⟨d, h1, h2⟩ := TtA.get (i := i) (v := v) t (by simpa using e)
    exact ⟨d, by simpa using h1, h2⟩
theorem TtA.get' : ∀ {vs : List V} {ds : List PyData} {i : Nat} {d : PyData}, TtA H vs ds → ds[i]? = some d → ∃ v, vs[i]? = some v ∧ Tt H v d
  | _, _, _, _, .nil, e => by simp at e
  | _, _, 0, _, .cons r _, e => by simp at e; subst e; exact ⟨_, rfl, r⟩
  | _, _, i + 1, d, .cons _ t, e => by
    obtain ⟨v, h1, h2⟩ := TtA.get' (i := i) (d := d) t (by simpa using e)
    exact ⟨v, by simpa using h1, h2⟩
theorem TtA.take (n : Nat) : ∀ {vs : List V} {ds : List PyData}, TtA H vs ds → TtA H (vs.take n) (ds.take n) := by
  induction n with
  | zero => intro vs ds _; exact .nil
  | succ n ih =>
    intro vs ds h
    cases h with
    | nil => exact .nil
    | cons r t => exact .cons r (ih t)
theorem TtA.drop (n : Nat) : ∀ {vs : List V} {ds : List PyData}, TtA H vs ds → TtA H (vs.drop n) (ds.drop n) := by
  induction n with
  | zero => intro vs ds h; exact h
  | succ n ih =>
    intro vs ds h
    cases h with
    | nil => exact .nil
    | cons r t => exact ih t
theorem TtA.erase : ∀ {vs : List V} {ds : List PyData} (i : Nat), TtA H vs ds → TtA H (vs.eraseIdx i) (ds.eraseIdx i)
  | _, _, _, .nil => .nil
  | _, _, 0, .cons _ t => t
  | _, _, i + 1, .cons r t => .cons r (TtA.erase i t)
/-- texts alone -/
theorem tta_strs : ∀ {xs : List V} {us : List Str}, TtA H xs (us.map PyData.str) → xs = us.map V.str
  | _, [], h => by cases h; rfl
  | _, u :: us, h => by
    have h' : TtA H _ (PyData.str u :: us.map PyData.str) := h
    cases h' with
    | cons r t =>
      cases r
      rw [tta_strs t]; rfl
theorem tta_of_strs : ∀ (us : List Str), TtA H (us.map V.str) (us.map PyData.str)
  | [] => .nil
  | u :: us => .cons (.str u) (tta_of_strs us)
theorem tta_bools : ∀ {xs : List V} {bs : List Bool}, TtA H xs (bs.map PyData.bool) → xs = bs.map V.bl
  | _, [], h => by cases h; rfl
  | _, u :: us, h => by
    have h' : TtA H _ (PyData.bool u :: us.map PyData.bool) := h
    cases h' with
    | cons r t =>
      cases r
      rw [tta_bools t]; rfl
/-- a tuple of texts -/
abbrev strsD (us : List Str) : PyData := .tuple (us.map .str)
theorem tt_strs {v : V} {us : List Str} (h : Tt H v (strsD us)) : ∃ a, v = .ref a ∧ H a = some (.tup (us.map V.str)) := by
  cases h with
  | tup h t => exact ⟨_, rfl, by rw [h, tta_strs t]⟩
theorem tt_of_strs {a : Addr} {us : List Str} (h : H a = some (.tup (us.map V.str))) : Tt H (.ref a) (strsD us) := .tup h (tta_of_strs us)
theorem tt_tup {v : V} {ds : List PyData} (h : Tt H v (.tuple ds)) : ∃ a xs, v = .ref a ∧ H a = some (.tup xs) ∧ TtA H xs ds := by
  cases h with
  | tup h t => exact ⟨_, _, rfl, h, t⟩
theorem tt_pair {v : V} {d e : PyData} (h : Tt H v (.tuple [d, e])) : ∃ a x y, v = .ref a ∧ H a = some (.tup [x, y]) ∧ Tt H x d ∧ Tt H y e := by
  cases h with
  | tup h t =>
    cases t with
    | cons r t =>
      cases t with
      | cons r' t =>
        cases t
        exact ⟨_, _, _, rfl, h, r, r'⟩
theorem tt_str {v : V} {x : Str} (h : Tt H v (.str x)) : v = .str x := by cases h; rfl
theorem tt_int {v : V} {x : Int} (h : Tt H v (.int x)) : v = .int x := by cases h; rfl
theorem tt_bl {v : V} {x : Bool} (h : Tt H v (.bool x)) : v = .bl x := by cases h; rfl
variable {K : PySem.W.Frag}
mutual
theorem Tt.dp : ∀ {v : V} {d : PyData}, Tt H v d → Dp K H v d
  | _, _, .non => .non
  | _, _, .bl b => .bl b
  | _, _, .int i => .int i
  | _, _, .str x => .str x
  | _, _, .tup h t => .tup (sq_t h) (TtA.dp t)
theorem TtA.dp : ∀ {vs : List V} {ds : List PyData}, TtA H vs ds → DpAll K H vs ds
  | _, _, .nil => .nil
  | _, _, .cons h t => .cons (Tt.dp h) (TtA.dp t)
end
/-- a list of such -/
def IsL (ds : List PyData) : V → Hp → Prop := fun v H => ∃ p xs, v = .ref p ∧ H p = some (.lst xs) ∧ TtA H xs ds
theorem IsL.dp {v : V} {ds : List PyData} (h : IsL ds v H) : Dp K H v (.list ds) := by
  obtain ⟨p, xs, rfl, h, t⟩ := h
  exact .lst (sq_l h) t.dp
theorem IsL.same (e : Same H H') {v : V} {ds : List PyData} (h : IsL ds v H) : IsL ds v H' := by
  obtain ⟨p, xs, rfl, h, t⟩ := h
  exact ⟨p, xs, rfl, e _ _ h, t.same e⟩
abbrev IsT (d : PyData) : V → Hp → Prop := fun v H => Tt H v d
end

/-! ### what evaluates to what -/
def Ev (te : TE) (σ : L2.St) (H : Hp) (P : V → Hp → Prop) : Prop := ∀ H1, Same H H1 → ∀ Q : VK, (∀ v H2, Same H1 H2 → P v H2 → Q v H2) → te σ H1 Q
def EvT (tt : TT) (σ : L2.St) (H : Hp) (b : Bool) : Prop := ∀ H1, Same H H1 → ∀ Q : Bool → Hp → Prop, (∀ H2, Same H1 H2 → Q b H2) → tt σ H1 Q
def EvA (ta : TA) (σ : L2.St) (H : Hp) (P : List V → Hp → Prop) : Prop := ∀ H1, Same H H1 → ∀ Q : List V → Hp → Prop, (∀ vs H2, Same H1 H2 → P vs H2 → Q vs H2) → ta σ H1 Q
def Mono (P : V → Hp → Prop) : Prop := ∀ v H H', Same H H' → P v H → P v H'
theorem mono_t (d : PyData) : Mono (IsT d) := fun _ _ _ e h => h.same e
theorem mono_l (ds : List PyData) : Mono (IsL ds) := fun _ _ _ e h => h.same e
theorem mono_v (w : V) : Mono (fun v _ => v = w) := fun _ _ _ _ h => h
section
variable {K : PySem.W.Frag} {σ : L2.St} {H H' : Hp} {ta tb te tx : TE} {t u : TT} {P P' : V → Hp → Prop} {tr : TA}
theorem Ev.up (e : Same H H') (h : Ev te σ H P) : Ev te σ H' P := fun H1 a Q q => h H1 (e.trans a) Q q
theorem EvT.up {b : Bool} (e : Same H H') (h : EvT t σ H b) : EvT t σ H' b := fun H1 a Q q => h H1 (e.trans a) Q q
theorem EvA.up {PA : List V → Hp → Prop} (e : Same H H') (h : EvA tr σ H PA) : EvA tr σ H' PA := fun H1 a Q q => h H1 (e.trans a) Q q
theorem Ev.imp (h : Ev te σ H P) (k : ∀ v H1, Same H H1 → P v H1 → P' v H1) : Ev te σ H P' := fun H1 a Q q => h H1 a Q fun v H2 e p => q v H2 e (k v H2 (a.trans e) p)
theorem EvT.to {a b : Bool} (h : EvT t σ H a) (e : a = b) : EvT t σ H b := e ▸ h
theorem ev_var {i : Nat} {v : V} (h : σ[i]? = some (some v)) : Ev (tVar i) σ H (fun w _ => w = v) := fun H1 _ Q q => ⟨v, h, q v H1 (Same.refl H1) rfl⟩
theorem ev_vp {i : Nat} {v : V} (h : σ[i]? = some (some v)) (hm : Mono P) (p : P v H) : Ev (tVar i) σ H P := fun H1 e Q q => ⟨v, h, q v H1 (Same.refl H1) (hm _ _ _ e p)⟩
theorem ev_vt {i : Nat} {v : V} {d : PyData} (h : σ[i]? = some (some v)) (p : Tt H v d) : Ev (tVar i) σ H (IsT d) := ev_vp h (mono_t d) p
theorem ev_c {v : V} : Ev (tC v) σ H (fun w _ => w = v) := fun H1 _ Q q => q v H1 (Same.refl H1) rfl
theorem ev_int {i : Int} : Ev (tC (.int i)) σ H (IsT (.int i)) := fun H1 _ Q q => q _ H1 (Same.refl H1) (.int i)
theorem ev_str {x : Str} : Ev (tC (.str x)) σ H (IsT (.str x)) := fun H1 _ Q q => q _ H1 (Same.refl H1) (.str x)
theorem ev_bl {b : Bool} : Ev (tC (.bl b)) σ H (IsT (.bool b)) := fun H1 _ Q q => q _ H1 (Same.refl H1) (.bl b)
theorem ev_non : Ev (tC .non) σ H (IsT .none) := fun H1 _ Q q => q _ H1 (Same.refl H1) .non
/-- a scalar's value -/
theorem Ev.vstr {x : Str} (h : Ev te σ H (IsT (.str x))) : Ev te σ H (fun w _ => w = .str x) := h.imp fun _ _ _ p => tt_str p
theorem Ev.vint {x : Int} (h : Ev te σ H (IsT (.int x))) : Ev te σ H (fun w _ => w = .int x) := h.imp fun _ _ _ p => tt_int p
theorem Ev.vbl {x : Bool} (h : Ev te σ H (IsT (.bool x))) : Ev te σ H (fun w _ => w = .bl x) := h.imp fun _ _ _ p => tt_bl p
theorem Ev.tstr {x : Str} (h : Ev te σ H (fun w _ => w = .str x)) : Ev te σ H (IsT (.str x)) := h.imp fun _ _ _ p => by rw [p]; exact .str x
theorem Ev.tint {x : Int} (h : Ev te σ H (fun w _ => w = .int x)) : Ev te σ H (IsT (.int x)) := h.imp fun _ _ _ p => by rw [p]; exact .int x
theorem Ev.tbl {x : Bool} (h : Ev te σ H (fun w _ => w = .bl x)) : Ev te σ H (IsT (.bool x)) := h.imp fun _ _ _ p => by rw [p]; exact .bl x
/-! argument lists -/
theorem ea_nil : EvA tNil σ H (fun vs _ => vs = []) := fun H1 _ Q q => q [] H1 (Same.refl H1) rfl
theorem ea_cons {R : List V → Hp → Prop} (hm : Mono P) (h : Ev te σ H P) (hr : EvA tr σ H R) : EvA (tCons te tr) σ H (fun vs H' => ∃ v r, vs = v :: r ∧ P v H' ∧ R r H') := fun H1 e Q q =>
  h H1 e _ fun v H2 e2 p => hr H2 (e.trans e2) _ fun r H3 e3 pr => q _ H3 (e2.trans e3) ⟨v, r, rfl, hm _ _ _ e3 p, pr⟩
theorem ea_one (h : Ev te σ H P) : EvA (tCons te tNil) σ H (fun vs H' => ∃ v, vs = [v] ∧ P v H') := fun H1 e Q q =>
  h H1 e _ fun v H2 e2 p => q [v] H2 e2 ⟨v, rfl, p⟩
theorem ea_two {P1 P2 : V → Hp → Prop} (hm : Mono P1) (h : Ev ta σ H P1) (h2 : Ev tb σ H P2) : EvA (tCons ta (tCons tb tNil)) σ H (fun vs H' => ∃ v w, vs = [v, w] ∧ P1 v H' ∧ P2 w H') := fun H1 e Q q =>
  h H1 e _ fun v H2 e2 p => h2 H2 (e.trans e2) _ fun w H3 e3 p2 => q _ H3 (e2.trans e3) ⟨v, w, rfl, hm _ _ _ e3 p, p2⟩
abbrev IsTs (ds : List PyData) : List V → Hp → Prop := fun vs H => TtA H vs ds
theorem ts_nil : EvA tNil σ H (IsTs []) := fun H1 _ Q q => q [] H1 (Same.refl H1) .nil
theorem ts_cons {d : PyData} {ds : List PyData} (h : Ev te σ H (IsT d)) (hr : EvA tr σ H (IsTs ds)) : EvA (tCons te tr) σ H (IsTs (d :: ds)) := fun H1 e Q q =>
  h H1 e _ fun v H2 e2 p => hr H2 (e.trans e2) _ fun r H3 e3 pr => q _ H3 (e2.trans e3) (.cons (p.same e3) pr)
/-! displays -/
theorem ev_tup {ds : List PyData} (h : EvA tr σ H (IsTs ds)) (hl : ds.length ≤ 100000) : Ev (tTup tr) σ H (IsT (.tuple ds)) := fun H1 e Q q =>
  h H1 e _ fun vs H2 e2 p => ⟨by rw [p.len]; exact size_ok hl, fun a ha => q _ _ (e2.trans (same_new ha)) (.tup upd_same (p.same (same_new ha)))⟩
theorem ev_lst {ds : List PyData} (h : EvA tr σ H (IsTs ds)) (hl : ds.length ≤ 100000) : Ev (tLst tr) σ H (IsL ds) := fun H1 e Q q =>
  h H1 e _ fun vs H2 e2 p => ⟨by rw [p.len]; exact size_ok hl, fun a ha => q _ _ (e2.trans (same_new ha)) ⟨a, vs, rfl, upd_same, p.same (same_new ha)⟩⟩
/-- *e, .. in a display -/
theorem ts_star {ds es : List PyData} (h : Ev te σ H (IsT (.tuple ds))) (hr : EvA tr σ H (IsTs es)) : EvA (StX.tStar K te tr) σ H (IsTs (ds ++ es)) := fun H1 e Q q =>
  h H1 e _ fun v H2 e2 p => by
    obtain ⟨a, xs, rfl, ha, t⟩ := tt_tup p
    exact ⟨a, xs, rfl, .inl (sq_t ha), hr H2 (e.trans e2) _ fun r H3 e3 pr => q _ H3 (e2.trans e3) ((t.same e3).app pr)⟩
/-! operators -/
theorem ev_op {r : R2} {P1 P2 : V → Hp → Prop} (hm : Mono P1) (ha : Ev ta σ H P1) (hb : Ev tb σ H P2) (hr : ∀ x y H1, Same H H1 → P1 x H1 → P2 y H1 → ∀ Q : VK, (∀ v H2, Same H1 H2 → P v H2 → Q v H2) → r x y H1 Q) : Ev (tOp r ta tb) σ H P := fun H1 e Q q =>
  ha H1 e _ fun x H2 e2 p => hb H2 (e.trans e2) _ fun y H3 e3 p2 => hr x y H3 ((e.trans e2).trans e3) (hm _ _ _ e3 p) p2 Q fun v H4 e4 p4 => q v H4 ((e2.trans e3).trans e4) p4
/-- a comparison of data -/
theorem ev_eqD {d e : PyData} {P1 P2 : V → Hp → Prop} (hm : Mono P1) (ha : Ev ta σ H P1) (hb : Ev tb σ H P2) (h1 : ∀ v H1, P1 v H1 → Dp K H1 v d) (h2 : ∀ v H1, P2 v H1 → Dp K H1 v e) (s1 : SeqAt.shaped d = true) (s2 : SeqAt.shaped e = true) :
    Ev (tOp (rEqD K) ta tb) σ H (fun w _ => w = .bl (PyData.eqv d e)) := ev_op hm ha hb fun x y H1 _ p1 p2 Q q => ⟨d, e, h1 x H1 p1, h2 y H1 p2, s1, s2, q _ H1 (Same.refl H1) rfl⟩
theorem ev_neD {d e : PyData} {P1 P2 : V → Hp → Prop} (hm : Mono P1) (ha : Ev ta σ H P1) (hb : Ev tb σ H P2) (h1 : ∀ v H1, P1 v H1 → Dp K H1 v d) (h2 : ∀ v H1, P2 v H1 → Dp K H1 v e) (s1 : SeqAt.shaped d = true) (s2 : SeqAt.shaped e = true) :
    Ev (tOp (rNeD K) ta tb) σ H (fun w _ => w = .bl (!PyData.eqv d e)) := ev_op hm ha hb fun x y H1 _ p1 p2 Q q => ⟨d, e, h1 x H1 p1, h2 y H1 p2, s1, s2, q _ H1 (Same.refl H1) rfl⟩
theorem ev_eqS {x y : V} (h : scal x y = true) (ha : Ev ta σ H (fun w _ => w = x)) (hb : Ev tb σ H (fun w _ => w = y)) : Ev (tOp rEq ta tb) σ H (fun w _ => w = .bl (decide (x = y))) :=
  ev_op (mono_v x) ha hb fun x' y' H1 _ p1 p2 Q q => by subst p1; subst p2; exact ⟨h, q _ H1 (Same.refl H1) rfl⟩
theorem ev_neS {x y : V} (h : scal x y = true) (ha : Ev ta σ H (fun w _ => w = x)) (hb : Ev tb σ H (fun w _ => w = y)) : Ev (tOp rNe ta tb) σ H (fun w _ => w = .bl (!decide (x = y))) :=
  ev_op (mono_v x) ha hb fun x' y' H1 _ p1 p2 Q q => by subst p1; subst p2; exact ⟨h, q _ H1 (Same.refl H1) rfl⟩
theorem ev_I0 {g : Int → Int → V} {i j : Int} (ha : Ev ta σ H (fun w _ => w = .int i)) (hb : Ev tb σ H (fun w _ => w = .int j)) : Ev (tOp (rI0 g) ta tb) σ H (fun w _ => w = g i j) :=
  ev_op (mono_v _) ha hb fun x' y' H1 _ p1 p2 Q q => by subst p1; subst p2; exact ⟨i, j, rfl, rfl, q _ H1 (Same.refl H1) rfl⟩
theorem ev_I {C : Int → Int → Prop} {g : Int → Int → V} {i j : Int} (hc : C i j) (ha : Ev ta σ H (fun w _ => w = .int i)) (hb : Ev tb σ H (fun w _ => w = .int j)) : Ev (tOp (rI C g) ta tb) σ H (fun w _ => w = g i j) :=
  ev_op (mono_v _) ha hb fun x' y' H1 _ p1 p2 Q q => by subst p1; subst p2; exact ⟨i, j, rfl, rfl, hc, q _ H1 (Same.refl H1) rfl⟩
theorem flat_strs (us : List Str) : (us.map V.str).all flatV = true := by
  rw [List.all_eq_true]; intro v hv; obtain ⟨u, _, rfl⟩ := List.mem_map.mp hv; rfl
theorem inV_strs (x : Str) (us : List Str) : inV (.str x) (us.map V.str) = decide (x ∈ us) := by
  rw [Bool.eq_iff_iff, decide_eq_true_eq]
  unfold inV
  rw [List.any_eq_true]
  constructor
  · rintro ⟨v, hv, e⟩
    obtain ⟨u, hu, rfl⟩ := List.mem_map.mp hv
    have e' : (u == x) = true := e
    rw [← beq_iff_eq.mp e']; exact hu
  · intro h
    exact ⟨.str x, List.mem_map.mpr ⟨x, h, rfl⟩, (by show (x == x) = true; exact beq_self_eq_true x)⟩
/-- text in a tuple or list of texts -/
def SeqS (us : List Str) : V → Hp → Prop := fun v H => ∃ a, v = .ref a ∧ (H a = some (.tup (us.map V.str)) ∨ H a = some (.lst (us.map V.str)))
theorem mono_s (us : List Str) : Mono (SeqS us) := fun _ _ _ e ⟨a, h, q⟩ => ⟨a, h, q.imp (e _ _) (e _ _)⟩
theorem Ev.seqT {us : List Str} (h : Ev te σ H (IsT (strsD us))) : Ev te σ H (SeqS us) := h.imp fun _ _ _ p => let ⟨a, h1, h2⟩ := tt_strs p; ⟨a, h1, .inl h2⟩
theorem Ev.seqL {us : List Str} (h : Ev te σ H (IsL (us.map .str))) : Ev te σ H (SeqS us) := h.imp fun _ _ _ ⟨p, xs, h1, h2, t⟩ => ⟨p, h1, .inr (by rw [h2, tta_strs t])⟩
theorem ev_in {x : Str} {us : List Str} (ha : Ev ta σ H (fun w _ => w = .str x)) (hb : Ev tb σ H (SeqS us)) : Ev (tOp (rIn K false) ta tb) σ H (fun w _ => w = .bl (decide (x ∈ us))) :=
  ev_op (mono_v _) ha hb fun x' y' H1 _ p1 p2 Q q => by
    subst p1
    obtain ⟨a, rfl, h⟩ := p2
    refine ⟨a, _, rfl, h.elim (fun h => .inr (sq_t h)) (fun h => .inl (sq_l h)), rfl, flat_strs us, q _ H1 (Same.refl H1) ?_⟩
    rw [if_neg (by decide), inV_strs]
theorem ev_nin {x : Str} {us : List Str} (ha : Ev ta σ H (fun w _ => w = .str x)) (hb : Ev tb σ H (SeqS us)) : Ev (tOp (rIn K true) ta tb) σ H (fun w _ => w = .bl (!decide (x ∈ us))) :=
  ev_op (mono_v _) ha hb fun x' y' H1 _ p1 p2 Q q => by
    subst p1
    obtain ⟨a, rfl, h⟩ := p2
    refine ⟨a, _, rfl, h.elim (fun h => .inr (sq_t h)) (fun h => .inl (sq_l h)), rfl, flat_strs us, q _ H1 (Same.refl H1) ?_⟩
    rw [if_pos rfl, inV_strs]
/-! tests -/
theorem et_test {b : Bool} (h : Ev te σ H (fun w _ => w = .bl b)) : EvT (tTest te) σ H b := fun H1 e Q q => h H1 e _ fun v H2 e2 p => ⟨b, p, q H2 e2⟩
theorem et_B {b : Bool} (h : Ev te σ H (fun w _ => w = .bl b)) : EvT (tB te) σ H b := fun H1 e Q q => h H1 e _ fun v H2 e2 p => ⟨b, p, q H2 e2⟩
theorem et_yes : EvT tYes σ H true := fun H1 _ Q q => q H1 (Same.refl H1)
theorem et_and {a b : Bool} (h1 : EvT t σ H a) (h2 : a = true → EvT u σ H b) : EvT (tAnd t u) σ H (a && b) := fun H1 e Q q => h1 H1 e _ fun H2 e2 => by
  cases a with
  | true => exact h2 rfl H2 (e.trans e2) Q fun H3 e3 => q H3 (e2.trans e3)
  | false => exact q H2 e2
theorem et_or {a b : Bool} (h1 : EvT t σ H a) (h2 : a = false → EvT u σ H b) : EvT (tOr t u) σ H (a || b) := fun H1 e Q q => h1 H1 e _ fun H2 e2 => by
  cases a with
  | true => exact q H2 e2
  | false => exact h2 rfl H2 (e.trans e2) Q fun H3 e3 => q H3 (e2.trans e3)
theorem et_not {a : Bool} (h1 : EvT t σ H a) : EvT (tNot t) σ H (!a) := fun H1 e Q q => h1 H1 e _ fun H2 e2 => q H2 e2
theorem ev_andV {a b : Bool} (h1 : Ev ta σ H (fun w _ => w = .bl a)) (h2 : a = true → Ev tb σ H (fun w _ => w = .bl b)) : Ev (tAndV ta tb) σ H (fun w _ => w = .bl (a && b)) := fun H1 e Q q =>
  h1 H1 e _ fun v H2 e2 p => ⟨a, p, by
    cases a with
    | true => exact h2 rfl H2 (e.trans e2) Q fun w H3 e3 p3 => q w H3 (e2.trans e3) p3
    | false => exact q _ H2 e2 rfl⟩
theorem ev_notV {a : Bool} (h1 : Ev ta σ H (fun w _ => w = .bl a)) : Ev (tNotV ta) σ H (fun w _ => w = .bl (!a)) := fun H1 e Q q => h1 H1 e _ fun v H2 e2 p => ⟨a, p, q _ H2 e2 rfl⟩
theorem ev_if {b : Bool} (h : EvT t σ H b) (h1 : b = true → Ev ta σ H P) (h2 : b = false → Ev tb σ H P) : Ev (tIf t ta tb) σ H P := fun H1 e Q q => h H1 e _ fun H2 e2 => by
  cases b with
  | true => exact h1 rfl H2 (e.trans e2) Q fun v H3 e3 p => q v H3 (e2.trans e3) p
  | false => exact h2 rfl H2 (e.trans e2) Q fun v H3 e3 p => q v H3 (e2.trans e3) p
theorem ev_isN {v0 : V} (h : Ev te σ H (fun w _ => w = v0)) : Ev (tIsN te) σ H (fun w _ => w = .bl (decide (v0 = .non))) := fun H1 e Q q => h H1 e _ fun v H2 e2 p => q _ H2 e2 (by rw [p])
theorem ev_notN {v0 : V} (h : Ev te σ H (fun w _ => w = v0)) : Ev (tNotN te) σ H (fun w _ => w = .bl (!decide (v0 = .non))) := fun H1 e Q q => h H1 e _ fun v H2 e2 p => q _ H2 e2 (by rw [p])
/-! calls of built-ins -/
theorem ev_cb {r : List V → Hp → VK → Prop} {PA : List V → Hp → Prop} (h : EvA tr σ H PA) (hr : ∀ vs H1, Same H H1 → PA vs H1 → ∀ Q : VK, (∀ v H2, Same H1 H2 → P v H2 → Q v H2) → r vs H1 Q) : Ev (tCB r tr) σ H P := fun H1 e Q q =>
  h H1 e _ fun vs H2 e2 p => hr vs H2 (e.trans e2) p Q fun v H3 e3 p3 => q v H3 (e2.trans e3) p3
def rTupOf (K : PySem.W.Frag) : List V → Hp → VK → Prop := fun xs H Q => ∃ p ys, xs = [.ref p] ∧ ((SqL K H p ys ∧ ∀ l, H l = none → Q (.ref l) (upd H l (.tup ys))) ∨ (SqT K H p ys ∧ Q (.ref p) H))
def rLstOf (K : PySem.W.Frag) : List V → Hp → VK → Prop := fun xs H Q => ∃ p ys, xs = [.ref p] ∧ (SqL K H p ys ∨ SqT K H p ys) ∧ ∀ l, H l = none → Q (.ref l) (upd H l (.lst ys))
theorem cr_tup {X : Cx} : CallR X (.type "tuple") (rTupOf X.K) := call_tuple_of
theorem cr_lst {X : Cx} : CallR X (.type "list") (rLstOf X.K) := call_list_of
/-- tuple(list) -/
theorem ev_tupL {ds : List PyData} (h : Ev te σ H (IsL ds)) : Ev (tCB (rTupOf K) (tCons te tNil)) σ H (IsT (.tuple ds)) := ev_cb (ea_one h) fun vs H1 _ ⟨v, hv, p, xs, h1, h2, t⟩ Q q => by
  subst h1; subst hv
  exact ⟨p, xs, rfl, .inl ⟨sq_l h2, fun l hl => q _ _ (same_new hl) (.tup upd_same (t.same (same_new hl)))⟩⟩
/-- tuple(tuple) -/
theorem ev_tupT {ds : List PyData} (h : Ev te σ H (IsT (.tuple ds))) : Ev (tCB (rTupOf K) (tCons te tNil)) σ H (IsT (.tuple ds)) := ev_cb (ea_one h) fun vs H1 _ ⟨v, hv, p⟩ Q q => by
  subst hv
  obtain ⟨a, xs, rfl, h2, t⟩ := tt_tup p
  exact ⟨a, xs, rfl, .inr ⟨sq_t h2, q _ _ (Same.refl _) (.tup h2 t)⟩⟩
def rLen (K : PySem.W.Frag) : List V → Hp → VK → Prop := fun xs H Q => ∃ x n, xs = [x] ∧ LenV K x H n ∧ Q (.int n) H
theorem cr_len {X : Cx} : CallR X (.builtin "len") (rLen X.K) := call_len
theorem ev_lenL {ds : List PyData} (h : Ev te σ H (IsL ds)) : Ev (tCB (rLen K) (tCons te tNil)) σ H (fun w _ => w = .int ds.length) := ev_cb (ea_one h) fun vs H1 _ ⟨v, hv, p, xs, h1, h2, t⟩ Q q => by
  subst h1; subst hv
  exact ⟨_, xs.length, rfl, .inl ⟨xs, sq_l h2, rfl⟩, q _ _ (Same.refl _) (by rw [t.len])⟩
theorem ev_lenT {ds : List PyData} (h : Ev te σ H (IsT (.tuple ds))) : Ev (tCB (rLen K) (tCons te tNil)) σ H (fun w _ => w = .int ds.length) := ev_cb (ea_one h) fun vs H1 _ ⟨v, hv, p⟩ Q q => by
  subst hv
  obtain ⟨a, xs, rfl, h2, t⟩ := tt_tup p
  exact ⟨_, xs.length, rfl, .inr ⟨xs, sq_t h2, rfl⟩, q _ _ (Same.refl _) (by rw [t.len])⟩
theorem ev_any {bs : List Bool} (h : Ev te σ H (IsL (bs.map .bool))) : Ev (tCB (rAny K) (tCons te tNil)) σ H (fun w _ => w = .bl (bs.any id)) := ev_cb (ea_one h) fun vs H1 _ ⟨v, hv, p, xs, h1, h2, t⟩ Q q => by
  subst h1; subst hv
  exact ⟨p, bs, rfl, by rw [← tta_bools t]; exact sq_l h2, q _ _ (Same.refl _) rfl⟩
theorem ev_all {bs : List Bool} (h : Ev te σ H (IsL (bs.map .bool))) : Ev (tCB (rAll K) (tCons te tNil)) σ H (fun w _ => w = .bl (bs.all id)) := ev_cb (ea_one h) fun vs H1 _ ⟨v, hv, p, xs, h1, h2, t⟩ Q q => by
  subst h1; subst hv
  exact ⟨p, bs, rfl, by rw [← tta_bools t]; exact sq_l h2, q _ _ (Same.refl _) rfl⟩
end
end Up
end
section
set_option Elab.async false
set_option linter.all false
set_option maxRecDepth 100000
set_option maxHeartbeats 4000000
/-! Slices, sums, comprehensions, calls of the text's own defs, as data. -/
namespace Up
open PySem PySem.Spec PyProof.Rows L2

section
variable {K : PySem.W.Frag} {σ : L2.St} {H H' : Hp} {ta tb te tx : TE} {t u : TT} {P P' : V → Hp → Prop} {tr : TA}
/-! ### slices -/
def EvO (to : TO) (σ : L2.St) (H : Hp) (o : Option Int) : Prop := ∀ H1, Same H H1 → ∀ Q : Option Int → Hp → Prop, (∀ H2, Same H1 H2 → Q o H2) → to σ H1 Q
theorem eo_none : EvO tNoPart σ H none := fun H1 _ Q q => q H1 (Same.refl H1)
theorem eo_some {i : Int} (h : Ev te σ H (fun w _ => w = .int i)) : EvO (tPart te) σ H (some i) := fun H1 e Q q => h H1 e _ fun v H2 e2 p => ⟨i, p, q H2 e2⟩
theorem cut_to (xs : List V) (k : Nat) : cutV xs none (some (k : Int)) = xs.take k := by
  unfold cutV
  rw [HT.sIx_none, HT.sIx_nat, List.drop_zero, Nat.sub_zero]
  by_cases h : k ≤ xs.length
  · rw [Nat.min_eq_left h]
  · rw [Nat.min_eq_right (by omega), List.take_of_length_le (Nat.le_refl _), List.take_of_length_le (by omega)]
theorem cut_fr (xs : List V) (j k : Nat) : cutV xs (some (j : Int)) (some (k : Int)) = (xs.take k).drop j := by
  unfold cutV
  rw [HT.sIx_nat, HT.sIx_nat, List.drop_take]
  by_cases h : k ≤ xs.length
  · rw [Nat.min_eq_left h]
    by_cases h2 : j ≤ xs.length
    · rw [Nat.min_eq_left h2]
    · rw [Nat.min_eq_right (by omega), List.drop_of_length_le (Nat.le_refl _), List.drop_of_length_le (by omega), List.take_nil, List.take_nil]
  · rw [Nat.min_eq_right (by omega)]
    by_cases h2 : j ≤ xs.length
    · rw [Nat.min_eq_left h2, List.take_of_length_le (by rw [List.length_drop]; omega), List.take_of_length_le (by rw [List.length_drop]; omega)]
    · rw [Nat.min_eq_right (by omega), List.drop_of_length_le (Nat.le_refl _), List.drop_of_length_le (by omega), List.take_nil, List.take_nil]
theorem ev_sl {r : V → Option Int → Option Int → Hp → VK → Prop} {tl th : TO} {lo hi : Option Int} {P1 : V → Hp → Prop} (hm : Mono P1) (h : Ev te σ H P1) (hl : EvO tl σ H lo) (hh : EvO th σ H hi)
    (hr : ∀ x H1, Same H H1 → P1 x H1 → ∀ Q : VK, (∀ v H2, Same H1 H2 → P v H2 → Q v H2) → r x lo hi H1 Q) : Ev (tSl r te tl th) σ H P := fun H1 e Q q =>
  h H1 e _ fun x H2 e2 p => hl H2 (e.trans e2) _ fun H3 e3 => hh H3 ((e.trans e2).trans e3) _ fun H4 e4 =>
    hr x H4 (((e.trans e2).trans e3).trans e4) (hm _ _ _ (e3.trans e4) p) Q fun v H5 e5 p5 => q v H5 (((e2.trans e3).trans e4).trans e5) p5
theorem tt_cut {xs : List V} {ds : List PyData} (h : TtA H xs ds) {lo hi : Option Int} {es : List PyData} (he : ∀ f : List V → List V, True) (h1 : (∃ k : Nat, lo = none ∧ hi = some (k : Int) ∧ es = ds.take k) ∨ (∃ j k : Nat, lo = some (j : Int) ∧ hi = some (k : Int) ∧ es = (ds.take k).drop j)) :
    TtA H (cutV xs lo hi) es := by
  rcases h1 with ⟨k, rfl, rfl, rfl⟩ | ⟨j, k, rfl, rfl, rfl⟩
  · rw [cut_to]; exact h.take k
  · rw [cut_fr]; exact (h.take k).drop j
/-- what a slice gives: up to k, or from j to k -/
def Part (ds es : List PyData) (lo hi : Option Int) : Prop := (∃ k : Nat, lo = none ∧ hi = some (k : Int) ∧ es = ds.take k) ∨ (∃ j k : Nat, lo = some (j : Int) ∧ hi = some (k : Int) ∧ es = (ds.take k).drop j)
theorem part_to (ds : List PyData) (k : Nat) : Part ds (ds.take k) none (some (k : Int)) := .inl ⟨k, rfl, rfl, rfl⟩
theorem part_fr (ds : List PyData) (j k : Nat) : Part ds ((ds.take k).drop j) (some (j : Int)) (some (k : Int)) := .inr ⟨j, k, rfl, rfl, rfl⟩
theorem ev_slL {ds es : List PyData} {tl th : TO} {lo hi : Option Int} (h : Ev te σ H (IsL ds)) (hl : EvO tl σ H lo) (hh : EvO th σ H hi) (hp : Part ds es lo hi) : Ev (tSl (rSlL K) te tl th) σ H (IsL es) :=
  ev_sl (mono_l ds) h hl hh fun x H1 _ ⟨p, xs, h1, h2, t⟩ Q q => ⟨p, xs, h1, sq_l h2, fun l hl => q _ _ (same_new hl) ⟨l, _, rfl, upd_same, (tt_cut t (fun _ => True.intro) hp).same (same_new hl)⟩⟩
theorem cut_whole {xs : List V} {lo hi : Option Int} (h : HT.sIx xs.length 0 lo = 0 ∧ HT.sIx xs.length xs.length hi = xs.length) : cutV xs lo hi = xs := by
  unfold cutV
  rw [h.1, h.2, List.drop_zero, Nat.sub_zero, List.take_length]
theorem ev_slT {ds es : List PyData} {tl th : TO} {lo hi : Option Int} (h : Ev te σ H (IsT (.tuple ds))) (hl : EvO tl σ H lo) (hh : EvO th σ H hi) (hp : Part ds es lo hi) : Ev (tSl (rSlA K) te tl th) σ H (IsT (.tuple es)) :=
  ev_sl (mono_t _) h hl hh fun x H1 _ p Q q => by
    obtain ⟨a, xs, rfl, h2, t⟩ := tt_tup p
    have tc := tt_cut t (fun _ => True.intro) hp
    exact ⟨a, xs, rfl, sq_t h2, fun hw => q _ _ (Same.refl _) (.tup h2 (by rw [cut_whole hw] at tc; exact tc)), fun _ l hl => q _ _ (same_new hl) (.tup upd_same (tc.same (same_new hl)))⟩
/-! ### sums -/
theorem ev_catT {ds es : List PyData} (ha : Ev ta σ H (IsT (.tuple ds))) (hb : Ev tb σ H (IsT (.tuple es))) (hz : ds.length + es.length ≤ 100000) : Ev (tOp (rCatA K) ta tb) σ H (IsT (.tuple (ds ++ es))) :=
  ev_op (mono_t _) ha hb fun x y H1 _ p1 p2 Q q => by
    obtain ⟨a, xs, rfl, h1, t1⟩ := tt_tup p1
    obtain ⟨b, ys, rfl, h2, t2⟩ := tt_tup p2
    refine ⟨a, b, xs, ys, rfl, rfl, sq_t h1, sq_t h2, by rw [t1.len, t2.len]; exact size_ok hz, fun e => ?_, fun _ e => ?_, fun _ _ p hp => ?_⟩
    · subst e; cases t1; exact q _ _ (Same.refl _) (.tup h2 t2)
    · subst e; cases t2; exact q _ _ (Same.refl _) (by rw [List.append_nil]; exact .tup h1 t1)
    · exact q _ _ (same_new hp) (.tup upd_same ((t1.app t2).same (same_new hp)))
theorem ev_catL {ds es : List PyData} (ha : Ev ta σ H (IsL ds)) (hb : Ev tb σ H (IsL es)) (hz : ds.length + es.length ≤ 100000) : Ev (tOp rCat ta tb) σ H (IsL (ds ++ es)) :=
  ev_op (mono_l _) ha hb fun x y H1 _ ⟨p, xs, h1, h2, t1⟩ ⟨p', ys, h1', h2', t2⟩ Q q =>
    ⟨p, p', xs, ys, h1, h1', h2, h2', by rw [t1.len, t2.len]; exact size_ok hz, fun l hl => q _ _ (same_new hl) ⟨l, _, rfl, upd_same, (t1.app t2).same (same_new hl)⟩⟩
/-! ### items -/
theorem ev_ixL {ds : List PyData} {d : PyData} {i : Nat} (ha : Ev ta σ H (IsL ds)) (hb : Ev tb σ H (fun w _ => w = .int (i : Int))) (hd : ds[i]? = some d) : Ev (tOp (rIxL K) ta tb) σ H (IsT d) :=
  ev_op (mono_l _) ha hb fun x y H1 _ ⟨p, xs, h1, h2, t1⟩ p2 Q q => by
    obtain ⟨v, hv, tv⟩ := t1.get' hd
    exact ⟨p, xs, _, v, h1, p2, sq_l h2, atI_nat hv, q _ _ (Same.refl _) tv⟩
theorem ev_ixT {ds : List PyData} {d : PyData} {i : Nat} (ha : Ev ta σ H (IsT (.tuple ds))) (hb : Ev tb σ H (fun w _ => w = .int (i : Int))) (hd : ds[i]? = some d) : Ev (tOp (rIxT K) ta tb) σ H (IsT d) :=
  ev_op (mono_t _) ha hb fun x y H1 _ p1 p2 Q q => by
    obtain ⟨a, xs, rfl, h2, t1⟩ := tt_tup p1
    obtain ⟨v, hv, tv⟩ := t1.get' hd
    exact ⟨a, xs, _, v, rfl, p2, sq_t h2, atI_nat hv, q _ _ (Same.refl _) tv⟩

/-! ### what is walked -/
def Src {β : Type} (wi : TI) (σ : L2.St) (H : Hp) (bs : List β) (R : β → V → Hp → Prop) : Prop := ∀ H0, Same H H0 → ∀ C : It → Hp → Prop,
  (∀ J H1 G Y, Same H0 H1 → Walk J bs.length G Y → (∀ H2 H3, Same H2 H3 → G H2 → G H3) → G H1 → (∀ i b x H2 H3, bs[i]? = some b → G H2 → Y i H2 x H3 → Same H2 H3 ∧ R b x H3) → C J H1) → wi σ H0 C
theorem src_tup {ds : List PyData} (h : Ev te σ H (IsT (.tuple ds))) : Src (iTup K te) σ H ds (fun d x H1 => Tt H1 x d) := fun H0 e C c =>
  h H0 e _ fun v H1 e1 p => by
    obtain ⟨a, xs, rfl, h2, t⟩ := tt_tup p
    refine ⟨a, rfl, ⟨xs, sq_t h2⟩, c (Itt K a) H1 (fun H2 => H2 a = some (.tup xs) ∧ TtA H2 xs ds) (YAt xs) e1 ?_ (fun H2 H3 e3 g => ⟨e3 _ _ g.1, g.2.same e3⟩) ⟨h2, t⟩ fun i b x H2 H3 hb g y => ?_⟩
    · rw [← t.len]
      exact walk_tup.mono (fun H2 g => sq_t g.1) fun i H2 x H3 _ _ y => y
    · obtain ⟨e3, y⟩ := y
      subst e3
      obtain ⟨d, hd, td⟩ := g.2.get y
      rw [hb] at hd
      cases hd
      exact ⟨Same.refl _, td⟩
theorem src_lst {ds : List PyData} (h : Ev te σ H (IsL ds)) : Src (iList K te) σ H ds (fun d x H1 => Tt H1 x d) := fun H0 e C c =>
  h H0 e _ fun v H1 e1 ⟨a, xs, hv, h2, t⟩ => by
    refine ⟨a, hv, ⟨xs, sq_l h2⟩, c (Itl K a) H1 (fun H2 => H2 a = some (.lst xs) ∧ TtA H2 xs ds) (YAt xs) e1 ?_ (fun H2 H3 e3 g => ⟨e3 _ _ g.1, g.2.same e3⟩) ⟨h2, t⟩ fun i b x H2 H3 hb g y => ?_⟩
    · rw [← t.len]
      exact walk_list.mono (fun H2 g => sq_l g.1) fun i H2 x H3 _ _ y => y
    · obtain ⟨e3, y⟩ := y
      subst e3
      obtain ⟨d, hd, td⟩ := g.2.get y
      rw [hb] at hd
      cases hd
      exact ⟨Same.refl _, td⟩
theorem src_rng {n : Nat} (h : EvA tr σ H (fun vs _ => vs = [.int (n : Int)])) (hn : n ≤ 100000) : Src (iRng1 tr) σ H (List.range n) (fun i x _ => x = .int (i : Int)) := fun H0 e C c =>
  h H0 e _ fun vs H1 e1 hv => by
    refine ⟨(n : Int), hv, by omega, by omega, ?_⟩
    rw [Int.toNat_natCast]
    refine c _ H1 (fun _ => True) (YFn fun i => .int (0 + (i : Int))) e1 (by rw [List.length_range]; exact walk_range) (fun _ _ _ _ => True.intro) True.intro fun i b x H2 H3 hb _ y => ?_
    obtain ⟨e3, y⟩ := y
    subst e3
    obtain ⟨hi, hb⟩ := List.getElem?_eq_some_iff.mp hb
    rw [List.getElem_range] at hb
    subst hb
    refine ⟨Same.refl _, y.trans ?_⟩
    show V.int (0 + _) = _
    rw [Int.zero_add]
theorem take_more {β : Type} {bs : List β} {i : Nat} {b : β} (h : bs[i]? = some b) : bs.take (i + 1) = bs.take i ++ [b] := by
  rw [List.take_add_one, h]; rfl
/-- a comprehension over anything that is walked -/
theorem ev_lc {β : Type} {bs : List β} {R : β → V → Hp → Prop} {wi : TI} {g : TG} {tt : TT} {vs : List Nat} (hsrc : Src wi σ H bs R) (keep : β → Bool) (f : β → PyData) (hz : bs.length ≤ 99999)
    (turn : ∀ b ∈ bs, ∀ x H1, Same H H1 → R b x H1 → ∀ C : L2.St → Hp → Prop, (∀ σ2 H2, Same H1 H2 → wipe σ2 vs = wipe σ vs → EvT tt σ2 H2 (keep b) → (keep b = true → Ev te σ2 H2 (IsT (f b))) → C σ2 H2) → g x (wipe σ vs) H1 C) :
    Ev (tLc wi g tt te vs) σ H (IsL ((bs.filter keep).map f)) := fun H0 e0 Q q =>
  hsrc H0 e0 _ fun J H1 G Y e1 w mono g1 yok D hD => by
    refine lc_it w (fun i H' => ∃ acc, Same H1 H' ∧ H' D = some (.lst acc) ∧ TtA H' acc (((bs.take i).filter keep).map f)) ⟨[], same_new hD, upd_same, by rw [List.take_zero]; exact .nil⟩ (fun i H' _ pv => let ⟨_, s, _⟩ := pv; mono _ _ s g1) (fun i x H' H3 hi pv y => ?_) (fun H' pv => ?_)
    · obtain ⟨acc, s1, hacc, ta⟩ := pv
      have hb : bs[i]? = some bs[i] := List.getElem?_eq_getElem hi
      obtain ⟨s3, rb⟩ := yok i _ x H' H3 hb (mono _ _ s1 g1) y
      refine turn bs[i] (List.getElem_mem hi) x H3 (((e0.trans e1).trans s1).trans s3) rb _ fun σ2 H2 e2 hw ht he => ⟨hw, ht H2 (Same.refl _) _ fun H4 e4 => ?_⟩
      have s4 : Same H' H4 := (s3.trans e2).trans e4
      cases hk : keep bs[i] with
      | true =>
        rw [if_pos rfl]
        refine he hk H4 e4 _ fun y H5 e5 py => ⟨acc, e5 _ _ (s4 _ _ hacc), ?_, acc ++ [y], same_mut (s1.trans (s4.trans e5)) hD, upd_same, ?_⟩
        · rw [ta.len, List.length_map]
          have := List.length_filter_le keep (bs.take i)
          rw [List.length_take] at this
          exact size_lt (by omega)
        · rw [take_more hb, List.filter_append, List.map_append, List.filter_cons, if_pos hk]
          have tl : TEx H5 (upd H5 D (.lst (acc ++ [y]))) := tex_lst (e5 _ _ (s4 _ _ hacc))
          exact TtA.snoc (py.tex tl) ((ta.same (s4.trans e5)).tex tl)
      | false =>
        rw [if_neg (by decide)]
        refine ⟨acc, s1.trans s4, s4 _ _ hacc, ?_⟩
        rw [take_more hb, List.filter_append, List.map_append, List.filter_cons, if_neg (by rw [hk]; decide), List.filter_nil, List.map_nil, List.append_nil]
        exact ta.same s4
    · obtain ⟨acc, s1, hacc, ta⟩ := pv
      rw [List.take_length] at ta
      exact q _ H' (e1.trans s1) ⟨D, acc, rfl, hacc, ta⟩
/-- a pair's targets -/
theorem pair_go {x : V} {d e : PyData} {i j : Nat} {C : L2.St → Hp → Prop} (h : Tt H x (.tuple [d, e])) (k : ∀ y z, Tt H y d → Tt H z e → C ((σ.set i (some y)).set j (some z)) H) : gTup K 2 (gCons (gName i) (gCons (gName j) gNil)) x σ H C := by
  obtain ⟨a, y, z, rfl, ha, hy, hz⟩ := tt_pair h
  exact ⟨a, [y, z], rfl, sq_t ha, rfl, y, [z], rfl, z, [], rfl, rfl, k y z hy hz⟩
/-! ### statements -/
variable {D : Ends} {tz tu : TS}
theorem q_set {i : Nat} (h : Ev te σ H P) (k : ∀ v H1, Same H H1 → P v H1 → tz D (σ.set i (some v)) H1) : tSeq (tAsg te (gName i)) tz D σ H := h H (Same.refl H) _ k
theorem s_set {i : Nat} (h : Ev te σ H P) (k : ∀ v H1, Same H H1 → P v H1 → D.nx (σ.set i (some v)) H1) : tAsg te (gName i) D σ H := h H (Same.refl H) _ k
theorem s_ret (h : Ev te σ H P) (k : ∀ v H1, Same H H1 → P v H1 → D.rt v H1) : tRet te D σ H := h H (Same.refl H) _ k
theorem q_if {tw : TS} {b : Bool} (h : EvT t σ H b) (h1 : b = true → ∀ H1, Same H H1 → tu { D with nx := tz D } σ H1) (h2 : b = false → ∀ H1, Same H H1 → tw { D with nx := tz D } σ H1) : tSeq (tIfS t tu tw) tz D σ H := h H (Same.refl H) _ fun H1 e => by
  cases b with
  | true => exact h1 rfl H1 e
  | false => exact h2 rfl H1 e
theorem s_if {tw : TS} {b : Bool} (h : EvT t σ H b) (h1 : b = true → ∀ H1, Same H H1 → tu D σ H1) (h2 : b = false → ∀ H1, Same H H1 → tw D σ H1) : tIfS t tu tw D σ H := h H (Same.refl H) _ fun H1 e => by
  cases b with
  | true => exact h1 rfl H1 e
  | false => exact h2 rfl H1 e
end

/-! ### defs of the text -/
/-- a promise in three parts: what is asked, what comes back, all that stood stands -/
def SpD {α : Type} (pre : α → List V → Hp → Prop) (post : α → V → Hp → Prop) : Sp := fun vs H Q _ => ∃ a, pre a vs H ∧ ∀ v H', Same H H' → post a v H' → Q v H'
/-- the def named x keeps the promise, at a level -/
structure Kn (P : Program) (w : World) (K : PySem.W.Frag) (mg : Str → Option Value) (base : Heap) (CX : CXT) (k : Nat) (x : Str) (sp : Sp) : Prop where
  ex : ∃ f fd ps, FnOk P w K mg base CX k f fd ps sp ∧ mg x = some (.ref f) ∧ PySem.W.keepIn K (.ref f) = true ∧ Binds K fd ps []
/-- the def named x stands where the text put it -/
structure Df (K : PySem.W.Frag) (mg : Str → Option Value) (x : Str) (st : Stmt) (ps : List Str) : Prop where
  ex : ∃ f fd, mg x = some (.ref f) ∧ Fun K x x st f fd ∧ Binds K fd ps []
section
variable {P : Program} {w : World} {K : PySem.W.Frag} {mg : Str → Option Value} {base : Heap}
theorem Df.kn {x : Str} {st : Stmt} {N ps : List Str} {k : Nat} {sp : Sp} (F : Df K mg x st ps) (S : FnScope N ps (defScope st)) (len : ∀ vs H Q E, sp vs H Q E → vs.length = ps.length)
    (hbody : ∀ (f : Addr) (cdv : Value) (A : Around) (outer : List Env) (s : Shared) (H : Hp) (vs : List V) (Q : VK) (E : XK), Room k (A.deeper (envOfC x (defScope st) s.heap.objs.size f cdv)) → sp vs H Q E →
      ∃ t, PSs (cxOf CX0 P w K mg base N x (defScope st) f cdv A outer s H E).nox (defBody st) t ∧ t { nx := fun _ H' => Q .non H', rt := Q } (start N vs) H) : Kn P w K mg base CX0 (k + 1) x sp := by
  obtain ⟨f, fd, hm, F, hb⟩ := F.ex
  exact ⟨f, fd, ps, F.ok S len (fun cdv A outer s H vs Q E hr h => hbody f cdv A outer s H vs Q E hr h), hm, F.kp, hb⟩
theorem Kn.mono {CX : CXT} {j k : Nat} {x : Str} {sp : Sp} (G : Kn P w K mg base CX j x sp) (h : j ≤ k) : Kn P w K mg base CX k x sp := by
  obtain ⟨f, fd, ps, F, r⟩ := G.ex
  exact ⟨f, fd, ps, F.mono h, r⟩
theorem Kn.imp {CX : CXT} {k : Nat} {x : Str} {sp sp' : Sp} (G : Kn P w K mg base CX k x sp) (h : ∀ vs H Q E, sp' vs H Q E → sp vs H Q E) : Kn P w K mg base CX k x sp' := by
  obtain ⟨f, fd, ps, F, r⟩ := G.ex
  exact ⟨f, fd, ps, F.imp h, r⟩
end
section
variable {X : Cx} {CX : CXT} {k : Nat} {sp : Sp} {E : XK} {x : Str} {p pos : Pos} {e : Expr} {es : List Expr} {t : TA}
theorem pe_kn (G : Kn X.prog X.w X.K X.mg X.base CX k x sp) (hr : Room k X.A) (hx : Passes CX X E) (ha : PA X (e :: es) t) (hg : Gl X x := by rfl) (hdb : (x == ("__debug__" : Str)) = false := by decide)
    (he : starEach (e :: es) X.env = (false, eval e X.env) :: starEach es X.env := by rfl) (hpl : (backTo pos (starEach es X.env)).any (·.1) = false := by rfl) : PE X (.Call (.Name x p) (e :: es) [] pos) (tCall sp [] E t) := by
  obtain ⟨f, fd, ps, F, hm, hk, hb⟩ := G.ex
  exact pe_call F hr hg hm hk hb .nil hx ha hdb he hpl
theorem pe_kn0 (G : Kn X.prog X.w X.K X.mg X.base CX k x sp) (hr : Room k X.A) (hx : Passes CX X E) (hg : Gl X x := by rfl) (hdb : (x == ("__debug__" : Str)) = false := by decide) : PE X (.Call (.Name x p) [] [] pos) (tCall sp [] E tNil) := by
  obtain ⟨f, fd, ps, F, hm, hk, hb⟩ := G.ex
  exact pe_call0 F hr hg hm hk hb .nil hx hdb
/-- an expression that is never reached -/
theorem pe_no {e : Expr} : PE X e (fun _ _ _ => False) := ⟨fun _ _ _ _ _ _ h => h.elim⟩
end
section
variable {σ : L2.St} {H : Hp} {tr : TA} {P : V → Hp → Prop} {E : XK}
theorem ev_kn {α : Type} {pre : α → List V → Hp → Prop} {post : α → V → Hp → Prop} {PA : List V → Hp → Prop} (h : EvA tr σ H PA) (a : α) (h1 : ∀ vs H1, Same H H1 → PA vs H1 → pre a vs H1) (h2 : ∀ v H2, Same H H2 → post a v H2 → P v H2) :
    Ev (tCall (SpD pre post) [] E tr) σ H P := fun H1 e Q q => h H1 e _ fun vs H2 e2 p => by
  rw [List.append_nil]
  exact ⟨a, h1 vs H2 (e.trans e2) p, fun v H3 e3 p3 => q v H3 (e2.trans e3) (h2 v H3 ((e.trans e2).trans e3) p3)⟩
end
end Up
end
section
set_option Elab.async false
set_option linter.all false
set_option maxRecDepth 100000
set_option maxHeartbeats 4000000
/-! The text by places (printed by gen_txt.py). -/
namespace Up
open PySem PySem.Spec PyProof.Rows L2
def topS (i : Nat) : Stmt := PySem.Challenge.pw_upbyany_k22_whole_never_later.main.body.getD i (.Pass ⟨0, 0, 0, 0⟩)
abbrev s_set_of : Stmt := topS 4
abbrev s_tupled : Stmt := topS 5
abbrev s_units : Stmt := topS 7
abbrev s_check_units : Stmt := topS 8
abbrev s_table_of : Stmt := topS 9
abbrev s_lets : Stmt := topS 10
abbrev s_row_within : Stmt := topS 11
abbrev s_greatest_within : Stmt := topS 12
abbrev s_is_standing : Stmt := topS 13
abbrev s_standings_of : Stmt := topS 15
abbrev s_without : Stmt := topS 16
abbrev s_ends_in : Stmt := topS 17
abbrev s_ends_of_paths : Stmt := topS 18
abbrev s_all_paths : Stmt := topS 19
abbrev s_check_same : Stmt := topS 20
abbrev s_begin_by : Stmt := topS 22
abbrev s_all_times : Stmt := topS 23
abbrev s_row_by : Stmt := topS 24
abbrev s_never_later : Stmt := topS 25
abbrev s_first_beyond : Stmt := topS 26
abbrev s_later_durations : Stmt := topS 27
abbrev s_law_box : Stmt := topS 29
abbrev s_law_take : Stmt := topS 30
abbrev s_law_cells : Stmt := topS 31
abbrev s_law_of : Stmt := topS 32
abbrev s_law_pick : Stmt := topS 33
abbrev s_law_same : Stmt := topS 34
abbrev s_law_lists : Stmt := topS 35
abbrev s_law_tags : Stmt := topS 36
abbrev s_law_plan : Stmt := topS 37
abbrev s_law_lets : Stmt := topS 38
abbrev s_law_next : Stmt := topS 39
abbrev s_law_stands : Stmt := topS 40
abbrev s_law_clock : Stmt := topS 41
abbrev s_law_kit : Stmt := topS 42
abbrev s_law_row_kit : Stmt := topS 43
abbrev s_law_free_kit : Stmt := topS 44
abbrev s_law_mate : Stmt := topS 45
abbrev s_law_grid : Stmt := topS 46
abbrev s_law_heard : Stmt := topS 47
abbrev s_law_later : Stmt := topS 48
abbrev s_law_due : Stmt := topS 49
abbrev s_law_by_hand_right : Stmt := topS 50
abbrev s_law_right : Stmt := topS 51
abbrev s_law : Stmt := topS 52
theorem c_set_of : FnScope ["some"] ["some"] (defScope s_set_of) := ⟨rfl, rfl, rfl, by decide +kernel, rfl, by decide +kernel, by decide +kernel⟩
theorem c_tupled : FnScope ["value", "part"] ["value"] (defScope s_tupled) := ⟨rfl, rfl, rfl, by decide +kernel, rfl, by decide +kernel, by decide +kernel⟩
theorem c_units : FnScope ["book", "unit", "needs"] ["book"] (defScope s_units) := ⟨rfl, rfl, rfl, by decide +kernel, rfl, by decide +kernel, by decide +kernel⟩
theorem c_check_units : FnScope ["book", "some", "known", "unit"] ["book", "some"] (defScope s_check_units) := ⟨rfl, rfl, rfl, by decide +kernel, rfl, by decide +kernel, by decide +kernel⟩
theorem c_table_of : FnScope ["book", "unit", "needs"] ["book"] (defScope s_table_of) := ⟨rfl, rfl, rfl, by decide +kernel, rfl, by decide +kernel, by decide +kernel⟩
theorem c_lets : FnScope ["table", "up", "unit", "one", "need"] ["table", "up", "unit"] (defScope s_lets) := ⟨rfl, rfl, rfl, by decide +kernel, rfl, by decide +kernel, by decide +kernel⟩
theorem c_row_within : FnScope ["book", "some", "table", "found", "grown", "later", "unit"] ["book", "some"] (defScope s_row_within) := ⟨rfl, rfl, rfl, by decide +kernel, rfl, by decide +kernel, by decide +kernel⟩
theorem c_greatest_within : FnScope ["book", "some"] ["book", "some"] (defScope s_greatest_within) := ⟨rfl, rfl, rfl, by decide +kernel, rfl, by decide +kernel, by decide +kernel⟩
theorem c_is_standing : FnScope ["book", "some"] ["book", "some"] (defScope s_is_standing) := ⟨rfl, rfl, rfl, by decide +kernel, rfl, by decide +kernel, by decide +kernel⟩
theorem c_standings_of : FnScope ["book", "table", "found", "fresh", "here", "unit", "there"] ["book"] (defScope s_standings_of) := ⟨rfl, rfl, rfl, by decide +kernel, rfl, by decide +kernel, by decide +kernel⟩
theorem c_without : FnScope ["some", "unit", "one"] ["some", "unit"] (defScope s_without) := ⟨rfl, rfl, rfl, by decide +kernel, rfl, by decide +kernel, by decide +kernel⟩
theorem c_ends_in : FnScope ["known", "some", "unit"] ["known", "some"] (defScope s_ends_in) := ⟨rfl, rfl, rfl, by decide +kernel, rfl, by decide +kernel, by decide +kernel⟩
theorem c_ends_of_paths : FnScope ["book", "known", "found", "some", "ends"] ["book"] (defScope s_ends_of_paths) := ⟨rfl, rfl, rfl, by decide +kernel, rfl, by decide +kernel, by decide +kernel⟩
theorem c_all_paths : FnScope ["book"] ["book"] (defScope s_all_paths) := ⟨rfl, rfl, rfl, by decide +kernel, rfl, by decide +kernel, by decide +kernel⟩
theorem c_check_same : FnScope ["one", "other"] ["one", "other"] (defScope s_check_same) := ⟨rfl, rfl, rfl, by decide +kernel, rfl, by decide +kernel, by decide +kernel⟩
theorem c_begin_by : FnScope ["needs", "found", "met", "need", "name"] ["needs", "found"] (defScope s_begin_by) := ⟨rfl, rfl, rfl, by decide +kernel, rfl, by decide +kernel, by decide +kernel⟩
theorem c_all_times : FnScope ["book", "durations", "barred", "lasts", "found", "going", "rows", "unit", "needs", "begin", "time"] ["book", "durations", "barred"] (defScope s_all_times) := ⟨rfl, rfl, rfl, by decide +kernel, rfl, by decide +kernel, by decide +kernel⟩
theorem c_row_by : FnScope ["book", "durations"] ["book", "durations"] (defScope s_row_by) := ⟨rfl, rfl, rfl, by decide +kernel, rfl, by decide +kernel, by decide +kernel⟩
theorem c_never_later : FnScope ["one", "other"] ["one", "other"] (defScope s_never_later) := ⟨rfl, rfl, rfl, by decide +kernel, rfl, by decide +kernel, by decide +kernel⟩
theorem c_first_beyond : FnScope ["book", "row", "many"] ["book", "row"] (defScope s_first_beyond) := ⟨rfl, rfl, rfl, by decide +kernel, rfl, by decide +kernel, by decide +kernel⟩
theorem c_later_durations : FnScope ["one", "other", "path", "soon", "unit", "row", "early"] ["one", "other"] (defScope s_later_durations) := ⟨rfl, rfl, rfl, by decide +kernel, rfl, by decide +kernel, by decide +kernel⟩
theorem c_law_box : FnScope ["_law_script", "_law_k", "_law_cell"] ["_law_script", "_law_k"] (defScope s_law_box) := ⟨rfl, rfl, rfl, by decide +kernel, rfl, by decide +kernel, by decide +kernel⟩
theorem c_law_take : FnScope ["_law_tub", "_law_under", "_law_drawn", "_law_once", "_law_odd", "_law_twice"] ["_law_tub", "_law_under"] (defScope s_law_take) := ⟨rfl, rfl, rfl, by decide +kernel, rfl, by decide +kernel, by decide +kernel⟩
theorem c_law_cells : FnScope ["_law_script", "_law_top", "_law_cells_here", "_law_k", "_law_cell", "_law_spot"] ["_law_script", "_law_top"] (defScope s_law_cells) := ⟨rfl, rfl, rfl, by decide +kernel, rfl, by decide +kernel, by decide +kernel⟩
theorem c_law_of : FnScope ["_law_tub", "_law_few_so"] ["_law_tub", "_law_few_so"] (defScope s_law_of) := ⟨rfl, rfl, rfl, by decide +kernel, rfl, by decide +kernel, by decide +kernel⟩
theorem c_law_pick : FnScope ["_law_tub", "_law_few_so", "_law_much_so", "_law_left", "_law_found", "_law_turn"] ["_law_tub", "_law_few_so", "_law_much_so"] (defScope s_law_pick) := ⟨rfl, rfl, rfl, by decide +kernel, rfl, by decide +kernel, by decide +kernel⟩
theorem c_law_same : FnScope ["_law_got", "_law_due_here", "_law_mine", "_law_its", "_law_like"] ["_law_got", "_law_due_here"] (defScope s_law_same) := ⟨rfl, rfl, rfl, by decide +kernel, rfl, by decide +kernel, by decide +kernel⟩
theorem c_law_lists : FnScope ["_law_matter", "_law_bit"] ["_law_matter"] (defScope s_law_lists) := ⟨rfl, rfl, rfl, by decide +kernel, rfl, by decide +kernel, by decide +kernel⟩
theorem c_law_tags : FnScope ["_law_tub", "_law_size_so"] ["_law_tub", "_law_size_so"] (defScope s_law_tags) := ⟨rfl, rfl, rfl, by decide +kernel, rfl, by decide +kernel, by decide +kernel⟩
theorem c_law_plan : FnScope ["_law_tub", "_law_tags_here", "_law_most_so", "_law_found", "_law_tag", "_law_lots_so", "_law_lap", "_law_few_so"] ["_law_tub", "_law_tags_here", "_law_most_so"] (defScope s_law_plan) := ⟨rfl, rfl, rfl, by decide +kernel, rfl, by decide +kernel, by decide +kernel⟩
theorem c_law_lets : FnScope ["_law_lots_so", "_law_up_so", "_law_lot", "_law_tag"] ["_law_lots_so", "_law_up_so"] (defScope s_law_lets) := ⟨rfl, rfl, rfl, by decide +kernel, rfl, by decide +kernel, by decide +kernel⟩
theorem c_law_next : FnScope ["_law_plan_so", "_law_up_so", "_law_tag", "_law_lots_so"] ["_law_plan_so", "_law_up_so"] (defScope s_law_next) := ⟨rfl, rfl, rfl, by decide +kernel, rfl, by decide +kernel, by decide +kernel⟩
theorem c_law_stands : FnScope ["_law_plan_so", "_law_found", "_law_fresh", "_law_later_here", "_law_up_so", "_law_tag"] ["_law_plan_so"] (defScope s_law_stands) := ⟨rfl, rfl, rfl, by decide +kernel, rfl, by decide +kernel, by decide +kernel⟩
theorem c_law_clock : FnScope ["_law_plan_so", "_law_lasts_so", "_law_now", "_law_up_so", "_law_due_so", "_law_found", "_law_rest", "_law_tag"] ["_law_plan_so", "_law_lasts_so"] (defScope s_law_clock) := ⟨rfl, rfl, rfl, by decide +kernel, rfl, by decide +kernel, by decide +kernel⟩
theorem c_law_kit : FnScope ["_law_head_so"] [] (defScope s_law_kit) := ⟨rfl, rfl, rfl, by decide +kernel, rfl, by decide +kernel, by decide +kernel⟩
theorem c_law_row_kit : FnScope ["_law_size_so", "_law_tags_here", "_law_k", "_law_tag"] ["_law_size_so"] (defScope s_law_row_kit) := ⟨rfl, rfl, rfl, by decide +kernel, rfl, by decide +kernel, by decide +kernel⟩
theorem c_law_free_kit : FnScope ["_law_size_so", "_law_tag"] ["_law_size_so"] (defScope s_law_free_kit) := ⟨rfl, rfl, rfl, by decide +kernel, rfl, by decide +kernel, by decide +kernel⟩
theorem c_law_mate : FnScope ["_law_tub", "_law_plan_so", "_law_tags_here", "_law_found", "_law_own", "_law_tag", "_law_lots_so", "_law_lot"] ["_law_tub", "_law_plan_so"] (defScope s_law_mate) := ⟨rfl, rfl, rfl, by decide +kernel, rfl, by decide +kernel, by decide +kernel⟩
theorem c_law_grid : FnScope ["_law_lows_so", "_law_highs_so", "_law_found", "_law_own", "_law_its", "_law_later_here", "_law_much", "_law_head_so"] ["_law_lows_so", "_law_highs_so"] (defScope s_law_grid) := ⟨rfl, rfl, rfl, by decide +kernel, rfl, by decide +kernel, by decide +kernel⟩
theorem c_law_heard : FnScope ["_law_near_so", "_law_mate_so", "_law_caught", "_law_said", "error"] ["_law_near_so", "_law_mate_so"] (defScope s_law_heard) := ⟨rfl, rfl, rfl, by decide +kernel, rfl, by decide +kernel, by decide +kernel⟩
theorem c_law_later : FnScope ["_law_kit_here", "_law_mate_here", "_law_lasts_so", "_law_mine", "_law_its", "_law_tag"] ["_law_kit_here", "_law_mate_here", "_law_lasts_so"] (defScope s_law_later) := ⟨rfl, rfl, rfl, by decide +kernel, rfl, by decide +kernel, by decide +kernel⟩
theorem c_law_due : FnScope ["_law_kit_here", "_law_mate_here", "_law_most_so", "_law_tags_here", "_law_own", "_law_every", "_law_tag"] ["_law_kit_here", "_law_mate_here", "_law_most_so"] (defScope s_law_due) := ⟨rfl, rfl, rfl, by decide +kernel, rfl, by decide +kernel, by decide +kernel⟩
theorem c_law_by_hand_right : FnScope ["_law_kit_here", "_law_slow", "_law_fast", "_law_some", "_law_got", "_law_mate_so", "_law_near_so", "_law_due_here", "_law_wide", "_law_left", "_law_right_here", "_law_both", "_law_near", "_law_far"] [] (defScope s_law_by_hand_right) := ⟨rfl, rfl, rfl, by decide +kernel, rfl, by decide +kernel, by decide +kernel⟩
theorem c_law_right : FnScope ["_law_tub", "_law_turn", "_law_tags_here", "_law_kit_here", "_law_mate_here", "_law_due_here", "_law_got", "_law_mine", "_law_its", "_law_lacks", "_law_own", "_law_lot", "_law_wide"] ["_law_tub"] (defScope s_law_right) := ⟨rfl, rfl, rfl, by decide +kernel, rfl, by decide +kernel, by decide +kernel⟩
theorem c_law : FnScope ["_law_script", "_law_cells_here", "_law_k"] ["_law_script"] (defScope s_law) := ⟨rfl, rfl, rfl, by decide +kernel, rfl, by decide +kernel, by decide +kernel⟩
/-- what the top has left: the built-ins' names are free, each def stands -/
structure Txt (K : PySem.W.Frag) (mg : Str → Option Value) : Prop where
  b_tuple : mg "tuple" = none
  b_list : mg "list" = none
  b_dict : mg "dict" = none
  b_set : mg "set" = none
  b_sorted : mg "sorted" = none
  b_isinstance : mg "isinstance" = none
  b_any : mg "any" = none
  b_all : mg "all" = none
  b_len : mg "len" = none
  b_min : mg "min" = none
  b_max : mg "max" = none
  b_range : mg "range" = none
  b_int : mg "int" = none
  b_abs : mg "abs" = none
  b_enumerate : mg "enumerate" = none
  b_zip : mg "zip" = none
  b_bool : mg "bool" = none
  b_str : mg "str" = none
  b_ValueError : mg "ValueError" = none
  d_set_of : Df K mg "set_of" s_set_of ["some"]
  d_tupled : Df K mg "tupled" s_tupled ["value"]
  d_units : Df K mg "units" s_units ["book"]
  d_check_units : Df K mg "check_units" s_check_units ["book", "some"]
  d_table_of : Df K mg "table_of" s_table_of ["book"]
  d_lets : Df K mg "lets" s_lets ["table", "up", "unit"]
  d_row_within : Df K mg "row_within" s_row_within ["book", "some"]
  d_greatest_within : Df K mg "greatest_within" s_greatest_within ["book", "some"]
  d_is_standing : Df K mg "is_standing" s_is_standing ["book", "some"]
  d_standings_of : Df K mg "standings_of" s_standings_of ["book"]
  d_without : Df K mg "without" s_without ["some", "unit"]
  d_ends_in : Df K mg "ends_in" s_ends_in ["known", "some"]
  d_ends_of_paths : Df K mg "ends_of_paths" s_ends_of_paths ["book"]
  d_all_paths : Df K mg "all_paths" s_all_paths ["book"]
  d_check_same : Df K mg "check_same" s_check_same ["one", "other"]
  d_begin_by : Df K mg "begin_by" s_begin_by ["needs", "found"]
  d_row_by : Df K mg "row_by" s_row_by ["book", "durations"]
  d_never_later : Df K mg "never_later" s_never_later ["one", "other"]
  d_first_beyond : Df K mg "first_beyond" s_first_beyond ["book", "row"]
  d_later_durations : Df K mg "later_durations" s_later_durations ["one", "other"]
  d_law_box : Df K mg "_law_box" s_law_box ["_law_script", "_law_k"]
  d_law_take : Df K mg "_law_take" s_law_take ["_law_tub", "_law_under"]
  d_law_cells : Df K mg "_law_cells" s_law_cells ["_law_script", "_law_top"]
  d_law_of : Df K mg "_law_of" s_law_of ["_law_tub", "_law_few_so"]
  d_law_pick : Df K mg "_law_pick" s_law_pick ["_law_tub", "_law_few_so", "_law_much_so"]
  d_law_same : Df K mg "_law_same" s_law_same ["_law_got", "_law_due_here"]
  d_law_lists : Df K mg "_law_lists" s_law_lists ["_law_matter"]
  d_law_tags : Df K mg "_law_tags" s_law_tags ["_law_tub", "_law_size_so"]
  d_law_plan : Df K mg "_law_plan" s_law_plan ["_law_tub", "_law_tags_here", "_law_most_so"]
  d_law_lets : Df K mg "_law_lets" s_law_lets ["_law_lots_so", "_law_up_so"]
  d_law_next : Df K mg "_law_next" s_law_next ["_law_plan_so", "_law_up_so"]
  d_law_stands : Df K mg "_law_stands" s_law_stands ["_law_plan_so"]
  d_law_clock : Df K mg "_law_clock" s_law_clock ["_law_plan_so", "_law_lasts_so"]
  d_law_kit : Df K mg "_law_kit" s_law_kit []
  d_law_row_kit : Df K mg "_law_row_kit" s_law_row_kit ["_law_size_so"]
  d_law_free_kit : Df K mg "_law_free_kit" s_law_free_kit ["_law_size_so"]
  d_law_mate : Df K mg "_law_mate" s_law_mate ["_law_tub", "_law_plan_so"]
  d_law_grid : Df K mg "_law_grid" s_law_grid ["_law_lows_so", "_law_highs_so"]
  d_law_heard : Df K mg "_law_heard" s_law_heard ["_law_near_so", "_law_mate_so"]
  d_law_later : Df K mg "_law_later" s_law_later ["_law_kit_here", "_law_mate_here", "_law_lasts_so"]
  d_law_due : Df K mg "_law_due" s_law_due ["_law_kit_here", "_law_mate_here", "_law_most_so"]
  d_law_by_hand_right : Df K mg "_law_by_hand_right" s_law_by_hand_right []
  d_law_right : Df K mg "_law_right" s_law_right ["_law_tub"]
  d_law : Df K mg "law" s_law ["_law_script"]
end Up
end
section
/-! The plain law: books, rows, standings; two books' standings; clocks. No program in sight. -/
set_option autoImplicit false
namespace Up
variable {U : Type} [DecidableEq U]

/-! ### books -/
abbrev Bk (U : Type) := List (U × List (List U))
def unitsM (b : Bk U) : List U := b.map (·.1)
def needsM : Bk U → U → List (List U)
  | [], _ => []
  | (v, ns) :: r, u => if v = u then ns else needsM r u
def letsN (ns : List (List U)) (up : List U) (u : U) : Bool := !(decide (u ∈ up)) && ns.any fun n => n.all fun o => decide (o ∈ up)
def letsM (b : Bk U) (up : List U) (u : U) : Bool := letsN (needsM b u) up u

/-- a ROW, grown at its end -/
inductive Row (b : Bk U) : List U → Prop
  | nil : Row b []
  | snoc {r : List U} {u : U} : Row b r → letsM b r u = true → Row b (r ++ [u])

def Same2 (r s : List U) : Prop := ∀ x, x ∈ r ↔ x ∈ s
theorem Same2.refl (r : List U) : Same2 r r := fun _ => Iff.rfl
theorem Same2.symm {r s : List U} (h : Same2 r s) : Same2 s r := fun x => (h x).symm
theorem Same2.trans {r s t : List U} (h : Same2 r s) (k : Same2 s t) : Same2 r t := fun x => (h x).trans (k x)

theorem lets_iff {b : Bk U} {r : List U} {u : U} : letsM b r u = true ↔ u ∉ r ∧ ∃ n ∈ needsM b u, ∀ o ∈ n, o ∈ r := by
  unfold letsM letsN
  simp [List.any_eq_true, List.all_eq_true]

theorem lets_mono {b : Bk U} {r s : List U} {u : U} (h : letsM b r u = true) (hs : ∀ x ∈ r, x ∈ s) (hu : u ∉ s) : letsM b s u = true := by
  rw [lets_iff] at h ⊢
  obtain ⟨_, n, hn, ha⟩ := h
  exact ⟨hu, n, hn, fun o ho => hs o (ha o ho)⟩
theorem lets_same {b : Bk U} {r s : List U} {u : U} (h : Same2 r s) : letsM b r u = letsM b s u := by
  rw [Bool.eq_iff_iff]
  constructor
  · intro q
    exact lets_mono q (fun x hx => (h x).mp hx) fun z => (lets_iff.mp q).1 ((h u).mpr z)
  · intro q
    exact lets_mono q (fun x hx => (h x).mpr hx) fun z => (lets_iff.mp q).1 ((h u).mp z)
theorem needs_unit {b : Bk U} {u : U} {n : List U} (h : n ∈ needsM b u) : u ∈ unitsM b := by
  induction b with
  | nil => cases h
  | cons p r ih =>
    obtain ⟨v, ns⟩ := p
    unfold needsM at h
    show u ∈ v :: unitsM r
    by_cases e : v = u
    · rw [e]; exact List.mem_cons_self
    · rw [if_neg e] at h
      exact List.mem_cons_of_mem _ (ih h)
theorem lets_unit {b : Bk U} {r : List U} {u : U} (h : letsM b r u = true) : u ∈ unitsM b := by
  obtain ⟨_, n, hn, _⟩ := lets_iff.mp h
  exact needs_unit hn
theorem Row.units {b : Bk U} {r : List U} (h : Row b r) : ∀ u ∈ r, u ∈ unitsM b := by
  induction h with
  | nil => intro u hu; cases hu
  | snoc _ hl ih =>
    intro u hu
    rcases List.mem_append.mp hu with q | q
    · exact ih u q
    · rw [List.mem_singleton.mp q]; exact lets_unit hl
theorem Row.nodup {b : Bk U} {r : List U} (h : Row b r) : r.Nodup := by
  induction h with
  | nil => exact List.nodup_nil
  | snoc _ hl ih =>
    rw [List.nodup_append]
    refine ⟨ih, by simp, ?_⟩
    intro x hx y hy e
    rw [List.mem_singleton.mp hy] at e
    exact (lets_iff.mp hl).1 (e ▸ hx)

/-- a STANDING, as a list whose order does not matter -/
def Stand (b : Bk U) (s : List U) : Prop := ∃ r, Row b r ∧ Same2 r s
theorem Stand.nil (b : Bk U) : Stand b [] := ⟨[], .nil, Same2.refl _⟩
theorem Stand.same {b : Bk U} {s t : List U} (h : Stand b s) (e : Same2 s t) : Stand b t := let ⟨r, hr, q⟩ := h; ⟨r, hr, q.trans e⟩
theorem Stand.units {b : Bk U} {s : List U} (h : Stand b s) : ∀ u ∈ s, u ∈ unitsM b := fun u hu => let ⟨_, hr, q⟩ := h; hr.units u ((q u).mpr hu)
theorem Stand.step {b : Bk U} {s : List U} {u : U} (h : Stand b s) (hl : letsM b s u = true) : Stand b (s ++ [u]) := by
  obtain ⟨r, hr, q⟩ := h
  refine ⟨r ++ [u], .snoc hr (by rw [lets_same q]; exact hl), fun x => ?_⟩
  rw [List.mem_append, List.mem_append, q x]
/-- what is reached within a row from above -/
theorem row_more {b : Bk U} {r : List U} (h : Row b r) : ∀ s, Row b s → ∃ t, Row b t ∧ ∀ x, x ∈ t ↔ x ∈ s ∨ x ∈ r := by
  induction h with
  | nil => intro s hs; exact ⟨s, hs, fun x => by simp⟩
  | @snoc r u _ hl ih =>
    intro s hs
    obtain ⟨t, ht, q⟩ := ih s hs
    by_cases hu : u ∈ t
    · refine ⟨t, ht, fun x => ?_⟩
      rw [q x, List.mem_append, List.mem_singleton]
      constructor
      · rintro (z | z)
        · exact .inl z
        · exact .inr (.inl z)
      · rintro (z | z | rfl)
        · exact .inl z
        · exact .inr z
        · exact (q x).mp hu
    · refine ⟨t ++ [u], .snoc ht (lets_mono hl (fun x hx => (q x).mpr (.inr hx)) hu), fun x => ?_⟩
      rw [List.mem_append, List.mem_append, q x, or_assoc]
theorem Stand.union {b : Bk U} {s t : List U} (h : Stand b s) (k : Stand b t) : Stand b (s ++ t) := by
  obtain ⟨r, hr, q⟩ := h
  obtain ⟨r', hr', q'⟩ := k
  obtain ⟨w, hw, e⟩ := row_more hr' r hr
  exact ⟨w, hw, fun x => by rw [e x, List.mem_append, q x, q' x]⟩

/-- a row of units of some, which no further one of them can be put to -/
structure MaxRow (b : Bk U) (some f : List U) : Prop where
  row : Row b f
  sub : ∀ u ∈ f, u ∈ some
  stop : ∀ u ∈ some, letsM b f u = false
theorem MaxRow.all {b : Bk U} {some f : List U} (h : MaxRow b some f) {r : List U} (hr : Row b r) (hs : ∀ u ∈ r, u ∈ some) : ∀ u ∈ r, u ∈ f := by
  induction hr with
  | nil => intro u hu; cases hu
  | @snoc r u _ hl ih =>
    have i1 := ih fun v hv => hs v (List.mem_append_left _ hv)
    intro v hv
    rcases List.mem_append.mp hv with q | q
    · exact i1 v q
    · rw [List.mem_singleton.mp q]
      refine Classical.byContradiction fun hn => ?_
      have e := h.stop u (hs u (by simp))
      rw [lets_mono hl i1 hn] at e
      cases e
theorem MaxRow.stand {b : Bk U} {some f : List U} (h : MaxRow b some f) : Same2 f some ↔ Stand b some := by
  constructor
  · intro q
    exact ⟨f, h.row, q⟩
  · rintro ⟨r, hr, q⟩ x
    exact ⟨h.sub x, fun hx => h.all hr (fun u hu => (q u).mp hu) x ((q x).mpr hx)⟩

/-! ### one book's standings within another's -/
def SubB (b a : Bk U) : Prop := ∀ s, Stand b s → Stand a s
theorem SubB.refl (b : Bk U) : SubB b b := fun _ h => h

/-- the units that can be taken away -/
def EndOf (b : Bk U) (s : List U) (u : U) : Prop := u ∈ s ∧ Stand b (s.filter fun x => decide (x ≠ u))
theorem mem_without {s : List U} {u x : U} : x ∈ s.filter (fun x => decide (x ≠ u)) ↔ x ∈ s ∧ x ≠ u := by simp [List.mem_filter]
/-- a non-empty standing has a unit that can be taken away -/
theorem has_end {b : Bk U} {s : List U} (h : Stand b s) (hn : s ≠ []) : ∃ u, EndOf b s u := by
  obtain ⟨r, hr, q⟩ := h
  cases hr with
  | nil =>
    exfalso
    cases s with
    | nil => exact hn rfl
    | cons x s => exact absurd ((q x).mpr List.mem_cons_self) (by simp)
  | @snoc r u hr hl =>
    refine ⟨u, (q u).mp (by simp), r, hr, fun x => ?_⟩
    rw [mem_without, ← q x, List.mem_append, List.mem_singleton]
    constructor
    · intro hx
      exact ⟨.inl hx, fun e => (lets_iff.mp hl).1 (e ▸ hx)⟩
    · rintro ⟨z | z, k⟩
      · exact z
      · exact absurd z k
theorem filter_len {s : List U} {u : U} (h : u ∈ s) : (s.filter fun x => decide (x ≠ u)).length < s.length := by
  refine Nat.lt_of_le_of_ne (List.length_filter_le _ _) fun e => ?_
  have q := List.length_filter_eq_length_iff.mp e u h
  simp at q
/-- PATHs are enough: a standing with just one end is called a path -/
theorem sub_of_paths {b a : Bk U} (h : ∀ s, Stand b s → (∃ u, EndOf b s u ∧ ∀ v, EndOf b s v → v = u) → Stand a s) : SubB b a := by
  have go : ∀ (n : Nat) (s : List U), s.length ≤ n → Stand b s → Stand a s := by
    intro n
    induction n with
    | zero =>
      intro s hs _
      rw [List.length_eq_zero_iff.mp (Nat.le_zero.mp hs)]
      exact Stand.nil a
    | succ n ih =>
      intro s hs hb
      by_cases hn : s = []
      · rw [hn]; exact Stand.nil a
      · obtain ⟨u, hu⟩ := has_end hb hn
        by_cases hv : ∃ v, EndOf b s v ∧ v ≠ u
        · obtain ⟨v, hv, ne⟩ := hv
          have l1 := filter_len hu.1
          have l2 := filter_len hv.1
          have a1 := ih _ (by omega) hu.2
          have a2 := ih _ (by omega) hv.2
          refine (a1.union a2).same fun x => ?_
          rw [List.mem_append, mem_without, mem_without]
          constructor
          · rintro (z | z) <;> exact z.1
          · intro z
            by_cases e : x = u
            · exact .inr ⟨z, fun k => ne (k.symm.trans e)⟩
            · exact .inl ⟨z, e⟩
        · exact h s hb ⟨u, hu, fun v k => Classical.byContradiction fun q => hv ⟨v, k, q⟩⟩
  exact fun s hb => go s.length s (Nat.le_refl _) hb

/-- two standings, one a unit more than the other: it can come up there -/
theorem lets_of_two {a : Bk U} {s : List U} {u : U} (h : Stand a (s ++ [u])) (hu : u ∉ s) : letsM a s u = true := by
  obtain ⟨r, hr, q⟩ := h
  have key : ∀ {r : List U}, Row a r → (∀ x ∈ r, x ∈ s ++ [u]) → u ∈ r → letsM a s u = true := by
    intro r hr
    induction hr with
    | nil => intro _ z; cases z
    | @snoc r v _ hl ih =>
      intro hs z
      by_cases hur : u ∈ r
      · exact ih (fun x hx => hs x (List.mem_append_left _ hx)) hur
      · have e : u = v := by
          rcases List.mem_append.mp z with k | k
          · exact absurd k hur
          · exact List.mem_singleton.mp k
        subst e
        refine lets_mono hl (fun x hx => ?_) hu
        rcases List.mem_append.mp (hs x (List.mem_append_left _ hx)) with k | k
        · exact k
        · rw [List.mem_singleton.mp k] at hx; exact absurd hx hur
  exact key hr (fun x hx => (q x).mp hx) ((q u).mpr (by simp))

/-! ### clocks -/
/-- the last time of the first i -/
def tAt (l : List (U × Int)) (i : Nat) : Int := match i with
  | 0 => 0
  | i + 1 => match l[i]? with
    | some p => p.2
    | none => 0
def upTo (l : List (U × Int)) (i : Nat) : List U := (l.take i).map (·.1)
theorem upTo_full (l : List (U × Int)) : upTo l l.length = l.map (·.1) := by unfold upTo; rw [List.take_length]
/-- what a clock tells: each unit, when it is up, in the order of coming -/
structure Clock (b : Bk U) (d : U → Int) (l : List (U × Int)) : Prop where
  row : Row b (l.map (·.1))
  rise : ∀ i j, i ≤ j → j ≤ l.length → tAt l i ≤ tAt l j
  from' : ∀ p ∈ l, ∃ i, i ≤ l.length ∧ letsM b (upTo l i) p.1 = true ∧ p.2 = tAt l i + d p.1
  ends : ∀ i, i ≤ l.length → ∀ u, letsM b (upTo l i) u = true → ∃ t, (u, t) ∈ l ∧ t ≤ tAt l i + d u

theorem mem_upTo {l : List (U × Int)} {i : Nat} {u : U} : u ∈ upTo l i ↔ ∃ j t, j < i ∧ l[j]? = some (u, t) := by
  unfold upTo
  rw [List.mem_map]
  constructor
  · rintro ⟨⟨v, t⟩, hp, rfl⟩
    obtain ⟨j, hj⟩ := List.mem_iff_getElem?.mp hp
    rw [List.getElem?_take] at hj
    split at hj
    · exact ⟨j, t, by assumption, hj⟩
    · cases hj
  · rintro ⟨j, t, hj, h⟩
    exact ⟨(u, t), List.mem_iff_getElem?.mpr ⟨j, by rw [List.getElem?_take, if_pos hj]; exact h⟩, rfl⟩
theorem tAt_succ {l : List (U × Int)} {j : Nat} {p : U × Int} (h : l[j]? = some p) : tAt l (j + 1) = p.2 := by
  show (match l[j]? with | some p => p.2 | none => 0) = p.2
  rw [h]
theorem take_row {b : Bk U} {r : List U} (h : Row b r) : ∀ i, Row b (r.take i) := by
  induction h with
  | nil => intro i; rw [List.take_nil]; exact .nil
  | @snoc r u hr hl ih =>
    intro i
    by_cases hi : i ≤ r.length
    · rw [List.take_append_of_le_length hi]; exact ih i
    · rw [List.take_of_length_le (by rw [List.length_append, List.length_singleton]; omega)]
      exact .snoc hr hl
theorem upTo_stand {b : Bk U} {d : U → Int} {l : List (U × Int)} (c : Clock b d l) (i : Nat) : Stand b (upTo l i) := by
  refine ⟨upTo l i, ?_, Same2.refl _⟩
  unfold upTo
  rw [List.map_take]
  exact take_row c.row i
theorem key_nodup {b : Bk U} {d : U → Int} {l : List (U × Int)} (c : Clock b d l) : (l.map (·.1)).Nodup := c.row.nodup
/-- who comes up where some units are, is up by the latest of these and its own duration -/
theorem Clock.early {a : Bk U} {d : U → Int} {l : List (U × Int)} (c : Clock a d l) (hd : ∀ u, 0 ≤ d u) {s : List U} {u : U} (hu : letsM a s u = true) {m : Int} (hm : 0 ≤ m) (hs : ∀ x ∈ s, ∃ t, (x, t) ∈ l ∧ t ≤ m) :
    ∃ t, (u, t) ∈ l ∧ t ≤ m + d u := by
  -- a place by which all of s are up, with a time of at most m
  have key : ∀ s : List U, (∀ x ∈ s, ∃ t, (x, t) ∈ l ∧ t ≤ m) → ∃ i, i ≤ l.length ∧ tAt l i ≤ m ∧ ∀ x ∈ s, x ∈ upTo l i := by
    intro s
    induction s with
    | nil => intro _; exact ⟨0, Nat.zero_le _, hm, fun x hx => by cases hx⟩
    | cons y s ih =>
      intro h
      obtain ⟨i, hi, hti, hin⟩ := ih fun x hx => h x (List.mem_cons_of_mem _ hx)
      obtain ⟨t, ht, htm⟩ := h y List.mem_cons_self
      obtain ⟨j, hj⟩ := List.mem_iff_getElem?.mp ht
      have hjl : j < l.length := (List.getElem?_eq_some_iff.mp hj).1
      by_cases hle : i ≤ j + 1
      · refine ⟨j + 1, hjl, by rw [tAt_succ hj]; exact htm, fun x hx => ?_⟩
        rcases List.mem_cons.mp hx with e | hx
        · rw [e]; exact mem_upTo.mpr ⟨j, t, Nat.lt_succ_self _, hj⟩
        · obtain ⟨k, t', hk, e⟩ := mem_upTo.mp (hin x hx)
          exact mem_upTo.mpr ⟨k, t', Nat.lt_of_lt_of_le hk hle, e⟩
      · refine ⟨i, hi, hti, fun x hx => ?_⟩
        rcases List.mem_cons.mp hx with e | hx
        · rw [e]; exact mem_upTo.mpr ⟨j, t, by omega, hj⟩
        · exact hin x hx
  obtain ⟨i, hi, hti, hin⟩ := key s hs
  by_cases hup : u ∈ upTo l i
  · obtain ⟨j, t, hj, e⟩ := mem_upTo.mp hup
    refine ⟨t, List.mem_iff_getElem?.mpr ⟨j, e⟩, ?_⟩
    have r := c.rise (j + 1) i hj hi
    rw [tAt_succ e] at r
    have := hd u
    show t ≤ m + d u
    omega
  · obtain ⟨t, ht, hle⟩ := c.ends i hi u (lets_mono hu hin hup)
    exact ⟨t, ht, by omega⟩
theorem Clock.pos {b : Bk U} {d : U → Int} {l : List (U × Int)} (c : Clock b d l) (i : Nat) (hi : i ≤ l.length) : 0 ≤ tAt l i := c.rise 0 i (Nat.zero_le _) hi

/-- NEVER LATER: whose standings hold the other's, is nowhere later -/
theorem not_later {a b : Bk U} {d : U → Int} {la lb : List (U × Int)} (hs : SubB b a) (hd : ∀ u, 0 ≤ d u) (ca : Clock a d la) (cb : Clock b d lb) : ∀ p ∈ lb, ∃ t, (p.1, t) ∈ la ∧ t ≤ p.2 := by
  have go : ∀ (n : Nat), ∀ j, j < n → ∀ p, lb[j]? = some p → ∃ t, (p.1, t) ∈ la ∧ t ≤ p.2 := by
    intro n
    induction n with
    | zero => intro j hj; omega
    | succ n ih =>
      intro j hj p hp
      obtain ⟨i, hi, hl, ht⟩ := cb.from' p (List.mem_iff_getElem?.mpr ⟨j, hp⟩)
      -- the place where it was let lies ahead of its own
      have hij : i ≤ j := by
        refine Classical.byContradiction fun hn => (lets_iff.mp hl).1 ?_
        exact mem_upTo.mpr ⟨j, p.2, by omega, hp⟩
      have la1 : letsM a (upTo lb i) p.1 = true := lets_of_two (hs _ ((upTo_stand cb i).step hl)) (lets_iff.mp hl).1
      obtain ⟨t, h1, h2⟩ := ca.early hd la1 (cb.pos i hi) fun x hx => by
        obtain ⟨k, t', hk, e⟩ := mem_upTo.mp hx
        obtain ⟨t, h1, h2⟩ := ih k (by omega) (x, t') e
        refine ⟨t, h1, Int.le_trans h2 ?_⟩
        have r := cb.rise (k + 1) i hk hi
        rw [tAt_succ e] at r
        exact r
      exact ⟨t, h1, by omega⟩
  intro p hp
  obtain ⟨j, hj⟩ := List.mem_iff_getElem?.mp hp
  exact go (j + 1) j (Nat.lt_succ_self _) p hj

/-- by durations of 0 on a set, 1 elsewhere, all of a standing of the set are up at 0 .. -/
theorem up_at_once {b : Bk U} {d : U → Int} {l : List (U × Int)} (c : Clock b d l) (hd : ∀ u, 0 ≤ d u) {r : List U} (hr : Row b r) (h0 : ∀ u ∈ r, d u = 0) : ∀ u ∈ r, ∃ t, (u, t) ∈ l ∧ t ≤ 0 := by
  induction hr with
  | nil => intro u hu; cases hu
  | @snoc r u _ hl ih =>
    have i1 := ih fun v hv => h0 v (List.mem_append_left _ hv)
    intro v hv
    rcases List.mem_append.mp hv with q | q
    · exact i1 v q
    · rw [List.mem_singleton.mp q]
      obtain ⟨t, h1, h2⟩ := c.early hd hl (Int.le_refl 0) i1
      rw [h0 u (by simp)] at h2
      exact ⟨t, h1, by omega⟩
/-- .. and whoever is up at 0 was so by units that were -/
theorem up_at_zero {a : Bk U} {d : U → Int} {l : List (U × Int)} (c : Clock a d l) (hd : ∀ u, 0 ≤ d u) {s : List U} (h1 : ∀ u, u ∉ s → 1 ≤ d u) (hs : ∀ u ∈ s, ∃ t, (u, t) ∈ l ∧ t ≤ 0) (hnd : ∀ u, u ∈ s → u ∈ s) : Stand a s := by
  -- the greatest prefix whose time is 0
  have key : ∀ s' : List U, (∀ u ∈ s', ∃ t, (u, t) ∈ l ∧ t ≤ 0) → ∃ i, i ≤ l.length ∧ tAt l i ≤ 0 ∧ ∀ x ∈ s', x ∈ upTo l i := by
    intro s'
    induction s' with
    | nil => intro _; exact ⟨0, Nat.zero_le _, Int.le_refl _, fun x hx => by cases hx⟩
    | cons y s' ih =>
      intro h
      obtain ⟨i, hi, hti, hin⟩ := ih fun x hx => h x (List.mem_cons_of_mem _ hx)
      obtain ⟨t, ht, htm⟩ := h y List.mem_cons_self
      obtain ⟨j, hj⟩ := List.mem_iff_getElem?.mp ht
      have hjl : j < l.length := (List.getElem?_eq_some_iff.mp hj).1
      by_cases hle : i ≤ j + 1
      · refine ⟨j + 1, hjl, by rw [tAt_succ hj]; exact htm, fun x hx => ?_⟩
        rcases List.mem_cons.mp hx with e | hx
        · rw [e]; exact mem_upTo.mpr ⟨j, t, Nat.lt_succ_self _, hj⟩
        · obtain ⟨k, t', hk, e⟩ := mem_upTo.mp (hin x hx)
          exact mem_upTo.mpr ⟨k, t', Nat.lt_of_lt_of_le hk hle, e⟩
      · refine ⟨i, hi, hti, fun x hx => ?_⟩
        rcases List.mem_cons.mp hx with e | hx
        · rw [e]; exact mem_upTo.mpr ⟨j, t, by omega, hj⟩
        · exact hin x hx
  obtain ⟨i, hi, hti, hin⟩ := key s hs
  refine (upTo_stand c i).same fun x => ⟨fun hx => ?_, hin x⟩
  refine Classical.byContradiction fun hn => ?_
  obtain ⟨j, t, hj, e⟩ := mem_upTo.mp hx
  obtain ⟨k, hk, _, ht⟩ := c.from' (x, t) (List.mem_iff_getElem?.mpr ⟨j, e⟩)
  have ht : t = tAt l k + d x := ht
  have q := c.pos k hk
  have w := h1 x hn
  have r := c.rise (j + 1) i hj hi
  rw [tAt_succ e] at r
  have r : t ≤ tAt l i := r
  omega
/-- durations of 0 and 1 are enough to show a standing that the other book has not -/
theorem later_by {a b : Bk U} {s : List U} (hb : Stand b s) (ha : ¬ Stand a s) {la lb : List (U × Int)} {d : U → Int} (h0 : ∀ u ∈ s, d u = 0) (h1 : ∀ u, u ∉ s → 1 ≤ d u) (ca : Clock a d la) (cb : Clock b d lb) :
    ∃ p ∈ lb, ∀ t, (p.1, t) ∈ la → p.2 < t := by
  have hd : ∀ u, 0 ≤ d u := fun u => by
    by_cases hu : u ∈ s
    · rw [h0 u hu]; exact Int.le_refl _
    · have := h1 u hu; omega
  refine Classical.byContradiction fun hn => ha ?_
  obtain ⟨r, hr, q⟩ := hb
  have hup := up_at_once cb hd hr fun u hu => h0 u ((q u).mp hu)
  refine up_at_zero ca hd h1 (fun u hu => ?_) fun _ h => h
  obtain ⟨t, ht, hle⟩ := hup u ((q u).mpr hu)
  refine Classical.byContradiction fun hm => hn ⟨(u, t), ht, fun t' ht' => ?_⟩
  refine Classical.byContradiction fun hlt => hm ⟨t', ht', ?_⟩
  have hlt : ¬ t < t' := hlt
  omega
end Up
end
section
set_option Elab.async false
set_option linter.all false
set_option maxRecDepth 100000
set_option maxHeartbeats 4000000
/-! Books as data: tuples, or lists in their place at any depth; tables of needs. -/
namespace Up
open PySem PySem.Spec PyProof.Rows L2

theorem src_map {β γ : Type} {wi : TI} {σ : L2.St} {H : Hp} {bs : List β} {R : γ → V → Hp → Prop} (enc : β → γ) (h : Src wi σ H (bs.map enc) R) : Src wi σ H bs (fun b => R (enc b)) := fun H0 e C c =>
  h H0 e C fun J H1 G Y e1 w mono g1 yok => c J H1 G Y e1 (by rw [List.length_map] at w; exact w) mono g1 fun i b x H2 H3 hb g y => yok i (enc b) x H2 H3 (by rw [List.getElem?_map, hb]; rfl) g y
theorem Src.imp {β : Type} {wi : TI} {σ : L2.St} {H : Hp} {bs : List β} {R R' : β → V → Hp → Prop} (h : Src wi σ H bs R) (k : ∀ b x H1, R b x H1 → R' b x H1) : Src wi σ H bs R' := fun H0 e C c =>
  h H0 e C fun J H1 G Y e1 w mono g1 yok => c J H1 G Y e1 w mono g1 fun i b x H2 H3 hb g y => let ⟨a, r⟩ := yok i b x H2 H3 hb g y; ⟨a, k _ _ _ r⟩
section
variable {K : PySem.W.Frag} {te ta tb : TE} {σ : L2.St} {H : Hp}
theorem src_strs {us : List Str} (h : Ev te σ H (IsT (strsD us))) : Src (iTup K te) σ H us (fun u x _ => x = .str u) := (src_map PyData.str (src_tup h)).imp fun _ _ _ q => tt_str q
theorem src_strsL {us : List Str} (h : Ev te σ H (IsL (us.map .str))) : Src (iList K te) σ H us (fun u x _ => x = .str u) := (src_map PyData.str (src_lst h)).imp fun _ _ _ q => tt_str q
theorem et_neStr {x y : Str} (ha : Ev ta σ H (fun w _ => w = .str x)) (hb : Ev tb σ H (fun w _ => w = .str y)) : EvT (tTest (tOp rNe ta tb)) σ H (decide (x ≠ y)) :=
  (et_test (ev_neS rfl ha hb)).to (by by_cases h : x = y <;> simp [h])
end

/-! ### either of two -/
theorem pi_or {X : Cx} {tg it : Expr} {w w' : TI} (h : PI X tg it w) (h' : PI X tg it w') : PI X tg it (fun σ H R => w σ H R ∨ w' σ H R) := ⟨fun pins s σ H R I q => q.elim (h.run pins s σ H R I) (h'.run pins s σ H R I)⟩
theorem pg_or {X : Cx} {tg : Expr} {g g' : TG} (h : PG X tg g) (h' : PG X tg g') : PG X tg (fun v σ H Q => g v σ H Q ∨ g' v σ H Q) := ⟨fun pins s σ H v u Q I r q => q.elim (h.run pins s σ H v u Q I r) (h'.run pins s σ H v u Q I r)⟩
theorem src_inl {β : Type} {w w' : TI} {σ : L2.St} {H : Hp} {bs : List β} {R : β → V → Hp → Prop} (h : Src w σ H bs R) : Src (fun σ H R => w σ H R ∨ w' σ H R) σ H bs R := fun H0 e C c => .inl (h H0 e C c)
theorem src_inr {β : Type} {w w' : TI} {σ : L2.St} {H : Hp} {bs : List β} {R : β → V → Hp → Prop} (h : Src w' σ H bs R) : Src (fun σ H R => w σ H R ∨ w' σ H R) σ H bs R := fun H0 e C c => .inr (h H0 e C c)

/-! ### lists or tuples, to a depth, that stand for tuples -/
def SeqV (H : Hp) (v : V) (xs : List V) : Prop := ∃ a, v = .ref a ∧ (H a = some (.tup xs) ∨ H a = some (.lst xs))
theorem SeqV.same {H H' : Hp} (e : Same H H') {v : V} {xs : List V} (h : SeqV H v xs) : SeqV H' v xs := let ⟨a, h1, h2⟩ := h; ⟨a, h1, h2.imp (e _ _) (e _ _)⟩
def Scal : V → PyData → Prop
  | .non, d => d = .none
  | .bl b, d => d = .bool b
  | .int i, d => d = .int i
  | .str x, d => d = .str x
  | _, _ => False
def Lt : Nat → Hp → V → PyData → Prop
  | 0, _, v, d => Scal v d
  | n + 1, H, v, d => Scal v d ∨ ∃ xs ds, SeqV H v xs ∧ d = .tuple ds ∧ ds.length ≤ 90000 ∧ Paired (Lt n H) xs ds
theorem Lt.same {H H' : Hp} (e : Same H H') : ∀ {n : Nat} {v : V} {d : PyData}, Lt n H v d → Lt n H' v d
  | 0, _, _, h => h
  | n + 1, _, _, h => h.imp id fun ⟨xs, ds, h1, h2, h3, h4⟩ => ⟨xs, ds, h1.same e, h2, h3, Paired.mapP h4 fun _ _ q => Lt.same e q⟩
theorem Lt.up {H : Hp} : ∀ {n : Nat} {v : V} {d : PyData}, Lt n H v d → Lt (n + 1) H v d
  | 0, _, _, h => .inl h
  | n + 1, _, _, h => h.imp id fun ⟨xs, ds, h1, h2, h3, h4⟩ => ⟨xs, ds, h1, h2, h3, Paired.mapP h4 fun _ _ q => Lt.up q⟩
theorem lt_tup {H : Hp} {n : Nat} {v : V} {ds : List PyData} (h : Lt (n + 1) H v (.tuple ds)) : ∃ xs, SeqV H v xs ∧ ds.length ≤ 90000 ∧ Paired (Lt n H) xs ds := by
  rcases h with h | ⟨xs, ds', h1, h2, h3, h4⟩
  · cases v <;> cases h
  · cases h2; exact ⟨xs, h1, h3, h4⟩
theorem lt_str {H : Hp} {n : Nat} {v : V} {x : Str} (h : Lt n H v (.str x)) : v = .str x := by
  have key : Scal v (.str x) := by
    cases n with
    | zero => exact h
    | succ n =>
      rcases h with h | ⟨xs, ds', h1, h2, h3, h4⟩
      · exact h
      · cases h2
  cases v with
  | str y => cases key; rfl
  | _ => cases key
/-- data no deeper than n, no tuple too long -/
def Sh : Nat → PyData → Prop
  | 0, d => (∃ v, Scal v d)
  | n + 1, d => (∃ v, Scal v d) ∨ ∃ ds, d = .tuple ds ∧ ds.length ≤ 90000 ∧ ∀ e ∈ ds, Sh n e
theorem tta_paired {H : Hp} {R : V → PyData → Prop} : ∀ {xs : List V} {ds : List PyData}, TtA H xs ds → (∀ v, ∀ d ∈ ds, Tt H v d → R v d) → Paired R xs ds
  | _, _, .nil, _ => .nil
  | _, _, .cons h t, k => .cons (k _ _ List.mem_cons_self h) (tta_paired t fun v d hd => k v d (List.mem_cons_of_mem _ hd))
theorem lt_of_tt {H : Hp} : ∀ {n : Nat} {v : V} {d : PyData}, Sh n d → Tt H v d → Lt n H v d
  | 0, v, d, ⟨u, hs⟩, h => by
    cases h with
    | tup h t => cases u <;> cases hs
    | _ => rfl
  | n + 1, v, d, hs, h => by
    cases h with
    | tup h t =>
      rcases hs with ⟨u, hs⟩ | ⟨ds, e, hl, hs⟩
      · cases u <;> cases hs
      · cases e
        exact .inr ⟨_, _, ⟨_, rfl, .inl h⟩, rfl, hl, tta_paired t fun v d hd q => lt_of_tt (hs d hd) q⟩
    | _ => exact .inl rfl
theorem paired_get {α β : Type} {R : α → β → Prop} : ∀ {xs : List α} {ys : List β} {i : Nat} {x : α}, Paired R xs ys → xs[i]? = some x → ∃ y, ys[i]? = some y ∧ R x y
  | _, _, _, _, .nil, e => by simp at e
  | _, _, 0, _, .cons r _, e => by simp at e; subst e; exact ⟨_, rfl, r⟩
  | _, _, i + 1, v, .cons _ t, e => by
    obtain ⟨d, h1, h2⟩ := paired_get (i := i) t (by simpa using e)
    exact ⟨d, by simpa using h1, h2⟩
theorem paired_len {α β : Type} {R : α → β → Prop} : ∀ {xs : List α} {ys : List β}, Paired R xs ys → xs.length = ys.length
  | _, _, .nil => rfl
  | _, _, .cons _ t => congrArg Nat.succ (paired_len t)
/-- walked: a name that holds a list or a tuple -/
def iSeq (K : PySem.W.Frag) (i : Nat) : TI := fun σ H R => iTup K (tVar i) σ H R ∨ iList K (tVar i) σ H R
theorem pi_seq {X : Cx} {tg : Expr} (i : Nat) {x : Str} {pos : Pos} (h : PE X (.Name x pos) (tVar i)) : PI X tg (.Name x pos) (iSeq X.K i) := pi_or (pi_tup h) (pi_list h)
theorem src_seq {K : PySem.W.Frag} {σ : L2.St} {H : Hp} {i : Nat} {v : V} {xs : List V} {ds : List PyData} {R : Hp → V → PyData → Prop} (hv : σ[i]? = some (some v)) (hs : SeqV H v xs) (hp : Paired (R H) xs ds) (hm : ∀ H2 H3 x d, Same H2 H3 → R H2 x d → R H3 x d) :
    Src (iSeq K i) σ H ds (fun d x H1 => R H1 x d) := fun H0 e C c => by
  obtain ⟨a, rfl, h⟩ := hs
  have keep : ∀ H2 H3, Same H2 H3 → Paired (R H2) xs ds → Paired (R H3) xs ds := fun H2 H3 e p => Paired.mapP p fun x d q => hm _ _ _ _ e q
  rcases h with h | h
  · refine .inl ⟨.ref a, hv, a, rfl, ⟨xs, sq_t (e _ _ h)⟩, c (Itt K a) H0 (fun H2 => H2 a = some (.tup xs) ∧ Paired (R H2) xs ds) (YAt xs) (Same.refl _) ?_ (fun H2 H3 e3 g => ⟨e3 _ _ g.1, keep _ _ e3 g.2⟩) ⟨e _ _ h, keep _ _ e hp⟩ fun i b x H2 H3 hb g y => ?_⟩
    · rw [← paired_len hp]
      exact walk_tup.mono (fun H2 g => sq_t g.1) fun i H2 x H3 _ _ y => y
    · obtain ⟨e3, y⟩ := y
      subst e3
      obtain ⟨d, hd, td⟩ := paired_get g.2 y
      rw [hb] at hd
      cases hd
      exact ⟨Same.refl _, td⟩
  · refine .inr ⟨.ref a, hv, a, rfl, ⟨xs, sq_l (e _ _ h)⟩, c (Itl K a) H0 (fun H2 => H2 a = some (.lst xs) ∧ Paired (R H2) xs ds) (YAt xs) (Same.refl _) ?_ (fun H2 H3 e3 g => ⟨e3 _ _ g.1, keep _ _ e3 g.2⟩) ⟨e _ _ h, keep _ _ e hp⟩ fun i b x H2 H3 hb g y => ?_⟩
    · rw [← paired_len hp]
      exact walk_list.mono (fun H2 g => sq_l g.1) fun i H2 x H3 _ _ y => y
    · obtain ⟨e3, y⟩ := y
      subst e3
      obtain ⟨d, hd, td⟩ := paired_get g.2 y
      rw [hb] at hd
      cases hd
      exact ⟨Same.refl _, td⟩
/-- a, b = a pair, list or tuple -/
def gPr (K : PySem.W.Frag) (i j : Nat) : TG := fun v σ H Q => gTup K 2 (gCons (gName i) (gCons (gName j) gNil)) v σ H Q ∨ gUnl K 2 (gCons (gName i) (gCons (gName j) gNil)) v σ H Q
theorem pr_go {K : PySem.W.Frag} {σ : L2.St} {H : Hp} {x y z : V} {i j : Nat} {C : L2.St → Hp → Prop} (h : SeqV H x [y, z]) (k : C ((σ.set i (some y)).set j (some z)) H) : gPr K i j x σ H C := by
  obtain ⟨a, rfl, h | h⟩ := h
  · exact .inl ⟨a, [y, z], rfl, sq_t h, rfl, y, [z], rfl, z, [], rfl, rfl, k⟩
  · exact .inr ⟨a, [y, z], rfl, sq_l h, rfl, y, [z], rfl, z, [], rfl, rfl, k⟩

/-! ### books -/
abbrev SBk := Bk Str
def needsD (ns : List (List Str)) : PyData := .tuple (ns.map strsD)
def pairD (p : Str × List (List Str)) : PyData := .tuple [.str p.1, needsD p.2]
def bookD (b : SBk) : PyData := .tuple (b.map pairD)
/-- sizes of a book -/
structure Fair (b : SBk) : Prop where
  few : b.length ≤ 1000
  each : ∀ p ∈ b, p.2.length ≤ 1000 ∧ ∀ n ∈ p.2, n.length ≤ 1000
theorem sh_strs {us : List Str} (h : us.length ≤ 90000) : Sh 1 (strsD us) := .inr ⟨_, rfl, by rw [List.length_map]; exact h, fun e he => by obtain ⟨u, _, rfl⟩ := List.mem_map.mp he; exact ⟨.str u, rfl⟩⟩
theorem sh_needs {ns : List (List Str)} (h : ns.length ≤ 1000) (hn : ∀ n ∈ ns, n.length ≤ 1000) : Sh 2 (needsD ns) := .inr ⟨_, rfl, by rw [List.length_map]; omega, fun e he => by
  obtain ⟨n, q, rfl⟩ := List.mem_map.mp he; exact sh_strs (Nat.le_trans (hn n q) (by decide))⟩
theorem sh_book {b : SBk} (h : Fair b) : Sh 4 (bookD b) := .inr ⟨_, rfl, by rw [List.length_map]; have := h.few; omega, fun e he => by
  obtain ⟨p, q, rfl⟩ := List.mem_map.mp he
  refine .inr ⟨_, rfl, (by show 2 ≤ 90000; decide), fun e he => ?_⟩
  rcases List.mem_cons.mp he with rfl | he
  · exact .inl ⟨.str p.1, rfl⟩
  · rw [List.mem_singleton.mp he]; exact sh_needs (h.each p q).1 (h.each p q).2⟩
/-- v is the book b, maybe with lists in the place of tuples -/
def BookV (b : SBk) (v : V) (H : Hp) : Prop := Lt 4 H v (bookD b)
theorem BookV.same {b : SBk} {v : V} {H H' : Hp} (e : Same H H') (h : BookV b v H) : BookV b v H' := Lt.same e h
theorem bookV_of {b : SBk} {v : V} {H : Hp} (f : Fair b) (h : Tt H v (bookD b)) : BookV b v H := lt_of_tt (sh_book f) h
theorem lt_pair {H : Hp} {x : V} {p : Str × List (List Str)} (h : Lt 3 H x (pairD p)) : ∃ z, SeqV H x [.str p.1, z] ∧ Lt 2 H z (needsD p.2) := by
  obtain ⟨xs, h1, _, h2⟩ := lt_tup h
  cases h2 with
  | cons r t =>
    cases t with
    | cons r' t =>
      cases t
      rw [lt_str r] at h1
      exact ⟨_, h1, r'⟩
theorem src_book {K : PySem.W.Frag} {σ : L2.St} {H : Hp} {b : SBk} {i : Nat} {v : V} (hv : σ[i]? = some (some v)) (h : BookV b v H) : Src (iSeq K i) σ H b (fun p x H1 => ∃ z, SeqV H1 x [.str p.1, z] ∧ Lt 2 H1 z (needsD p.2)) := by
  obtain ⟨xs, h1, _, h2⟩ := lt_tup h
  exact (src_map pairD (src_seq (R := fun H1 x d => Lt 3 H1 x d) hv h1 h2 fun H2 H3 x d e q => q.same e)).imp fun p x H1 q => lt_pair q
/-- a table: unit, needs -/
def TabAt (b : SBk) (kvs : List (Key × V)) (H : Hp) : Prop := Paired (fun (kv : Key × V) (p : Str × List (List Str)) => kv.1 = .inr p.1 ∧ Tt H kv.2 (needsD p.2)) kvs b
theorem TabAt.tex {b : SBk} {kvs : List (Key × V)} {H H' : Hp} (e : TEx H H') (h : TabAt b kvs H) : TabAt b kvs H' := Paired.mapP h fun _ _ q => ⟨q.1, q.2.tex e⟩
theorem Rd.same {H H' : Hp} {a : Addr} {u : HO} (e : Same H H') (h : Rd H a u) : Rd H' a u := h.elim (fun h => .inl (e _ _ h)) fun ⟨o, h⟩ => .inr ⟨o, e _ _ h⟩
def IsTab (b : SBk) : V → Hp → Prop := fun v H => ∃ a kvs, v = .ref a ∧ Rd H a (.dK kvs) ∧ TabAt b kvs H
theorem mono_tab (b : SBk) : Mono (IsTab b) := fun _ _ _ e ⟨a, kvs, h1, h2, h3⟩ => ⟨a, kvs, h1, Rd.same e h2, h3.tex (tex_same e)⟩
theorem tab_val {b : SBk} {kvs : List (Key × V)} {H : Hp} {u : Str} (h : TabAt b kvs H) (hu : u ∈ unitsM b) : ∃ v, valV kvs (.inr u) = some v ∧ Tt H v (needsD (needsM b u)) := by
  induction h with
  | nil => cases hu
  | @cons kv p kvs b r t ih =>
    obtain ⟨k, v⟩ := kv
    obtain ⟨x, ns⟩ := p
    obtain ⟨r1, r2⟩ := r
    simp only at r1 r2
    subst r1
    by_cases e : x = u
    · subst e
      refine ⟨v, valV_pos rfl, ?_⟩
      show Tt H v (needsD (if x = x then ns else needsM b x))
      rw [if_pos rfl]; exact r2
    · have hu' : u ∈ unitsM b := by
        rcases List.mem_cons.mp (show u ∈ x :: unitsM b from hu) with z | z
        · exact absurd z.symm e
        · exact z
      obtain ⟨w, h1, h2⟩ := ih hu'
      refine ⟨w, ?_, ?_⟩
      · rw [valV_neg (fun z => e (Sum.inr.inj z))]; exact h1
      · show Tt H w (needsD (if x = u then ns else needsM b u))
        rw [if_neg e]; exact h2
theorem tab_len {b : SBk} {kvs : List (Key × V)} {H : Hp} (h : TabAt b kvs H) : kvs.length = b.length := paired_len h
/-- d[u] -/
theorem ev_tab {td tk : TE} {σ : L2.St} {H : Hp} {b : SBk} {u : Str} (hd : Ev td σ H (IsTab b)) (hk : Ev tk σ H (fun w _ => w = .str u)) (hu : u ∈ unitsM b) : Ev (tDGet td tk) σ H (IsT (needsD (needsM b u))) := fun H1 e Q q =>
  hd H1 e _ fun v H2 e2 p => hk H2 (e.trans e2) _ fun y H3 e3 py => by
    obtain ⟨a, kvs, rfl, h2, h3⟩ := mono_tab b _ _ _ e3 p
    obtain ⟨w, h4, h5⟩ := tab_val h3 hu
    subst py
    exact ⟨a, w, rfl, h4 ▸ Or.inl ⟨kvs, .inr u, h2, rfl, rfl⟩, q w H3 (e2.trans e3) h5⟩
theorem yes_go {σ : L2.St} {H : Hp} {C : Bool → Hp → Prop} (h : C true H) : tYes σ H C := h
/-- a dict comprehension with text keys, no key twice -/
theorem ev_dc {K : PySem.W.Frag} {σ : L2.St} {H : Hp} {β : Type} {bs : List β} {R : β → V → Hp → Prop} {wi : TI} {g : TG} {tk tv : TE} {vs : List Nat} (hsrc : Src wi σ H bs R) (key : β → Str) (f : β → PyData) (hz : bs.length ≤ 99999) (nd : (bs.map key).Nodup)
    (turn : ∀ b ∈ bs, ∀ x H1, Same H H1 → R b x H1 → ∀ C : L2.St → Hp → Prop, (∀ σ2 H2, Same H1 H2 → wipe σ2 vs = wipe σ vs → Ev tk σ2 H2 (fun w _ => w = .str (key b)) → Ev tv σ2 H2 (IsT (f b)) → C σ2 H2) → g x (wipe σ vs) H1 C) :
    Ev (tDc wi g tYes tk tv vs) σ H (fun v H' => ∃ a kvs, v = .ref a ∧ H' a = some (.dK kvs) ∧ Paired (fun (kv : Key × V) b => kv.1 = .inr (key b) ∧ Tt H' kv.2 (f b)) kvs bs) := fun H0 e0 Q q =>
  hsrc H0 e0 _ fun J H1 G Y e1 w mono g1 yok D hD => by
    refine ⟨fun i m H' => m = bs.length - i ∧ i ≤ bs.length ∧ ∃ kvs, Same H1 H' ∧ H' D = some (.dK kvs) ∧ Paired (fun (kv : Key × V) b => kv.1 = .inr (key b) ∧ Tt H' kv.2 (f b)) kvs (bs.take i), ⟨bs.length, by simp, Nat.zero_le _, [], same_new hD, upd_same, by rw [List.take_zero]; exact .nil⟩, ?_⟩
    rintro i m H' ⟨rfl, hi, kvs, s1, hk, pk⟩
    have gi := mono _ _ s1 g1
    by_cases hlt : i < bs.length
    · have hb : bs[i]? = some bs[i] := List.getElem?_eq_getElem hlt
      refine .inr ⟨w.goes i H' hlt gi, fun H'' => i + 1 ≤ bs.length ∧ ∃ kvs, Same H1 H'' ∧ H'' D = some (.dK kvs) ∧ Paired (fun (kv : Key × V) b => kv.1 = .inr (key b) ∧ Tt H'' kv.2 (f b)) kvs (bs.take (i + 1)),
        fun H'' p => ⟨bs.length - (i + 1), by omega, rfl, p⟩, fun x H3 y => ?_⟩
      obtain ⟨s3, rb⟩ := yok i _ x H' H3 hb gi (w.yields i H' x H3 hlt gi y)
      refine turn bs[i] (List.getElem_mem hlt) x H3 (((e0.trans e1).trans s1).trans s3) rb _ fun σ2 H2 e2 hw hk2 hv2 => ⟨hw, ?_⟩
      refine yes_go ?_
      rw [if_pos rfl]
      refine hk2 H2 (Same.refl _) _ fun y H4 e4 py => hv2 H4 e4 _ fun z H5 e5 pz => ?_
      have s5 : Same H' H5 := ((s3.trans e2).trans e4).trans e5
      have hD5 := s5 _ _ hk
      have tx : ∀ o, TEx H5 (upd H5 D o) := fun o => tex_dK hD5
      have hno : valV kvs (.inr (key bs[i])) = none := by
        have aux : ∀ {kvs : List (Key × V)} {l : List β}, Paired (fun (kv : Key × V) b => kv.1 = .inr (key b) ∧ Tt H' kv.2 (f b)) kvs l → key bs[i] ∉ l.map key → valV kvs (.inr (key bs[i])) = none := by
          intro kvs l p
          induction p with
          | nil => intro _; rfl
          | @cons kv b kvs l r t ih =>
            intro hn
            rw [List.map_cons, List.mem_cons, not_or] at hn
            rw [valV_neg (fun z => hn.1 (Sum.inr.inj (r.1.symm.trans z)).symm)]
            exact ih hn.2
        refine aux pk fun hm => ?_
        have e3 : bs.map key = (bs.take i).map key ++ (bs.drop i).map key := by rw [← List.map_append, List.take_append_drop]
        rw [e3, List.nodup_append] at nd
        refine nd.2.2 _ hm (key bs[i]) ?_ rfl
        refine List.mem_map.mpr ⟨bs[i], List.mem_iff_getElem?.mpr ⟨0, ?_⟩, rfl⟩
        rw [List.getElem?_drop, Nat.add_zero]; exact hb
      refine ⟨kvs, .inr (key bs[i]), py, hD5, ?_, hlt, kvs ++ [(.inr (key bs[i]), z)], same_mut (s1.trans s5) hD, ?_, ?_⟩
      · rw [paired_len pk, List.length_take]; exact size_lt (by omega)
      · rw [putK_new _ hno]; exact upd_same
      · rw [take_more hb]
        have grow : ∀ (kvs0 : List (Key × V)) {kvs : List (Key × V)} {l : List β}, Paired (fun (kv : Key × V) b => kv.1 = .inr (key b) ∧ Tt H' kv.2 (f b)) kvs l → Paired (fun (kv : Key × V) b => kv.1 = .inr (key b) ∧ Tt (upd H5 D (.dK (putK kvs0 (.inr (key bs[i])) z))) kv.2 (f b)) (kvs ++ [(.inr (key bs[i]), z)]) (l ++ [bs[i]]) := by
          intro kvs0 kvs l p
          induction p with
          | nil => exact .cons ⟨rfl, pz.tex (tx _)⟩ .nil
          | cons r t ih => exact .cons ⟨r.1, (r.2.same s5).tex (tx _)⟩ ih
        exact grow kvs pk
    · have e : i = bs.length := by omega
      subst e
      rw [List.take_length] at pk
      exact .inl ⟨w.stops H' gi, q _ H' (e1.trans s1) ⟨D, kvs, rfl, hk, pk⟩⟩
end Up
end
section
set_option Elab.async false
set_option linter.all false
set_option maxRecDepth 100000
set_option maxHeartbeats 4000000
/-! Rules with the frame's K named, for use inside comprehensions. -/
namespace Up
open PySem PySem.Spec PyProof.Rows L2
section
variable {X : Cx} {K : PySem.W.Frag} {tg l : Expr} {tl : TE}
theorem pi_tupK (h : X.K = K) (hl : PE X l tl) : PI X tg l (iTup K tl) := by subst h; exact pi_tup hl
theorem pi_lstK (h : X.K = K) (hl : PE X l tl) : PI X tg l (iList K tl) := by subst h; exact pi_list hl
theorem op_inK (h : X.K = K) : OpR X (compareOp .In) (rIn K false) := by subst h; exact op_in_seq
theorem op_ninK (h : X.K = K) : OpR X (compareOp .NotIn) (rIn K true) := by subst h; exact op_notIn_seq
theorem cr_anyK (h : X.K = K) (hc : X.calm = true) : CallR X (.builtin "any") (rAny K) := by subst h; exact cr_any hc
theorem cr_allK (h : X.K = K) (hc : X.calm = true) : CallR X (.builtin "all") (rAll K) := by subst h; exact cr_all hc
theorem cr_tupK (h : X.K = K) : CallR X (.type "tuple") (rTupOf K) := by subst h; exact cr_tup
theorem cr_lenK (h : X.K = K) : CallR X (.builtin "len") (rLen K) := by subst h; exact cr_len
end
end Up
end
section
set_option Elab.async false
set_option linter.all false
set_option maxRecDepth 100000
set_option maxHeartbeats 4000000
/-! The defs without, tupled, units, table_of, lets, check_units. -/
namespace Up
open PySem PySem.Spec PyProof.Rows L2

/-! isinstance of a name -/
theorem ev_isi2 {K : PySem.W.Frag} {σ : L2.St} {H : Hp} {i : Nat} {v : V} {t : Value} {A B : String} {b : Bool} (hv : σ[i]? = some (some v)) (ty : ∀ H1, Same H H1 → TyX K H1 v t) (hk : PySem.W.kitAny K t [.type A, .type B] = some b) :
    Ev (tCB (rIsiT K) (tCons (tVar i) (tCons (tTup (tCons (tC (.ty A)) (tCons (tC (.ty B)) tNil))) tNil))) σ H (fun w _ => w = .bl b) := fun H1 e Q q =>
  ⟨v, hv, (by show 2 ≤ sizeLine; decide), fun p hp => ⟨v, p, _, t, _, b, rfl, upd_same, .cons (.ty A) (.cons (.ty B) .nil), ty _ (e.trans (same_new hp)), hk, q _ _ (same_new hp) rfl⟩⟩
theorem ev_isi1 {K : PySem.W.Frag} {σ : L2.St} {H : Hp} {i : Nat} {v : V} {t : Value} {A : String} {b : Bool} (hv : σ[i]? = some (some v)) (ty : ∀ H1, Same H H1 → TyX K H1 v t) (hk : PySem.W.kitOne K t (.type A) = some b) :
    Ev (tCB (rIsi K) (tCons (tVar i) (tCons (tC (.ty A)) tNil))) σ H (fun w _ => w = .bl b) := fun H1 e Q q =>
  ⟨v, hv, v, .ty A, t, _, b, rfl, .ty A, ty _ e, hk, q _ _ (Same.refl _) rfl⟩
theorem kit_lt {K : PySem.W.Frag} {A : String} (h : kitB A "list" = some false) (h2 : kitB A "tuple" = some false) : PySem.W.kitAny K (.type A) [.type "list", .type "tuple"] = some false :=
  kitAny_cons (kit_ty h) (fun _ => kitAny_cons (kit_ty h2) (fun _ => kitAny_nil) fun z => nomatch z) fun z => nomatch z
theorem kit_l {K : PySem.W.Frag} : PySem.W.kitAny K (.type "list") [.type "list", .type "tuple"] = some true :=
  kitAny_cons (b := true) (kit_ty (by decide +kernel)) (fun z => nomatch z) fun _ => rfl
theorem kit_t {K : PySem.W.Frag} : PySem.W.kitAny K (.type "tuple") [.type "list", .type "tuple"] = some true :=
  kitAny_cons (b := false) (kit_ty (by decide +kernel)) (fun _ => kitAny_cons (b := true) (kit_ty (by decide +kernel)) (fun z => nomatch z) fun _ => rfl) fun z => nomatch z
theorem isi_scal {K : PySem.W.Frag} {H : Hp} {v : V} {d : PyData} (h : Scal v d) : ∃ t, TyX K H v t ∧ PySem.W.kitAny K t [.type "list", .type "tuple"] = some false := by
  cases v with
  | non => exact ⟨_, .base .non, kit_lt (by decide +kernel) (by decide +kernel)⟩
  | bl b => exact ⟨_, .base (.bl b), kit_lt (by decide +kernel) (by decide +kernel)⟩
  | int i => exact ⟨_, .base (.int i), kit_lt (by decide +kernel) (by decide +kernel)⟩
  | str x => exact ⟨_, .base (.str x), kit_lt (by decide +kernel) (by decide +kernel)⟩
  | _ => cases h
theorem isi_seq {K : PySem.W.Frag} {H : Hp} {v : V} {xs : List V} (h : SeqV H v xs) : ∃ t, TyX K H v t ∧ PySem.W.kitAny K t [.type "list", .type "tuple"] = some true := by
  obtain ⟨a, rfl, h | h⟩ := h
  · exact ⟨_, .base (.tup h), kit_t⟩
  · exact ⟨_, .base (.lst h), kit_l⟩
theorem ev_isiN {K : PySem.W.Frag} {σ : L2.St} {H : Hp} {i : Nat} {v : V} {d : PyData} (hv : σ[i]? = some (some v)) (h : Scal v d) : Ev (tCB (rIsiT K) (tCons (tVar i) (tCons (tTup (tCons (tC (.ty "list")) (tCons (tC (.ty "tuple")) tNil))) tNil))) σ H (fun w _ => w = .bl false) := fun H1 e Q q => by
  obtain ⟨t, ty, hk⟩ := isi_scal (K := K) (H := H1) h
  have ty' : ∀ H2, Same H1 H2 → TyX K H2 v t := fun H2 e2 => by
    cases v with
    | non => cases ty with | base h => cases h; exact .base .non
    | bl b => cases ty with | base h => cases h; exact .base (.bl b)
    | int b => cases ty with | base h => cases h; exact .base (.int b)
    | str b => cases ty with | base h => cases h; exact .base (.str b)
    | _ => cases h
  exact ev_isi2 hv ty' hk H1 (Same.refl _) Q q
theorem ev_isiY {K : PySem.W.Frag} {σ : L2.St} {H : Hp} {i : Nat} {v : V} {xs : List V} (hv : σ[i]? = some (some v)) (h : SeqV H v xs) : Ev (tCB (rIsiT K) (tCons (tVar i) (tCons (tTup (tCons (tC (.ty "list")) (tCons (tC (.ty "tuple")) tNil))) tNil))) σ H (fun w _ => w = .bl true) := by
  obtain ⟨a, rfl, h | h⟩ := h
  · exact ev_isi2 hv (fun H1 e => .base (.tup (e _ _ h))) kit_t
  · exact ev_isi2 hv (fun H1 e => .base (.lst (e _ _ h))) kit_l
theorem scal_tt {H : Hp} {v : V} {d : PyData} (h : Scal v d) : Tt H v d := by
  cases v with
  | non => cases h; exact .non
  | bl b => cases h; exact .bl b
  | int b => cases h; exact .int b
  | str b => cases h; exact .str b
  | _ => cases h
theorem filter_yes {α : Type} (l : List α) : l.filter (fun _ => true) = l := List.filter_eq_self.mpr fun _ _ => rfl

section
variable {P : Program} {w : World} {K : PySem.W.Frag} {mg : Str → Option Value} {base : Heap}

/-! without(some, unit) -/
def spWithout : Sp := SpD (α := List Str × Str) (fun a vs H => ∃ v, vs = [v, .str a.2] ∧ Tt H v (strsD a.1) ∧ a.1.length ≤ 90000) (fun a v H => Tt H v (strsD (a.1.filter fun x => decide (x ≠ a.2))))
theorem k_without (T : Txt K mg) : Kn P w K mg base CX0 1 "without" spWithout := by
  refine T.d_without.kn c_without (fun vs H Q E h => ?_) (fun f cdv A outer s H vs Q E hr h => ?_)
  · obtain ⟨a, ⟨v, rfl, _⟩, _⟩ := h
    rfl
  · obtain ⟨⟨us, u⟩, ⟨v, rfl, hv, hz⟩, q⟩ := h
    refine ⟨_, pss_one (ps_ret (pe_callTy cr_tup (by rfl) T.b_tuple (by decide +kernel) (pa_cons (pe_lc (own := [("one", 2)]) (g := gName 2) (by rfl) c_without.nd (pi_tup (pv 0))
      (blkOk_by (N := ["some", "unit", "one"]) (sc := defScope s_without) (by decide +kernel)) (fun _ _ _ _ _ => pg_name (i := 2) c_without.nd rfl (Or.inl rfl)) (fun _ _ _ _ _ => pts_one (pt_cmpR op_ne (pv 2) (pv 1) (nomark _))) (fun _ _ _ _ _ => pv 2)) pa_nil))), ?_⟩
    refine s_ret (ev_tupL (ev_lc (src_strs (ev_vt rfl hv)) (fun x => decide (x ≠ u)) PyData.str (by show us.length ≤ _; have hz : us.length ≤ 90000 := hz; omega) fun x _ y H1 e hy C c => ?_)) fun v H1 e p => q v H1 e p
    subst hy
    exact c _ _ (Same.refl _) rfl (et_neStr (ev_var rfl) (ev_var rfl)) fun _ => (ev_var rfl).tstr

/-! tupled(value), to a depth -/
def spTupled (n : Nat) : Sp := SpD (α := PyData) (fun d vs H => ∃ v, vs = [v] ∧ Lt n H v d) (fun d v H => Tt H v d)
theorem k_tupled (T : Txt K mg) : ∀ n : Nat, Kn P w K mg base CX0 (n + 1) "tupled" (spTupled n)
  | 0 => by
    refine T.d_tupled.kn c_tupled (fun vs H Q E h => ?_) (fun f cdv A outer s H vs Q E hr h => ?_)
    · obtain ⟨a, ⟨v, rfl, _⟩, _⟩ := h
      rfl
    · obtain ⟨d, ⟨v, rfl, hv⟩, q⟩ := h
      refine ⟨_, pss_one (ps_ret (pe_ifExp (pt_val (pe_callB call_isiT (by rfl) T.b_isinstance (by decide +kernel) (pa_cons (pv 0) (pa_cons (pe_tup (pa_cons (pe_bltn (v := .ty "list") (by rfl) T.b_list (by decide +kernel) rfl) (pa_cons (pe_bltn (v := .ty "tuple") (by rfl) T.b_tuple (by decide +kernel) rfl) pa_nil))) pa_nil)))) pe_no (pv 0))), ?_⟩
      exact s_ret (ev_if (et_B (ev_isiN rfl hv)) (fun z => nomatch z) fun _ => ev_vt rfl (scal_tt hv)) q
  | n + 1 => by
    have ih := k_tupled T n
    refine T.d_tupled.kn c_tupled (fun vs H Q E h => ?_) (fun f cdv A outer s H vs Q E hr h => ?_)
    · obtain ⟨a, ⟨v, rfl, _⟩, _⟩ := h
      rfl
    · obtain ⟨d, ⟨v, rfl, hv⟩, q⟩ := h
      refine ⟨_, pss_one (ps_ret (pe_ifExp (pt_val (pe_callB call_isiT (by rfl) T.b_isinstance (by decide +kernel) (pa_cons (pv 0) (pa_cons (pe_tup (pa_cons (pe_bltn (v := .ty "list") (by rfl) T.b_list (by decide +kernel) rfl) (pa_cons (pe_bltn (v := .ty "tuple") (by rfl) T.b_tuple (by decide +kernel) rfl) pa_nil))) pa_nil))))
        (pe_callTy cr_tup (by rfl) T.b_tuple (by decide +kernel) (pa_cons (pe_lc (own := [("part", 1)]) (g := gName 1) (by rfl) c_tupled.nd (pi_seq 0 (pv 0)) (blkOk_by (N := ["value", "part"]) (sc := defScope s_tupled) (by decide +kernel)) (fun _ _ _ _ _ => pg_name (i := 1) c_tupled.nd rfl (Or.inl rfl)) (fun _ _ _ _ _ => pts_nil)
          (fun _ _ _ _ _ => pe_kn ih hr pass0 (pa_cons (pv 1) pa_nil))) pa_nil)) (pv 0))), ?_⟩
      rcases hv with hv | ⟨xs, ds, h1, rfl, h3, h4⟩
      · exact s_ret (ev_if (et_B (ev_isiN rfl hv)) (fun z => nomatch z) fun _ => ev_vt rfl (scal_tt hv)) q
      · refine s_ret (ev_if (P := IsT (.tuple ds)) (et_B (ev_isiY rfl h1)) (fun _ => ?_) fun z => nomatch z) q
        have key := ev_lc (te := tCall (spTupled n) [] E0 (tCons (tVar 1) tNil)) (tt := tYes) (g := gName 1) (vs := [1]) (src_seq (K := K) (i := 0) (R := fun H1 x d => Lt n H1 x d) (σ := start ["value", "part"] [v]) rfl h1 h4 fun H2 H3 x d e q => q.same e) (fun _ => true) (fun d => d) (by omega) fun d _ x H1 e hx C c =>
          c _ _ (Same.refl _) rfl et_yes fun _ => ev_kn (ea_one (ev_vp (P := fun v H => Lt n H v d) rfl (fun _ _ _ e q => q.same e) hx)) d (fun vs H2 _ ⟨v, h1, h2⟩ => ⟨v, h1, h2⟩) fun v H2 _ h => h
        rw [filter_yes, List.map_id'] at key
        exact ev_tupL key

/-! units(book) -/
def spUnits : Sp := SpD (α := SBk) (fun b vs H => ∃ v, vs = [v] ∧ BookV b v H ∧ b.length ≤ 1000) (fun b v H => Tt H v (strsD (unitsM b)))
theorem k_units (T : Txt K mg) : Kn P w K mg base CX0 1 "units" spUnits := by
  refine T.d_units.kn c_units (fun vs H Q E h => ?_) (fun f cdv A outer s H vs Q E hr h => ?_)
  · obtain ⟨a, ⟨v, rfl, _⟩, _⟩ := h
    rfl
  · obtain ⟨b, ⟨v, rfl, hv, hz⟩, q⟩ := h
    refine ⟨_, pss_one (ps_ret (pe_callTy cr_tup (by rfl) T.b_tuple (by decide +kernel) (pa_cons (pe_lc (own := [("unit", 1), ("needs", 2)]) (g := gPr K 1 2) (by rfl) c_units.nd (pi_seq 0 (pv 0))
      (blkOk_by (N := ["book", "unit", "needs"]) (sc := defScope s_units) (by decide +kernel)) (fun _ _ _ _ _ => pg_or (pg_tup rfl (pgs_cons (pg_name (i := 1) c_units.nd rfl (Or.inl rfl)) (pgs_cons (pg_name (i := 2) c_units.nd rfl (Or.inl rfl)) pgs_nil)))
        (pg_unl rfl (pgs_cons (pg_name (i := 1) c_units.nd rfl (Or.inl rfl)) (pgs_cons (pg_name (i := 2) c_units.nd rfl (Or.inl rfl)) pgs_nil)))) (fun _ _ _ _ _ => pts_nil) (fun _ _ _ _ _ => pv 1)) pa_nil))), ?_⟩
    have key := ev_lc (te := tVar 1) (tt := tYes) (g := gPr K 1 2) (vs := [1, 2]) (src_book (K := K) (i := 0) (σ := start ["book", "unit", "needs"] [v]) rfl hv) (fun _ => true) (fun p => .str p.1) (by omega) fun p _ x H1 e hx C c => by
      obtain ⟨z, hz, _⟩ := hx
      exact pr_go hz (c _ _ (Same.refl _) rfl et_yes fun _ => (ev_var rfl).tstr)
    rw [filter_yes, show b.map (fun p => PyData.str p.1) = (unitsM b).map PyData.str from by unfold unitsM; rw [List.map_map]; rfl] at key
    exact s_ret (ev_tupL key) q

/-! table_of(book) -/
def spTable : Sp := SpD (α := SBk) (fun b vs H => ∃ v, vs = [v] ∧ BookV b v H ∧ b.length ≤ 1000 ∧ (unitsM b).Nodup) (fun b v H => ∃ a kvs, v = .ref a ∧ H a = some (.dK kvs) ∧ TabAt b kvs H)
theorem k_table_of (T : Txt K mg) : Kn P w K mg base CX0 4 "table_of" spTable := by
  have G := k_tupled (P := P) (w := w) (base := base) T 2
  refine T.d_table_of.kn c_table_of (fun vs H Q E h => ?_) (fun f cdv A outer s H vs Q E hr h => ?_)
  · obtain ⟨a, ⟨v, rfl, _⟩, _⟩ := h
    rfl
  · obtain ⟨b, ⟨v, rfl, hv, hz, nd⟩, q⟩ := h
    refine ⟨_, pss_one (ps_ret (pe_dc (own := [("unit", 1), ("needs", 2)]) (g := gPr K 1 2) (by rfl) c_table_of.nd (pi_seq 0 (pv 0))
      (blkOk_by (N := ["book", "unit", "needs"]) (sc := defScope s_table_of) (by decide +kernel)) (fun _ _ _ _ _ => pg_or (pg_tup rfl (pgs_cons (pg_name (i := 1) c_table_of.nd rfl (Or.inl rfl)) (pgs_cons (pg_name (i := 2) c_table_of.nd rfl (Or.inl rfl)) pgs_nil)))
        (pg_unl rfl (pgs_cons (pg_name (i := 1) c_table_of.nd rfl (Or.inl rfl)) (pgs_cons (pg_name (i := 2) c_table_of.nd rfl (Or.inl rfl)) pgs_nil)))) (fun _ _ _ _ _ => pts_nil) (fun _ _ _ _ _ => pv 1)
        (fun _ _ _ _ _ => pe_kn G hr pass0 (pa_cons (pv 2) pa_nil)))), ?_⟩
    refine s_ret (ev_dc (K := K) (src_book (K := K) (i := 0) rfl hv) (fun p => p.1) (fun p => needsD p.2) (by omega) nd fun p _ x H1 e hx C c => ?_) fun v H1 e ⟨a, kvs, h1, h2, h3⟩ => q v H1 e ⟨a, kvs, h1, h2, h3⟩
    obtain ⟨z, hz, hn⟩ := hx
    refine pr_go hz (c _ _ (Same.refl _) rfl (ev_var rfl) ?_)
    exact ev_kn (ea_one (ev_vp (P := fun v H => Lt 2 H v (needsD p.2)) rfl (fun _ _ _ e q => q.same e) hn)) (needsD p.2) (fun vs H2 _ ⟨v, h1, h2⟩ => ⟨v, h1, h2⟩) fun v H2 _ h => h

/-! lets(table, up, unit) -/
def spLets : Sp := SpD (α := SBk × List Str × Str) (fun a vs H => ∃ t v, vs = [t, v, .str a.2.2] ∧ IsTab a.1 t H ∧ Tt H v (strsD a.2.1) ∧ a.2.2 ∈ unitsM a.1 ∧ Fair a.1) (fun a v H => v = .bl (letsM a.1 a.2.1 a.2.2))
theorem needsM_in {b : SBk} (f : Fair b) (u : Str) : (needsM b u).length ≤ 1000 ∧ ∀ n ∈ needsM b u, n.length ≤ 1000 := by
  have h := f.each
  clear f
  induction b with
  | nil => exact ⟨Nat.zero_le _, fun n hn => by cases hn⟩
  | cons p r ih =>
    obtain ⟨x, ns⟩ := p
    unfold needsM
    by_cases e : x = u
    · rw [if_pos e]; exact h (x, ns) List.mem_cons_self
    · rw [if_neg e]; exact ih fun p hp => h p (List.mem_cons_of_mem _ hp)
theorem k_lets (T : Txt K mg) : Kn P w K mg base CX0 1 "lets" spLets := by
  refine T.d_lets.kn c_lets (fun vs H Q E h => ?_) (fun f cdv A outer s H vs Q E hr h => ?_)
  · obtain ⟨a, ⟨t, v, rfl, _⟩, _⟩ := h
    rfl
  · obtain ⟨⟨b, up, u⟩, ⟨t, v, rfl, ht, hv, hu, hf⟩, q⟩ := h
    simp only at ht hv hu hf q
    have hun := hu_of hr
    refine ⟨_, pss_one (ps_ret (pe_and (pe_cmpR op_notIn_seq (pv 2) (pv 1) (by rfl)) (pe_one (pe_callB (cr_any (by rfl)) (by rfl) T.b_any (by decide +kernel) (pa_cons (pe_lc (own := [("need", 4)]) (g := gName 4) (by rfl) c_lets.nd (pi_tup (pe_dget hun (pv 0) (pv 2) (fun _ _ => rfl)))
      (blkOk_by (N := ["table", "up", "unit", "one", "need"]) (sc := defScope s_lets) (by decide +kernel)) (fun _ _ _ _ _ => pg_name (i := 4) c_lets.nd rfl (Or.inl rfl)) (fun _ _ _ _ _ => pts_nil)
      (fun _ _ _ _ _ => pe_callB (cr_allK (K := K) (by rfl) (by rfl)) (by rfl) T.b_all (by decide +kernel) (pa_cons (pe_lc (own := [("one", 3)]) (g := gName 3) (by rfl) c_lets.nd (pi_tupK (K := K) (by rfl) (pv 4))
        (blkOk_by (N := ["table", "up", "unit", "one", "need"]) (sc := relS _ (defScope s_lets)) (by decide +kernel)) (fun _ _ _ _ _ => pg_name (i := 3) c_lets.nd rfl (Or.inl rfl)) (fun _ _ _ _ _ => pts_nil) (fun _ _ _ _ _ => pe_cmpR (op_inK (K := K) (by rfl)) (pv 3) (pv 1) (by rfl))) pa_nil))) pa_nil))))), ?_⟩
    have hn := needsM_in hf u
    have inner : ∀ (n : List Str) (x : V) (H1 : Hp), n.length ≤ 1000 → Same H H1 → Tt H1 x (strsD n) → ∀ (σ2 : L2.St), σ2[4]? = some (some x) → σ2[1]? = some (some v) → σ2.length = 5 →
        Ev (tCB (rAll K) (tCons (tLc (iTup K (tVar 4)) (gName 3) tYes (tOp (rIn K false) (tVar 3) (tVar 1)) [3]) tNil)) σ2 H1 (IsT (.bool (n.all fun o => decide (o ∈ up)))) := fun n x H1 hl e hx σ2 s4 s1 s5 => by
      have key := ev_lc (te := tOp (rIn K false) (tVar 3) (tVar 1)) (tt := tYes) (g := gName 3) (vs := [3]) (src_strs (K := K) (ev_vt s4 hx)) (fun _ => true) (fun o => .bool (decide (o ∈ up))) (by omega) fun o _ y H2 e2 hy C c => by
        subst hy
        have l3 : (σ2.set 3 none)[3]? = some none := List.getElem?_set_self (by omega)
        refine c ((σ2.set 3 none).set 3 (some (.str o))) _ (Same.refl _) ?_ et_yes fun _ => (ev_in (us := up) (ev_var ?_) (ev_vt (v := v) ?_ (hv.same (e.trans e2))).seqT).tbl
        · show ((σ2.set 3 none).set 3 (some (.str o))).set 3 none = σ2.set 3 none
          rw [List.set_set, List.set_set]
        · exact List.getElem?_set_self (by rw [List.length_set]; omega)
        · rw [List.getElem?_set_ne (by decide), List.getElem?_set_ne (by decide)]; exact s1
      rw [filter_yes, show n.map (fun o => PyData.bool (decide (o ∈ up))) = (n.map fun o => decide (o ∈ up)).map PyData.bool from by rw [List.map_map]; rfl] at key
      have k2 := (ev_all (K := K) key).tbl
      rw [List.all_map] at k2
      exact k2
    have outer : Ev (tCB (rAny K) (tCons (tLc (iTup K (tDGet (tVar 0) (tVar 2))) (gName 4) tYes (tCB (rAll K) (tCons (tLc (iTup K (tVar 4)) (gName 3) tYes (tOp (rIn K false) (tVar 3) (tVar 1)) [3]) tNil)) [4]) tNil)) (start ["table", "up", "unit", "one", "need"] [t, v, .str u]) H
        (fun w _ => w = .bl ((needsM b u).any fun n => n.all fun o => decide (o ∈ up))) := by
      have key := ev_lc (te := tCB (rAll K) (tCons (tLc (iTup K (tVar 4)) (gName 3) tYes (tOp (rIn K false) (tVar 3) (tVar 1)) [3]) tNil)) (tt := tYes) (g := gName 4) (vs := [4])
        (src_map strsD (src_tup (K := K) (σ := start ["table", "up", "unit", "one", "need"] [t, v, .str u]) (ev_tab (b := b) (u := u) (ev_vp (i := 0) (v := t) rfl (mono_tab b) ht) (ev_var (i := 2) rfl) hu))) (fun _ => true) (fun n => .bool (n.all fun o => decide (o ∈ up))) (by omega) fun n hnm x H1 e hx C c =>
          c _ _ (Same.refl _) rfl et_yes fun _ => inner n x H1 (hn.2 n hnm) e hx _ rfl rfl rfl
      rw [filter_yes, show (needsM b u).map (fun n => PyData.bool (n.all fun o => decide (o ∈ up))) = ((needsM b u).map fun n => n.all fun o => decide (o ∈ up)).map PyData.bool from by rw [List.map_map]; rfl] at key
      have k2 := ev_any (K := K) key
      rw [List.any_map] at k2
      exact k2
    exact s_ret (ev_andV (ev_nin (us := up) (ev_var rfl) (ev_vt (v := v) rfl hv).seqT) fun _ => outer) q
end
end Up
end
section
set_option Elab.async false
set_option linter.all false
set_option maxRecDepth 100000
set_option maxHeartbeats 4000000
/-! sorted(x) of whatever can be collected, items that read as alike data; tuples among them may be empty. -/
namespace PySem.SeqAt
open MeetsSeq MeetsSeq2 MeetsSeq3 SeqRoads2
section
variable {A : Around} {s : Shared}
theorem up_call_tuple_lt {prog : Program} {w : World} {E : Value → Shared → Prop} {Q : Value → Shared → Prop} {l b : Addr} {items items2 : Array Value} {e r : Nat → Bool} (hl : s.heap.IsTuple l items) (hb : s.heap.IsTuple b items2)
    (he : ∀ j (h1 : j < items.size) (h2 : j < items2.size), EqAt A.in1 s items[j] items2[j] (e j)) (hr : ∀ j (h1 : j < items.size) (h2 : j < items2.size), e j = false → RcLt A.in1 s items[j] items2[j] (r j))
    (h : Q (.bool (firstLt e r (decide (items.size < items2.size)) (List.range (min items.size items2.size)))) s) : wpAny (model prog w) A (call (.builtin "tuple.__lt__") [.ref l, .ref b]) Q E s := by
  obtain ⟨⟨cls, dd, data, sl⟩, ho, hc, n, hd⟩ := id hl
  obtain ⟨⟨cls2, dd2, data2, sl2⟩, ho2, hc2, n2, hd2⟩ := id hb
  simp only at hc hd hc2 hd2
  subst hc hd hc2 hd2
  exact call_meets F.slot_tuple_lt ⟨_, ho, rfl⟩ F.entry_tuple_lt (F.args_tuple_lt_2 _ _) (tuple_ltAt l b items items2 n n2 dd dd2 sl sl2 e r) ⟨ho, ho2, he, hr, h⟩
end
end PySem.SeqAt
namespace PySem.W
open PySem PySem.SeqAt PySem.Calls PyProof.Rows
section
variable {prog : Program} {w : World} {A : Around} {E : Value → Shared → Prop} {s : Shared}
theorem up_oneLt_tup {xs ys : List PyData} {a b : Value} {as bs : List Addr} {Q : Bool → Shared → Prop} (ra : Reads s.heap a (.tuple xs) as) (rb : Reads s.heap b (.tuple ys) bs) (h : alike (.tuple xs) (.tuple ys) = true)
    (hu : A.units + min (PyData.tuple xs).depth (PyData.tuple ys).depth < cLine) (hq : Q (dataLt (.tuple xs) (.tuple ys)) s) : wpAny (model prog w) A (oneLt' true a b) Q E s := by
  have hal : alikeAll xs ys = true := by simpa [alike] using h
  cases ra with
  | @tuple l o vs n _ as₁ h1 h2 h3 h4 =>
    cases rb with
    | @tuple l' o' vs' n' _ bs₁ k1 k2 k3 k4 =>
      have n1 : vs.size = xs.length := by simpa using ReadsAll.length _ _ _ h4
      have n2 : vs'.size = ys.length := by simpa using ReadsAll.length _ _ _ k4
      rw [dataLt_tuple, ← firstLt_toks xs ys hal, ← n1, ← n2] at hq
      rw [oneLt'_eq]
      simp only [if_true]
      refine wpAny_bind (wpAny_cRoomFor (room_here hu) ?_)
      refine wpAny_bind (wpAny_callSpecialIfBound?_slot (T := "tuple") ⟨_, h1, h2⟩ F.slot_tuple_lt (up_call_tuple_lt (e := pairEq xs ys) (r := fun j => dataLt (xs.getD j .none) (ys.getD j .none)) ⟨_, h1, h2, _, h3⟩ ⟨_, k1, k2, _, k3⟩ (fun j j1 j2 => ?_) (fun j j1 j2 hj => ?_) ?_))
      · have := eqAt_alikeAll xs ys A.in1 s vs.toList vs'.toList _ _ h4 k4 hal (room_in hu) j (by simpa using j1) (by simpa using j2)
        simpa using this
      · have := rcLt_alikeAll xs ys A.in1 s vs.toList vs'.toList _ _ h4 k4 hal (room_in hu) j (by simpa using j1) (by simpa using j2) hj
        simpa using this
      · exact wpAny_truthy_bool hq
/-- the first items asked, tuples that may be empty among them -/
def upFull : PyData → Bool
  | .tuple (_ :: _) => true
  | _ => false
theorem up_firsts {M : Model} : ∀ {vs : List Value} {ds : List PyData} {Q : List (Option Value) → Shared → Prop}, EachIs (fun v d => ∃ as, Reads s.heap v d as) vs ds → (∀ d ∈ ds, ∃ xs, d = .tuple xs) →
    (∀ fs : List (Option Value), fs.map (·.isSome) = ds.map upFull → Q fs s) → wpAny M A (vs.mapM firstOfTuple') Q E s
  | _, _, _, .nil, _, h => by rw [List.mapM_nil]; exact wpAny_pure (h [] rfl)
  | v :: vs, d :: ds, Q, .cons ⟨as, r⟩ t, ht, h => by
    obtain ⟨xs, rfl⟩ := ht d List.mem_cons_self
    rw [List.mapM_cons]
    refine wpAny_bind ?_
    rw [kas_first_eq]
    cases r with
    | @tuple a o its n _ _ ho hc hd hr =>
      refine wpAny_bind (Looks.here (show Looks M s.heap (typeOf (.ref a)) o.cls from (Looks.ld ho).andThen .now) ?_)
      rw [hc, if_neg (by first | decide | simp)]
      refine wpAny_bind (listItems_at ho hd (wpAny_pure ?_))
      refine wpAny_bind (up_firsts (Q := fun bs s' => wpAny M A (pure (its[0]? :: bs)) Q E s') t (fun d hd => ht d (List.mem_cons_of_mem _ hd)) fun fs e => wpAny_pure (h _ ?_))
      rw [List.map_cons, List.map_cons, e]
      congr 1
      have hl : its.toList.length = xs.length := ReadsAll.length _ _ _ hr
      cases xs with
      | nil =>
        have : its[0]? = none := by rw [← Array.getElem?_toList, List.getElem?_eq_none (by rw [hl]; exact Nat.le_refl 0)]
        rw [this]; rfl
      | cons x xs =>
        have h0 : 0 < its.toList.length := by rw [hl]; exact Nat.succ_pos _
        have : its[0]? = some (its.toList[0]) := by rw [← Array.getElem?_toList, List.getElem?_eq_getElem h0]
        rw [this]; rfl
/-- tuples alike, empty ones too -/
theorem SortsAt.up_tups {vs : List Value} {ds : List PyData} (e : EachIs (fun v d => ∃ as, Reads s.heap v d as) vs ds) (hal : AllAlike ds) (ht : ∀ d ∈ ds, ∃ xs, d = .tuple xs) (hu : ∀ d, d ∈ ds → A.units + d.depth < cLine) : SortsAt prog w A s (dataKind s.heap ds) vs := by
  by_cases hf : ∀ d ∈ ds, ∃ x r, d = .tuple (x :: r)
  · exact SortsAt.data e hal (.inl hf) hu
  have room : ∀ {d d' : PyData}, d ∈ ds → A.units + min d.depth d'.depth < cLine := fun {d d'} hd => Nat.lt_of_le_of_lt (Nat.add_le_add_left (Nat.min_le_left _ _) _) (hu d hd)
  refine ⟨fun v hv => ?_, ?_⟩
  · obtain ⟨d, hd, as, r⟩ := e.left v hv
    exact ⟨_, dataKind_some hal hd r⟩
  have hnot : (ds.map upFull).all id = false := by
    cases q : (ds.map upFull).all id with
    | false => rfl
    | true =>
      exfalso
      refine hf fun d hd => ?_
      obtain ⟨xs, rfl⟩ := ht d hd
      rw [List.all_eq_true] at q
      have := q _ (List.mem_map.mpr ⟨_, hd, rfl⟩)
      cases xs with
      | nil => cases this
      | cons x r => exact ⟨x, r, rfl⟩
  cases ds with
  | nil => exact absurd (fun d hd => by cases hd) hf
  | cons d₀ ds₀ =>
    cases e with
    | @cons v₀ _ vs₀ _ e₀ er =>
    have efull : EachIs (fun v d => ∃ as, Reads s.heap v d as) (v₀ :: vs₀) (d₀ :: ds₀) := .cons e₀ er
    cases hd0 : upFull d₀ with
    | true =>
      refine ⟨general', fun E x y a b Q ha hb hq => ?_, fun h2 E Q hq => ?_⟩
      · obtain ⟨d, as, hd, ra, rfl⟩ := dataKind_inv ha
        obtain ⟨d', as', hd', rb, rfl⟩ := dataKind_inv hb
        obtain ⟨xs, rfl⟩ := ht d hd
        exact oneLt_alike (f := false) (fun z => nomatch z) ra rb (hal _ hd _ hd') (fun z => nomatch z) (room hd) hq
      · rw [keyKind'_eq, List.mapM_toArray, map_eq_pure_bind]
        refine wpAny_bind (wpAny_bind (up_firsts efull ht fun fs ef => wpAny_pure ?_))
        have h1 : (fs.toArray.all fun x => x.isSome) = false := by
          rw [List.all_toArray]
          have : fs.all (fun x => x.isSome) = (fs.map (·.isSome)).all id := by rw [List.all_map]; rfl
          rw [this, ef]; exact hnot
        rw [h1, if_neg (by decide)]
        have h3 : (fs.toArray[0]?.bind id).isSome = true := by
          cases fs with
          | nil => cases ef
          | cons f fs =>
            have : f.isSome = true := by
              have := (List.cons.inj (show f.isSome :: _ = upFull d₀ :: _ from ef)).1
              rw [this]; exact hd0
            simpa using this
        rw [h3, if_pos rfl]
        exact wpAny_pure hq
    | false =>
      refine ⟨oneType', fun E x y a b Q ha hb hq => ?_, fun h2 E Q hq => ?_⟩
      · obtain ⟨d, as, hd, ra, rfl⟩ := dataKind_inv ha
        obtain ⟨d', as', hd', rb, rfl⟩ := dataKind_inv hb
        obtain ⟨xs, rfl⟩ := ht d hd
        obtain ⟨ys, rfl⟩ := ht d' hd'
        rw [keyLt'_oneType]
        exact up_oneLt_tup ra rb (hal _ hd _ hd') (room hd) hq
      · rw [keyKind'_eq, List.mapM_toArray, map_eq_pure_bind]
        refine wpAny_bind (wpAny_bind (up_firsts efull ht fun fs ef => wpAny_pure ?_))
        have h1 : (fs.toArray.all fun x => x.isSome) = false := by
          rw [List.all_toArray]
          have : fs.all (fun x => x.isSome) = (fs.map (·.isSome)).all id := by rw [List.all_map]; rfl
          rw [this, ef]; exact hnot
        rw [h1, if_neg (by decide)]
        have h3 : (fs.toArray[0]?.bind id).isSome = false := by
          cases fs with
          | nil => rfl
          | cons f fs =>
            have : f.isSome = false := by
              have := (List.cons.inj (show f.isSome :: _ = upFull d₀ :: _ from ef)).1
              rw [this]; exact hd0
            simpa using this
        rw [h3, if_neg (by decide)]
        rw [oneTypeOnly'_eq, List.mapM_toArray, map_eq_pure_bind]
        refine wpAny_bind (wpAny_bind (wpAny_bind (kas_mapM (r := Value.type "tuple") _ (fun v hv Q' hq => ?_) (wpAny_pure ?_))))
        · obtain ⟨d, hd, as, r⟩ := efull.left v hv
          obtain ⟨xs, rfl⟩ := ht d hd
          exact (looks_reads r).here hq
        · have hall : ((List.map (fun _ => Value.type "tuple") (v₀ :: vs₀)).toArray.all fun x => x == Value.type "tuple") = true := by
            simp only [List.all_toArray, List.all_map, List.all_eq_true]
            intro _ _
            rfl
          have h0 : (List.map (fun _ => Value.type "tuple") (v₀ :: vs₀)).toArray[0]? = some (Value.type "tuple") := by simp
          rw [h0]
          simp only [hall, if_true]
          exact wpAny_pure (wpAny_pure hq)
/-- what can be sorted: all tuples, or none -/
def UpOk (ds : List PyData) : Prop := (∀ d ∈ ds, ∃ xs, d = .tuple xs) ∨ ∀ d, d ∈ ds → d ≠ .none ∧ ∀ xs, d ≠ .tuple xs
theorem SortsAt.up {vs : List Value} {ds : List PyData} (e : EachIs (fun v d => ∃ as, Reads s.heap v d as) vs ds) (hal : AllAlike ds) (ht : UpOk ds) (hu : ∀ d, d ∈ ds → A.units + d.depth < cLine) : SortsAt prog w A s (dataKind s.heap ds) vs :=
  ht.elim (fun h => SortsAt.up_tups e hal h hu) fun h => SortsAt.data e hal (.inr h) hu
/-- sorted(x), x collected -/
theorem up_sorted {β : Type} {x : Value} {enc : β → PyData} {R : Value → β → Prop} {Q : Value → Shared → Prop}
    (hc : ∀ E' : Value → Shared → Prop, wpAny (model prog w) A.in1 (collect x) (fun vs s1 => ∃ bs : List β, EachIs (fun v b => (∃ as, Reads s1.heap v (enc b) as) ∧ R v b) vs bs ∧ AllAlike (bs.map enc) ∧ UpOk (bs.map enc) ∧ bs.length ≤ sizeLine ∧ (∀ b, b ∈ bs → A.units + 2 + (enc b).depth < cLine) ∧
      ∀ h2 p out c, (∀ b o, s1.heap.get? b = some o → h2.get? b = some o) → s1.heap.objs.size ≤ p → h2.get? p = some (seqObj "list" (List.toArray out) c) → EachIs R out (bs.mergeSort (dataLe false enc)) → Q (.ref p) { s1 with heap := h2 }) E' s) :
    wpAny (model prog w) A (call (.builtin "sorted") [x]) Q E s := by
  refine Calls.call_function_entry kind_sorted plain_sorted entry_sorted (args_sorted1 _) ?_
  unfold Builtin.«sorted»
  refine wpAny_bind (m := checkCount "sorted" 1 1 _) (wpAny_pure ?_)
  refine wpAny_bind (wpAny_mono (hc _) ?_ fun _ _ x => x)
  rintro vs s1 ⟨bs, e, hal, hok, hL, hu, k⟩
  have hL' : vs.length ≤ sizeLine := by rw [e.length]; exact hL
  refine wpAny_bind (wpAny_newList ?_ hL')
  have hoL : (s1.heap.push (seqObj "list" vs.toArray 0)).get? s1.heap.objs.size = some (seqObj "list" vs.toArray 0) := Heap.get?_push_size _ rfl
  have er' : EachIs (fun v b => ∃ as, Reads (sortingHeap (s1.heap.push (seqObj "list" vs.toArray 0)) s1.heap.objs.size vs) v (enc b) as) vs bs := e.mono fun _ _ ⟨⟨as, r⟩, _⟩ => ⟨as, PyProof.Rows.Reads.keeps (fun b o q => sortingHeap_old (Nat.ne_of_lt (Heap.lt_size q)) (Heap.get?_push_of_some _ q)) r⟩
  refine wpAny_bind (wpAny_holding (wpAny_call_entry slot_list_sort ⟨_, hoL, rfl⟩ entry_list_sort (list_sort_vals (s := { s1 with heap := s1.heap.push (seqObj "list" vs.toArray 0) }) (κ := dataKind (sortingHeap (s1.heap.push (seqObj "list" vs.toArray 0)) s1.heap.objs.size vs) (bs.map enc)) hoL
    (SortsAt.up (s := { s1 with heap := sortingHeap (s1.heap.push (seqObj "list" vs.toArray 0)) s1.heap.objs.size vs }) (each_map (R := fun v d => ∃ as, Reads (sortingHeap (s1.heap.push (seqObj "list" vs.toArray 0)) s1.heap.objs.size vs) v d as) enc er') hal hok (bound_map hu)) hL' ⟨_, rfl, ?_⟩) (args_list_sort _)))
  obtain ⟨c, hc⟩ := sortedHeap_at (vs := vs) (out := (sortVals (dataKind (sortingHeap (s1.heap.push (seqObj "list" vs.toArray 0)) s1.heap.objs.size vs) (bs.map enc)) false vs vs).toArray) hoL
  refine wpAny_pure ⟨_, rfl, k _ s1.heap.objs.size _ c (fun b o q => ?_) (Nat.le_refl _) hc (sortVals_data false (e.mono fun _ _ q => q.2) er' hal)⟩
  have hlt := Heap.lt_size q
  show (sortedHeap (s1.heap.push (seqObj "list" vs.toArray 0)) s1.heap.objs.size vs _).get? b = some o
  rw [sortedHeap_old (Nat.ne_of_lt hlt) (by rw [size_push']; exact Nat.lt_succ_of_lt hlt)]
  exact Heap.get?_push_of_some _ q
end
end PySem.W
end
section
set_option Elab.async false
set_option linter.all false
set_option maxRecDepth 100000
set_option maxHeartbeats 4000000
/-! set(x) of a list or a tuple of anything that can be put into sets; sorted(set(x)). -/
namespace Up
open PySem PySem.Spec PyProof.Rows L2

/-- things that go into sets; how a set of them stands in the heap -/
structure SetK (P : Program) (w : World) (δ : Type) where
  Is : Heap → Value → δ → Prop
  St : Heap → Addr → List (Value × δ) → Prop
  isKeep : ∀ {h h' : Heap} {v : Value} {d : δ}, Is h v d → (∀ b o, h.get? b = some o → h'.get? b = some o) → Is h' v d
  stKeep : ∀ {h h' : Heap} {a : Addr} {L : List (Value × δ)}, St h a L → (∀ o, h.get? a = some o → h'.get? a = some o) → (∀ p ∈ L, Is h' p.1 p.2) → St h' a L
  fresh : ∀ {h : Heap} {a : Addr}, h.get? a = some { cls := .type "set", dict := none, data := .set #[] 0 (.fresh 0 0 (!w.params.followText "set-order")) } → St h a []
  nd : ∀ {h : Heap} {a : Addr} {L : List (Value × δ)}, St h a L → (L.map (·.2)).Nodup
  add : ∀ {A : Around} {E : Value → Shared → Prop} {s : Shared} {a : Addr} {L : List (Value × δ)} {v : Value} {d : δ} {Q : Bool → Shared → Prop}, A.units < cLine → St s.heap a L → Is s.heap v d → L.length + 1 < 64 →
    (∀ b h' tk L', Heap.SameBut a s.heap h' → St h' a L' → (d ∈ L.map (·.2) → L' = L) → (d ∉ L.map (·.2) → L'.Perm ((v, d) :: L)) → Q b { s with heap := h', toks := tk }) → wpAny (model P w) A (setAdd a v) Q E s
  walk : ∀ {h : Heap} {a : Addr} {L : List (Value × δ)}, St h a L → ∃ es ep t, SetAt h a es ep t ∧ t.fits es.size = true ∧ Ris t.place.toList ∧ (w.params.followText "set-order" = true ∨ t.led = true) ∧ es.toList.map (·.2) = L.map (·.1)
/-- what the set has of the first i -/
structure Has {δ : Type} (ks : List (Value × δ)) (i : Nat) (L : List (Value × δ)) : Prop where
  sub : ∀ p ∈ L, p ∈ ks.take i
  all : ∀ p ∈ ks.take i, p.2 ∈ L.map (·.2)
  len : L.length ≤ i
theorem Has.zero {δ : Type} (ks : List (Value × δ)) : Has ks 0 [] := ⟨fun p hp => (by cases hp), fun p hp => (by rw [List.take_zero] at hp; cases hp), Nat.le_refl 0⟩
theorem Has.next {δ : Type} {ks L L' : List (Value × δ)} {i : Nat} {v : Value} {d : δ} (g : Has ks i L) (h : ks[i]? = some (v, d)) (c1 : d ∈ L.map (·.2) → L' = L) (c2 : d ∉ L.map (·.2) → L'.Perm ((v, d) :: L)) : Has ks (i + 1) L' := by
  by_cases hm : d ∈ L.map (·.2)
  · rw [c1 hm]
    refine ⟨fun p hp => ?_, fun p hp => ?_, Nat.le_succ_of_le g.len⟩
    · rw [take_more h]; exact List.mem_append_left _ (g.sub p hp)
    · rw [take_more h] at hp
      rcases List.mem_append.mp hp with q | q
      · exact g.all p q
      · rw [List.mem_singleton.mp q]; exact hm
  · have pm := c2 hm
    refine ⟨fun p hp => ?_, fun p hp => ?_, ?_⟩
    · rw [take_more h]
      rcases List.mem_cons.mp (pm.mem_iff.mp hp) with q | q
      · rw [q]; exact List.mem_append_right _ (List.mem_singleton.mpr rfl)
      · exact List.mem_append_left _ (g.sub p q)
    · rw [(pm.map (·.2)).mem_iff, List.map_cons]
      rw [take_more h] at hp
      rcases List.mem_append.mp hp with q | q
      · exact List.mem_cons_of_mem _ (g.all p q)
      · rw [List.mem_singleton.mp q]; exact List.mem_cons_self
    · rw [pm.length_eq, List.length_cons]; exact Nat.succ_le_succ g.len
section
variable {P : Program} {w : World} {A : Around} {E : Value → Shared → Prop} {s : Shared} {δ : Type}
theorem up_loop (D : SetK P w δ) {I S : Addr} {fp : List Addr} {n : Nat} {Pv : Nat → Value → Prop} {St : Nat → Heap → Prop} {R : Result → Shared → Prop} (W : Walks P w A.in1 I fp [I] n Pv St) (hSf : S ∉ fp) (ks : List (Value × δ)) (hn : n = ks.length) (hfew : ks.length < 64)
    (hval : ∀ i v, Pv i v → ∃ p, ks[i]? = some p ∧ v = p.1) (hu : A.in1.units < cLine) (h0 : Heap) (hk : ∀ p ∈ ks, D.Is h0 p.1 p.2) (hS0 : h0.get? S = none) (hI0 : h0.get? I = none) :
    ∀ (k i : Nat) (s : Shared), n - i = k → i ≤ n → St i s.heap → (∀ b o, h0.get? b = some o → s.heap.get? b = some o) → (∃ L, D.St s.heap S L ∧ Has ks i L) →
      (∀ h' tk L, (∀ b o, h0.get? b = some o → h'.get? b = some o) → D.St h' S L → Has ks n L → R (.ok (.ret .none)) { s with heap := h', toks := tk }) → codeAny (model P w) A (.builtin "set.update.loop" ⟨[.ref S, .ref I], []⟩) R s := by
  have hSI : S ≠ I := fun e => hSf (W.sub S (by rw [e]; exact List.mem_singleton.mpr rfl))
  have keep : ∀ {h h' : Heap}, (∀ b o, b ∉ [I] → h.get? b = some o → h'.get? b = some o) → (∀ b o, h0.get? b = some o → h.get? b = some o) → ∀ b o, h0.get? b = some o → h'.get? b = some o := fun hm hk b o e =>
    hm b o (fun z => by rw [List.mem_singleton.mp z, hI0] at e; cases e) (hk b o e)
  intro k
  induction k with
  | zero =>
    intro i s hk' hi hst hkp ⟨L, hS, g⟩ hR
    have hin : i = n := by omega
    subst hin
    refine codeAny_builtin PyProof.Rows.F.entry_set_update_loop ?_
    rw [Around.under_plainId PyProof.Rows.F.plain_set_update_loop _]
    show wpAny _ A.in1 (pyNext (.ref I) >>= _) _ _ s
    refine wpAny_bind (W.done s _ _ hst fun h' tk hm => ?_)
    show wpAny _ A.in1 (ret Value.none) _ _ _
    have kp := keep hm hkp
    exact wpAny_pure (hR h' tk L kp (D.stKeep hS (fun o e => hm S o (fun z => hSI (List.mem_singleton.mp z)) e) fun p hp => D.isKeep (hk p (List.mem_of_mem_take (g.sub p hp))) kp) g)
  | succ k ih =>
    intro i s hk' hi hst hkp ⟨L, hS, g⟩ hR
    have hlt : i < n := by omega
    refine codeAny_builtin PyProof.Rows.F.entry_set_update_loop ?_
    rw [Around.under_plainId PyProof.Rows.F.plain_set_update_loop _]
    show wpAny _ A.in1 (pyNext (.ref I) >>= _) _ _ s
    refine wpAny_bind (W.item i s _ _ hlt hst fun v h1 tk1 hP hst1 hm => ?_)
    obtain ⟨⟨v', d⟩, hp, ev⟩ := hval i v hP
    have ev : v = v' := ev
    subst ev
    have kp := keep hm hkp
    have hS1 : D.St h1 S L := D.stKeep hS (fun o e => hm S o (fun z => hSI (List.mem_singleton.mp z)) e) fun p hp => D.isKeep (hk p (List.mem_of_mem_take (g.sub p hp))) kp
    show wpAny _ A.in1 (holding [v] (setAdd S v) >>= _) _ _ _
    refine wpAny_bind (wpAny_holding (D.add (s := { s with heap := h1, toks := tk1 }) hu hS1 (D.isKeep (hk _ (List.mem_of_getElem? hp)) kp) (by have := g.len; omega) fun b h2 tk2 L' sb hS2 c1 c2 => ?_))
    have kp2 : ∀ b o, h0.get? b = some o → h2.get? b = some o := fun b o e => (sb.2 b (fun z => by rw [z, hS0] at e; cases e)).trans (kp b o e)
    exact wpAny_pure ⟨plainId_quiet PyProof.Rows.F.plain_set_update_loop _, ih (i + 1) { s with heap := h2, toks := tk2 } (by omega) hlt (W.frame _ h1 h2 hst1 fun b hb o e => (sb.2 b (fun z => hSf (by rw [← z]; exact hb))).trans e) kp2 ⟨L', hS2, g.next hp c1 c2⟩ hR⟩
theorem up_from {l S : Addr} {T : String} {Q : Unit → Shared → Prop} (hT : s.TypeIs (.ref l) T) (hs1 : isSubtype (.type T) (.type "set") = pure false) (hs2 : isSubtype (.type T) (.type "frozenset") = pure false) (hne : (Value.type T == Value.type "dict") = false)
    (h : wpAny (model P w) A (pyIter (.ref l)) (fun it s1 => wpAny (model P w) A (runValue (.builtin "set.update.loop" ⟨[.ref S, it], []⟩)) (fun _ s2 => Q () s2) E s1) E s) : wpAny (model P w) A (Builtin.Frozenset.updateFrom "set.__init__" S (.ref l)) Q E s := by
  obtain ⟨⟨cls, dd, data, sl⟩, ho, hc⟩ := hT
  simp only at hc
  subst hc
  unfold Builtin.Frozenset.updateFrom
  generalize hPI : pyIter = PI
  wp_walk
  subst hPI
  refine wpAny_mono h (fun it s1 h1 => ?_) fun _ _ x => x
  refine wpAny_bind ?_
  exact wpAny_mono h1 (fun v s2 h2 => wpAny_pure h2) fun _ _ x => x
theorem up_init (D : SetK P w δ) {l S : Addr} {items : Array Value} {Q : Unit → Shared → Prop} (ks : List (Value × δ)) (hh : A.handled = none) (hl : s.heap.IsList l items ∨ s.heap.IsTuple l items) (hit : items.toList = ks.map (·.1)) (hfew : ks.length < 64) (hu : A.units + 1 < cLine) (hS : D.St s.heap S []) (hSl : S ≠ l)
    (hSz : S < s.heap.objs.size) (h0 : Heap) (hk : ∀ p ∈ ks, D.Is h0 p.1 p.2) (hS0 : h0.get? S = none) (hkp : ∀ b o, h0.get? b = some o → s.heap.get? b = some o)
    (hQ : ∀ h' tk L, (∀ b o, h0.get? b = some o → h'.get? b = some o) → D.St h' S L → Has ks ks.length L → Q () { s with heap := h', toks := tk }) : wpAny (model P w) A (Builtin.Frozenset.updateFrom "set.__init__" S (.ref l)) Q E s := by
  have hisz : items.size = ks.length := by
    have q := congrArg List.length hit
    rw [Array.length_toList, List.length_map] at q
    exact q
  have hval : ∀ (i : Nat) (v : Value), items[i]? = some v → ∃ p, ks[i]? = some p ∧ v = p.1 := fun i v hv => by
    have q : items.toList[i]? = some v := by rw [Array.getElem?_toList]; exact hv
    rw [hit, List.getElem?_map] at q
    cases hq : ks[i]? with
    | none => rw [hq] at q; cases q
    | some p => rw [hq] at q; exact ⟨p, rfl, (Option.some.inj q).symm⟩
  have hI0 : h0.get? s.heap.objs.size = none := by
    cases q : h0.get? s.heap.objs.size with
    | none => rfl
    | some o => exact absurd (Heap.lt_size (hkp _ _ q)) (Nat.lt_irrefl _)
  have hll : l < s.heap.objs.size := hl.elim (fun ⟨o, ho, _⟩ => Heap.lt_size ho) fun ⟨o, ho, _⟩ => Heap.lt_size ho
  have hSf : S ∉ [s.heap.objs.size, l] := by
    rw [List.mem_cons, List.mem_singleton, not_or]
    exact ⟨Nat.ne_of_lt hSz, hSl⟩
  have go : ∀ (oI : Obj) (St : Nat → Heap → Prop), Walks P w A.in1 s.heap.objs.size [s.heap.objs.size, l] [s.heap.objs.size] items.size (fun i v => items[i]? = some v) St → St 0 (s.heap.push oI) →
      wpAny (model P w) A (runValue (.builtin "set.update.loop" ⟨[.ref S, .ref s.heap.objs.size], []⟩)) (fun _ s2 => Q () s2) E { s with heap := s.heap.push oI } := fun oI St W st => by
    refine wpAny_runValue (up_loop D W hSf ks hisz hfew hval (by show A.units + 1 < cLine; exact hu) h0 hk hS0 hI0 (items.size - 0) 0 _ rfl (Nat.zero_le _) st (fun b o e => Heap.get?_push_of_some _ (hkp b o e)) ⟨[], D.stKeep hS (fun o e => Heap.get?_push_of_some _ e) (fun p hp => by cases hp), Has.zero ks⟩ fun h' tk L k hL g => ?_)
    rw [hisz] at g
    exact hQ h' tk L k hL g
  rcases hl with hl | hl
  · refine up_from (T := "list") ⟨hl.choose, hl.choose_spec.1, hl.choose_spec.2.1⟩ PySem.F.sub_list_set PySem.F.sub_list_frozenset (by decide) ?_
    exact wpAny_pyIter_list hl (go _ _ (Walks.list (show A.in1.handled = none from hh) _ l (Nat.ne_of_lt hll) items) ⟨⟨_, Heap.get?_push_size _ rfl, rfl, rfl⟩, hl.push _⟩)
  · refine up_from (T := "tuple") ⟨hl.choose, hl.choose_spec.1, hl.choose_spec.2.1⟩ PySem.F.sub_tuple_set PySem.F.sub_tuple_frozenset (by decide) ?_
    exact wpAny_pyIter_tuple hl (go _ _ (Walks.tuple (show A.in1.handled = none from hh) _ l (Nat.ne_of_lt hll) items) ⟨⟨_, Heap.get?_push_size _ rfl, rfl, rfl⟩, hl.push _⟩)
/-- set(x), x a list or a tuple -/
theorem up_call_set (D : SetK P w δ) {l : Addr} {items : Array Value} {Q : Value → Shared → Prop} (ks : List (Value × δ)) (hh : A.handled = none) (hl : s.heap.IsList l items ∨ s.heap.IsTuple l items) (hit : items.toList = ks.map (·.1)) (hfew : ks.length < 64) (hu : A.units + 64 < cLine)
    (hk : ∀ p ∈ ks, D.Is s.heap p.1 p.2) (h : ∀ h' tk L, (∀ b o, s.heap.get? b = some o → h'.get? b = some o) → D.St h' s.heap.objs.size L → Has ks ks.length L → Q (.ref s.heap.objs.size) { s with heap := h', toks := tk }) :
    wpAny (model P w) A (call (.type "set") [.ref l]) Q E s := by
  have hll : l < s.heap.objs.size := hl.elim (fun ⟨o, ho, _⟩ => Heap.lt_size ho) fun ⟨o, ho, _⟩ => Heap.lt_size ho
  obtain ⟨c, tl, hmro⟩ := PySem.F.called_set.mro
  have hmade := PySem.F.called_set.made
  have hsub := PySem.F.called_set.sub
  refine wpAny_call (codeAny_of_tree ?_)
  show wpAny _ _ (callAny (.type "set") _) _ _ _
  refine wpAny_pure ⟨Code.quiet_builtin _ (by decide +kernel), codeAny_builtin PySem.F.entry_type_call ?_⟩
  rw [Around.under_plain (weight_type_call_type "set" [.ref l] []) rfl]
  have h1 := PySem.F.called_set.notType
  have h2 := PySem.F.called_set.canCreate
  have hct := PySem.F.typeCall_set_1 (.ref l)
  repeat (any_goals (first | assumption | wp_step))
  refine codeAny_mono (code_set_led1 (.ref l) (E := E) (Q₁ := fun obj s₁ => obj = .ref s.heap.objs.size ∧ s₁ = { s with heap := s.heap.push { cls := .type "set", dict := none, data := .set #[] 0 (.fresh 0 0 (!w.params.followText "set-order")) } }) ⟨rfl, rfl⟩) fun r s₁ hr => ?_
  cases r with
  | error e => exact hr
  | ok fl =>
    cases fl with
    | ret obj =>
      obtain ⟨rfl, rfl⟩ := hr
      have hS : (s.heap.push { cls := .type "set", dict := none, data := .set #[] 0 (.fresh 0 0 (!w.params.followText "set-order")) }).get? s.heap.objs.size = some { cls := .type "set", dict := none, data := .set #[] 0 (.fresh 0 0 (!w.params.followText "set-order")) } := Heap.get?_push_size _ rfl
      have hT : Shared.TypeIs { s with heap := s.heap.push { cls := .type "set", dict := none, data := .set #[] 0 (.fresh 0 0 (!w.params.followText "set-order")) } } (.ref s.heap.objs.size) "set" := ⟨_, hS, rfl⟩
      have hli := PySem.F.called_set.init.lookup
      have hbi := PySem.F.called_set.init.bind (.ref s.heap.objs.size)
      repeat (any_goals (first | assumption | wp_step))
      refine codeAny_mono (codeAny_call_builtin (R := wants (fun r s₂ => r = .none ∧ ∃ h' tk L, s₂ = { s with heap := h', toks := tk } ∧ D.St h' s.heap.objs.size L ∧ Has ks ks.length L ∧ (∀ b o, s.heap.get? b = some o → h'.get? b = some o)) E)
        PySem.F.called_set.init.plain PySem.F.entry_set_init (check_set_init_1 hT ?_)) fun r₂ s₂ hr₂ => ?_
      · unfold Builtin.«set.__init__» noKeywords
        generalize hUF : Builtin.Frozenset.updateFrom = UF
        wp_walk
        subst hUF
        have n0 : s.heap.get? s.heap.objs.size = none := by
          cases q : s.heap.get? s.heap.objs.size with
          | none => rfl
          | some o => exact absurd (Heap.lt_size q) (Nat.lt_irrefl _)
        refine up_init D ks (by first | exact hh | simp [hh]) (hl.imp (fun h => h.push _) fun h => h.push _) hit hfew (by have q : A.in1.in1.units = A.units + 2 := rfl; omega) (D.fresh hS) (Nat.ne_of_gt hll) (by rw [Heap.size_push]; exact Nat.lt_succ_self _) s.heap hk n0 (fun b o e => Heap.get?_push_of_some _ e) fun h' tk L kp hL g => ?_
        exact wpAny_pure ⟨rfl, h', tk, L, rfl, hL, g, kp⟩
      · cases r₂ with
        | error e => exact hr₂
        | ok fl₂ =>
          cases fl₂ with
          | ret r =>
            obtain ⟨rfl, h', tk, L, rfl, hL, g, kp⟩ := hr₂
            repeat (any_goals (first | assumption | wp_step))
            exact h _ _ _ kp hL g
          | _ => exact hr₂.elim
    | _ => exact hr.elim
end
end Up
end
section
set_option Elab.async false
set_option linter.all false
set_option maxRecDepth 100000
set_option maxHeartbeats 4000000
/-! Sets of texts. -/
namespace Up
open PySem PySem.Spec PyProof.Rows L2 PySem.Froz

def txtOf : Value → Str
  | .str x _ => x
  | _ => Str.empty
def eltS (e : Int × Value) : Value × Str := (e.2, txtOf e.2)
section
variable {P : Program} {w : World} {A : Around} {E : Value → Shared → Prop} {s : Shared}
theorem tail_perm (ep : Nat) (es1 : Array (Int × Value)) (t2 : SetTable) (b : Bool) : (tailTx ep es1 t2 b).1.toList.Perm es1.toList := by
  unfold tailTx
  by_cases c : (!b && t2.tooFull) = true
  · rw [if_pos c]; exact relayAll_perm t2 es1 _
  · rw [if_neg c]
theorem addTx_perm (h : Int) (v : Value) (D : SD) : (addTx h v D).1.toList.Perm ((h, v) :: D.1.toList) := by
  unfold addTx
  refine (tail_perm _ _ _ _).trans ?_
  have p := layNew_perm D.2.2 D.1 h v
  rw [Array.toList_push] at p
  exact p.trans (List.perm_append_singleton _ _)
theorem tail_tab {ep : Nat} {es1 : Array (Int × Value)} {t2 : SetTable} {b : Bool} (hr : Ris t2.place.toList) : Ris (tailTx ep es1 t2 b).2.2.place.toList ∧ (tailTx ep es1 t2 b).2.2.led = t2.led := by
  unfold tailTx
  by_cases c : (!b && t2.tooFull) = true
  · rw [if_pos c]; exact ⟨relayAll_ris _ _ _, relayAll_led _ _ _⟩
  · rw [if_neg c]; exact ⟨hr, rfl⟩
theorem addTx_tab (h : Int) (v : Value) {D : SD} (hr : Ris D.2.2.place.toList) : Ris (addTx h v D).2.2.place.toList ∧ (addTx h v D).2.2.led = D.2.2.led := by
  unfold addTx
  have r1 := layNew_ris D.2.2 D.1 h v hr
  have l1 := layNew_led D.2.2 D.1 h v
  by_cases c : (layNew D.2.2 D.1 h v).2.1.plain = true
  · rw [if_pos c]
    have q := tail_tab (ep := D.2.1) (es1 := (layNew D.2.2 D.1 h v).1) (t2 := { (layNew D.2.2 D.1 h v).2.1 with plain := false }) (b := (layNew D.2.2 D.1 h v).2.2.1) r1
    exact ⟨q.1, q.2.trans l1⟩
  · rw [if_neg c]
    have q := tail_tab (ep := D.2.1) (es1 := (layNew D.2.2 D.1 h v).1) (t2 := (layNew D.2.2 D.1 h v).2.1) (b := (layNew D.2.2 D.1 h v).2.2.1) r1
    exact ⟨q.1, q.2.trans l1⟩
theorem txok_perm {D : SD} {l m : List Str} (F : TxOk P w D l) (p : m.Perm l) : TxOk P w D m := ⟨F.el, fun k => p.mem_iff.trans (F.mem k), F.sz.trans p.length_eq.symm, F.fit⟩
theorem txok_str {D : SD} {l : List Str} (F : TxOk P w D l) {e : Int × Value} (he : e ∈ D.1.toList) : ∃ x t, e.2 = .str x t := by
  obtain ⟨⟨k, h1, _⟩, _⟩ := F.el e he
  have h1 : Value.isStrOf k e.2 = true := h1
  cases q : e.2 with
  | str x t => exact ⟨x, t, rfl⟩
  | _ => rw [q] at h1; simp [Value.isStrOf] at h1
/-- a text that is there already -/
theorem up_old {a : Addr} {D : SD} {l : List Str} {k : Str} {u : Tok} {Q : Bool → Shared → Prop} (ho : s.heap.get? a = some (sObj "set" D)) (F : TxOk P w D l) (hk : k ∈ l) (hb : l.length + 1 < scanBound) (h : Q false s) :
    wpAny (model P w) A (setAddHashed a (.str k u) (hashStr w k)) Q E s := by
  obtain ⟨es, ep, t⟩ := D
  have hd : (sObj "set" (es, ep, t)).data = .set es ep t := rfl
  have hf : t.fits es.size = true := F.fit
  have hel : ElemsOf (strKind P w) es.toList := F.el
  have hsz : es.size = l.length := F.sz
  have hkey : (strKind P w).is k (.str k u) = true := is_str k u
  unfold setAddHashed setAddHashedIn
  refine wpAny_holding (wpAny_bind (wpAny_setState_of ho hd hf ?_))
  dsimp only
  rw [byScan_of rfl (by omega) hel]
  simp only [↓reduceIte]
  unfold setAddByScan
  refine wpAny_bind ?_
  refine wpAny_bind (wpAny_rule ?_)
  refine wpAny_bind (wpAny_setScan_of (knd := strKind P w) (k := k) hkey ho hd hf hel ?_)
  cases hr : List.findIdx? (fun e => (strKind P w).is k e.2) es.toList with
  | some j =>
    dsimp only
    exact wpAny_pure (wpAny_pure h)
  | none =>
    exfalso
    obtain ⟨e, he, z⟩ := (F.mem k).mp hk
    have c := List.findIdx?_eq_none_iff.mp hr e he
    rw [z] at c
    cases c
/-- a set of texts in the heap -/
def StS (P : Program) (w : World) (h : Heap) (a : Addr) (L : List (Value × Str)) : Prop := ∃ D : SD, h.get? a = some (sObj "set" D) ∧ TxOk P w D (L.map Prod.snd) ∧ Ris D.2.2.place.toList ∧ (w.params.followText "set-order" = true ∨ D.2.2.led = true) ∧ L = D.1.toList.map eltS ∧ (L.map Prod.snd).Nodup
/-- sets of texts -/
def setKS (P : Program) (w : World) : SetK P w Str where
  Is := fun _ v d => ∃ t, v = .str d t
  St := StS P w
  isKeep := fun h _ => h
  stKeep := fun {h h' a L} ⟨D, h1, h2⟩ k _ => ⟨D, k _ h1, h2⟩
  fresh := fun {h a} e => ⟨(#[], 0, .fresh 0 0 (!w.params.followText "set-order")), e, TxOk.nil rfl, List.Pairwise.nil, (by
    show _ ∨ (!w.params.followText "set-order") = true
    cases w.params.followText "set-order"
    · exact .inr rfl
    · exact .inl rfl), rfl, List.nodup_nil⟩
  nd := fun ⟨_, _, _, _, _, _, h⟩ => h
  walk := fun {h a L} ⟨D, h1, h2, h3, h4, h5, h6⟩ => ⟨D.1, D.2.1, D.2.2, ⟨_, h1, rfl, rfl⟩, h2.fit, h3, h4, by rw [h5, List.map_map]; rfl⟩
  add := fun {A E s a L v d Q} hu ⟨D, h1, h2, h3, h4, h5, h6⟩ ⟨t, ev⟩ hfew hQ => by
    subst ev
    unfold setAdd
    refine wpAny_holding ?_
    refine wpAny_bind ((strKind P w).pyHash (k := d) (is_str _ _) ?_)
    have hb : (L.map (·.2)).length + 1 < scanBound := by rw [List.length_map]; unfold scanBound; omega
    by_cases hm : d ∈ L.map (·.2)
    · exact up_old (s := { s with toks := s.toks + 1 }) h1 h2 hm hb (hQ false s.heap _ L (Heap.SameBut.refl a s.heap) ⟨D, h1, h2, h3, h4, h5, h6⟩ (fun _ => rfl) fun z => absurd hm z)
    · refine add_x (s := { s with toks := s.toks + 1 }) h1 h2 hm hb ?_
      have pm := addTx_perm (hashStr w d) (.str d t) D
      have tb := addTx_tab (hashStr w d) (.str d t) (D := D) h3
      have pL : ((addTx (hashStr w d) (.str d t) D).1.toList.map eltS).Perm ((.str d t, d) :: L) := by
        have q := pm.map eltS
        rw [List.map_cons, ← h5] at q
        exact q
      refine hQ true _ _ ((addTx (hashStr w d) (.str d t) D).1.toList.map eltS) ?_ ⟨_, get_upd _ h1 rfl, txok_perm (add_ok t h2) (pL.map (·.2)), tb.1, h4.imp id fun z => tb.2.trans z, rfl, ?_⟩ (fun z => absurd z hm) fun _ => pL
      · exact Heap.SameBut.update s.heap a _
      · refine (pL.map (·.2)).nodup_iff.mpr ?_
        rw [List.map_cons]
        exact List.nodup_cons.mpr ⟨hm, h6⟩
end
end Up
end
section
set_option Elab.async false
set_option linter.all false
set_option maxRecDepth 100000
set_option maxHeartbeats 4000000
/-! Sets of tuples of texts: the search of the table, adding, laying anew. -/
namespace Up
open PySem PySem.Spec PyProof.Rows L2

/-- v is a tuple of the texts k -/
def TupS (P : Program) (w : World) (h : Heap) (v : Value) (k : List Str) : Prop := ∃ b, v = .ref b ∧ IsTupleKey (strKind P w) h k b
abbrev hsT (P : Program) (w : World) (k : List Str) : Int := tupleKeyHash (strKind P w) k
def rowT (P : Program) (w : World) (p : Value × List Str) : Int × Value := (hsT P w p.2, p.1)
abbrev hsL (P : Program) (w : World) (L : List (Value × List Str)) : List Int := L.map fun p => hsT P w p.2
/-- the set at a, its rows, its table -/
structure StT0 (P : Program) (w : World) (h : Heap) (a : Addr) (L : List (Value × List Str)) (es : Array (Int × Value)) (ep : Nat) (t : SetTable) : Prop where
  ob : ∃ o, h.get? a = some o ∧ o.ExactSet ∧ o.data = .set es ep t
  rows : es.toList = L.map (rowT P w)
  tab : TabOk t (hsL P w L)
  nd : (L.map Prod.snd).Nodup
  tup : ∀ p ∈ L, TupS P w h p.1 p.2
  led : w.params.followText "set-order" = true ∨ t.led = true
  room : L.length * 5 < t.mask * 3
  few : L.length < 64

section
variable {P : Program} {w : World} {A : Around} {E : Value → Shared → Prop} {s : Shared}
/-! ### what is asked of tuples of texts -/
theorem texts_of {k : List Str} {vs : List Value} (h : ItemsAre (strKind P w) k vs) : ∀ v ∈ vs, ∃ x t, v = Value.str x t := by
  induction h with
  | nil => intro v hv; cases hv
  | @cons x v' ks vs h1 _ ih =>
    intro v hv
    rcases List.mem_cons.mp hv with e | hv
    · have h1 : Value.isStrOf x v' = true := h1
      subst e
      cases v with
      | str y t => exact ⟨y, t, rfl⟩
      | _ => simp [Value.isStrOf] at h1
    · exact ih v hv
theorem noClass {k : List Str} {b : Addr} {Q : Bool → Shared → Prop} (hk : IsTupleKey (strKind P w) s.heap k b) (h : Q false s) : wpAny (model P w) A (ofAClassStatement 8 (.ref b)) Q E s := by
  have hT := hk.typeIs
  obtain ⟨o, items, n, ho, _, hd, hi⟩ := hk
  unfold ofAClassStatement
  refine wpAny_bind (wpAny_typeOf hT ?_)
  dsimp only
  have e : (("tuple" : String) == "tuple") = true := by decide
  simp only [e, if_true, Bool.not_true, Bool.false_eq_true, if_false]
  try refine wpAny_bind (wpAny_pure ?_)
  try simp only [Bool.not_true, Bool.false_eq_true, if_false]
  show wpAny _ _ (seqItems? (.ref b) >>= _) _ _ s
  refine wpAny_bind (wpAny_seqItems ho hd ?_)
  dsimp only
  refine wpAny_bind ?_
  show wpAny _ _ (forIn items _ _) _ _ s
  rw [← Array.forIn_toList]
  refine wpAny_forIn_list _ (fun rest r s' => r.1 = none ∧ s' = s ∧ ∀ v ∈ rest, ∃ x t, v = Value.str x t) _ ?_ ?_ _ _ ⟨rfl, rfl, texts_of hi⟩
  · rintro v rest r s' ⟨hr, rfl, hall⟩
    obtain ⟨x, t, rfl⟩ := hall v List.mem_cons_self
    refine wpAny_bind (wpAny_of_eq (a := false) rfl ?_)
    simp only [Bool.false_eq_true, if_false]
    exact wpAny_pure ⟨rfl, rfl, fun u hu' => hall u (List.mem_cons_of_mem _ hu')⟩
  · rintro ⟨r1, r2⟩ s' ⟨hr, rfl, _⟩
    simp only at hr
    subst hr
    exact wpAny_pure h
theorem byVal {k : List Str} {b : Addr} {Q : Bool → Shared → Prop} (hk : IsTupleKey (strKind P w) s.heap k b) (h : ∀ c, Q c s) : wpAny (model P w) A (hashByValue 8 (.ref b)) Q E s := by
  have hT := hk.typeIs
  obtain ⟨o, items, n, ho, _, hd, hi⟩ := hk
  unfold hashByValue
  refine wpAny_bind (wpAny_specialOf hT PySem.F.slot_tuple_hash.lookup ?_)
  show wpAny _ _ (seqItems? (.ref b) >>= _) _ _ s
  refine wpAny_bind (wpAny_seqItems ho hd ?_)
  refine wpAny_bind ?_
  show wpAny _ _ (forIn items _ _) _ _ s
  rw [← Array.forIn_toList]
  refine wpAny_forIn_list _ (fun rest r s' => s' = s ∧ ∀ v ∈ rest, ∃ x t, v = Value.str x t) _ ?_ ?_ _ _ ⟨rfl, texts_of hi⟩
  · rintro v rest r s' ⟨rfl, hall⟩
    obtain ⟨x, t, rfl⟩ := hall v List.mem_cons_self
    refine wpAny_bind (wpAny_of_eq (a := false) rfl ?_)
    simp only [Bool.not_false, if_true]
    exact wpAny_pure (wpAny_pure (h _))
  · rintro ⟨r1, r2⟩ s' ⟨rfl, _⟩
    cases r1 with
    | none => exact wpAny_pure (h _)
    | some c => exact wpAny_pure (h _)
/-- nothing of the search would be seen -/
theorem unseen {k : List Str} {v : Value} {Q : Bool → Shared → Prop} (hv : TupS P w s.heap v k) {ys : List Value} (hy : ∀ y ∈ ys, ∃ k', TupS P w s.heap y k') (h : Q false s) : wpAny (model P w) A (searchCouldBeSeen v ys) Q E s := by
  obtain ⟨b, rfl, hk⟩ := hv
  unfold searchCouldBeSeen
  refine wpAny_bind ?_
  refine wpAny_forIn_list _ (fun rest r s' => r.1 = none ∧ s' = s ∧ ∀ y ∈ rest, ∃ k', TupS P w s.heap y k') _ ?_ ?_ _ _ ⟨rfl, rfl, hy⟩
  · rintro v rest r s' ⟨hr, rfl, hall⟩
    obtain ⟨k', c, rfl, hc⟩ := hall v List.mem_cons_self
    have rest' := fun u hu' => hall u (List.mem_cons_of_mem _ hu')
    dsimp only
    by_cases hv : (b == c || (carriedByValue (.ref b) && carriedByValue (.ref c))) = true
    · exact wp_if_pos hv (wpAny_pure ⟨rfl, rfl, rest'⟩)
    · refine wp_if_neg hv ?_
      refine wpAny_bind (wpAny_eqIsQuiet_tuple hk ?_)
      simp only [Bool.not_true, Bool.false_eq_true, if_false]
      refine wpAny_bind (wpAny_eqIsQuiet_tuple hc ?_)
      simp only [Bool.not_true, Bool.false_eq_true, if_false]
      refine wpAny_bind (noClass hk ?_)
      simp only [Bool.false_eq_true, if_false]
      refine wpAny_bind (noClass hc ?_)
      simp only [Bool.false_eq_true, if_false]
      exact wpAny_pure ⟨rfl, rfl, rest'⟩
  · rintro ⟨r1, r2⟩ s' ⟨hr, rfl, _⟩
    simp only at hr
    subst hr
    exact wpAny_pure h
theorem eqTup {x y : Value} {k l : List Str} {Q : Bool → Shared → Prop} (hu : A.units < cLine) (hx : TupS P w s.heap x k) (hy : TupS P w s.heap y l) (h : Q (decide (k = l)) s) : wpAny (model P w) A (eqBool x y) Q E s := by
  obtain ⟨a, rfl, ha⟩ := hx
  obtain ⟨b, rfl, hb⟩ := hy
  exact wpAny_eqBool_tuple hu ha hb h
variable {a : Addr} {L : List (Value × List Str)} {es : Array (Int × Value)} {ep : Nat} {t : SetTable}
theorem StT0.size {h : Heap} (R : StT0 P w h a L es ep t) : es.size = L.length := by
  rw [← Array.length_toList, R.rows, List.length_map]
theorem StT0.psize {h : Heap} (R : StT0 P w h a L es ep t) : t.place.size = L.length := by
  rw [R.tab.sz, List.length_map]
theorem fits_of {t : SetTable} {n : Nat} (hd : t.dummies = #[]) (h1 : t.place.size = n) (h2 : n ≤ t.mask) : t.fits n = true := by
  unfold SetTable.fits SetTable.fill
  rw [hd, Bool.and_eq_true, beq_iff_eq, decide_eq_true_eq]
  show t.place.size = n ∧ t.place.size + 0 ≤ t.mask
  omega
theorem StT0.fits {h : Heap} (R : StT0 P w h a L es ep t) : t.fits es.size = true := fits_of R.tab.dm (R.psize.trans R.size.symm) (by have := R.room; rw [R.size]; omega)
theorem StT0.at_ {h : Heap} (R : StT0 P w h a L es ep t) {i : Nat} {p : Value × List Str} (e : L[i]? = some p) : es[i]? = some (rowT P w p) := by
  rw [← Array.getElem?_toList, R.rows, List.getElem?_map, e]; rfl
/-- the c-th place of the way of k -/
abbrev stepT (t : SetTable) (h : Int) (c : Nat) : SetTable.Probe := nth t.mask (runAt t.mask (SetTable.bits h % (t.mask + 1)) (SetTable.bits h)) c
theorem dummy_none (m : Nat) : ∀ (n : Nat) (p : SetTable.Probe), p.dummy = none → (nth m p n).dummy = none
  | 0, _, h => h
  | n + 1, p, h => dummy_none m n (adv m p) (by unfold adv; split <;> exact h)
/-- the search from the c-th place on -/
theorem searchT (R : StT0 P w s.heap a L es ep t) {x : Value} {k : List Str} (hx : TupS P w s.heap x k) (hu : A.units < cLine) {K : Nat} (hKf : K < 10 * SetTable.turns t.mask)
    (hK : way t.mask (hsT P w k) K ∉ t.place.toList) (hKb : ∀ c, c < K → way t.mask (hsT P w k) c ∈ t.place.toList) {Q : SetFound → Shared → Prop} (hin : k ∈ L.map Prod.snd → Q (.there none) s) (hout : k ∉ L.map Prod.snd → Q (.free (way t.mask (hsT P w k) K) false) s) :
    ∀ (f c : Nat) (stand : Option SetTable.Probe), stand.getD (t.probeStart (hsT P w k)) = stepT t (hsT P w k) c → c ≤ K → K - c < f →
      (∀ (i : Nat) p, L[i]? = some p → p.2 = k → ∃ c', c ≤ c' ∧ c' < K ∧ t.place.toList[i]? = some (way t.mask (hsT P w k) c')) → wpAny (model P w) A (setSearchFrom a x (hsT P w k) true f stand) Q E s
  | 0, c, stand, _, _, hf, _ => absurd hf (Nat.not_lt_zero _)
  | f + 1, c, stand, hst, hc, hf, hre => by
    obtain ⟨o, ho, hex, hd⟩ := R.ob
    rw [setSearchFrom_succ]
    refine wpAny_bind (wpAny_setState_of ho hd R.fits ?_)
    dsimp only
    refine wp_if_neg (by unfold SetTable.gaveWay; rw [mask_odd R.tab.mok]; decide) ?_
    try refine wpAny_bind (wpAny_pure ?_)
    have sh : ∀ q, nth t.mask (stepT t (hsT P w k) c) q = stepT t (hsT P w k) (c + q) := fun q => (nth_add t.mask c _ q).symm
    have e1 : ∀ q, (nth t.mask (stepT t (hsT P w k) c) q).j = way t.mask (hsT P w k) (c + q) := fun q => congrArg SetTable.Probe.j (sh q)
    have ec : c + (K - c) = K := by omega
    have spec := go_spec t R.tab.ris R.tab.dm (fun i => (es[i]?.map (·.1)).getD 0) (hsT P w k) (10 * SetTable.turns t.mask) (K - c) (stepT t (hsT P w k) c) (dummy_none _ c _ rfl) (by omega)
      (fun q hq => by rw [e1]; exact hKb (c + q) (by omega)) (by rw [e1, ec]; exact hK)
    have hashAt : ∀ (i : Nat) p, L[i]? = some p → (es[i]?.map (·.1)).getD 0 = hsT P w p.2 := fun i p hp => by rw [R.at_ hp]; rfl
    rcases spec with ⟨q, i, hq, hi, hh, hno, hpr⟩ | ⟨hno, hpr⟩
    · have hpr' : t.probe (fun i => (es[i]?.map (·.1)).getD 0) (hsT P w k) (stand.getD (t.probeStart (hsT P w k))) = some (.candidate (way t.mask (hsT P w k) (c + q)) i (stepT t (hsT P w k) (c + (q + 1)))) := by
        rw [hst, ← e1, ← sh]; exact hpr
      rw [hpr']
      dsimp only
      rw [e1] at hi
      have hil : i < L.length := by
        have h1 : i < t.place.toList.length := (List.getElem?_eq_some_iff.mp hi).1
        rw [Array.length_toList, R.psize] at h1; exact h1
      have hp : L[i]? = some L[i] := List.getElem?_eq_getElem hil
      generalize hpe : L[i] = p at hp
      have hmem : p ∈ L := List.mem_of_getElem? hp
      have hsl : t.slot (way t.mask (hsT P w k) (c + q)) = .live i := slot_live R.tab.ris hi
      have rest : wpAny (model P w) A (searchRest a x (hsT P w k) true f es t (way t.mask (hsT P w k) (c + q)) i (stepT t (hsT P w k) (c + (q + 1)))) Q E s := by
        unfold searchRest
        rw [R.at_ hp]
        dsimp only [rowT]
        refine wpAny_bind (wpAny_holding (eqTup hu (R.tup p hmem) hx ?_))
        refine wpAny_bind (wpAny_setState_of ho hd R.fits ?_)
        dsimp only
        by_cases hkk : p.2 = k
        · refine wp_if_pos (by simp [hkk]) ?_
          exact wpAny_pure (hin (List.mem_map.mpr ⟨p, hmem, hkk⟩))
        · refine wp_if_neg (by simp [hkk]) ?_
          try refine wpAny_bind (wpAny_pure ?_)
          rw [sameMem]
          dsimp only
          obtain ⟨pb, epb, _⟩ := R.tup p hmem
          simp only [if_true, hsl, R.at_ hp]
          dsimp only [rowT]
          rw [epb]
          refine wpAny_bind (wpAny_isSame_ref_self (wpAny_bind (wpAny_pure ?_)))
          simp only [if_true]
          refine wp_if_neg (by simp [hkk]) ?_
          refine searchT R hx hu hKf hK hKb hin hout f (c + (q + 1)) _ rfl (by omega) (by omega) fun i0 p0 h0 hk0 => ?_
          obtain ⟨c', a1, a2, a3⟩ := hre i0 p0 h0 hk0
          refine ⟨c', ?_, a2, a3⟩
          rcases Nat.lt_trichotomy c' (c + q) with z | z | z
          · exfalso
            refine hno (c' - c) i0 (by omega) (by rw [e1, show c + (c' - c) = c' by omega]; exact a3) ?_
            exact (hashAt i0 p0 h0).trans (congrArg (hsT P w) hk0)
          · exfalso
            rw [z] at a3
            have s0 := slot_live R.tab.ris a3
            rw [hsl] at s0
            injection s0 with s0
            rw [← s0, hp] at h0
            exact hkk ((congrArg Prod.snd (Option.some.inj h0)).trans hk0)
          · omega
      by_cases hl : t.led = true
      · refine wp_if_neg (by simp [hl]) ?_
        try refine wpAny_bind (wpAny_pure ?_)
        exact rest
      · refine wp_if_pos (by simp [hl]) ?_
        refine wpAny_bind (unseen hx (fun y hy => ?_) ?_)
        · obtain ⟨e, he, ee⟩ := List.mem_map.mp hy
          have he1 : e ∈ es ∧ e.1 = hsT P w k := by simpa using he
          have he2 : e ∈ es.toList := by simpa using he1.1
          rw [R.rows] at he2
          obtain ⟨p2, hp2, e2⟩ := List.mem_map.mp he2
          refine ⟨p2.2, ?_⟩
          rw [← ee, ← e2]
          exact R.tup p2 hp2
        · refine wp_if_neg (by decide) ?_
          try refine wpAny_bind (wpAny_pure ?_)
          exact rest
    · have hpr' : t.probe (fun i => (es[i]?.map (·.1)).getD 0) (hsT P w k) (stand.getD (t.probeStart (hsT P w k))) = some (.empty (way t.mask (hsT P w k) K) none) := by
        rw [hst, ← show (nth t.mask (stepT t (hsT P w k) c) (K - c)).j = way t.mask (hsT P w k) K from by rw [e1, ec]]
        exact hpr
      rw [hpr']
      dsimp only
      refine wpAny_pure (hout fun hm => ?_)
      obtain ⟨p0, h0, hk0⟩ := List.mem_map.mp hm
      obtain ⟨i0, hi0, e0⟩ := List.getElem_of_mem h0
      have h00 : L[i0]? = some p0 := by rw [List.getElem?_eq_getElem hi0, e0]
      obtain ⟨c', a1, a2, a3⟩ := hre i0 p0 h00 hk0
      refine hno (c' - c) i0 (by omega) (by rw [e1, show c + (c' - c) = c' by omega]; exact a3) ?_
      exact (hashAt i0 p0 h00).trans (congrArg (hsT P w) hk0)
theorem searchT_at (R : StT0 P w s.heap a L es ep t) {x : Value} {k : List Str} (hx : TupS P w s.heap x k) (hu : A.units < cLine) {Q : SetFound → Shared → Prop} (hin : k ∈ L.map Prod.snd → Q (.there none) s)
    (hout : ∀ K, k ∉ L.map Prod.snd → way t.mask (hsT P w k) K ∉ t.place.toList → (∀ c, c < K → way t.mask (hsT P w k) c ∈ t.place.toList) → Q (.free (way t.mask (hsT P w k) K) false) s) : wpAny (model P w) A (setSearch a x (hsT P w k) true) Q E s := by
  have hroom := R.room
  obtain ⟨K, hKf, hK, hKb⟩ := R.tab.first (by rw [List.length_map]; omega) (hsT P w k)
  have hbig : K < 100000 := by
    have : 10 * SetTable.turns t.mask ≤ 1420 := by
      unfold SetTable.turns
      rcases R.tab.mok with e | e | e <;> omega
    omega
  unfold setSearch
  refine searchT R hx hu hKf hK hKb hin (fun hn => hout K hn hK hKb) 100000 0 none rfl (Nat.zero_le _) (by omega) fun i p hp hk => ?_
  have hil : i < t.place.toList.length := by
    have h1 : i < L.length := (List.getElem?_eq_some_iff.mp hp).1
    rw [Array.length_toList, R.psize]; exact h1
  have hj := List.getElem?_eq_getElem hil
  obtain ⟨c, hc, e⟩ := R.tab.before hK (show (hsL P w L)[i]? = some (hsT P w k) from by rw [List.getElem?_map, hp, ← hk]; rfl) hj
  exact ⟨c, Nat.zero_le _, hc, by rw [hj, e]⟩
/-! ### laying anew, adding -/
theorem TupS.same {h h' : Heap} {v : Value} {k : List Str} {o : Obj} (hv : TupS P w h v k) (ho : h.get? a = some o) (hd : o.data = .set es ep t) (hs : Heap.SameBut a h h') : TupS P w h' v k := by
  obtain ⟨b, rfl, o', items, n, ho', hc, hd', hi⟩ := hv
  refine ⟨b, rfl, o', items, n, (hs.2 b ?_).trans ho', hc, hd', hi⟩
  rintro rfl
  obtain rfl : o' = o := Option.some.inj (ho'.symm.trans ho)
  rw [hd] at hd'
  exact nomatch hd'
theorem TupS.keep {h h' : Heap} {v : Value} {k : List Str} (hv : TupS P w h v k) (hk : ∀ c o, h.get? c = some o → h'.get? c = some o) : TupS P w h' v k := by
  obtain ⟨b, e, o, items, n, ho, r⟩ := hv
  exact ⟨b, e, o, items, n, hk b o ho, r⟩
theorem orderT (L : List (Value × List Str)) (es : Array (Int × Value)) (order : Array Nat) (hr : es.toList = L.map (rowT P w)) (hp : order.toList.Perm (List.range L.length)) :
    ∃ L2, (order.filterMap (es[·]?)).toList = L2.map (rowT P w) ∧ L2.Perm L ∧ hsL P w L2 = order.toList.map fun i => (es.map (·.1)).getD i 0 := by
  have hsz : es.size = L.length := by rw [← Array.length_toList, hr, List.length_map]
  have ent : ∀ i (h : i < L.length), es[i]? = some (rowT P w L[i]) := fun i h => by
    rw [← Array.getElem?_toList, hr, List.getElem?_map, List.getElem?_eq_getElem h]; rfl
  have key : ∀ l : List Nat, (∀ i ∈ l, i < L.length) → ∃ L2 : List (Value × List Str), l.filterMap (fun i => es[i]?) = L2.map (rowT P w) ∧ L2 = l.filterMap (fun i => L[i]?) ∧ hsL P w L2 = l.map fun i => (es.map (·.1)).getD i 0 := by
    intro l
    induction l with
    | nil => intro _; exact ⟨[], rfl, rfl, rfl⟩
    | cons i l ih =>
      intro hl
      have hi := hl i List.mem_cons_self
      obtain ⟨L2, e1, e2, e3⟩ := ih fun j hj => hl j (List.mem_cons_of_mem _ hj)
      refine ⟨L[i] :: L2, ?_, ?_, ?_⟩
      · rw [List.filterMap_cons_some (ent i hi), e1]; rfl
      · rw [List.filterMap_cons_some (List.getElem?_eq_getElem hi), e2]
      · unfold hsL at e3 ⊢
        rw [List.map_cons, List.map_cons, e3]
        have e5 : (es.map (·.1))[i]? = some (hsT P w (L[i]).2) := by rw [Array.getElem?_map, ent i hi]; rfl
        have e4 : (es.map (·.1)).getD i 0 = hsT P w (L[i]).2 := by simp [Array.getD_eq_getD_getElem?, e5]
        rw [e4]
  obtain ⟨L2, e1, e2, e3⟩ := key order.toList fun i hi => List.mem_range.mp (hp.mem_iff.mp hi)
  refine ⟨L2, by first | (rw [Array.toList_filterMap]; exact e1) | simpa using e1, ?_, e3⟩
  have h2 : (List.range L.length).filterMap (fun i => L[i]?) = L := by
    have key2 : ∀ n, n ≤ L.length → (List.range n).filterMap (fun i => L[i]?) = L.take n := by
      intro n
      induction n with
      | zero => intro _; rfl
      | succ n ih =>
        intro hn
        have hlt : n < L.length := hn
        rw [List.range_succ, List.filterMap_append, ih (Nat.le_of_lt hlt), List.take_succ, List.getElem?_eq_getElem hlt, List.filterMap_cons_some (List.getElem?_eq_getElem hlt)]
        rfl
    rw [key2 L.length (Nat.le_refl _), List.take_length]
  have h1 : L2.Perm ((List.range L.length).filterMap fun i => L[i]?) := by rw [e2]; exact hp.filterMap _
  rw [h2] at h1
  exact h1
theorem relayT {o : Obj} (ho : s.heap.get? a = some o) (hex : o.ExactSet) (hd : o.data = .set es ep t) (hrows : es.toList = L.map (rowT P w)) (hsz : t.place.size = es.size) (hdm : t.dummies = #[]) (hfl : es.size ≤ t.mask)
    (nd : (L.map Prod.snd).Nodup) (tup : ∀ p ∈ L, TupS P w s.heap p.1 p.2) (ld : w.params.followText "set-order" = true ∨ t.led = true) (few : L.length < 64) {wanted M : Nat}
    (hw : SetTable.sizeAbove wanted - 1 = M) (hM : MaskOk M) (hw2 : SetTable.sizeAbove wanted ≤ 128) (hn : L.length * 5 < M * 3) {Q : Unit → Shared → Prop}
    (hQ : ∀ h' L' es' ep' t', Heap.SameBut a s.heap h' → StT0 P w h' a L' es' ep' t' → L'.Perm L → Q () { s with heap := h' }) : wpAny (model P w) A (setRelay a wanted) Q E s := by
  have hsl : es.size = L.length := by rw [← Array.length_toList, hrows, List.length_map]
  obtain ⟨t', order, e, hp, T, em, el, ep', ed⟩ := relaid_ok t (hs := es.map (·.1)) (wanted := wanted) hw hM (by rw [Array.size_map, hsl]; omega)
  rw [Array.size_map, hsl] at hp
  obtain ⟨L2, r1, r2, r3⟩ := orderT L es order hrows hp
  rw [← r3] at T
  have hs2 : (order.filterMap (es[·]?)).size = es.size := by rw [← Array.length_toList, r1, List.length_map, r2.length_eq, hsl]
  rw [setRelay_eq]
  refine wpAny_bind (wpAny_setState_of ho hd (fits_of hdm hsz hfl) ?_)
  dsimp only
  refine wp_if_neg (by rw [sizeLine_eq]; omega) ?_
  try refine wpAny_bind (wpAny_pure ?_)
  rw [e]
  dsimp only
  refine wpAny_bind ?_
  refine wp_if_neg (by rw [hs2]; simp) ?_
  try refine wpAny_bind (wpAny_pure ?_)
  refine wpAny_pure ?_
  dsimp only
  refine wpAny_storeSet_of ho hd ?_ (by rw [hs2, hsl, sizeLine_eq]; omega)
  have sb : Heap.SameBut a s.heap (s.heap.update a (Obj.putSet (order.filterMap (es[·]?)) t')) := Heap.SameBut.update ..
  refine hQ _ L2 (order.filterMap (es[·]?)) (ep + 1) t' sb ⟨⟨_, store_at ho hd, ⟨hex.1, hex.2.1, hex.2.2⟩, rfl⟩, r1, T, (r2.map Prod.snd).nodup_iff.mpr nd, fun p hpm => (tup p (r2.mem_iff.mp hpm)).same ho hd sb, by rw [el]; exact ld, ?_, by rw [r2.length_eq]; exact few⟩ r2
  rw [r2.length_eq, em]
  exact hn
/-- adding a tuple of texts -/
theorem addT (R : StT0 P w s.heap a L es ep t) {x : Value} {k : List Str} (hx : TupS P w s.heap x k) (hu : A.units < cLine) (hfew : L.length + 1 < 64) {Q : Bool → Shared → Prop}
    (hQ : ∀ b h' L' es' ep' t', Heap.SameBut a s.heap h' → StT0 P w h' a L' es' ep' t' → (k ∈ L.map Prod.snd → L' = L) → (k ∉ L.map Prod.snd → L'.Perm ((x, k) :: L)) → Q b { s with heap := h' }) :
    wpAny (model P w) A (setAddHashed a x (hsT P w k)) Q E s := by
  obtain ⟨o, ho, hex, hd⟩ := R.ob
  have hsl := R.size
  have hroom := R.room
  unfold setAddHashed
  refine wpAny_holding ?_
  rw [show (100000 : Nat) = 99999 + 1 from rfl, setAddHashedIn_succ]
  refine wpAny_bind (wpAny_setState_of ho hd R.fits ?_)
  dsimp only
  refine wp_if_neg (by obtain ⟨b, e, _⟩ := hx; rw [e]; simp [byScan, Value.scannable]) ?_
  try refine wpAny_bind (wpAny_pure ?_)
  refine wpAny_bind (searchT_at R hx hu (fun hm => ?_) fun K hm hK hb => ?_)
  · dsimp only
    exact wpAny_pure (hQ false s.heap L es ep t (Heap.SameBut.refl a s.heap) R (fun _ => rfl) fun z => absurd hm z)
  · dsimp only
    refine wpAny_bind (wpAny_setState_of ho hd R.fits ?_)
    dsimp only
    obtain ⟨q1, q2, q3, q4, q5, q6, q7, q8, q9⟩ := R.tab.put hK hb
    generalize t.put (way t.mask (hsT P w k) K) = pt at q1 q3 q4 q5 q6 q7 q8 q9 ⊢
    obtain ⟨t1, p⟩ := pt
    dsimp only at q1 q3 q4 q5 q6 q7 q8 q9 ⊢
    subst q1
    have hin : (SetTable.insertAt es (SetTable.below t.place (way t.mask (hsT P w k) K)) (hsT P w k, x)).toList = (L.take (SetTable.below t.place (way t.mask (hsT P w k) K)) ++ (x, k) :: L.drop (SetTable.below t.place (way t.mask (hsT P w k) K))).map (rowT P w) := by
      rw [SetTable.toList_insertAt, R.rows, List.map_append, List.map_cons, List.map_take, List.map_drop]; rfl
    generalize SetTable.below t.place (way t.mask (hsT P w k) K) = p at q2 q3 hin ⊢
    have pm : (L.take p ++ (x, k) :: L.drop p).Perm ((x, k) :: L) := put_perm L p (x, k)
    have hlen : (L.take p ++ (x, k) :: L.drop p).length = L.length + 1 := pm.length_eq
    have hhs : hsL P w (L.take p ++ (x, k) :: L.drop p) = (hsL P w L).take p ++ hsT P w k :: (hsL P w L).drop p := by
      unfold hsL; rw [List.map_append, List.map_cons, List.map_take, List.map_drop]
    rw [← hhs] at q3
    have nd1 : ((L.take p ++ (x, k) :: L.drop p).map Prod.snd).Nodup := (pm.map Prod.snd).nodup_iff.mpr (by rw [List.map_cons]; exact List.nodup_cons.mpr ⟨hm, R.nd⟩)
    have hes : (SetTable.insertAt es p (hsT P w k, x)).size = L.length + 1 := by rw [← Array.length_toList, hin, List.length_map, hlen]
    generalize SetTable.insertAt es p (hsT P w k, x) = es1 at hin hes ⊢
    generalize L.take p ++ (x, k) :: L.drop p = L1 at pm hlen q3 nd1 hin
    have main : ∀ t2 : SetTable, t2.place = t1.place → t2.dummies = t1.dummies → t2.mask = t1.mask → t2.led = t1.led → t2.fill = t1.fill → wpAny (model P w) A (do
        storeSet a es1 t2
        if (!false && t2.tooFull) = true then setRelay a (SetTable.grown (es.size + 1))
        return true) Q E s := by
      intro t2 p1 p2 p3 p4 p5
      have T2 : TabOk t2 (hsL P w L1) := ⟨by rw [p1]; exact q3.ris, by rw [p2]; exact q3.dm, by rw [p1]; exact q3.sz, by rw [p3]; exact q3.mok, by rw [p1, p3]; exact q3.bd, by rw [p1, p3]; exact q3.reach⟩
      have m2 : t2.mask = t.mask := p3.trans q4
      have l2 : t2.led = t.led := p4.trans q5
      have f2 : t2.fill = L.length + 1 := p5.trans (by rw [q9, List.length_map])
      refine wpAny_bind (wpAny_storeSet_of ho hd ?_ (by rw [hes, sizeLine_eq]; omega))
      have sb : Heap.SameBut a s.heap (s.heap.update a (Obj.putSet es1 t2)) := Heap.SameBut.update ..
      have ho1 := store_at (es' := es1) (t' := t2) ho hd
      generalize s.heap.update a (Obj.putSet es1 t2) = h1 at sb ho1 ⊢
      have tup1 : ∀ p ∈ L1, TupS P w h1 p.1 p.2 := fun p hp => by
        rcases List.mem_cons.mp (pm.mem_iff.mp hp) with e | hp
        · rw [e]; exact hx.same ho hd sb
        · exact (R.tup p hp).same ho hd sb
      have ld1 : w.params.followText "set-order" = true ∨ t2.led = true := by rw [l2]; exact R.led
      by_cases hf : t2.tooFull = true
      · first
          | (refine wpAny_bind ?_; refine wp_if_pos (by simp [hf]) ?_)
          | (refine wp_if_pos (by simp [hf]) ?_; refine wpAny_bind ?_)
        have hfull : (L.length + 1) * 5 ≥ t2.mask * 3 := by
          have h := hf
          unfold SetTable.tooFull at h
          rw [decide_eq_true_eq, f2] at h
          exact h
        rw [hsl]
        have hsz1 : t2.place.size = es1.size := by rw [T2.sz, List.length_map, hlen, hes]
        have cases2 : (t.mask = 7 ∧ L.length = 4) ∨ (t.mask = 31 ∧ L.length = 18) := by
          rcases R.tab.mok with e | e | e
          · left; rw [m2, e] at hfull; rw [e] at hroom; exact ⟨e, by omega⟩
          · right; rw [m2, e] at hfull; rw [e] at hroom; exact ⟨e, by omega⟩
          · exfalso; rw [m2, e] at hfull; omega
        have go : ∀ M, SetTable.sizeAbove (SetTable.grown (L.length + 1)) - 1 = M → MaskOk M → SetTable.sizeAbove (SetTable.grown (L.length + 1)) ≤ 128 → (L.length + 1) * 5 < M * 3 →
            wpAny (model P w) A (setRelay a (SetTable.grown (L.length + 1))) (fun _ s' => wpAny (model P w) A (pure true) Q E s') E { s with heap := h1 } := fun M h1' h2' h3' h4' => by
          refine relayT (s := { s with heap := h1 }) ho1 ⟨hex.1, hex.2.1, hex.2.2⟩ rfl hin hsz1 T2.dm (by rw [hes, m2]; rcases cases2 with ⟨e, e2⟩ | ⟨e, e2⟩ <;> omega) nd1 tup1 ld1 (by rw [hlen]; exact hfew) h1' h2' h3' (by rw [hlen]; exact h4') ?_
          intro h2 L2 es2 ep2 t2 sb2 R2 pm2
          exact wpAny_pure (hQ true h2 L2 es2 ep2 t2 (sb.trans sb2) R2 (fun z => absurd z hm) fun _ => pm2.trans pm)
        rcases cases2 with ⟨_, e2⟩ | ⟨_, e2⟩
        · exact go 31 (by rw [e2, size_20]) (.inr (.inl rfl)) (by rw [e2, size_20]; decide) (by omega)
        · exact go 127 (by rw [e2, size_76]) (.inr (.inr rfl)) (by rw [e2, size_76]; decide) (by omega)
      · first
          | refine wp_if_neg (by simp [hf]) ?_
          | (refine wpAny_bind ?_; refine wp_if_neg (by simp [hf]) ?_; refine wpAny_pure ?_)
        refine wpAny_pure (hQ true h1 L1 es1 (ep + 1) t2 sb ⟨⟨_, ho1, ⟨hex.1, hex.2.1, hex.2.2⟩, rfl⟩, hin, T2, nd1, tup1, ld1, ?_, by rw [hlen]; exact hfew⟩ (fun z => absurd z hm) fun _ => pm)
        have h := hf
        unfold SetTable.tooFull at h
        rw [decide_eq_true_eq, f2] at h
        rw [hlen]
        omega
    obtain ⟨xb, rfl, hxb⟩ := hx
    cases hpl : t1.plain with
    | true =>
      first
        | (refine wpAny_bind ?_; refine wp_if_pos rfl ?_; refine byVal hxb fun c => ?_)
        | refine wp_if_pos rfl (wpAny_bind (byVal hxb fun c => ?_))
      cases c with
      | true => exact main t1 rfl rfl rfl rfl rfl
      | false => exact main { t1 with plain := false } rfl rfl rfl rfl rfl
    | false =>
      first
        | (refine wpAny_bind ?_; refine wp_if_neg (by decide) ?_; refine wpAny_pure ?_)
        | refine wp_if_neg (by decide) ?_
      exact main t1 rfl rfl rfl rfl rfl
/-- sets of tuples of texts -/
def setKT (P : Program) (w : World) : SetK P w (List Str) where
  Is := fun h v d => TupS P w h v d
  St := fun h a L => ∃ es ep t, StT0 P w h a L es ep t
  isKeep := fun h k => h.keep k
  stKeep := fun {h h' a L} ⟨es, ep, t, R⟩ k tup => ⟨es, ep, t, ⟨let ⟨o, ho, r⟩ := R.ob; ⟨o, k o ho, r⟩, R.rows, R.tab, R.nd, tup, R.led, R.room, R.few⟩⟩
  fresh := fun {h a} e => ⟨#[], 0, .fresh 0 0 (!w.params.followText "set-order"), ⟨⟨_, e, ⟨rfl, rfl, rfl⟩, rfl⟩, rfl, ⟨List.Pairwise.nil, rfl, rfl, .inl rfl, fun x hx => (by cases hx), fun i h j hi => (by simp at hi)⟩, List.nodup_nil, fun p hp => (by cases hp), (by
    show _ ∨ (!w.params.followText "set-order") = true
    cases w.params.followText "set-order"
    · exact .inr rfl
    · exact .inl rfl), (by show 0 * 5 < 7 * 3; decide), (by show 0 < 64; decide)⟩⟩
  nd := fun ⟨_, _, _, R⟩ => R.nd
  walk := fun {h a L} ⟨es, ep, t, R⟩ => ⟨es, ep, t, (let ⟨o, ho, hex, hd⟩ := R.ob; ⟨o, ho, hex.1, hd⟩), R.fits, R.tab.ris, R.led, by rw [R.rows, List.map_map]; rfl⟩
  add := fun {A E s a L v d Q} hu ⟨es, ep, t, R⟩ hv hfew hQ => by
    have hv' := hv
    obtain ⟨b, rfl, hb⟩ := hv
    unfold setAdd
    refine wpAny_holding ?_
    refine wpAny_bind (wpAny_pyHash_tuple hu hb ?_)
    exact addT (s := { s with toks := s.toks + (d.length + 1) }) R hv' hu hfew fun c h' L' es' ep' t' sb R' c1 c2 => hQ c h' _ L' sb ⟨es', ep', t', R'⟩ c1 c2
end
end Up
end
section
set_option Elab.async false
set_option linter.all false
set_option maxRecDepth 100000
set_option maxHeartbeats 4000000
/-! What is collected from tuples and dicts; sorted(..), tuple(dict), sorted(set(..)) as rules. -/
namespace Up
open PySem PySem.Spec PyProof.Rows L2
section
variable {prog : Program} {w : World} {A : Around} {E : Value → Shared → Prop} {s : Shared}
theorem up_collect_tup {l : Addr} {vs : List Value} {Q : List Value → Shared → Prop} (hl : s.heap.IsTuple l vs.toArray)
    (h : Q vs { s with heap := (s.heap.push (seqObj "list" #[] 0)).update s.heap.objs.size (Obj.mapSeq (· ++ vs.toArray)) }) (hsz : vs.length ≤ sizeLine) :
    wpAny (model prog w) A (collect (.ref l)) Q E s := by
  obtain ⟨o, ho, hc, n, hd⟩ := id hl
  unfold collect
  refine wpAny_bind (wpAny_runValue (codeAny_builtin entry_proto_collect' ?_))
  show wpAny _ _ (do again (.builtin "list.__iadd__" ⟨[← newList [], .ref l], []⟩)) _ _ s
  refine wpAny_bind (wpAny_newList (wpAny_pure ⟨Code.quiet_builtin _ (by decide +kernel), codeAny_builtin entry_list_iadd' ?_⟩))
  show wpAny _ _ (Builtin.List.listExtendWith (.ref s.heap.objs.size) (.ref l) (.ref s.heap.objs.size)) _ _ { s with heap := s.heap.push (seqObj "list" #[] 0) }
  unfold Builtin.List.listExtendWith
  have ho' : (s.heap.push (seqObj "list" #[] 0)).get? l = some o := Heap.get?_push_of_some _ ho
  refine wpAny_bind (wpAny_typeOf (T := "tuple") ⟨o, ho', hc⟩ ?_)
  have ht : (Value.type "tuple" == Value.type "tuple") = true := by rfl
  rw [if_pos (by rw [ht]; simp)]
  refine wpAny_bind (listItems_at ho' hd ?_)
  refine wpAny_bind (listItems_at (xs := #[]) (n := 0) (Heap.get?_push_size _ rfl) rfl ?_)
  rw [if_neg (by simp)]
  refine wpAny_bind (listUpdate_at (xs := #[]) (n := 0) (Heap.get?_push_size _ rfl) rfl ?_ (Nat.zero_le _) (by show (#[] ++ vs.toArray).size ≤ sizeLine + 1; simp only [Array.size_append, List.size_toArray, List.length_nil]; omega))
  refine wpAny_pure ?_
  show wpAny (model prog w) A (load s.heap.objs.size >>= fun o => match o.data with
      | .seq xs _ => pure xs.toList
      | _ => unsupported "internal:collect") Q E { s with heap := (s.heap.push (seqObj "list" #[] 0)).update s.heap.objs.size (Obj.mapSeq (· ++ vs.toArray)) }
  refine wpAny_bind (wpAny_load (get?_update_seq (Heap.get?_push_size _ rfl) _) ?_)
  show wpAny _ _ (pure ((#[] : Array Value) ++ vs.toArray).toList) Q E _
  rw [show ((#[] : Array Value) ++ vs.toArray).toList = vs by simp]
  exact wpAny_pure h
theorem up_collect_src {T : String} {r d : Addr} {n : Nat} {Pv : Nat → Value → Prop} {OK : Heap → Prop} {Q : List Value → Shared → Prop} (K : PySem.W.KdlSrc prog w T r d n Pv OK) (hh : A.handled = none) (hok : OK s.heap) (hn : n ≤ sizeLine)
    (hQ : ∀ (h' : Heap) (tk : Nat) (acc : Array Value), (∀ b o, s.heap.get? b = some o → h'.get? b = some o) → ItemsOf Pv acc n → Q acc.toList { s with heap := h', toks := tk }) : wpAny (model prog w) A (collect (.ref r)) Q E s := by
  have hlt := K.there _ hok
  unfold collect
  refine wpAny_bind (wpAny_runValue (codeAny_builtin PySem.F.entry_proto_collect ?_))
  rw [Around.under_plainId PySem.F.plain_proto_collect _]
  show wpAny _ A.in1 (newList [] >>= fun l => again (.builtin "list.__iadd__" ⟨[l, .ref r], []⟩)) _ _ s
  refine wpAny_bind (wpAny_newObj_type ?_)
  refine wpAny_pure ⟨plainId_quiet PySem.F.plain_list_iadd _, codeAny_builtin PySem.F.entry_list_iadd ?_⟩
  rw [Around.under_plainId PySem.F.plain_list_iadd _]
  show wpAny _ A.in1 (Builtin.List.listExtendWith (.ref s.heap.objs.size) (.ref r) (.ref s.heap.objs.size)) _ _ _
  have hS : (s.heap.push { cls := .type "list", data := .seq ([] : List Value).toArray }).get? s.heap.objs.size = some { cls := .type "list", data := .seq #[] 0 } := Heap.get?_push_size _ rfl
  refine wpAny_mono (PySem.W.kdl_extend (A := A) (R := fun rr s' => rr = .ok (.ret (.ref s.heap.objs.size)) ∧ ∃ (h' : Heap) (tk : Nat) (acc : Array Value) (c' : Nat), s' = { s with heap := h', toks := tk } ∧
      (∀ b o, s.heap.get? b = some o → h'.get? b = some o) ∧ h'.get? s.heap.objs.size = some { cls := .type "list", dict := none, data := .seq acc c', slots := #[] } ∧ ItemsOf Pv acc n)
    (s := { s with heap := s.heap.push { cls := .type "list", data := .seq ([] : List Value).toArray } }) K hh (K.keep _ _ hok fun b _ o e => Heap.get?_push_of_some _ e) _ (Nat.ne_of_gt hlt.1) (Nat.ne_of_gt hlt.2) _ 0 hS
    (fun h' tk acc c' hk e hi => ⟨rfl, h', tk, acc, c', rfl, fun b o q => hk b o (Nat.ne_of_lt (Heap.lt_size q)) (Heap.get?_push_of_some _ q), e, hi⟩) hn) (fun fin s' h => ?_) (fun e s' h => ?_)
  · cases fin with
    | done f =>
      obtain ⟨e, h', tk, acc, c', rfl, hk, hS', hi⟩ := h
      cases e
      show wpAny _ A (load s.heap.objs.size >>= _) _ _ _
      exact wpAny_bind (wpAny_load hS' (wpAny_pure (hQ h' tk acc hk hi)))
    | again c' =>
      refine ⟨h.1, codeAny_mono h.2 fun rr s'' hr' => ?_⟩
      obtain ⟨rfl, h', tk, acc, c', rfl, hk, hS', hi⟩ := hr'
      show wpAny _ A (load s.heap.objs.size >>= _) _ _ _
      exact wpAny_bind (wpAny_load hS' (wpAny_pure (hQ h' tk acc hk hi)))
  · exact absurd h.1 (by simp)
/-- tuple(x) of what can be collected -/
theorem up_tuple_src {T : String} {r d : Addr} {n : Nat} {Pv : Nat → Value → Prop} {OK : Heap → Prop} {Q : Value → Shared → Prop} (K : PySem.W.KdlSrc prog w T r d n Pv OK) (hh : A.handled = none) (hok : OK s.heap) (hn : n ≤ sizeLine) (hT : (Value.type T == Value.type "tuple") = false)
    (hQ : ∀ (h' : Heap) (tk : Nat) (acc : Array Value), (∀ b o, s.heap.get? b = some o → h'.get? b = some o) → ItemsOf Pv acc n → Q (.ref h'.objs.size) { s with heap := h'.push { cls := .type "tuple", data := .seq acc }, toks := tk }) :
    wpAny (model prog w) A (call (.type "tuple") [.ref r]) Q E s := by
  refine callType_codes (Q₁ := fun obj s₁ => s₁.TypeIs obj "tuple" ∧ Q obj s₁) PySem.F.called_tuple (PySem.F.typeCall_tuple_1 _) PySem.F.entry_object_init ?_ fun obj s₁ h₁ => ?_
  · refine codeAny_of_tree ?_
    show wpAny _ A.in1.in1 (do checkBuiltinCall "tuple.__new__" ⟨[.type "tuple", .ref r], []⟩; again (.builtin "tuple.__new__" ⟨[.type "tuple", .ref r], []⟩)) _ _ s
    refine wpAny_bind (wpAny_of_eq (PySem.F.newCall_tuple_1 _) (wpAny_pure ⟨plainId_quiet PySem.F.plain_tuple_new _, codeAny_builtin PySem.F.entry_tuple_new ?_⟩))
    rw [Around.under_plainId PySem.F.plain_tuple_new _]
    have hsub := sub_tuple_self
    have hinit := init_tuple_lookup
    have hmh := madeHere_tuple
    obtain ⟨o, ho, hc⟩ := K.type s hok
    have hTI : s.TypeIs (.ref r) T := ⟨o, ho, hc⟩
    wp_walk using wpAny_typeOf hTI, up_collect_src (A := A.in1.in1) K hh hok hn
    intro h' tk acc hk hacc
    show wpAny _ _ (Builtin.Tuple.tupleExact acc.toList.toArray >>= fun v => ret v) _ _ _
    unfold Builtin.Tuple.tupleExact
    refine wpAny_bind (wpAny_newObj_type ?_ (by show acc.toList.toArray.size ≤ sizeLine; simp only [Array.toArray_toList]; rw [hacc.1]; exact hn))
    refine wpAny_pure ?_
    have e : acc.toList.toArray = acc := by simp
    rw [e]
    exact ⟨⟨_, Heap.get?_push_size _ rfl, rfl⟩, hQ h' tk acc hk hacc⟩
  · exact ⟨h₁.1, PySem.F.args_object_init_2 obj _, object_init_meets PySem.F.called_tuple.init.lookup PySem.F.called_tuple.made (by decide) prog w A.in1 _ s₁ ⟨h₁.1, rfl, h₁.2⟩⟩
end
end Up
end
section
set_option Elab.async false
set_option linter.all false
set_option maxRecDepth 100000
set_option maxHeartbeats 4000000
/-! sorted of lists, tuples, sets, dict keys; tuple(dict): rules of the layer. -/
namespace Up
open PySem PySem.Spec PyProof.Rows L2
open PySem.W (EachIs AllAlike UpOk dataLt dataLe keyToks alike)

/-- what sorting asks of the data -/
structure SortD (ds : List PyData) : Prop where
  al : AllAlike ds
  ok : UpOk ds
  few : ds.length ≤ 100000
  dep : ∀ d ∈ ds, d.depth ≤ 20
/-- each item's value and datum, put in order -/
def InOrder (M : List (V × PyData)) : Prop := M.Pairwise fun a b => dataLt b.2 a.2 = false
theorem vals_each : ∀ {out : List Value} {M : List (V × PyData)}, EachIs (fun v b => RelV b.1 v) out M → Vals (M.map Prod.fst) out
  | _, _, .nil => .nil
  | _, _, .cons h t => .cons h (vals_each t)
theorem each_vals {R : Value → PyData → Prop} : ∀ {xs : List V} {us : List Value} {ds : List PyData}, Vals xs us → EachIs R us ds → EachIs (fun v (b : V × PyData) => R v b.2 ∧ RelV b.1 v) us (xs.zip ds)
  | [], _, _, .nil, .nil => .nil
  | _ :: _, _, _, .cons r t, .cons h u => .cons ⟨h, r⟩ (each_vals t u)
theorem order_sort (bs : List (V × PyData)) : InOrder (bs.mergeSort (dataLe false Prod.snd)) := by
  refine List.Pairwise.imp (fun {a b} h => ?_) (PySem.W.sort_pairwise (le := dataLe false (Prod.snd : V × PyData → PyData)) (by unfold PySem.W.dataLe; exact PySem.W.sortLe_total _ _ _) bs)
  have h : (!dataLt b.2 a.2) = true := h
  cases q : dataLt b.2 a.2 with
  | false => rfl
  | true => rw [q] at h; cases h
theorem zip_snd {α β : Type} : ∀ {xs : List α} {ys : List β}, xs.length = ys.length → (xs.zip ys).map Prod.snd = ys
  | [], [], _ => rfl
  | _ :: _, _ :: _, h => by rw [List.zip_cons_cons, List.map_cons, zip_snd (Nat.succ.inj h)]
  | [], _ :: _, h => by cases h
  | _ :: _, [], h => by cases h
section
variable {X : Cx} {pins : List (Addr × Obj)} {σ : L2.St} {H : Hp} {s : Shared} {Q : VK}
theorem sort_fin (I : Inv X pins σ H s) {bs : List (V × PyData)} {h2 : Heap} {p : Addr} {out : List Value} {c : Nat} (k : ∀ b o, s.heap.get? b = some o → h2.get? b = some o) (hp : s.heap.objs.size ≤ p) (hg : h2.get? p = some (seqObj "list" out.toArray c))
    (e : EachIs (fun v b => RelV b.1 v) out (bs.mergeSort (dataLe false Prod.snd))) (hL : bs.length ≤ sizeLine)
    (q : ∀ (M : List (V × PyData)) p, M.Perm bs → InOrder M → H p = none → Q (.ref p) (upd H p (.lst (M.map Prod.fst)))) : EP X pins σ Q (.ref p) { s with heap := h2 } := by
  refine ⟨.ref p, _, I.laid (t' := s.toks) k hp (show ObjOk X.prog X.w _ _ _ (.lst ((bs.mergeSort (dataLe false Prod.snd)).map Prod.fst)) from ⟨?_, out, c, vals_each e, hg⟩), rfl, q _ p (List.mergeSort_perm _ _) (order_sort bs) (I.hok.fresh hp)⟩
  rw [List.length_map, (List.mergeSort_perm _ _).length_eq]
  exact hL
/-- sorted(x), x a list or a tuple -/
def rSortQ : List V → Hp → VK → Prop := fun vs H Q => ∃ a xs ds, vs = [V.ref a] ∧ (H a = some (.lst xs) ∨ H a = some (.tup xs)) ∧ TtA H xs ds ∧ SortD ds ∧
  ∀ (M : List (V × PyData)) p, M.Perm (xs.zip ds) → InOrder M → H p = none → Q (.ref p) (upd H p (.lst (M.map Prod.fst)))
theorem cr_sortQ (hu : X.A.units + 64 < cLine) : CallR X (.builtin "sorted") rSortQ := by
  intro pins s σ H vs us Q I r h
  obtain ⟨a, xs, ds, rfl, ha, ht, D, q⟩ := h
  rw [Vals.ref1 r]
  have few := D.few
  have hsz : ds.length ≤ sizeLine := size_ok few
  have key : ∀ (its : List Value), Vals xs its → ∀ s1 : Shared, s1.gens = s.gens → s1.os = s.os → (∀ b o, s.heap.get? b = some o → s1.heap.get? b = some o) → Inv X pins σ H s1 →
      ∃ bs : List (V × PyData), EachIs (fun v b => (∃ as, Reads s1.heap v b.2 as) ∧ RelV b.1 v) its bs ∧ AllAlike (bs.map Prod.snd) ∧ UpOk (bs.map Prod.snd) ∧ bs.length ≤ sizeLine ∧ (∀ b, b ∈ bs → X.A.units + 2 + b.2.depth < cLine) ∧
      ∀ h2 p out c, (∀ b o, s1.heap.get? b = some o → h2.get? b = some o) → s1.heap.objs.size ≤ p → h2.get? p = some (seqObj "list" (List.toArray out) c) → EachIs (fun v b => RelV b.1 v) out (bs.mergeSort (dataLe false Prod.snd)) → EP X pins σ Q (.ref p) { s1 with heap := h2 } := fun its rv s1 eg eo k I1 => by
    obtain ⟨as, ra⟩ := Dp.readsAll I1 ds xs its ht.dp rv
    have ez : (xs.zip ds).map Prod.snd = ds := zip_snd ht.len
    have zl : (xs.zip ds).length = ds.length := by have := congrArg List.length ez; rwa [List.length_map] at this
    refine ⟨xs.zip ds, each_vals rv (by have := PySem.W.readsAll_each (fun d : PyData => d) (bs := ds) (as := as) (by rw [List.map_id']; exact ra); exact this), by rw [ez]; exact D.al, by rw [ez]; exact D.ok, by rw [zl]; exact hsz, fun b hb => ?_, fun h2 p out c k2 hp hg e => sort_fin I1 k2 hp hg e (by rw [zl]; exact hsz) q⟩
    have := D.dep b.2 (List.of_mem_zip (show (b.1, b.2) ∈ xs.zip ds from hb)).2
    omega
  refine PySem.W.up_sorted (enc := Prod.snd) (R := fun v (b : V × PyData) => RelV b.1 v) fun E' => ?_
  rcases ha with ha | ha
  · obtain ⟨its, rv, hl, _⟩ := I.list (.inl (.inl ha))
    have I1 : ∀ h', (∀ b o, s.heap.get? b = some o → h'.get? b = some o) → Inv X pins σ H { s with heap := h' } := fun h' k => I.kept (t' := s.toks) k
    have k1 : ∀ b o, s.heap.get? b = some o → ((s.heap.push (seqObj "list" #[] 0)).update s.heap.objs.size (Obj.mapSeq (· ++ its.toArray))).get? b = some o := fun b o e => (Heap.get?_update_ne _ _ _ _ (Nat.ne_of_lt (Heap.lt_size e))).trans (Heap.get?_push_of_some _ e)
    exact collect_list hl.isList (key its rv _ rfl rfl k1 (I1 _ k1)) (by rw [← rv.length, ht.len]; exact hsz)
  · obtain ⟨its, rv, hl, _⟩ := I.tuple (.inl (.inl ha))
    have I1 : ∀ h', (∀ b o, s.heap.get? b = some o → h'.get? b = some o) → Inv X pins σ H { s with heap := h' } := fun h' k => I.kept (t' := s.toks) k
    have k1 : ∀ b o, s.heap.get? b = some o → ((s.heap.push (seqObj "list" #[] 0)).update s.heap.objs.size (Obj.mapSeq (· ++ its.toArray))).get? b = some o := fun b o e => (Heap.get?_update_ne _ _ _ _ (Nat.ne_of_lt (Heap.lt_size e))).trans (Heap.get?_push_of_some _ e)
    exact up_collect_tup hl (key its rv _ rfl rfl k1 (I1 _ k1)) (by rw [← rv.length, ht.len]; exact hsz)
end
theorem tta_of {H : Hp} : ∀ {M : List (V × PyData)}, (∀ p ∈ M, Tt H p.1 p.2) → TtA H (M.map Prod.fst) (M.map Prod.snd)
  | [], _ => .nil
  | p :: M, h => .cons (h p List.mem_cons_self) (tta_of fun q hq => h q (List.mem_cons_of_mem _ hq))
theorem tta_zip {H : Hp} : ∀ {xs : List V} {ds : List PyData}, TtA H xs ds → ∀ p ∈ xs.zip ds, Tt H p.1 p.2
  | _, _, .nil, _, hp => by cases hp
  | _, _, .cons h t, p, hp => by
    rcases List.mem_cons.mp hp with e | hp
    · rw [e]; exact h
    · exact tta_zip t p hp
theorem tta_perm {H : Hp} {xs : List V} {ds : List PyData} (h : TtA H xs ds) {M : List (V × PyData)} (p : M.Perm (xs.zip ds)) : TtA H (M.map Prod.fst) (M.map Prod.snd) := tta_of fun q hq => tta_zip h q (p.mem_iff.mp hq)
theorem snd_perm {H : Hp} {xs : List V} {ds : List PyData} (h : TtA H xs ds) {M : List (V × PyData)} (p : M.Perm (xs.zip ds)) : (M.map Prod.snd).Perm ds := by
  have q := p.map Prod.snd
  rw [zip_snd h.len] at q
  exact q
/-- a rearrangement of images comes from one of the things -/
theorem perm_back {α β : Type} (f : α → β) {l m : List β} (p : l.Perm m) : ∀ {L : List α}, m = L.map f → ∃ M : List α, M.Perm L ∧ M.map f = l := by
  induction p with
  | nil =>
    intro L e
    cases L with
    | nil => exact ⟨[], .nil, rfl⟩
    | cons _ _ => cases e
  | cons x _ ih =>
    intro L e
    cases L with
    | nil => cases e
    | cons y L =>
      obtain ⟨e1, e2⟩ := List.cons.inj e
      obtain ⟨M, h1, h2⟩ := ih e2
      exact ⟨y :: M, h1.cons y, by rw [List.map_cons, h2, e1]⟩
  | swap x y l =>
    intro L e
    cases L with
    | nil => cases e
    | cons a L =>
      cases L with
      | nil => cases e
      | cons b L =>
        obtain ⟨e1, e2⟩ := List.cons.inj e
        obtain ⟨e2, e3⟩ := List.cons.inj e2
        exact ⟨b :: a :: L, List.Perm.swap a b L, by rw [List.map_cons, List.map_cons, e1, e2, e3]⟩
  | trans _ _ ih1 ih2 =>
    intro L e
    obtain ⟨M, h1, h2⟩ := ih2 e
    obtain ⟨N, h3, h4⟩ := ih1 h2.symm
    exact ⟨N, h3.trans h1, h4⟩
theorem alike_strs : ∀ us vs : List Str, PySem.W.alikeAll (us.map PyData.str) (vs.map PyData.str) = true
  | [], _ => by simp [PySem.W.alikeAll]
  | _ :: _, [] => by simp [PySem.W.alikeAll]
  | u :: us, v :: vs => by
    show PySem.W.alikeAll (.str u :: us.map .str) (.str v :: vs.map .str) = true
    rw [PySem.W.alikeAll, alike_strs us vs]
    simp [PySem.W.alike]
theorem depth_strs : ∀ us : List Str, PyData.depthAll (us.map PyData.str) = 0
  | [] => by simp [PyData.depthAll]
  | u :: us => by
    show PyData.depthAll (.str u :: us.map .str) = 0
    rw [PyData.depthAll, depth_strs us]
    simp [PyData.depth]
theorem depth_strsD (us : List Str) : (strsD us).depth ≤ 2 := by
  show (PyData.tuple _).depth ≤ 2
  rw [PyData.depth, depth_strs]
  decide
theorem sortD_tups (ts : List (List Str)) (h : ts.length ≤ 100000) : SortD (ts.map strsD) where
  al := fun d hd d' hd' => by
    obtain ⟨u, _, rfl⟩ := List.mem_map.mp hd
    obtain ⟨v, _, rfl⟩ := List.mem_map.mp hd'
    show PySem.W.alike (.tuple _) (.tuple _) = true
    rw [PySem.W.alike]; exact alike_strs u v
  ok := .inl fun d hd => by obtain ⟨u, _, rfl⟩ := List.mem_map.mp hd; exact ⟨_, rfl⟩
  few := by rw [List.length_map]; exact h
  dep := fun d hd => by obtain ⟨u, _, rfl⟩ := List.mem_map.mp hd; exact Nat.le_trans (depth_strsD u) (by decide)
theorem sortD_strs (us : List Str) (h : us.length ≤ 100000) : SortD (us.map PyData.str) where
  al := fun d hd d' hd' => by
    obtain ⟨u, _, rfl⟩ := List.mem_map.mp hd
    obtain ⟨v, _, rfl⟩ := List.mem_map.mp hd'
    simp [PySem.W.alike]
  ok := .inr fun d hd => by obtain ⟨u, _, rfl⟩ := List.mem_map.mp hd; exact ⟨fun e => (by cases e), fun xs e => (by cases e)⟩
  few := by rw [List.length_map]; exact h
  dep := fun d hd => by obtain ⟨u, _, rfl⟩ := List.mem_map.mp hd; simp [PyData.depth]
section
variable {X : Cx} {pins : List (Addr × Obj)} {σ : L2.St} {H : Hp} {s : Shared} {Q : VK}
/-- what goes into a set, as the layer sees it -/
theorem is_txt (I : Inv X pins σ H s) {x : V} {v : Value} {d : Str} (r : RelV x v) (t : Tt H x (.str d)) : (setKS X.prog X.w).Is s.heap v d := by
  rw [tt_str t] at r
  exact r
theorem items_txt : ∀ {us : List Str} {vs : List Value}, Vals (us.map V.str) vs → ItemsAre (strKind X.prog X.w) us vs
  | [], _, .nil => .nil
  | u :: us, _, .cons r t => by
    obtain ⟨tk, rfl⟩ := r
    exact .cons (strKind_is _ _ _ _) (items_txt t)
theorem is_tup (I : Inv X pins σ H s) {x : V} {v : Value} {d : List Str} (r : RelV x v) (t : Tt H x (strsD d)) : (setKT X.prog X.w).Is s.heap v d := by
  obtain ⟨a, rfl, h⟩ := tt_strs t
  obtain rfl : v = .ref a := r
  obtain ⟨its, rv, ⟨o, ho, hc, n, hd⟩, _⟩ := I.tuple (.inl (.inl h))
  exact ⟨a, rfl, o, its.toArray, n, ho, hc, hd, by simpa using items_txt rv⟩
/-- sorted(set(e)) -/
def tSortSet {δ : Type} (enc : δ → PyData) (te : TE) : TE := fun σ H Q => te σ H fun v H1 => ∃ (a : Addr) (xs : List V) (ds : List δ), v = V.ref a ∧ (H1 a = some (.lst xs) ∨ H1 a = some (.tup xs)) ∧ TtA H1 xs (ds.map enc) ∧ ds.length < 64 ∧
  ∀ (M : List (V × PyData)) (es : List δ) p, TtA H1 (M.map Prod.fst) (M.map Prod.snd) → M.map Prod.snd = es.map enc → es.Nodup → (∀ x, x ∈ es ↔ x ∈ ds) → InOrder M → H1 p = none → Q (.ref p) (upd H1 p (.lst (M.map Prod.fst)))
theorem choose_vals {δ : Type} {enc : δ → PyData} : ∀ {M : List (Value × δ)}, (∀ p ∈ M, ∃ x, RelV x p.1 ∧ Tt H x (enc p.2)) → ∃ xs, Vals xs (M.map Prod.fst) ∧ TtA H xs ((M.map Prod.snd).map enc)
  | [], _ => ⟨[], .nil, .nil⟩
  | p :: M, h => by
    obtain ⟨x, h1, h2⟩ := h p List.mem_cons_self
    obtain ⟨xs, h3, h4⟩ := choose_vals (M := M) fun q hq => h q (List.mem_cons_of_mem _ hq)
    exact ⟨x :: xs, .cons h1 h3, .cons h2 h4⟩
theorem zip_rel {δ : Type} {enc : δ → PyData} : ∀ {xs : List V} {us : List Value} {ds : List δ}, Vals xs us → TtA H xs (ds.map enc) → (us.zip ds).map Prod.fst = us ∧ (us.zip ds).map Prod.snd = ds ∧ ∀ p ∈ us.zip ds, ∃ x, RelV x p.1 ∧ Tt H x (enc p.2)
  | [], _, [], .nil, _ => ⟨rfl, rfl, fun p hp => by cases hp⟩
  | [], _, _ :: _, .nil, t => by
    have t' : TtA H [] (_ :: _) := t
    cases t'
  | x :: xs, _, [], .cons _ _, t => by
    have t' : TtA H _ [] := t
    cases t'
  | x :: xs, _, d :: ds, .cons r rs, t => by
    have t' : TtA H (x :: xs) (enc d :: ds.map enc) := t
    cases t' with
    | cons h1 h2 =>
      obtain ⟨a, b, c⟩ := zip_rel rs h2
      refine ⟨by rw [List.zip_cons_cons, List.map_cons, a], by rw [List.zip_cons_cons, List.map_cons, b], fun p hp => ?_⟩
      rcases List.mem_cons.mp hp with e | hp
      · rw [e]; exact ⟨x, r, h1⟩
      · exact c p hp
theorem pe_sortSet {δ : Type} (D : SetK X.prog X.w δ) (enc : δ → PyData) (hIs : ∀ {pins σ H s} (_ : Inv X pins σ H s) {x : V} {v : Value} {d : δ}, RelV x v → Tt H x (enc d) → D.Is s.heap v d) (hSD : ∀ ds : List δ, ds.length ≤ 100000 → SortD (ds.map enc))
    {a : Expr} {ta : TE} {p p2 q pos : Pos} (hc : X.calm = true) (hu : X.A.units + 64 < cLine) (hg : Gl X "sorted") (hm : X.mg "sorted" = none) (hg2 : Gl X "set") (hm2 : X.mg "set" = none) (hb1 : bootBuiltins "sorted" = some (.builtin "sorted")) (hb2 : bootBuiltins "set" = some (.type "set")) (ha : PE X a ta)
    (na : starEach [a] X.env = (false, eval a X.env) :: starEach [] X.env := by rfl) : PE X (.Call (.Name "sorted" p) [.Call (.Name "set" p2) [a] [] q] [] pos) (tSortSet enc ta) := by
  refine ⟨fun pins s σ H Q I h => ?_⟩
  refine Call_ (ld_blt I hg hm hb1 ?_)
  refine PyProof.Rows.callWith_builtin1 (PyProof.Rows.args_cons ?_ rfl) rfl rfl
  refine Call_ (ld_blt I hg2 hm2 hb2 ?_)
  refine PyProof.Rows.callWith_type1 (PyProof.Rows.args_cons (thn (ha.run pins s σ H _ I h) fun v s1 ⟨x, H1, I1, r1, q1⟩ => PyProof.Rows.args_nil ?_) na) na rfl
  obtain ⟨l, xs, ds, rfl, hl, ht, few, q1⟩ := q1
  obtain rfl : v = Value.ref l := r1
  have fin : ∀ its : List Value, Vals xs its → (s1.heap.IsList l its.toArray ∨ s1.heap.IsTuple l its.toArray) →
      wpAny (model X.prog X.w) X.A (call (.type "set") [.ref l]) (fun v s' => wpAny (model X.prog X.w) X.A (spliced (backTo pos (starEach [] X.env))) (fun vs s₂ => wpAny (model X.prog X.w) X.A (call (.builtin "sorted") (v :: vs)) (EP X pins σ Q) X.xe s₂) X.xe s') X.xe s1 := fun its rv hlt => by
    obtain ⟨z1, z2, z3⟩ := zip_rel rv ht
    have zl : (its.zip ds).length = ds.length := by have := congrArg List.length z2; rwa [List.length_map] at this
    refine up_call_set D (its.zip ds) (I1.ok.hd hc) hlt (by rw [List.toList_toArray]; exact z1.symm) (by rw [zl]; exact few) hu (fun p hp => let ⟨x, a1, a2⟩ := z3 p hp; hIs I1 a1 a2) fun h' tk L kp hS g => ?_
    refine PyProof.Rows.args_nil ?_
    have I2 : Inv X pins σ H1 { s1 with heap := h', toks := tk } := I1.kept kp
    have subL : ∀ p ∈ L, p ∈ its.zip ds := fun p hp => List.mem_of_mem_take (g.sub p hp)
    have ndL := D.nd hS
    have memL : ∀ d, d ∈ L.map Prod.snd ↔ d ∈ ds := fun d => by
      constructor
      · intro hd
        obtain ⟨p, hp, rfl⟩ := List.mem_map.mp hd
        rw [← z2]; exact List.mem_map.mpr ⟨p, subL p hp, rfl⟩
      · intro hd
        rw [← z2] at hd
        obtain ⟨p, hp, rfl⟩ := List.mem_map.mp hd
        exact g.all p (by rw [List.take_length]; exact hp)
    obtain ⟨es, ep, t, hat, hf, hr, hled, hes⟩ := D.walk hS
    have Llen : L.length < 64 := by have := g.len; rw [zl] at this; omega
    have hsz : es.size < scanBound := by
      have e := congrArg List.length hes
      rw [List.length_map, List.length_map, Array.length_toList] at e
      rw [e]; unfold scanBound; omega
    refine PySem.W.up_sorted (enc := Prod.snd) (R := fun v (b : V × PyData) => RelV b.1 v) fun E' => ?_
    refine collect_set (A := X.A.in1) (s := { s1 with heap := h', toks := tk }) (I1.ok.hd hc) hat hf hsz hr hled fun s' out k' hz hgn hos pm => ?_
    have I3 : Inv X pins σ H1 s' := I2.call' (ch := []) hos (Un.kept k') (I2.hok.kept k') (by rw [hgn]; exact I2.bare) (fun _ z => nomatch z)
    rw [hes] at pm
    obtain ⟨M0, p0, e0⟩ := perm_back Prod.fst pm rfl
    obtain ⟨ys, v1, t1⟩ := choose_vals (H := H1) (enc := enc) (M := M0) fun p hp => z3 p (subL p (p0.mem_iff.mp hp))
    rw [e0] at v1
    have few0 : (M0.map Prod.snd).length ≤ 100000 := by rw [List.length_map, p0.length_eq]; omega
    have SD := hSD (M0.map Prod.snd) few0
    obtain ⟨as, ra⟩ := Dp.readsAll I3 _ ys out t1.dp v1
    have ez : (ys.zip ((M0.map Prod.snd).map enc)).map Prod.snd = (M0.map Prod.snd).map enc := zip_snd t1.len
    have zl2 : (ys.zip ((M0.map Prod.snd).map enc)).length ≤ sizeLine := by
      have := congrArg List.length ez
      rw [List.length_map, List.length_map] at this
      rw [this]; exact size_ok few0
    refine ⟨ys.zip ((M0.map Prod.snd).map enc), each_vals v1 (by have := PySem.W.readsAll_each (fun d : PyData => d) (bs := (M0.map Prod.snd).map enc) (as := as) (by rw [List.map_id']; exact ra); exact this), by rw [ez]; exact SD.al, by rw [ez]; exact SD.ok, zl2, fun b hb => ?_, fun h2 p out' c k2 hp hg e => sort_fin I3 k2 hp hg e zl2 fun M p pM oM hpn => ?_⟩
    · have := SD.dep b.2 (List.of_mem_zip (show (b.1, b.2) ∈ ys.zip ((M0.map Prod.snd).map enc) from hb)).2
      omega
    · obtain ⟨eL, pe, ee⟩ := perm_back enc (snd_perm t1 pM) rfl
      have pL : eL.Perm (L.map Prod.snd) := pe.trans (p0.map Prod.snd)
      exact q1 M eL p (tta_perm t1 pM) ee.symm (pL.nodup_iff.mpr ndL) (fun x => pL.mem_iff.trans (memL x)) oM hpn
  rcases hl with hl | hl
  · obtain ⟨its, rv, pl, _⟩ := I1.list (.inl (.inl hl))
    exact fin its rv (.inl pl.isList)
  · obtain ⟨its, rv, pl, _⟩ := I1.tuple (.inl (.inl hl))
    exact fin its rv (.inr pl)
end
end Up
end
section
set_option Elab.async false
set_option linter.all false
set_option maxRecDepth 100000
set_option maxHeartbeats 4000000
/-! sorted(dict), tuple(dict): keys that are tuples of texts, or texts; what sorted gives, as data. -/
namespace Up
open PySem PySem.Spec PyProof.Rows L2
open PySem.W (EachIs AllAlike UpOk dataLt dataLe keyToks alike)

theorem key_txts (us : List Str) : (us.map Sum.inr).map kV = us.map V.str := by
  rw [List.map_map]; rfl
theorem keys_tta {H : Hp} : ∀ {kvs : List (List Key × V)} {bs : List Addr} {ks : List (List Str)}, IsKeys H kvs bs → kvs.map (·.1) = ks.map (·.map Sum.inr) → TtA H (bs.map V.ref) (ks.map strsD)
  | _, _, [], .nil, _ => .nil
  | _, _, _ :: _, .nil, e => by cases e
  | _, _, [], .cons _ _, e => by cases e
  | _, _, k :: ks, .cons (a := p) h t, e => by
    obtain ⟨e1, e2⟩ := List.cons.inj e
    have e1 : p.1 = k.map Sum.inr := e1
    refine .cons (tt_of_strs ?_) (keys_tta t e2)
    rw [e1, key_txts] at h
    exact h
section
variable {X : Cx} {pins : List (Addr × Obj)} {σ : L2.St} {H : Hp} {s : Shared} {Q : VK}
/-- the keys of a dict with tuple keys, collected -/
theorem coll_dT (I : Inv X pins σ H s) {d : Addr} {kvs : List (List Key × V)} (hd : H d = some (.dT kvs)) : ∃ (o : Obj) (es : Array DictEntry) (ep : Nat) (bs : List Addr), (d == sysModules) = false ∧ s.heap.get? d = some o ∧ o.ExactDict ∧ o.data = .dict es ep ∧ es.size = bs.length ∧ kvs.length = bs.length ∧ kvs.length ≤ sizeLine ∧ IsKeys H kvs bs ∧
    ∀ acc : Array Value, ItemsOf (fun i v => ∃ en : DictEntry, es[i]? = some en ∧ v = en.key) acc es.size → acc.toList = bs.map Value.ref := by
  obtain ⟨z, hs, ks, pr, o, es, ep, ho, hx, hdt, he, hn⟩ := (show ObjOk X.prog X.w H s.heap d (.dT kvs) from I.hok d _ hd)
  have l1 : es.size = ks.length := size_of_entries he
  have l2 : kvs.length = ks.length := Paired.length pr
  refine ⟨o, es, ep, ks.map fun x => x.2.1, hs, ho, hx, hdt, by rw [List.length_map]; exact l1, by rw [List.length_map]; exact l2, z, isKeys_of pr, fun acc it => ?_⟩
  rw [List.map_map]
  have hl : acc.toList.length = ks.length := by rw [Array.length_toList, it.1]; exact l1
  apply List.ext_getElem?
  intro j
  rw [List.getElem?_map]
  cases hj : acc.toList[j]? with
  | none =>
    have h1 := List.getElem?_eq_none_iff.mp hj
    rw [List.getElem?_eq_none (by omega)]
    rfl
  | some v =>
    obtain ⟨en, hen, hv⟩ := it.2 j v (by rw [← Array.getElem?_toList]; exact hj)
    have qe := entry_at he j
    rw [hen] at qe
    cases hb : ks[j]? with
    | none =>
      rw [hb] at qe
      exact nomatch (show some en = none from qe)
    | some b =>
      rw [hb] at qe
      have e2 : en = entryOfKey (tupleKind (mixKind X.prog X.w)) b := Option.some.inj qe
      rw [hv, e2]
      rfl
/-- sorted(d), the keys tuples of texts -/
def rSortKT : List V → Hp → VK → Prop := fun vs H Q => ∃ (d : Addr) (kvs : List (List Key × V)) (ks : List (List Str)), vs = [V.ref d] ∧ H d = some (.dT kvs) ∧ kvs.map (·.1) = ks.map (·.map Sum.inr) ∧ ks.length ≤ 100000 ∧
  ∀ (M : List (V × PyData)) (es : List (List Str)) p, TtA H (M.map Prod.fst) (M.map Prod.snd) → M.map Prod.snd = es.map strsD → es.Perm ks → InOrder M → H p = none → Q (.ref p) (upd H p (.lst (M.map Prod.fst)))
theorem cr_sortKT (hc : X.calm = true) (hu : X.A.units + 64 < cLine) : CallR X (.builtin "sorted") rSortKT := by
  intro pins s σ H vs us Q I r h
  obtain ⟨d, kvs, ks, rfl, hd, hk, few, q⟩ := h
  rw [Vals.ref1 r]
  obtain ⟨o, es, ep, bs, hs, ho, hx, hdt, l1, l2, z, ik, ac⟩ := coll_dT I hd
  have tt := keys_tta ik hk
  refine PySem.W.up_sorted (enc := Prod.snd) (R := fun v (b : V × PyData) => RelV b.1 v) fun E' => ?_
  refine up_collect_src (A := X.A.in1) (kdl_raw hs hx hdt) (I.ok.hd hc) ho (by omega) fun h' tk acc k it => ?_
  have I1 : Inv X pins σ H { s with heap := h', toks := tk } := I.kept k
  have rv : Vals (bs.map V.ref) acc.toList := by rw [ac acc it]; exact vals_refs bs
  have SD := sortD_tups ks few
  obtain ⟨as, ra⟩ := Dp.readsAll I1 _ (bs.map V.ref) acc.toList tt.dp rv
  have ez : ((bs.map V.ref).zip (ks.map strsD)).map Prod.snd = ks.map strsD := zip_snd tt.len
  have zl : ((bs.map V.ref).zip (ks.map strsD)).length ≤ sizeLine := by
    have := congrArg List.length ez
    rw [List.length_map, List.length_map] at this
    rw [this]; exact size_ok few
  refine ⟨(bs.map V.ref).zip (ks.map strsD), each_vals rv (by have := PySem.W.readsAll_each (fun d : PyData => d) (bs := ks.map strsD) (as := as) (by rw [List.map_id']; exact ra); exact this), by rw [ez]; exact SD.al, by rw [ez]; exact SD.ok, zl, fun b hb => ?_, fun h2 p out c k2 hp hg e => sort_fin I1 k2 hp hg e zl fun M p pM oM hpn => ?_⟩
  · have := SD.dep b.2 (List.of_mem_zip (show (b.1, b.2) ∈ (bs.map V.ref).zip (ks.map strsD) from hb)).2
    omega
  · obtain ⟨eL, pe, ee⟩ := perm_back strsD (snd_perm tt pM) rfl
    exact q M eL p (tta_perm tt pM) ee.symm pe oM hpn
/-- tuple(d), the keys tuples of texts -/
def rTupKT : List V → Hp → VK → Prop := fun vs H Q => ∃ (d : Addr) (kvs : List (List Key × V)) (ks : List (List Str)), vs = [V.ref d] ∧ H d = some (.dT kvs) ∧ kvs.map (·.1) = ks.map (·.map Sum.inr) ∧
  ∀ (xs : List V) p, TtA H xs (ks.map strsD) → H p = none → Q (.ref p) (upd H p (.tup xs))
theorem cr_tupKT (hc : X.calm = true) : CallR X (.type "tuple") rTupKT := by
  intro pins s σ H vs us Q I r h
  obtain ⟨d, kvs, ks, rfl, hd, hk, q⟩ := h
  rw [Vals.ref1 r]
  obtain ⟨o, es, ep, bs, hs, ho, hx, hdt, l1, l2, z, ik, ac⟩ := coll_dT I hd
  have tt := keys_tta ik hk
  refine up_tuple_src (kdl_raw hs hx hdt) (I.ok.hd hc) ho (by omega) (by decide) fun h' tk acc k it => ?_
  have I1 : Inv X pins σ H { s with heap := h', toks := tk } := I.kept k
  have rv : Vals (bs.map V.ref) acc.toList := by rw [ac acc it]; exact vals_refs bs
  refine ⟨.ref h'.objs.size, upd H h'.objs.size (.tup (bs.map V.ref)), I1.laid (t' := tk) (fun c o e => Heap.get?_push_of_some _ e) (Nat.le_refl _) (show ObjOk X.prog X.w _ _ _ (.tup (bs.map V.ref)) from ⟨?_, acc.toList, rv, ?_⟩), rfl, q _ _ tt (I1.hok.fresh (Nat.le_refl _))⟩
  · rw [List.length_map, ← l2]; exact z
  · rw [Array.toArray_toList]; exact IsTup.new _ _
/-- tuple(d), the keys texts -/
def rTupKS : List V → Hp → VK → Prop := fun vs H Q => ∃ (d : Addr) (kvs : List (Key × V)) (ks : List Str), vs = [V.ref d] ∧ H d = some (.dK kvs) ∧ kvs.map (·.1) = ks.map Sum.inr ∧ ∀ p, H p = none → Q (.ref p) (upd H p (.tup (ks.map V.str)))
theorem cr_tupKS (hc : X.calm = true) : CallR X (.type "tuple") rTupKS := by
  intro pins s σ H vs us Q I r h
  obtain ⟨p, kvs, ks, rfl, hk, hks, q⟩ := h
  rw [Vals.ref1 r]
  obtain ⟨z, lo, vs, rk, hd⟩ := (show ObjOk X.prog X.w H s.heap p (.dK kvs) from I.hok p _ hk)
  obtain ⟨ep, hat⟩ := hd.dictAt
  have hl : kvs.length = vs.length := Paired.length rk
  have hkl : kvs.length = ks.length := by have := congrArg List.length hks; rwa [List.length_map, List.length_map] at this
  refine up_tuple_src (PySem.W.kdl_dict (knd := mixKind X.prog X.w) (kvs := vs) (ep := ep) lo) (I.ok.hd hc) hat (by rw [← hl]; exact z) (by decide) fun h' tk acc k it => ?_
  have I1 : Inv X pins σ H { s with heap := h', toks := tk } := I.kept k
  have rv : Vals (ks.map V.str) acc.toList := by
    have el : acc.toList.length = acc.size := by simp
    refine vals_of_at (by rw [List.length_map, el, it.1, ← hkl, hl]) fun j x w h1 h2 => ?_
    obtain ⟨k, y, hky, hi⟩ := it.2 j w (by rw [← Array.getElem?_toList]; exact h2)
    have e1 : (kvs.map (·.1))[j]? = some k := by
      rw [KV.keys rk, List.getElem?_map, hky]; rfl
    rw [hks, List.getElem?_map] at e1
    rw [List.getElem?_map] at h1
    cases e4 : ks[j]? with
    | none => rw [e4] at e1; cases e1
    | some u =>
      rw [e4] at e1 h1
      have e5 : Sum.inr u = k := Option.some.inj e1
      have e6 : V.str u = x := Option.some.inj h1
      subst e5 e6
      exact keyIs_rel (k := Sum.inr u) hi
  refine ⟨.ref h'.objs.size, upd H h'.objs.size (.tup (ks.map V.str)), I1.laid (t' := tk) (fun c o e => Heap.get?_push_of_some _ e) (Nat.le_refl _) (show ObjOk X.prog X.w _ _ _ (.tup (ks.map V.str)) from ⟨?_, acc.toList, rv, ?_⟩), rfl, q _ (I1.hok.fresh (Nat.le_refl _))⟩
  · rw [List.length_map, ← hkl]; exact z
  · rw [Array.toArray_toList]; exact IsTup.new _ _
end

/-! ### ascending texts -/
def ltS (x y : Str) : Prop := x.cps.toList < y.cps.toList
def Asc (us : List Str) : Prop := us.Pairwise ltS
theorem ltS_irrefl (x : Str) : ¬ ltS x x := List.lt_irrefl _
theorem ltS_trans {x y z : Str} (a : ltS x y) (b : ltS y z) : ltS x z := List.lt_trans a b
theorem ltS_tri {x y : Str} (h : ¬ ltS y x) (n : x ≠ y) : ltS x y := by
  have h1 : x.cps.toList ≤ y.cps.toList := List.not_lt.mp h
  by_cases q : x.cps.toList < y.cps.toList
  · exact q
  · exact absurd (PySem.W.str_of_cps (List.le_antisymm h1 (List.not_lt.mp q))) n
theorem asc_nodup {us : List Str} (h : Asc us) : us.Nodup := List.Pairwise.imp (fun {a b} (q : ltS a b) => (fun e => ltS_irrefl a (by rw [← e] at q; exact q) : a ≠ b)) h
theorem asc_of {M : List (V × PyData)} {es : List Str} (e : M.map Prod.snd = es.map PyData.str) (nd : es.Nodup) (o : InOrder M) : Asc es := by
  have o2 : (M.map Prod.snd).Pairwise fun a b => dataLt b a = false := List.pairwise_map.mpr o
  rw [e, List.pairwise_map] at o2
  refine List.Pairwise.imp₂ (fun {a b} h1 h2 => ?_) o2 nd
  rw [PySem.W.dataLt_str, decide_eq_false_iff_not] at h1
  exact ltS_tri h1 h2
theorem asc_uniq : ∀ {us vs : List Str}, Asc us → Asc vs → (∀ x, x ∈ us ↔ x ∈ vs) → us = vs
  | [], [], _, _, _ => rfl
  | [], v :: vs, _, _, h => absurd ((h v).mpr List.mem_cons_self) (by simp)
  | u :: us, [], _, _, h => absurd ((h u).mp List.mem_cons_self) (by simp)
  | u :: us, v :: vs, a, b, h => by
    obtain ⟨a1, a2⟩ := List.pairwise_cons.mp a
    obtain ⟨b1, b2⟩ := List.pairwise_cons.mp b
    have e : u = v := by
      rcases List.mem_cons.mp ((h u).mp List.mem_cons_self) with q | q
      · exact q
      · rcases List.mem_cons.mp ((h v).mpr List.mem_cons_self) with q2 | q2
        · exact q2.symm
        · exact absurd (ltS_trans (a1 v q2) (b1 u q)) (ltS_irrefl u)
    subst e
    rw [asc_uniq a2 b2 fun x => ?_]
    constructor
    · intro hx
      rcases List.mem_cons.mp ((h x).mp (List.mem_cons_of_mem _ hx)) with q | q
      · exact absurd (a1 x hx) (by rw [q]; exact ltS_irrefl u)
      · exact q
    · intro hx
      rcases List.mem_cons.mp ((h x).mpr (List.mem_cons_of_mem _ hx)) with q | q
      · exact absurd (b1 x hx) (by rw [q]; exact ltS_irrefl u)
      · exact q

/-! ### what sorted gives -/
section
variable {te : TE} {σ : L2.St} {H : Hp}
theorem isL_new {H : Hp} {p : Addr} {xs : List V} {ds : List PyData} (h : TtA H xs ds) (hp : H p = none) : IsL ds (.ref p) (upd H p (.lst xs)) := ⟨p, xs, rfl, upd_same, h.same (same_new hp)⟩
theorem ev_sortSetS {us : List Str} (h : Ev te σ H (SeqS us)) (few : us.length < 64) : Ev (tSortSet PyData.str te) σ H (fun v H' => ∃ ys : List Str, IsL (ys.map .str) v H' ∧ Asc ys ∧ ∀ x, x ∈ ys ↔ x ∈ us) := fun H1 e Q q =>
  h H1 e _ fun v H2 e2 ⟨a, ev, ha⟩ => ⟨a, us.map V.str, us, ev, ha.symm, tta_of_strs us, few, fun M es p t m nd mem o hp => by
    rw [m] at t
    exact q _ _ (e2.trans (same_new hp)) ⟨es, isL_new t hp, asc_of m nd o, mem⟩⟩
theorem ev_sortSetT {ts : List (List Str)} (h : Ev te σ H (IsL (ts.map strsD))) (few : ts.length < 64) : Ev (tSortSet strsD te) σ H (fun v H' => ∃ es : List (List Str), IsL (es.map strsD) v H' ∧ es.Nodup ∧ ∀ x, x ∈ es ↔ x ∈ ts) := fun H1 e Q q =>
  h H1 e _ fun v H2 e2 ⟨a, xs, ev, ha, t0⟩ => ⟨a, xs, ts, ev, .inl ha, t0, few, fun M es p t m nd mem o hp => by
    rw [m] at t
    exact q _ _ (e2.trans (same_new hp)) ⟨es, isL_new t hp, nd, mem⟩⟩
/-- sorted(x), x a list or a tuple -/
theorem ev_sortL {ds : List PyData} (h : Ev te σ H (IsL ds)) (D : SortD ds) : Ev (tCB rSortQ (tCons te tNil)) σ H (fun v H' => ∃ M : List (V × PyData), IsL (M.map Prod.snd) v H' ∧ (M.map Prod.snd).Perm ds ∧ InOrder M) := ev_cb (ea_one h) fun vs H1 _ ⟨v, hv, a, xs, e1, ha, t⟩ Q q => by
  subst hv e1
  exact ⟨a, xs, ds, rfl, .inl ha, t, D, fun M p pm o hp => q _ _ (same_new hp) ⟨M, isL_new (tta_perm t pm) hp, snd_perm t pm, o⟩⟩
theorem ev_sortT {ds : List PyData} (h : Ev te σ H (IsT (.tuple ds))) (D : SortD ds) : Ev (tCB rSortQ (tCons te tNil)) σ H (fun v H' => ∃ M : List (V × PyData), IsL (M.map Prod.snd) v H' ∧ (M.map Prod.snd).Perm ds ∧ InOrder M) := ev_cb (ea_one h) fun vs H1 _ ⟨v, hv, p⟩ Q q => by
  subst hv
  obtain ⟨a, xs, rfl, ha, t⟩ := tt_tup p
  exact ⟨a, xs, ds, rfl, .inr ha, t, D, fun M p pm o hp => q _ _ (same_new hp) ⟨M, isL_new (tta_perm t pm) hp, snd_perm t pm, o⟩⟩
/-- sorted texts, none twice -/
theorem ev_sortTS {us : List Str} (h : Ev te σ H (IsT (strsD us))) (nd : us.Nodup) (few : us.length ≤ 100000) : Ev (tCB rSortQ (tCons te tNil)) σ H (fun v H' => ∃ ys : List Str, IsL (ys.map .str) v H' ∧ Asc ys ∧ ys.Perm us) :=
  (ev_sortT h (sortD_strs us few)).imp fun v H1 _ ⟨M, h1, pm, o⟩ => by
    obtain ⟨es, pe, ee⟩ := perm_back PyData.str pm rfl
    exact ⟨es, by rw [ee]; exact h1, asc_of ee.symm (pe.nodup_iff.mpr nd) o, pe⟩
theorem ev_sortLS {us : List Str} (h : Ev te σ H (IsL (us.map .str))) (nd : us.Nodup) (few : us.length ≤ 100000) : Ev (tCB rSortQ (tCons te tNil)) σ H (fun v H' => ∃ ys : List Str, IsL (ys.map .str) v H' ∧ Asc ys ∧ ys.Perm us) :=
  (ev_sortL h (sortD_strs us few)).imp fun v H1 _ ⟨M, h1, pm, o⟩ => by
    obtain ⟨es, pe, ee⟩ := perm_back PyData.str pm rfl
    exact ⟨es, by rw [ee]; exact h1, asc_of ee.symm (pe.nodup_iff.mpr nd) o, pe⟩
end
end Up
end
section
set_option Elab.async false
set_option linter.all false
set_option maxRecDepth 100000
set_option maxHeartbeats 4000000
/-! Loops read by an invariant; lists and dicts that change. -/
namespace Up
open PySem PySem.Spec PyProof.Rows L2

/-- the lists stay -/
def LEx (H H' : Hp) : Prop := TEx H H' ∧ ∀ a xs, H a = some (.lst xs) → H' a = some (.lst xs)
def DEx (H H' : Hp) : Prop := TEx H H' ∧ ∀ a xs, H a = some (.dK xs) → H' a = some (.dK xs)
theorem LEx.refl (H : Hp) : LEx H H := ⟨TEx.refl H, fun _ _ h => h⟩
theorem DEx.refl (H : Hp) : DEx H H := ⟨TEx.refl H, fun _ _ h => h⟩
theorem LEx.trans {H H1 H2 : Hp} (a : LEx H H1) (b : LEx H1 H2) : LEx H H2 := ⟨a.1.trans b.1, fun x o h => b.2 x o (a.2 x o h)⟩
theorem DEx.trans {H H1 H2 : Hp} (a : DEx H H1) (b : DEx H1 H2) : DEx H H2 := ⟨a.1.trans b.1, fun x o h => b.2 x o (a.2 x o h)⟩
theorem lex_same {H H' : Hp} (e : Same H H') : LEx H H' := ⟨tex_same e, fun _ _ h => e _ _ h⟩
theorem dex_same {H H' : Hp} (e : Same H H') : DEx H H' := ⟨tex_same e, fun _ _ h => e _ _ h⟩
theorem lex_dK {H : Hp} {a : Addr} {kvs : List (Key × V)} {o : HO} (h : H a = some (.dK kvs)) : LEx H (upd H a o) := ⟨tex_dK h, fun b xs e => by rw [upd_ne (show b ≠ a from fun z => by rw [z, h] at e; cases e)]; exact e⟩
theorem lex_dT {H : Hp} {a : Addr} {kvs : List (List Key × V)} {o : HO} (h : H a = some (.dT kvs)) : LEx H (upd H a o) := ⟨tex_dT h, fun b xs e => by rw [upd_ne (show b ≠ a from fun z => by rw [z, h] at e; cases e)]; exact e⟩
theorem dex_lst {H : Hp} {a : Addr} {xs : List V} {o : HO} (h : H a = some (.lst xs)) : DEx H (upd H a o) := ⟨tex_lst h, fun b xs e => by rw [upd_ne (show b ≠ a from fun z => by rw [z, h] at e; cases e)]; exact e⟩
theorem dex_dT {H : Hp} {a : Addr} {kvs : List (List Key × V)} {o : HO} (h : H a = some (.dT kvs)) : DEx H (upd H a o) := ⟨tex_dT h, fun b xs e => by rw [upd_ne (show b ≠ a from fun z => by rw [z, h] at e; cases e)]; exact e⟩
/-- a thing made after H stays as H knew it not -/
theorem same_of {H H' : Hp} {a : Addr} {o : HO} (e : Same H H') (h : H a = none) : Same H (upd H' a o) := same_mut e h
theorem ne_of_kinds {H : Hp} {a b : Addr} {x y : HO} (h : H a = some x) (k : H b = some y) (n : x ≠ y) : a ≠ b := fun e => n (Option.some.inj (h.symm.trans ((congrArg H e).trans k)))

/-! ### what is walked, while other things change -/
def SrcM (M : Hp → Hp → Prop) {β : Type} (wi : TI) (σ : L2.St) (H : Hp) (bs : List β) (R : β → V → Hp → Prop) : Prop := ∀ H0, Same H H0 → ∀ C : It → Hp → Prop,
  (∀ J H1 G Y, Same H0 H1 → Walk J bs.length G Y → (∀ H2 H3, M H2 H3 → G H2 → G H3) → G H1 → (∀ i b x H2 H3, bs[i]? = some b → G H2 → Y i H2 x H3 → Same H2 H3 ∧ R b x H3) → C J H1) → wi σ H0 C
theorem Src.m {β : Type} {wi : TI} {σ : L2.St} {H : Hp} {bs : List β} {R : β → V → Hp → Prop} (h : Src wi σ H bs R) : SrcM Same wi σ H bs R := h
section
variable {K : PySem.W.Frag} {σ : L2.St} {H H' : Hp} {te : TE} {tr : TA} {M : Hp → Hp → Prop}
theorem SrcM.imp {β : Type} {wi : TI} {bs : List β} {R R' : β → V → Hp → Prop} (h : SrcM M wi σ H bs R) (k : ∀ b x H1, R b x H1 → R' b x H1) : SrcM M wi σ H bs R' := fun H0 e C c =>
  h H0 e C fun J H1 G Y e1 w mono g1 yok => c J H1 G Y e1 w mono g1 fun i b x H2 H3 hb g y => let ⟨a, r⟩ := yok i b x H2 H3 hb g y; ⟨a, k _ _ _ r⟩
theorem srcM_map {β γ : Type} {wi : TI} {bs : List β} {R : γ → V → Hp → Prop} (enc : β → γ) (h : SrcM M wi σ H (bs.map enc) R) : SrcM M wi σ H bs (fun b => R (enc b)) := fun H0 e C c =>
  h H0 e C fun J H1 G Y e1 w mono g1 yok => c J H1 G Y e1 (by rw [List.length_map] at w; exact w) mono g1 fun i b x H2 H3 hb g y => yok i (enc b) x H2 H3 (by rw [List.getElem?_map, hb]; rfl) g y
theorem srcM_tup {ds : List PyData} (h : Ev te σ H (IsT (.tuple ds))) : SrcM TEx (iTup K te) σ H ds (fun d x H1 => Tt H1 x d) := fun H0 e C c =>
  h H0 e _ fun v H1 e1 p => by
    obtain ⟨a, xs, rfl, h2, t⟩ := tt_tup p
    refine ⟨a, rfl, ⟨xs, sq_t h2⟩, c (Itt K a) H1 (fun H2 => H2 a = some (.tup xs) ∧ TtA H2 xs ds) (YAt xs) e1 ?_ (fun H2 H3 e3 g => ⟨e3 _ _ g.1, g.2.tex e3⟩) ⟨h2, t⟩ fun i b x H2 H3 hb g y => ?_⟩
    · rw [← t.len]
      exact walk_tup.mono (fun H2 g => sq_t g.1) fun i H2 x H3 _ _ y => y
    · obtain ⟨e3, y⟩ := y
      subst e3
      obtain ⟨d, hd, td⟩ := g.2.get y
      rw [hb] at hd
      cases hd
      exact ⟨Same.refl _, td⟩
theorem srcM_lst {ds : List PyData} (h : Ev te σ H (IsL ds)) : SrcM LEx (iList K te) σ H ds (fun d x H1 => Tt H1 x d) := fun H0 e C c =>
  h H0 e _ fun v H1 e1 ⟨a, xs, hv, h2, t⟩ => by
    refine ⟨a, hv, ⟨xs, sq_l h2⟩, c (Itl K a) H1 (fun H2 => H2 a = some (.lst xs) ∧ TtA H2 xs ds) (YAt xs) e1 ?_ (fun H2 H3 e3 g => ⟨e3.2 _ _ g.1, g.2.tex e3.1⟩) ⟨h2, t⟩ fun i b x H2 H3 hb g y => ?_⟩
    · rw [← t.len]
      exact walk_list.mono (fun H2 g => sq_l g.1) fun i H2 x H3 _ _ y => y
    · obtain ⟨e3, y⟩ := y
      subst e3
      obtain ⟨d, hd, td⟩ := g.2.get y
      rw [hb] at hd
      cases hd
      exact ⟨Same.refl _, td⟩
theorem srcM_rng {n : Nat} (h : EvA tr σ H (fun vs _ => vs = [.int (n : Int)])) (hn : n ≤ 100000) : SrcM (fun _ _ => True) (iRng1 tr) σ H (List.range n) (fun i x _ => x = .int (i : Int)) := fun H0 e C c =>
  h H0 e _ fun vs H1 e1 hv => by
    refine ⟨(n : Int), hv, by omega, by omega, ?_⟩
    rw [Int.toNat_natCast]
    refine c _ H1 (fun _ => True) (YFn fun i => .int (0 + (i : Int))) e1 (by rw [List.length_range]; exact walk_range) (fun _ _ _ _ => True.intro) True.intro fun i b x H2 H3 hb _ y => ?_
    obtain ⟨e3, y⟩ := y
    subst e3
    obtain ⟨hi, hb⟩ := List.getElem?_eq_some_iff.mp hb
    rw [List.getElem_range] at hb
    subst hb
    refine ⟨Same.refl _, y.trans ?_⟩
    show V.int (0 + _) = _
    rw [Int.zero_add]
/-- for, by an invariant -/
theorem s_for {β : Type} {wi : TI} {g : TG} {tb : TS} {D : Ends} {bs : List β} {R : β → V → Hp → Prop} (hsrc : SrcM M wi σ H bs R) (Pv : Hp → Nat → L2.St → Hp → Prop) (h0 : ∀ H1, Same H H1 → Pv H1 0 σ H1) (hM : ∀ H1 i σ' H', Pv H1 i σ' H' → M H1 H')
    (step : ∀ H1, Same H H1 → ∀ i b x σ' H' H'', bs[i]? = some b → Pv H1 i σ' H' → Same H' H'' → R b x H'' → g x σ' H'' fun σ2 H2 => tb { D with nx := Pv H1 (i + 1), ct := Pv H1 (i + 1), bk := D.nx } σ2 H2)
    (done : ∀ H1, Same H H1 → ∀ σ' H', Pv H1 bs.length σ' H' → D.nx σ' H') : tFor wi g tb D σ H :=
  hsrc H (Same.refl H) _ fun J H1 G Y e1 w mono g1 yok => for_it w (Pv H1) (h0 H1 e1) (fun i σ' H' _ p => mono H1 H' (hM H1 i σ' H' p) g1) (fun i x σ' H' H'' hi p y => by
    have hb : bs[i]? = some bs[i] := List.getElem?_eq_getElem hi
    obtain ⟨s3, rb⟩ := yok i _ x H' H'' hb (mono H1 H' (hM H1 i σ' H' p) g1) y
    exact step H1 e1 i _ x σ' H' H'' hb p s3 rb) (fun σ' H' p => done H1 e1 σ' H' p)
/-- while, by a word and a number that falls -/
theorem s_while {c : TT} {tb : TS} {D : Ends} (W : Nat → L2.St → Hp → Prop) (m0 : Nat) (h0 : W m0 σ H)
    (hs : ∀ m σ' H', W m σ' H' → ∃ b, EvT c σ' H' b ∧ (b = true → ∀ H1, Same H' H1 → tb { D with nx := fun σ2 H2 => ∃ m', m' < m ∧ W m' σ2 H2, ct := fun σ2 H2 => ∃ m', m' < m ∧ W m' σ2 H2, bk := D.nx } σ' H1) ∧ (b = false → ∀ H1, Same H' H1 → D.nx σ' H1)) : tWhile c tb D σ H := by
  refine ⟨W, ⟨m0, h0⟩, fun m σ' H' w => ?_⟩
  obtain ⟨b, hb, h1, h2⟩ := hs m σ' H' w
  refine hb H' (Same.refl H') _ fun H1 e => ?_
  cases b with
  | true =>
    rw [if_pos rfl]
    exact ⟨_, fun _ _ h => h, h1 rfl H1 e⟩
  | false =>
    rw [if_neg (by decide)]
    exact h2 rfl H1 e
/-! ### lists that change -/
/-- xs.append(e) -/
theorem s_append {i : Nat} {p : Addr} {D : Ends} {P : V → Hp → Prop} (hv : σ[i]? = some (some (.ref p))) (hl : ∃ xs, H p = some (.lst xs)) (he : Ev te σ H P) (k : ∀ v H1 xs, Same H H1 → P v H1 → H1 p = some (.lst xs) → xs.length < 100000 → D.nx σ (upd H1 p (.lst (xs ++ [v])))) (hz : ∀ xs, H p = some (.lst xs) → xs.length < 100000) :
    tDrop (tBM K "list" rAppend (tVar i) (tCons te tNil)) D σ H := by
  obtain ⟨xs, hp⟩ := hl
  refine ⟨.ref p, hv, .inl ⟨rfl, xs, sq_l hp⟩, he H (Same.refl H) _ fun v H1 e1 pv => ⟨p, xs, v, rfl, rfl, e1 _ _ hp, size_lt (hz xs hp), k v H1 xs e1 pv (e1 _ _ hp) (hz xs hp)⟩⟩
/-- xs.pop() -/
theorem ev_pop {i : Nat} {p : Addr} {xs : List V} {y : V} {Q : VK} (hv : σ[i]? = some (some (.ref p))) (hl : H p = some (.lst (xs ++ [y]))) (k : Q y (upd H p (.lst xs))) : tBM0 K "list" rPop (tVar i) σ H Q := by
  refine ⟨.ref p, hv, .inl ⟨rfl, _, sq_l hl⟩, p, xs ++ [y], y, rfl, rfl, hl, ?_, ?_⟩
  · rw [List.length_append, List.length_singleton, Nat.add_sub_cancel]
    simp
  · rw [List.dropLast_concat]; exact k
/-- xs.pop(i) -/
theorem ev_popAt {i : Nat} {p : Addr} {xs : List V} {y : V} {j : Nat} {Q : VK} (hv : σ[i]? = some (some (.ref p))) (hl : H p = some (.lst xs)) (he : Ev te σ H (fun w _ => w = .int (j : Int))) (hy : xs[j]? = some y) (hz : xs.length ≤ 100000) (k : ∀ H1, Same H H1 → Q y (upd H1 p (.lst (xs.eraseIdx j)))) :
    tBM K "list" rPopAt (tVar i) (tCons te tNil) σ H Q := by
  refine ⟨.ref p, hv, .inl ⟨rfl, _, sq_l hl⟩, he H (Same.refl H) _ fun v H1 e1 pv => ?_⟩
  subst pv
  have hj : j < xs.length := (List.getElem?_eq_some_iff.mp hy).1
  refine ⟨p, xs, _, j, y, rfl, rfl, e1 _ _ hl, by omega, by omega, ?_, hy, k H1 e1⟩
  unfold seqIndex?
  first
    | (rw [if_neg (by omega), if_pos (by omega)]; simp; done)
    | (simp; omega)
/-! ### several names at once, by way of a tuple -/
theorem s_tup2 {i j : Nat} {ta tb : TE} {D : Ends} {P1 P2 : V → Hp → Prop} (m1 : Mono P1) (m2 : Mono P2) (h1 : Ev ta σ H P1) (h2 : Ev tb σ H P2) (k : ∀ x y H1, Same H H1 → P1 x H1 → P2 y H1 → D.nx ((σ.set i (some x)).set j (some y)) H1) :
    tAsg (tTup (tCons ta (tCons tb tNil))) (gTup K 2 (gCons (gName i) (gCons (gName j) gNil))) D σ H := h1 H (Same.refl H) _ fun x H1 e1 p1 => h2 H1 e1 _ fun y H2 e2 p2 => by
  refine ⟨(by show 2 ≤ sizeLine; decide), fun a ha => ⟨a, [x, y], rfl, sq_t upd_same, rfl, x, [y], rfl, y, [], rfl, rfl, k x y _ ((e1.trans e2).trans (same_new ha)) (m1 _ _ _ (e2.trans (same_new ha)) p1) (m2 _ _ _ (same_new ha) p2)⟩⟩
theorem s_tup3 {i j l : Nat} {ta tb tc : TE} {D : Ends} {P1 P2 P3 : V → Hp → Prop} (m1 : Mono P1) (m2 : Mono P2) (m3 : Mono P3) (h1 : Ev ta σ H P1) (h2 : Ev tb σ H P2) (h3 : Ev tc σ H P3)
    (k : ∀ x y z H1, Same H H1 → P1 x H1 → P2 y H1 → P3 z H1 → D.nx (((σ.set i (some x)).set j (some y)).set l (some z)) H1) :
    tAsg (tTup (tCons ta (tCons tb (tCons tc tNil)))) (gTup K 3 (gCons (gName i) (gCons (gName j) (gCons (gName l) gNil)))) D σ H := h1 H (Same.refl H) _ fun x H1 e1 p1 => h2 H1 e1 _ fun y H2 e2 p2 => h3 H2 (e1.trans e2) _ fun z H3 e3 p3 => by
  refine ⟨(by show 3 ≤ sizeLine; decide), fun a ha => ⟨a, [x, y, z], rfl, sq_t upd_same, rfl, x, [y, z], rfl, y, [z], rfl, z, [], rfl, rfl, k x y z _ ((e1.trans (e2.trans e3)).trans (same_new ha)) (m1 _ _ _ (e2.trans (e3.trans (same_new ha))) p1) (m2 _ _ _ (e3.trans (same_new ha)) p2) (m3 _ _ _ (same_new ha) p3)⟩⟩
end
theorem pgn {X : Cx} (i : Nat) {x : Str} {pos : Pos} (hN : X.N.Nodup) (hi : X.N[i]? = some x := by rfl) (hx : Loc X.env.scope x := by first | exact Or.inl rfl | exact Or.inr rfl) (hf : X.fn x = true ∨ X.env.scope.names.lookup x = some .local := by first | exact .inl rfl | exact .inr rfl) : PG X (.Name x pos) (gName i) := pg_name hN hi hx hf
end Up
end
section
set_option Elab.async false
set_option linter.all false
set_option maxRecDepth 100000
set_option maxHeartbeats 4000000
/-! The defs set_of, check_units, row_within, greatest_within, is_standing. -/
namespace Up
open PySem PySem.Spec PyProof.Rows L2

theorem ps_no {X : Cx} {st : Stmt} : PS X st (fun _ _ _ => False) := ⟨fun _ _ _ _ _ _ h => h.elim⟩
theorem paired_strs : ∀ us : List Str, Paired (fun (v : V) u => v = .str u) (us.map V.str) us
  | [] => .nil
  | _ :: us => .cons rfl (paired_strs us)
theorem src_seqS {K : PySem.W.Frag} {σ : L2.St} {H : Hp} {us : List Str} {i : Nat} {v : V} (hv : σ[i]? = some (some v)) (h : SeqS us v H) : Src (iSeq K i) σ H us (fun u x _ => x = .str u) := fun H0 e C c => by
  obtain ⟨a, rfl, h⟩ := h
  rcases h with h | h
  · exact .inl (src_strs (ev_vt hv (tt_of_strs h)) H0 e C c)
  · exact .inr (src_strsL (ev_vp (P := IsL (us.map .str)) hv (mono_l _) ⟨a, _, rfl, h, tta_of_strs us⟩) H0 e C c)
/-- the set of some, as ascending texts -/
def Can (ys us : List Str) : Prop := Asc ys ∧ ∀ x, x ∈ ys ↔ x ∈ us
theorem can_uniq {a b us : List Str} (h : Can a us) (k : Can b us) : a = b := asc_uniq h.1 k.1 fun x => (h.2 x).trans (k.2 x).symm

theorem name_go {i : Nat} {x : V} {σ : L2.St} {H : Hp} {C : L2.St → Hp → Prop} (h : C (σ.set i (some x)) H) : gName i x σ H C := h
theorem ev_tupX {K : PySem.W.Frag} {te : TE} {σ : L2.St} {H : Hp} {P : List PyData → Prop} (h : Ev te σ H (fun v H' => ∃ ds, IsL ds v H' ∧ P ds)) : Ev (tCB (rTupOf K) (tCons te tNil)) σ H (fun v H' => ∃ ds, Tt H' v (.tuple ds) ∧ P ds) := ev_cb (ea_one h) fun vs H1 _ ⟨v, hv, ds, ⟨p, xs, h1, h2, t⟩, hp⟩ Q q => by
  subst h1; subst hv
  exact ⟨p, xs, rfl, .inl ⟨sq_l h2, fun l hl => q _ _ (same_new hl) ⟨ds, .tup upd_same (t.same (same_new hl)), hp⟩⟩⟩

section
variable {P : Program} {w : World} {K : PySem.W.Frag} {mg : Str → Option Value} {base : Heap}

/-! set_of(some) -/
def spSetOf : Sp := SpD (α := List Str) (fun us vs H => ∃ v, vs = [v] ∧ SeqS us v H ∧ us.length < 64) (fun us v H => ∃ ys, Tt H v (strsD ys) ∧ Can ys us)
theorem k_set_of (T : Txt K mg) : Kn P w K mg base CX0 1 "set_of" spSetOf := by
  refine T.d_set_of.kn c_set_of (fun vs H Q E h => ?_) (fun f cdv A outer s H vs Q E hr h => ?_)
  · obtain ⟨a, ⟨v, rfl, _⟩, _⟩ := h
    rfl
  · obtain ⟨us, ⟨v, rfl, hv, hz⟩, q⟩ := h
    refine ⟨_, pss_one (ps_ret (pe_callTy cr_tup (by rfl) T.b_tuple (by decide +kernel) (pa_cons (pe_sortSet (setKS _ _) PyData.str is_txt sortD_strs (by rfl) hr.units (by rfl) T.b_sorted (by rfl) T.b_set (by decide +kernel) (by decide +kernel) (pv 0)) pa_nil))), ?_⟩
    have key := ev_sortSetS (te := tVar 0) (σ := start ["some"] [v]) (H := H) (ev_vp rfl (mono_s us) hv) hz
    exact s_ret (ev_tupX (P := fun ds => ∃ ys, ds = ys.map PyData.str ∧ Can ys us) (key.imp fun v H1 _ ⟨ys, h1, h2, h3⟩ => ⟨_, h1, ys, rfl, h2, h3⟩)) fun v H1 e ⟨ds, h1, ys, h2, h3⟩ => q v H1 e ⟨ys, by rw [h2] at h1; exact h1, h3⟩

/-! check_units(book, some) -/
def spCheck : Sp := SpD (α := SBk × List Str) (fun a vs H => ∃ v x, vs = [v, x] ∧ BookV a.1 v H ∧ a.1.length ≤ 1000 ∧ SeqS a.2 x H ∧ ∀ u ∈ a.2, u ∈ unitsM a.1) (fun a v H => v = .non)
theorem k_check_units (T : Txt K mg) : Kn P w K mg base CX0 2 "check_units" spCheck := by
  have G := k_units (P := P) (w := w) (base := base) T
  refine T.d_check_units.kn c_check_units (fun vs H Q E h => ?_) (fun f cdv A outer s H vs Q E hr h => ?_)
  · obtain ⟨a, ⟨v, x, rfl, _⟩, _⟩ := h
    rfl
  · obtain ⟨⟨b, us⟩, ⟨v, x, rfl, hv, hz, hx, hsub⟩, q⟩ := h
    simp only at hv hz hx hsub q
    refine ⟨_, pss_cons (ps_asg (pe_kn G hr pass0 (pa_cons (pv 0) pa_nil)) (pg_name (i := 2) c_check_units.nd rfl (Or.inl rfl)))
      (pss_one (ps_for PassesOwn.never (by rfl) (pi_seq 1 (pv 1)) (pg_name (i := 3) c_check_units.nd rfl (Or.inl rfl)) (pss_one (ps_if (pt_cmpR op_notIn_seq (pv 3) (pv 2) (by rfl)) (pss_one ps_no) pss_nil)))), ?_⟩
    refine q_set (P := IsT (strsD (unitsM b))) (ev_kn (ea_one (ev_vp (P := fun v H => BookV b v H) rfl (fun _ _ _ e q => q.same e) hv)) b (fun vs H2 _ ⟨v, h1, h2⟩ => ⟨v, h1, h2, hz⟩) fun v H2 _ h => h) fun kn H1 e1 hk => ?_
    refine s_for (src_seqS (i := 1) (v := x) rfl (mono_s us _ _ _ e1 hx)).m (fun H2 i σ' H' => Same H2 H' ∧ σ'[2]? = some (some kn) ∧ σ'.length = 4) (fun H2 e2 => ⟨Same.refl _, rfl, rfl⟩) (fun _ _ _ _ p => p.1) ?_ (fun H2 e2 σ' H' p => q _ _ (e1.trans (e2.trans p.1)) rfl)
    rintro H2 e2 i u y σ' H' H'' hb ⟨p1, p2, p3⟩ e3 rfl
    refine name_go (s_if (b := false) ((et_test (ev_nin (us := unitsM b) (ev_var (v := .str u) ?_) (ev_vt (v := kn) ?_ (hk.same (e2.trans (p1.trans e3)))).seqT)).to ?_) (fun z => nomatch z) fun _ H3 e4 => ⟨p1.trans (e3.trans e4), ?_, ?_⟩)
    · exact List.getElem?_set_self (by omega)
    · rw [List.getElem?_set_ne (by decide)]; exact p2
    · have := hsub u (List.mem_of_getElem? hb)
      simp [this]
    · rw [List.getElem?_set_ne (by decide)]; exact p2
    · rw [List.length_set]; exact p3
end
end Up
end
section
set_option Elab.async false
set_option linter.all false
set_option maxRecDepth 100000
set_option maxHeartbeats 4000000
/-! The defs row_within, greatest_within, is_standing. -/
namespace Up
open PySem PySem.Spec PyProof.Rows L2

theorem nodup_len {α : Type} [DecidableEq α] : ∀ {l D : List α}, l.Nodup → (∀ x ∈ l, x ∈ D) → l.length ≤ D.length
  | [], _, _, _ => Nat.zero_le _
  | x :: l, D, hn, hs => by
    obtain ⟨h1, h2⟩ := List.nodup_cons.mp hn
    have hx : x ∈ D := hs x List.mem_cons_self
    have ih := nodup_len (l := l) (D := D.erase x) h2 fun y hy => (List.mem_erase_of_ne (fun e : y = x => h1 (e ▸ hy))).2 (hs y (List.mem_cons_of_mem _ hy))
    have e := List.length_erase_of_mem hx
    have hp : 0 < D.length := List.length_pos_of_mem hx
    rw [List.length_cons]
    omega
section
variable {P : Program} {w : World} {K : PySem.W.Frag} {mg : Str → Option Value} {base : Heap}
/-! row_within(book, some) -/
structure BkOk (b : SBk) : Prop where
  fair : Fair b
  nd : (unitsM b).Nodup
  txt : ∀ u ∈ unitsM b, PyData.strOk u = true
  n16 : b.length ≤ 16
def spRow : Sp := SpD (α := SBk × List Str) (fun a vs H => ∃ v x, vs = [v, x] ∧ BookV a.1 v H ∧ BkOk a.1 ∧ Tt H x (strsD a.2) ∧ (∀ u ∈ a.2, u ∈ unitsM a.1) ∧ a.2.length ≤ 1000) (fun a v H => ∃ f, Tt H v (strsD f) ∧ MaxRow a.1 a.2 f)
theorem k_row_within (T : Txt K mg) : Kn P w K mg base CX0 5 "row_within" spRow := by
  have G1 := k_table_of (P := P) (w := w) (base := base) T
  have G2 := k_lets (P := P) (w := w) (base := base) T
  refine T.d_row_within.kn c_row_within (fun vs H Q E h => ?_) (fun f cdv A outer s H vs Q E hr h => ?_)
  · obtain ⟨a, ⟨v, x, rfl, _⟩, _⟩ := h
    rfl
  · obtain ⟨⟨b, us⟩, ⟨v, x, rfl, hv, hb, hx, hsub, hz⟩, q⟩ := h
    simp only at hv hb hx hsub hz q
    refine ⟨_, pss_cons (ps_asg (pe_tup (pa_cons (pe_kn G1 hr pass0 (pa_cons (pv 0) pa_nil)) (pa_cons (pe_tup pa_nil) (pa_cons pe_bl pa_nil)))) (pg_tup (by rfl) (pgs_cons (pgn 2 c_row_within.nd) (pgs_cons (pgn 3 c_row_within.nd) (pgs_cons (pgn 4 c_row_within.nd) pgs_nil)))))
      (pss_cons (ps_while PassesOwn.never (pt_val (pv 4)) (pss_cons (ps_setLc (own := [("unit", 6)]) (g := gName 6) (i := 5) (by rfl) c_row_within.nd (by rfl) (by rfl) (sw_true rfl rfl rfl (by decide +kernel)) (pi_tup (pv 1))
          (blkOk_by (N := ["book", "some", "table", "found", "grown", "later", "unit"]) (sc := defScope s_row_within) (by decide +kernel)) (fun _ _ _ _ _ => pg_name (i := 6) c_row_within.nd rfl (Or.inl rfl))
          (fun _ _ _ _ _ => pts_one (pt_val (pe_kn G2 (hr.mono (by decide)) pass0 (pa_cons (pv 2) (pa_cons (pv 3) (pa_cons (pv 6) pa_nil)))))) (fun _ _ _ _ _ => pv 6))
        (pss_cons (ps_asg (pe_cmpR op_gt (pe_callB cr_len (by rfl) T.b_len (by decide +kernel) (pa_cons (pv 5) pa_nil)) pe_int (by rfl)) (pgn 4 c_row_within.nd))
        (pss_one (ps_asg (pe_ifExp (pt_val (pv 4)) (pe_tup (StX.pa_star (pv 3) (pa_cons (pe_ix ix_list (pv 5) pe_int (fun _ _ => rfl)) pa_nil))) (pv 3)) (pgn 3 c_row_within.nd))))))
      (pss_one (ps_ret (pv 3)))), ?_⟩
    refine s_tup3 (K := K) (mono_tab b) (mono_t (strsD [])) (mono_v (.bl true)) (ev_kn (ea_one (ev_vp (P := fun v H => BookV b v H) rfl (fun _ _ _ e q => q.same e) hv)) b (fun vs H2 _ ⟨v, h1, h2⟩ => ⟨v, h1, h2, hb.fair.few, hb.nd⟩) fun v H2 _ ⟨a, kvs, h1, h2, h3⟩ => ⟨a, kvs, h1, .inl h2, h3⟩) (ev_tup ts_nil (Nat.zero_le _)) ev_c fun tv fv gv H1 e1 ht hf hg => ?_
    subst hg
    refine s_while (fun m σ' H' => ∃ (f : List Str) (fv : V) (g : Bool) (l5 l6 : Option V), σ' = [some v, some x, some tv, some fv, some (.bl g), l5, l6] ∧ Same H1 H' ∧ Tt H' fv (strsD f) ∧ Row b f ∧ (∀ u ∈ f, u ∈ us) ∧ (g = false → ∀ u ∈ us, letsM b f u = false) ∧ m = 2 * (us.length - f.length) + (if g = true then 1 else 0)) _
      ⟨[], fv, true, none, none, rfl, Same.refl _, hf, .nil, (fun u hu => by cases hu), (fun z => nomatch z), rfl⟩ ?_
    rintro m σ' H' ⟨f, fv, g, l5, l6, rfl, s1, tf, rf, sf, gf, rfl⟩
    refine ⟨g, et_B (ev_var rfl), fun hg H2 e2 => ?_, fun hg H2 e2 => ?_⟩
    · subst hg
      have s2 := s1.trans e2
      have key := ev_lc (te := tVar 6) (tt := tB (tCall spLets [] E0 (tCons (tVar 2) (tCons (tVar 3) (tCons (tVar 6) tNil))))) (g := gName 6) (vs := [6]) (σ := [some v, some x, some tv, some fv, some (.bl true), l5, l6]) (H := H2) (src_strs (K := K) (te := tVar 1) (ev_vt (v := x) rfl (hx.same (e1.trans s2)))) (fun u => letsM b f u) PyData.str (by omega) fun u hu y H3 e3 hy C c => by
        subst hy
        refine c [some v, some x, some tv, some fv, some (.bl true), l5, some (.str u)] _ (Same.refl _) rfl ?_ fun _ => (ev_var rfl).tstr
        exact et_B (ev_kn (ea_cons (mono_tab b) (ev_vp (v := tv) rfl (mono_tab b) (mono_tab b _ _ _ (s2.trans e3) ht)) (ea_two (mono_t (strsD f)) (ev_vt (v := fv) rfl (tf.same (e2.trans e3))) (ev_var (v := .str u) rfl))) (b, f, u)
          (fun vs H4 _ ⟨t, r, h1, h2, v1, v2, h3, h4, h5⟩ => ⟨t, v1, by rw [h1, h3, h5], h2, h4, hsub u hu, hb.fair⟩) fun v H4 _ h => h)
      refine q_set key fun lv H3 e3 hl => ?_
      refine q_set (ev_I0 (ev_lenL (K := K) (te := tVar 5) (σ := [some v, some x, some tv, some fv, some (.bl true), some lv, l6]) (ev_vp (P := IsL _) rfl (mono_l _) hl)) ev_c) fun gv H4 e4 hg => ?_
      subst hg
      rw [List.length_map]
      have s4 := (s2.trans e3).trans e4
      cases hla : us.filter fun u => letsM b f u with
      | nil =>
        rw [hla] at hl
        refine s_set (ev_if (P := IsT (strsD f)) (b := false) (et_B (ev_var (v := .bl false) rfl)) (fun z => nomatch z) fun _ => ev_vt (v := fv) rfl (tf.same (e2.trans (e3.trans e4)))) fun fv' H5 e5 hf' => ?_
        refine ⟨_, ?_, f, fv', false, some lv, l6, rfl, s4.trans e5, hf', rf, sf, fun _ u hu => ?_, rfl⟩
        · show 2 * (us.length - f.length) + 0 < 2 * (us.length - f.length) + 1
          omega
        · cases q : letsM b f u with
          | false => rfl
          | true => exact absurd (List.mem_filter.mpr ⟨hu, q⟩) (by rw [hla]; simp)
      | cons u r =>
        rw [hla] at hl
        have hu : u ∈ us ∧ letsM b f u = true := List.mem_filter.mp (by rw [hla]; exact List.mem_cons_self)
        have row : Row b (f ++ [u]) := .snoc rf hu.2
        have sub : ∀ z ∈ f ++ [u], z ∈ us := fun z hz => (List.mem_append.mp hz).elim (sf z) fun q => by rw [List.mem_singleton.mp q]; exact hu.1
        have len := nodup_len row.nodup sub
        have len2 : f.length + 1 ≤ us.length := by rw [List.length_append] at len; exact len
        have gt : decide ((0 : Int) < ((u :: r).length : Nat)) = true := by simp
        rw [gt]
        refine s_set (ev_if (P := IsT (strsD (f ++ [u]))) (b := true) (et_B (ev_var (v := .bl true) rfl)) (fun _ => ?_) fun z => nomatch z) fun fv' H5 e5 hf' => ?_
        · have t := ev_tup (σ := [some v, some x, some tv, some fv, some (.bl true), some lv, l6]) (ts_star (K := K) (ev_vt (i := 3) (v := fv) rfl (tf.same (e2.trans (e3.trans e4)))) (ts_cons (ev_ixL (K := K) (i := 0) (ev_vp (i := 5) (v := lv) (P := IsL _) rfl (mono_l _) (hl.same e4)) ev_c rfl) ts_nil)) (by
            rw [List.length_append, List.length_map]
            show f.length + 1 ≤ 100000
            omega)
          rw [show f.map PyData.str ++ [PyData.str u] = (f ++ [u]).map PyData.str from by rw [List.map_append]; rfl] at t
          exact t
        · refine ⟨_, ?_, f ++ [u], fv', true, some lv, l6, rfl, s4.trans e5, hf', row, sub, (fun z => nomatch z), rfl⟩
          show 2 * (us.length - (f ++ [u]).length) + 1 < 2 * (us.length - f.length) + 1
          rw [List.length_append, List.length_singleton]
          omega
    · subst hg
      exact s_ret (ev_vt (v := fv) rfl (tf.same e2)) fun v' H3 e3 h3 => q v' H3 (e1.trans (s1.trans (e2.trans e3))) ⟨f, h3, rf, sf, gf rfl⟩
/-! greatest_within(book, some) -/
def spGreat : Sp := SpD (α := SBk × List Str) (fun a vs H => ∃ v x, vs = [v, x] ∧ BookV a.1 v H ∧ BkOk a.1 ∧ Tt H x (strsD a.2) ∧ (∀ u ∈ a.2, u ∈ unitsM a.1) ∧ a.2.length < 64) (fun a v H => ∃ f ys, Tt H v (strsD ys) ∧ MaxRow a.1 a.2 f ∧ Can ys f)
theorem k_greatest_within (T : Txt K mg) : Kn P w K mg base CX0 6 "greatest_within" spGreat := by
  have G1 := k_check_units (P := P) (w := w) (base := base) T
  have G2 := k_row_within (P := P) (w := w) (base := base) T
  have G3 := k_set_of (P := P) (w := w) (base := base) T
  refine T.d_greatest_within.kn c_greatest_within (fun vs H Q E h => ?_) (fun f cdv A outer s H vs Q E hr h => ?_)
  · obtain ⟨a, ⟨v, x, rfl, _⟩, _⟩ := h
    rfl
  · obtain ⟨⟨b, us⟩, ⟨v, x, rfl, hv, hb, hx, hsub, hz⟩, q⟩ := h
    simp only at hv hb hx hsub hz q
    refine ⟨_, pss_cons (ps_expr (pe_kn G1 (hr.mono (by decide)) pass0 (pa_cons (pv 0) (pa_cons (pv 1) pa_nil)))) (pss_one (ps_ret (pe_kn G3 (hr.mono (by decide)) pass0 (pa_cons (pe_kn G2 hr pass0 (pa_cons (pv 0) (pa_cons (pv 1) pa_nil))) pa_nil)))), ?_⟩
    have e0 := ev_kn (post := fun (a : SBk × List Str) v H => v = .non) (E := E0) (ea_two (σ := start ["book", "some"] [v, x]) (H := H) (fun _ _ _ e q => q.same e) (ev_vp (i := 0) (P := fun v H => BookV b v H) rfl (fun _ _ _ e q => q.same e) hv) (ev_vt (i := 1) (v := x) rfl hx)) (b, us)
      (pre := fun a vs H => ∃ v x, vs = [v, x] ∧ BookV a.1 v H ∧ a.1.length ≤ 1000 ∧ SeqS a.2 x H ∧ ∀ u ∈ a.2, u ∈ unitsM a.1) (fun vs H2 _ ⟨v, w, h1, h2, h3⟩ => ⟨v, w, h1, h2, hb.fair.few, let ⟨a, e, h4⟩ := tt_strs h3; ⟨a, e, .inl h4⟩, hsub⟩) fun v H2 _ h => h
    refine e0 H (Same.refl H) _ fun _ H1 e1 _ => ?_
    have row := ev_kn (E := E0) (pre := fun (a : SBk × List Str) vs H => ∃ v x, vs = [v, x] ∧ BookV a.1 v H ∧ BkOk a.1 ∧ Tt H x (strsD a.2) ∧ (∀ u ∈ a.2, u ∈ unitsM a.1) ∧ a.2.length ≤ 1000) (post := fun a v H => ∃ f, Tt H v (strsD f) ∧ MaxRow a.1 a.2 f)
      (ea_two (σ := start ["book", "some"] [v, x]) (H := H1) (fun _ _ _ e q => q.same e) (ev_vp (i := 0) (P := fun v H => BookV b v H) rfl (fun _ _ _ e q => q.same e) (hv.same e1)) (ev_vt (i := 1) (v := x) rfl (hx.same e1))) (b, us)
      (fun vs H2 _ ⟨v, w, h1, h2, h3⟩ => ⟨v, w, h1, h2, hb, h3, hsub, (by show us.length ≤ 1000; omega)⟩) fun v H2 _ h => h
    refine row H1 (Same.refl H1) _ fun rv H2 e2 ⟨f, tf, mf⟩ => ?_
    show spSetOf [rv] H2 _ _
    refine ⟨f, ⟨rv, rfl, (let ⟨a, e, h4⟩ := tt_strs tf; ⟨a, e, .inl h4⟩), ?_⟩, fun v' H3 e3 ⟨ys, h3, h4⟩ => q v' H3 (e1.trans (e2.trans e3)) ⟨f, ys, h3, mf, h4⟩⟩
    have := nodup_len mf.row.nodup mf.sub
    exact Nat.lt_of_le_of_lt this hz

/-! is_standing(book, some) -/
theorem lay_strs : ∀ us : List Str, (∀ u ∈ us, PyData.strOk u = true) → PyData.canLayAll0 (us.map PyData.str) = true
  | [], _ => by simp [PyData.canLayAll0]
  | u :: us, h => by
    show PyData.canLayAll0 (.str u :: us.map .str) = true
    rw [PyData.canLayAll0, lay_strs us fun v hv => h v (List.mem_cons_of_mem _ hv)]
    simp [PyData.canLay0, h u List.mem_cons_self]
theorem shaped_strsD {us : List Str} (h : ∀ u ∈ us, PyData.strOk u = true) : SeqAt.shaped (strsD us) = true := by
  unfold SeqAt.shaped
  rw [show (strsD us).canLay0 = true from by
    show (PyData.tuple _).canLay0 = true
    rw [PyData.canLay0]; exact lay_strs us h, Bool.true_and, decide_eq_true_eq]
  exact Nat.le_trans (depth_strsD us) (by decide)
theorem eqv_strs : ∀ us vs : List Str, PyData.eqvAll (us.map PyData.str) (vs.map PyData.str) = decide (us = vs)
  | [], [] => by simp [PyData.eqvAll]
  | [], _ :: _ => by simp [PyData.eqvAll]
  | _ :: _, [] => by simp [PyData.eqvAll]
  | u :: us, v :: vs => by
    show PyData.eqvAll (.str u :: us.map .str) (.str v :: vs.map .str) = _
    rw [PyData.eqvAll, eqv_strs us vs]
    by_cases h1 : u = v <;> by_cases h2 : us = vs <;> simp [h1, h2, PyData.eqv]
theorem eqv_strsD (us vs : List Str) : PyData.eqv (strsD us) (strsD vs) = decide (us = vs) := by
  show PyData.eqv (.tuple _) (.tuple _) = _
  rw [PyData.eqv]; exact eqv_strs us vs
theorem Can.same {ys us : List Str} (h : Can ys us) : Same2 ys us := h.2
def spIs : Sp := SpD (α := SBk × List Str) (fun a vs H => ∃ v x, vs = [v, x] ∧ BookV a.1 v H ∧ BkOk a.1 ∧ Tt H x (strsD a.2) ∧ (∀ u ∈ a.2, u ∈ unitsM a.1) ∧ a.2.length < 64 ∧ Asc a.2) (fun a v H => ∃ r : Bool, v = .bl r ∧ (r = true ↔ Stand a.1 a.2))
theorem k_is_standing (T : Txt K mg) : Kn P w K mg base CX0 7 "is_standing" spIs := by
  have G := k_greatest_within (P := P) (w := w) (base := base) T
  refine T.d_is_standing.kn c_is_standing (fun vs H Q E h => ?_) (fun f cdv A outer s H vs Q E hr h => ?_)
  · obtain ⟨a, ⟨v, x, rfl, _⟩, _⟩ := h
    rfl
  · obtain ⟨⟨b, us⟩, ⟨v, x, rfl, hv, hb, hx, hsub, hz, ha⟩, q⟩ := h
    simp only at hv hb hx hsub hz ha q
    refine ⟨_, pss_one (ps_ret (pe_cmpR (op_eqD hr.units) (pe_kn G hr pass0 (pa_cons (pv 0) (pa_cons (pv 1) pa_nil))) (pe_callTy cr_tup (by rfl) T.b_tuple (by decide +kernel) (pa_cons (pv 1) pa_nil)) (by rfl))), ?_⟩
    have e1 := ev_kn (E := E0) (pre := fun (a : SBk × List Str) vs H => ∃ v x, vs = [v, x] ∧ BookV a.1 v H ∧ BkOk a.1 ∧ Tt H x (strsD a.2) ∧ (∀ u ∈ a.2, u ∈ unitsM a.1) ∧ a.2.length < 64) (post := fun a v H => ∃ f ys, Tt H v (strsD ys) ∧ MaxRow a.1 a.2 f ∧ Can ys f)
      (ea_two (σ := start ["book", "some"] [v, x]) (H := H) (fun _ _ _ e q => q.same e) (ev_vp (i := 0) (P := fun v H => BookV b v H) rfl (fun _ _ _ e q => q.same e) hv) (ev_vt (i := 1) (v := x) rfl hx)) (b, us)
      (fun vs H2 _ ⟨v, w, h1, h2, h3⟩ => ⟨v, w, h1, h2, hb, h3, hsub, hz⟩) fun v H2 _ h => h
    refine e1 H (Same.refl H) _ fun gv H1 s1 ⟨f, ys, tg, mf, cy⟩ => ?_
    refine ev_tupT (K := K) (te := tVar 1) (σ := start ["book", "some"] [v, x]) (ev_vt (v := x) rfl hx) H1 s1 _ fun xv H2 s2 tx => ?_
    refine ⟨strsD ys, strsD us, (tg.same s2).dp, tx.dp, shaped_strsD (fun u hu => hb.txt u (hsub u (mf.sub u ((cy.2 u).mp hu)))), shaped_strsD (fun u hu => hb.txt u (hsub u hu)), q _ H2 (s1.trans s2) ⟨_, rfl, ?_⟩⟩
    rw [eqv_strsD, decide_eq_true_eq, ← mf.stand]
    constructor
    · intro e
      exact (e ▸ cy.same).symm
    · intro h
      exact asc_uniq cy.1 ha fun z => (cy.2 z).trans (h z)
end
end Up
end
section
set_option Elab.async false
set_option linter.all false
set_option maxRecDepth 100000
set_option maxHeartbeats 4000000
/-! Dicts with tuples of texts for keys. -/
namespace Up
open PySem PySem.Spec PyProof.Rows L2

theorem inj_inr {a b : List Str} (h : a.map (Sum.inr : Str → Key) = b.map Sum.inr) : a = b := by
  induction a generalizing b with
  | nil => cases b with
    | nil => rfl
    | cons _ _ => cases h
  | cons x a ih => cases b with
    | nil => cases h
    | cons y b =>
      obtain ⟨h1, h2⟩ := List.cons.inj h
      rw [Sum.inr.inj h1, ih h2]
abbrev kT (k : List Str) : List Key := k.map Sum.inr
theorem valT_some {kvs : List (List Key × V)} {ks : List (List Str)} (e : kvs.map (·.1) = ks.map kT) {k : List Str} (h : k ∈ ks) : ∃ v, valV kvs (kT k) = some v ∧ (kT k, v) ∈ kvs := by
  induction kvs generalizing ks with
  | nil => cases ks with
    | nil => cases h
    | cons _ _ => cases e
  | cons p kvs ih =>
    cases ks with
    | nil => cases h
    | cons k0 ks =>
      obtain ⟨e1, e2⟩ := List.cons.inj e
      have e1 : p.1 = kT k0 := e1
      by_cases q : p.1 = kT k
      · exact ⟨p.2, valV_pos q, by rw [← q]; exact List.mem_cons_self⟩
      · rcases List.mem_cons.mp h with z | z
        · exact absurd (by rw [z]; exact e1) q
        · obtain ⟨v, h1, h2⟩ := ih e2 z
          exact ⟨v, by rw [valV_neg q]; exact h1, List.mem_cons_of_mem _ h2⟩
theorem valT_none {kvs : List (List Key × V)} {ks : List (List Str)} (e : kvs.map (·.1) = ks.map kT) {k : List Str} (h : k ∉ ks) : valV kvs (kT k) = none := by
  induction kvs generalizing ks with
  | nil => rfl
  | cons p kvs ih =>
    cases ks with
    | nil => cases e
    | cons k0 ks =>
      obtain ⟨e1, e2⟩ := List.cons.inj e
      have e1 : p.1 = kT k0 := e1
      rw [List.mem_cons, not_or] at h
      rw [valV_neg (fun q => h.1 (inj_inr (q.symm.trans e1)))]
      exact ih e2 h.2
section
variable {K : PySem.W.Frag} {σ : L2.St} {H : Hp} {td te tk tv : TE}
theorem tup_kT {H : Hp} {v : V} {k : List Str} (h : Tt H v (strsD k)) : ∃ a, v = .ref a ∧ H a = some (.tup ((kT k).map kV)) := by
  obtain ⟨a, e, h⟩ := tt_strs h
  exact ⟨a, e, by rw [key_txts]; exact h⟩
/-- k in d, k not in d -/
theorem ev_inT {g : Addr} {kvs : List (List Key × V)} {ks : List (List Str)} {k : List Str} (hd : Ev td σ H (fun v H' => v = .ref g ∧ H' g = some (.dT kvs))) (e : kvs.map (·.1) = ks.map kT) (hk : Ev te σ H (IsT (strsD k))) :
    Ev (tDIn te td) σ H (fun v _ => v = .bl (decide (k ∈ ks))) := fun H1 a Q q => hk H1 a _ fun y H2 e2 py => hd H2 (a.trans e2) _ fun x H3 e3 ⟨px, hg⟩ => by
  obtain ⟨b, rfl, hb⟩ := tup_kT (py.same e3)
  refine ⟨g, valV kvs (kT k), px, DGet.t hg hb, q _ H3 (e2.trans e3) ?_⟩
  by_cases h : k ∈ ks
  · obtain ⟨v, h1, _⟩ := valT_some e h
    rw [h1, decide_eq_true h]; rfl
  · rw [valT_none e h, decide_eq_false h]; rfl
theorem ev_notInT {g : Addr} {kvs : List (List Key × V)} {ks : List (List Str)} {k : List Str} (hd : Ev td σ H (fun v H' => v = .ref g ∧ H' g = some (.dT kvs))) (e : kvs.map (·.1) = ks.map kT) (hk : Ev te σ H (IsT (strsD k))) :
    Ev (tDNotIn te td) σ H (fun v _ => v = .bl (!decide (k ∈ ks))) := fun H1 a Q q => hk H1 a _ fun y H2 e2 py => hd H2 (a.trans e2) _ fun x H3 e3 ⟨px, hg⟩ => by
  obtain ⟨b, rfl, hb⟩ := tup_kT (py.same e3)
  refine ⟨g, valV kvs (kT k), px, DGet.t hg hb, q _ H3 (e2.trans e3) ?_⟩
  by_cases h : k ∈ ks
  · obtain ⟨v, h1, _⟩ := valT_some e h
    rw [h1, decide_eq_true h]; rfl
  · rw [valT_none e h, decide_eq_false h]; rfl
/-- for k in d, d locked, the keys texts -/
theorem src_keys {i : Nat} {d : Addr} {o : Obj} {kvs : List (Key × V)} {us : List Str} (hv : σ[i]? = some (some (.ref d))) (hd : H d = some (.frz o (.dK kvs))) (hk : kvs.map (·.1) = us.map Sum.inr) :
    SrcM (fun H2 H3 => H2 d = some (.frz o (.dK kvs)) → H3 d = some (.frz o (.dK kvs))) (iKeys (tVar i)) σ H us (fun u x _ => x = .str u) := fun H0 e C c => by
  refine ⟨.ref d, hv, d, o, rfl, .inl ⟨kvs, e _ _ hd, c (Itk d o kvs) H0 (fun H2 => H2 d = some (.frz o (.dK kvs))) (fun i H x H' => H' = H ∧ ∃ k v, kvs[i]? = some (k, v) ∧ x = kV k) (Same.refl _) ?_ (fun H2 H3 m g => m g) (e _ _ hd) fun i b x H2 H3 hb g y => ?_⟩⟩
  · have l : kvs.length = us.length := by have := congrArg List.length hk; rwa [List.length_map, List.length_map] at this
    rw [← l]; exact walk_keys
  · obtain ⟨e3, k, v, h1, h2⟩ := y
    subst e3
    have e1 : (kvs.map (·.1))[i]? = some k := by rw [List.getElem?_map, h1]; rfl
    rw [hk, List.getElem?_map, hb] at e1
    have e2 : Sum.inr b = k := Option.some.inj e1
    subst e2
    exact ⟨Same.refl _, h2⟩
end
theorem vv_one {x y : V} {ws : List (Value × Value)} (h : VV [(x, y)] ws) : ∃ u r, ws = [(u, r)] ∧ RelV x u ∧ RelV y r := by
  cases h with
  | @cons _ b _ _ h t =>
    cases t
    exact ⟨b.1, b.2, rfl, h.1, h.2⟩
/-- {k: v}, the key a tuple of ints and texts -/
def tDisp1T (tk tv : TE) : TE := fun σ H Q => ∀ p, H p = none → tk σ (upd H p (.dT [])) fun x H1 => tv σ H1 fun y H2 => ∃ b ks, x = .ref b ∧ H2 p = some (.dT []) ∧ H2 b = some (.tup (List.map kV ks)) ∧ Q (.ref p) (upd H2 p (.dT [(ks, y)]))
theorem pe_disp1T {X : Cx} {pos : Pos} {k v : Expr} {tk tv : TE} (hu : X.A.units + 64 < cLine) (hk : PE X k tk) (hv : PE X v tv) : PE X (.Dict [some k] [v] pos) (tDisp1T tk tv) := by
  refine ⟨fun pins s σ H Q I q => ?_⟩
  have hn := I.hok.fresh (Nat.le_refl s.heap.objs.size)
  have I1 := I.laid (a := s.heap.objs.size) (o := .dT []) (h' := s.heap.push { cls := .type "dict", data := .dict #[] }) (t' := s.toks) (fun _ _ q => Heap.get?_push_of_some _ q) (Nat.le_refl _) (dt_empty s.heap I.big)
  have run := wpAny_evalPairs_len ((pps_cons (pos := pos) hk hv pps_nil).run pins _ σ _ (fun ps H2 => ∃ b ks, (ps.headD (V.non, V.non)).1 = V.ref b ∧ H2 s.heap.objs.size = some (.dT []) ∧ H2 b = some (.tup (List.map kV ks)) ∧ Q (.ref s.heap.objs.size) (upd H2 s.heap.objs.size (.dT [(ks, (ps.headD (V.non, V.non)).2)]))) I1 (q _ hn))
  rw [arm_eval_Dict, zip_pairTrees [some k] [v] X.env pos rfl rfl, dictDisplay_pairs _ (by intro z; cases z) (by show 1 < 17; decide)]
  refine wpAny_bind (wpAny_standAt (wpAny_bind ?_))
  unfold subDict
  refine wpAny_bind (wpAny_alloc ?_)
  refine wpAny_bind (wpAny_holding ?_)
  rw [if_pos (by show 1 ≤ 15; decide)]
  refine wpAny_bind (thn run fun ws s2 ⟨wl, ps, H2, I2, rel, b, ks, ex, h1, h2, q2⟩ => ?_)
  have pl : ps.length = 1 := (Paired.length rel).trans wl
  obtain ⟨⟨x, y⟩, rfl⟩ : ∃ p, ps = [p] := by
    match ps, pl with
    | [p], _ => exact ⟨p, rfl⟩
  have ex : x = V.ref b := ex
  subst ex
  refine wpAny_holding ?_
  obtain ⟨u, r, rfl, r1, r2⟩ := vv_one rel
  obtain rfl : u = Value.ref b := r1
  obtain ⟨z, hd, xs, kt, dd⟩ := dt_of I2.hok h1
  cases kt
  refine wpAny_bind ?_
  rw [List.forIn_cons]
  refine wpAny_bind (wpAny_bind (wpAny_dictSet_heap (hsz := Nat.zero_le _) (show (tupleKind (mixKind X.prog X.w)).room X.A from by show X.A.units < cLine; omega) (key_of I2.hok h2) dd fun h' dd' hs => wpAny_pure ?_))
  dsimp only
  rw [List.forIn_nil]
  refine wpAny_pure (wpAny_pure ?_)
  refine wpAny_pure (wpAny_pure ?_)
  obtain ⟨qo, es, ep, hq, a2, a3, a4, _, a5⟩ := dd'
  refine ⟨.ref s.heap.objs.size, _, d_write I2 (by rw [h1]; exact True.intro) hs ⟨qo, hq⟩ (show ObjOk X.prog X.w (upd H2 s.heap.objs.size (.dT [(ks, y)])) h' s.heap.objs.size (.dT [(ks, y)]) from ⟨(by show 1 ≤ sizeLine; decide), hd, _, ((KT.put (y := y) (.nil : KT H2 [] []) ks h2 r2)).keeps fun c ys ec => ?_, qo, es, ep, hq, a2, a3, a4, a5⟩), rfl, q2⟩
  rw [upd_ne (ne_of ec h1 (fun z => nomatch z))]
  exact ec
end Up
end
section
set_option Elab.async false
set_option linter.all false
set_option maxRecDepth 100000
set_option maxHeartbeats 4000000
/-! The def standings_of: the canonical standings, all. -/
namespace Up
open PySem PySem.Spec PyProof.Rows L2

theorem ins_asc (x : Str) : ∀ t : List Str, Asc t → ∃ t', Asc t' ∧ ∀ y, y ∈ t' ↔ y = x ∨ y ∈ t
  | [], _ => ⟨[x], List.pairwise_singleton _ _, fun y => by simp⟩
  | a :: t, h => by
    obtain ⟨h1, h2⟩ := List.pairwise_cons.mp h
    by_cases e : x = a
    · exact ⟨a :: t, h, fun y => by rw [e, List.mem_cons, or_iff_right_of_imp (fun z : y = a => Or.inl z)]⟩
    · by_cases l : ltS x a
      · exact ⟨x :: a :: t, List.pairwise_cons.mpr ⟨fun y hy => (List.mem_cons.mp hy).elim (fun z => z ▸ l) fun z => ltS_trans l (h1 y z), h⟩, fun y => List.mem_cons⟩
      · obtain ⟨t', i1, i2⟩ := ins_asc x t h2
        refine ⟨a :: t', List.pairwise_cons.mpr ⟨fun y hy => ?_, i1⟩, fun y => ?_⟩
        · rcases (i2 y).mp hy with z | z
          · rw [z]; exact ltS_tri l (fun q => e q.symm)
          · exact h1 y z
        · rw [List.mem_cons, i2, List.mem_cons]
          constructor
          · rintro (z | z | z)
            · exact .inr (.inl z)
            · exact .inl z
            · exact .inr (.inr z)
          · rintro (z | z | z)
            · exact .inr (.inl z)
            · exact .inl z
            · exact .inr (.inr z)
theorem can_ex : ∀ us : List Str, ∃ t, Can t us
  | [] => ⟨[], List.Pairwise.nil, fun _ => Iff.rfl⟩
  | x :: us => by
    obtain ⟨t, h1, h2⟩ := can_ex us
    obtain ⟨t', i1, i2⟩ := ins_asc x t h1
    exact ⟨t', i1, fun y => by rw [i2, h2, List.mem_cons]⟩
def subs : List Str → List (List Str)
  | [] => [[]]
  | x :: r => subs r ++ (subs r).map (x :: ·)
theorem subs_len : ∀ U : List Str, (subs U).length = 2 ^ U.length
  | [] => rfl
  | x :: r => by
    show (subs r ++ (subs r).map (x :: ·)).length = _
    rw [List.length_append, List.length_map, subs_len r, List.length_cons, Nat.pow_succ]; omega
theorem filter_subs (p : Str → Bool) : ∀ U : List Str, U.filter p ∈ subs U
  | [] => List.mem_singleton.mpr rfl
  | x :: r => by
    rw [List.filter_cons]
    split
    · exact List.mem_append_right _ (List.mem_map.mpr ⟨_, filter_subs p r, rfl⟩)
    · exact List.mem_append_left _ (filter_subs p r)
/-- ascending rows of some texts are few -/
theorem few_asc {U : List Str} {ks : List (List Str)} (nd : ks.Nodup) (h : ∀ k ∈ ks, Asc k ∧ ∀ u ∈ k, u ∈ U) : ks.length ≤ 2 ^ U.length := by
  have n2 : (ks.map fun k => U.filter fun u => decide (u ∈ k)).Nodup := by
    refine List.pairwise_map.mpr (List.Pairwise.imp_of_mem (fun {a b} ha hb hne e => hne ?_) nd)
    refine asc_uniq (h a ha).1 (h b hb).1 fun x => ?_
    have m : x ∈ U.filter (fun u => decide (u ∈ a)) ↔ x ∈ U.filter (fun u => decide (u ∈ b)) := by rw [e]
    rw [List.mem_filter, List.mem_filter, decide_eq_true_eq, decide_eq_true_eq] at m
    constructor
    · intro hx; exact (m.mp ⟨(h a ha).2 x hx, hx⟩).2
    · intro hx; exact (m.mpr ⟨(h b hb).2 x hx, hx⟩).2
  have l := nodup_len n2 (D := subs U) fun x hx => by
    obtain ⟨k, _, rfl⟩ := List.mem_map.mp hx
    exact filter_subs _ U
  rw [List.length_map, subs_len] at l
  exact l
def ClosedIn (b : SBk) (ks : List (List Str)) (k U : List Str) : Prop := ∀ u ∈ U, letsM b k u = true → ∃ t ∈ ks, Can t (k ++ [u])
theorem ClosedIn.mono {b : SBk} {ks ks' : List (List Str)} {k U : List Str} (h : ClosedIn b ks k U) (hs : ∀ x ∈ ks, x ∈ ks') : ClosedIn b ks' k U := fun u hu hl => let ⟨t, h1, h2⟩ := h u hu hl; ⟨t, hs t h1, h2⟩
/-- standings known, some of them fresh -/
structure Known (b : SBk) (ks fs : List (List Str)) : Prop where
  nd : ks.Nodup
  ok : ∀ k ∈ ks, Asc k ∧ Stand b k
  nil : [] ∈ ks
  sub : ∀ k ∈ fs, k ∈ ks
  len : fs.length ≤ ks.length
theorem Known.few {b : SBk} {ks fs : List (List Str)} (h : Known b ks fs) : ks.length ≤ 2 ^ (unitsM b).length := few_asc h.nd fun k hk => ⟨(h.ok k hk).1, (h.ok k hk).2.units⟩
theorem Known.all {b : SBk} {ks fs : List (List Str)} (h : Known b ks fs) (c : ∀ k ∈ ks, ClosedIn b ks k (unitsM b)) : ∀ k, k ∈ ks ↔ Asc k ∧ Stand b k := by
  have key : ∀ {r : List Str}, Row b r → ∃ t ∈ ks, Can t r := by
    intro r hr
    induction hr with
    | nil => exact ⟨[], h.nil, List.Pairwise.nil, fun _ => Iff.rfl⟩
    | @snoc r u _ hl ih =>
      obtain ⟨t, ht, hc⟩ := ih
      obtain ⟨t', h1, h2⟩ := c t ht u (lets_unit hl) (by rw [lets_same hc.2]; exact hl)
      exact ⟨t', h1, h2.1, fun x => by rw [h2.2, List.mem_append, List.mem_append, hc.2]⟩
  intro k
  refine ⟨h.ok k, fun ⟨h1, r, hr, e⟩ => ?_⟩
  obtain ⟨t, ht, hc⟩ := key hr
  rw [← asc_uniq hc.1 h1 fun x => (hc.2 x).trans (e x)]
  exact ht
section
variable {P : Program} {w : World} {K : PySem.W.Frag} {mg : Str → Option Value} {base : Heap}
/-- the dict of standings -/
def IsStands (b : SBk) : V → Hp → Prop := fun v H => ∃ (g : Addr) (kvs : List (List Key × V)) (ks : List (List Str)), v = .ref g ∧ H g = some (.dT kvs) ∧ kvs.map (·.1) = ks.map kT ∧ ks.Nodup ∧ (∀ k, k ∈ ks ↔ Asc k ∧ Stand b k)
theorem mono_stands (b : SBk) : Mono (IsStands b) := fun _ _ _ e ⟨g, kvs, ks, h1, h2, h3⟩ => ⟨g, kvs, ks, h1, e _ _ h2, h3⟩
def spStands : Sp := SpD (α := SBk) (fun b vs H => ∃ v, vs = [v] ∧ BookV b v H ∧ BkOk b) (fun b v H => IsStands b v H)
/-- the def's three: table, found, fresh -/
structure Three (H0 : Hp) (d g l : Addr) (tab : HO) (tk : List (Key × V)) (b : SBk) (ks fs : List (List Str)) (H : Hp) : Prop where
  same : ∀ c x, c ≠ d → H0 c = some x → H c = some x
  tab : H d = some tab
  tt : TabAt b tk H
  fnd : ∃ kvs, H g = some (.dT kvs) ∧ kvs.map (·.1) = ks.map kT ∧ ∀ p ∈ kvs, ∃ r, Tt H p.2 (strsD r) ∧ r.length ≤ p.1.length
  frs : ∃ xs, H l = some (.lst xs) ∧ TtA H xs (fs.map strsD)
theorem Three.up {H0 H H' : Hp} {d g l : Addr} {tab : HO} {tk : List (Key × V)} {b : SBk} {ks fs : List (List Str)} (h : Three H0 d g l tab tk b ks fs H) (e : Same H H') : Three H0 d g l tab tk b ks fs H' :=
  ⟨fun c x n q => e _ _ (h.same c x n q), e _ _ h.tab, h.tt.tex (tex_same e), let ⟨kvs, a, b, c⟩ := h.fnd; ⟨kvs, e _ _ a, b, fun p hp => let ⟨r, x, y⟩ := c p hp; ⟨r, x.same e, y⟩⟩, let ⟨xs, a, t⟩ := h.frs; ⟨xs, e _ _ a, t.same e⟩⟩
theorem tta_snoc {H : Hp} : ∀ {ds : List PyData} {xs : List V} {d : PyData}, TtA H xs (ds ++ [d]) → ∃ xs' v, xs = xs' ++ [v] ∧ TtA H xs' ds ∧ Tt H v d
  | [], _, _, .cons h t => by
    cases t
    exact ⟨[], _, rfl, .nil, h⟩
  | d0 :: ds, _, d, .cons h t => by
    obtain ⟨xs', v, e, h1, h2⟩ := tta_snoc t
    exact ⟨_ :: xs', v, by rw [e]; rfl, .cons h h1, h2⟩
theorem tab_keys {b : SBk} {kvs : List (Key × V)} {H : Hp} (h : TabAt b kvs H) : kvs.map (·.1) = (unitsM b).map Sum.inr := by
  induction h with
  | nil => rfl
  | cons r t ih => unfold unitsM at ih ⊢; rw [List.map_cons, List.map_cons, List.map_cons, ih, r.1]
theorem q_put {σ : L2.St} {H : Hp} {D : Ends} {td ty tv : TE} {tz : TS} (h : tv σ H fun v H1 => td σ H1 fun x H2 => ty σ H2 fun y H3 => ∃ a H4, x = .ref a ∧ DPut H3 a y v H4 ∧ tz D σ H4) : tSeq (sDPut td ty tv) tz D σ H := h
theorem ev_getT {σ : L2.St} {H : Hp} {td tk : TE} {g : Addr} {kvs : List (List Key × V)} {ks : List (List Str)} {k : List Str} {R : V → Hp → Prop} (hd : Ev td σ H (fun v H' => v = .ref g ∧ H' g = some (.dT kvs))) (e : kvs.map (·.1) = ks.map kT) (hk : Ev tk σ H (IsT (strsD k))) (hm : k ∈ ks)
    (hv : ∀ v H', Same H H' → valV kvs (kT k) = some v → R v H') : Ev (tDGet td tk) σ H R := fun H1 a Q q => hd H1 a _ fun x H2 e2 ⟨px, hg⟩ => hk H2 (a.trans e2) _ fun y H3 e3 py => by
  obtain ⟨c, rfl, hb⟩ := tup_kT py
  obtain ⟨v, h1, h2⟩ := valT_some e hm
  exact ⟨g, v, px, h1 ▸ DGet.t (e3 _ _ hg) hb, q v H3 (e2.trans e3) (hv v H3 (a.trans (e2.trans e3)) h1)⟩
theorem k_standings_of (T : Txt K mg) : Kn P w K mg base CX0 5 "standings_of" spStands := by
  have G1 := k_table_of (P := P) (w := w) (base := base) T
  have G2 := k_lets (P := P) (w := w) (base := base) T
  have G3 := k_set_of (P := P) (w := w) (base := base) T
  refine T.d_standings_of.kn c_standings_of (fun vs H Q E h => ?_) (fun f cdv A outer s H vs Q E hr h => ?_)
  · obtain ⟨a, ⟨v, rfl, _⟩, _⟩ := h
    rfl
  · obtain ⟨b, ⟨v, rfl, hv, hb⟩, q⟩ := h
    simp only at hv hb q
    have hun := hu_of hr
    refine ⟨_, pss_cons (ps_par3 (i := 1) (j := 2) (l := 3) (by rfl) c_standings_of.nd rfl rfl rfl (by decide) (by decide) (by decide) rfl rfl rfl (pa_cons (pe_kn G1 hr pass0 (pa_cons (pv 0) pa_nil)) (pa_cons (pe_disp1T hr.units (pe_tup pa_nil) (pe_tup pa_nil)) (pa_cons (pe_lst (pa_cons (pe_tup pa_nil) pa_nil)) pa_nil))) (by rfl))
      (pss_cons (ps_while PassesOwn.never (pt_cmpR op_gt (pe_callB cr_len (by rfl) T.b_len (by decide +kernel) (pa_cons (pv 3) pa_nil)) pe_int (by rfl))
        (pss_cons (ps_asg (pe_bm0 PySem.F.plainAttrs_list PySem.F.slot_list_pop PySem.F.type_list_pop mt_pop (pv 3)) (pgn 4 c_standings_of.nd))
        (pss_one (ps_lock (ps_for PassesOwn.never (by rfl) (pi_keys (pv 1)) (pgn 5 c_standings_of.nd)
          (pss_one (ps_if (pt_val (pe_kn G2 (hr.mono (by decide)) pass0 (pa_cons (pv 1) (pa_cons (pv 4) (pa_cons (pv 5) pa_nil)))))
            (pss_cons (ps_asg (pe_kn G3 (hr.mono (by decide)) pass0 (pa_cons (pe_tup (StX.pa_star (pv 4) (pa_cons (pv 5) pa_nil))) pa_nil)) (pgn 6 c_standings_of.nd))
            (pss_one (ps_if (pt_cmp (pc_dnotin hun (pv 6) (pv 2)))
              (pss_cons (ps_dput hun (pv 2) (pv 6) (pe_tup (StX.pa_star (pe_dget hun (pv 2) (pv 4) (fun _ _ => rfl)) (pa_cons (pv 5) pa_nil))) (by rfl))
              (pss_one (ps_expr (pe_bm PySem.F.plainAttrs_list PySem.F.slot_list_append PySem.F.type_list_append mt_append (pv 3) (pa_cons (pv 6) pa_nil))))) pss_nil))) pss_nil)))))))
      (pss_one (ps_ret (pv 2)))), ?_⟩
    have tabE := (ev_kn (ea_one (ev_vp (i := 0) (P := fun v H => BookV b v H) rfl (fun _ _ _ e q => q.same e) hv)) b (fun vs H2 _ ⟨v, h1, h2⟩ => ⟨v, h1, h2, hb.fair.few, hb.nd⟩) fun v H2 _ h => h : Ev (tCall spTable [] E0 (tCons (tVar 0) tNil)) (start ["book", "table", "found", "fresh", "here", "unit", "there"] [v]) H (fun v H' => ∃ a kvs, v = .ref a ∧ H' a = some (.dK kvs) ∧ TabAt b kvs H'))
    refine tabE H (Same.refl H) _ fun tv H1 e1 ⟨d, tk, etv, hd, tt⟩ => ?_
    subst etv
    intro g hg
    refine ⟨Nat.zero_le _, fun a ha => ⟨Nat.zero_le _, fun a2 ha2 => ⟨a, [], rfl, ?_, ?_, Nat.zero_le _, fun a3 ha3 => ⟨(by show 1 ≤ sizeLine; decide), fun l hl => ⟨.ref d, .ref g, .ref l, rfl, ?_⟩⟩⟩⟩⟩
    · exact same_new ha2 _ _ (same_new ha _ _ upd_same)
    · exact same_new ha2 _ _ upd_same
    have sC : Same H1 (upd (upd (upd H1 g (.dT [])) a (.tup [])) a2 (.tup [])) := (same_new hg).trans ((same_new ha).trans (same_new ha2))
    have gC : upd (upd (upd H1 g (.dT [])) a (.tup [])) a2 (.tup []) g = some (.dT []) := same_new ha2 _ _ (same_new ha _ _ upd_same)
    have a2C : upd (upd (upd H1 g (.dT [])) a (.tup [])) a2 (.tup []) a2 = some (.tup []) := upd_same
    generalize upd (upd (upd H1 g (.dT [])) a (.tup [])) a2 (.tup []) = HC at sC gC a2C ha3 hl ⊢
    have sD : Same H1 (upd HC g (.dT [([], .ref a2)])) := same_mut sC hg
    have a2D : upd HC g (.dT [([], .ref a2)]) a2 = some (.tup []) := tex_dT gC _ _ a2C
    have gD : upd HC g (.dT [([], .ref a2)]) g = some (.dT [([], .ref a2)]) := upd_same
    generalize upd HC g (.dT [([], .ref a2)]) = HD at sD a2D gD ha3 hl ⊢
    have sF : Same HD (upd (upd HD a3 (.tup [])) l (.lst [.ref a3])) := (same_new ha3).trans (same_new hl)
    have a3F : upd (upd HD a3 (.tup [])) l (.lst [.ref a3]) a3 = some (.tup []) := same_new hl _ _ upd_same
    have lF : upd (upd HD a3 (.tup [])) l (.lst [.ref a3]) l = some (.lst [.ref a3]) := upd_same
    have hgN : H g = none := e1.free hg
    have hlN : H l = none := (e1.trans sD).free ((same_new ha3).free hl)
    generalize upd (upd HD a3 (.tup [])) l (.lst [.ref a3]) = HF at sF a3F lF ⊢
    have s1F := sD.trans sF
    have hlen : (unitsM b).length ≤ 16 := by unfold unitsM; rw [List.length_map]; exact hb.n16
    have pow16 : 2 ^ (unitsM b).length ≤ 65536 := Nat.pow_le_pow_right (by decide) hlen
    have htk := tab_keys tt
    have s0F : Same H HF := e1.trans s1F
    have t0 : Three H d g l (.dK tk) tk b [[]] [[]] HF := ⟨fun c x _ h => s0F _ _ h, s1F _ _ hd, tt.tex (tex_same s1F), ⟨_, sF _ _ gD, rfl, fun p hp => by
      rw [List.mem_singleton.mp hp]
      exact ⟨[], tt_of_strs (us := []) (sF _ _ a2D), Nat.le_refl 0⟩⟩, ⟨_, lF, .cons (tt_of_strs (us := []) a3F) .nil⟩⟩
    have k0 : Known b [[]] [[]] := ⟨by simp, fun k hk => by rw [List.mem_singleton.mp hk]; exact ⟨List.Pairwise.nil, Stand.nil b⟩, List.mem_singleton.mpr rfl, fun k hk => hk, Nat.le_refl _⟩
    refine s_while (fun m σ' H' => ∃ (ks fs : List (List Str)) (l4 l5 l6 : Option V), σ' = [some v, some (.ref d), some (.ref g), some (.ref l), l4, l5, l6] ∧ Three H d g l (.dK tk) tk b ks fs H' ∧ Known b ks fs ∧ (∀ k ∈ ks, k ∉ fs → ClosedIn b ks k (unitsM b)) ∧ m = 2 * (65536 - ks.length) + fs.length) _
      ⟨[[]], [[]], none, none, none, rfl, t0, k0, fun k hk hn => absurd hk hn, rfl⟩ ?_
    rintro m σ' H' ⟨ks, fs, l4, l5, l6, rfl, th, kn, cl, rfl⟩
    have few := kn.few
    obtain ⟨xs, hx, tx⟩ := th.frs
    refine ⟨_, et_test (ev_I0 (ev_lenL (K := K) (te := tVar 3) (ds := fs.map strsD) (ev_vp (v := .ref l) rfl (mono_l _) ⟨l, xs, rfl, hx, tx⟩)) ev_c), fun hlt H2 e2 => ?_, fun hlt H2 e2 => ?_⟩
    · -- a turn
      rcases List.eq_nil_or_concat fs with rfl | ⟨fs', here, rfl⟩
      · simp at hlt
      rw [List.concat_eq_append] at *
      have th2 := th.up e2
      obtain ⟨xs2, hx2, tx2⟩ := th2.frs
      rw [List.map_append] at tx2
      obtain ⟨xs', hvv, rfl, tx3, thv⟩ := tta_snoc tx2
      refine ev_pop (K := K) (i := 3) (p := l) (xs := xs') (y := hvv) rfl hx2 (name_go ?_)
      have lx : TEx H2 (upd H2 l (.lst xs')) := tex_lst hx2
      have hkv : here ∈ ks := kn.sub here (by simp)
      have neq : ∀ {c x}, H2 c = some x → c ≠ l → upd H2 l (.lst xs') c = some x := fun h n => by rw [upd_ne n]; exact h
      have dl : d ≠ l := ne_of_kinds th2.tab hx2 (fun z => by cases z)
      obtain ⟨kvs2, hg2, ek2, vk2⟩ := th2.fnd
      have gl : g ≠ l := ne_of_kinds hg2 hx2 (fun z => by cases z)
      have gd : g ≠ d := ne_of_kinds hg2 th2.tab (fun z => by cases z)
      refine ⟨d, .dK tk, neq th2.tab dl, True.intro, fun od => ?_⟩
      have dx : TEx (upd H2 l (.lst xs')) (upd (upd H2 l (.lst xs')) d (.frz od (.dK tk))) := tex_dK (neq th2.tab dl)
      have thP : Three H d g l (.frz od (.dK tk)) tk b ks fs' (upd (upd H2 l (.lst xs')) d (.frz od (.dK tk))) := by
        refine ⟨fun c x n h => ?_, upd_same, (th2.tt.tex lx).tex dx, ⟨kvs2, ?_, ek2, fun p hp => let ⟨r, h1, h2⟩ := vk2 p hp; ⟨r, (h1.tex lx).tex dx, h2⟩⟩, ⟨xs', ?_, (tx3.tex lx).tex dx⟩⟩
        · rw [upd_ne n, upd_ne (ne_of_none h hlN)]; exact th2.same c x n h
        · rw [upd_ne gd, upd_ne gl]; exact hg2
        · rw [upd_ne dl.symm]; exact upd_same
      have hvP := (thv.tex lx).tex dx
      generalize upd (upd H2 l (.lst xs')) d (.frz od (.dK tk)) = HP at thP hvP ⊢
      refine s_for (src_keys (i := 1) (d := d) (o := od) (kvs := tk) (us := unitsM b) rfl thP.tab htk) (fun HL i σ' H' => ∃ (ks2 fs2 : List (List Str)) (l5 l6 : Option V), σ' = [some v, some (.ref d), some (.ref g), some (.ref l), some hvv, l5, l6] ∧ Three H d g l (.frz od (.dK tk)) tk b ks2 fs2 H' ∧ Known b ks2 fs2 ∧ here ∈ ks2 ∧
        (∀ k ∈ ks2, k ∉ fs2 → k = here ∨ ClosedIn b ks2 k (unitsM b)) ∧ ClosedIn b ks2 here ((unitsM b).take i) ∧ Tt H' hvv (strsD here) ∧ 2 * (65536 - ks2.length) + fs2.length < 2 * (65536 - ks.length) + (fs' ++ [here]).length) (fun HL eL => ?_) (fun HL i σ' H' ⟨_, _, _, _, _, t, _⟩ _ => t.tab) ?_ ?_
      · refine ⟨ks, fs', l5, l6, rfl, thP.up eL, ⟨kn.nd, kn.ok, kn.nil, fun k hk => kn.sub k (List.mem_append_left _ hk), ?_⟩, hkv, (fun k hk hn => ?_), (fun u hu => by rw [List.take_zero] at hu; cases hu), hvP.same eL, ?_⟩
        · have := kn.len; rw [List.length_append] at this; omega
        · by_cases e : k = here
          · exact .inl e
          · exact .inr (cl k hk fun z => (List.mem_append.mp z).elim hn fun z => e (List.mem_singleton.mp z))
        · rw [List.length_append, List.length_singleton]; omega
      · rintro HL eL i u x σ' H3 H4 hbu ⟨ks2, fs2, l5, l6, rfl, t3, kn2, hh2, cl2, ch2, hv2, ms2⟩ e3 rfl
        have hu : u ∈ unitsM b := List.mem_of_getElem? hbu
        have few2 := kn2.few
        refine name_go (s_if (b := letsM b here u) (et_B (ev_kn (ea_cons (mono_tab b) (ev_vp (i := 1) (v := .ref d) rfl (mono_tab b) ⟨d, tk, rfl, .inr ⟨od, e3 _ _ t3.tab⟩, t3.tt.tex (tex_same e3)⟩) (ea_two (mono_t (strsD here)) (ev_vt (i := 4) (v := hvv) rfl (hv2.same e3)) (ev_var (i := 5) (v := .str u) rfl))) (b, here, u)
          (fun vs H5 _ ⟨t, r, h1, h2, v1, v2, h3, h4, h5⟩ => ⟨t, v1, by rw [h1, h3, h5], h2, h4, hu, hb.fair⟩) fun v H5 _ h => h)) (fun hl H5 e5 => ?_) (fun hl H5 e5 => ?_))
        · have t5 := t3.up (e3.trans e5)
          have hv5 := hv2.same (e3.trans e5)
          have hnot := (lets_iff.mp hl).1
          have alen : here.length ≤ 16 := by
            have := nodup_len (asc_nodup (kn2.ok here hh2).1) (kn2.ok here hh2).2.units
            omega
          have tupE := ev_tup (σ := [some v, some (.ref d), some (.ref g), some (.ref l), some hvv, some (.str u), l6]) (H := H5) (ts_star (K := K) (ev_vt (i := 4) (v := hvv) rfl hv5) (ts_cons (ev_var (i := 5) (v := .str u) rfl).tstr ts_nil)) (by
            rw [List.length_append, List.length_map]
            show here.length + 1 ≤ 100000
            omega)
          rw [show here.map PyData.str ++ [PyData.str u] = (here ++ [u]).map PyData.str from by rw [List.map_append]; rfl] at tupE
          refine q_set (P := fun v H' => ∃ ys, Tt H' v (strsD ys) ∧ Can ys (here ++ [u])) (ev_kn (ea_one tupE) (here ++ [u]) (fun vs H6 _ ⟨z, h1, h2⟩ => ⟨z, h1, (let ⟨a, e, h4⟩ := tt_strs h2; ⟨a, e, .inl h4⟩), by rw [List.length_append, List.length_singleton]; omega⟩) fun v H6 _ h => h) fun yv H6 e6 ⟨ys, ty, cy⟩ => ?_
          have t6 := t5.up e6
          obtain ⟨kvs6, hg6, ek6, vk6⟩ := t6.fnd
          have stand : Stand b ys := ((kn2.ok here hh2).2.step hl).same cy.same.symm
          have clU : ∀ ks3 : List (List Str), (∀ z ∈ ks2, z ∈ ks3) → ys ∈ ks3 → ClosedIn b ks3 here ((unitsM b).take (i + 1)) := fun ks3 sub m w hw hlw => by
            rw [take_more hbu] at hw
            rcases List.mem_append.mp hw with z | z
            · exact ch2.mono sub w z hlw
            · rw [List.mem_singleton.mp z]; exact ⟨ys, m, cy⟩
          refine s_if (b := !decide (ys ∈ ks2)) (et_B (ev_notInT (g := g) (kvs := kvs6) (ev_vp (i := 2) (v := .ref g) (P := fun v H' => v = .ref g ∧ H' g = some (.dT kvs6)) rfl (fun _ _ _ e h => ⟨h.1, e _ _ h.2⟩) ⟨rfl, hg6⟩) ek6 (ev_vt (i := 6) (v := yv) rfl ty))) (fun hn H7 e7 => ?_) (fun hn H7 e7 => ?_)
          · have hny : ys ∉ ks2 := by simpa using hn
            have t7 := t6.up e7
            have hg7 := e7 _ _ hg6
            obtain ⟨r, tr, lr⟩ : ∃ r, (∀ v H', Same H7 H' → valV kvs6 (kT here) = some v → Tt H' v (strsD r)) ∧ r.length ≤ here.length := by
              obtain ⟨v0, h1, h2⟩ := valT_some ek6 hh2
              obtain ⟨r, h3, h4⟩ := vk6 _ h2
              refine ⟨r, fun v1 H' e hm => ?_, by rw [List.length_map] at h4; exact h4⟩
              rw [h1] at hm
              cases hm
              exact h3.same (e7.trans e)
            have valE := ev_tup (σ := [some v, some (.ref d), some (.ref g), some (.ref l), some hvv, some (.str u), some yv]) (H := H7) (ts_star (K := K) (ev_getT (g := g) (kvs := kvs6) (td := tVar 2) (tk := tVar 4) (R := IsT (strsD r)) (ev_vp (i := 2) (v := .ref g) (P := fun v H' => v = .ref g ∧ H' g = some (.dT kvs6)) rfl (fun _ _ _ e h => ⟨h.1, e _ _ h.2⟩) ⟨rfl, hg7⟩) ek6 (ev_vt (i := 4) (v := hvv) rfl (hv5.same (e6.trans e7))) hh2 tr) (ts_cons (ev_var (i := 5) (v := .str u) rfl).tstr ts_nil)) (by
              rw [List.length_append, List.length_map]
              show r.length + 1 ≤ 100000
              omega)
            rw [show r.map PyData.str ++ [PyData.str u] = (r ++ [u]).map PyData.str from by rw [List.map_append]; rfl] at valE
            refine q_put (valE H7 (Same.refl H7) _ fun nv H8 e8 tn => ?_)
            have t8 := t7.up e8
            have hg8 := e8 _ _ hg7
            obtain ⟨ya, eya, hya⟩ := tup_kT (ty.same (e7.trans e8))
            have len6 : kvs6.length = ks2.length := by have := congrArg List.length ek6; rwa [List.length_map, List.length_map] at this
            refine ⟨.ref g, rfl, yv, rfl, g, _, rfl, by rw [eya]; exact DPut.t hg8 hya (size_lt (by omega)), ?_⟩
            rw [putK_new _ (valT_none ek6 hny)]
            have gx : TEx H8 (upd H8 g (.dT (kvs6 ++ [(kT ys, nv)]))) := tex_dT hg8
            obtain ⟨xs8, hx8, tx8⟩ := t8.frs
            have gl8 : l ≠ g := ne_of_kinds hx8 hg8 (fun z => by cases z)
            have gd8 : d ≠ g := ne_of_kinds t8.tab hg8 (fun z => by cases z)
            have dl8 : d ≠ l := ne_of_kinds t8.tab hx8 (fun z => by cases z)
            have xl8 : upd H8 g (.dT (kvs6 ++ [(kT ys, nv)])) l = some (.lst xs8) := by rw [upd_ne gl8]; exact hx8
            refine s_append (K := K) (i := 3) (p := l) rfl ⟨xs8, xl8⟩ (ev_var (i := 6) (v := yv) rfl) (fun v' H9 xs9 e9 pv hx9 _ => ?_) (fun xs9 h9 => ?_)
            · subst pv
              have exs : xs9 = xs8 := by
                have := e9 _ _ xl8
                rw [hx9] at this
                cases this; rfl
              subst exs
              have lx9 : TEx H9 (upd H9 l (.lst (xs9 ++ [v']))) := tex_lst hx9
              have tex : TEx H8 (upd H9 l (.lst (xs9 ++ [v']))) := gx.trans ((tex_same e9).trans lx9)
              have subk : ∀ z ∈ ks2, z ∈ ks2 ++ [ys] := fun z hz => List.mem_append_left _ hz
              have ym : ys ∈ ks2 ++ [ys] := by simp
              refine ⟨ks2 ++ [ys], fs2 ++ [ys], some (.str u), some v', rfl, ⟨fun c x n h => ?_, ?_, t8.tt.tex tex, ⟨kvs6 ++ [(kT ys, nv)], ?_, by rw [List.map_append, List.map_append, ek6]; rfl, fun p hp => ?_⟩, ⟨xs9 ++ [v'], upd_same, ?_⟩⟩, ⟨?_, fun k hk => ?_, subk _ kn2.nil, fun k hk => ?_, ?_⟩, subk _ hh2, fun k hk hkn => ?_, clU _ subk ym, ?_, ?_⟩
              · rw [upd_ne (ne_of_none h hlN)]
                refine e9 _ _ ?_
                rw [upd_ne (ne_of_none h hgN)]
                exact t8.same c x n h
              · rw [upd_ne dl8]
                refine e9 _ _ ?_
                rw [upd_ne gd8]; exact t8.tab
              · rw [upd_ne gl8.symm]
                exact e9 _ _ upd_same
              · rcases List.mem_append.mp hp with z | z
                · obtain ⟨r', h1, h2⟩ := vk6 p z
                  exact ⟨r', (h1.same (e7.trans e8)).tex tex, h2⟩
                · rw [List.mem_singleton.mp z]
                  refine ⟨r ++ [u], tn.tex tex, ?_⟩
                  have l2 : here.length + 1 ≤ ys.length := by
                    have := nodup_len (l := here ++ [u]) (D := ys) (by
                      rw [List.nodup_append]
                      exact ⟨asc_nodup (kn2.ok here hh2).1, by simp, fun a ha b' hb' e => hnot (by rw [← List.mem_singleton.mp hb', ← e]; exact ha)⟩) fun z hz => (cy.2 z).mpr hz
                    rw [List.length_append] at this
                    exact this
                  rw [List.length_append, List.length_singleton]
                  show r.length + 1 ≤ (ys.map Sum.inr).length
                  rw [List.length_map]
                  omega
              · rw [List.map_append]
                exact TtA.snoc ((ty.same (e7.trans e8)).tex tex) (tx8.tex tex)
              · rw [List.nodup_append]
                exact ⟨kn2.nd, by simp, fun a ha b' hb' e => hny (by rw [← List.mem_singleton.mp hb', ← e]; exact ha)⟩
              · rcases List.mem_append.mp hk with z | z
                · exact kn2.ok k z
                · rw [List.mem_singleton.mp z]; exact ⟨cy.1, stand⟩
              · rcases List.mem_append.mp hk with z | z
                · exact subk _ (kn2.sub k z)
                · rw [List.mem_singleton.mp z]; exact ym
              · have := kn2.len
                rw [List.length_append, List.length_append]; omega
              · rcases List.mem_append.mp hk with z | z
                · rcases cl2 k z fun q => hkn (List.mem_append_left _ q) with e | c
                  · exact .inl e
                  · exact .inr (c.mono subk)
                · exact absurd (by rw [List.mem_singleton.mp z]; simp) hkn
              · exact (hv5.same (e6.trans (e7.trans e8))).tex tex
              · have few3 : (ks2 ++ [ys]).length ≤ 2 ^ (unitsM b).length := few_asc (by
                    rw [List.nodup_append]
                    exact ⟨kn2.nd, by simp, fun a ha b' hb' e => hny (by rw [← List.mem_singleton.mp hb', ← e]; exact ha)⟩) fun k hk => by
                  rcases List.mem_append.mp hk with z | z
                  · exact ⟨(kn2.ok k z).1, (kn2.ok k z).2.units⟩
                  · rw [List.mem_singleton.mp z]; exact ⟨cy.1, stand.units⟩
                rw [List.length_append, List.length_singleton] at few3
                rw [List.length_append, List.length_append (as := fs2), List.length_singleton]
                omega
            · rw [xl8] at h9
              cases h9
              have := kn2.len
              rw [tx8.len, List.length_map]
              omega
          · have hy : ys ∈ ks2 := by simpa using hn
            exact ⟨ks2, fs2, some (.str u), some yv, rfl, t6.up e7, kn2, hh2, cl2, clU ks2 (fun _ z => z) hy, hv5.same (e6.trans e7), ms2⟩
        · refine ⟨ks2, fs2, some (.str u), l6, rfl, t3.up (e3.trans e5), kn2, hh2, cl2, fun w hw hlw => ?_, hv2.same (e3.trans e5), ms2⟩
          rw [take_more hbu] at hw
          rcases List.mem_append.mp hw with z | z
          · exact ch2 w z hlw
          · rw [List.mem_singleton.mp z, hl] at hlw; cases hlw
      · rintro HL eL σ' H3 ⟨ks2, fs2, l5, l6, rfl, t3, kn2, hh2, cl2, ch2, hv2, ms2⟩
        rw [List.take_length] at ch2
        have dx3 : TEx H3 (upd H3 d (.dK tk)) := tex_frz t3.tab
        obtain ⟨kvs3, hg3, ek3, vk3⟩ := t3.fnd
        obtain ⟨xs3, hx3, tx3'⟩ := t3.frs
        have gd3 : g ≠ d := ne_of_kinds hg3 t3.tab (fun z => by cases z)
        have ld3 : l ≠ d := ne_of_kinds hx3 t3.tab (fun z => by cases z)
        refine ⟨t3.tab, _, ms2, ks2, fs2, some hvv, l5, l6, rfl, ⟨fun c x n h => ?_, upd_same, t3.tt.tex dx3, ⟨kvs3, ?_, ek3, fun p hp => let ⟨r, h1, h2⟩ := vk3 p hp; ⟨r, h1.tex dx3, h2⟩⟩, ⟨xs3, ?_, tx3'.tex dx3⟩⟩, kn2, fun k hk hn => ?_, rfl⟩
        · rw [upd_ne n]; exact t3.same c x n h
        · rw [upd_ne gd3]; exact hg3
        · rw [upd_ne ld3]; exact hx3
        · rcases cl2 k hk hn with e | c
          · rw [e]; exact ch2
          · exact c
    · -- the end
      have e0 : fs = [] := by
        cases fs with
        | nil => rfl
        | cons a r => simp at hlt
      subst e0
      have th2 := th.up e2
      obtain ⟨kvs2, hg2, ek2, vk2⟩ := th2.fnd
      have fin : Same H H2 := fun c x h => by
        by_cases n : c = d
        · subst n
          have := e1 _ _ h
          rw [hd] at this
          rw [th2.tab, this]
        · exact th2.same c x n h
      exact s_ret (ev_vp (i := 2) (v := .ref g) (P := IsStands b) rfl (mono_stands b) ⟨g, kvs2, ks, rfl, hg2, ek2, kn.nd, kn.all fun k hk => cl k hk (by simp)⟩) fun v' H3 e3 h3 => q v' H3 (fin.trans e3) h3
end
end Up
end
section
set_option Elab.async false
set_option linter.all false
set_option maxRecDepth 100000
set_option maxHeartbeats 4000000
/-! The defs ends_in, ends_of_paths, all_paths. -/
namespace Up
open PySem PySem.Spec PyProof.Rows L2

section
variable {K : PySem.W.Frag} {σ : L2.St} {H : Hp} {te : TE}
theorem ev_tC {v : V} {P : V → Hp → Prop} (m : Mono P) (h : P v H) : Ev (tC v) σ H P := fun H1 e Q q => q v H1 (Same.refl H1) (m _ _ _ e h)
theorem s_forL {α : Type} {F : α → Prop} {enc : α → List PyData} {g : TG} {tb : TS} {D : Ends} (h : Ev te σ H (fun v H' => ∃ a, IsL (enc a) v H' ∧ F a)) (k : ∀ a v H1, Same H H1 → F a → IsL (enc a) v H1 → tFor (iList K (tC v)) g tb D σ H1) :
    tFor (iList K te) g tb D σ H := h H (Same.refl H) _ fun v H1 e ⟨a, h1, h2⟩ => k a v H1 e h2 h1
/-- sorted(d), the keys tuples of texts -/
theorem ev_sortKT {b : SBk} (h : Ev te σ H (IsStands b)) (n : (unitsM b).length ≤ 16) : Ev (tCB rSortKT (tCons te tNil)) σ H (fun v H' => ∃ es : List (List Str), IsL (es.map strsD) v H' ∧ es.Nodup ∧ ∀ k, k ∈ es ↔ Asc k ∧ Stand b k) :=
  ev_cb (ea_one h) fun vs H1 _ ⟨v, hv, g, kvs, ks, h1, h2, h3, h4, h5⟩ Q q => by
    subst hv h1
    have l := few_asc (U := unitsM b) h4 fun k hk => ⟨((h5 k).mp hk).1, ((h5 k).mp hk).2.units⟩
    have p : 2 ^ (unitsM b).length ≤ 65536 := Nat.pow_le_pow_right (by decide) n
    refine ⟨g, kvs, ks, rfl, h2, h3, by omega, fun M es p t m pe o hp => ?_⟩
    rw [m] at t
    exact q _ _ (same_new hp) ⟨es, isL_new t hp, pe.nodup_iff.mpr h4, fun k => pe.mem_iff.trans (h5 k)⟩
end
theorem not_in_take {α : Type} {es : List α} {i : Nat} {k : α} (nd : es.Nodup) (h : es[i]? = some k) : k ∉ es.take i := fun hm => by
  have e : es = es.take i ++ es.drop i := (List.take_append_drop i es).symm
  rw [e, List.nodup_append] at nd
  exact nd.2.2 _ hm k (List.mem_iff_getElem?.mpr ⟨0, by rw [List.getElem?_drop, Nat.add_zero]; exact h⟩) rfl
theorem can_without {k : List Str} (h : Asc k) (u : Str) : Asc (k.filter fun x => decide (x ≠ u)) := List.Pairwise.sublist List.filter_sublist h
section
variable {P : Program} {w : World} {K : PySem.W.Frag} {mg : Str → Option Value} {base : Heap}
/-! ends_in(known, some) -/
def spEnds : Sp := SpD (α := SBk × List Str) (fun a vs H => ∃ v x, vs = [v, x] ∧ IsStands a.1 v H ∧ Tt H x (strsD a.2) ∧ Asc a.2 ∧ a.2.length ≤ 16) (fun a v H => ∃ es : List Str, IsL (es.map .str) v H ∧ es.Nodup ∧ ∀ u, u ∈ es ↔ EndOf a.1 a.2 u)
theorem k_ends_in (T : Txt K mg) : Kn P w K mg base CX0 2 "ends_in" spEnds := by
  have G := k_without (P := P) (w := w) (base := base) T
  refine T.d_ends_in.kn c_ends_in (fun vs H Q E h => ?_) (fun f cdv A outer s H vs Q E hr h => ?_)
  · obtain ⟨a, ⟨v, x, rfl, _⟩, _⟩ := h
    rfl
  · obtain ⟨⟨b, us⟩, ⟨v, x, rfl, hv, hx, ha, hz⟩, q⟩ := h
    simp only at hv hx ha hz q
    have hun := hu_of hr
    refine ⟨_, pss_one (ps_ret (pe_lc (own := [("unit", 2)]) (g := gName 2) (by rfl) c_ends_in.nd (pi_tup (pv 1)) (blkOk_by (N := ["known", "some", "unit"]) (sc := defScope s_ends_in) (by decide +kernel)) (fun _ _ _ _ _ => pgn 2 c_ends_in.nd)
      (fun _ _ _ _ _ => pts_one (pt_cmp (pc_din hun (pe_kn G hr pass0 (pa_cons (pv 1) (pa_cons (pv 2) pa_nil))) (pv 0)))) (fun _ _ _ _ _ => pv 2))), ?_⟩
    obtain ⟨g, kvs, ks, rfl, hg, ek, nd, kk⟩ := hv
    have key := ev_lc (te := tVar 2) (tt := tB (tDIn (tCall spWithout [] E0 (tCons (tVar 1) (tCons (tVar 2) tNil))) (tVar 0))) (g := gName 2) (vs := [2]) (σ := start ["known", "some", "unit"] [.ref g, x]) (H := H) (src_strs (K := K) (te := tVar 1) (ev_vt (v := x) rfl hx)) (fun u => decide (us.filter (fun x => decide (x ≠ u)) ∈ ks)) PyData.str (by omega) fun u hu y H3 e3 hy C c => by
      subst hy
      refine c [some (.ref g), some x, some (.str u)] _ (Same.refl _) rfl ?_ fun _ => (ev_var rfl).tstr
      refine et_B (ev_inT (g := g) (kvs := kvs) (ev_vp (i := 0) (v := .ref g) (P := fun v H' => v = .ref g ∧ H' g = some (.dT kvs)) rfl (fun _ _ _ e h => ⟨h.1, e _ _ h.2⟩) ⟨rfl, e3 _ _ hg⟩) ek ?_)
      exact ev_kn (ea_two (mono_t (strsD us)) (ev_vt (i := 1) (v := x) rfl (hx.same e3)) (ev_var (i := 2) (v := .str u) rfl)) (us, u) (fun vs H4 _ ⟨v, w, h1, h2, h3⟩ => ⟨v, by rw [h1, h3], h2, by show us.length ≤ 90000; omega⟩) fun v H4 _ h => h
    refine s_ret key fun v' H1 e h => q v' H1 e ⟨_, h, (asc_nodup ha).filter _, fun u => ?_⟩
    rw [List.mem_filter, decide_eq_true_eq, kk]
    exact ⟨fun ⟨h1, h2, h3⟩ => ⟨h1, h3⟩, fun ⟨h1, h3⟩ => ⟨h1, can_without ha u, h3⟩⟩
/-- one end only -/
def OneEnd (b : SBk) (k : List Str) : Prop := ∃ u, EndOf b k u ∧ ∀ w, EndOf b k w → w = u
/-! ends_of_paths(book) -/
def spEop : Sp := SpD (α := SBk) (fun b vs H => ∃ v, vs = [v] ∧ BookV b v H ∧ BkOk b) (fun b v H => ∃ (g : Addr) (kvs : List (List Key × V)) (ks : List (List Str)), v = .ref g ∧ H g = some (.dT kvs) ∧ kvs.map (·.1) = ks.map kT ∧ ks.length ≤ 65536 ∧ ∀ k, k ∈ ks ↔ Asc k ∧ Stand b k ∧ OneEnd b k)
theorem k_ends_of_paths (T : Txt K mg) : Kn P w K mg base CX0 6 "ends_of_paths" spEop := by
  have G1 := k_standings_of (P := P) (w := w) (base := base) T
  have G2 := k_ends_in (P := P) (w := w) (base := base) T
  refine T.d_ends_of_paths.kn c_ends_of_paths (fun vs H Q E h => ?_) (fun f cdv A outer s H vs Q E hr h => ?_)
  · obtain ⟨a, ⟨v, rfl, _⟩, _⟩ := h
    rfl
  · obtain ⟨b, ⟨v, rfl, hv, hb⟩, q⟩ := h
    simp only at hv hb q
    have hun := hu_of hr
    have hlen : (unitsM b).length ≤ 16 := by unfold unitsM; rw [List.length_map]; exact hb.n16
    refine ⟨_, pss_cons (ps_par (i := 1) (j := 2) (by rfl) c_ends_of_paths.nd rfl rfl (by decide) rfl rfl (pa_cons (pe_kn G1 hr pass0 (pa_cons (pv 0) pa_nil)) (pa_cons pe_dnewT pa_nil)) (by rfl))
      (pss_cons (ps_for PassesOwn.never (by rfl) (pi_list (pe_callB (cr_sortKT (by rfl) hr.units) (by rfl) T.b_sorted (by decide +kernel) (pa_cons (pv 1) pa_nil))) (pgn 3 c_ends_of_paths.nd)
        (pss_cons (ps_asg (pe_kn G2 (hr.mono (by decide)) pass0 (pa_cons (pv 1) (pa_cons (pv 3) pa_nil))) (pgn 4 c_ends_of_paths.nd))
        (pss_one (ps_if (pt_cmpR op_eq (pe_callB cr_len (by rfl) T.b_len (by decide +kernel) (pa_cons (pv 4) pa_nil)) pe_int (by rfl)) (pss_one (ps_dput hun (pv 2) (pv 3) (pe_ix ix_list (pv 4) pe_int (fun _ _ => rfl)) (by rfl))) pss_nil))))
      (pss_one (ps_ret (pv 2)))), ?_⟩
    refine (ev_kn (ea_one (ev_vp (i := 0) (P := fun v H => BookV b v H) rfl (fun _ _ _ e q => q.same e) hv)) b (fun vs H2 _ ⟨v, h1, h2⟩ => ⟨v, h1, h2, hb⟩) fun v H2 _ h => h : Ev (tCall spStands [] E0 (tCons (tVar 0) tNil)) (start ["book", "known", "found", "some", "ends"] [v]) H (IsStands b)) H (Same.refl H) _ fun kn H1 e1 hk => ?_
    intro g hg
    refine ⟨kn, .ref g, rfl, ?_⟩
    have hgN : H g = none := e1.free hg
    have s1 : Same H1 (upd H1 g (.dT [])) := same_new hg
    obtain ⟨g0, kvs0, ks0, rfl, hg0, ek0, nd0, kk0⟩ := hk
    have g0g : g0 ≠ g := ne_of_none hg0 hg
    refine s_forL (α := List (List Str)) (F := fun es => es.Nodup ∧ ∀ k, k ∈ es ↔ Asc k ∧ Stand b k) (enc := fun es => es.map strsD) (ev_sortKT (te := tVar 1) (σ := [some v, some (.ref g0), some (.ref g), none, none]) (H := upd H1 g (.dT [])) (b := b) (ev_vp (i := 1) (v := .ref g0) rfl (mono_stands b) ⟨g0, kvs0, ks0, rfl, s1 _ _ hg0, ek0, nd0, kk0⟩) hlen) fun es sv H2 e2 ⟨esn, ese⟩ hs => ?_
    have lens : es.length ≤ 65536 := by
      have l := few_asc (U := unitsM b) esn fun k hk => ⟨((ese k).mp hk).1, ((ese k).mp hk).2.units⟩
      exact Nat.le_trans l (Nat.pow_le_pow_right (by decide) hlen)
    refine s_for (srcM_map strsD (srcM_lst (K := K) (te := tC sv) (σ := [some v, some (.ref g0), some (.ref g), none, none]) (ev_tC (mono_l _) hs))) (fun HL i σ' H' => ∃ (kvs : List (List Key × V)) (ks : List (List Str)) (l3 l4 : Option V), σ' = [some v, some (.ref g0), some (.ref g), l3, l4] ∧ H' g = some (.dT kvs) ∧ kvs.map (·.1) = ks.map kT ∧
      (∀ k, k ∈ ks ↔ k ∈ es.take i ∧ OneEnd b k) ∧ ks.length ≤ i ∧ LEx HL H' ∧ Same H H' ∧ H' g0 = some (.dT kvs0)) (fun HL eL => ?_) (fun HL i σ' H' ⟨_, _, _, _, _, _, _, _, _, t, _⟩ => t) ?_ ?_
    · exact ⟨[], [], none, none, rfl, eL _ _ (e2 _ _ upd_same), rfl, fun k => by rw [List.take_zero]; simp, Nat.le_refl 0, LEx.refl _, (e1.trans s1).trans (e2.trans eL), eL _ _ (e2 _ _ (s1 _ _ hg0))⟩
    · rintro HL eL i k x σ' H3 H4 hbk ⟨kvs, ks, l3, l4, rfl, hg3, ek, mk, lk, lx, s3, hg03⟩ e4 hx
      have hk := (ese k).mp (List.mem_of_getElem? hbk)
      have klen : k.length ≤ 16 := by
        have := nodup_len (asc_nodup hk.1) hk.2.units
        omega
      have ilt : i < 65536 := Nat.lt_of_lt_of_le (List.getElem?_eq_some_iff.mp hbk).1 lens
      refine name_go (q_set (P := fun v H' => ∃ es : List Str, IsL (es.map .str) v H' ∧ es.Nodup ∧ ∀ u, u ∈ es ↔ EndOf b k u) (ev_kn (ea_two (mono_stands b) (ev_vp (i := 1) (v := .ref g0) (P := IsStands b) rfl (mono_stands b) ⟨g0, kvs0, ks0, rfl, e4 _ _ hg03, ek0, nd0, kk0⟩) (ev_vt (i := 3) (v := x) rfl hx)) (b, k) (fun vs H5 _ ⟨v, w, h1, h2, h3⟩ => ⟨v, w, h1, h2, h3, hk.1, klen⟩) fun v H5 _ h => h) fun ev H5 e5 ⟨us, hus, ndu, mu⟩ => ?_)
      have one : us.length = 1 ↔ OneEnd b k := by
        constructor
        · intro h
          obtain ⟨u, rfl⟩ := List.length_eq_one_iff.mp h
          exact ⟨u, (mu u).mp List.mem_cons_self, fun w hw => List.mem_singleton.mp ((mu w).mpr hw)⟩
        · rintro ⟨u, hu, hw⟩
          have h1 := nodup_len ndu (D := [u]) fun y hy => List.mem_singleton.mpr (hw y ((mu y).mp hy))
          have h2 : 0 < us.length := List.length_pos_of_mem ((mu u).mpr hu)
          have h1 : us.length ≤ 1 := h1
          omega
      have take1 : es.take (i + 1) = es.take i ++ [k] := take_more hbk
      refine s_if (b := decide (us.length = 1)) ((et_test (ev_eqS (x := .int (us.length : Int)) (y := .int 1) rfl (by
          have h := ev_lenL (K := K) (te := tVar 4) (σ := [some v, some (.ref g0), some (.ref g), some x, some ev]) (H := H5) (ev_vp (i := 4) (v := ev) (P := IsL (us.map .str)) rfl (mono_l _) hus)
          rw [List.length_map] at h
          exact h) ev_c)).to (by by_cases h : us.length = 1 <;> simp [h]; omega)) (fun hl H6 e6 => ?_) (fun hl H6 e6 => ?_)
      · have hl1 : us.length = 1 := of_decide_eq_true hl
        obtain ⟨u, rfl⟩ := List.length_eq_one_iff.mp hl1
        refine ev_ixL (K := K) (i := 0) (ta := tVar 4) (tb := tC (.int 0)) (σ := [some v, some (.ref g0), some (.ref g), some x, some ev]) (ev_vp (i := 4) (v := ev) (P := IsL _) rfl (mono_l _) (hus.same e6)) ev_c rfl H6 (Same.refl _) _ fun uv H7 e7 tu => ?_
        have e37 : Same H3 H7 := e4.trans (e5.trans (e6.trans e7))
        have hg7 := e37 _ _ hg3
        obtain ⟨ka, eka, hka⟩ := tup_kT (hx.same (e5.trans (e6.trans e7)))
        have lenk : kvs.length = ks.length := by have := congrArg List.length ek; rwa [List.length_map, List.length_map] at this
        have hkn : k ∉ ks := fun hm => not_in_take esn hbk ((mk k).mp hm).1
        refine ⟨.ref g, rfl, x, rfl, g, _, rfl, by rw [eka]; exact DPut.t hg7 hka (size_lt (by omega)), ?_⟩
        rw [putK_new _ (valT_none ek hkn)]
        refine ⟨kvs ++ [(kT k, uv)], ks ++ [k], some x, some ev, rfl, upd_same, by rw [List.map_append, List.map_append, ek]; rfl, fun z => ?_, by rw [List.length_append, List.length_singleton]; omega, lx.trans ((lex_same e37).trans (lex_dT hg7)), same_mut (s3.trans e37) hgN, by rw [upd_ne g0g]; exact e37 _ _ hg03⟩
        rw [List.mem_append, mk, take1, List.mem_append, List.mem_singleton]
        constructor
        · rintro (⟨h1, h2⟩ | rfl)
          · exact ⟨.inl h1, h2⟩
          · exact ⟨.inr rfl, one.mp hl1⟩
        · rintro ⟨h1 | h1, h2⟩
          · exact .inl ⟨h1, h2⟩
          · exact .inr h1
      · have hl1 : ¬ us.length = 1 := of_decide_eq_false hl
        have e36 : Same H3 H6 := e4.trans (e5.trans e6)
        refine ⟨kvs, ks, some x, some ev, rfl, e36 _ _ hg3, ek, fun z => ?_, Nat.le_succ_of_le lk, lx.trans (lex_same e36), s3.trans e36, e36 _ _ hg03⟩
        rw [mk, take1, List.mem_append, List.mem_singleton]
        constructor
        · rintro ⟨h1, h2⟩
          exact ⟨.inl h1, h2⟩
        · rintro ⟨h1 | h1, h2⟩
          · exact ⟨h1, h2⟩
          · subst h1
            exact absurd (one.mpr h2) hl1
    · rintro HL eL σ' H3 ⟨kvs, ks, l3, l4, rfl, hg3, ek, mk, lk, lx, s3, hg03⟩
      refine s_ret (ev_var (i := 2) (v := .ref g) rfl) fun v' H4 e4 h4 => q v' H4 (s3.trans e4) ⟨g, kvs, ks, h4, e4 _ _ hg3, ek, by omega, fun k => ?_⟩
      rw [mk]
      rw [show es.take es.length = es from List.take_length, ese]
      exact and_assoc
/-! all_paths(book) -/
def spPaths : Sp := SpD (α := SBk) (fun b vs H => ∃ v, vs = [v] ∧ BookV b v H ∧ BkOk b) (fun b v H => ∃ ks : List (List Str), Tt H v (.tuple (ks.map strsD)) ∧ ∀ k, k ∈ ks ↔ Asc k ∧ Stand b k ∧ OneEnd b k)
theorem k_all_paths (T : Txt K mg) : Kn P w K mg base CX0 7 "all_paths" spPaths := by
  have G := k_ends_of_paths (P := P) (w := w) (base := base) T
  refine T.d_all_paths.kn c_all_paths (fun vs H Q E h => ?_) (fun f cdv A outer s H vs Q E hr h => ?_)
  · obtain ⟨a, ⟨v, rfl, _⟩, _⟩ := h
    rfl
  · obtain ⟨b, ⟨v, rfl, hv, hb⟩, q⟩ := h
    simp only at hv hb q
    refine ⟨_, pss_one (ps_ret (pe_callTy (cr_tupKT (by rfl)) (by rfl) T.b_tuple (by decide +kernel) (pa_cons (pe_kn G hr pass0 (pa_cons (pv 0) pa_nil)) pa_nil))), ?_⟩
    refine (ev_kn (ea_one (ev_vp (i := 0) (P := fun v H => BookV b v H) rfl (fun _ _ _ e q => q.same e) hv)) b (fun vs H2 _ ⟨v, h1, h2⟩ => ⟨v, h1, h2, hb⟩) fun v H2 _ h => h : Ev (tCall spEop [] E0 (tCons (tVar 0) tNil)) (start ["book"] [v]) H _) H (Same.refl H) _ fun gv H1 e1 ⟨g, kvs, ks, h1, h2, h3, h4, h5⟩ => ?_
    exact ⟨g, kvs, ks, by rw [h1], h2, h3, fun xs p t hp => q _ _ (e1.trans (same_new hp)) ⟨ks, .tup upd_same (t.same (same_new hp)), h5⟩⟩
end
end Up
end
section
set_option Elab.async false
set_option linter.all false
set_option maxRecDepth 100000
set_option maxHeartbeats 4000000
/-! The error OtherUnits; check_same. -/
namespace Up
open PySem PySem.Spec PyProof.Rows L2

abbrev bmVE : List Value := [.type "ValueError", .type "Exception", .type "BaseException", .type "object"]
/-- what the head says of OtherUnits, at C -/
structure TxtX (K : PySem.W.Frag) (mg : Str → Option Value) (C : Addr) : Prop where
  gC : mg "OtherUnits" = some (.ref C)
  ex : PySem.W.excIn K C bmVE "ValueError.__new__" = true
  kC : PySem.W.keepIn K (.ref C) = true
  sub : PySem.W.subIn K (.ref C) (.type "BaseException") = some true
  ty : PySem.W.typeIn K (.ref C) = some (.type "type")
  te : PySem.W.exmOne K (.ref C) (.ref C) = some true
  isC : ExcC K C
  isV : PySem.W.kitOne K (.ref C) (.type "ValueError") = some true
/-- a promise of two ways: a value, or the error -/
def SpX {α : Type} (C : Addr) (pre : α → List V → Hp → Prop) (bad : α → Prop) (post : α → V → Hp → Prop) : Sp := fun vs H Q E => ∃ a, pre a vs H ∧ (¬ bad a → ∀ v H', Same H H' → post a v H' → Q v H') ∧ (bad a → ∀ H', Same H H' → E (.ref C) none H')
section
variable {X : Cx} {C : Addr}
/-- OtherUnits() -/
theorem pmk_own0 {B newId initId : String} {bmB : List Value} {x : Str} {p pos : Pos} (F : ExcBaseFacts B newId initId bmB) (q : PySem.W.excIn X.K C bmB newId = true) (gC : X.mg x = some (.ref C)) (kC : PySem.W.keepIn X.K (.ref C) = true) (r : Raises X (.ref C)) (hg : Gl X x)
    (hdb : (x == ("__debug__" : Str)) = false := by decide) : PMk X (.Call (.Name x p) [] [] pos) (fun _ H Q => Q (.ref C) none H) := by
  intro pins s σ H Q I h
  refine wpAny_Call_Name_kw (ld_glob I hg gC ?_ hdb)
  refine PySem.W.callWith_K0 I.kIn kC ?_
  obtain ⟨bm, N, nm, qn, bs, hdct, sn, sub, ab, col, dd, k0, k1, k2, k3, k5, mN, hC, hN, hni, T⟩ := exc_obj I.kIn q
  refine wpAny_call_exc_subT F T hC hN hni (fun h' e hm => ?_) (Nat.zero_le _)
  exact mk_of I hm r h (I.hok.gone hm.new)
section
variable {CX : CXT} {k : Nat} {sp : Sp} {E : L2.St → XK} {x : Str} {p pos : Pos} {e : Expr} {es : List Expr} {t : TA}
theorem pe_knS (G : Kn X.prog X.w X.K X.mg X.base CX k x sp) (hr : Room k X.A) (hx : ∀ σ, PassesAt CX X σ (E σ)) (ha : PA X (e :: es) t) (hg : Gl X x := by rfl) (hdb : (x == ("__debug__" : Str)) = false := by decide)
    (he : starEach (e :: es) X.env = (false, eval e X.env) :: starEach es X.env := by rfl) (hpl : (backTo pos (starEach es X.env)).any (·.1) = false := by rfl) : PE X (.Call (.Name x p) (e :: es) [] pos) (tCallS sp E t) := by
  obtain ⟨f, fd, ps, F, hm, hk, hb⟩ := G.ex
  exact pe_callS F hr hg hm hk hb hx ha hdb he hpl
end
end
section
variable {P : Program} {w : World} {K : PySem.W.Frag} {mg : Str → Option Value} {base : Heap}
theorem Df.knX {x : Str} {st : Stmt} {N ps : List Str} {k : Nat} {sp : Sp} (F : Df K mg x st ps) (S : FnScope N ps (defScope st)) (len : ∀ vs H Q E, sp vs H Q E → vs.length = ps.length)
    (hbody : ∀ (f : Addr) (cdv : Value) (A : Around) (outer : List Env) (s : Shared) (H : Hp) (vs : List V) (Q : VK) (E : XK), Room k (A.deeper (envOfC x (defScope st) s.heap.objs.size f cdv)) → sp vs H Q E →
      ∃ t, PSs (cxOf (L2.CX P w) P w K mg base N x (defScope st) f cdv A outer s H E) (defBody st) t ∧ t { nx := fun _ H' => Q .non H', rt := Q } (start N vs) H) : Kn P w K mg base (L2.CX P w) (k + 1) x sp := by
  obtain ⟨f, fd, hm, F, hb⟩ := F.ex
  exact ⟨f, fd, ps, F.okX S len (fun cdv A outer s H vs Q E hr h => hbody f cdv A outer s H vs Q E hr h), hm, F.kp, hb⟩
variable {C : Addr}
/-- two books -/
def PreTwo (a : SBk × SBk) (vs : List V) (H : Hp) : Prop := ∃ v x, vs = [v, x] ∧ BookV a.1 v H ∧ BookV a.2 x H ∧ BkOk a.1 ∧ BkOk a.2
def Unlike (a : SBk × SBk) : Prop := unitsM a.1 ≠ unitsM a.2
def spSame (C : Addr) : Sp := SpX C PreTwo Unlike (fun _ v _ => v = .non)
theorem k_check_same (T : Txt K mg) (TX : TxtX K mg C) : Kn P w K mg base (L2.CX P w) 2 "check_same" (spSame C) := by
  have G := k_units (P := P) (w := w) (base := base) T
  refine T.d_check_same.knX c_check_same (fun vs H Q E h => ?_) (fun f cdv A outer s H vs Q E hr h => ?_)
  · obtain ⟨a, ⟨v, x, rfl, _⟩, _⟩ := h
    rfl
  · obtain ⟨⟨a, b⟩, ⟨v, x, rfl, hv, hx, ha, hb⟩, q1, q2⟩ := h
    simp only at hv hx ha hb
    refine ⟨_, pss_one (ps_if (pt_cmpR (op_neD hr.units) (pe_kn G hr pass0 (pa_cons (pv 0) pa_nil)) (pe_kn G hr pass0 (pa_cons (pv 1) pa_nil)) (by rfl)) (pss_one (L2.ps_raise (W := fun cls d _ H => E cls d H) (by rfl) (takes_of rfl rfl rfl rfl) (pmk_own0 PySem.F.excBase_ValueError TX.ex TX.gC TX.kC (raises_own TX.sub TX.ty) (by rfl)))) pss_nil), ?_⟩
    have e1 := (ev_kn (ea_one (ev_vp (i := 0) (v := v) (P := fun v H => BookV a v H) rfl (fun _ _ _ e q => q.same e) hv)) a (fun vs H2 _ ⟨v, h1, h2⟩ => ⟨v, h1, h2, ha.fair.few⟩) fun v H2 _ h => h : Ev (tCall spUnits [] E0 (tCons (tVar 0) tNil)) (start ["one", "other"] [v, x]) H (IsT (strsD (unitsM a))))
    have e2 := (ev_kn (ea_one (ev_vp (i := 1) (v := x) (P := fun v H => BookV b v H) rfl (fun _ _ _ e q => q.same e) hx)) b (fun vs H2 _ ⟨v, h1, h2⟩ => ⟨v, h1, h2, hb.fair.few⟩) fun v H2 _ h => h : Ev (tCall spUnits [] E0 (tCons (tVar 1) tNil)) (start ["one", "other"] [v, x]) H (IsT (strsD (unitsM b))))
    have key := ev_neD (K := K) (mono_t _) e1 e2 (fun v H1 h => h.dp) (fun v H1 h => h.dp) (shaped_strsD ha.txt) (shaped_strsD hb.txt)
    rw [eqv_strsD] at key
    refine s_if (b := !decide (unitsM a = unitsM b)) (et_test key) (fun hn H1 s1 => ?_) (fun hn H1 s1 => ?_)
    · exact q2 (show ¬ unitsM a = unitsM b from by simpa using hn) H1 s1
    · exact q1 (fun z : ¬ unitsM a = unitsM b => z (by simpa using hn)) _ H1 s1 rfl
end
end Up
end
section
set_option Elab.async false
set_option linter.all false
set_option maxRecDepth 100000
set_option maxHeartbeats 4000000
/-! min and max of a list, with a default or not: one of its values (printed by genmin.py). -/
namespace Up
open PySem PySem.Spec PyProof.Rows L2
section
variable {P : Program} {w : World} {A : Around} {E : Value → Shared → Prop} {s : Shared}
theorem up_call_kw {id : String} {b : Builtin} {args : List Value} {kw : List (Str × Value)} {Q : Value → Shared → Prop} (hk : builtinKind id = none) (hp : plainId id = true) (hb : entryFor table id = some b) (ha : argsOk id ⟨args, kw⟩)
    (hc : wpAny (model P w) A.in1 (b ⟨args, kw⟩) (fun fin s' => match fin with
      | .done f => (match (Except.ok f : Result) with | .ok (.ret v) => Q v s' | .ok _ => False | .error e => E e s')
      | .again c' => c'.quiet = true ∧ codeAny (model P w) A c' (fun r s' => match r with | .ok (.ret v) => Q v s' | .ok _ => False | .error e => E e s') s') E s) : wpAny (model P w) A (call (.builtin id) args kw) Q E s := by
  refine wpAny_call (codeAny_call_builtin hp hb ?_)
  simp only [checkBuiltinCall, hk]
  cases hsig : Manifest.signature? id with
  | none => exact wpAny_pure hc
  | some sig =>
    have hb' : Bind.checkArgs id sig ⟨args, kw⟩ = pure () := by simpa only [argsOk, hsig] using ha
    simp only [hb']
    exact wpAny_pure hc
variable {R : Result → Shared → Prop} {I : Addr} {fp : List Addr} {n : Nat} {Pv : Nat → Value → Prop} {St : Nat → Heap → Prop}

theorem up_min_loop (W : Walks P w A.in1 I fp [I] n Pv St) (dflt : Option Value) (S : Addr) (hSf : S ∉ fp) (good : Value → Prop) (hv : ∀ i v, Pv i v → good v) (h0 : Heap) (hS0 : h0.get? S = none) (hI0 : h0.get? I = none)
    (cmp : ∀ (s' : Shared) (u v : Value) (E : Value → Shared → Prop) (Q : Value → Shared → Prop), (∀ b o, h0.get? b = some o → s'.heap.get? b = some o) → good u → good v → (∀ b, Q (.bool b) s') → wpAny (model P w) A.in1 (richCompare .Lt u v) Q E s') :
    ∀ (k i : Nat) (s : Shared) (cur : Option Value) (c : Nat), n - i = k → i ≤ n → St i s.heap → (∀ b o, h0.get? b = some o → s.heap.get? b = some o) → (cur = none → i = 0) → (∀ v, cur = some v → good v ∧ 0 < i) →
      s.heap.get? S = some { cls := .type "list", dict := none, data := .seq (match cur with | none => #[] | some v => #[v, v]) c, slots := #[] } → (n = 0 → dflt.isSome = true) →
      (∀ v h' tk, (n = 0 → dflt = some v) → (0 < n → good v) → (∀ b o, h0.get? b = some o → h'.get? b = some o) → R (.ok (.ret v)) { s with heap := h', toks := tk }) →
      codeAny (model P w) A (.builtin "min.loop" ⟨[.ref I, .none, .ref S], dflt.toList.map fun d => ("default", d)⟩) R s := by
  have hSI : S ≠ I := fun e => hSf (W.sub S (by rw [e]; exact List.mem_singleton.mpr rfl))
  have hname : (toString "min" ++ toString ".loop" : String) = "min.loop" := by decide
  have keep : ∀ {h h' : Heap}, (∀ b o, b ∉ [I] → h.get? b = some o → h'.get? b = some o) → (∀ b o, h0.get? b = some o → h.get? b = some o) → ∀ b o, h0.get? b = some o → h'.get? b = some o := fun hm hk b o e =>
    hm b o (fun z => by rw [List.mem_singleton.mp z, hI0] at e; cases e) (hk b o e)
  have keepS : ∀ {h : Heap} {g : Obj → Obj}, (∀ b o, h0.get? b = some o → h.get? b = some o) → ∀ b o, h0.get? b = some o → (h.update S g).get? b = some o := fun hk b o e =>
    (Heap.get?_update_other _ _ (fun z : S = b => by rw [← z, hS0] at e; cases e)).trans (hk b o e)
  intro k
  induction k with
  | zero =>
    intro i s cur c hk hi hst kp hc hg hS hd hR
    have hin : i = n := by omega
    refine codeAny_builtin PySem.F.entry_min_loop ?_
    rw [Around.under_plainId PySem.F.plain_min_loop _]
    show wpAny _ A.in1 (seqItems? (.ref S) >>= _) _ _ s
    refine wpAny_bind (wpAny_seqItems hS rfl ?_)
    show wpAny _ A.in1 (tryCatch (pyNext (.ref I)) _ >>= _) _ _ s
    refine wpAny_bind (wpAny_tryCatch (W.done s _ _ (hin ▸ hst) fun h' tk hk' => ?_))
    have hS' := hk' S _ (fun z => hSI (List.mem_singleton.mp z)) hS
    have kp' := keep hk' kp
    cases cur with
    | some v =>
      show wpAny _ A.in1 (updateSeq S (fun _ => #[]) >>= _) _ _ _
      refine wpAny_bind (wpAny_updateSeq hS' rfl (wpAny_bind (wpAny_letGo (wpAny_pure ?_))))
      obtain ⟨g, hi0⟩ := hg v rfl
      exact hR v _ tk (fun z => by omega) (fun _ => g) (keepS kp')
    | none =>
      have n0 : n = 0 := by have := hc rfl; omega
      obtain ⟨d, rfl⟩ := Option.isSome_iff_exists.mp (hd n0)
      show wpAny _ A.in1 (rule _ >>= fun _ => ret d) _ _ _
      refine wpAny_bind (wpAny_rule (wpAny_pure ?_))
      exact hR d h' tk (fun _ => rfl) (fun z => by omega) kp'
  | succ k ih =>
    intro i s cur c hk hi hst kp hc hg hS hd hR
    have hlt : i < n := by omega
    refine codeAny_builtin PySem.F.entry_min_loop ?_
    rw [Around.under_plainId PySem.F.plain_min_loop _]
    show wpAny _ A.in1 (seqItems? (.ref S) >>= _) _ _ s
    refine wpAny_bind (wpAny_seqItems hS rfl ?_)
    show wpAny _ A.in1 (tryCatch (pyNext (.ref I)) _ >>= _) _ _ s
    refine wpAny_bind (wpAny_tryCatch (W.item i s _ _ hlt hst fun v h' tk hP hst' hk' => ?_))
    have hS' := hk' S _ (fun z => hSI (List.mem_singleton.mp z)) hS
    have kp' := keep hk' kp
    have gv := hv i v hP
    cases cur with
    | none =>
      show wpAny _ A.in1 (updateSeq S (fun _ => #[v, v]) >>= _) _ _ _
      refine wpAny_bind (wpAny_updateSeq hS' rfl ?_)
      rw [hname]
      refine wpAny_pure ⟨plainId_quiet PySem.F.plain_min_loop _, ih (i + 1) _ (some v) _ (by omega) hlt (W.frame _ _ _ hst' fun b hbf o e => ?_) (keepS kp') (fun z => nomatch z) (fun u e => by cases e; exact ⟨gv, Nat.succ_pos _⟩) (Heap.get?_update_self _ hS' rfl) hd hR⟩
      exact (Heap.get?_update_other _ _ (fun h : S = b => hSf (by rw [h]; exact hbf))).trans e
    | some vb =>
      obtain ⟨gb, _⟩ := hg vb rfl
      show wpAny _ A.in1 (tryCatch (holding [v, v] (richCompare .Lt v vb >>= _)) _ >>= _) _ _ _
      refine wpAny_bind (wpAny_tryCatch (wpAny_holding (wpAny_bind (cmp _ v vb _ _ kp' gv gb fun b => ?_))))
      refine wpAny_bind (wpAny_holding (wpAny_truthy_bool ?_))
      refine wpAny_bind (wpAny_letGo (wpAny_pure ?_))
      cases b with
      | true =>
        simp only [if_true]
        refine wpAny_bind ?_
        refine wpAny_updateSeq hS' rfl (wpAny_bind (wpAny_letGo ?_))
        rw [hname]
        refine wpAny_pure ⟨plainId_quiet PySem.F.plain_min_loop _, ih (i + 1) _ (some v) _ (by omega) hlt (W.frame _ _ _ hst' fun b hbf o e => ?_) (keepS kp') (fun z => nomatch z) (fun u e => by cases e; exact ⟨gv, Nat.succ_pos _⟩) (Heap.get?_update_self _ hS' rfl) hd hR⟩
        exact (Heap.get?_update_other _ _ (fun h : S = b => hSf (by rw [h]; exact hbf))).trans e
      | false =>
        simp only [Bool.false_eq_true, if_false]
        refine wpAny_bind (wpAny_letGo ?_)
        rw [hname]
        exact wpAny_pure ⟨plainId_quiet PySem.F.plain_min_loop _, ih (i + 1) _ (some vb) c (by omega) hlt hst' kp' (fun z => nomatch z) (fun u e => by cases e; exact ⟨gb, Nat.succ_pos _⟩) hS' hd hR⟩
/-- min(list[, default=d]): one of the values, or d -/
theorem up_min {l : Addr} {items : Array Value} {Q : Value → Shared → Prop} (dflt : Option Value) (hh : A.handled = none) (hl : s.heap.IsList l items) (good : Value → Prop) (hv : ∀ v ∈ items.toList, good v) (hd : items.size = 0 → dflt.isSome = true)
    (cmp : ∀ (s' : Shared) (u v : Value) (E : Value → Shared → Prop) (Q : Value → Shared → Prop), (∀ b o, s.heap.get? b = some o → s'.heap.get? b = some o) → good u → good v → (∀ b, Q (.bool b) s') → wpAny (model P w) A.in1 (richCompare .Lt u v) Q E s')
    (hR : ∀ v h' tk, (items.size = 0 → dflt = some v) → (0 < items.size → good v) → (∀ b o, s.heap.get? b = some o → h'.get? b = some o) → Q v { s with heap := h', toks := tk }) : wpAny (model P w) A (call (.builtin "min") [.ref l] (dflt.toList.map fun d => ("default", d))) Q E s := by
  have hll : l < s.heap.objs.size := let ⟨_, ho, _⟩ := hl; Heap.lt_size ho
  have hname : (toString "min" ++ toString ".loop" : String) = "min.loop" := by decide
  refine up_call_kw PySem.F.kind_min PySem.F.plain_min PySem.F.entry_min (by cases dflt <;> (unfold argsOk; kernel_rfl)) ?_
  show wpAny _ A.in1 (Builtin.Builtins.bindParams "min" ["key", "default"] 0 ⟨[], dflt.toList.map fun d => ("default", d)⟩ >>= _) _ _ s
  refine wpAny_bind (wpAny_of_eq (a := [none, dflt]) (by cases dflt <;> rfl) ?_)
  refine wpAny_bind (wpAny_pure ?_)
  refine wpAny_bind (wpAny_pyIter_list hl ?_)
  refine wpAny_bind (wpAny_newObj_type ?_)
  have n1 : ∀ b, s.heap.objs.size ≤ b → s.heap.get? b = none := fun b hb => by
    cases q : s.heap.get? b with
    | none => rfl
    | some o => exact absurd (Nat.lt_of_lt_of_le (Heap.lt_size q) hb) (Nat.lt_irrefl _)
  have z1 : (s.heap.push { cls := .type "list_iterator", data := .fields #[.ref l, .int 0 0] }).objs.size = s.heap.objs.size + 1 := Heap.size_push ..
  have ne : l ≠ s.heap.objs.size := Nat.ne_of_lt hll
  rw [hname]
  refine wpAny_pure ⟨plainId_quiet PySem.F.plain_min_loop _, up_min_loop (Walks.list (show A.in1.handled = none from hh) s.heap.objs.size l ne items) dflt (s.heap.push { cls := .type "list_iterator", data := .fields #[.ref l, .int 0 0] }).objs.size ?_ good (fun i v e => hv v (Array.mem_toList_iff.mpr (Array.mem_of_getElem? e))) s.heap (n1 _ (by rw [z1]; exact Nat.le_succ _)) (n1 _ (Nat.le_refl _)) cmp
    (items.size - 0) 0 _ none 0 rfl (Nat.zero_le _) ⟨⟨_, Heap.get?_push_of_some _ (Heap.get?_push_size _ rfl), rfl, rfl⟩, (hl.push _).push _⟩ (fun b o e => Heap.get?_push_of_some _ (Heap.get?_push_of_some _ e)) (fun _ => rfl) (fun v e => nomatch e) (Heap.get?_push_size _ rfl) hd hR⟩
  rw [z1, List.mem_cons, List.mem_singleton, not_or]
  exact ⟨Nat.ne_of_gt (Nat.lt_succ_self _), Nat.ne_of_gt (Nat.lt_succ_of_lt hll)⟩


theorem up_max_loop (W : Walks P w A.in1 I fp [I] n Pv St) (dflt : Option Value) (S : Addr) (hSf : S ∉ fp) (good : Value → Prop) (hv : ∀ i v, Pv i v → good v) (h0 : Heap) (hS0 : h0.get? S = none) (hI0 : h0.get? I = none)
    (cmp : ∀ (s' : Shared) (u v : Value) (E : Value → Shared → Prop) (Q : Value → Shared → Prop), (∀ b o, h0.get? b = some o → s'.heap.get? b = some o) → good u → good v → (∀ b, Q (.bool b) s') → wpAny (model P w) A.in1 (richCompare .Gt u v) Q E s') :
    ∀ (k i : Nat) (s : Shared) (cur : Option Value) (c : Nat), n - i = k → i ≤ n → St i s.heap → (∀ b o, h0.get? b = some o → s.heap.get? b = some o) → (cur = none → i = 0) → (∀ v, cur = some v → good v ∧ 0 < i) →
      s.heap.get? S = some { cls := .type "list", dict := none, data := .seq (match cur with | none => #[] | some v => #[v, v]) c, slots := #[] } → (n = 0 → dflt.isSome = true) →
      (∀ v h' tk, (n = 0 → dflt = some v) → (0 < n → good v) → (∀ b o, h0.get? b = some o → h'.get? b = some o) → R (.ok (.ret v)) { s with heap := h', toks := tk }) →
      codeAny (model P w) A (.builtin "max.loop" ⟨[.ref I, .none, .ref S], dflt.toList.map fun d => ("default", d)⟩) R s := by
  have hSI : S ≠ I := fun e => hSf (W.sub S (by rw [e]; exact List.mem_singleton.mpr rfl))
  have hname : (toString "max" ++ toString ".loop" : String) = "max.loop" := by decide
  have keep : ∀ {h h' : Heap}, (∀ b o, b ∉ [I] → h.get? b = some o → h'.get? b = some o) → (∀ b o, h0.get? b = some o → h.get? b = some o) → ∀ b o, h0.get? b = some o → h'.get? b = some o := fun hm hk b o e =>
    hm b o (fun z => by rw [List.mem_singleton.mp z, hI0] at e; cases e) (hk b o e)
  have keepS : ∀ {h : Heap} {g : Obj → Obj}, (∀ b o, h0.get? b = some o → h.get? b = some o) → ∀ b o, h0.get? b = some o → (h.update S g).get? b = some o := fun hk b o e =>
    (Heap.get?_update_other _ _ (fun z : S = b => by rw [← z, hS0] at e; cases e)).trans (hk b o e)
  intro k
  induction k with
  | zero =>
    intro i s cur c hk hi hst kp hc hg hS hd hR
    have hin : i = n := by omega
    refine codeAny_builtin PySem.F.entry_max_loop ?_
    rw [Around.under_plainId PySem.F.plain_max_loop _]
    show wpAny _ A.in1 (seqItems? (.ref S) >>= _) _ _ s
    refine wpAny_bind (wpAny_seqItems hS rfl ?_)
    show wpAny _ A.in1 (tryCatch (pyNext (.ref I)) _ >>= _) _ _ s
    refine wpAny_bind (wpAny_tryCatch (W.done s _ _ (hin ▸ hst) fun h' tk hk' => ?_))
    have hS' := hk' S _ (fun z => hSI (List.mem_singleton.mp z)) hS
    have kp' := keep hk' kp
    cases cur with
    | some v =>
      show wpAny _ A.in1 (updateSeq S (fun _ => #[]) >>= _) _ _ _
      refine wpAny_bind (wpAny_updateSeq hS' rfl (wpAny_bind (wpAny_letGo (wpAny_pure ?_))))
      obtain ⟨g, hi0⟩ := hg v rfl
      exact hR v _ tk (fun z => by omega) (fun _ => g) (keepS kp')
    | none =>
      have n0 : n = 0 := by have := hc rfl; omega
      obtain ⟨d, rfl⟩ := Option.isSome_iff_exists.mp (hd n0)
      show wpAny _ A.in1 (rule _ >>= fun _ => ret d) _ _ _
      refine wpAny_bind (wpAny_rule (wpAny_pure ?_))
      exact hR d h' tk (fun _ => rfl) (fun z => by omega) kp'
  | succ k ih =>
    intro i s cur c hk hi hst kp hc hg hS hd hR
    have hlt : i < n := by omega
    refine codeAny_builtin PySem.F.entry_max_loop ?_
    rw [Around.under_plainId PySem.F.plain_max_loop _]
    show wpAny _ A.in1 (seqItems? (.ref S) >>= _) _ _ s
    refine wpAny_bind (wpAny_seqItems hS rfl ?_)
    show wpAny _ A.in1 (tryCatch (pyNext (.ref I)) _ >>= _) _ _ s
    refine wpAny_bind (wpAny_tryCatch (W.item i s _ _ hlt hst fun v h' tk hP hst' hk' => ?_))
    have hS' := hk' S _ (fun z => hSI (List.mem_singleton.mp z)) hS
    have kp' := keep hk' kp
    have gv := hv i v hP
    cases cur with
    | none =>
      show wpAny _ A.in1 (updateSeq S (fun _ => #[v, v]) >>= _) _ _ _
      refine wpAny_bind (wpAny_updateSeq hS' rfl ?_)
      rw [hname]
      refine wpAny_pure ⟨plainId_quiet PySem.F.plain_max_loop _, ih (i + 1) _ (some v) _ (by omega) hlt (W.frame _ _ _ hst' fun b hbf o e => ?_) (keepS kp') (fun z => nomatch z) (fun u e => by cases e; exact ⟨gv, Nat.succ_pos _⟩) (Heap.get?_update_self _ hS' rfl) hd hR⟩
      exact (Heap.get?_update_other _ _ (fun h : S = b => hSf (by rw [h]; exact hbf))).trans e
    | some vb =>
      obtain ⟨gb, _⟩ := hg vb rfl
      show wpAny _ A.in1 (tryCatch (holding [v, v] (richCompare .Gt v vb >>= _)) _ >>= _) _ _ _
      refine wpAny_bind (wpAny_tryCatch (wpAny_holding (wpAny_bind (cmp _ v vb _ _ kp' gv gb fun b => ?_))))
      refine wpAny_bind (wpAny_holding (wpAny_truthy_bool ?_))
      refine wpAny_bind (wpAny_letGo (wpAny_pure ?_))
      cases b with
      | true =>
        simp only [if_true]
        refine wpAny_bind ?_
        refine wpAny_updateSeq hS' rfl (wpAny_bind (wpAny_letGo ?_))
        rw [hname]
        refine wpAny_pure ⟨plainId_quiet PySem.F.plain_max_loop _, ih (i + 1) _ (some v) _ (by omega) hlt (W.frame _ _ _ hst' fun b hbf o e => ?_) (keepS kp') (fun z => nomatch z) (fun u e => by cases e; exact ⟨gv, Nat.succ_pos _⟩) (Heap.get?_update_self _ hS' rfl) hd hR⟩
        exact (Heap.get?_update_other _ _ (fun h : S = b => hSf (by rw [h]; exact hbf))).trans e
      | false =>
        simp only [Bool.false_eq_true, if_false]
        refine wpAny_bind (wpAny_letGo ?_)
        rw [hname]
        exact wpAny_pure ⟨plainId_quiet PySem.F.plain_max_loop _, ih (i + 1) _ (some vb) c (by omega) hlt hst' kp' (fun z => nomatch z) (fun u e => by cases e; exact ⟨gb, Nat.succ_pos _⟩) hS' hd hR⟩
/-- max(list[, default=d]): one of the values, or d -/
theorem up_max {l : Addr} {items : Array Value} {Q : Value → Shared → Prop} (dflt : Option Value) (hh : A.handled = none) (hl : s.heap.IsList l items) (good : Value → Prop) (hv : ∀ v ∈ items.toList, good v) (hd : items.size = 0 → dflt.isSome = true)
    (cmp : ∀ (s' : Shared) (u v : Value) (E : Value → Shared → Prop) (Q : Value → Shared → Prop), (∀ b o, s.heap.get? b = some o → s'.heap.get? b = some o) → good u → good v → (∀ b, Q (.bool b) s') → wpAny (model P w) A.in1 (richCompare .Gt u v) Q E s')
    (hR : ∀ v h' tk, (items.size = 0 → dflt = some v) → (0 < items.size → good v) → (∀ b o, s.heap.get? b = some o → h'.get? b = some o) → Q v { s with heap := h', toks := tk }) : wpAny (model P w) A (call (.builtin "max") [.ref l] (dflt.toList.map fun d => ("default", d))) Q E s := by
  have hll : l < s.heap.objs.size := let ⟨_, ho, _⟩ := hl; Heap.lt_size ho
  have hname : (toString "max" ++ toString ".loop" : String) = "max.loop" := by decide
  refine up_call_kw PySem.F.kind_max PySem.F.plain_max PySem.F.entry_max (by cases dflt <;> (unfold argsOk; kernel_rfl)) ?_
  show wpAny _ A.in1 (Builtin.Builtins.bindParams "max" ["key", "default"] 0 ⟨[], dflt.toList.map fun d => ("default", d)⟩ >>= _) _ _ s
  refine wpAny_bind (wpAny_of_eq (a := [none, dflt]) (by cases dflt <;> rfl) ?_)
  refine wpAny_bind (wpAny_pure ?_)
  refine wpAny_bind (wpAny_pyIter_list hl ?_)
  refine wpAny_bind (wpAny_newObj_type ?_)
  have n1 : ∀ b, s.heap.objs.size ≤ b → s.heap.get? b = none := fun b hb => by
    cases q : s.heap.get? b with
    | none => rfl
    | some o => exact absurd (Nat.lt_of_lt_of_le (Heap.lt_size q) hb) (Nat.lt_irrefl _)
  have z1 : (s.heap.push { cls := .type "list_iterator", data := .fields #[.ref l, .int 0 0] }).objs.size = s.heap.objs.size + 1 := Heap.size_push ..
  have ne : l ≠ s.heap.objs.size := Nat.ne_of_lt hll
  rw [hname]
  refine wpAny_pure ⟨plainId_quiet PySem.F.plain_max_loop _, up_max_loop (Walks.list (show A.in1.handled = none from hh) s.heap.objs.size l ne items) dflt (s.heap.push { cls := .type "list_iterator", data := .fields #[.ref l, .int 0 0] }).objs.size ?_ good (fun i v e => hv v (Array.mem_toList_iff.mpr (Array.mem_of_getElem? e))) s.heap (n1 _ (by rw [z1]; exact Nat.le_succ _)) (n1 _ (Nat.le_refl _)) cmp
    (items.size - 0) 0 _ none 0 rfl (Nat.zero_le _) ⟨⟨_, Heap.get?_push_of_some _ (Heap.get?_push_size _ rfl), rfl, rfl⟩, (hl.push _).push _⟩ (fun b o e => Heap.get?_push_of_some _ (Heap.get?_push_of_some _ e)) (fun _ => rfl) (fun v e => nomatch e) (Heap.get?_push_size _ rfl) hd hR⟩
  rw [z1, List.mem_cons, List.mem_singleton, not_or]
  exact ⟨Nat.ne_of_gt (Nat.lt_succ_self _), Nat.ne_of_gt (Nat.lt_succ_of_lt hll)⟩

end
end Up
end
section
set_option Elab.async false
set_option linter.all false
set_option maxRecDepth 100000
set_option maxHeartbeats 4000000
/-! max(ints, default=d), min(ints, default=d), min(pairs) as rules. -/
namespace Up
open PySem PySem.Spec PyProof.Rows L2

/-- one of ints, or the default -/
def rMmI (K : PySem.W.Frag) : List V → List V → Hp → VK → Prop := fun vs zs H Q => ∃ (a : Addr) (ns : List Int) (d : V), vs = [.ref a] ∧ SqL K H a (ns.map V.int) ∧ zs = [d] ∧ (ns ≠ [] → ∀ i : Int, Q (.int i) H) ∧ (ns = [] → Q d H)
theorem vals_int : ∀ {ns : List Int} {us : List Value}, Vals (ns.map V.int) us → ∀ v ∈ us, ∃ i t, v = Value.int i t
  | [], _, .nil, v, h => by cases h
  | n :: ns, _, .cons r t, v, h => by
    obtain ⟨k, e⟩ := r
    rcases List.mem_cons.mp h with z | z
    · exact ⟨n, k, z.trans e⟩
    · exact vals_int t v z
section
variable {X : Cx}
theorem cr_maxI (hc : X.calm = true) : CallRK X (.builtin "max") ["default"] (rMmI X.K) := by
  intro pins s σ H xs zs us ws Q I r rz h
  obtain ⟨a, ns, d, rfl, hl, rfl, q1, q2⟩ := h
  obtain ⟨its, rv, pl, _⟩ := I.list hl
  rw [Vals.ref1 r]
  obtain ⟨w, rfl, rw'⟩ := vals1 rz
  have len := rv.length
  rw [List.length_map] at len
  refine up_max (dflt := some w) (I.ok.hd hc) pl.isList (fun v => ∃ i t, v = Value.int i t) (fun v hv => vals_int rv v (by simpa using hv)) (fun _ => rfl) (fun s' u v E Q kp ⟨i, t, e1⟩ ⟨j, t', e2⟩ k => by subst e1 e2; exact gt_int (k _)) fun v h' tk c1 c2 kp => ?_
  rw [List.size_toArray, ← len] at c1 c2
  by_cases n0 : ns = []
  · have := c1 (by rw [n0]; rfl)
    cases this
    exact ⟨d, H, I.kept (t' := tk) kp, rw', q2 n0⟩
  · obtain ⟨i, t, e⟩ := c2 (List.length_pos_iff.mpr n0)
    subst e
    exact ⟨.int i, H, I.kept (t' := tk) kp, ⟨t, rfl⟩, q1 n0 i⟩
theorem cr_minI (hc : X.calm = true) : CallRK X (.builtin "min") ["default"] (rMmI X.K) := by
  intro pins s σ H xs zs us ws Q I r rz h
  obtain ⟨a, ns, d, rfl, hl, rfl, q1, q2⟩ := h
  obtain ⟨its, rv, pl, _⟩ := I.list hl
  rw [Vals.ref1 r]
  obtain ⟨w, rfl, rw'⟩ := vals1 rz
  have len := rv.length
  rw [List.length_map] at len
  refine up_min (dflt := some w) (I.ok.hd hc) pl.isList (fun v => ∃ i t, v = Value.int i t) (fun v hv => vals_int rv v (by simpa using hv)) (fun _ => rfl) (fun s' u v E Q kp ⟨i, t, e1⟩ ⟨j, t', e2⟩ k => by subst e1 e2; exact lt_int (k _)) fun v h' tk c1 c2 kp => ?_
  rw [List.size_toArray, ← len] at c1 c2
  by_cases n0 : ns = []
  · have := c1 (by rw [n0]; rfl)
    cases this
    exact ⟨d, H, I.kept (t' := tk) kp, rw', q2 n0⟩
  · obtain ⟨i, t, e⟩ := c2 (List.length_pos_iff.mpr n0)
    subst e
    exact ⟨.int i, H, I.kept (t' := tk) kp, ⟨t, rfl⟩, q1 n0 i⟩

theorem cr_maxIK {X : Cx} {K : PySem.W.Frag} (h : X.K = K) (hc : X.calm = true) : CallRK X (.builtin "max") ["default"] (rMmI K) := by subst h; exact cr_maxI hc
def rowD (p : Int × Str) : PyData := .tuple [.int p.1, .str p.2]
theorem alike_row (p q : Int × Str) : PySem.W.alike (rowD p) (rowD q) = true := by
  unfold rowD
  simp [PySem.W.alike, PySem.W.alikeAll]
theorem depth_row (p : Int × Str) : (rowD p).depth ≤ 2 := by
  unfold rowD
  simp [PyData.depth, PyData.depthAll]
/-- min(rows): one of them -/
def rMinR : List V → Hp → VK → Prop := fun vs H Q => ∃ (a : Addr) (xs : List V) (ps : List (Int × Str)), vs = [.ref a] ∧ H a = some (.lst xs) ∧ TtA H xs (ps.map rowD) ∧ ps ≠ [] ∧ ∀ x, ∀ p ∈ ps, Tt H x (rowD p) → Q x H
theorem vals_mem {H : Hp} : ∀ {xs : List V} {us : List Value} {ps : List (Int × Str)}, Vals xs us → TtA H xs (ps.map rowD) → ∀ v ∈ us, ∃ x, ∃ p ∈ ps, RelV x v ∧ Tt H x (rowD p)
  | [], _, _, .nil, _, v, h => by cases h
  | x :: xs, _, [], .cons _ _, t, _, _ => by
    have t' : TtA H _ [] := t
    cases t'
  | x :: xs, _, p :: ps, .cons r rs, t, v, h => by
    have t' : TtA H (x :: xs) (rowD p :: ps.map rowD) := t
    cases t' with
    | cons h1 h2 =>
      rcases List.mem_cons.mp h with z | z
      · exact ⟨x, p, List.mem_cons_self, by rw [z]; exact r, h1⟩
      · obtain ⟨x', p', a, b⟩ := vals_mem rs h2 v z
        exact ⟨x', p', List.mem_cons_of_mem _ a, b⟩
theorem cr_minR (hc : X.calm = true) (hu : X.A.units + 64 < cLine) : CallR X (.builtin "min") rMinR := by
  intro pins s σ H xs us Q I r h
  obtain ⟨a, ys, ps, rfl, hl, ht, hn, q⟩ := h
  obtain ⟨its, rv, pl, _⟩ := I.list (.inl (.inl hl))
  rw [Vals.ref1 r]
  have len : its.length = ps.length := by
    have l1 := rv.length
    have l2 := ht.len
    rw [List.length_map] at l2
    omega
  refine up_min (dflt := none) (I.ok.hd hc) pl.isList (fun v => ∃ x, ∃ p ∈ ps, RelV x v ∧ Tt H x (rowD p)) (fun v hv => vals_mem rv ht v (by simpa using hv)) (fun z => ?_) (fun s' u v E Q kp ⟨x, p, _, r1, t1⟩ ⟨y, p', _, r2, t2⟩ k => ?_) fun v h' tk c1 c2 kp => ?_
  · rw [List.size_toArray, len] at z
    exact absurd (List.length_eq_zero_iff.mp z) hn
  · obtain ⟨as, ra⟩ := Dp.reads I _ x u t1.dp r1
    obtain ⟨bs, rb⟩ := Dp.reads I _ y v t2.dp r2
    refine PySem.W.rcLt_alike (rowD p) (rowD p') X.A.in1 s' u v as bs (PyProof.Rows.Reads.keeps kp ra) (PyProof.Rows.Reads.keeps kp rb) (alike_row p p') (fun z => by cases z) ?_ _ _ _ _ (k _)
    have d := depth_row p
    have : min (rowD p).depth (rowD p').depth ≤ 2 := Nat.le_trans (Nat.min_le_left _ _) d
    have e : X.A.in1.units = X.A.units + 1 := rfl
    omega
  · obtain ⟨x, p, hp, r1, t1⟩ := c2 (by rw [List.size_toArray, len]; exact List.length_pos_iff.mpr hn)
    exact ⟨x, H, I.kept (t' := tk) kp, r1, q x p hp t1⟩
end
section
variable {K : PySem.W.Frag} {σ : L2.St} {H : Hp} {te td : TE}
theorem tta_ints {H : Hp} : ∀ {xs : List V} {ns : List Int}, TtA H xs (ns.map PyData.int) → xs = ns.map V.int
  | _, [], h => by cases h; rfl
  | _, n :: ns, h => by
    have h' : TtA H _ (PyData.int n :: ns.map PyData.int) := h
    cases h' with
    | cons r t =>
      cases r
      rw [tta_ints t]; rfl
/-- .. as a value: an int, or the default -/
theorem ev_mmI {ns : List Int} {d : V} (h : Ev te σ H (IsL (ns.map .int))) (hd : Ev td σ H (fun w _ => w = d)) : Ev (tCKw (rMmI K) (tCons te tNil) (tCons td tNil)) σ H (fun v _ => if ns = [] then v = d else ∃ i : Int, v = .int i) := fun H1 e Q q =>
  h H1 e _ fun v H2 e2 ⟨a, xs, ev, hl, t⟩ => hd H2 (e.trans e2) _ fun y H3 e3 py => by
    subst ev py
    refine ⟨a, ns, y, rfl, sq_l (by rw [e3 _ _ hl, tta_ints t]), rfl, fun n0 i => q _ H3 (e2.trans e3) (by dsimp only; rw [if_neg n0]; exact ⟨i, rfl⟩), fun n0 => q _ H3 (e2.trans e3) (by dsimp only; rw [if_pos n0])⟩
theorem ev_minR {ps : List (Int × Str)} (h : Ev te σ H (IsL (ps.map rowD))) (hn : ps ≠ []) : Ev (tCB rMinR (tCons te tNil)) σ H (fun v H' => ∃ p ∈ ps, Tt H' v (rowD p)) := ev_cb (ea_one h) fun vs H1 _ ⟨v, hv, a, xs, e1, hl, t⟩ Q q => by
  subst hv e1
  exact ⟨a, xs, ps, rfl, hl, t, hn, fun x p hp tx => q _ _ (Same.refl _) ⟨p, hp, tx⟩⟩
end
end Up
end
section
set_option Elab.async false
set_option linter.all false
set_option maxRecDepth 100000
set_option maxHeartbeats 4000000
/-! The def begin_by. -/
namespace Up
open PySem PySem.Spec PyProof.Rows L2

section
variable {K : PySem.W.Frag} {σ : L2.St} {H : Hp} {te tk td : TE} {tt : TT}
/-- a comprehension whose items are only known by a word -/
theorem ev_lcV {β : Type} {bs : List β} {R : β → V → Hp → Prop} {wi : TI} {g : TG} {vs : List Nat} (hsrc : Src wi σ H bs R) (keep : β → Bool) (Pi : β → V → Prop) (hz : bs.length ≤ 99999)
    (turn : ∀ b ∈ bs, ∀ x H1, Same H H1 → R b x H1 → ∀ C : L2.St → Hp → Prop, (∀ σ2 H2, Same H1 H2 → wipe σ2 vs = wipe σ vs → EvT tt σ2 H2 (keep b) → (keep b = true → Ev te σ2 H2 (fun v _ => Pi b v)) → C σ2 H2) → g x (wipe σ vs) H1 C) :
    Ev (tLc wi g tt te vs) σ H (fun v H' => ∃ p xs, v = .ref p ∧ H' p = some (.lst xs) ∧ Paired (fun x b => Pi b x) xs (bs.filter keep)) := fun H0 e0 Q q =>
  hsrc H0 e0 _ fun J H1 G Y e1 w mono g1 yok D hD => by
    refine lc_it w (fun i H' => ∃ acc, Same H1 H' ∧ H' D = some (.lst acc) ∧ Paired (fun x b => Pi b x) acc ((bs.take i).filter keep)) ⟨[], same_new hD, upd_same, by rw [List.take_zero]; exact .nil⟩ (fun i H' _ pv => let ⟨_, s, _⟩ := pv; mono _ _ s g1) (fun i x H' H3 hi pv y => ?_) (fun H' pv => ?_)
    · obtain ⟨acc, s1, hacc, ta⟩ := pv
      have hb : bs[i]? = some bs[i] := List.getElem?_eq_getElem hi
      obtain ⟨s3, rb⟩ := yok i _ x H' H3 hb (mono _ _ s1 g1) y
      refine turn bs[i] (List.getElem_mem hi) x H3 (((e0.trans e1).trans s1).trans s3) rb _ fun σ2 H2 e2 hw ht he => ⟨hw, ht H2 (Same.refl _) _ fun H4 e4 => ?_⟩
      have s4 : Same H' H4 := (s3.trans e2).trans e4
      cases hk : keep bs[i] with
      | true =>
        rw [if_pos rfl]
        refine he hk H4 e4 _ fun y H5 e5 py => ⟨acc, e5 _ _ (s4 _ _ hacc), ?_, acc ++ [y], same_mut (s1.trans (s4.trans e5)) hD, upd_same, ?_⟩
        · rw [paired_len ta]
          have := List.length_filter_le keep (bs.take i)
          rw [List.length_take] at this
          exact size_lt (by omega)
        · rw [take_more hb, List.filter_append, List.filter_cons, if_pos hk]
          exact Paired.snoc ta py
      | false =>
        rw [if_neg (by decide)]
        refine ⟨acc, s1.trans s4, s4 _ _ hacc, ?_⟩
        rw [take_more hb, List.filter_append, List.filter_cons, if_neg (by rw [hk]; decide), List.filter_nil, List.append_nil]
        exact ta
    · obtain ⟨acc, s1, hacc, ta⟩ := pv
      rw [List.take_length] at ta
      exact q _ H' (e1.trans s1) ⟨D, acc, rfl, hacc, ta⟩
theorem ints_paired {β : Type} : ∀ {xs : List V} {bs : List β}, Paired (fun x (_ : β) => ∃ i : Int, x = V.int i) xs bs → ∃ ns : List Int, xs = ns.map V.int ∧ ns.length = bs.length
  | _, _, .nil => ⟨[], rfl, rfl⟩
  | _, _, .cons h t => by
    obtain ⟨i, rfl⟩ := h
    obtain ⟨ns, h1, h2⟩ := ints_paired t
    exact ⟨i :: ns, by rw [h1]; rfl, by rw [List.length_cons, List.length_cons, h2]⟩
theorem ev_mmIX {d : V} {F : List Int → Prop} (h : Ev te σ H (fun v H' => ∃ ns : List Int, IsL (ns.map .int) v H' ∧ F ns)) (hd : Ev td σ H (fun w _ => w = d)) : Ev (tCKw (rMmI K) (tCons te tNil) (tCons td tNil)) σ H (fun v _ => ∃ ns, F ns ∧ if ns = [] then v = d else ∃ i : Int, v = .int i) := fun H1 e Q q =>
  h H1 e _ fun v H2 e2 ⟨ns, ⟨a, xs, ev, hl, t⟩, fn⟩ => hd H2 (e.trans e2) _ fun y H3 e3 py => by
    subst ev py
    refine ⟨a, ns, y, rfl, sq_l (by rw [e3 _ _ hl, tta_ints t]), rfl, fun n0 i => q _ H3 (e2.trans e3) ⟨ns, fn, by rw [if_neg n0]; exact ⟨i, rfl⟩⟩, fun n0 => q _ H3 (e2.trans e3) ⟨ns, fn, by rw [if_pos n0]⟩⟩
theorem tta_of_ints {H : Hp} : ∀ ns : List Int, TtA H (ns.map V.int) (ns.map PyData.int)
  | [] => .nil
  | n :: ns => .cons (.int n) (tta_of_ints ns)
theorem ints_list {β : Type} {bs : List β} (h : Ev te σ H (fun v H' => ∃ p xs, v = .ref p ∧ H' p = some (.lst xs) ∧ Paired (fun x (_ : β) => ∃ i : Int, x = V.int i) xs bs)) : Ev te σ H (fun v H' => ∃ ns : List Int, IsL (ns.map .int) v H' ∧ ns.length = bs.length) :=
  h.imp fun v H1 _ ⟨p, xs, e, hl, pr⟩ => by
    obtain ⟨ns, rfl, l⟩ := ints_paired pr
    exact ⟨ns, ⟨p, _, e, hl, tta_of_ints ns⟩, l⟩
/-- a dict of texts to ints -/
def IsTimes (us : List Str) : V → Hp → Prop := fun v H => ∃ g kvs, v = .ref g ∧ H g = some (.dK kvs) ∧ kvs.map (·.1) = us.map Sum.inr ∧ ∀ p ∈ kvs, ∃ i : Int, p.2 = V.int i
theorem mono_times (us : List Str) : Mono (IsTimes us) := fun _ _ _ e ⟨g, kvs, h1, h2, h3⟩ => ⟨g, kvs, h1, e _ _ h2, h3⟩
theorem valS_some {kvs : List (Key × V)} {us : List Str} (e : kvs.map (·.1) = us.map Sum.inr) {u : Str} (h : u ∈ us) : ∃ v, valV kvs (.inr u) = some v ∧ (Sum.inr u, v) ∈ kvs := by
  induction kvs generalizing us with
  | nil => cases us with
    | nil => cases h
    | cons _ _ => cases e
  | cons p kvs ih =>
    cases us with
    | nil => cases h
    | cons u0 us =>
      obtain ⟨e1, e2⟩ := List.cons.inj e
      have e1 : p.1 = Sum.inr u0 := e1
      by_cases q : p.1 = Sum.inr u
      · exact ⟨p.2, valV_pos q, by rw [← q]; exact List.mem_cons_self⟩
      · rcases List.mem_cons.mp h with z | z
        · exact absurd (by rw [z]; exact e1) q
        · obtain ⟨v, h1, h2⟩ := ih e2 z
          exact ⟨v, by rw [valV_neg q]; exact h1, List.mem_cons_of_mem _ h2⟩
theorem valS_none {kvs : List (Key × V)} {us : List Str} (e : kvs.map (·.1) = us.map Sum.inr) {u : Str} (h : u ∉ us) : valV kvs (.inr u) = none := by
  induction kvs generalizing us with
  | nil => rfl
  | cons p kvs ih =>
    cases us with
    | nil => cases e
    | cons u0 us =>
      obtain ⟨e1, e2⟩ := List.cons.inj e
      have e1 : p.1 = Sum.inr u0 := e1
      rw [List.mem_cons, not_or] at h
      rw [valV_neg (fun q => h.1 (Sum.inr.inj (q.symm.trans e1)))]
      exact ih e2 h.2
theorem ev_inK {us : List Str} {u : Str} {Pd : V → Hp → Prop} (hd : Ev td σ H (fun v H' => ∃ g kvs, v = .ref g ∧ H' g = some (.dK kvs) ∧ kvs.map (·.1) = us.map Sum.inr)) (hk : Ev te σ H (fun w _ => w = .str u)) : Ev (tDIn te td) σ H (fun v _ => v = .bl (decide (u ∈ us))) := fun H1 a Q q => hk H1 a _ fun y H2 e2 py => hd H2 (a.trans e2) _ fun x H3 e3 ⟨g, kvs, px, hg, e⟩ => by
  subst py
  refine ⟨g, valV kvs (.inr u), px, DGet.k (k := .inr u) hg, q _ H3 (e2.trans e3) ?_⟩
  by_cases h : u ∈ us
  · obtain ⟨v, h1, _⟩ := valS_some e h
    rw [h1, decide_eq_true h]; rfl
  · rw [valS_none e h, decide_eq_false h]; rfl
theorem ev_getK {us : List Str} {u : Str} {Pv : V → Prop} (hd : Ev td σ H (fun v H' => ∃ g kvs, v = .ref g ∧ H' g = some (.dK kvs) ∧ kvs.map (·.1) = us.map Sum.inr ∧ ∀ p ∈ kvs, Pv p.2)) (hk : Ev tk σ H (fun w _ => w = .str u)) (hu : u ∈ us) : Ev (tDGet td tk) σ H (fun v _ => Pv v) := fun H1 a Q q => hd H1 a _ fun x H2 e2 ⟨g, kvs, px, hg, e, hp⟩ => hk H2 (a.trans e2) _ fun y H3 e3 py => by
  subst py
  obtain ⟨v, h1, h2⟩ := valS_some e hu
  exact ⟨g, v, px, h1 ▸ DGet.k (k := .inr u) (e3 _ _ hg), q v H3 (e2.trans e3) (hp _ h2)⟩
theorem IsTimes.keys {us : List Str} {v : V} {H : Hp} (h : IsTimes us v H) : ∃ g kvs, v = .ref g ∧ H g = some (.dK kvs) ∧ kvs.map (·.1) = us.map Sum.inr := let ⟨g, kvs, a, b, c, _⟩ := h; ⟨g, kvs, a, b, c⟩
end
section
variable {P : Program} {w : World} {K : PySem.W.Frag} {mg : Str → Option Value} {base : Heap}
/-- some need is met -/
def metN (ns : List (List Str)) (us : List Str) : Bool := ns.any fun n => n.all fun o => decide (o ∈ us)
def spBegin : Sp := SpD (α := List (List Str) × List Str) (fun a vs H => ∃ v x, vs = [v, x] ∧ Tt H v (needsD a.1) ∧ IsTimes a.2 x H ∧ a.1.length ≤ 1000 ∧ ∀ n ∈ a.1, n.length ≤ 1000) (fun a v _ => if metN a.1 a.2 = true then ∃ i : Int, v = .int i else v = .non)
theorem k_begin_by (T : Txt K mg) : Kn P w K mg base CX0 1 "begin_by" spBegin := by
  refine T.d_begin_by.kn c_begin_by (fun vs H Q E h => ?_) (fun f cdv A outer s H vs Q E hr h => ?_)
  · obtain ⟨a, ⟨v, x, rfl, _⟩, _⟩ := h
    rfl
  · obtain ⟨⟨ns, us⟩, ⟨v, x, rfl, hv, hx, hz, hn⟩, q⟩ := h
    simp only at hv hx hz hn q
    have hun := hu_of hr
    refine ⟨_, pss_cons (ps_setLc (own := [("need", 3)]) (g := gName 3) (i := 2) (by rfl) c_begin_by.nd (by rfl) (by rfl) (sw_true rfl rfl rfl (by decide +kernel)) (pi_tup (pv 0)) (blkOk_by (N := ["needs", "found", "met", "need", "name"]) (sc := defScope s_begin_by) (by decide +kernel)) (fun _ _ _ _ _ => pgn 3 c_begin_by.nd)
        (fun _ _ _ _ _ => pts_one (pt_val (pe_callB (cr_allK (K := K) (by rfl) (by rfl)) (by rfl) T.b_all (by decide +kernel) (pa_cons (pe_lc (own := [("name", 4)]) (g := gName 4) (by rfl) c_begin_by.nd (pi_tupK (K := K) (by rfl) (pv 3)) (blkOk_by (N := ["needs", "found", "met", "need", "name"]) (sc := relS _ (defScope s_begin_by)) (by decide +kernel)) (fun _ _ _ _ _ => pgn 4 c_begin_by.nd)
          (fun _ _ _ _ _ => pts_nil) (fun _ _ _ _ _ => pe_cmp (pc_din hun (pv 4) (pv 1)))) pa_nil)))) (fun _ _ _ _ _ => pv 3))
      (pss_one (ps_ret (pe_callBK (cr_minI (by rfl)) (by rfl) T.b_min (by decide +kernel) (pa_cons (pe_lc (own := [("need", 3)]) (g := gName 3) (by rfl) c_begin_by.nd (pi_list (pv 2)) (blkOk_by (N := ["needs", "found", "met", "need", "name"]) (sc := defScope s_begin_by) (by decide +kernel)) (fun _ _ _ _ _ => pgn 3 c_begin_by.nd)
        (fun _ _ _ _ _ => pts_nil) (fun _ _ _ _ _ => pe_callBK (cr_maxIK (K := K) (by rfl) (by rfl)) (by rfl) T.b_max (by decide +kernel) (pa_cons (pe_lc (own := [("name", 4)]) (g := gName 4) (by rfl) c_begin_by.nd (pi_tupK (K := K) (by rfl) (pv 3)) (blkOk_by (N := ["needs", "found", "met", "need", "name"]) (sc := relS _ (defScope s_begin_by)) (by decide +kernel)) (fun _ _ _ _ _ => pgn 4 c_begin_by.nd)
          (fun _ _ _ _ _ => pts_nil) (fun _ _ _ _ _ => pe_dget hun (pv 1) (pv 4) (fun _ _ => rfl))) pa_nil) (pk_cons pe_int pk_nil))) pa_nil) (pk_cons pe_non pk_nil)))), ?_⟩
    have s0 : ∀ (H1 : Hp) (σ2 : L2.St) (n : List Str) (y : V), Same H H1 → Tt H1 y (strsD n) → n.length ≤ 1000 → (∃ l2 : Option V, σ2 = [some v, some x, l2, some y, none]) →
        EvT (tB (tCB (rAll K) (tCons (tLc (iTup K (tVar 3)) (gName 4) tYes (tDIn (tVar 4) (tVar 1)) [4]) tNil))) σ2 H1 (n.all fun o => decide (o ∈ us)) := fun H1 σ2 n y e hy hl ⟨l2, es⟩ => by
      subst es
      have key := ev_lc (te := tDIn (tVar 4) (tVar 1)) (tt := tYes) (g := gName 4) (vs := [4]) (σ := [some v, some x, l2, some y, none]) (H := H1) (src_strs (K := K) (te := tVar 3) (ev_vt (v := y) rfl hy)) (fun _ => true) (fun o => .bool (decide (o ∈ us))) (by omega) fun o _ z H2 e2 hz C c => by
        subst hz
        exact c [some v, some x, l2, some y, some (.str o)] _ (Same.refl _) rfl et_yes fun _ => (ev_inK (Pd := fun _ _ => True) (ev_vp (i := 1) (v := x) (P := fun v H' => ∃ g kvs, v = .ref g ∧ H' g = some (.dK kvs) ∧ kvs.map (·.1) = us.map Sum.inr) rfl (fun _ _ _ e ⟨g, kvs, a, b, c⟩ => ⟨g, kvs, a, e _ _ b, c⟩) (mono_times us _ _ _ (e.trans e2) hx).keys) (ev_var (i := 4) (v := .str o) rfl)).tbl
      rw [filter_yes, show n.map (fun o => PyData.bool (decide (o ∈ us))) = (n.map fun o => decide (o ∈ us)).map PyData.bool from by rw [List.map_map]; rfl] at key
      have k2 := et_B (ev_all (K := K) key)
      rw [List.all_map] at k2
      exact k2
    have key := ev_lc (te := tVar 3) (tt := tB (tCB (rAll K) (tCons (tLc (iTup K (tVar 3)) (gName 4) tYes (tDIn (tVar 4) (tVar 1)) [4]) tNil))) (g := gName 3) (vs := [3]) (σ := start ["needs", "found", "met", "need", "name"] [v, x]) (H := H) (src_map strsD (src_tup (K := K) (te := tVar 0) (ev_vt (v := v) rfl hv))) (fun n => n.all fun o => decide (o ∈ us)) strsD (by omega) fun n hnm y H1 e hy C c =>
      c [some v, some x, none, some y, none] _ (Same.refl _) rfl (s0 H1 _ n y e hy (hn n hnm) ⟨none, rfl⟩) fun _ => ev_vt (v := y) rfl hy
    refine q_set key fun mv H1 e1 hm => ?_
    have maxE : ∀ (n : List Str) (y : V) (H2 : Hp), Same H1 H2 → Tt H2 y (strsD n) → n.length ≤ 1000 → (∀ o ∈ n, o ∈ us) → Ev (tCKw (rMmI K) (tCons (tLc (iTup K (tVar 3)) (gName 4) tYes (tDGet (tVar 1) (tVar 4)) [4]) tNil) (tCons (tC (.int 0)) tNil)) [some v, some x, some mv, some y, none] H2 (fun v _ => ∃ i : Int, v = .int i) := fun n y H2 e2 hy hl sub => by
      have k1 := ev_lcV (te := tDGet (tVar 1) (tVar 4)) (tt := tYes) (g := gName 4) (vs := [4]) (σ := [some v, some x, some mv, some y, none]) (H := H2) (src_strs (K := K) (te := tVar 3) (ev_vt (v := y) rfl hy)) (fun _ => true) (fun _ v => ∃ i : Int, v = .int i) (by omega) fun o ho z H3 e3 hz C c => by
        subst hz
        refine c [some v, some x, some mv, some y, some (.str o)] _ (Same.refl _) rfl et_yes fun _ => ev_getK (us := us) (Pv := fun v => ∃ i : Int, v = .int i) (ev_vp (i := 1) (v := x) (P := fun v H' => ∃ g kvs, v = .ref g ∧ H' g = some (.dK kvs) ∧ kvs.map (·.1) = us.map Sum.inr ∧ ∀ p ∈ kvs, ∃ i : Int, p.2 = .int i) rfl (fun _ _ _ e ⟨g, kvs, a, b, c⟩ => ⟨g, kvs, a, e _ _ b, c⟩) (mono_times us _ _ _ ((e1.trans e2).trans e3) hx)) (ev_var (i := 4) (v := .str o) rfl) (sub o ho)
      exact (ev_mmIX (K := K) (ints_list k1) (ev_c (v := .int 0))).imp fun w _ _ ⟨ms, _, h⟩ => by
        by_cases m0 : ms = []
        · rw [if_pos m0] at h; exact ⟨0, h⟩
        · rw [if_neg m0] at h; exact h
    have k2 := ev_lcV (te := tCKw (rMmI K) (tCons (tLc (iTup K (tVar 3)) (gName 4) tYes (tDGet (tVar 1) (tVar 4)) [4]) tNil) (tCons (tC (.int 0)) tNil)) (tt := tYes) (g := gName 3) (vs := [3]) (σ := [some v, some x, some mv, none, none]) (H := H1)
      (src_map strsD (src_lst (K := K) (te := tVar 2) (ev_vp (v := mv) (P := IsL _) rfl (mono_l _) hm))) (fun _ => true) (fun _ v => ∃ i : Int, v = .int i) (by
        have := List.length_filter_le (fun n : List Str => n.all fun o => decide (o ∈ us)) ns
        omega) fun n hnm y H2 e2 hy C c => by
      obtain ⟨h1, h2⟩ := List.mem_filter.mp hnm
      exact c [some v, some x, some mv, some y, none] _ (Same.refl _) rfl et_yes fun _ => maxE n y H2 e2 hy (hn n h1) fun o ho => of_decide_eq_true (List.all_eq_true.mp h2 o ho)
    refine s_ret (ev_mmIX (K := K) (ints_list k2) (ev_c (v := .non))) fun rv H2 e2 ⟨ms, ml, h⟩ => q rv H2 (e1.trans e2) ?_
    rw [filter_yes] at ml
    by_cases hmet : metN ns us = true
    · rw [if_pos hmet]
      have m0 : ms ≠ [] := fun z => by
        subst z
        have e0 := List.length_eq_zero_iff.mp ml.symm
        obtain ⟨n, h1, h2⟩ := List.any_eq_true.mp hmet
        have := (List.mem_filter (p := fun n : List Str => n.all fun o => decide (o ∈ us))).mpr ⟨h1, h2⟩
        rw [e0] at this
        cases this
      rw [if_neg m0] at h
      exact h
    · rw [if_neg hmet]
      have m0 : ms = [] := by
        refine List.length_eq_zero_iff.mp (ml.trans (List.length_eq_zero_iff.mpr ?_))
        refine (List.filter_eq_nil_iff (p := fun n : List Str => n.all fun o => decide (o ∈ us)) (l := ns)).mpr fun n h1 h2 => hmet ((List.any_eq_true (p := fun n : List Str => n.all fun o => decide (o ∈ us))).mpr ⟨n, h1, h2⟩)
      rw [if_pos m0] at h
      exact h
end
end Up
end
section
set_option Elab.async false
set_option linter.all false
set_option maxRecDepth 100000
set_option maxHeartbeats 4000000
/-! dict(a tuple of pairs). -/
namespace Up
open PySem PySem.Spec PyProof.Rows L2
section
variable {X : Cx}
theorem tup_pairs {pins : List (Addr × Obj)} {σ : L2.St} {H : Hp} {s : Shared} (I : Inv X pins σ H s) : ∀ {ps : List Addr} {kvs : List (Key × V)}, Paired (fun p kv => H p = some (.tup [kV kv.1, kv.2])) ps kvs →
    ∃ (prs : List (Key × Value)) (pvs : List (Value × Value)), KV kvs prs ∧ prs.length = ps.length ∧ pvs.length = ps.length ∧ ∀ (j : Nat) (k v : Value), pvs[j]? = some (k, v) → ∃ (b : Addr) (key : Key), ps[j]? = some b ∧ IsTup s.heap b #[k, v] ∧ prs[j]? = some (key, v) ∧ keyIs key k = true
  | _, _, .nil => ⟨[], [], .nil, rfl, rfl, fun j k v e => by simp at e⟩
  | _, _, .cons (a := p) (b := kv) h t => by
    obtain ⟨prs, pvs, r, hl, hl2, hp⟩ := tup_pairs I t
    obtain ⟨its, rv, ht, _⟩ := I.tuple (sq_t (K := X.K) h)
    obtain ⟨u, y, ei, ru, ry⟩ := vals2 rv
    subst ei
    refine ⟨(kv.1, y) :: prs, (u, y) :: pvs, .cons ⟨rfl, ry⟩ r, by rw [List.length_cons, List.length_cons, hl], by rw [List.length_cons, List.length_cons, hl2], fun j k v e => ?_⟩
    cases j with
    | zero =>
      have e' : (u, y) = (k, v) := Option.some.inj e
      cases e'
      exact ⟨p, kv.1, rfl, ht, rfl, kV_is (P := X.prog) (w := X.w) ru⟩
    | succ j =>
      obtain ⟨b, key, e1, e2, e3, e4⟩ := hp j k v (by simpa using e)
      exact ⟨b, key, by simpa using e1, e2, by simpa using e3, e4⟩
def rDictF : List V → Hp → VK → Prop := fun vs H Q => ∃ (a : Addr) (ob : Obj) (ps : List Addr) (kvs : List (Key × V)), vs = [V.ref a] ∧ H a = some (.frz ob (.tup (ps.map V.ref))) ∧ ob.cls = .type "tuple" ∧ ob.dict = none ∧ Paired (fun p kv => H p = some (.tup [kV kv.1, kv.2])) ps kvs ∧
  ∀ p, H p = none → Q (.ref p) (upd H p (.dK (mergeK [] kvs)))
theorem cr_dictF (hc : X.calm = true) : CallR X (.type "dict") rDictF := by
  intro pins s σ H xs us Q I r h
  obtain ⟨a, ob, ps, kvs, rfl, ha, c1, c2, hp, q⟩ := h
  rw [Vals.ref1 r]
  obtain ⟨ho, hz, its, rv, o', ho', hc', n, hd'⟩ := I.hok a _ ha
  rw [ho] at ho'
  cases ho'
  have ei := refs_at rv
  subst ei
  rw [List.length_map] at hz
  obtain ⟨prs, pvs, rel, hl, hl2, hpr⟩ := tup_pairs I hp
  refine PySem.call_dict_pairs (knd := mixKind X.prog X.w) (kvs := prs) (PairArg.tuple (prog := X.prog) (w := X.w) a (ps.map Value.ref).toArray (fun j => ps.getD j 0) pvs) (I.ok.hd hc) ⟨⟨ob, n, ho, c1, c2, hd'⟩, ?_, fun j k v e => ?_⟩ ⟨by rw [hl, hl2], fun j k v e => ?_⟩ (by rw [hl2]; exact hz) fun h' tk hd' k => ?_
  · rw [List.size_toArray, List.length_map, hl2]
  · obtain ⟨b, key, e1, e2, e3, e4⟩ := hpr j k v e
    have eb : ps.getD j 0 = b := by rw [List.getD_eq_getElem?_getD, e1]; rfl
    refine ⟨?_, .inl ?_⟩
    · show (ps.map Value.ref).toArray[j]? = some (.ref (ps.getD j 0))
      rw [eb]
      simp [e1]
    · show s.heap.IsTuple (ps.getD j 0) #[k, v]
      rw [eb]; exact e2
  · obtain ⟨b, key, e1, e2, e3, e4⟩ := hpr j k v e
    exact ⟨key, e3, e4⟩
  · have hm : (s.heap.objs.size == sysModules) = false := beq_eq_false_iff_ne.mpr (Nat.ne_of_gt I.big)
    have hlen : (mergeK [] kvs).length ≤ sizeLine := by
      refine Nat.le_trans (length_mergeK kvs []) ?_
      rw [List.length_nil, Nat.zero_add, rel.length, hl]
      exact hz
    exact ⟨.ref s.heap.objs.size, upd H s.heap.objs.size (.dK (mergeK [] kvs)), I.laid (t' := tk) (fun b o e => k b o (by simp) e) (Nat.le_refl _) (show ObjOk X.prog X.w _ _ _ (.dK (mergeK [] kvs)) from ⟨hlen, hm, merged [] prs, KV.merge rel .nil, hd'⟩), rfl, q _ (I.hok.fresh (Nat.le_refl _))⟩
/-- tuple(a list), the object known -/
def rTupF : List V → Hp → VK → Prop := fun xs H Q => ∃ p ys, xs = [V.ref p] ∧ H p = some (.lst ys) ∧ ∀ (l : Addr) (ob : Obj), H l = none → ob.cls = .type "tuple" → ob.dict = none → Q (.ref l) (upd H l (.frz ob (.tup ys)))
theorem cr_tupF : CallR X (.type "tuple") rTupF := by
  intro pins s σ H xs us Q I r h
  obtain ⟨p, ys, rfl, hq, q⟩ := h
  obtain ⟨u, rfl, rx⟩ := vals1 r
  cases rx
  obtain ⟨its, r', pl, hz⟩ := I.list (sq_l (K := X.K) hq)
  have hlen := r'.length
  refine call_tuple_list pl.isList (fun h' kp => ?_) (by simp only [List.size_toArray] <;> omega)
  have I1 : Inv X pins σ H { s with heap := h' } := I.kept (t' := s.toks) kp
  have I2 : Inv X pins σ (upd H h'.objs.size (.frz { cls := .type "tuple", data := .seq its.toArray } (.tup ys))) { s with heap := h'.push { cls := .type "tuple", data := .seq its.toArray } } :=
    I1.laid (t' := s.toks) (fun b o e => Heap.get?_push_of_some _ e) (Nat.le_refl _) (show ObjOk X.prog X.w _ _ _ (.frz _ (.tup ys)) from ⟨Heap.get?_push_size _ rfl, hz, its, r', IsTup.new _ _⟩)
  exact ⟨.ref h'.objs.size, _, I2, rfl, q _ _ (I1.hok.fresh (Nat.le_refl _)) rfl rfl⟩
end
/-- a tuple that stands as it was made -/
def IsFz (ds : List PyData) : V → Hp → Prop := fun v H => ∃ a ob xs, v = V.ref a ∧ H a = some (.frz ob (.tup xs)) ∧ ob.cls = .type "tuple" ∧ ob.dict = none ∧ TtA H xs ds
theorem mono_fz (ds : List PyData) : Mono (IsFz ds) := fun _ _ _ e ⟨a, ob, xs, h1, h2, h3, h4, h5⟩ => ⟨a, ob, xs, h1, e _ _ h2, h3, h4, h5.same e⟩
def durD (p : Str × Int) : PyData := .tuple [.str p.1, .int p.2]
theorem sh_dur (p : Str × Int) : Sh 1 (durD p) := .inr ⟨_, rfl, (by show 2 ≤ 90000; decide), fun e he => by
  rcases List.mem_cons.mp he with rfl | he
  · exact ⟨.str p.1, rfl⟩
  · rw [List.mem_singleton.mp he]; exact ⟨.int p.2, rfl⟩⟩
section
variable {K : PySem.W.Frag} {σ : L2.St} {H : Hp} {te : TE}
theorem tta_durs {H : Hp} : ∀ {xs : List V} {ps : List (Str × Int)}, TtA H xs (ps.map durD) → ∃ as : List Addr, xs = as.map V.ref ∧ Paired (fun p (kv : Key × V) => H p = some (.tup [kV kv.1, kv.2])) as (ps.map fun p => ((.inr p.1 : Key), V.int p.2))
  | _, [], h => by cases h; exact ⟨[], rfl, .nil⟩
  | _, p :: ps, h => by
    have h' : TtA H _ (durD p :: ps.map durD) := h
    cases h' with
    | cons r t =>
      obtain ⟨a, x, y, rfl, ha, hx, hy⟩ := tt_pair r
      rw [tt_str hx, tt_int hy] at ha
      obtain ⟨as, e, q⟩ := tta_durs t
      exact ⟨a :: as, by rw [e]; rfl, .cons ha q⟩
theorem mergeK_app : ∀ (more acc : List (Key × V)), ((acc ++ more).map (·.1)).Nodup → mergeK acc more = acc ++ more
  | [], acc, _ => by unfold mergeK; simp
  | kv :: more, acc, nd => by
    have e : mergeK acc (kv :: more) = mergeK (putK acc kv.1 kv.2) more := rfl
    have n1 : valV acc kv.1 = none := by
      cases q : valV acc kv.1 with
      | none => rfl
      | some v =>
        exfalso
        unfold valV at q
        obtain ⟨p, hp, _⟩ := Option.map_eq_some_iff.mp q
        have hm := List.mem_of_find?_eq_some hp
        have hk := List.find?_some hp
        rw [List.map_append] at nd
        have := (List.nodup_append.mp nd).2.2 p.1 (List.mem_map.mpr ⟨p, hm, rfl⟩) kv.1 (by simp)
        exact this (by simpa using hk)
    rw [e, putK_new _ n1]
    have e2 : acc ++ [(kv.1, kv.2)] ++ more = acc ++ kv :: more := by simp
    rw [mergeK_app more (acc ++ [(kv.1, kv.2)]) (by rw [e2]; exact nd), e2]
theorem ev_dictF {ps : List (Str × Int)} (h : Ev te σ H (IsFz (ps.map durD))) (nd : (ps.map (·.1)).Nodup) : Ev (tCB rDictF (tCons te tNil)) σ H (fun v H' => ∃ g, v = .ref g ∧ H' g = some (.dK (ps.map fun p => ((.inr p.1 : Key), V.int p.2)))) := ev_cb (ea_one h) fun vs H1 _ ⟨v, hv, a, ob, xs, e1, h1, c1, c2, t⟩ Q q => by
  subst hv e1
  obtain ⟨as, rfl, pr⟩ := tta_durs t
  refine ⟨a, ob, as, _, rfl, h1, c1, c2, pr, fun p hp => q _ _ (same_new hp) ⟨p, rfl, ?_⟩⟩
  rw [mergeK_app _ [] ?_]
  · exact upd_same
  · rw [List.nil_append, List.map_map]
    show (ps.map fun p => (Sum.inr p.1 : Key)).Nodup
    have : ps.map (fun p => (Sum.inr p.1 : Key)) = (ps.map (·.1)).map Sum.inr := by rw [List.map_map]; rfl
    rw [this]
    exact List.Pairwise.map _ (fun a b n e => n (Sum.inr.inj e)) nd
end
section
variable {P : Program} {w : World} {K : PySem.W.Frag} {mg : Str → Option Value} {base : Heap}
/-! tupled(durations), the object known -/
def spTupledF : Sp := SpD (α := List (Str × Int)) (fun ps vs H => ∃ v, vs = [v] ∧ IsL (ps.map durD) v H ∧ ps.length ≤ 1000) (fun ps v H => IsFz (ps.map durD) v H)
theorem k_tupledF (T : Txt K mg) : Kn P w K mg base CX0 3 "tupled" spTupledF := by
  have ih := k_tupled (P := P) (w := w) (base := base) T 1
  refine T.d_tupled.kn c_tupled (fun vs H Q E h => ?_) (fun f cdv A outer s H vs Q E hr h => ?_)
  · obtain ⟨a, ⟨v, rfl, _⟩, _⟩ := h
    rfl
  · obtain ⟨ps, ⟨v, rfl, hv, hz⟩, q⟩ := h
    refine ⟨_, pss_one (ps_ret (pe_ifExp (pt_val (pe_callB call_isiT (by rfl) T.b_isinstance (by decide +kernel) (pa_cons (pv 0) (pa_cons (pe_tup (pa_cons (pe_bltn (v := .ty "list") (by rfl) T.b_list (by decide +kernel) rfl) (pa_cons (pe_bltn (v := .ty "tuple") (by rfl) T.b_tuple (by decide +kernel) rfl) pa_nil))) pa_nil))))
      (pe_callTy cr_tupF (by rfl) T.b_tuple (by decide +kernel) (pa_cons (pe_lc (own := [("part", 1)]) (g := gName 1) (by rfl) c_tupled.nd (pi_list (pv 0)) (blkOk_by (N := ["value", "part"]) (sc := defScope s_tupled) (by decide +kernel)) (fun _ _ _ _ _ => pg_name (i := 1) c_tupled.nd rfl (Or.inl rfl)) (fun _ _ _ _ _ => pts_nil)
        (fun _ _ _ _ _ => pe_kn ih hr pass0 (pa_cons (pv 1) pa_nil))) pa_nil)) (pv 0))), ?_⟩
    obtain ⟨p, xs, rfl, hp, tx⟩ := id hv
    refine s_ret (ev_if (P := IsFz (ps.map durD)) (et_B (ev_isiY (xs := xs) rfl ⟨p, rfl, .inr hp⟩)) (fun _ => ?_) fun z => nomatch z) q
    have key := ev_lc (te := tCall (spTupled 1) [] E0 (tCons (tVar 1) tNil)) (tt := tYes) (g := gName 1) (vs := [1]) (σ := start ["value", "part"] [V.ref p]) (H := H) (src_map durD (src_lst (K := K) (te := tVar 0) (ev_vp (i := 0) (v := .ref p) (P := IsL _) rfl (mono_l _) hv))) (fun _ => true) durD (by omega) fun d _ x H1 e hx C c =>
      c _ _ (Same.refl _) rfl et_yes fun _ => ev_kn (ea_one (ev_vp (i := 1) (v := x) (P := fun v H => Lt 1 H v (durD d)) rfl (fun _ _ _ e q => q.same e) (lt_of_tt (sh_dur d) hx))) (durD d) (fun vs H2 _ ⟨v, h1, h2⟩ => ⟨v, h1, h2⟩) fun v H2 _ h => h
    rw [filter_yes] at key
    exact ev_cb (ea_one key) fun vs H1 _ ⟨v, hv, p, xs, h1, h2, t⟩ Q q => ⟨p, xs, by rw [hv, h1], h2, fun l ob hl c1 c2 => q _ _ (same_new hl) ⟨l, ob, xs, rfl, upd_same, c1, c2, t.same (same_new hl)⟩⟩
end
end Up
end
section
set_option Elab.async false
set_option linter.all false
set_option maxRecDepth 100000
set_option maxHeartbeats 4000000
/-! The def all_times. -/
namespace Up
open PySem PySem.Spec PyProof.Rows L2
theorem needs_at {b : SBk} (nd : (unitsM b).Nodup) {p : Str × List (List Str)} (h : p ∈ b) : needsM b p.1 = p.2 := by
  induction b with
  | nil => cases h
  | cons q r ih =>
    obtain ⟨x, ns⟩ := q
    have nd' := List.nodup_cons.mp (show (x :: unitsM r).Nodup from nd)
    unfold needsM
    rcases List.mem_cons.mp h with rfl | h
    · rw [if_pos rfl]
    · rw [if_neg (fun e : x = p.1 => nd'.1 (by rw [e]; exact List.mem_map.mpr ⟨p, h, rfl⟩))]
      exact ih nd'.2 h
section
variable {K : PySem.W.Frag} {σ : L2.St} {H : Hp} {ta tb td tk : TE}
theorem ev_getX {g : Addr} {kvs : List (Key × V)} {u : Str} {w : V} (hd : Ev td σ H (fun v H' => v = .ref g ∧ H' g = some (.dK kvs))) (hk : Ev tk σ H (fun w _ => w = .str u)) (hw : valV kvs (.inr u) = some w) : Ev (tDGet td tk) σ H (fun v _ => v = w) := fun H1 a Q q => hd H1 a _ fun x H2 e2 ⟨px, hg⟩ => hk H2 (a.trans e2) _ fun y H3 e3 py => by
  subst py
  exact ⟨g, w, px, hw ▸ DGet.k (k := .inr u) (e3 _ _ hg), q w H3 (e2.trans e3) rfl⟩
theorem ev_inB {x : Str} {B : Addr} (hB : ∀ H, SqT K H B []) (ha : Ev ta σ H (fun w _ => w = .str x)) (hb : Ev tb σ H (fun w _ => w = .ref B)) : Ev (tOp (rIn K false) ta tb) σ H (fun w _ => w = .bl false) :=
  ev_op (mono_v _) ha hb fun x' y' H1 _ p1 p2 Q q => by
    subst p1 p2
    exact ⟨B, [], rfl, .inr (hB H1), rfl, rfl, q _ H1 (Same.refl H1) rfl⟩
end
section
variable {P : Program} {w : World} {K : PySem.W.Frag} {mg : Str → Option Value} {base : Heap}
/-- all_times stands, its default the empty tuple at B -/
structure DfT (K : PySem.W.Frag) (mg : Str → Option Value) (B : Addr) : Prop where
  empty : ∀ H, SqT K H B []
  ex : ∃ f fd, mg "all_times" = some (.ref f) ∧ FunD K "all_times" "all_times" (defArgs s_all_times) (defBody s_all_times) (defScope s_all_times) [.ref B] [] f fd ∧ ∃ ds, Vals [V.ref B] ds ∧ Binds K fd ["book", "durations", "barred"] ds
structure KnT (P : Program) (w : World) (K : PySem.W.Frag) (mg : Str → Option Value) (base : Heap) (k : Nat) (B : Addr) (sp : Sp) : Prop where
  ex : ∃ f fd ds, FnOk P w K mg base CX0 k f fd ["book", "durations", "barred"] sp ∧ mg "all_times" = some (.ref f) ∧ PySem.W.keepIn K (.ref f) = true ∧ Binds K fd ["book", "durations", "barred"] ds ∧ Vals [V.ref B] ds
def spTimes (B : Addr) : Sp := SpD (α := SBk × List (Str × Int)) (fun a vs H => ∃ v x, vs = [v, x, .ref B] ∧ BookV a.1 v H ∧ BkOk a.1 ∧ IsL (a.2.map durD) x H ∧ a.2.map (·.1) = unitsM a.1) (fun a v H => ∃ us, IsTimes us v H ∧ us.Nodup ∧ (∀ u ∈ us, u ∈ unitsM a.1) ∧ ∀ u ∈ unitsM a.1, letsM a.1 us u = false)
theorem k_all_times {B : Addr} (T : Txt K mg) (D : DfT K mg B) : KnT P w K mg base 6 B (spTimes B) := by
  obtain ⟨f, fd, hm, F, ds, hds, hb⟩ := D.ex
  refine ⟨f, fd, ds, ?_, hm, F.kp, hb, hds⟩
  have G1 := k_tupledF (P := P) (w := w) (base := base) T
  have G2 := k_tupled (P := P) (w := w) (base := base) T 4
  have G3 := k_begin_by (P := P) (w := w) (base := base) T
  refine F.ok c_all_times (fun vs H Q E h => ?_) (fun cdv A outer s H vs Q E hr h => ?_)
  · obtain ⟨a, ⟨v, x, rfl, _⟩, _⟩ := h
    rfl
  · obtain ⟨⟨b, durs⟩, ⟨v, x, rfl, hv, hb, hx, hk⟩, q⟩ := h
    simp only at hv hb hx hk q
    have hun := hu_of hr
    refine ⟨_, PSs.nox (pss_cons (ps_par3 (i := 3) (j := 4) (l := 5) (by rfl) c_all_times.nd rfl rfl rfl (by decide) (by decide) (by decide) rfl rfl rfl (pa_cons (pe_callTy (cr_dictF (by rfl)) (by rfl) T.b_dict (by decide +kernel) (pa_cons (pe_kn G1 (hr.mono (by decide)) pass0 (pa_cons (pv 1) pa_nil)) pa_nil)) (pa_cons pe_dnewK (pa_cons pe_bl pa_nil))) (by rfl))
      (pss_cons (ps_while PassesOwn.never (pt_val (pv 5))
        (pss_cons (ps_asg (pe_lst pa_nil) (pgn 6 c_all_times.nd))
        (pss_cons (ps_for PassesOwn.never (by rfl) (pi_tup (pe_kn G2 hr pass0 (pa_cons (pv 0) pa_nil))) (pg_tup rfl (pgs_cons (pgn 7 c_all_times.nd) (pgs_cons (pgn 8 c_all_times.nd) pgs_nil)))
          (pss_cons (ps_asg (pe_ifExp (pw_or (pt_cmp (pc_din hun (pv 7) (pv 4))) (pw_or1 (pt_cmpR op_in_seq (pv 7) (pv 2) (by rfl)))).pt pe_non (pe_kn G3 (hr.mono (by decide)) pass0 (pa_cons (pv 8) (pa_cons (pv 4) pa_nil)))) (pgn 9 c_all_times.nd))
          (pss_one (ps_if (pt_cmp (pc_notN (pv 9)))
            (pss_one (ps_expr (pe_bm PySem.F.plainAttrs_list PySem.F.slot_list_append PySem.F.type_list_append mt_append (pv 6) (pa_cons (pe_tup (pa_cons (pe_op op_add (pv 9) (pe_dget hun (pv 3) (pv 7) (fun _ _ => rfl))) (pa_cons (pv 7) pa_nil))) pa_nil)))) pss_nil))))
        (pss_cons (ps_asg (pe_cmpR op_gt (pe_callB cr_len (by rfl) T.b_len (by decide +kernel) (pa_cons (pv 6) pa_nil)) pe_int (by rfl)) (pgn 5 c_all_times.nd))
        (pss_one (ps_if (pt_val (pv 5))
          (pss_cons (ps_asg (pe_callB (cr_minR (by rfl) hr.units) (by rfl) T.b_min (by decide +kernel) (pa_cons (pv 6) pa_nil)) (pg_tup rfl (pgs_cons (pgn 10 c_all_times.nd) (pgs_cons (pgn 7 c_all_times.nd) pgs_nil))))
          (pss_one (ps_dput hun (pv 4) (pv 7) (pv 10) (by rfl)))) pss_nil))))))
      (pss_one (ps_ret (pv 4))))), ?_⟩
    have dn : (durs.map (·.1)).Nodup := by rw [hk]; exact hb.nd
    have ulen : (unitsM b).length = b.length := by unfold unitsM; rw [List.length_map]
    have dlen : durs.length = b.length := by rw [← ulen, ← hk, List.length_map]
    have b16 := hb.n16
    refine (ev_dictF (ps := durs) (ev_kn (ea_one (ev_vp (i := 1) (v := x) (P := IsL (durs.map durD)) rfl (mono_l _) hx)) durs (fun vs H2 _ ⟨v, h1, h2⟩ => ⟨v, h1, h2, by omega⟩) fun v H2 _ h => h) dn : Ev (tCB rDictF (tCons (tCall spTupledF [] E0 (tCons (tVar 1) tNil)) tNil)) (start ["book", "durations", "barred", "lasts", "found", "going", "rows", "unit", "needs", "begin", "time"] [v, x, .ref B]) H _) H (Same.refl H) _ fun lv H1 e1 ⟨d, elv, hd⟩ => ?_
    subst elv
    intro g hg
    refine ⟨.ref d, .ref g, .bl true, rfl, ?_⟩
    have s1 : Same H1 (upd H1 g (.dK [])) := same_new hg
    have hgN : H g = none := e1.free hg
    have dg : d ≠ g := ne_of_none hd hg
    have hv1 : BookV b v (upd H1 g (.dK [])) := (hv.same e1).same s1
    refine s_while (fun m σ' H' => ∃ (us : List Str) (kvs : List (Key × V)) (gb : Bool) (l6 l7 l8 l9 l10 : Option V), σ' = [some v, some x, some (.ref B), some (.ref d), some (.ref g), some (.bl gb), l6, l7, l8, l9, l10] ∧ Same H1 H' ∧ BookV b v H' ∧ H' d = some (.dK (durs.map fun p => ((.inr p.1 : Key), V.int p.2))) ∧ H' g = some (.dK kvs) ∧
      kvs.map (·.1) = us.map Sum.inr ∧ (∀ p ∈ kvs, ∃ i : Int, p.2 = V.int i) ∧ us.Nodup ∧ (∀ u ∈ us, u ∈ unitsM b) ∧ (gb = false → ∀ u ∈ unitsM b, letsM b us u = false) ∧ m = 2 * (b.length - us.length) + (if gb = true then 1 else 0)) _
      ⟨[], [], true, none, none, none, none, none, rfl, s1, hv1, s1 _ _ hd, upd_same, rfl, (fun p hp => by cases hp), List.nodup_nil, (fun u hu => by cases hu), (fun z => nomatch z), rfl⟩ ?_
    rintro m σ' H' ⟨us, kvs, gb, l6, l7, l8, l9, l10, rfl, sH, hvH, hdH, hgH, ek, vk, und, usub, cl, rfl⟩
    have ulen2 : us.length ≤ b.length := by rw [← ulen]; exact nodup_len und usub
    refine ⟨gb, et_B (ev_var rfl), fun hgb H2 e2 => ?_, fun hgb H2 e2 => ?_⟩
    · subst hgb
      refine ⟨Nat.zero_le _, fun r hr0 => name_go ?_⟩
      have s3 : Same H2 (upd H2 r (.lst [])) := same_new hr0
      have tupE := (ev_kn (ea_one (ev_vp (i := 0) (v := v) (P := fun v H => Lt 4 H v (bookD b)) rfl (fun _ _ _ e q => q.same e) ((hvH.same e2).same s3))) (bookD b) (fun vs H2 _ ⟨v, h1, h2⟩ => ⟨v, h1, h2⟩) (fun v H2 _ h => h) : Ev (tCall (spTupled 4) [] E0 (tCons (tVar 0) tNil)) [some v, some x, some (.ref B), some (.ref d), some (.ref g), some (.bl true), some (.ref r), l7, l8, l9, l10] (upd H2 r (.lst [])) (IsT (.tuple (b.map pairD))))
      refine s_for (srcM_map pairD (srcM_tup (K := K) tupE)) (fun HL i σ' H' => ∃ (rs : List (Int × Str)) (xs : List V) (l7 l8 l9 : Option V), σ' = [some v, some x, some (.ref B), some (.ref d), some (.ref g), some (.bl true), some (.ref r), l7, l8, l9, l10] ∧ H' r = some (.lst xs) ∧ TtA H' xs (rs.map rowD) ∧ (∀ q ∈ rs, letsM b us q.2 = true) ∧ (∀ p ∈ b.take i, letsM b us p.1 = true → rs ≠ []) ∧ rs.length ≤ i ∧ TEx HL H' ∧ Same H2 H')
        (fun HL eL => ⟨[], [], l7, l8, l9, rfl, eL _ _ upd_same, .nil, (fun q hq => by cases hq), (fun p hp => by rw [List.take_zero] at hp; cases hp), Nat.le_refl 0, TEx.refl _, s3.trans eL⟩) (fun HL i σ' H' ⟨_, _, _, _, _, _, _, _, _, _, _, t, _⟩ => t) ?_ ?_
      · rintro HL eL i p y σ' H4 H5 hbp ⟨rs, xs, l7, l8, l9, rfl, hr4, tx, lr, ne, ln, tex, s4⟩ e5 hy
        have hp : p ∈ b := List.mem_of_getElem? hbp
        have ib : i < b.length := (List.getElem?_eq_some_iff.mp hbp).1
        have hne := needs_at hb.nd hp
        have s5 := s4.trans e5
        have hg5 := s5 _ _ (e2 _ _ hgH)
        have hd5 := s5 _ _ (e2 _ _ hdH)
        have bE : letsM b us p.1 = (!decide (p.1 ∈ us) && metN p.2 us) := by unfold letsM letsN metN; rw [hne]
        have hpu : p.1 ∈ unitsM b := List.mem_map.mpr ⟨p, hp, rfl⟩
        refine pair_go hy fun y1 z t1 t2 => ?_
        rw [tt_str t1]
        refine q_set (i := 9) (P := fun v _ => if letsM b us p.1 = true then ∃ i : Int, v = .int i else v = .non)
          (ev_if (b := decide (p.1 ∈ us) || false) (et_or (et_B (ev_inK (Pd := fun _ _ => True) (us := us) (ev_vp (i := 4) (v := .ref g) (P := fun v H' => ∃ g kvs, v = .ref g ∧ H' g = some (.dK kvs) ∧ kvs.map (·.1) = us.map Sum.inr) rfl (fun _ _ _ e ⟨g, kvs, a, b, c⟩ => ⟨g, kvs, a, e _ _ b, c⟩) ⟨g, kvs, rfl, hg5, ek⟩) (ev_var (i := 7) (v := .str p.1) rfl))) (fun _ => et_test (ev_inB (K := K) (x := p.1) D.empty (ev_var (i := 7) (v := .str p.1) rfl) (ev_var (i := 2) (v := .ref B) rfl))))
            (fun h => (ev_c (v := .non)).imp fun v _ _ e => ?_) (fun h => ev_kn (ea_two (mono_t (needsD p.2)) (ev_vt (i := 8) (v := z) rfl t2) (ev_vp (i := 4) (v := .ref g) (P := IsTimes us) rfl (mono_times us) ⟨g, kvs, rfl, hg5, ek, vk⟩)) (p.2, us) (fun vs H6 _ ⟨v, w, h1, h2, h3⟩ => ⟨v, w, h1, h2, h3, hb.fair.each p hp⟩) fun v H6 _ h6 => ?_)) fun bv H6 e6 hbv => ?_
        · have h : p.1 ∈ us := by simpa using h
          rw [if_neg (by rw [bE]; simp [h])]; exact e
        · have h : ¬ p.1 ∈ us := by simpa using h
          rw [bE]
          simpa [h] using h6
        · refine s_if (b := letsM b us p.1) ((et_B (ev_notN (v0 := bv) (ev_var (i := 9) (v := bv) rfl))).to ?_) (fun hl H7 e7 => ?_) (fun hl H7 e7 => ?_)
          · by_cases hl : letsM b us p.1 = true
            · rw [if_pos hl] at hbv
              obtain ⟨i0, rfl⟩ := hbv
              rw [hl]; rfl
            · rw [if_neg hl] at hbv
              subst hbv
              rw [Bool.not_eq_true] at hl
              rw [hl]; rfl
          · rw [if_pos hl] at hbv
            obtain ⟨i0, rfl⟩ := hbv
            have e67 := e6.trans e7
            obtain ⟨wv, hw, hwm⟩ := valS_some (kvs := durs.map fun p => ((.inr p.1 : Key), V.int p.2)) (us := unitsM b) (by rw [List.map_map, ← hk, List.map_map]; rfl) hpu
            obtain ⟨p0, _, ep0⟩ := List.mem_map.mp hwm
            have ew : wv = .int p0.2 := by injection ep0 with _ h2; exact h2.symm
            subst ew
            have hr7 := e67 _ _ (e5 _ _ hr4)
            refine s_append (K := K) (i := 6) (p := r) (P := IsT (rowD (i0 + p0.2, p.1))) rfl ⟨xs, hr7⟩ (ev_tup (ts_cons (ev_I0 (ev_var (i := 9) (v := .int i0) rfl) (ev_getX (g := d) (u := p.1) (ev_vp (i := 3) (v := .ref d) (P := fun v H' => v = .ref d ∧ H' d = some (.dK (durs.map fun p => ((.inr p.1 : Key), V.int p.2)))) rfl (fun _ _ _ e ⟨a, b⟩ => ⟨a, e _ _ b⟩) ⟨rfl, e67 _ _ hd5⟩) (ev_var (i := 7) (v := .str p.1) rfl) hw)).tint (ts_cons (ev_var (i := 7) (v := .str p.1) rfl).tstr ts_nil)) (by show 2 ≤ 100000; decide)) (fun nv H8 xs8 e8 tn h8 _ => ?_) (fun xs8 h8 => ?_)
            · have ex := e8 _ _ hr7
              rw [h8] at ex
              cases ex
              have e48 : Same H4 H8 := e5.trans (e67.trans e8)
              refine ⟨rs ++ [(i0 + p0.2, p.1)], xs ++ [nv], _, _, _, rfl, upd_same, ?_, fun q hq => ?_, fun _ _ _ z => ?_, ?_, tex.trans ((tex_same e48).trans (tex_lst h8)), same_mut (s4.trans e48) hr0⟩
              · rw [List.map_append]
                exact (TtA.snoc tn (tx.same e48)).tex (tex_lst h8)
              · rcases List.mem_append.mp hq with h | h
                · exact lr q h
                · rw [List.mem_singleton.mp h]; exact hl
              · exact absurd z (by simp)
              · rw [List.length_append, List.length_singleton]; omega
            · rw [hr7] at h8
              cases h8
              have := tx.len
              rw [List.length_map] at this
              omega
          · have e47 : Same H4 H7 := e5.trans (e6.trans e7)
            refine ⟨rs, xs, _, _, _, rfl, e47 _ _ hr4, tx.same e47, lr, fun p' hp' hl' => ?_, Nat.le_succ_of_le ln, tex.trans (tex_same e47), s4.trans e47⟩
            rw [take_more hbp] at hp'
            rcases List.mem_append.mp hp' with h | h
            · exact ne p' h hl'
            · rw [List.mem_singleton.mp h, hl] at hl'; cases hl'
      · rintro HL eL σ' H4 ⟨rs, xs, l7, l8, l9, rfl, hr4, tx, lr, ne, ln, tex, s4⟩
        rw [List.take_length] at ne
        refine q_set (ev_I0 (ev_lenL (K := K) (te := tVar 6) (ds := rs.map rowD) (σ := [some v, some x, some (.ref B), some (.ref d), some (.ref g), some (.bl true), some (.ref r), l7, l8, l9, l10]) (ev_vp (i := 6) (v := .ref r) (P := IsL _) rfl (mono_l _) ⟨r, xs, rfl, hr4, tx⟩)) ev_c) fun gv H5 e5 hgv => ?_
        subst hgv
        rw [List.length_map]
        have sH5 : Same H' H5 := e2.trans (s4.trans e5)
        cases rs with
        | nil =>
          refine s_if (b := false) (et_B (ev_var (i := 5) (v := .bl false) rfl)) (fun z => nomatch z) fun _ H6 e6 => ?_
          have s6 := sH5.trans e6
          refine ⟨_, ?_, us, kvs, false, _, _, _, _, _, rfl, sH.trans s6, hvH.same s6, s6 _ _ hdH, s6 _ _ hgH, ek, vk, und, usub, fun _ u hu => ?_, rfl⟩
          · show 2 * (b.length - us.length) + 0 < 2 * (b.length - us.length) + 1
            omega
          · obtain ⟨p, hp, rfl⟩ := List.mem_map.mp hu
            cases hq : letsM b us p.1 with
            | false => rfl
            | true => exact absurd rfl (ne p hp hq)
        | cons q0 rs =>
          have gt : decide ((0 : Int) < ((q0 :: rs).length : Nat)) = true := by simp
          rw [gt]
          refine s_if (b := true) (et_B (ev_var (i := 5) (v := .bl true) rfl)) (fun _ H6 e6 => ?_) fun z => nomatch z
          have s6 := sH5.trans e6
          refine ev_minR (ps := q0 :: rs) (te := tVar 6) (σ := [some v, some x, some (.ref B), some (.ref d), some (.ref g), some (.bl true), some (.ref r), l7, l8, l9, l10]) (H := H6) (ev_vp (i := 6) (v := .ref r) (P := IsL _) rfl (mono_l _) ⟨r, xs, rfl, (e5.trans e6) _ _ hr4, tx.same (e5.trans e6)⟩) (by simp) H6 (Same.refl _) _ fun mv H7 e7 ⟨p0, hp0, tm⟩ => ?_
          refine pair_go tm fun y1 z t1 t2 => ?_
          rw [tt_int t1, tt_str t2]
          have s7 := s6.trans e7
          have hg7 := s7 _ _ hgH
          have hl := lr p0 hp0
          have hnot := (lets_iff.mp hl).1
          have hnew : (us ++ [p0.2]).Nodup := List.nodup_append.mpr ⟨und, List.pairwise_singleton _ _, fun a ha b hb e => hnot (by rw [List.mem_singleton.mp hb] at e; rw [← e]; exact ha)⟩
          have hsub : ∀ u ∈ us ++ [p0.2], u ∈ unitsM b := fun u hu => (List.mem_append.mp hu).elim (usub u) fun h => by rw [List.mem_singleton.mp h]; exact lets_unit hl
          have hlen := nodup_len hnew hsub
          rw [List.length_append, List.length_singleton, ulen] at hlen
          have klen : kvs.length = us.length := by have := congrArg List.length ek; rwa [List.length_map, List.length_map] at this
          refine ⟨_, rfl, _, rfl, _, rfl, g, _, rfl, DPut.k (k := .inr p0.2) hg7 (size_lt (by omega)), ?_⟩
          rw [putK_new _ (valS_none ek hnot)]
          refine ⟨_, ?_, us ++ [p0.2], kvs ++ [(.inr p0.2, .int p0.1)], true, _, _, _, _, _, rfl, same_mut (sH.trans s7) hg, ?_, by rw [upd_ne dg]; exact s7 _ _ hdH, upd_same, by rw [List.map_append, List.map_append, ek]; rfl, fun p hp => ?_, hnew, hsub, fun z => (nomatch z), rfl⟩
          · rw [List.length_append, List.length_singleton, if_pos rfl]
            omega
          · exact (hv.same e1).same (same_mut (sH.trans s7) hg)
          · rcases List.mem_append.mp hp with h | h
            · exact vk p h
            · rw [List.mem_singleton.mp h]; exact ⟨_, rfl⟩
    · subst hgb
      refine s_ret (ev_var (i := 4) (v := .ref g) rfl) fun v' H3 e3 h3 => q v' H3 ((e1.trans sH).trans (e2.trans e3)) ⟨us, ⟨g, kvs, h3, e3 _ _ (e2 _ _ hgH), ek, vk⟩, und, usub, cl rfl⟩
end
end Up
end
section
set_option Elab.async false
set_option linter.all false
set_option maxRecDepth 100000
set_option maxHeartbeats 4000000
/-! The defs row_by, first_beyond. -/
namespace Up
open PySem PySem.Spec PyProof.Rows L2
theorem closed_all {b : SBk} {us : List Str} (cl : ∀ u ∈ unitsM b, letsM b us u = false) {r : List Str} (hr : Row b r) : ∀ u ∈ r, u ∈ us := by
  induction hr with
  | nil => intro u hu; cases hu
  | @snoc r u _ hl ih =>
    intro x hx
    rcases List.mem_append.mp hx with h | h
    · exact ih x h
    · rw [List.mem_singleton.mp h]
      by_cases hm : u ∈ us
      · exact hm
      · have := lets_mono hl ih hm
        rw [cl u (lets_unit hl)] at this
        cases this
section
variable {X : Cx} {K : PySem.W.Frag}
theorem sl_listK (h : X.K = K) : SlR X (rSlL K) := by subst h; exact sl_list
theorem cr_intB : CallR X (.type "int") (fun xs H Q => (∃ i, xs = [.int i] ∧ Q (.int i) H) ∨ ∃ k, xs = [.bl k] ∧ Q (.int (if k then 1 else 0)) H) := call_int1
end
section
variable {P : Program} {w : World} {K : PySem.W.Frag} {mg : Str → Option Value} {base : Heap} {B : Addr}
def spRowBy : Sp := SpD (α := SBk × List (Str × Int)) (fun a vs H => ∃ v x, vs = [v, x] ∧ BookV a.1 v H ∧ BkOk a.1 ∧ IsL (a.2.map durD) x H ∧ a.2.map (·.1) = unitsM a.1) (fun a v H => ∃ us, Tt H v (strsD us) ∧ us.Nodup ∧ (∀ u ∈ us, u ∈ unitsM a.1) ∧ ∀ u ∈ unitsM a.1, letsM a.1 us u = false)
theorem k_row_by (T : Txt K mg) (D : DfT K mg B) : Kn P w K mg base CX0 7 "row_by" spRowBy := by
  obtain ⟨ft, fdt, ds, Ft, hmt, hkt, hbt, hdt⟩ := (k_all_times (P := P) (w := w) (base := base) T D).ex
  refine T.d_row_by.kn c_row_by (fun vs H Q E h => ?_) (fun f cdv A outer s H vs Q E hr h => ?_)
  · obtain ⟨a, ⟨v, x, rfl, _⟩, _⟩ := h
    rfl
  · obtain ⟨⟨b, durs⟩, ⟨v, x, rfl, hv, hb, hx, hk⟩, q⟩ := h
    simp only at hv hb hx hk q
    refine ⟨_, pss_one (ps_ret (pe_callTy (cr_tupKS (by rfl)) (by rfl) T.b_tuple (by decide +kernel) (pa_cons (pe_call Ft hr (by rfl) hmt hkt hbt hdt pass0 (pa_cons (pv 0) (pa_cons (pv 1) pa_nil))) pa_nil))), ?_⟩
    have call : Ev (tCall (spTimes B) [.ref B] E0 (tCons (tVar 0) (tCons (tVar 1) tNil))) (start ["book", "durations"] [v, x]) H (fun v H' => ∃ us, IsTimes us v H' ∧ us.Nodup ∧ (∀ u ∈ us, u ∈ unitsM b) ∧ ∀ u ∈ unitsM b, letsM b us u = false) := fun H1 e Q q =>
      ⟨v, rfl, x, rfl, (b, durs), ⟨v, x, rfl, hv.same e, hb, mono_l _ _ _ _ e hx, hk⟩, q⟩
    refine s_ret (ev_cb (ea_one call) fun vs H1 _ ⟨tv, hv, us, ⟨g, kvs, e1, hg, ek, _⟩, r⟩ Q q => ⟨g, kvs, us, by rw [hv, e1], hg, ek, fun p hp => q _ _ (same_new hp) ⟨us, tt_of_strs upd_same, r⟩⟩) q
/-! first_beyond(book, row) -/
def spBeyond : Sp := SpD (α := SBk × List Str) (fun a vs H => ∃ v x, vs = [v, x] ∧ BookV a.1 v H ∧ BkOk a.1 ∧ IsL (a.2.map .str) x H ∧ (∀ u ∈ a.2, u ∈ unitsM a.1) ∧ a.2.length < 64 ∧ ∃ i, i ≤ a.2.length ∧ ¬ Stand a.1 (a.2.take i)) (fun a v _ => ∃ i : Nat, v = .int (i : Int) ∧ i ≤ a.2.length)
open Classical in
theorem k_first_beyond (T : Txt K mg) : Kn P w K mg base CX0 8 "first_beyond" spBeyond := by
  have G1 := k_is_standing (P := P) (w := w) (base := base) T
  have G2 := k_set_of (P := P) (w := w) (base := base) T
  refine T.d_first_beyond.kn c_first_beyond (fun vs H Q E h => ?_) (fun f cdv A outer s H vs Q E hr h => ?_)
  · obtain ⟨a, ⟨v, x, rfl, _⟩, _⟩ := h
    rfl
  · obtain ⟨⟨b, us⟩, ⟨v, x, rfl, hv, hb, hx, hsub, hz, i0, hi0, hs0⟩, q⟩ := h
    simp only at hv hb hx hsub hz hi0 hs0 q
    refine ⟨_, pss_one (ps_ret (pe_ix ix_list (pe_lc (own := [("many", 2)]) (g := gName 2) (by rfl) c_first_beyond.nd (pi_range1 (by rfl) T.b_range (pa_cons (pe_op op_add (pe_callB cr_len (by rfl) T.b_len (by decide +kernel) (pa_cons (pv 1) pa_nil)) pe_int) pa_nil))
      (blkOk_by (N := ["book", "row", "many"]) (sc := defScope s_first_beyond) (by decide +kernel)) (fun _ _ _ _ _ => pgn 2 c_first_beyond.nd)
      (fun _ _ _ _ _ => pts_one (pt_not (pt_val (pe_kn G1 hr pass0 (pa_cons (pv 0) (pa_cons (pe_kn G2 (hr.mono (by decide)) pass0 (pa_cons (pe_slice (sl_listK (K := K) (by rfl)) (pv 1) po_none (po_some (pv 2))) pa_nil)) pa_nil)))))) (fun _ _ _ _ _ => pv 2)) pe_int (fun _ _ => rfl))), ?_⟩
    have lenE := ev_lenL (K := K) (te := tVar 1) (ds := us.map PyData.str) (σ := start ["book", "row", "many"] [v, x]) (H := H) (ev_vp (i := 1) (v := x) (P := IsL _) rfl (mono_l _) hx)
    rw [List.length_map] at lenE
    have rngE : EvA (tCons (tOp (rI0 fun i j => .int (i + j)) (tCB (rLen K) (tCons (tVar 1) tNil)) (tC (.int 1))) tNil) (start ["book", "row", "many"] [v, x]) H (fun vs _ => vs = [.int ((us.length + 1 : Nat) : Int)]) := fun H1 e Q q =>
      ea_one (ev_I0 lenE (ev_c (v := .int 1))) H1 e Q fun vs H2 e2 ⟨v, h1, h2⟩ => q vs H2 e2 (by rw [h1, h2]; simp)
    have key := ev_lc (te := tVar 2) (tt := tNot (tB (tCall spIs [] E0 (tCons (tVar 0) (tCons (tCall spSetOf [] E0 (tCons (tSl (rSlL K) (tVar 1) tNoPart (tPart (tVar 2))) tNil)) tNil))))) (g := gName 2) (vs := [2]) (src_rng rngE (by omega)) (fun i => !decide (Stand b (us.take i))) (fun i => .int (i : Int)) (by rw [List.length_range]; omega) fun i hi y H1 e hy C c => by
      subst hy
      refine c [some v, some x, some (.int (i : Int))] _ (Same.refl _) rfl ?_ fun _ => (ev_var (i := 2) (v := .int (i : Int)) rfl).tint
      obtain ⟨t, ht⟩ := can_ex (us.take i)
      have tsub : ∀ u ∈ t, u ∈ unitsM b := fun u hu => hsub u (List.mem_of_mem_take ((ht.2 u).mp hu))
      have tlen : t.length < 64 := by
        have := nodup_len (asc_nodup ht.1) tsub
        have e : (unitsM b).length = b.length := by unfold unitsM; rw [List.length_map]
        have := hb.n16
        omega
      have slE := ev_slL (K := K) (te := tVar 1) (σ := [some v, some x, some (.int (i : Int))]) (H := H1) (ev_vp (i := 1) (v := x) (P := IsL (us.map PyData.str)) rfl (mono_l _) (mono_l _ _ _ _ e hx)) eo_none (eo_some (ev_var (i := 2) (v := .int (i : Int)) rfl)) (part_to _ i)
      rw [← List.map_take] at slE
      have setE := (ev_kn (ea_one slE.seqL) (us.take i) (fun vs H2 _ ⟨v, h1, h2⟩ => ⟨v, h1, h2, by rw [List.length_take]; omega⟩) (fun v H2 _ ⟨ys, h1, h2⟩ => by rw [can_uniq h2 ht] at h1; exact h1) : Ev (tCall spSetOf [] E0 (tCons (tSl (rSlL K) (tVar 1) tNoPart (tPart (tVar 2))) tNil)) [some v, some x, some (.int (i : Int))] H1 (IsT (strsD t)))
      refine et_not (et_B (ev_kn (ea_two (P1 := fun v H => BookV b v H) (fun _ _ _ e q => q.same e) (ev_vp (i := 0) (v := v) (P := fun v H => BookV b v H) rfl (fun _ _ _ e q => q.same e) (hv.same e)) setE) (b, t) (fun vs H2 _ ⟨v, w, h1, h2, h3⟩ => ⟨v, w, h1, h2, hb, h3, tsub, tlen, ht.1⟩) fun v H2 _ ⟨r, h1, h2⟩ => ?_))
      rw [h1]
      have : Stand b t ↔ Stand b (us.take i) := ⟨fun h => h.same fun z => ht.2 z, fun h => h.same fun z => (ht.2 z).symm⟩
      have h3 : r = true ↔ Stand b (us.take i) := Iff.trans h2 this
      congr 1
      rw [Bool.eq_iff_iff, h3]
      exact decide_eq_true_iff.symm
    have hm : i0 ∈ (List.range (us.length + 1)).filter fun i => !decide (Stand b (us.take i)) := List.mem_filter.mpr ⟨List.mem_range.mpr (by omega), by simp [hs0]⟩
    cases hl : (List.range (us.length + 1)).filter fun i => !decide (Stand b (us.take i)) with
    | nil => rw [hl] at hm; cases hm
    | cons j0 r =>
      have hj : j0 ∈ List.range (us.length + 1) := (List.mem_filter.mp (by rw [hl]; exact List.mem_cons_self)).1
      rw [hl] at key
      exact s_ret (ev_ixL (K := K) (i := 0) key ev_c rfl) fun v H1 e h => q v H1 e ⟨j0, tt_int h, by have := List.mem_range.mp hj; omega⟩
end
end Up
end
section
set_option Elab.async false
set_option linter.all false
set_option maxRecDepth 100000
set_option maxHeartbeats 4000000
/-! The defs later_durations, never_later. -/
namespace Up
open PySem PySem.Spec PyProof.Rows L2
theorem filter_same {s t : List Str} (h : Same2 s t) (u : Str) : Same2 (s.filter fun x => decide (x ≠ u)) (t.filter fun x => decide (x ≠ u)) := fun x => by
  rw [mem_without, mem_without, h x]
theorem end_same {b : SBk} {s t : List Str} (h : Same2 s t) {u : Str} (e : EndOf b s u) : EndOf b t u := ⟨(h u).mp e.1, e.2.same (filter_same h u)⟩
theorem sub_of_list {b a : SBk} (h : ∀ k, Asc k → Stand b k → OneEnd b k → Stand a k) : SubB b a := sub_of_paths fun s hs ⟨u, hu, hw⟩ => by
  obtain ⟨t, ht⟩ := can_ex s
  have e : Same2 s t := fun x => (ht.2 x).symm
  exact (h t ht.1 (hs.same e) ⟨u, end_same e hu, fun w hw' => hw w (end_same e.symm hw')⟩).same e.symm
section
variable {K : PySem.W.Frag} {σ : L2.St} {H : Hp} {te tk : TE}
theorem s_forT {α : Type} {F : α → Prop} {enc : α → PyData} {g : TG} {tb : TS} {D : Ends} (h : Ev te σ H (fun v H' => ∃ a, Tt H' v (enc a) ∧ F a)) (k : ∀ a v H1, Same H H1 → F a → Tt H1 v (enc a) → tFor (iTup K (tC v)) g tb D σ H1) : tFor (iTup K te) g tb D σ H :=
  h H (Same.refl H) _ fun v H1 e ⟨a, hv, f⟩ => k a v H1 e f hv
theorem ev_lcT {α : Type} {F : α → Prop} {enc : α → PyData} {g : TG} {tt : TT} {tx : TE} {vs : List Nat} {P : V → Hp → Prop} (h : Ev te σ H (fun v H' => ∃ a, Tt H' v (enc a) ∧ F a)) (k : ∀ a v H1, Same H H1 → F a → Tt H1 v (enc a) → Ev (tLc (iTup K (tC v)) g tt tx vs) σ H1 P) : Ev (tLc (iTup K te) g tt tx vs) σ H P := fun H1 e Q q =>
  h H1 e _ fun v H2 e2 ⟨a, hv, f⟩ => k a v H2 (e.trans e2) f hv H2 (Same.refl _) Q fun w H3 e3 p => q w H3 (e2.trans e3) p
theorem ev_slX {ds : List PyData} (h : Ev te σ H (IsL ds)) (hk : Ev tk σ H (fun v _ => ∃ i : Nat, v = .int (i : Int))) : Ev (tSl (rSlL K) te tNoPart (tPart tk)) σ H (fun v H' => ∃ i : Nat, IsL (ds.take i) v H') := fun H1 e Q q =>
  h H1 e _ fun x H2 e2 px => hk H2 (e.trans e2) _ fun y H3 e3 ⟨i, hy⟩ => ⟨(i : Int), hy, by
    obtain ⟨p, xs, rfl, h2, t⟩ := mono_l _ _ _ _ e3 px
    refine ⟨p, xs, rfl, sq_l h2, fun l hl => q _ _ ((e2.trans e3).trans (same_new hl)) ⟨i, l, _, rfl, upd_same, ?_⟩⟩
    rw [cut_to]
    exact (t.take i).same (same_new hl)⟩
def rInt1 : List V → Hp → VK → Prop := fun xs H Q => (∃ i, xs = [V.int i] ∧ Q (.int i) H) ∨ ∃ k, xs = [V.bl k] ∧ Q (.int (if k then 1 else 0)) H
theorem cr_int1 {X : Cx} : CallR X (.type "int") rInt1 := call_int1
theorem ev_intB {b : Bool} (h : Ev te σ H (fun w _ => w = .bl b)) : Ev (tCB rInt1 (tCons te tNil)) σ H (fun w _ => w = .int (if b then 1 else 0)) := ev_cb (ea_one h) fun vs H1 _ ⟨v, hv, hb⟩ Q q => .inr ⟨b, by rw [hv, hb], q _ _ (Same.refl _) rfl⟩
end
section
variable {P : Program} {w : World} {K : PySem.W.Frag} {mg : Str → Option Value} {base : Heap} {B C : Addr}
def spLater (C : Addr) : Sp := SpX C PreTwo Unlike (fun a v _ => (v = .non ∧ SubB a.2 a.1) ∨ (v ≠ .non ∧ ¬ SubB a.2 a.1))
open Classical in
theorem k_later (T : Txt K mg) (TX : TxtX K mg C) (D : DfT K mg B) : Kn P w K mg base (L2.CX P w) 9 "later_durations" (spLater C) := by
  have G1 := k_check_same (P := P) (w := w) (base := base) T TX
  have G2 := k_all_paths (P := P) (w := w) (base := base) T
  have G3 := k_is_standing (P := P) (w := w) (base := base) T
  have G4 := k_units (P := P) (w := w) (base := base) T
  have G5 := k_row_by (P := P) (w := w) (base := base) T D
  have G6 := k_first_beyond (P := P) (w := w) (base := base) T
  refine T.d_later_durations.knX c_later_durations (fun vs H Q E h => ?_) (fun f cdv A outer s H vs Q E hr h => ?_)
  · obtain ⟨a, ⟨v, x, rfl, _⟩, _⟩ := h
    rfl
  · obtain ⟨⟨a, b⟩, ⟨v, x, rfl, hv, hx, ha, hb⟩, q1, q2⟩ := h
    simp only at hv hx ha hb
    refine ⟨_, pss_cons (ps_expr (pe_knS (E := WE (fun cls d _ H => E cls d H)) G1 (hr.mono (by decide)) (fun σ => passAt (takes_of rfl rfl rfl rfl) σ) (pa_cons (pv 0) (pa_cons (pv 1) pa_nil))))
      (pss_cons (ps_for (passes_of rfl) (by rfl) (pi_tup (pe_kn G2 (hr.mono (by decide)) pass0 (pa_cons (pv 1) pa_nil))) (pgn 2 c_later_durations.nd)
        (pss_one (ps_if (pt_not (pt_val (pe_kn G3 (hr.mono (by decide)) pass0 (pa_cons (pv 0) (pa_cons (pv 2) pa_nil)))))
          (pss_cons (ps_setLc (own := [("unit", 4)]) (g := gName 4) (i := 3) (by rfl) c_later_durations.nd (by rfl) (by rfl) (sw_true rfl rfl rfl (by decide +kernel)) (pi_tup (pe_kn G4 (hr.mono (by decide)) pass0 (pa_cons (pv 1) pa_nil)))
            (blkOk_by (N := ["one", "other", "path", "soon", "unit", "row", "early"]) (sc := defScope s_later_durations) (by decide +kernel)) (fun _ _ _ _ _ => pgn 4 c_later_durations.nd) (fun _ _ _ _ _ => pts_nil)
            (fun _ _ _ _ _ => pe_tup (pa_cons (pv 4) (pa_cons (pe_callTy cr_int1 (by rfl) T.b_int (by decide +kernel) (pa_cons (pe_cmpR (op_ninK (K := K) (by rfl)) (pv 4) (pv 2) (by rfl)) pa_nil)) pa_nil))))
          (pss_cons (ps_setLc (own := [("unit", 4)]) (g := gName 4) (i := 5) (by rfl) c_later_durations.nd (by rfl) (by rfl) (sw_true rfl rfl rfl (by decide +kernel)) (pi_tup (pe_kn G5 (hr.mono (by decide)) pass0 (pa_cons (pv 1) (pa_cons (pv 3) pa_nil))))
            (blkOk_by (N := ["one", "other", "path", "soon", "unit", "row", "early"]) (sc := defScope s_later_durations) (by decide +kernel)) (fun _ _ _ _ _ => pgn 4 c_later_durations.nd) (fun _ _ _ _ _ => pts_one (pt_cmpR (op_inK (K := K) (by rfl)) (pv 4) (pv 2) (by rfl))) (fun _ _ _ _ _ => pv 4))
          (pss_cons (ps_asg (pe_slice sl_list (pv 5) po_none (po_some (pe_kn G6 hr pass0 (pa_cons (pv 0) (pa_cons (pv 5) pa_nil))))) (pgn 6 c_later_durations.nd))
          (pss_one (ps_ret (pe_callTy cr_tup (by rfl) T.b_tuple (by decide +kernel) (pa_cons (pe_lc (own := [("unit", 4)]) (g := gName 4) (by rfl) c_later_durations.nd (pi_tup (pe_kn G4 (hr.mono (by decide)) pass0 (pa_cons (pv 0) pa_nil)))
            (blkOk_by (N := ["one", "other", "path", "soon", "unit", "row", "early"]) (sc := defScope s_later_durations) (by decide +kernel)) (fun _ _ _ _ _ => pgn 4 c_later_durations.nd) (fun _ _ _ _ _ => pts_nil)
            (fun _ _ _ _ _ => pe_tup (pa_cons (pv 4) (pa_cons (pe_callTy cr_int1 (by rfl) T.b_int (by decide +kernel) (pa_cons (pe_cmpR (op_ninK (K := K) (by rfl)) (pv 4) (pv 6) (by rfl)) pa_nil)) pa_nil)))) pa_nil))))))) pss_nil)))
      (pss_one (ps_ret pe_non))), ?_⟩
    refine ⟨v, rfl, x, rfl, (a, b), ⟨v, x, rfl, hv, hx, ha, hb⟩, fun nb _ H1 e1 _ => ?_, fun bad H1 e1 => q2 bad H1 e1⟩
    have un : unitsM a = unitsM b := Decidable.of_not_not nb
    have ulen : (unitsM b).length = b.length := by unfold unitsM; rw [List.length_map]
    have b16 := hb.n16
    have q1' := q1 nb
    clear q1 q2
    have pathsE := (ev_kn (ea_one (ev_vp (i := 1) (v := x) (P := fun v H => BookV b v H) rfl (fun _ _ _ e q => q.same e) (hx.same e1))) b (fun vs H2 _ ⟨v, h1, h2⟩ => ⟨v, h1, h2, hb⟩) (fun v H2 _ h => h) : Ev (tCall spPaths [] E0 (tCons (tVar 1) tNil)) (start ["one", "other", "path", "soon", "unit", "row", "early"] [v, x]) H1 (fun v H' => ∃ ks : List (List Str), Tt H' v (.tuple (ks.map strsD)) ∧ ∀ k, k ∈ ks ↔ Asc k ∧ Stand b k ∧ OneEnd b k))
    refine s_forT (K := K) (enc := fun ks : List (List Str) => .tuple (ks.map strsD)) (F := fun ks => ∀ k, k ∈ ks ↔ Asc k ∧ Stand b k ∧ OneEnd b k) pathsE fun ks kv H2 e2 hks hkv => ?_
    refine s_for (srcM_map strsD (srcM_tup (K := K) (te := tC kv) (ds := ks.map strsD) (ev_tC (mono_t _) hkv))) (fun HL i σ' H' => ∃ l2 l3 l4 l5 l6 : Option V, σ' = [some v, some x, l2, l3, l4, l5, l6] ∧ Same HL H' ∧ ∀ k ∈ ks.take i, Stand a k) (fun HL eL => ⟨none, none, none, none, none, rfl, Same.refl _, fun k hk => by rw [List.take_zero] at hk; cases hk⟩) (fun HL i σ' H' ⟨_, _, _, _, _, _, t, _⟩ => tex_same t) ?_ ?_
    · rintro HL eL i k y σ' H3 H4 hbk ⟨l2, l3, l4, l5, l6, rfl, sL, al⟩ e4 hy
      obtain ⟨hk1, hk2, hk3⟩ := (hks k).mp (List.mem_of_getElem? hbk)
      have s4 : Same H H4 := ((e1.trans e2).trans (eL.trans sL)).trans e4
      have ksub : ∀ u ∈ k, u ∈ unitsM a := fun u hu => by rw [un]; exact hk2.units u hu
      have klen : k.length ≤ 16 := by
        have := nodup_len (asc_nodup hk1) hk2.units
        omega
      refine name_go (s_if (b := !decide (Stand a k)) (et_not (et_B (ev_kn (ea_two (P1 := fun v H => BookV a v H) (fun _ _ _ e q => q.same e) (ev_vp (i := 0) (v := v) (P := fun v H => BookV a v H) rfl (fun _ _ _ e q => q.same e) (hv.same s4)) (ev_vt (i := 2) (v := y) rfl hy)) (a, k) (fun vs H2 _ ⟨v, w, h1, h2, h3⟩ => ⟨v, w, h1, h2, ha, h3, ksub, (by omega : k.length < 64), hk1⟩) fun v H2 _ ⟨r, h1, h2⟩ => ?_))) (fun hn H5 e5 => ?_) (fun hn H5 e5 => ?_))
      · rw [h1]
        congr 1
        rw [Bool.eq_iff_iff, h2]
        exact decide_eq_true_iff.symm
      · have hns : ¬ Stand a k := by simpa using hn
        have s5 := s4.trans e5
        have hy5 := hy.same e5
        have dn : ((unitsM b).map fun u => (u, (if u ∈ k then 0 else 1 : Int))).map (·.1) = unitsM b := by rw [List.map_map]; exact List.map_id _
        have soonE := ev_lc (te := tTup (tCons (tVar 4) (tCons (tCB rInt1 (tCons (tOp (rIn K true) (tVar 4) (tVar 2)) tNil)) tNil))) (tt := tYes) (g := gName 4) (vs := [4]) (σ := [some v, some x, some y, l3, l4, l5, l6]) (H := H5)
          (src_strs (K := K) (te := tCall spUnits [] E0 (tCons (tVar 1) tNil)) (ev_kn (ea_one (ev_vp (i := 1) (v := x) (P := fun v H => BookV b v H) rfl (fun _ _ _ e q => q.same e) (hx.same s5))) b (fun vs H2 _ ⟨v, h1, h2⟩ => ⟨v, h1, h2, hb.fair.few⟩) fun v H2 _ h => h)) (fun _ => true) (fun u => durD (u, (if u ∈ k then 0 else 1 : Int))) (by omega) fun u hu z H6 e6 hz CC c => by
            subst hz
            refine c [some v, some x, some y, l3, some (.str u), l5, l6] _ (Same.refl _) rfl et_yes fun _ => ?_
            refine ev_tup (ts_cons (ev_var (i := 4) (v := .str u) rfl).tstr (ts_cons ((ev_intB (ev_nin (K := K) (x := u) (us := k) (ev_var (i := 4) (v := .str u) rfl) (ev_vt (i := 2) (v := y) rfl (hy5.same e6)).seqT)).imp fun v H' _ e => ?_) ts_nil)) (by show 2 ≤ 100000; decide)
            rw [e]
            by_cases hm : u ∈ k
            · simp only [hm, decide_true, Bool.not_true, if_true]
              exact .int 0
            · simp only [hm, decide_false, Bool.not_false, if_true, if_false]
              exact .int 1
        rw [filter_yes, show (unitsM b).map (fun u => durD (u, (if u ∈ k then 0 else 1 : Int))) = ((unitsM b).map fun u => (u, (if u ∈ k then 0 else 1 : Int))).map durD from by rw [List.map_map]; rfl] at soonE
        refine q_set soonE fun sv H6 e6 hsv => ?_
        have s6 := s5.trans e6
        have rowE := (ev_kn (ea_two (P1 := fun v H => BookV b v H) (fun _ _ _ e q => q.same e) (ev_vp (i := 1) (v := x) (P := fun v H => BookV b v H) rfl (fun _ _ _ e q => q.same e) (hx.same s6)) (ev_vp (i := 3) (v := sv) (P := IsL _) rfl (mono_l _) hsv)) (b, (unitsM b).map fun u => (u, (if u ∈ k then 0 else 1 : Int))) (fun vs H2 _ ⟨v, w, h1, h2, h3⟩ => ⟨v, w, h1, h2, hb, h3, dn⟩) (fun v H2 _ h => h) : Ev (tCall spRowBy [] E0 (tCons (tVar 1) (tCons (tVar 3) tNil))) [some v, some x, some y, some sv, l4, l5, l6] H6 (fun v H' => ∃ us, Tt H' v (strsD us) ∧ us.Nodup ∧ (∀ u ∈ us, u ∈ unitsM b) ∧ ∀ u ∈ unitsM b, letsM b us u = false))
        refine q_set (P := fun v H' => ∃ us : List Str, IsL ((us.filter fun u => decide (u ∈ k)).map PyData.str) v H' ∧ us.Nodup ∧ (∀ u ∈ us, u ∈ unitsM b) ∧ ∀ u ∈ unitsM b, letsM b us u = false)
          (ev_lcT (K := K) (enc := strsD) (F := fun us : List Str => us.Nodup ∧ (∀ u ∈ us, u ∈ unitsM b) ∧ ∀ u ∈ unitsM b, letsM b us u = false) rowE fun us uv H7 e7 f7 h7 => (ev_lc (te := tVar 4) (g := gName 4) (src_strs (K := K) (te := tC uv) (ev_tC (mono_t _) h7)) (fun u => decide (u ∈ k)) PyData.str (by
            have := nodup_len f7.1 f7.2.1
            omega) fun u hu z H8 e8 hz CC c => ?_).imp fun v H' _ h => ⟨us, h, f7⟩) fun rv H7 e7 ⟨us, hrv, und, usub, ucl⟩ => ?_
        · subst hz
          exact c [some v, some x, some y, some sv, some (.str u), l5, l6] _ (Same.refl _) rfl (et_test (ev_in (K := K) (us := k) (ev_var (i := 4) (v := .str u) rfl) (ev_vt (i := 2) (v := y) rfl (hy5.same ((e6.trans e7).trans e8))).seqT)) fun _ => (ev_var (i := 4) (v := .str u) rfl).tstr
        · have rsame : Same2 (us.filter fun u => decide (u ∈ k)) k := fun z => by
            rw [List.mem_filter, decide_eq_true_iff]
            refine ⟨fun h => h.2, fun h => ⟨?_, h⟩⟩
            obtain ⟨r, hr, hs⟩ := hk2
            exact closed_all ucl hr z ((hs z).mpr h)
          have rlen : (us.filter fun u => decide (u ∈ k)).length ≤ 16 := by
            have h1 := List.length_filter_le (fun u => decide (u ∈ k)) us
            have h2 := nodup_len und usub
            omega
          generalize us.filter (fun u => decide (u ∈ k)) = R at hrv rsame rlen
          have s7 := s6.trans e7
          have beyE := (ev_kn (ea_two (P1 := fun v H => BookV a v H) (fun _ _ _ e q => q.same e) (ev_vp (i := 0) (v := v) (P := fun v H => BookV a v H) rfl (fun _ _ _ e q => q.same e) (hv.same s7)) (ev_vp (i := 5) (v := rv) (P := IsL _) rfl (mono_l _) hrv)) (a, R) (fun vs H2 _ ⟨v, w, h1, h2, h3⟩ => ⟨v, w, h1, h2, ha, h3, (fun u hu => ksub u ((rsame u).mp hu)), (by omega : R.length < 64), R.length, Nat.le_refl _, fun h => hns (by rw [List.take_length] at h; exact h.same rsame)⟩) (fun v H2 _ ⟨i, h1, _⟩ => ⟨i, h1⟩) : Ev (tCall spBeyond [] E0 (tCons (tVar 0) (tCons (tVar 5) tNil))) [some v, some x, some y, some sv, l4, some rv, l6] H7 (fun v _ => ∃ i : Nat, v = .int (i : Int)))
          refine q_set (ev_slX (K := K) (te := tVar 5) (ev_vp (i := 5) (v := rv) (P := IsL (R.map PyData.str)) rfl (mono_l _) hrv) beyE) fun ev H8 e8 ⟨j, hev⟩ => ?_
          rw [← List.map_take] at hev
          have s8 := s7.trans e8
          have outE := ev_lc (te := tTup (tCons (tVar 4) (tCons (tCB rInt1 (tCons (tOp (rIn K true) (tVar 4) (tVar 6)) tNil)) tNil))) (tt := tYes) (g := gName 4) (vs := [4]) (σ := [some v, some x, some y, some sv, l4, some rv, some ev]) (H := H8)
            (src_strs (K := K) (te := tCall spUnits [] E0 (tCons (tVar 0) tNil)) (ev_kn (ea_one (ev_vp (i := 0) (v := v) (P := fun v H => BookV a v H) rfl (fun _ _ _ e q => q.same e) (hv.same s8))) a (fun vs H2 _ ⟨v, h1, h2⟩ => ⟨v, h1, h2, ha.fair.few⟩) fun v H2 _ h => h)) (fun _ => true) (fun u => durD (u, (if (!decide (u ∈ R.take j)) = true then 1 else 0 : Int))) (by rw [un]; omega) fun u hu z H9 e9 hz CC c => by
              subst hz
              refine c [some v, some x, some y, some sv, some (.str u), some rv, some ev] _ (Same.refl _) rfl et_yes fun _ => ?_
              exact ev_tup (ts_cons (ev_var (i := 4) (v := .str u) rfl).tstr (ts_cons (ev_intB (ev_nin (K := K) (x := u) (us := R.take j) (ev_var (i := 4) (v := .str u) rfl) (ev_vp (i := 6) (v := ev) (P := IsL _) rfl (mono_l _) (mono_l _ _ _ _ e9 hev)).seqL)).tint ts_nil)) (by show 2 ≤ 100000; decide)
          exact s_ret (ev_tupL outE) fun ov H9 e9 ho => q1' ov H9 (s8.trans e9) (.inr ⟨by obtain ⟨p, _, e, _⟩ := tt_tup ho; rw [e]; exact (fun z => nomatch z), fun hs => hns (hs k hk2)⟩)
      · have hs : Stand a k := by simpa using hn
        refine ⟨_, _, _, _, _, rfl, (sL.trans e4).trans e5, fun k' hk' => ?_⟩
        rw [take_more hbk] at hk'
        rcases List.mem_append.mp hk' with h | h
        · exact al k' h
        · rw [List.mem_singleton.mp h]; exact hs
    · rintro HL eL σ' H3 ⟨l2, l3, l4, l5, l6, rfl, sL, al⟩
      rw [List.take_length] at al
      show tRet (tC .non) { nx := fun _ H' => Q .non H', rt := Q } [some v, some x, l2, l3, l4, l5, l6] H3
      refine s_ret (ev_c (v := .non)) fun v' H4 e4 hv' => ?_
      exact q1' v' H4 (((e1.trans e2).trans (eL.trans sL)).trans e4) (.inl ⟨hv', sub_of_list fun k h1 h2 h3 => al k ((hks k).mpr ⟨h1, h2, h3⟩)⟩)
/-! never_later(one, other) -/
def spNever (C : Addr) : Sp := SpX C PreTwo Unlike (fun a v _ => ∃ r : Bool, v = .bl r ∧ (r = true ↔ SubB a.2 a.1))
theorem k_never (T : Txt K mg) (TX : TxtX K mg C) (D : DfT K mg B) : Kn P w K mg base (L2.CX P w) 10 "never_later" (spNever C) := by
  have G1 := k_later (P := P) (w := w) (base := base) T TX D
  refine T.d_never_later.knX c_never_later (fun vs H Q E h => ?_) (fun f cdv A outer s H vs Q E hr h => ?_)
  · obtain ⟨a, ⟨v, x, rfl, _⟩, _⟩ := h
    rfl
  · obtain ⟨⟨a, b⟩, ⟨v, x, rfl, hv, hx, ha, hb⟩, q1, q2⟩ := h
    refine ⟨_, pss_one (ps_ret (pe_cmp (pc_isN (pe_knS (E := WE (fun cls d _ H => E cls d H)) G1 hr (fun σ => passAt (takes_of rfl rfl rfl rfl) σ) (pa_cons (pv 0) (pa_cons (pv 1) pa_nil)))))), ?_⟩
    refine ⟨v, rfl, x, rfl, (a, b), ⟨v, x, rfl, hv, hx, ha, hb⟩, fun nb rv H1 e1 h1 => ?_, fun bad H1 e1 => q2 bad H1 e1⟩
    refine q1 nb _ H1 e1 ⟨_, rfl, ?_⟩
    rw [decide_eq_true_iff]
    rcases h1 with ⟨h, k⟩ | ⟨h, k⟩
    · exact ⟨fun _ => k, fun _ => h⟩
    · exact ⟨fun z => absurd z h, fun z => absurd z k⟩
end
end Up
end
section
set_option Elab.async false
set_option linter.all false
set_option maxRecDepth 100000
set_option maxHeartbeats 4000000
/-! The law's own reckoning: _law_lets, _law_next. -/
namespace Up
open PySem PySem.Spec PyProof.Rows L2
/-- a book of the law: the needs name its units -/
structure LBk (b : SBk) : Prop where
  ok : BkOk b
  sub : ∀ p ∈ b, ∀ n ∈ p.2, ∀ o ∈ n, o ∈ unitsM b
theorem LBk.needs {b : SBk} (h : LBk b) {p : Str × List (List Str)} (hp : p ∈ b) : p.2.length ≤ 1000 ∧ ∀ n ∈ p.2, n.length ≤ 1000 ∧ ∀ o ∈ n, PyData.strOk o = true :=
  ⟨(h.ok.fair.each p hp).1, fun n hn => ⟨(h.ok.fair.each p hp).2 n hn, fun o ho => h.ok.txt o (h.sub p hp n hn o ho)⟩⟩
theorem shaped_strsL {us : List Str} (h : ∀ u ∈ us, PyData.strOk u = true) : SeqAt.shaped (.list (us.map .str)) = true := by
  have k := shaped_strsD h
  unfold SeqAt.shaped at k ⊢
  rw [Bool.and_eq_true_iff] at k ⊢
  obtain ⟨k1, k2⟩ := k
  refine ⟨?_, ?_⟩
  · have e : (strsD us).canLay0 = PyData.canLayAll0 (us.map .str) := by show (PyData.tuple _).canLay0 = _; rw [PyData.canLay0]
    rw [PyData.canLay0, ← e]; exact k1
  · have e : (PyData.list (us.map .str)).depth = (strsD us).depth := by show _ = (PyData.tuple _).depth; rw [PyData.depth, PyData.depth]
    rw [e]; exact k2
theorem eqv_nil (us : List Str) : PyData.eqv (.list (us.map PyData.str)) (.list []) = decide (us = []) := by
  rw [PyData.eqv]
  cases us with
  | nil => simp [PyData.eqvAll]
  | cons u us => simp [PyData.eqvAll]
section
variable {P : Program} {w : World} {K : PySem.W.Frag} {mg : Str → Option Value} {base : Heap}
def spLLets : Sp := SpD (α := List (List Str) × List Str) (fun a vs H => ∃ v x, vs = [v, x] ∧ Tt H v (needsD a.1) ∧ Tt H x (strsD a.2) ∧ a.1.length ≤ 1000 ∧ ∀ n ∈ a.1, n.length ≤ 1000 ∧ ∀ o ∈ n, PyData.strOk o = true) (fun a v _ => v = .bl (metN a.1 a.2))
theorem k_llets (T : Txt K mg) : Kn P w K mg base CX0 1 "_law_lets" spLLets := by
  refine T.d_law_lets.kn c_law_lets (fun vs H Q E h => ?_) (fun f cdv A outer s H vs Q E hr h => ?_)
  · obtain ⟨a, ⟨v, x, rfl, _⟩, _⟩ := h
    rfl
  · obtain ⟨⟨ns, up⟩, ⟨v, x, rfl, hv, hx, hz, hn⟩, q⟩ := h
    simp only at hv hx hz hn q
    refine ⟨_, pss_cons (ps_for PassesOwn.never (by rfl) (pi_tup (pv 0)) (pgn 2 c_law_lets.nd) (pss_one (ps_if (pt_cmpR (op_eqD hr.units) (pe_lc (own := [("_law_tag", 3)]) (g := gName 3) (by rfl) c_law_lets.nd (pi_tup (pv 2)) (blkOk_by (N := ["_law_lots_so", "_law_up_so", "_law_lot", "_law_tag"]) (sc := defScope s_law_lets) (by decide +kernel)) (fun _ _ _ _ _ => pgn 3 c_law_lets.nd)
      (fun _ _ _ _ _ => pts_one (pt_cmpR (op_ninK (K := K) (by rfl)) (pv 3) (pv 1) (by rfl))) (fun _ _ _ _ _ => pv 3)) (pe_lst pa_nil) (by rfl)) (pss_one (ps_ret pe_bl)) pss_nil)))
      (pss_one (ps_ret pe_bl)), ?_⟩
    refine s_for (srcM_map strsD (srcM_tup (K := K) (te := tVar 0) (σ := start ["_law_lots_so", "_law_up_so", "_law_lot", "_law_tag"] [v, x]) (ds := ns.map strsD) (ev_vt (i := 0) (v := v) rfl hv))) (fun HL i σ' H' => ∃ l2 l3 : Option V, σ' = [some v, some x, l2, l3] ∧ Same HL H' ∧ metN (ns.take i) up = false) (fun HL eL => ⟨none, none, rfl, Same.refl _, by rw [List.take_zero]; rfl⟩) (fun HL i σ' H' ⟨_, _, _, t, _⟩ => tex_same t) ?_ ?_
    · rintro HL eL i n y σ' H3 H4 hbn ⟨l2, l3, rfl, sL, al⟩ e4 hy
      have hm := List.mem_of_getElem? hbn
      obtain ⟨hl, hok⟩ := hn n hm
      have s4 : Same H H4 := (eL.trans sL).trans e4
      have lcE := ev_lc (te := tVar 3) (tt := tTest (tOp (rIn K true) (tVar 3) (tVar 1))) (g := gName 3) (vs := [3]) (σ := [some v, some x, some y, l3]) (H := H4) (src_strs (K := K) (te := tVar 2) (ev_vt (i := 2) (v := y) rfl hy)) (fun o => !decide (o ∈ up)) PyData.str (by omega) fun o ho z H5 e5 hz C c => by
        subst hz
        exact c [some v, some x, some y, some (.str o)] _ (Same.refl _) rfl (et_test (ev_nin (K := K) (us := up) (ev_var (i := 3) (v := .str o) rfl) (ev_vt (i := 1) (v := x) rfl (hx.same (s4.trans e5))).seqT)) fun _ => (ev_var (i := 3) (v := .str o) rfl).tstr
      have eqE := ev_eqD (K := K) (mono_l _) lcE (ev_lst (ds := []) ts_nil (Nat.zero_le _)) (fun v H1 h => h.dp) (fun v H1 h => h.dp) (shaped_strsL fun u hu => hok u (List.mem_filter.mp hu).1) (shaped_strsL (us := []) fun u hu => by cases hu)
      rw [eqv_nil] at eqE
      have all : decide ((n.filter fun o => !decide (o ∈ up)) = []) = n.all fun o => decide (o ∈ up) := by
        rw [Bool.eq_iff_iff, decide_eq_true_iff, List.filter_eq_nil_iff, List.all_eq_true]
        constructor
        · intro h o ho
          simpa using h o ho
        · intro h o ho
          simpa using h o ho
      rw [all] at eqE
      refine name_go (s_if (et_test eqE) (fun ht H5 e5 => ?_) (fun ht H5 e5 => ?_))
      · refine s_ret (ev_c (v := .bl true)) fun v' H6 e6 hv' => ?_
        refine q v' H6 ((s4.trans e5).trans e6) ?_
        rw [hv', show metN ns up = true from List.any_eq_true.mpr ⟨n, hm, ht⟩]
      · refine ⟨_, _, rfl, (sL.trans e4).trans e5, ?_⟩
        rw [take_more hbn]
        unfold metN at al ⊢
        rw [List.any_append, al, List.any_cons, ht]
        rfl
    · rintro HL eL σ' H3 ⟨l2, l3, rfl, sL, al⟩
      rw [List.take_length] at al
      show tRet (tC (.bl false)) { nx := fun _ H' => Q .non H', rt := Q } [some v, some x, l2, l3] H3
      refine s_ret (ev_c (v := .bl false)) fun v' H4 e4 hv' => ?_
      refine q v' H4 ((eL.trans sL).trans e4) ?_
      rw [hv', al]
def spLNext : Sp := SpD (α := SBk × List Str) (fun a vs H => ∃ v x, vs = [v, x] ∧ Tt H v (bookD a.1) ∧ LBk a.1 ∧ Tt H x (strsD a.2)) (fun a v H => IsL (((unitsM a.1).filter fun u => letsM a.1 a.2 u).map .str) v H)
theorem k_lnext (T : Txt K mg) : Kn P w K mg base CX0 2 "_law_next" spLNext := by
  have G := k_llets (P := P) (w := w) (base := base) T
  refine T.d_law_next.kn c_law_next (fun vs H Q E h => ?_) (fun f cdv A outer s H vs Q E hr h => ?_)
  · obtain ⟨a, ⟨v, x, rfl, _⟩, _⟩ := h
    rfl
  · obtain ⟨⟨b, up⟩, ⟨v, x, rfl, hv, hb, hx⟩, q⟩ := h
    simp only at hv hb hx q
    refine ⟨_, pss_one (ps_ret (pe_lc (own := [("_law_tag", 2), ("_law_lots_so", 3)]) (g := gTup K 2 (gCons (gName 2) (gCons (gName 3) gNil))) (by rfl) c_law_next.nd (pi_tup (pv 0)) (blkOk_by (N := ["_law_plan_so", "_law_up_so", "_law_tag", "_law_lots_so"]) (sc := defScope s_law_next) (by decide +kernel))
      (fun _ _ _ _ _ => pg_tup rfl (pgs_cons (pgn 2 c_law_next.nd) (pgs_cons (pgn 3 c_law_next.nd) pgs_nil))) (fun _ _ _ _ _ => pts_one (pw_and (pt_cmpR (op_ninK (K := K) (by rfl)) (pv 2) (pv 1) (by rfl)) (pw_and1 (pt_val (pe_kn G hr pass0 (pa_cons (pv 3) (pa_cons (pv 1) pa_nil)))))).pt) (fun _ _ _ _ _ => pv 2))), ?_⟩
    have n16 := hb.ok.n16
    have key := ev_lc (te := tVar 2) (tt := tAnd (tTest (tOp (rIn K true) (tVar 2) (tVar 1))) (tB (tCall spLLets [] E0 (tCons (tVar 3) (tCons (tVar 1) tNil))))) (g := gTup K 2 (gCons (gName 2) (gCons (gName 3) gNil))) (vs := [2, 3]) (σ := start ["_law_plan_so", "_law_up_so", "_law_tag", "_law_lots_so"] [v, x]) (H := H) (src_map pairD (src_tup (K := K) (te := tVar 0) (ds := b.map pairD) (ev_vt (i := 0) (v := v) rfl hv))) (fun p => letsM b up p.1) (fun p => .str p.1) (by omega) fun p hp y H1 e hy C c => by
      have bE : letsM b up p.1 = (!decide (p.1 ∈ up) && metN p.2 up) := by unfold letsM letsN metN; rw [needs_at hb.ok.nd hp]
      refine pair_go hy fun y1 z t1 t2 => ?_
      rw [tt_str t1]
      refine c [some v, some x, some (.str p.1), some z] _ (Same.refl _) rfl ?_ fun _ => (ev_var (i := 2) (v := .str p.1) rfl).tstr
      rw [bE]
      exact et_and (et_test (ev_nin (K := K) (us := up) (ev_var (i := 2) (v := .str p.1) rfl) (ev_vt (i := 1) (v := x) rfl (hx.same e)).seqT)) fun _ => et_B (ev_kn (ea_two (mono_t (needsD p.2)) (ev_vt (i := 3) (v := z) rfl t2) (ev_vt (i := 1) (v := x) (d := strsD up) rfl (hx.same e))) (p.2, up) (fun vs H6 _ ⟨v, w, h1, h2, h3⟩ => ⟨v, w, h1, h2, h3, hb.needs hp⟩) fun v H6 _ h => h)
    rw [show (b.filter fun p => letsM b up p.1).map (fun p => PyData.str p.1) = ((unitsM b).filter fun u => letsM b up u).map PyData.str from by
      unfold unitsM
      rw [List.filter_map, List.map_map]; rfl] at key
    exact s_ret key q
end
end Up
end
section
set_option Elab.async false
set_option linter.all false
set_option maxRecDepth 100000
set_option maxHeartbeats 4000000
/-! Standing sets by their size. -/
namespace Up
open PySem PySem.Spec PyProof.Rows L2
noncomputable def canon (us : List Str) : List Str := Classical.choose (can_ex us)
theorem canon_can (us : List Str) : Can (canon us) us := Classical.choose_spec (can_ex us)
theorem can_len {t us : List Str} (h : Can t us) (nd : us.Nodup) : t.length = us.length := by
  have h1 := nodup_len (asc_nodup h.1) fun x hx => (h.2 x).mp hx
  have h2 := nodup_len nd fun x hx => (h.2 x).mpr hx
  omega
/-- all standing sets of a size -/
def Lev (b : SBk) (i : Nat) (fs : List (List Str)) : Prop := ∀ k, k ∈ fs ↔ Asc k ∧ Stand b k ∧ k.length = i
theorem lev_zero (b : SBk) : Lev b 0 [[]] := fun k => by
  rw [List.mem_singleton]
  constructor
  · rintro rfl
    exact ⟨List.Pairwise.nil, Stand.nil b, rfl⟩
  · rintro ⟨_, _, h⟩
    exact List.length_eq_zero_iff.mp h
theorem snoc_nodup {k : List Str} {u : Str} (h : k.Nodup) (n : u ∉ k) : (k ++ [u]).Nodup := List.nodup_append.mpr ⟨h, List.pairwise_singleton _ _, fun a ha b hb e => n (by rw [List.mem_singleton.mp hb] at e; rw [← e]; exact ha)⟩
theorem lev_next {b : SBk} {i : Nat} {fs gs : List (List Str)} (h : Lev b i fs) (hg : ∀ k, k ∈ gs ↔ ∃ up ∈ fs, ∃ u, letsM b up u = true ∧ k = canon (up ++ [u])) : Lev b (i + 1) gs := fun k => by
  rw [hg]
  constructor
  · rintro ⟨up, hup, u, hl, rfl⟩
    obtain ⟨h1, h2, h3⟩ := (h up).mp hup
    have c := canon_can (up ++ [u])
    refine ⟨c.1, (h2.step hl).same fun x => (c.2 x).symm, ?_⟩
    rw [can_len c (snoc_nodup (asc_nodup h1) (lets_iff.mp hl).1), List.length_append, List.length_singleton, h3]
  · rintro ⟨h1, ⟨r, hr, hs⟩, h3⟩
    cases hr with
    | nil =>
      have : k = [] := List.eq_nil_iff_forall_not_mem.mpr fun x hx => by have := (hs x).mpr hx; cases this
      rw [this] at h3
      cases h3
    | @snoc r u hr hl =>
      have c := canon_can r
      have nd := hr.nodup
      have nd2 := snoc_nodup nd (lets_iff.mp hl).1
      have ck : Can k (r ++ [u]) := ⟨h1, fun x => (hs x).symm⟩
      have lr : r.length = i := by
        have := can_len ck nd2
        rw [List.length_append, List.length_singleton] at this
        omega
      refine ⟨canon r, (h _).mpr ⟨c.1, ⟨r, hr, fun x => (c.2 x).symm⟩, by rw [can_len c nd, lr]⟩, u, ?_, can_uniq ck ⟨(canon_can _).1, fun x => ?_⟩⟩
      · rw [lets_same (s := r) fun x => c.2 x]; exact hl
      · rw [(canon_can _).2 x, List.mem_append, List.mem_append, c.2 x]
/-- which further units: few -/
theorem next_few {b : SBk} {up : List Str} (nd : (unitsM b).Nodup) (ha : Asc up) (hs : Stand b up) : ((unitsM b).filter fun u => letsM b up u).length + up.length ≤ (unitsM b).length := by
  have h1 : (up ++ (unitsM b).filter fun u => letsM b up u).Nodup := List.nodup_append.mpr ⟨asc_nodup ha, nd.filter _, fun x hx y hy e => (lets_iff.mp (List.mem_filter.mp hy).2).1 (e ▸ hx)⟩
  have h2 := nodup_len h1 fun x hx => (List.mem_append.mp hx).elim (hs.units x) fun h => (List.mem_filter.mp h).1
  rw [List.length_append] at h2
  omega
theorem eqv_nilD (ds : List PyData) : PyData.eqv (.list ds) (.list []) = decide (ds = []) := by
  rw [PyData.eqv]
  cases ds with
  | nil => simp [PyData.eqvAll]
  | cons u us => simp [PyData.eqvAll]
theorem shaped_all {ds : List PyData} (h : ∀ d ∈ ds, d.canLay0 = true ∧ d.depth ≤ 60) : SeqAt.shaped (.list ds) = true ∧ SeqAt.shaped (.tuple ds) = true := by
  have k : PyData.canLayAll0 ds = true ∧ PyData.depthAll ds ≤ 60 := by
    induction ds with
    | nil => simp [PyData.canLayAll0, PyData.depthAll]
    | cons d ds ih =>
      obtain ⟨a, b⟩ := ih fun d hd => h d (List.mem_cons_of_mem _ hd)
      obtain ⟨c, e⟩ := h d List.mem_cons_self
      rw [PyData.canLayAll0, PyData.depthAll, a, c]
      exact ⟨rfl, by omega⟩
  unfold SeqAt.shaped
  rw [PyData.canLay0, PyData.canLay0, PyData.depth, PyData.depth, k.1]
  simp only [Bool.true_and, decide_eq_true_iff]
  omega
theorem lay_strsD {us : List Str} (h : ∀ u ∈ us, PyData.strOk u = true) : (strsD us).canLay0 = true ∧ (strsD us).depth ≤ 60 := by
  refine ⟨?_, Nat.le_trans (depth_strsD us) (by decide)⟩
  show (PyData.tuple _).canLay0 = true
  rw [PyData.canLay0]
  exact lay_strs us h
end Up
end
section
set_option Elab.async false
set_option linter.all false
set_option maxRecDepth 100000
set_option maxHeartbeats 4000000
/-! _law_stands. -/
namespace Up
open PySem PySem.Spec PyProof.Rows L2
section
variable {X : Cx} {K : PySem.W.Frag}
theorem q_par2 {σ : L2.St} {H : Hp} {D : Ends} {ta tb : TE} {tz : TS} {i j : Nat} {P1 P2 : V → Hp → Prop} (m1 : Mono P1) (h1 : Ev ta σ H P1) (h2 : Ev tb σ H P2) (k : ∀ x y H1, Same H H1 → P1 x H1 → P2 y H1 → tz D ((σ.set i (some x)).set j (some y)) H1) : tSeq (tPar i j (tCons ta (tCons tb tNil))) tz D σ H :=
  ea_two m1 h1 h2 H (Same.refl H) (fun vs H1 => ∃ v w, vs = [v, w] ∧ tz D ((σ.set i (some v)).set j (some w)) H1) fun vs H1 e ⟨x, y, hv, px, py⟩ => ⟨x, y, hv, k x y H1 e px py⟩
theorem op_catAK (h : X.K = K) : OpR X (binaryOp .Add) (rCatA K) := by subst h; exact op_catA
end
section
variable {P : Program} {w : World} {K : PySem.W.Frag} {mg : Str → Option Value} {base : Heap}
def spLStands : Sp := SpD (α := SBk) (fun b vs H => ∃ v, vs = [v] ∧ Tt H v (bookD b) ∧ LBk b ∧ b.length ≤ 4) (fun b v H => ∃ es : List (List Str), IsL (es.map strsD) v H ∧ es.length ≤ 1000 ∧ ∀ k, k ∈ es ↔ Asc k ∧ Stand b k)
theorem k_lstands (T : Txt K mg) : Kn P w K mg base CX0 3 "_law_stands" spLStands := by
  have G := k_lnext (P := P) (w := w) (base := base) T
  refine T.d_law_stands.kn c_law_stands (fun vs H Q E h => ?_) (fun f cdv A outer s H vs Q E hr h => ?_)
  · obtain ⟨a, ⟨v, rfl, _⟩, _⟩ := h
    rfl
  · obtain ⟨b, ⟨v, rfl, hv, hb, h4⟩, q⟩ := h
    simp only at hv hb h4 q
    refine ⟨_, pss_cons (ps_par (i := 1) (j := 2) (by rfl) c_law_stands.nd rfl rfl (by decide) rfl rfl (pa_cons (pe_lst (pa_cons (pe_tup pa_nil) pa_nil)) (pa_cons (pe_lst (pa_cons (pe_tup pa_nil) pa_nil)) pa_nil)) (by rfl))
      (pss_cons (ps_while PassesOwn.never (pt_cmpR (op_neD hr.units) (pv 2) (pe_lst pa_nil) (by rfl))
        (pss_cons (ps_asg (pe_lst pa_nil) (pgn 3 c_law_stands.nd))
        (pss_cons (ps_for PassesOwn.never (by rfl) (pi_list (pv 2)) (pgn 4 c_law_stands.nd)
          (pss_one (ps_asg (pe_op op_cat (pv 3) (pe_lc (own := [("_law_tag", 5)]) (g := gName 5) (by rfl) c_law_stands.nd (pi_list (pe_kn G hr pass0 (pa_cons (pv 0) (pa_cons (pv 4) pa_nil)))) (blkOk_by (N := ["_law_plan_so", "_law_found", "_law_fresh", "_law_later_here", "_law_up_so", "_law_tag"]) (sc := defScope s_law_stands) (by decide +kernel)) (fun _ _ _ _ _ => pgn 5 c_law_stands.nd)
            (fun _ _ _ _ _ => pts_nil) (fun _ _ _ _ _ => pe_callTy (cr_tupK (K := K) (by rfl)) (by rfl) T.b_tuple (by decide +kernel) (pa_cons (pe_callB (cr_sortQ hr.units) (by rfl) T.b_sorted (by decide +kernel) (pa_cons (pe_op (op_catAK (K := K) (by rfl)) (pv 4) (pe_tup (pa_cons (pv 5) pa_nil))) pa_nil)) pa_nil)))) (pgn 3 c_law_stands.nd))))
        (pss_cons (ps_asg (pe_sortSet (setKT _ _) strsD is_tup sortD_tups (by rfl) hr.units (by rfl) T.b_sorted (by rfl) T.b_set (by decide +kernel) (by decide +kernel) (pv 3)) (pgn 2 c_law_stands.nd))
        (pss_one (ps_asg (pe_op op_cat (pv 1) (pv 2)) (pgn 1 c_law_stands.nd)))))))
      (pss_one (ps_ret (pe_callB (cr_sortQ hr.units) (by rfl) T.b_sorted (by decide +kernel) (pa_cons (pv 1) pa_nil))))), ?_⟩
    have ulen : (unitsM b).length = b.length := by unfold unitsM; rw [List.length_map]
    have nd := hb.ok.nd
    have oneE : ∀ σ : L2.St, Ev (tLst (tCons (tTup tNil) tNil)) σ H (IsL ([[]].map strsD)) := fun σ => ev_lst (ts_cons (ev_tup (ds := []) ts_nil (Nat.zero_le _)) ts_nil) (by decide)
    refine q_par2 (mono_l _) (oneE _) (oneE _) fun fv gv H1 e1 hfv hgv => ?_
    refine s_while (fun m σ' H' => ∃ (es fs : List (List Str)) (fv gv : V) (l3 l4 l5 : Option V) (i : Nat), σ' = [some v, some fv, some gv, l3, l4, l5] ∧ Same H H' ∧ IsL (es.map strsD) fv H' ∧ IsL (fs.map strsD) gv H' ∧ Lev b i fs ∧ fs.Nodup ∧ (∀ k, k ∈ es ↔ Asc k ∧ Stand b k ∧ k.length ≤ i) ∧ es.length ≤ 16 * (i + 1) ∧ i ≤ 5 ∧ m = 6 - i) _
      ⟨[[]], [[]], fv, gv, none, none, none, 0, rfl, e1, hfv, hgv, lev_zero b, by simp, fun k => ?_, by decide, by decide, rfl⟩ ?_
    · rw [lev_zero b k]
      exact ⟨fun ⟨h1, h2, h3⟩ => ⟨h1, h2, by omega⟩, fun ⟨h1, h2, h3⟩ => ⟨h1, h2, by omega⟩⟩
    rintro m σ' H' ⟨es, fs, fv, gv, l3, l4, l5, i, rfl, sH, hfv, hgv, lev, fnd, esm, eln, i5, rfl⟩
    have fstr : ∀ k ∈ fs, ∀ u ∈ k, PyData.strOk u = true := fun k hk u hu => hb.ok.txt u (((lev k).mp hk).2.1.units u hu)
    have flen : fs.length ≤ 16 := Nat.le_trans (few_asc (U := unitsM b) fnd fun k hk => ⟨((lev k).mp hk).1, ((lev k).mp hk).2.1.units⟩) ((Nat.pow_le_pow_right (n := 2) (j := 4) (by decide) (by omega) : 2 ^ (unitsM b).length ≤ 2 ^ 4))
    have neE := ev_neD (K := K) (mono_l _) (ev_vp (i := 2) (v := gv) (σ := [some v, some fv, some gv, l3, l4, l5]) (H := H') (P := IsL (fs.map strsD)) rfl (mono_l _) hgv) (ev_lst (ds := []) ts_nil (Nat.zero_le _)) (fun v H1 h => h.dp) (fun v H1 h => h.dp)
      (shaped_all fun d hd => by obtain ⟨k, hk, rfl⟩ := List.mem_map.mp hd; exact lay_strsD (fstr k hk)).1 (shaped_all fun d hd => by cases hd).1
    rw [eqv_nilD] at neE
    refine ⟨_, et_test neE, fun hn H2 e2 => ?_, fun hn H2 e2 => ?_⟩
    · have fne : fs ≠ [] := by simpa using hn
      obtain ⟨k0, hk0⟩ := List.exists_mem_of_ne_nil fs fne
      have i4 : i ≤ 4 := by
        obtain ⟨h1, h2, h3⟩ := (lev k0).mp hk0
        have := nodup_len (asc_nodup h1) h2.units
        omega
      have s2 := sH.trans e2
      refine q_set (i := 3) (P := IsL (([] : List (List Str)).map strsD)) (ev_lst ts_nil (Nat.zero_le _)) fun lv H3 e3 hlv => ?_
      have s3 := s2.trans e3
      refine s_for (srcM_map strsD (srcM_lst (K := K) (te := tVar 2) (σ := [some v, some fv, some gv, some lv, l4, l5]) (ds := fs.map strsD) (ev_vp (i := 2) (v := gv) rfl (mono_l _) (hgv.same (e2.trans e3))))) (fun HL j σ' H' => ∃ (ls : List (List Str)) (lv : V) (l4 l5 : Option V), σ' = [some v, some fv, some gv, some lv, l4, l5] ∧ Same HL H' ∧ IsL (ls.map strsD) lv H' ∧
        (∀ k, k ∈ ls ↔ ∃ up ∈ fs.take j, ∃ u, letsM b up u = true ∧ k = canon (up ++ [u])) ∧ ls.length ≤ (4 - i) * j) (fun HL eL => ⟨[], lv, l4, l5, rfl, Same.refl _, hlv.same eL, fun k => by rw [List.take_zero]; simp, Nat.zero_le _⟩) (fun HL j σ' H' ⟨_, _, _, _, _, t, _⟩ => lex_same t) ?_ ?_
      · rintro HL eL j up y σ' H4 H5 hbj ⟨ls, lv, l4, l5, rfl, sL, hlv, lm, ll⟩ e5 hy
        have hup := List.mem_of_getElem? hbj
        obtain ⟨u1, u2, u3⟩ := (lev up).mp hup
        have jl : j < fs.length := (List.getElem?_eq_some_iff.mp hbj).1
        have few := next_few nd u1 u2
        have s5 : Same H H5 := s3.trans ((eL.trans sL).trans e5)
        have nextE := (ev_kn (ea_two (mono_t (bookD b)) (ev_vt (i := 0) (v := v) rfl (hv.same s5)) (ev_vt (i := 4) (v := y) (d := strsD up) rfl hy)) (b, up) (fun vs H6 _ ⟨v, w, h1, h2, h3⟩ => ⟨v, w, h1, h2, hb, h3⟩) (fun v H6 _ h => h) : Ev (tCall spLNext [] E0 (tCons (tVar 0) (tCons (tVar 4) tNil))) [some v, some fv, some gv, some lv, some y, l5] H5 (IsL (((unitsM b).filter fun u => letsM b up u).map PyData.str)))
        have lcE := ev_lc (te := tCB (rTupOf K) (tCons (tCB rSortQ (tCons (tOp (rCatA K) (tVar 4) (tTup (tCons (tVar 5) tNil))) tNil)) tNil)) (tt := tYes) (g := gName 5) (vs := [5]) (src_strsL (K := K) nextE) (fun _ => true) (fun u => strsD (canon (up ++ [u]))) (by omega) fun u hu z H6 e6 hz C c => by
          subst hz
          have hl := (List.mem_filter.mp hu).2
          refine c [some v, some fv, some gv, some lv, some y, some (.str u)] _ (Same.refl _) rfl et_yes fun _ => ?_
          have catE := ev_catT (K := K) (ev_vt (i := 4) (v := y) (d := strsD up) (σ := [some v, some fv, some gv, some lv, some y, some (.str u)]) (H := H6) rfl (hy.same e6)) (ev_tup (ts_cons (ev_var (i := 5) (v := .str u) rfl).tstr ts_nil) (by show 1 ≤ 100000; decide)) (by rw [List.length_map]; show up.length + 1 ≤ 100000; omega)
          rw [show up.map PyData.str ++ [PyData.str u] = (up ++ [u]).map PyData.str from by rw [List.map_append]; rfl] at catE
          have nd1 := snoc_nodup (asc_nodup u1) (lets_iff.mp hl).1
          have sE := ev_sortTS catE nd1 (by rw [List.length_append, List.length_singleton]; omega)
          refine ev_tupL (sE.imp fun v H' _ ⟨ys, h1, h2, h3⟩ => ?_)
          rw [← can_uniq (⟨h2, fun x => h3.mem_iff⟩ : Can ys (up ++ [u])) (canon_can _)]
          exact h1
        rw [filter_yes] at lcE
        refine name_go (s_set (ev_catL (ds := ls.map strsD) (ev_vp (i := 3) (v := lv) rfl (mono_l _) (hlv.same e5)) lcE ?_) fun nv H6 e6 hnv => ?_)
        · rw [List.length_map, List.length_map]
          have : (4 - i) * j ≤ 4 * 16 := Nat.mul_le_mul (by omega) (by omega)
          omega
        · refine ⟨ls ++ ((unitsM b).filter fun u => letsM b up u).map fun u => canon (up ++ [u]), nv, _, _, rfl, (sL.trans e5).trans e6, by rw [List.map_append, List.map_map]; exact hnv, fun k => ?_, ?_⟩
          · rw [List.mem_append, lm, take_more hbj, List.mem_map]
            constructor
            · rintro (⟨up', h1, h2⟩ | ⟨u, h1, h2⟩)
              · exact ⟨up', List.mem_append_left _ h1, h2⟩
              · exact ⟨up, by simp, u, (List.mem_filter.mp h1).2, h2.symm⟩
            · rintro ⟨up', h1, u, h2, h3⟩
              rcases List.mem_append.mp h1 with h | h
              · exact .inl ⟨up', h, u, h2, h3⟩
              · rw [List.mem_singleton.mp h] at h2 h3
                exact .inr ⟨u, List.mem_filter.mpr ⟨lets_unit h2, h2⟩, h3.symm⟩
          · rw [List.length_append, List.length_map, Nat.mul_succ]
            have : ((unitsM b).filter fun u => letsM b up u).length ≤ 4 - i := by omega
            omega
      · rintro HL eL σ' H4 ⟨ls, lv, l4, l5, rfl, sL, hlv, lm, ll⟩
        rw [List.take_length] at lm
        have few : ls.length < 64 := by
          by_cases i0 : i = 0
          · subst i0
            have : fs.length ≤ 1 := nodup_len (D := [[]]) fnd fun k hk => by
              rw [List.mem_singleton]; exact List.length_eq_zero_iff.mp ((lev k).mp hk).2.2
            have : (4 - 0) * fs.length ≤ 4 * 1 := Nat.mul_le_mul (by omega) this
            omega
          · have : (4 - i) * fs.length ≤ 3 * 16 := Nat.mul_le_mul (by omega) flen
            omega
        have s4 : Same H H4 := s3.trans (eL.trans sL)
        refine q_set (ev_sortSetT (te := tVar 3) (ts := ls) (σ := [some v, some fv, some gv, some lv, l4, l5]) (ev_vp (i := 3) (v := lv) rfl (mono_l _) hlv) few) fun gv' H5 e5 ⟨gs, hgs, gnd, gm⟩ => ?_
        have lev' : Lev b (i + 1) gs := lev_next lev fun k => (gm k).trans (lm k)
        have s5 := s4.trans e5
        have glen : gs.length ≤ 16 := Nat.le_trans (few_asc (U := unitsM b) gnd fun k hk => ⟨((lev' k).mp hk).1, ((lev' k).mp hk).2.1.units⟩) ((Nat.pow_le_pow_right (n := 2) (j := 4) (by decide) (by omega) : 2 ^ (unitsM b).length ≤ 2 ^ 4))
        refine s_set (ev_catL (ds := es.map strsD) (es := gs.map strsD) (ev_vp (i := 1) (v := fv) rfl (mono_l _) (hfv.same (((e2.trans e3).trans (eL.trans sL)).trans e5))) (ev_vp (i := 2) (v := gv') rfl (mono_l _) hgs) ?_) fun nv H6 e6 hnv => ?_
        · rw [List.length_map, List.length_map]
          have : 16 * (i + 1) ≤ 16 * 6 := Nat.mul_le_mul (Nat.le_refl _) (by omega)
          omega
        · refine ⟨6 - (i + 1), by omega, es ++ gs, gs, nv, gv', _, _, _, i + 1, rfl, s5.trans e6, by rw [List.map_append]; exact hnv, hgs.same e6, lev', gnd, fun k => ?_, ?_, by omega, rfl⟩
          · rw [List.mem_append, esm, lev' k]
            constructor
            · rintro (⟨h1, h2, h3⟩ | ⟨h1, h2, h3⟩)
              · exact ⟨h1, h2, by omega⟩
              · exact ⟨h1, h2, by omega⟩
            · rintro ⟨h1, h2, h3⟩
              by_cases h : k.length ≤ i
              · exact .inl ⟨h1, h2, h⟩
              · exact .inr ⟨h1, h2, by omega⟩
          · rw [List.length_append]; omega
    · have fe : fs = [] := by simpa using hn
      have sml : ∀ k, Asc k → Stand b k → k.length ≤ i := fun k h1 h2 => by
        obtain ⟨r, hr, hs⟩ := h2
        have h3 : Can k r := ⟨h1, fun x => (hs x).symm⟩
        have h4 := can_len h3 hr.nodup
        by_cases hi : k.length ≤ i
        · exact hi
        · exfalso
          have hr2 := take_row hr i
          have c := canon_can (r.take i)
          have : canon (r.take i) ∈ fs := (lev _).mpr ⟨c.1, ⟨_, hr2, fun x => (c.2 x).symm⟩, by rw [can_len c hr2.nodup, List.length_take]; omega⟩
          rw [fe] at this
          cases this
      show tRet (tCB rSortQ (tCons (tVar 1) tNil)) { nx := fun _ H' => Q .non H', rt := Q } [some v, some fv, some gv, l3, l4, l5] H2
      refine s_ret (ev_sortL (te := tVar 1) (ds := es.map strsD) (ev_vp (i := 1) (v := fv) rfl (mono_l _) (hfv.same e2)) (sortD_tups es ?_)) fun rv H3 e3 ⟨M, h1, pm, _⟩ => ?_
      · have : 16 * (i + 1) ≤ 16 * 6 := Nat.mul_le_mul (Nat.le_refl _) (by omega)
        omega
      · obtain ⟨es', p2, e⟩ := perm_back strsD pm rfl
        refine q rv H3 ((sH.trans e2).trans e3) ⟨es', by rw [e]; exact h1, ?_, fun k => ?_⟩
        · rw [p2.length_eq]
          have : 16 * (i + 1) ≤ 16 * 6 := Nat.mul_le_mul (Nat.le_refl _) (by omega)
          omega
        · rw [p2.mem_iff, esm]
          exact ⟨fun ⟨h1, h2, _⟩ => ⟨h1, h2⟩, fun ⟨h1, h2⟩ => ⟨h1, h2, sml k h1 h2⟩⟩
end
end Up
end
section
set_option Elab.async false
set_option linter.all false
set_option maxRecDepth 100000
set_option maxHeartbeats 4000000
/-! The clock, half way. -/
namespace Up
open PySem PySem.Spec PyProof.Rows L2
structure Going (b : SBk) (d : Str → Int) (l D : List (Str × Int)) (n : Nat) : Prop where
  row : Row b (l.map (·.1))
  rise : ∀ i j, i ≤ j → j ≤ l.length → tAt l i ≤ tAt l j
  nd : (D.map (·.1)).Nodup
  frm : ∀ p ∈ D, ∃ i, i ≤ l.length ∧ letsM b (upTo l i) p.1 = true ∧ p.2 = tAt l i + d p.1
  inl : ∀ p ∈ D, p.1 ∈ l.map (·.1) → p ∈ l
  sub : ∀ p ∈ l, p ∈ D
  late : ∀ p ∈ D, p.1 ∉ l.map (·.1) → tAt l l.length ≤ p.2
  ends : ∀ i, i < n → ∀ u, letsM b (upTo l i) u = true → ∃ t, (u, t) ∈ D ∧ t ≤ tAt l i + d u
theorem going_zero (b : SBk) (d : Str → Int) : Going b d [] [] 0 := by
  refine ⟨.nil, fun i j h1 h2 => ?_, List.nodup_nil, (fun p hp => by cases hp), (fun p hp => by cases hp), (fun p hp => by cases hp), (fun p hp => by cases hp), (fun i hi => by omega)⟩
  have e1 : j = 0 := Nat.le_zero.mp h2
  have e2 : i = 0 := by omega
  rw [e1, e2]; exact Int.le_refl _
theorem Going.put {b : SBk} {d : Str → Int} {l D : List (Str × Int)} {n : Nat} (g : Going b d l D n) {u : Str} (hl : letsM b (l.map (·.1)) u = true) (hu : u ∉ D.map (·.1)) (hd : 0 ≤ d u) : Going b d l (D ++ [(u, tAt l l.length + d u)]) n := by
  have hn : u ∉ l.map (·.1) := (lets_iff.mp hl).1
  refine ⟨g.row, g.rise, ?_, fun p hp => ?_, fun p hp hm => ?_, fun p hp => List.mem_append_left _ (g.sub p hp), fun p hp hm => ?_, fun i hi v hv => ?_⟩
  · rw [List.map_append]
    exact snoc_nodup g.nd hu
  · rcases List.mem_append.mp hp with h | h
    · exact g.frm p h
    · rw [List.mem_singleton.mp h]
      exact ⟨l.length, Nat.le_refl _, by rw [upTo_full]; exact hl, rfl⟩
  · rcases List.mem_append.mp hp with h | h
    · exact g.inl p h hm
    · rw [List.mem_singleton.mp h] at hm
      exact absurd hm hn
  · rcases List.mem_append.mp hp with h | h
    · exact g.late p h hm
    · rw [List.mem_singleton.mp h]
      show tAt l l.length ≤ tAt l l.length + d u
      omega
  · obtain ⟨t, h1, h2⟩ := g.ends i hi v hv
    exact ⟨t, List.mem_append_left _ h1, h2⟩
theorem Going.all {b : SBk} {d : Str → Int} {l D : List (Str × Int)} (g : Going b d l D l.length) (h : ∀ u, letsM b (l.map (·.1)) u = true → u ∈ D.map (·.1)) : Going b d l D (l.length + 1) := by
  refine ⟨g.row, g.rise, g.nd, g.frm, g.inl, g.sub, g.late, fun i hi u hu => ?_⟩
  by_cases hi' : i < l.length
  · exact g.ends i hi' u hu
  · have e : i = l.length := by omega
    subst e
    rw [upTo_full] at hu
    obtain ⟨p, hp, rfl⟩ := List.mem_map.mp (h u hu)
    obtain ⟨j, hj, _, ht⟩ := g.frm p hp
    refine ⟨p.2, hp, ?_⟩
    have := g.rise j l.length hj (Nat.le_refl _)
    omega
theorem upTo_app {l : List (Str × Int)} {p : Str × Int} {i : Nat} (h : i ≤ l.length) : upTo (l ++ [p]) i = upTo l i := by
  unfold upTo
  rw [List.take_append_of_le_length h]
theorem tAt_app {l : List (Str × Int)} {p : Str × Int} {i : Nat} (h : i ≤ l.length) : tAt (l ++ [p]) i = tAt l i := by
  cases i with
  | zero => rfl
  | succ i =>
    unfold tAt
    simp only
    rw [List.getElem?_append_left (by omega)]
theorem tAt_last (l : List (Str × Int)) (p : Str × Int) : tAt (l ++ [p]) (l.length + 1) = p.2 := tAt_succ (by rw [List.getElem?_append_right (Nat.le_refl _), Nat.sub_self]; rfl)
theorem Going.next {b : SBk} {d : Str → Int} {l D : List (Str × Int)} (g : Going b d l D (l.length + 1)) {p : Str × Int} (hp : p ∈ D) (hn : p.1 ∉ l.map (·.1)) (hm : ∀ q ∈ D, q.1 ∉ l.map (·.1) → p.2 ≤ q.2) : Going b d (l ++ [p]) D (l.length + 1) := by
  have len : (l ++ [p]).length = l.length + 1 := by rw [List.length_append, List.length_singleton]
  have mapE : (l ++ [p]).map (·.1) = l.map (·.1) ++ [p.1] := by rw [List.map_append]; rfl
  refine ⟨?_, fun i j h1 h2 => ?_, g.nd, fun q hq => ?_, fun q hq hm' => ?_, fun q hq => ?_, fun q hq hm' => ?_, fun i hi u hu => ?_⟩
  · rw [mapE]
    refine .snoc g.row ?_
    obtain ⟨i, hi, hl, _⟩ := g.frm p hp
    refine lets_mono hl (fun x hx => ?_) hn
    obtain ⟨y, hy, rfl⟩ := List.mem_map.mp hx
    exact List.mem_map.mpr ⟨y, List.mem_of_mem_take hy, rfl⟩
  · rw [len] at h2
    by_cases hj : j ≤ l.length
    · rw [tAt_app hj, tAt_app (by omega)]; exact g.rise i j h1 hj
    · have e : j = l.length + 1 := by omega
      subst e
      rw [tAt_last]
      by_cases hi : i ≤ l.length
      · rw [tAt_app hi]
        have h3 := g.rise i l.length hi (Nat.le_refl _)
        have h4 := g.late p hp hn
        omega
      · have e : i = l.length + 1 := by omega
        subst e
        rw [tAt_last]; exact Int.le_refl _
  · obtain ⟨i, hi, hl, ht⟩ := g.frm q hq
    exact ⟨i, by omega, by rw [upTo_app hi]; exact hl, by rw [tAt_app hi]; exact ht⟩
  · rw [mapE] at hm'
    rcases List.mem_append.mp hm' with h | h
    · exact List.mem_append_left _ (g.inl q hq h)
    · have e : q.1 = p.1 := List.mem_singleton.mp h
      have : q = p := by
        have nd := g.nd
        have key : ∀ (D : List (Str × Int)), (D.map (·.1)).Nodup → q ∈ D → p ∈ D → q = p := fun D => by
          induction D with
          | nil => intro _ h; cases h
          | cons z D ih =>
            intro nd h1 h2
            obtain ⟨n1, n2⟩ := List.nodup_cons.mp (show (z.1 :: D.map (·.1)).Nodup from nd)
            rcases List.mem_cons.mp h1 with rfl | h1
            · rcases List.mem_cons.mp h2 with rfl | h2
              · rfl
              · exact absurd (List.mem_map.mpr ⟨p, h2, e.symm⟩) n1
            · rcases List.mem_cons.mp h2 with z2 | h2
              · exact absurd (List.mem_map.mpr ⟨q, h1, e.trans (congrArg Prod.fst z2)⟩) n1
              · exact ih n2 h1 h2
        exact key D nd hq hp
      rw [this]; simp
  · rcases List.mem_append.mp hq with h | h
    · exact g.sub q h
    · rw [List.mem_singleton.mp h]; exact hp
  · rw [len, tAt_last]
    refine hm q hq fun h => hm' ?_
    rw [mapE]; exact List.mem_append_left _ h
  · rw [upTo_app (by omega)] at hu
    rw [tAt_app (by omega)]
    exact g.ends i hi u hu
theorem Going.clock {b : SBk} {d : Str → Int} {l D : List (Str × Int)} (g : Going b d l D (l.length + 1)) (h : ∀ p ∈ D, p.1 ∈ l.map (·.1)) : Clock b d l :=
  ⟨g.row, g.rise, fun p hp => g.frm p (g.sub p hp), fun i hi u hu => let ⟨t, h1, h2⟩ := g.ends i (by omega) u hu; ⟨t, g.inl _ h1 (h _ h1), h2⟩⟩
/-! rows in order -/
theorem row_le {p q : Int × Str} (h : PySem.W.dataLt (rowD q) (rowD p) = false) : p.1 ≤ q.1 := by
  by_cases hlt : q.1 < p.1
  · exfalso
    have a := PySem.W.dataLt_tuple [.int q.1, .str q.2] [.int p.1, .str p.2]
    rw [PySem.W.dataLt_all_no (by simp [PySem.W.alike]) (by simp [PyData.eqv]; omega), PySem.W.dataLt_int] at a
    have h' : PySem.W.dataLt (.tuple [.int q.1, .str q.2]) (.tuple [.int p.1, .str p.2]) = false := h
    rw [a] at h'
    simp at h'
    omega
  · omega
end Up
end
section
set_option Elab.async false
set_option linter.all false
set_option maxRecDepth 100000
set_option maxHeartbeats 4000000
/-! _law_clock. -/
namespace Up
open PySem PySem.Spec PyProof.Rows L2
def kvD (D : List (Str × Int)) : List (Key × V) := D.map fun p => ((.inr p.1 : Key), V.int p.2)
theorem kvD_keys (D : List (Str × Int)) : (kvD D).map (·.1) = (D.map (·.1)).map Sum.inr := by unfold kvD; rw [List.map_map, List.map_map]; rfl
theorem kvD_val {D : List (Str × Int)} (nd : (D.map (·.1)).Nodup) {p : Str × Int} (h : p ∈ D) : valV (kvD D) (.inr p.1) = some (.int p.2) := by
  induction D with
  | nil => cases h
  | cons q D ih =>
    obtain ⟨n1, n2⟩ := List.nodup_cons.mp (show (q.1 :: D.map (·.1)).Nodup from nd)
    rcases List.mem_cons.mp h with rfl | h
    · exact valV_pos (p := ((Sum.inr p.1 : Key), V.int p.2)) rfl
    · have hn : q.1 ≠ p.1 := fun e => n1 (by rw [e]; exact List.mem_map.mpr ⟨p, h, rfl⟩)
      show valV (((Sum.inr q.1 : Key), V.int q.2) :: kvD D) (.inr p.1) = _
      rw [valV_neg (p := ((Sum.inr q.1 : Key), V.int q.2)) (fun e => hn (Sum.inr.inj e))]
      exact ih n2 h
theorem SrcM.s {M : Hp → Hp → Prop} {β : Type} {wi : TI} {σ : L2.St} {H : Hp} {bs : List β} {R : β → V → Hp → Prop} (h : SrcM M wi σ H bs R) (hM : ∀ H2 H3, Same H2 H3 → M H2 H3) : Src wi σ H bs R := fun H0 e C c => h H0 e C fun J H1 G Y e1 w mono g1 yok => c J H1 G Y e1 w (fun H2 H3 s g => mono H2 H3 (hM H2 H3 s) g) g1 yok
section
variable {K : PySem.W.Frag} {σ : L2.St} {H : Hp} {te td tk : TE}
theorem ev_ninK {us : List Str} {u : Str} (hd : Ev td σ H (fun v H' => ∃ g kvs, v = .ref g ∧ H' g = some (.dK kvs) ∧ kvs.map (·.1) = us.map Sum.inr)) (hk : Ev te σ H (fun w _ => w = .str u)) : Ev (tDNotIn te td) σ H (fun v _ => v = .bl (!decide (u ∈ us))) := fun H1 a Q q => hk H1 a _ fun y H2 e2 py => hd H2 (a.trans e2) _ fun x H3 e3 ⟨g, kvs, px, hg, e⟩ => by
  subst py
  refine ⟨g, valV kvs (.inr u), px, DGet.k (k := .inr u) hg, q _ H3 (e2.trans e3) ?_⟩
  by_cases h : u ∈ us
  · obtain ⟨v, h1, _⟩ := valS_some e h
    rw [h1, decide_eq_true h]; rfl
  · rw [valS_none e h, decide_eq_false h]; rfl
theorem ev_getF {g : Addr} {ob : Obj} {kvs : List (Key × V)} {u : Str} {w : V} (hd : Ev td σ H (fun v H' => v = .ref g ∧ H' g = some (.frz ob (.dK kvs)))) (hk : Ev tk σ H (fun w _ => w = .str u)) (hw : valV kvs (.inr u) = some w) : Ev (tDGet td tk) σ H (fun v _ => v = w) := fun H1 a Q q => hd H1 a _ fun x H2 e2 ⟨px, hg⟩ => hk H2 (a.trans e2) _ fun y H3 e3 py => by
  subst py
  exact ⟨g, w, px, .inl ⟨kvs, .inr u, .inr ⟨ob, e3 _ _ hg⟩, rfl, hw.symm⟩, q w H3 (e2.trans e3) rfl⟩
theorem same_upd {H H1 : Hp} (e : Same H H1) (d : Addr) (o : HO) : Same (upd H d o) (upd H1 d o) := fun a x h => by
  by_cases ha : a = d
  · rw [ha, upd_same] at h ⊢; exact h
  · rw [upd_ne ha] at h ⊢; exact e _ _ h
theorem ev_lock {d : Addr} {u : HO} {ds : List PyData} (hd : H d = some u) (mu : Mut (some u)) (h : ∀ od, Ev te σ (upd H d (.frz od u)) (IsL ds)) : Ev (tLockE te) σ H (IsL ds) := fun H1 e Q q => by
  refine ⟨d, u, e _ _ hd, mu, fun od => h od (upd H1 d (.frz od u)) (same_upd e d _) _ fun v H2 e2 ⟨p, xs, hv, hp, t⟩ => ?_⟩
  have hf := e2 _ _ (upd_same (H := H1) (a := d) (o := .frz od u))
  have pd : p ≠ d := ne_of_kinds hp hf (fun z => by cases z)
  refine ⟨hf, q v _ (fun a x ha => ?_) ⟨p, xs, hv, by rw [upd_ne pd]; exact hp, t.tex (tex_frz hf)⟩⟩
  by_cases ad : a = d
  · rw [ad] at ha ⊢; rw [upd_same]; rw [e _ _ hd] at ha; exact ha
  · rw [upd_ne ad]; exact e2 _ _ (by rw [upd_ne ad]; exact ha)
theorem ev_sortN {ds : List PyData} (h : Ev te σ H (IsL ds)) (D : SortD ds) : Ev (tCB rSortQ (tCons te tNil)) σ H (fun v H' => ∃ M : List (V × PyData), IsL (M.map Prod.snd) v H' ∧ (M.map Prod.snd).Perm ds ∧ InOrder M ∧ ∀ p, v = .ref p → H p = none) := ev_cb (ea_one h) fun vs H1 e0 ⟨v, hv, a, xs, e1, ha, t⟩ Q q => by
  subst hv e1
  exact ⟨a, xs, ds, rfl, .inl ha, t, D, fun M p pm o hp => q _ _ (same_new hp) ⟨M, isL_new (tta_perm t pm) hp, snd_perm t pm, o, fun p' e => by cases e; exact e0.free hp⟩⟩
end
theorem sortD_rows (ps : List (Int × Str)) (h : ps.length ≤ 100000) : SortD (ps.map rowD) where
  al := fun d hd d' hd' => by
    obtain ⟨u, _, rfl⟩ := List.mem_map.mp hd
    obtain ⟨v, _, rfl⟩ := List.mem_map.mp hd'
    exact alike_row u v
  ok := .inl fun d hd => by obtain ⟨u, _, rfl⟩ := List.mem_map.mp hd; exact ⟨_, rfl⟩
  few := by rw [List.length_map]; exact h
  dep := fun d hd => by obtain ⟨u, _, rfl⟩ := List.mem_map.mp hd; exact Nat.le_trans (depth_row u) (by decide)
theorem rows_order {M : List (V × PyData)} (o : InOrder M) {ps : List (Int × Str)} (e : M.map Prod.snd = ps.map rowD) : ps.Pairwise fun a b => a.1 ≤ b.1 := by
  have h : (M.map Prod.snd).Pairwise fun a b => PySem.W.dataLt b a = false := List.pairwise_map.mpr o
  rw [e] at h
  exact (List.pairwise_map.mp h).imp fun {a b} h => row_le h
section
variable {P : Program} {w : World} {K : PySem.W.Frag} {mg : Str → Option Value} {base : Heap}
/-- the durations as a dict -/
def Lasts (b : SBk) (d : Str → Int) : V → Hp → Prop := fun v H => ∃ g kvs, v = V.ref g ∧ H g = some (.dK kvs) ∧ ∀ u ∈ unitsM b, valV kvs (.inr u) = some (.int (d u))
theorem mono_lasts (b : SBk) (d : Str → Int) : Mono (Lasts b d) := fun _ _ _ e ⟨g, kvs, h1, h2, h3⟩ => ⟨g, kvs, h1, e _ _ h2, h3⟩
def spClock : Sp := SpD (α := SBk × (Str → Int)) (fun a vs H => ∃ v x, vs = [v, x] ∧ Tt H v (bookD a.1) ∧ LBk a.1 ∧ Lasts a.1 a.2 x H ∧ ∀ u, 0 ≤ a.2 u) (fun a v H => ∃ l, IsL (l.map durD) v H ∧ Clock a.1 a.2 l)
theorem k_lclock (T : Txt K mg) : Kn P w K mg base CX0 3 "_law_clock" spClock := by
  have G := k_lnext (P := P) (w := w) (base := base) T
  refine T.d_law_clock.kn c_law_clock (fun vs H Q E h => ?_) (fun f cdv A outer s H vs Q E hr h => ?_)
  · obtain ⟨a, ⟨v, x, rfl, _⟩, _⟩ := h
    rfl
  · obtain ⟨⟨b, dd⟩, ⟨v, x, rfl, hv, hb, hx, hd⟩, q⟩ := h
    simp only at hv hb hx hd q
    have hun := hu_of hr
    refine ⟨_, pss_cons (ps_asg (pe_tup (pa_cons pe_int (pa_cons (pe_tup pa_nil) (pa_cons pe_dnewK (pa_cons (pe_lst pa_nil) (pa_cons (pe_lst (pa_cons pe_non pa_nil)) pa_nil)))))) (pg_tup (by rfl) (pgs_cons (pgn 2 c_law_clock.nd) (pgs_cons (pgn 3 c_law_clock.nd) (pgs_cons (pgn 4 c_law_clock.nd) (pgs_cons (pgn 5 c_law_clock.nd) (pgs_cons (pgn 6 c_law_clock.nd) pgs_nil)))))))
      (pss_cons (ps_while PassesOwn.never (pt_cmpR (op_neD hr.units) (pv 6) (pe_lst pa_nil) (by rfl))
        (pss_cons (ps_for PassesOwn.never (by rfl) (pi_list (pe_kn G hr pass0 (pa_cons (pv 0) (pa_cons (pv 3) pa_nil)))) (pgn 7 c_law_clock.nd)
          (pss_one (ps_if (pt_cmp (pc_dnotin hun (pv 7) (pv 4))) (pss_one (ps_dput hun (pv 4) (pv 7) (pe_op op_add (pv 2) (pe_dget hun (pv 1) (pv 7) (fun _ _ => rfl))) (by rfl))) pss_nil)))
        (pss_cons (ps_asg (pe_callB (cr_sortQ hr.units) (by rfl) T.b_sorted (by decide +kernel) (pa_cons (pe_lock (pe_lc (own := [("_law_tag", 7)]) (g := gName 7) (by rfl) c_law_clock.nd (pi_keys (pv 4)) (blkOk_by (N := ["_law_plan_so", "_law_lasts_so", "_law_now", "_law_up_so", "_law_due_so", "_law_found", "_law_rest", "_law_tag"]) (sc := defScope s_law_clock) (by decide +kernel)) (fun _ _ _ _ _ => pgn 7 c_law_clock.nd)
            (fun _ _ _ _ _ => pts_one (pt_cmpR (op_ninK (K := K) (by rfl)) (pv 7) (pv 3) (by rfl))) (fun _ _ _ _ _ => pe_tup (pa_cons (pe_dget hun (pv 4) (pv 7) (fun _ _ => rfl)) (pa_cons (pv 7) pa_nil))))) pa_nil)) (pgn 6 c_law_clock.nd))
        (pss_one (ps_if (pt_cmpR (op_neD hr.units) (pv 6) (pe_lst pa_nil) (by rfl))
          (pss_cons (ps_asg (pe_tup (pa_cons (pe_ix ix_tup (pe_ix ix_list (pv 6) pe_int (fun _ _ => rfl)) pe_int (fun _ _ => rfl)) (pa_cons (pe_op op_catA (pv 3) (pe_tup (pa_cons (pe_ix ix_tup (pe_ix ix_list (pv 6) pe_int (fun _ _ => rfl)) pe_int (fun _ _ => rfl)) pa_nil))) pa_nil))) (pg_tup rfl (pgs_cons (pgn 2 c_law_clock.nd) (pgs_cons (pgn 3 c_law_clock.nd) pgs_nil))))
          (pss_one (ps_expr (pe_bm PySem.F.plainAttrs_list PySem.F.slot_list_append PySem.F.type_list_append mt_append (pv 5) (pa_cons (pe_tup (pa_cons (pe_ix ix_tup (pe_ix ix_list (pv 6) pe_int (fun _ _ => rfl)) pe_int (fun _ _ => rfl)) (pa_cons (pv 2) pa_nil))) pa_nil))))) pss_nil)))))
      (pss_one (ps_ret (pv 5)))), ?_⟩
    have ulen : (unitsM b).length = b.length := by unfold unitsM; rw [List.length_map]
    have n16 := hb.ok.n16
    obtain ⟨gx, kx, rfl, hgx, hkx⟩ := id hx
    refine ⟨Nat.zero_le _, fun a ha => fun g hg => ⟨Nat.zero_le _, fun r hr0 => ⟨(by show 1 ≤ sizeLine; decide), fun l0 hl0 => ⟨(by show 5 ≤ sizeLine; decide), fun t ht => ⟨t, [.int 0, .ref a, .ref g, .ref r, .ref l0], rfl, sq_t upd_same, rfl, _, _, rfl, _, _, rfl, _, _, rfl, _, _, rfl, _, _, rfl, rfl, ?_⟩⟩⟩⟩⟩
    have sa : Same H (upd H a (.tup [])) := same_new ha
    have fa : upd H a (.tup []) a = some (.tup []) := upd_same
    have hgN : H g = none := sa.free hg
    generalize upd H a (.tup []) = Ha at *
    have sg : Same Ha (upd Ha g (.dK [])) := same_new hg
    have fg : upd Ha g (.dK []) g = some (.dK []) := upd_same
    have hrN : H r = none := (sa.trans sg).free hr0
    generalize upd Ha g (.dK []) = Hg at *
    have sr : Same Hg (upd Hg r (.lst [])) := same_new hr0
    have fr : upd Hg r (.lst []) r = some (.lst []) := upd_same
    generalize upd Hg r (.lst []) = Hr at *
    have sl : Same Hr (upd Hr l0 (.lst [.non])) := same_new hl0
    have fl : upd Hr l0 (.lst [.non]) l0 = some (.lst [.non]) := upd_same
    generalize upd Hr l0 (.lst [.non]) = Hl at *
    have st : Same Hl (upd Hl t (.tup [.int 0, .ref a, .ref g, .ref r, .ref l0])) := same_new ht
    generalize upd Hl t (.tup [.int 0, .ref a, .ref g, .ref r, .ref l0]) = HF at *
    refine s_while (fun m σ' H' => ∃ (l D : List (Str × Int)) (rs : List PyData) (xs : List V) (upv restv : V) (l7 : Option V), σ' = [some v, some (.ref gx), some (.int (tAt l l.length)), some upv, some (.ref g), some (.ref r), some restv, l7] ∧ Same H H' ∧ H' g = some (.dK (kvD D)) ∧ H' r = some (.lst xs) ∧ TtA H' xs (l.map durD) ∧
      Tt H' upv (strsD (l.map (·.1))) ∧ IsL rs restv H' ∧ SeqAt.shaped (.list rs) = true ∧ l.length ≤ b.length ∧ (rs ≠ [] → Going b dd l D l.length) ∧ (rs = [] → Clock b dd l) ∧ m = 2 * (b.length - l.length) + (if rs = [] then 0 else 1)) _
      ⟨[], [], [.none], [], .ref a, .ref l0, none, rfl, ((sa.trans sg).trans (sr.trans sl)).trans st, st _ _ (sl _ _ (sr _ _ fg)), st _ _ (sl _ _ fr), .nil, tt_of_strs (us := []) (st _ _ (sl _ _ (sr _ _ (sg _ _ fa)))), ⟨l0, _, rfl, st _ _ fl, .cons .non .nil⟩, (shaped_all fun d hd => by rw [List.mem_singleton.mp hd]; exact ⟨rfl, by decide⟩).1, Nat.zero_le _, (fun _ => going_zero b dd), (fun z => by cases z), rfl⟩ ?_
    rintro m σ' H' ⟨l, D, rs, xs, upv, restv, l7, rfl, sH, hg', hr', tx, hup, hrest, shp, ll, gn, gc, rfl⟩
    have neE := ev_neD (K := K) (mono_l _) (ev_vp (i := 6) (v := restv) (σ := [some v, some (.ref gx), some (.int (tAt l l.length)), some upv, some (.ref g), some (.ref r), some restv, l7]) (H := H') (P := IsL rs) rfl (mono_l _) hrest) (ev_lst (ds := []) ts_nil (Nat.zero_le _)) (fun v H1 h => h.dp) (fun v H1 h => h.dp) shp (shaped_all fun d hd => by cases hd).1
    rw [eqv_nilD] at neE
    refine ⟨_, et_test neE, fun hn H2 e2 => ?_, fun hn H2 e2 => ?_⟩
    · have rne : rs ≠ [] := by simpa using hn
      have go := gn rne
      have s2 := sH.trans e2
      have nextE := (ev_kn (ea_two (mono_t (bookD b)) (ev_vt (i := 0) (v := v) rfl (hv.same s2)) (ev_vt (i := 3) (v := upv) (d := strsD (l.map (·.1))) rfl (hup.same e2))) (b, l.map (·.1)) (fun vs H6 _ ⟨v, w, h1, h2, h3⟩ => ⟨v, w, h1, h2, hb, h3⟩) (fun v H6 _ h => h) : Ev (tCall spLNext [] E0 (tCons (tVar 0) (tCons (tVar 3) tNil))) [some v, some (.ref gx), some (.int (tAt l l.length)), some upv, some (.ref g), some (.ref r), some restv, l7] H2 (IsL (((unitsM b).filter fun u => letsM b (l.map (·.1)) u).map PyData.str)))
      refine s_for (srcM_map PyData.str (srcM_lst (K := K) nextE)) (fun HL j σ' H' => ∃ (D : List (Str × Int)) (l7 : Option V), σ' = [some v, some (.ref gx), some (.int (tAt l l.length)), some upv, some (.ref g), some (.ref r), some restv, l7] ∧ H' g = some (.dK (kvD D)) ∧ Going b dd l D l.length ∧
        (∀ u ∈ ((unitsM b).filter fun u => letsM b (l.map (·.1)) u).take j, u ∈ D.map (·.1)) ∧ LEx HL H' ∧ Same H H') (fun HL eL => ⟨D, l7, rfl, eL _ _ (e2 _ _ hg'), go, (fun u hu => by rw [List.take_zero] at hu; cases hu), LEx.refl _, s2.trans eL⟩) (fun HL j σ' H' ⟨_, _, _, _, _, _, t, _⟩ => t) ?_ ?_
      · rintro HL eL j u y σ' H4 H5 hbj ⟨D, l7, rfl, hg4, go, dn, lx, s4⟩ e5 hy
        rw [tt_str hy]
        have hm := List.mem_filter.mp (List.mem_of_getElem? hbj)
        have s5 := s4.trans e5
        have hg5 := e5 _ _ hg4
        have dl : D.length ≤ b.length := by
          rw [← ulen]
          have := nodup_len (D := unitsM b) go.nd fun x hx => by
            obtain ⟨p, hp, rfl⟩ := List.mem_map.mp hx
            obtain ⟨i, _, hl, _⟩ := go.frm p hp
            exact lets_unit hl
          rwa [List.length_map] at this
        refine name_go (s_if (b := !decide (u ∈ D.map (·.1))) (et_B (ev_ninK (us := D.map (·.1)) (ev_vp (i := 4) (v := .ref g) (P := fun v H' => ∃ g kvs, v = .ref g ∧ H' g = some (.dK kvs) ∧ kvs.map (·.1) = (D.map (·.1)).map Sum.inr) rfl (fun _ _ _ e ⟨g, kvs, a, b, c⟩ => ⟨g, kvs, a, e _ _ b, c⟩) ⟨g, _, rfl, hg5, kvD_keys D⟩) (ev_var (i := 7) (v := .str u) rfl))) (fun hnn H6 e6 => ?_) (fun hnn H6 e6 => ?_))
        · have hnot : u ∉ D.map (·.1) := by simpa using hnn
          refine ev_I0 (ev_var (i := 2) (v := .int (tAt l l.length)) (σ := [some v, some (.ref gx), some (.int (tAt l l.length)), some upv, some (.ref g), some (.ref r), some restv, some (.str u)]) rfl) (ev_getX (g := gx) (u := u) (ev_vp (i := 1) (v := .ref gx) (P := fun v H' => v = .ref gx ∧ H' gx = some (.dK kx)) rfl (fun _ _ _ e ⟨a, b⟩ => ⟨a, e _ _ b⟩) ⟨rfl, (s5.trans e6) _ _ hgx⟩) (ev_var (i := 7) (v := .str u) rfl) (hkx u hm.1)) H6 (Same.refl _) _ fun nv H7 e7 hnv => ?_
          have e57 := e6.trans e7
          have hg7 := e57 _ _ hg5
          subst hnv
          refine ⟨.ref g, rfl, .str u, rfl, g, _, rfl, DPut.k (k := .inr u) hg7 (size_lt (by unfold kvD; rw [List.length_map]; omega)), ?_⟩
          rw [putK_new _ (valS_none (kvD_keys D) hnot)]
          refine ⟨D ++ [(u, tAt l l.length + dd u)], _, rfl, ?_, go.put hm.2 hnot (hd u), fun z hz => ?_, lx.trans ((lex_same (e5.trans e57)).trans (lex_dK hg7)), same_mut (s5.trans e57) hgN⟩
          · rw [upd_same]; unfold kvD; rw [List.map_append]; rfl
          · rw [take_more hbj] at hz
            rw [List.map_append]
            rcases List.mem_append.mp hz with h | h
            · exact List.mem_append_left _ (dn z h)
            · rw [List.mem_singleton.mp h]; simp
        · have hin : u ∈ D.map (·.1) := by simpa using hnn
          refine ⟨D, _, rfl, e6 _ _ hg5, go, fun z hz => ?_, lx.trans (lex_same (e5.trans e6)), s5.trans e6⟩
          rw [take_more hbj] at hz
          rcases List.mem_append.mp hz with h | h
          · exact dn z h
          · rw [List.mem_singleton.mp h]; exact hin
      · rintro HL eL σ' H4 ⟨D, l7, rfl, hg4, go, dn, lx, s4⟩
        rw [List.take_length] at dn
        have go := go.all fun u hu => dn u (List.mem_filter.mpr ⟨lets_unit hu, hu⟩)
        have lx2 : LEx H' H4 := (lex_same (e2.trans eL)).trans lx
        have hr4 := lx2.2 _ _ hr'
        have tx4 := tx.tex lx2.1
        have hup4 := hup.tex lx2.1
        have dl : D.length ≤ b.length := by
          rw [← ulen]
          have := nodup_len (D := unitsM b) go.nd fun x hx => by
            obtain ⟨p, hp, rfl⟩ := List.mem_map.mp hx
            obtain ⟨i, _, hl, _⟩ := go.frm p hp
            exact lets_unit hl
          rwa [List.length_map] at this
        have gr : g ≠ r := ne_of_kinds hg4 hr4 (fun z => by cases z)
        have lcE := ev_lock (te := tLc (iKeys (tVar 4)) (gName 7) (tTest (tOp (rIn K true) (tVar 7) (tVar 3))) (tTup (tCons (tDGet (tVar 4) (tVar 7)) (tCons (tVar 7) tNil))) [7]) (σ := [some v, some (.ref gx), some (.int (tAt l l.length)), some upv, some (.ref g), some (.ref r), some restv, l7]) (H := H4) (ds := (D.filter fun p => !decide (p.1 ∈ l.map (·.1))).map fun p => rowD (p.2, p.1)) hg4 True.intro fun od =>
          ev_lc (te := tTup (tCons (tDGet (tVar 4) (tVar 7)) (tCons (tVar 7) tNil))) (tt := tTest (tOp (rIn K true) (tVar 7) (tVar 3))) (g := gName 7) (vs := [7]) (σ := [some v, some (.ref gx), some (.int (tAt l l.length)), some upv, some (.ref g), some (.ref r), some restv, l7]) (H := upd H4 g (.frz od (.dK (kvD D)))) ((srcM_map (β := Str × Int) (fun p => p.1) (src_keys (i := 4) (d := g) (o := od) (kvs := kvD D) (us := D.map fun p => p.1) rfl upd_same (kvD_keys D))).s fun H2 H3 s h => s _ _ h) (fun p => !decide (p.1 ∈ l.map (·.1))) (fun p => rowD (p.2, p.1)) (by omega) fun p hp z H6 e6 hz C c => by
            subst hz
            refine c [some v, some (.ref gx), some (.int (tAt l l.length)), some upv, some (.ref g), some (.ref r), some restv, some (.str p.1)] _ (Same.refl _) rfl (et_test (ev_nin (K := K) (us := l.map (·.1)) (ev_var (i := 7) (v := .str p.1) rfl) (ev_vt (i := 3) (v := upv) rfl ((hup4.tex (tex_dK hg4)).same e6)).seqT)) fun _ => ?_
            exact ev_tup (ts_cons (ev_getF (g := g) (ob := od) (u := p.1) (ev_vp (i := 4) (v := .ref g) (P := fun v H' => v = .ref g ∧ H' g = some (.frz od (.dK (kvD D)))) rfl (fun _ _ _ e ⟨a, b⟩ => ⟨a, e _ _ b⟩) ⟨rfl, e6 _ _ upd_same⟩) (ev_var (i := 7) (v := .str p.1) rfl) (kvD_val go.nd hp)).tint (ts_cons (ev_var (i := 7) (v := .str p.1) rfl).tstr ts_nil)) (by show 2 ≤ 100000; decide)
        have mapE : (D.filter fun p => !decide (p.1 ∈ l.map (·.1))).map (fun p => rowD (p.2, p.1)) = ((D.filter fun p => !decide (p.1 ∈ l.map (·.1))).map fun p => (p.2, p.1)).map rowD := by rw [List.map_map]; rfl
        rw [mapE] at lcE
        have fl := List.length_filter_le (fun p : Str × Int => !decide (p.1 ∈ l.map (·.1))) D
        refine q_set (ev_sortN lcE (sortD_rows _ (by rw [List.length_map]; omega))) fun rv H5 e5 ⟨M, hM, pm, io, rnew⟩ => ?_
        obtain ⟨ps, p2, eps⟩ := perm_back rowD pm rfl
        rw [← eps] at hM
        have ord := rows_order io eps.symm
        have pmem : ∀ q : Int × Str, q ∈ ps ↔ (q.2, q.1) ∈ D ∧ q.2 ∉ l.map (·.1) := fun q => by
          rw [p2.mem_iff, List.mem_map]
          constructor
          · rintro ⟨p, hp, rfl⟩
            have := List.mem_filter.mp hp
            exact ⟨this.1, by simpa using this.2⟩
          · rintro ⟨h1, h2⟩
            exact ⟨(q.2, q.1), List.mem_filter.mpr ⟨h1, by simpa using h2⟩, rfl⟩
        have pstr : ∀ q ∈ ps, PyData.strOk q.2 = true := fun q hq => by
          obtain ⟨i, _, hl, _⟩ := go.frm _ ((pmem q).mp hq).1
          exact hb.ok.txt _ (lets_unit hl)
        have shp2 : SeqAt.shaped (.list (ps.map rowD)) = true := (shaped_all fun d hd => by
          obtain ⟨q, hq, rfl⟩ := List.mem_map.mp hd
          refine ⟨?_, Nat.le_trans (depth_row q) (by decide)⟩
          unfold rowD
          simp [PyData.canLay0, PyData.canLayAll0, pstr q hq]).1
        have neE2 := ev_neD (K := K) (mono_l _) (ev_vp (i := 6) (v := rv) (σ := [some v, some (.ref gx), some (.int (tAt l l.length)), some upv, some (.ref g), some (.ref r), some rv, l7]) (H := H5) (P := IsL (ps.map rowD)) rfl (mono_l _) hM) (ev_lst (ds := []) ts_nil (Nat.zero_le _)) (fun v H1 h => h.dp) (fun v H1 h => h.dp) shp2 (shaped_all fun d hd => by cases hd).1
        rw [eqv_nilD] at neE2
        have s5 : Same H H5 := s4.trans e5
        have hr5 := e5 _ _ hr4
        have tx5 := tx4.same e5
        have hup5 := hup4.same e5
        have hg5 := e5 _ _ hg4
        cases ps with
        | nil =>
          refine s_if (b := false) ((et_test neE2).to rfl) (fun z => nomatch z) fun _ H6 e6 => ?_
          have cl : Clock b dd l := go.clock fun p hp => Decidable.byContradiction fun h => by
            have := (pmem (p.2, p.1)).mpr ⟨hp, h⟩
            cases this
          refine ⟨_, ?_, l, D, [], xs, upv, rv, _, rfl, s5.trans e6, e6 _ _ hg5, e6 _ _ hr5, tx5.same e6, hup5.same e6, hM.same e6, (shaped_all fun d hd => by cases hd).1, ll, (fun z => absurd rfl z), (fun _ => cl), rfl⟩
          rw [if_pos rfl, if_neg rne]
          omega
        | cons q0 ps =>
          refine s_if (b := true) ((et_test neE2).to rfl) (fun _ H6 e6 => ?_) fun z => nomatch z
          obtain ⟨hq1, hq2⟩ := (pmem q0).mp List.mem_cons_self
          have go2 := go.next (p := (q0.2, q0.1)) hq1 hq2 fun z hz hzn => by
            have hz2 := (pmem (z.2, z.1)).mpr ⟨hz, hzn⟩
            rcases List.mem_cons.mp hz2 with h | h
            · have : z.2 = q0.1 := congrArg Prod.fst h
              show q0.1 ≤ z.2
              omega
            · exact (List.pairwise_cons.mp ord).1 _ h
          have len2 : (l ++ [(q0.2, q0.1)]).length ≤ b.length := by
            rw [← ulen]
            have := nodup_len go2.row.nodup go2.row.units
            rwa [List.length_map] at this
          have row0 : ∀ (σ : L2.St) (H7 : Hp), Same H5 H7 → σ[6]? = some (some rv) → Ev (tOp (rIxL K) (tVar 6) (tC (.int 0))) σ H7 (IsT (rowD q0)) := fun σ H7 e hs => ev_ixL (K := K) (i := 0) (ev_vp (i := 6) (v := rv) (P := IsL _) hs (mono_l _) (hM.same e)) ev_c rfl
          have tE : ∀ (σ : L2.St) (H7 : Hp), Same H5 H7 → σ[6]? = some (some rv) → Ev (tOp (rIxT K) (tOp (rIxL K) (tVar 6) (tC (.int 0))) (tC (.int 0))) σ H7 (IsT (.int q0.1)) := fun σ H7 e hs => ev_ixT (K := K) (i := 0) (row0 σ H7 e hs) ev_c rfl
          have uE : ∀ (σ : L2.St) (H7 : Hp), Same H5 H7 → σ[6]? = some (some rv) → Ev (tOp (rIxT K) (tOp (rIxL K) (tVar 6) (tC (.int 0))) (tC (.int 1))) σ H7 (IsT (.str q0.2)) := fun σ H7 e hs => ev_ixT (K := K) (i := 1) (row0 σ H7 e hs) ev_c rfl
          have catE := ev_catT (K := K) (ev_vt (i := 3) (v := upv) (d := strsD (l.map (·.1))) (σ := [some v, some (.ref gx), some (.int (tAt l l.length)), some upv, some (.ref g), some (.ref r), some rv, l7]) (H := H6) rfl (hup5.same e6)) (ev_tup (ts_cons (uE _ H6 e6 rfl) ts_nil) (by show 1 ≤ 100000; decide)) (by rw [List.length_map, List.length_map]; show l.length + 1 ≤ 100000; omega)
          rw [show (l.map (·.1)).map PyData.str ++ [PyData.str q0.2] = ((l ++ [(q0.2, q0.1)]).map (·.1)).map PyData.str from by rw [List.map_append, List.map_append]; rfl] at catE
          refine s_tup2 (K := K) (mono_t _) (mono_t _) (tE _ H6 e6 rfl) catE fun nv uv H7 e7 hnv huv => ?_
          rw [tt_int hnv]
          have e57 := e6.trans e7
          have hr7 := e57 _ _ hr5
          refine s_append (K := K) (i := 5) (p := r) (P := IsT (durD (q0.2, q0.1))) rfl ⟨xs, hr7⟩ (ev_tup (ts_cons (uE _ H7 e57 rfl) (ts_cons (ev_var (i := 2) (v := .int q0.1) rfl).tint ts_nil)) (by show 2 ≤ 100000; decide)) (fun pv H8 xs8 e8 tp h8 _ => ?_) (fun xs8 h8 => ?_)
          · have ex := e8 _ _ hr7
            rw [h8] at ex
            cases ex
            have e58 := e57.trans e8
            have tlast : tAt (l ++ [(q0.2, q0.1)]) (l ++ [(q0.2, q0.1)]).length = q0.1 := by rw [List.length_append, List.length_singleton, tAt_last]
            obtain ⟨pr, xr, rfl, hpr, tr⟩ := hM
            have prr : pr ≠ r := fun z => by
              have := rnew pr rfl
              rw [z, hr4] at this
              cases this
            refine ⟨_, ?_, l ++ [(q0.2, q0.1)], D, (q0 :: ps).map rowD, xs ++ [pv], uv, .ref pr, _, by rw [tlast]; rfl, same_mut (s5.trans e58) hrN, by rw [upd_ne gr]; exact e58 _ _ hg5, upd_same, ?_, (huv.same e8).tex (tex_lst h8), ⟨pr, xr, rfl, by rw [upd_ne prr]; exact e58 _ _ hpr, (tr.same e58).tex (tex_lst h8)⟩, shp2, len2, (fun _ => by rw [List.length_append, List.length_singleton]; exact go2), (fun z => by cases z), rfl⟩
            · rw [if_neg rne, if_neg (by simp), List.length_append, List.length_singleton]
              rw [List.length_append, List.length_singleton] at len2
              omega
            · rw [List.map_append]
              exact (TtA.snoc tp (tx5.same e58)).tex (tex_lst h8)
          · rw [hr7] at h8
            cases h8
            have := tx5.len
            rw [List.length_map] at this
            omega
    · have re : rs = [] := by simpa using hn
      show tRet (tVar 5) { nx := fun _ H' => Q .non H', rt := Q } [some v, some (.ref gx), some (.int (tAt l l.length)), some upv, some (.ref g), some (.ref r), some restv, l7] H2
      refine s_ret (ev_var (i := 5) (v := .ref r) rfl) fun v' H3 e3 hv' => ?_
      exact q v' H3 (sH.trans (e2.trans e3)) ⟨l, ⟨r, xs, hv', e3 _ _ (e2 _ _ hr'), tx.same (e2.trans e3)⟩, gc re⟩
end
end Up
end
section
set_option Elab.async false
set_option linter.all false
set_option maxRecDepth 100000
set_option maxHeartbeats 4000000
/-! Lists of things told by a word; tuples whose objects are known. -/
namespace Up
open PySem PySem.Spec PyProof.Rows L2
/-- the word stays while nothing but lists change -/
structure Stab {β : Type} (R : β → V → Hp → Prop) : Prop where
  same : ∀ b x H H', Same H H' → R b x H → R b x H'
  lst : ∀ b x (H : Hp) D xs ys, H D = some (.lst xs) → R b x H → R b x (upd H D (.lst ys))
def IsLR {β : Type} (R : β → V → Hp → Prop) (bs : List β) : V → Hp → Prop := fun v H => ∃ p xs, v = V.ref p ∧ H p = some (.lst xs) ∧ Paired (fun x b => R b x H) xs bs
theorem mono_lr {β : Type} {R : β → V → Hp → Prop} (S : Stab R) (bs : List β) : Mono (IsLR R bs) := fun _ _ _ e ⟨p, xs, h1, h2, h3⟩ => ⟨p, xs, h1, e _ _ h2, Paired.mapP h3 fun x b q => S.same _ _ _ _ e q⟩
theorem paired_app {α β : Type} {R : α → β → Prop} : ∀ {xs ys : List α} {bs cs : List β}, Paired R xs bs → Paired R ys cs → Paired R (xs ++ ys) (bs ++ cs)
  | _, _, _, _, .nil, k => k
  | _, _, _, _, .cons h t, k => .cons h (paired_app t k)
def RF (l : List (Str × Int)) (x : V) (H : Hp) : Prop := IsFz (l.map durD) x H ∨ (l = [] ∧ ∃ a, x = V.ref a ∧ H a = some (.tup []))
theorem stab_fz : Stab fun (l : List (Str × Int)) x H => IsFz (l.map durD) x H where
  same := fun b x H H' e h => mono_fz _ _ _ _ e h
  lst := fun b x H D xs ys hD ⟨a, ob, zs, h1, h2, h3, h4, h5⟩ => ⟨a, ob, zs, h1, by rw [upd_ne (ne_of_kinds h2 hD (fun z => by cases z))]; exact h2, h3, h4, h5.tex (tex_lst hD)⟩
theorem stab_rf : Stab RF where
  same := fun b x H H' e h => h.imp (stab_fz.same _ _ _ _ e) fun ⟨h1, a, h2, h3⟩ => ⟨h1, a, h2, e _ _ h3⟩
  lst := fun b x H D xs ys hD h => h.imp (stab_fz.lst _ _ _ _ _ _ hD) fun ⟨h1, a, h2, h3⟩ => ⟨h1, a, h2, tex_lst hD _ _ h3⟩
section
variable {K : PySem.W.Frag} {σ : L2.St} {H : Hp} {te ta tb td tk : TE} {tt : TT} {tr : TA}
theorem src_lr {β : Type} {R : β → V → Hp → Prop} (S : Stab R) {bs : List β} (h : Ev te σ H (IsLR R bs)) : Src (iList K te) σ H bs R := fun H0 e C c =>
  h H0 e _ fun v H1 e1 ⟨a, xs, hv, h2, t⟩ => by
    refine ⟨a, hv, ⟨xs, sq_l h2⟩, c (Itl K a) H1 (fun H2 => H2 a = some (.lst xs) ∧ Paired (fun x b => R b x H2) xs bs) (YAt xs) e1 ?_ (fun H2 H3 e3 g => ⟨e3 _ _ g.1, Paired.mapP g.2 fun x b q => S.same _ _ _ _ e3 q⟩) ⟨h2, t⟩ fun i b x H2 H3 hb g y => ?_⟩
    · rw [← paired_len t]
      exact walk_list.mono (fun H2 g => sq_l g.1) fun i H2 x H3 _ _ y => y
    · obtain ⟨e3, y⟩ := y
      subst e3
      obtain ⟨d, hd, td⟩ := paired_get g.2 y
      rw [hb] at hd
      cases hd
      exact ⟨Same.refl _, td⟩
theorem ev_lcR {β γ : Type} {R' : γ → V → Hp → Prop} (S : Stab R') {bs : List β} {R : β → V → Hp → Prop} {wi : TI} {g : TG} {vs : List Nat} (hsrc : Src wi σ H bs R) (keep : β → Bool) (f : β → γ) (hz : bs.length ≤ 99999)
    (turn : ∀ b ∈ bs, ∀ x H1, Same H H1 → R b x H1 → ∀ C : L2.St → Hp → Prop, (∀ σ2 H2, Same H1 H2 → wipe σ2 vs = wipe σ vs → EvT tt σ2 H2 (keep b) → (keep b = true → Ev te σ2 H2 (R' (f b))) → C σ2 H2) → g x (wipe σ vs) H1 C) :
    Ev (tLc wi g tt te vs) σ H (IsLR R' ((bs.filter keep).map f)) := fun H0 e0 Q q =>
  hsrc H0 e0 _ fun J H1 G Y e1 w mono g1 yok D hD => by
    refine lc_it w (fun i H' => ∃ acc, Same H1 H' ∧ H' D = some (.lst acc) ∧ Paired (fun x b => R' b x H') acc (((bs.take i).filter keep).map f)) ⟨[], same_new hD, upd_same, by rw [List.take_zero]; exact .nil⟩ (fun i H' _ pv => let ⟨_, s, _⟩ := pv; mono _ _ s g1) (fun i x H' H3 hi pv y => ?_) (fun H' pv => ?_)
    · obtain ⟨acc, s1, hacc, ta⟩ := pv
      have hb : bs[i]? = some bs[i] := List.getElem?_eq_getElem hi
      obtain ⟨s3, rb⟩ := yok i _ x H' H3 hb (mono _ _ s1 g1) y
      refine turn bs[i] (List.getElem_mem hi) x H3 (((e0.trans e1).trans s1).trans s3) rb _ fun σ2 H2 e2 hw ht he => ⟨hw, ht H2 (Same.refl _) _ fun H4 e4 => ?_⟩
      have s4 : Same H' H4 := (s3.trans e2).trans e4
      cases hk : keep bs[i] with
      | true =>
        rw [if_pos rfl]
        refine he hk H4 e4 _ fun y H5 e5 py => ⟨acc, e5 _ _ (s4 _ _ hacc), ?_, acc ++ [y], same_mut (s1.trans (s4.trans e5)) hD, upd_same, ?_⟩
        · rw [paired_len ta, List.length_map]
          have := List.length_filter_le keep (bs.take i)
          rw [List.length_take] at this
          exact size_lt (by omega)
        · have hD5 := e5 _ _ (s4 _ _ hacc)
          rw [take_more hb, List.filter_append, List.filter_cons, if_pos hk, List.map_append]
          exact paired_app (Paired.mapP ta fun x b q => S.lst _ _ _ _ _ _ hD5 (S.same _ _ _ _ (s4.trans e5) q)) (.cons (S.lst _ _ _ _ _ _ hD5 py) .nil)
      | false =>
        rw [if_neg (by decide)]
        refine ⟨acc, s1.trans s4, s4 _ _ hacc, ?_⟩
        rw [take_more hb, List.filter_append, List.filter_cons, if_neg (by rw [hk]; decide), List.filter_nil, List.append_nil]
        exact Paired.mapP ta fun x b q => S.same _ _ _ _ s4 q
    · obtain ⟨acc, s1, hacc, ta⟩ := pv
      rw [List.take_length] at ta
      exact q _ H' (e1.trans s1) ⟨D, acc, rfl, hacc, ta⟩
theorem ev_catR {β : Type} {R : β → V → Hp → Prop} (S : Stab R) {bs cs : List β} (ha : Ev ta σ H (IsLR R bs)) (hb : Ev tb σ H (IsLR R cs)) (hz : bs.length + cs.length ≤ 100000) : Ev (tOp rCat ta tb) σ H (IsLR R (bs ++ cs)) :=
  ev_op (mono_lr S _) ha hb fun x y H1 _ ⟨p, xs, h1, h2, t1⟩ ⟨p', ys, h1', h2', t2⟩ Q q =>
    ⟨p, p', xs, ys, h1, h1', h2, h2', by rw [paired_len t1, paired_len t2]; exact size_ok hz, fun l hl => q _ _ (same_new hl) ⟨l, _, rfl, upd_same, paired_app (Paired.mapP t1 fun x b q => S.same _ _ _ _ (same_new hl) q) (Paired.mapP t2 fun x b q => S.same _ _ _ _ (same_new hl) q)⟩⟩
/-- a tuple display, its object known -/
def tTupF (t : TA) : TE := fun σ H Q => t σ H fun xs H1 => xs.length ≤ sizeLine ∧ ∀ (p : Addr) (ob : Obj), H1 p = none → ob.cls = .type "tuple" → ob.dict = none → Q (V.ref p) (upd H1 p (.frz ob (.tup xs)))
theorem pe_tupF {X : Cx} {es : List Expr} {t : TA} {pos : Pos} {x1} (h : PA X es t) : PE X (.Tuple es x1 pos) (tTupF t) := by
  refine ⟨fun pins s σ H Q I hq => ?_⟩
  refine wpAny_Tuple_spliced (thn (h.run pos pins s σ H _ I hq) fun us s1 ⟨xs, H1, I1, r, z, q⟩ => ⟨by rw [← r.length]; exact z, ?_⟩)
  have hf : H1 s1.heap.objs.size = none := I1.hok.fresh (Nat.le_refl _)
  refine ⟨.ref s1.heap.objs.size, upd H1 s1.heap.objs.size (.frz { cls := .type "tuple", data := .seq us.toArray } (.tup xs)), I1.laid (t' := s1.toks) (fun b u e => Heap.get?_push_of_some _ e) (Nat.le_refl _) ?_, rfl, q _ _ hf rfl rfl⟩
  exact ⟨Heap.get?_push_size _ rfl, z, us, r, ⟨_, Heap.get?_push_size _ rfl, rfl, _, rfl⟩⟩
theorem ev_tupF {ds : List PyData} (h : EvA tr σ H (IsTs ds)) (hl : ds.length ≤ 100000) : Ev (tTupF tr) σ H (IsFz ds) := fun H1 e Q q =>
  h H1 e _ fun vs H2 e2 t => ⟨by rw [TtA.len t]; exact size_ok hl, fun p ob hp c1 c2 => q _ _ (e2.trans (same_new hp)) ⟨p, ob, vs, rfl, upd_same, c1, c2, TtA.same (same_new hp) t⟩⟩
def rCatF (K : PySem.W.Frag) : R2 := fun x y H Q => ∃ a b xs ys, x = V.ref a ∧ y = V.ref b ∧ SqT K H a xs ∧ SqT K H b ys ∧ xs.length + ys.length ≤ sizeLine ∧ ys ≠ [] ∧
  (xs = [] → Q (V.ref b) H) ∧ (xs ≠ [] → ∀ (p : Addr) (ob : Obj), H p = none → ob.cls = .type "tuple" → ob.dict = none → Q (V.ref p) (upd H p (.frz ob (.tup (xs ++ ys)))))
theorem op_catF {X : Cx} (hK : X.K = K) : OpR X (binaryOp .Add) (rCatF K) := by
  subst hK
  intro pins s σ H x y v u Q I rx ry h
  obtain ⟨a, b, xs, ys, rfl, rfl, ha, hb, hz, hy, q0, q2⟩ := h
  by_cases hx : xs = []
  · exact op_catA pins s σ H _ _ v u Q I rx ry ⟨a, b, xs, ys, rfl, rfl, ha, hb, hz, q0, fun z => absurd hx z, fun z => absurd hx z⟩
  · cases rx
    cases ry
    obtain ⟨its, r1, p1, _⟩ := I.tuple ha
    obtain ⟨its2, r2, p2, _⟩ := I.tuple hb
    refine HT.cat_tup p1 p2 (fun z => hx (r1.nil_iff.mp z)) (fun z => absurd (r2.nil_iff.mp z) hy) (fun z => ?_) (by rw [← r1.length, ← r2.length]; exact hz)
    refine ⟨.ref s.heap.objs.size, _, I.laid (t' := s.toks) (o := .frz { cls := .type "tuple", data := .seq (its ++ its2).toArray } (.tup (xs ++ ys))) (fun b ob q => Heap.get?_push_of_some _ q) (Nat.le_refl _) ?_, rfl, q2 hx _ { cls := .type "tuple", data := .seq (its ++ its2).toArray } (I.hok.fresh (Nat.le_refl _)) rfl rfl⟩
    exact ⟨Heap.get?_push_size _ rfl, by rw [List.length_append]; exact hz, _, r1.append r2, IsTup.new _ _⟩
theorem ev_catF {l m : List (Str × Int)} (hm : m ≠ []) (ha : Ev ta σ H (RF l)) (hb : Ev tb σ H (IsFz (m.map durD))) (hz : l.length + m.length ≤ 100000) : Ev (tOp (rCatF K) ta tb) σ H (IsFz ((l ++ m).map durD)) :=
  ev_op (P1 := RF l) (fun _ _ _ e h => stab_rf.same _ _ _ _ e h) ha hb fun x y H1 _ p1 ⟨b, ob, ys, hy, hyb, c1, c2, ty⟩ Q q => by
    subst hy
    have hys : ys ≠ [] := fun e => by
      subst e
      have := ty.len
      rw [List.length_map] at this
      exact hm (List.length_eq_zero_iff.mp this.symm)
    rcases p1 with ⟨a, oa, xs, rfl, hxa, d1, d2, tx⟩ | ⟨rfl, a, rfl, hxa⟩
    · refine ⟨a, b, xs, ys, rfl, rfl, .inl (.inr ⟨oa, hxa⟩), .inl (.inr ⟨ob, hyb⟩), by rw [tx.len, ty.len, List.length_map, List.length_map]; exact size_ok hz, hys, fun e => ?_, fun _ p o hp c3 c4 => q _ _ (same_new hp) ⟨p, o, _, rfl, upd_same, c3, c4, ?_⟩⟩
      · subst e
        have : l = [] := by
          have := tx.len
          rw [List.length_map] at this
          exact List.length_eq_zero_iff.mp this.symm
        subst this
        exact q _ _ (Same.refl _) ⟨b, ob, ys, rfl, hyb, c1, c2, ty⟩
      · rw [List.map_append]; exact (tx.app ty).same (same_new hp)
    · exact ⟨a, b, [], ys, rfl, rfl, sq_t hxa, .inl (.inr ⟨ob, hyb⟩), by rw [ty.len, List.length_map]; exact size_ok (by simpa using hz), hys, fun _ => q _ _ (Same.refl _) ⟨b, ob, ys, rfl, hyb, c1, c2, ty⟩, fun z => absurd rfl z⟩
theorem IsFz.dp {ds : List PyData} {v : V} {H : Hp} (h : IsFz ds v H) : Dp K H v (.tuple ds) := by
  obtain ⟨a, ob, xs, rfl, ha, _, _, t⟩ := h
  exact .tup (.inl (.inr ⟨ob, ha⟩)) t.dp
end
end Up
end
section
set_option Elab.async false
set_option linter.all false
set_option maxRecDepth 100000
set_option maxHeartbeats 4000000
/-! _law_later. -/
namespace Up
open PySem PySem.Spec PyProof.Rows L2
def rDictL (K : PySem.W.Frag) : List V → Hp → VK → Prop := fun xs H Q => ∃ (a : Addr) (ps : List Addr) (kvs : List (Key × V)), xs = [V.ref a] ∧ SqL K H a (ps.map V.ref) ∧ Paired (fun p kv => SqT K H p [kV kv.1, kv.2]) ps kvs ∧ ∀ p, H p = none → Q (V.ref p) (upd H p (.dK (mergeK [] kvs)))
theorem cr_dictL {X : Cx} (hc : X.calm = true) : CallR X (.type "dict") (rDictL X.K) := call_dictP hc
def dOf (f : List (Str × Int)) (u : Str) : Int := match f.find? (fun q => decide (q.1 = u)) with
  | some q => q.2
  | none => 1
theorem key_uniq {D : List (Str × Int)} (nd : (D.map (·.1)).Nodup) {p q : Str × Int} (hp : p ∈ D) (hq : q ∈ D) (e : p.1 = q.1) : p = q := by
  have h1 := kvD_val nd hp
  have h2 := kvD_val nd hq
  rw [e, h2] at h1
  injection h1 with h1
  injection h1 with h1
  exact Prod.ext e h1.symm
theorem dOf_mem {f : List (Str × Int)} (nd : (f.map (·.1)).Nodup) {p : Str × Int} (h : p ∈ f) : dOf f p.1 = p.2 := by
  unfold dOf
  cases q : f.find? fun q => decide (q.1 = p.1) with
  | none =>
    exfalso
    have := List.find?_eq_none.mp q p h
    simp at this
  | some z =>
    have e : z.1 = p.1 := by simpa using List.find?_some q
    rw [key_uniq nd (List.mem_of_find?_eq_some q) h e]
theorem dOf_ge {f : List (Str × Int)} (h : ∀ p ∈ f, 0 ≤ p.2) (u : Str) : 0 ≤ dOf f u := by
  unfold dOf
  cases q : f.find? fun q => decide (q.1 = u) with
  | none => decide
  | some z => exact h z (List.mem_of_find?_eq_some q)
theorem dOf_out {f : List (Str × Int)} {u : Str} (h : u ∉ f.map (·.1)) : dOf f u = 1 := by
  unfold dOf
  cases q : f.find? fun q => decide (q.1 = u) with
  | none => rfl
  | some z =>
    have e : z.1 = u := by simpa using List.find?_some q
    exact absurd (List.mem_map.mpr ⟨z, List.mem_of_find?_eq_some q, e⟩) h
section
variable {K : PySem.W.Frag} {σ : L2.St} {H : Hp} {te td tk : TE}
theorem ev_dictL {F : List (Str × Int) → Prop} (h : Ev te σ H (fun v H' => ∃ l, IsL (l.map durD) v H' ∧ F l)) (hF : ∀ l, F l → (l.map (·.1)).Nodup) : Ev (tCB (rDictL K) (tCons te tNil)) σ H (fun v H' => ∃ l g, v = .ref g ∧ H' g = some (.dK (kvD l)) ∧ F l) := ev_cb (ea_one h) fun vs H1 _ ⟨v, hv, l, ⟨a, xs, e1, h1, t⟩, f⟩ Q q => by
  subst hv e1
  obtain ⟨as, rfl, pr⟩ := tta_durs t
  refine ⟨a, as, _, rfl, sq_l h1, Paired.mapP pr fun _ _ q => sq_t q, fun p hp => q _ _ (same_new hp) ⟨l, p, rfl, ?_, f⟩⟩
  rw [mergeK_app _ [] ?_]
  · exact upd_same
  · rw [List.nil_append]
    show ((kvD l).map (·.1)).Nodup
    rw [kvD_keys]
    exact List.Pairwise.map _ (fun a b n e => n (Sum.inr.inj e)) (hF l f)
theorem ev_ninR {g : Addr} {kvs : List (Key × V)} {us : List Str} {u : Str} (hd : Ev td σ H (fun v H' => v = .ref g ∧ Rd H' g (.dK kvs))) (ek : kvs.map (·.1) = us.map Sum.inr) (hk : Ev te σ H (fun w _ => w = .str u)) : Ev (tDNotIn te td) σ H (fun v _ => v = .bl (!decide (u ∈ us))) := fun H1 a Q q => hk H1 a _ fun y H2 e2 py => hd H2 (a.trans e2) _ fun x H3 e3 ⟨px, hg⟩ => by
  subst py
  refine ⟨g, valV kvs (.inr u), px, .inl ⟨kvs, .inr u, hg, rfl, rfl⟩, q _ H3 (e2.trans e3) ?_⟩
  by_cases h : u ∈ us
  · obtain ⟨v, h1, _⟩ := valS_some ek h
    rw [h1, decide_eq_true h]; rfl
  · rw [valS_none ek h, decide_eq_false h]; rfl
theorem ev_getR {g : Addr} {kvs : List (Key × V)} {u : Str} {w : V} (hd : Ev td σ H (fun v H' => v = .ref g ∧ Rd H' g (.dK kvs))) (hk : Ev tk σ H (fun w _ => w = .str u)) (hw : valV kvs (.inr u) = some w) : Ev (tDGet td tk) σ H (fun v _ => v = w) := fun H1 a Q q => hd H1 a _ fun x H2 e2 ⟨px, hg⟩ => hk H2 (a.trans e2) _ fun y H3 e3 py => by
  subst py
  exact ⟨g, w, px, .inl ⟨kvs, .inr u, Rd.same e3 hg, rfl, hw.symm⟩, q w H3 (e2.trans e3) rfl⟩
end
section
variable {P : Program} {w : World} {K : PySem.W.Frag} {mg : Str → Option Value} {base : Heap}
def spLLater : Sp := SpD (α := (SBk × SBk) × List (Str × Int)) (fun a vs H => ∃ v x y, vs = [v, x, y] ∧ Tt H v (bookD a.1.1) ∧ Tt H x (bookD a.1.2) ∧ LBk a.1.1 ∧ LBk a.1.2 ∧ IsFz (a.2.map durD) y H ∧ a.2.map (·.1) = unitsM a.1.1 ∧ unitsM a.1.2 = unitsM a.1.1 ∧ ∀ p ∈ a.2, 0 ≤ p.2)
  (fun a v H => ∃ la lb, Clock a.1.1 (dOf a.2) la ∧ Clock a.1.2 (dOf a.2) lb ∧ ∃ r : Bool, v = .bl r ∧ (r = true ↔ ∃ p ∈ lb, ∀ t, (p.1, t) ∈ la → p.2 < t))
open Classical in
theorem k_llater (T : Txt K mg) : Kn P w K mg base CX0 4 "_law_later" spLLater := by
  have G := k_lclock (P := P) (w := w) (base := base) T
  refine T.d_law_later.kn c_law_later (fun vs H Q E h => ?_) (fun f cdv A outer s H vs Q E hr h => ?_)
  · obtain ⟨a, ⟨v, x, y, rfl, _⟩, _⟩ := h
    rfl
  · obtain ⟨⟨⟨a, b⟩, f⟩, ⟨v, x, y, rfl, hv, hx, ha, hb, hy, hf, hu, h0⟩, q⟩ := h
    simp only at hv hx ha hb hy hf hu h0 q
    have hun := hu_of hr
    refine ⟨_, pss_cons (ps_asg (pe_tup (pa_cons (pe_callTy (cr_dictL (by rfl)) (by rfl) T.b_dict (by decide +kernel) (pa_cons (pe_kn G hr pass0 (pa_cons (pv 0) (pa_cons (pe_callTy (cr_dictF (by rfl)) (by rfl) T.b_dict (by decide +kernel) (pa_cons (pv 2) pa_nil)) pa_nil))) pa_nil))
        (pa_cons (pe_callTy (cr_dictL (by rfl)) (by rfl) T.b_dict (by decide +kernel) (pa_cons (pe_kn G hr pass0 (pa_cons (pv 1) (pa_cons (pe_callTy (cr_dictF (by rfl)) (by rfl) T.b_dict (by decide +kernel) (pa_cons (pv 2) pa_nil)) pa_nil))) pa_nil)) pa_nil))) (pg_tup rfl (pgs_cons (pgn 3 c_law_later.nd) (pgs_cons (pgn 4 c_law_later.nd) pgs_nil))))
      (pss_one (ps_ret (pe_cmpR (op_neD hr.units) (pe_lock (pe_lc (own := [("_law_tag", 5)]) (g := gName 5) (by rfl) c_law_later.nd (pi_keys (pv 4)) (blkOk_by (N := ["_law_kit_here", "_law_mate_here", "_law_lasts_so", "_law_mine", "_law_its", "_law_tag"]) (sc := defScope s_law_later) (by decide +kernel)) (fun _ _ _ _ _ => pgn 5 c_law_later.nd)
        (fun _ _ _ _ _ => pts_one (pw_or (pt_cmp (pc_dnotin hun (pv 5) (pv 3))) (pw_or1 (pt_cmpR op_gt (pe_dget hun (pv 3) (pv 5) (fun _ _ => rfl)) (pe_dget hun (pv 4) (pv 5) (fun _ _ => rfl)) (by rfl)))).pt) (fun _ _ _ _ _ => pv 5))) (pe_lst pa_nil) (by rfl)))), ?_⟩
    have ndf : (f.map (·.1)).Nodup := by rw [hf]; exact ha.ok.nd
    have d0 := dOf_ge h0
    have lastsE : ∀ (c : SBk), unitsM c = unitsM a → Ev (tCB rDictF (tCons (tVar 2) tNil)) (start ["_law_kit_here", "_law_mate_here", "_law_lasts_so", "_law_mine", "_law_its", "_law_tag"] [v, x, y]) H (Lasts c (dOf f)) := fun c hc =>
      (ev_dictF (ps := f) (ev_vp (i := 2) (v := y) (P := IsFz (f.map durD)) rfl (mono_fz _) hy) ndf).imp fun v H' _ ⟨g, h1, h2⟩ => ⟨g, _, h1, h2, fun u hu => by
        rw [hc, ← hf] at hu
        obtain ⟨p, hp, rfl⟩ := List.mem_map.mp hu
        rw [dOf_mem ndf hp]
        exact kvD_val ndf hp⟩
    have cE : ∀ (c : SBk) (i : Nat) (z : V), unitsM c = unitsM a → LBk c → (start ["_law_kit_here", "_law_mate_here", "_law_lasts_so", "_law_mine", "_law_its", "_law_tag"] [v, x, y])[i]? = some (some z) → Tt H z (bookD c) → Ev (tCB (rDictL K) (tCons (tCall spClock [] E0 (tCons (tVar i) (tCons (tCB rDictF (tCons (tVar 2) tNil)) tNil))) tNil)) (start ["_law_kit_here", "_law_mate_here", "_law_lasts_so", "_law_mine", "_law_its", "_law_tag"] [v, x, y]) H
        (fun v H' => ∃ l g, v = .ref g ∧ H' g = some (.dK (kvD l)) ∧ Clock c (dOf f) l) := fun c i z hc lc hi hz =>
      ev_dictL (K := K) (F := fun l => Clock c (dOf f) l) (ev_kn (ea_two (mono_t (bookD c)) (ev_vt (i := i) (v := z) hi hz) (lastsE c hc)) (c, dOf f) (fun vs H6 _ ⟨v, w, h1, h2, h3⟩ => ⟨v, w, h1, h2, lc, h3, d0⟩) (fun v H6 _ h => h)) fun l h => key_nodup h
    refine s_tup2 (K := K) (fun _ _ _ e ⟨l, g, h1, h2, h3⟩ => ⟨l, g, h1, e _ _ h2, h3⟩) (fun _ _ _ e ⟨l, g, h1, h2, h3⟩ => ⟨l, g, h1, e _ _ h2, h3⟩) (cE a 0 v rfl ha rfl hv) (cE b 1 x hu hb rfl hx) fun mv iv H1 e1 ⟨la, ga, e2, hga, ca⟩ ⟨lb, gb, e3, hgb, cb⟩ => ?_
    subst e2 e3
    have nda := key_nodup ca
    have ndb := key_nodup cb
    have lbl : lb.length ≤ 1000 := by
      have := nodup_len (D := unitsM b) cb.row.nodup cb.row.units
      rw [List.length_map] at this
      have e : (unitsM b).length = b.length := by unfold unitsM; rw [List.length_map]
      have := hb.ok.n16
      omega
    have lcE := ev_lock (te := tLc (iKeys (tVar 4)) (gName 5) (tOr (tB (tDNotIn (tVar 5) (tVar 3))) (tTest (tOp (rI0 fun i j => .bl (decide (j < i))) (tDGet (tVar 3) (tVar 5)) (tDGet (tVar 4) (tVar 5))))) (tVar 5) [5]) (σ := [some v, some x, some y, some (.ref ga), some (.ref gb), none]) (H := H1) (ds := (lb.filter fun p => !decide (p.1 ∈ la.map (·.1)) || decide (∃ t, (p.1, t) ∈ la ∧ p.2 < t)).map fun p => PyData.str p.1) hgb True.intro fun od => by
      have rda : Rd (upd H1 gb (.frz od (.dK (kvD lb)))) ga (.dK (kvD la)) := by
        by_cases e : ga = gb
        · subst e
          rw [hga] at hgb
          injection hgb with hgb
          injection hgb with hgb
          exact .inr ⟨od, by rw [upd_same, hgb]⟩
        · exact .inl (by rw [upd_ne e]; exact hga)
      refine ev_lc (te := tVar 5) (tt := tOr (tB (tDNotIn (tVar 5) (tVar 3))) (tTest (tOp (rI0 fun i j => .bl (decide (j < i))) (tDGet (tVar 3) (tVar 5)) (tDGet (tVar 4) (tVar 5))))) (g := gName 5) (vs := [5]) (σ := [some v, some x, some y, some (.ref ga), some (.ref gb), none]) (H := upd H1 gb (.frz od (.dK (kvD lb)))) ((srcM_map (β := Str × Int) (fun p => p.1) (src_keys (i := 4) (d := gb) (o := od) (kvs := kvD lb) (us := lb.map fun p => p.1) rfl upd_same (kvD_keys lb))).s fun H2 H3 s h => s _ _ h) (fun p => !decide (p.1 ∈ la.map (·.1)) || decide (∃ t, (p.1, t) ∈ la ∧ p.2 < t)) (fun p => PyData.str p.1) (by omega) fun p hp z H6 e6 hz C c => ?_
      subst hz
      have mE := (ev_vp (i := 3) (v := .ref ga) (σ := [some v, some x, some y, some (.ref ga), some (.ref gb), some (.str p.1)]) (H := H6) (P := fun v H' => v = .ref ga ∧ Rd H' ga (.dK (kvD la))) rfl (fun _ _ _ e ⟨a, b⟩ => ⟨a, Rd.same e b⟩) ⟨rfl, Rd.same e6 rda⟩)
      refine c [some v, some x, some y, some (.ref ga), some (.ref gb), some (.str p.1)] _ (Same.refl _) rfl (et_or (et_B (ev_ninR (us := la.map fun p => p.1) mE (kvD_keys la) (ev_var (i := 5) (v := .str p.1) rfl))) fun hn => ?_) fun _ => (ev_var (i := 5) (v := .str p.1) rfl).tstr
      have hin : p.1 ∈ la.map (·.1) := by simpa using hn
      obtain ⟨pa, hpa, epa⟩ := List.mem_map.mp hin
      have v1 := kvD_val nda hpa
      rw [epa] at v1
      refine (et_test (ev_I0 (ev_getR (u := p.1) mE (ev_var (i := 5) (v := .str p.1) rfl) v1) (ev_getF (g := gb) (ob := od) (u := p.1) (ev_vp (i := 4) (v := .ref gb) (P := fun v H' => v = .ref gb ∧ H' gb = some (.frz od (.dK (kvD lb)))) rfl (fun _ _ _ e ⟨a, b⟩ => ⟨a, e _ _ b⟩) ⟨rfl, e6 _ _ upd_same⟩) (ev_var (i := 5) (v := .str p.1) rfl) (kvD_val ndb hp)))).to ?_
      rw [Bool.eq_iff_iff, decide_eq_true_iff, decide_eq_true_iff]
      constructor
      · intro h
        exact ⟨pa.2, by rw [← epa]; exact hpa, h⟩
      · rintro ⟨t, h1, h2⟩
        have := key_uniq nda hpa h1 epa
        rw [this]; exact h2
    have mapE : (lb.filter fun p => !decide (p.1 ∈ la.map (·.1)) || decide (∃ t, (p.1, t) ∈ la ∧ p.2 < t)).map (fun p => PyData.str p.1) = ((lb.filter fun p => !decide (p.1 ∈ la.map (·.1)) || decide (∃ t, (p.1, t) ∈ la ∧ p.2 < t)).map (·.1)).map PyData.str := by rw [List.map_map]; rfl
    rw [mapE] at lcE
    have neE := ev_neD (K := K) (mono_l _) lcE (ev_lst (ds := []) ts_nil (Nat.zero_le _)) (fun v H1 h => h.dp) (fun v H1 h => h.dp) (shaped_strsL fun u hu => by
      obtain ⟨p, hp, rfl⟩ := List.mem_map.mp hu
      exact hb.ok.txt _ (cb.row.units _ (List.mem_map.mpr ⟨p, (List.mem_filter.mp hp).1, rfl⟩))) (shaped_all fun d hd => by cases hd).1
    rw [eqv_nilD] at neE
    refine s_ret neE fun rv H2 e2 hrv => q rv H2 (e1.trans e2) ⟨la, lb, ca, cb, _, hrv, ?_⟩
    rw [Bool.not_eq_true', decide_eq_false_iff_not, List.map_eq_nil_iff, List.map_eq_nil_iff, List.filter_eq_nil_iff]
    constructor
    · intro h
      refine Classical.byContradiction fun hc => h fun p hp hk => hc ⟨p, hp, fun t ht => ?_⟩
      rw [Bool.or_eq_true, Bool.not_eq_true', decide_eq_false_iff_not, decide_eq_true_iff] at hk
      rcases hk with hk | ⟨t', h1, h2⟩
      · exact absurd (List.mem_map.mpr ⟨(p.1, t), ht, rfl⟩) hk
      · have := key_uniq nda h1 ht rfl
        injection this with _ e
        omega
    · rintro ⟨p, hp, h⟩ hc
      refine hc p hp ?_
      rw [Bool.or_eq_true, Bool.not_eq_true', decide_eq_false_iff_not, decide_eq_true_iff]
      by_cases hm : p.1 ∈ la.map (·.1)
      · obtain ⟨z, hz, ez⟩ := List.mem_map.mp hm
        exact .inr ⟨z.2, by rw [← ez]; exact hz, h z.2 (by rw [← ez]; exact hz)⟩
      · exact .inl hm
end
end Up
end
section
set_option Elab.async false
set_option linter.all false
set_option maxRecDepth 100000
set_option maxHeartbeats 4000000
/-! There is a clock; its times are one. -/
namespace Up
open PySem PySem.Spec PyProof.Rows L2
theorem going_fill {b : SBk} {d : Str → Int} {l : List (Str × Int)} {n : Nat} (hd : ∀ u, 0 ≤ d u) : ∀ (us : List Str) (D : List (Str × Int)), Going b d l D n → ∃ D', Going b d l D' n ∧ (∀ u ∈ us, letsM b (l.map (·.1)) u = true → u ∈ D'.map (·.1)) ∧ ∀ x ∈ D.map (·.1), x ∈ D'.map (·.1)
  | [], D, g => ⟨D, g, (fun u hu => by cases hu), fun x hx => hx⟩
  | u :: us, D, g => by
    by_cases h : letsM b (l.map (·.1)) u = true ∧ u ∉ D.map (·.1)
    · obtain ⟨D', g', h1, h2⟩ := going_fill hd us _ (g.put h.1 h.2 (hd u))
      have sub : ∀ x ∈ D.map (·.1), x ∈ (D ++ [(u, tAt l l.length + d u)]).map (·.1) := fun x hx => by rw [List.map_append]; exact List.mem_append_left _ hx
      refine ⟨D', g', fun v hv hl => ?_, fun x hx => h2 x (sub x hx)⟩
      rcases List.mem_cons.mp hv with rfl | hv
      · exact h2 _ (by rw [List.map_append]; simp)
      · exact h1 v hv hl
    · obtain ⟨D', g', h1, h2⟩ := going_fill hd us D g
      refine ⟨D', g', fun v hv hl => ?_, h2⟩
      rcases List.mem_cons.mp hv with rfl | hv
      · exact h2 _ (Decidable.byContradiction fun z => h ⟨hl, z⟩)
      · exact h1 v hv hl
theorem min_ex : ∀ (D : List (Str × Int)), D ≠ [] → ∃ p ∈ D, ∀ q ∈ D, p.2 ≤ q.2
  | [], h => absurd rfl h
  | [p], _ => ⟨p, List.mem_cons_self, fun q hq => by rw [List.mem_singleton.mp hq]; exact Int.le_refl _⟩
  | p :: q :: D, _ => by
    obtain ⟨m, hm, h⟩ := min_ex (q :: D) (by simp)
    by_cases c : p.2 ≤ m.2
    · refine ⟨p, List.mem_cons_self, fun z hz => ?_⟩
      rcases List.mem_cons.mp hz with rfl | hz
      · exact Int.le_refl _
      · exact Int.le_trans c (h z hz)
    · refine ⟨m, List.mem_cons_of_mem _ hm, fun z hz => ?_⟩
      rcases List.mem_cons.mp hz with rfl | hz
      · omega
      · exact h z hz
theorem clock_from {b : SBk} {d : Str → Int} (hd : ∀ u, 0 ≤ d u) : ∀ (k : Nat) (l D : List (Str × Int)), (unitsM b).length - l.length ≤ k → Going b d l D l.length → ∃ l', Clock b d l' := fun k => by
  induction k with
  | zero =>
    intro l D hk g
    obtain ⟨D', g', h1, _⟩ := going_fill hd (unitsM b) D g
    have ga := g'.all fun u hu => h1 u (lets_unit hu) hu
    by_cases c : ∀ p ∈ D', p.1 ∈ l.map (·.1)
    · exact ⟨l, ga.clock c⟩
    · exfalso
      obtain ⟨p, hp⟩ := Classical.not_forall.mp c
      obtain ⟨hp, hn⟩ := Classical.not_imp.mp hp
      obtain ⟨m, hm, hmin⟩ := min_ex (D'.filter fun p => !decide (p.1 ∈ l.map (·.1))) (fun z => by
        have : p ∈ D'.filter fun p => !decide (p.1 ∈ l.map (·.1)) := List.mem_filter.mpr ⟨hp, by simpa using hn⟩
        rw [z] at this; cases this)
      obtain ⟨hm1, hm2⟩ := List.mem_filter.mp hm
      have gn := ga.next hm1 (by simpa using hm2) fun q hq hqn => hmin q (List.mem_filter.mpr ⟨hq, by simpa using hqn⟩)
      have := nodup_len gn.row.nodup gn.row.units
      rw [List.length_map, List.length_append, List.length_singleton] at this
      omega
  | succ k ih =>
    intro l D hk g
    obtain ⟨D', g', h1, _⟩ := going_fill hd (unitsM b) D g
    have ga := g'.all fun u hu => h1 u (lets_unit hu) hu
    by_cases c : ∀ p ∈ D', p.1 ∈ l.map (·.1)
    · exact ⟨l, ga.clock c⟩
    · obtain ⟨p, hp⟩ := Classical.not_forall.mp c
      obtain ⟨hp, hn⟩ := Classical.not_imp.mp hp
      obtain ⟨m, hm, hmin⟩ := min_ex (D'.filter fun p => !decide (p.1 ∈ l.map (·.1))) (fun z => by
        have : p ∈ D'.filter fun p => !decide (p.1 ∈ l.map (·.1)) := List.mem_filter.mpr ⟨hp, by simpa using hn⟩
        rw [z] at this; cases this)
      obtain ⟨hm1, hm2⟩ := List.mem_filter.mp hm
      have gn := ga.next hm1 (by simpa using hm2) fun q hq hqn => hmin q (List.mem_filter.mpr ⟨hq, by simpa using hqn⟩)
      have := nodup_len gn.row.nodup gn.row.units
      rw [List.length_map, List.length_append, List.length_singleton] at this
      exact ih (l ++ [m]) D' (by rw [List.length_append, List.length_singleton]; omega) (by rw [List.length_append, List.length_singleton]; exact gn)
theorem clock_ex {b : SBk} {d : Str → Int} (hd : ∀ u, 0 ≤ d u) : ∃ l, Clock b d l := clock_from hd _ [] [] (Nat.le_refl _) (going_zero b d)
/-- something comes later -/
def Lat (a b : SBk) (d : Str → Int) : Prop := ∃ la lb, Clock a d la ∧ Clock b d lb ∧ ∃ p ∈ lb, ∀ t, (p.1, t) ∈ la → p.2 < t
theorem lat_iff {a b : SBk} {d : Str → Int} (hd : ∀ u, 0 ≤ d u) {la lb : List (Str × Int)} (ca : Clock a d la) (cb : Clock b d lb) : (∃ p ∈ lb, ∀ t, (p.1, t) ∈ la → p.2 < t) ↔ Lat a b d := by
  constructor
  · intro h
    exact ⟨la, lb, ca, cb, h⟩
  · rintro ⟨la', lb', ca', cb', p, hp, h⟩
    obtain ⟨t, ht, hle⟩ := not_later (SubB.refl b) hd cb cb' p hp
    refine ⟨(p.1, t), ht, fun t' ht' => ?_⟩
    obtain ⟨t2, ht2, hle2⟩ := not_later (SubB.refl a) hd ca' ca (p.1, t') ht'
    have := h t2 ht2
    show t < t'
    have e : t2 ≤ t' := hle2
    omega
theorem lat_sub {a b : SBk} {d : Str → Int} (hd : ∀ u, 0 ≤ d u) (h : SubB b a) : ¬ Lat a b d := fun ⟨la, lb, ca, cb, p, hp, hh⟩ => by
  obtain ⟨t, ht, hle⟩ := not_later h hd ca cb p hp
  have := hh t ht
  omega
theorem lat_not {a b : SBk} {d : Str → Int} {s : List Str} (hb : Stand b s) (ha : ¬ Stand a s) (h0 : ∀ u ∈ s, d u = 0) (h1 : ∀ u, u ∉ s → 1 ≤ d u) : Lat a b d := by
  have hd : ∀ u, 0 ≤ d u := fun u => by
    by_cases h : u ∈ s
    · rw [h0 u h]; exact Int.le_refl _
    · have := h1 u h; omega
  obtain ⟨la, ca⟩ := clock_ex (b := a) hd
  obtain ⟨lb, cb⟩ := clock_ex (b := b) hd
  exact ⟨la, lb, ca, cb, later_by hb ha h0 h1 ca cb⟩
end Up
end
section
set_option Elab.async false
set_option linter.all false
set_option maxRecDepth 100000
set_option maxHeartbeats 4000000
/-! _law_grid. -/
namespace Up
open PySem PySem.Spec PyProof.Rows L2
section
variable {K : PySem.W.Frag} {σ : L2.St} {H : Hp} {ta tb : TE} {tr : TA}
theorem srcM_zip {ds es : List PyData} (hl : ds.length = es.length) (h1 : Ev ta σ H (IsL ds)) (h2 : Ev tb σ H (IsL es)) : SrcM LEx (iZip K (tCons ta (tCons tb tNil))) σ H (ds.zip es) (fun d x H1 => Tt H1 x (.tuple [d.1, d.2])) := fun H0 e C c =>
  ea_two (mono_l _) h1 h2 H0 e _ fun vs H1 e1 ⟨v, w, hvs, ⟨a, xs, hv, ha, tx⟩, ⟨b, ys, hw, hb, ty⟩⟩ => by
    subst hv hw
    have lx := tx.len
    have ly := ty.len
    refine ⟨a, b, xs, ys, hvs, sq_l ha, sq_l hb, c (Itz K a b) H1 (fun H2 => (H2 a = some (.lst xs) ∧ TtA H2 xs ds) ∧ (H2 b = some (.lst ys) ∧ TtA H2 ys es)) (YPair (fun i => xs[i]?) (fun i => ys[i]?)) e1 ?_ (fun H2 H3 e3 g => ⟨⟨e3.2 _ _ g.1.1, g.1.2.tex e3.1⟩, ⟨e3.2 _ _ g.2.1, g.2.2.tex e3.1⟩⟩) ⟨⟨ha, tx⟩, ⟨hb, ty⟩⟩ fun i q x H2 H3 hbi g y => ?_⟩
    · refine (walk_zip (xs := xs) (ys := ys) (by rw [List.length_zip, lx, ly])).mono (fun H2 g => ⟨sq_l g.1.1, sq_l g.2.1⟩) fun i H2 x H3 _ _ y => y
    · obtain ⟨T, x1, y1, rfl, hT, rfl, hx, hy⟩ := y
      obtain ⟨d, hd, td⟩ := g.1.2.get hx
      obtain ⟨e', he, te⟩ := g.2.2.get hy
      have : q = (d, e') := by
        rw [List.getElem?_zip_eq_some] at hbi
        obtain ⟨z1, z2⟩ := hbi
        rw [hd] at z1
        rw [he] at z2
        exact Prod.ext (Option.some.inj z1).symm (Option.some.inj z2).symm
      subst this
      exact ⟨same_new hT, .tup upd_same (.cons (td.same (same_new hT)) (.cons (te.same (same_new hT)) .nil))⟩
theorem srcM_rng2 {n : Nat} (h : EvA tr σ H (fun vs _ => vs = [.int 0, .int (n : Int)])) (hn : n ≤ 100000) : SrcM (fun _ _ => True) (iRng2 tr) σ H (List.range n) (fun i x _ => x = .int (i : Int)) := fun H0 e C c =>
  h H0 e _ fun vs H1 e1 hv => by
    refine ⟨0, (n : Int), hv, by omega, ?_⟩
    rw [Int.sub_zero, Int.toNat_natCast]
    refine c _ H1 (fun _ => True) (YFn fun i => .int (0 + (i : Int))) e1 (by rw [List.length_range]; exact walk_range) (fun _ _ _ _ => True.intro) True.intro fun i b x H2 H3 hb _ y => ?_
    obtain ⟨e3, y⟩ := y
    subst e3
    obtain ⟨hi, hb⟩ := List.getElem?_eq_some_iff.mp hb
    rw [List.getElem_range] at hb
    subst hb
    refine ⟨Same.refl _, y.trans ?_⟩
    show V.int (0 + _) = _
    rw [Int.zero_add]
end
theorem zip_maps {α β γ : Type} (f : α → β) (g : α → γ) : ∀ l : List α, (l.map f).zip (l.map g) = l.map fun a => (f a, g a)
  | [] => rfl
  | a :: l => by rw [List.map_cons, List.map_cons, List.map_cons, List.zip_cons_cons, zip_maps f g l]
section
variable {X : Cx} {K : PySem.W.Frag}
theorem ix_tupK (h : X.K = K) : IxR X (rIxT K) := by subst h; exact ix_tup
theorem ix_listK (h : X.K = K) : IxR X (rIxL K) := by subst h; exact ix_list
end
section
variable {P : Program} {w : World} {K : PySem.W.Frag} {mg : Str → Option Value} {base : Heap}
def spGrid : Sp := SpD (α := List Str × Nat) (fun a vs H => ∃ v x, vs = [v, x] ∧ IsL (a.1.map fun u => durD (u, 0)) v H ∧ IsL (a.1.map fun u => durD (u, (a.2 : Int))) x H ∧ a.1.length ≤ 4 ∧ a.2 ≤ 2)
  (fun a v H => ∃ L : List (List (Str × Int)), IsLR RF L v H ∧ L.length ≤ 81 ∧ ∀ f, f ∈ L ↔ f.map (·.1) = a.1 ∧ ∀ p ∈ f, 0 ≤ p.2 ∧ p.2 ≤ (a.2 : Int))
theorem k_lgrid (T : Txt K mg) : Kn P w K mg base CX0 1 "_law_grid" spGrid := by
  refine T.d_law_grid.kn c_law_grid (fun vs H Q E h => ?_) (fun f cdv A outer s H vs Q E hr h => ?_)
  · obtain ⟨a, ⟨v, x, rfl, _⟩, _⟩ := h
    rfl
  · obtain ⟨⟨us, m⟩, ⟨v, x, rfl, hv, hx, h4, hm2⟩, q⟩ := h
    simp only at hv hx h4 hm2 q
    refine ⟨_, pss_cons (ps_asg (pe_lst (pa_cons (pe_tup pa_nil) pa_nil)) (pgn 2 c_law_grid.nd))
      (pss_cons (ps_for PassesOwn.never (by rfl) (pi_zip (by rfl) T.b_zip (pa_cons (pv 0) (pa_cons (pv 1) pa_nil))) (pg_tup rfl (pgs_cons (pgn 3 c_law_grid.nd) (pgs_cons (pgn 4 c_law_grid.nd) pgs_nil)))
        (pss_cons (ps_asg (pe_lst pa_nil) (pgn 5 c_law_grid.nd))
        (pss_cons (ps_for PassesOwn.never (by rfl) (pi_range2 (by rfl) T.b_range (pa_cons (pe_ix ix_tup (pv 3) pe_int (fun _ _ => rfl)) (pa_cons (pe_op op_add (pe_ix ix_tup (pv 4) pe_int (fun _ _ => rfl)) pe_int) pa_nil))) (pgn 6 c_law_grid.nd)
          (pss_one (ps_asg (pe_op op_cat (pv 5) (pe_lc (own := [("_law_head_so", 7)]) (g := gName 7) (by rfl) c_law_grid.nd (pi_list (pv 2)) (blkOk_by (N := ["_law_lows_so", "_law_highs_so", "_law_found", "_law_own", "_law_its", "_law_later_here", "_law_much", "_law_head_so"]) (sc := defScope s_law_grid) (by decide +kernel)) (fun _ _ _ _ _ => pgn 7 c_law_grid.nd)
            (fun _ _ _ _ _ => pts_nil) (fun _ _ _ _ _ => pe_op (op_catF (K := K) (by rfl)) (pv 7) (pe_tupF (pa_cons (pe_tup (pa_cons (pe_ix (ix_tupK (K := K) (by rfl)) (pv 3) pe_int (fun _ _ => rfl)) (pa_cons (pv 6) pa_nil))) pa_nil))))) (pgn 5 c_law_grid.nd))))
        (pss_one (ps_asg (pv 5) (pgn 2 c_law_grid.nd))))))
      (pss_one (ps_ret (pv 2)))), ?_⟩
    refine q_set (i := 2) (P := IsLR RF [[]]) (fun H1 e Q q => ⟨Nat.zero_le _, fun a ha => ⟨(by show 1 ≤ sizeLine; decide), fun l hl => q _ _ ((same_new ha).trans (same_new hl)) ⟨l, [.ref a], rfl, upd_same, .cons (.inr ⟨rfl, a, rfl, same_new hl _ _ upd_same⟩) .nil⟩⟩⟩) fun fv H1 e1 hfv => ?_
    have zipE := srcM_zip (K := K) (ta := tVar 0) (tb := tVar 1) (σ := [some v, some x, some fv, none, none, none, none, none]) (H := H1) (ds := us.map fun u => durD (u, 0)) (es := us.map fun u => durD (u, (m : Int))) (by rw [List.length_map, List.length_map]) (ev_vp (i := 0) (v := v) rfl (mono_l _) (hv.same e1)) (ev_vp (i := 1) (v := x) rfl (mono_l _) (hx.same e1))
    rw [zip_maps] at zipE
    refine s_for (srcM_map (fun u : Str => (durD (u, 0), durD (u, (m : Int)))) zipE) (fun HL i σ' H' => ∃ (L : List (List (Str × Int))) (fv : V) (l3 l4 l5 l6 l7 : Option V), σ' = [some v, some x, some fv, l3, l4, l5, l6, l7] ∧ Same HL H' ∧ IsLR RF L fv H' ∧ L.length ≤ 3 ^ i ∧ ∀ f, f ∈ L ↔ f.map (·.1) = us.take i ∧ ∀ p ∈ f, 0 ≤ p.2 ∧ p.2 ≤ (m : Int))
      (fun HL eL => ⟨[[]], fv, none, none, none, none, none, rfl, Same.refl _, mono_lr stab_rf _ _ _ _ eL hfv, Nat.le_refl 1, fun f => ?_⟩) (fun HL i σ' H' ⟨_, _, _, _, _, _, _, _, t, _⟩ => lex_same t) ?_ ?_
    · rw [List.mem_singleton, List.take_zero]
      constructor
      · rintro rfl
        exact ⟨rfl, fun p hp => by cases hp⟩
      · rintro ⟨h, _⟩
        exact List.map_eq_nil_iff.mp h
    · rintro HL eL i u y σ' H3 H4 hbi ⟨L, fv, l3, l4, l5, l6, l7, rfl, sL, hfv, lL, mL⟩ e4 hy
      have iu : i < us.length := (List.getElem?_eq_some_iff.mp hbi).1
      have L27 : L.length ≤ 27 := Nat.le_trans lL (Nat.pow_le_pow_right (n := 3) (j := 3) (by decide) (by omega))
      refine pair_go hy fun ov iv to ti => ?_
      refine q_set (i := 5) (P := IsLR RF []) (fun H1 e Q q => ⟨Nat.zero_le _, fun l hl => q _ _ (same_new hl) ⟨l, [], rfl, upd_same, .nil⟩⟩) fun lv H5 e5 hlv => ?_
      have to5 := to.same e5
      have ti5 := ti.same e5
      have rngE : EvA (tCons (tOp (rIxT K) (tVar 3) (tC (.int 1))) (tCons (tOp (rI0 fun i j => .int (i + j)) (tOp (rIxT K) (tVar 4) (tC (.int 1))) (tC (.int 1))) tNil)) [some v, some x, some fv, some ov, some iv, some lv, l6, l7] H5 (fun vs _ => vs = [.int 0, .int ((m + 1 : Nat) : Int)]) := fun H6 e Q q =>
        ea_two (mono_t (.int 0)) (ev_ixT (K := K) (i := 1) (ev_vt (i := 3) (v := ov) rfl to5) ev_c rfl) (ev_I0 (ev_ixT (K := K) (i := 1) (ev_vt (i := 4) (v := iv) rfl ti5) ev_c rfl).vint (ev_c (v := .int 1))) H6 e Q fun vs H7 e7 ⟨y1, y2, h1, h2, h3⟩ => q vs H7 e7 (by rw [h1, tt_int h2, h3]; simp)
      refine s_for (srcM_rng2 rngE (by omega)) (fun HM k σ' H' => ∃ (M : List (List (Str × Int))) (lv : V) (l6 l7 : Option V), σ' = [some v, some x, some fv, some ov, some iv, some lv, l6, l7] ∧ Same HM H' ∧ IsLR RF M lv H' ∧ M.length ≤ L.length * k ∧ ∀ f, f ∈ M ↔ ∃ l ∈ L, ∃ j, j < k ∧ f = l ++ [(u, (j : Int))])
        (fun HM eM => ⟨[], lv, l6, l7, rfl, Same.refl _, mono_lr stab_rf _ _ _ _ eM hlv, Nat.zero_le _, fun f => by simp⟩) (fun _ _ _ _ _ => trivial) ?_ ?_
      · rintro HM eM k k' z σ' H6 H7 hbk ⟨M, lv, l6, l7, rfl, sM, hlv, lM, mM⟩ e7 hz
        have ek : k' = k := by
          obtain ⟨hk, e⟩ := List.getElem?_eq_some_iff.mp hbk
          rw [List.getElem_range] at e
          exact e.symm
        subst ek
        have km : k' < m + 1 := by
          have := (List.getElem?_eq_some_iff.mp hbk).1
          rwa [List.length_range] at this
        subst hz
        have s7 : Same H4 H7 := e5.trans (eM.trans (sM.trans e7))
        have lcE := ev_lcR (S := stab_rf) (te := tOp (rCatF K) (tVar 7) (tTupF (tCons (tTup (tCons (tOp (rIxT K) (tVar 3) (tC (.int 0))) (tCons (tVar 6) tNil))) tNil))) (tt := tYes) (g := gName 7) (vs := [7]) (σ := [some v, some x, some fv, some ov, some iv, some lv, some (.int (k' : Int)), l7]) (H := H7) (src_lr (K := K) (te := tVar 2) stab_rf (ev_vp (i := 2) (v := fv) (P := IsLR RF L) rfl (mono_lr stab_rf L) (mono_lr stab_rf _ _ _ _ (e4.trans s7) hfv))) (fun _ => true) (fun l => l ++ [(u, (k' : Int))]) (by omega) fun l hl hd H8 e8 hh C c => by
          refine c [some v, some x, some fv, some ov, some iv, some lv, some (.int (k' : Int)), some hd] _ (Same.refl _) rfl et_yes fun _ => ?_
          have l4 : l.length ≤ 4 := by
            have := congrArg List.length ((mL l).mp hl).1
            rw [List.length_map, List.length_take] at this
            omega
          refine (ev_catF (K := K) (l := l) (m := [(u, (k' : Int))]) (by simp) (ev_vp (i := 7) (v := hd) (P := RF l) rfl (fun _ _ _ e h => stab_rf.same _ _ _ _ e h) hh) (ev_tupF (ts_cons (ev_tup (ts_cons (ev_ixT (K := K) (i := 0) (ev_vt (i := 3) (v := ov) rfl (to5.same ((eM.trans (sM.trans e7)).trans e8))) ev_c rfl) (ts_cons (ev_var (i := 6) (v := .int (k' : Int)) rfl).tint ts_nil)) (by show 2 ≤ 100000; decide)) ts_nil) (by show 1 ≤ 100000; decide)) (by show l.length + 1 ≤ 100000; omega)).imp fun v H' _ h => .inl h
        have ly : (L.filter fun _ => true).map (fun l => l ++ [(u, (k' : Int))]) = L.map fun l => l ++ [(u, (k' : Int))] := by rw [filter_yes]
        rw [ly] at lcE
        have bnd : L.length * k' ≤ 27 * 3 := Nat.mul_le_mul L27 (by omega)
        refine name_go (s_set (ev_catR stab_rf (ev_vp (i := 5) (v := lv) (P := IsLR RF M) rfl (mono_lr stab_rf M) (mono_lr stab_rf _ _ _ _ e7 hlv)) lcE (by rw [List.length_map]; omega)) fun nv H8 e8 hnv => ?_)
        refine ⟨_, nv, _, _, rfl, (sM.trans e7).trans e8, hnv, by rw [List.length_append, List.length_map, Nat.mul_succ]; omega, fun f => ?_⟩
        rw [List.mem_append, mM, List.mem_map]
        constructor
        · rintro (⟨l, hl, j, hj, rfl⟩ | ⟨l, hl, rfl⟩)
          · exact ⟨l, hl, j, by omega, rfl⟩
          · exact ⟨l, hl, k', by omega, rfl⟩
        · rintro ⟨l, hl, j, hj, rfl⟩
          by_cases hk : j < k'
          · exact .inl ⟨l, hl, j, hk, rfl⟩
          · have : j = k' := by omega
            subst this
            exact .inr ⟨l, hl, rfl⟩
      · rintro HM eM σ' H6 ⟨M, lv, l6, l7, rfl, sM, hlv, lM, mM⟩
        rw [List.length_range] at lM mM
        refine s_set (ev_vp (i := 5) (v := lv) (P := IsLR RF M) (σ := [some v, some x, some fv, some ov, some iv, some lv, l6, l7]) rfl (mono_lr stab_rf M) hlv) fun nv H7 e7 hnv => ?_
        refine ⟨M, nv, _, _, _, _, _, rfl, (sL.trans e4).trans (e5.trans (eM.trans (sM.trans e7))), hnv, ?_, fun f => ?_⟩
        · have : L.length * (m + 1) ≤ 3 ^ i * 3 := Nat.mul_le_mul lL (by omega)
          rw [Nat.pow_succ]
          omega
        · rw [mM, take_more hbi]
          constructor
          · rintro ⟨l, hl, j, hj, rfl⟩
            obtain ⟨h1, h2⟩ := (mL l).mp hl
            refine ⟨by rw [List.map_append, h1]; rfl, fun p hp => ?_⟩
            rcases List.mem_append.mp hp with h | h
            · exact h2 p h
            · rw [List.mem_singleton.mp h]
              constructor
              · show (0 : Int) ≤ (j : Int); omega
              · show (j : Int) ≤ (m : Int); omega
          · rintro ⟨h1, h2⟩
            rcases List.eq_nil_or_concat f with rfl | ⟨l, p, rfl⟩
            · exact absurd h1 (by simp)
            · rw [List.concat_eq_append] at h1 h2 ⊢
              rw [List.map_append] at h1
              obtain ⟨h3, h5⟩ := List.append_inj' h1 rfl
              have hp := h2 p (by simp)
              have e5 : p.1 = u := by
                have : [p.1] = [u] := h5
                injection this
              refine ⟨l, (mL l).mpr ⟨h3, fun z hz => h2 z (List.mem_append_left _ hz)⟩, p.2.toNat, by omega, ?_⟩
              have e6 : ((p.2.toNat : Nat) : Int) = p.2 := Int.toNat_of_nonneg hp.1
              rw [e6, ← e5]
    · rintro HL eL σ' H3 ⟨L, fv, l3, l4, l5, l6, l7, rfl, sL, hfv, lL, mL⟩
      rw [List.take_length] at mL
      show tRet (tVar 2) { nx := fun _ H' => Q .non H', rt := Q } [some v, some x, some fv, l3, l4, l5, l6, l7] H3
      refine s_ret (ev_vp (i := 2) (v := fv) (P := IsLR RF L) rfl (mono_lr stab_rf L) hfv) fun v' H4 e4 h4' => q v' H4 (e1.trans (eL.trans (sL.trans e4))) ⟨L, h4', Nat.le_trans lL (Nat.pow_le_pow_right (n := 3) (j := 4) (by decide) h4), mL⟩
end
end Up
end
section
set_option Elab.async false
set_option linter.all false
set_option maxRecDepth 100000
set_option maxHeartbeats 4000000
/-! _law_due. -/
namespace Up
open PySem PySem.Spec PyProof.Rows L2
abbrev dursD (l : List (Str × Int)) : PyData := .tuple (l.map durD)
theorem RF.dp {K : PySem.W.Frag} {l : List (Str × Int)} {x : V} {H : Hp} (h : RF l x H) : Dp K H x (dursD l) := by
  rcases h with h | ⟨rfl, a, rfl, ha⟩
  · exact h.dp
  · exact .tup (sq_t ha) .nil
theorem rf_all {K : PySem.W.Frag} {H : Hp} : ∀ {xs : List V} {L : List (List (Str × Int))}, Paired (fun x l => RF l x H) xs L → DpAll K H xs (L.map dursD)
  | _, _, .nil => .nil
  | _, _, .cons h t => .cons h.dp (rf_all t)
theorem lr_dp {K : PySem.W.Frag} {L : List (List (Str × Int))} {v : V} {H : Hp} (h : IsLR RF L v H) : Dp K H v (.list (L.map dursD)) := by
  obtain ⟨p, xs, rfl, hp, t⟩ := h
  exact .lst (sq_l hp) (rf_all t)
theorem lay_durs {l : List (Str × Int)} (h : ∀ p ∈ l, PyData.strOk p.1 = true) : (dursD l).canLay0 = true ∧ (dursD l).depth ≤ 60 := by
  have k : PyData.canLayAll0 (l.map durD) = true ∧ PyData.depthAll (l.map durD) ≤ 2 := by
    induction l with
    | nil => simp [PyData.canLayAll0, PyData.depthAll]
    | cons p l ih =>
      obtain ⟨a, b⟩ := ih fun q hq => h q (List.mem_cons_of_mem _ hq)
      rw [List.map_cons, PyData.canLayAll0, PyData.depthAll, a]
      have hp := h p List.mem_cons_self
      have e1 : (durD p).canLay0 = true := by unfold durD; simp [PyData.canLay0, PyData.canLayAll0, hp]
      have e2 : (durD p).depth ≤ 2 := by unfold durD; simp [PyData.depth, PyData.depthAll]
      rw [e1]
      exact ⟨rfl, by omega⟩
  unfold dursD
  rw [PyData.canLay0, PyData.depth]
  exact ⟨k.1, by omega⟩
section
variable {P : Program} {w : World} {K : PySem.W.Frag} {mg : Str → Option Value} {base : Heap}
open Classical in
noncomputable def subB (b a : SBk) : Bool := decide (SubB b a)
open Classical in
theorem subB_iff {b a : SBk} : subB b a = true ↔ SubB b a := by unfold subB; exact decide_eq_true_iff
def spDue : Sp := SpD (α := (SBk × SBk) × Nat) (fun a vs H => ∃ v x, vs = [v, x, .int (a.2 : Int)] ∧ Tt H v (bookD a.1.1) ∧ Tt H x (bookD a.1.2) ∧ LBk a.1.1 ∧ LBk a.1.2 ∧ unitsM a.1.2 = unitsM a.1.1 ∧ a.1.1.length ≤ 4 ∧ a.1.1 ≠ [] ∧ 1 ≤ a.2 ∧ a.2 ≤ 2) (fun a v _ => v = .bl (subB a.1.2 a.1.1))
open Classical in
theorem k_ldue (T : Txt K mg) : Kn P w K mg base CX0 5 "_law_due" spDue := by
  have G1 := k_lgrid (P := P) (w := w) (base := base) T
  have G2 := k_llater (P := P) (w := w) (base := base) T
  refine T.d_law_due.kn c_law_due (fun vs H Q E h => ?_) (fun f cdv A outer s H vs Q E hr h => ?_)
  · obtain ⟨a, ⟨v, x, rfl, _⟩, _⟩ := h
    rfl
  · obtain ⟨⟨⟨a, b⟩, m⟩, ⟨v, x, rfl, hv, hx, ha, hb, hu, h4, hne, hm1, hm2⟩, q⟩ := h
    simp only at hv hx ha hb hu h4 hne hm1 hm2 q
    have hun := hu_of hr
    refine ⟨_, pss_cons (ps_setLc (own := [("_law_own", 4)]) (g := gName 4) (i := 3) (by rfl) c_law_due.nd (by rfl) (by rfl) (sw_true rfl rfl rfl (by decide +kernel)) (pi_tup (pv 0)) (blkOk_by (N := ["_law_kit_here", "_law_mate_here", "_law_most_so", "_law_tags_here", "_law_own", "_law_every", "_law_tag"]) (sc := defScope s_law_due) (by decide +kernel)) (fun _ _ _ _ _ => pgn 4 c_law_due.nd)
        (fun _ _ _ _ _ => pts_nil) (fun _ _ _ _ _ => pe_ix (ix_tupK (K := K) (by rfl)) (pv 4) pe_int (fun _ _ => rfl)))
      (pss_cons (ps_asg (pe_kn G1 (hr.mono (by decide)) pass0 (pa_cons (pe_lc (own := [("_law_tag", 6)]) (g := gName 6) (by rfl) c_law_due.nd (pi_list (pv 3)) (blkOk_by (N := ["_law_kit_here", "_law_mate_here", "_law_most_so", "_law_tags_here", "_law_own", "_law_every", "_law_tag"]) (sc := defScope s_law_due) (by decide +kernel)) (fun _ _ _ _ _ => pgn 6 c_law_due.nd) (fun _ _ _ _ _ => pts_nil) (fun _ _ _ _ _ => pe_tup (pa_cons (pv 6) (pa_cons pe_int pa_nil))))
          (pa_cons (pe_lc (own := [("_law_tag", 6)]) (g := gName 6) (by rfl) c_law_due.nd (pi_list (pv 3)) (blkOk_by (N := ["_law_kit_here", "_law_mate_here", "_law_most_so", "_law_tags_here", "_law_own", "_law_every", "_law_tag"]) (sc := defScope s_law_due) (by decide +kernel)) (fun _ _ _ _ _ => pgn 6 c_law_due.nd) (fun _ _ _ _ _ => pts_nil) (fun _ _ _ _ _ => pe_tup (pa_cons (pv 6) (pa_cons (pv 2) pa_nil)))) pa_nil))) (pgn 5 c_law_due.nd))
      (pss_one (ps_ret (pe_cmpR (op_eqD hr.units) (pe_lc (own := [("_law_own", 4)]) (g := gName 4) (by rfl) c_law_due.nd (pi_list (pv 5)) (blkOk_by (N := ["_law_kit_here", "_law_mate_here", "_law_most_so", "_law_tags_here", "_law_own", "_law_every", "_law_tag"]) (sc := defScope s_law_due) (by decide +kernel)) (fun _ _ _ _ _ => pgn 4 c_law_due.nd)
        (fun _ _ _ _ _ => pts_one (pt_val (pe_kn G2 hr pass0 (pa_cons (pv 0) (pa_cons (pv 1) (pa_cons (pv 4) pa_nil)))))) (fun _ _ _ _ _ => pv 4)) (pe_lst pa_nil) (by rfl))))), ?_⟩
    have ulen : (unitsM a).length = a.length := by unfold unitsM; rw [List.length_map]
    have une : unitsM a ≠ [] := fun z => hne (by
      have := congrArg List.length z
      rw [ulen] at this
      exact List.length_eq_zero_iff.mp this)
    have tagsE := ev_lc (te := tOp (rIxT K) (tVar 4) (tC (.int 0))) (tt := tYes) (g := gName 4) (vs := [4]) (σ := start ["_law_kit_here", "_law_mate_here", "_law_most_so", "_law_tags_here", "_law_own", "_law_every", "_law_tag"] [v, x, .int (m : Int)]) (H := H) (src_map pairD (src_tup (K := K) (te := tVar 0) (ds := a.map pairD) (ev_vt (i := 0) (v := v) rfl hv))) (fun _ => true) (fun p => .str p.1) (by omega) fun p hp y H1 e hy C c =>
      c [some v, some x, some (.int (m : Int)), none, some y, none, none] _ (Same.refl _) rfl et_yes fun _ => ev_ixT (K := K) (i := 0) (ev_vt (i := 4) (v := y) rfl hy) ev_c rfl
    rw [filter_yes, show a.map (fun p => PyData.str p.1) = (unitsM a).map PyData.str from by unfold unitsM; rw [List.map_map]; rfl] at tagsE
    refine q_set tagsE fun tv H1 e1 htv => ?_
    have rowE : ∀ (j : Int) (te : TE), (∀ (σ2 : L2.St) (H2 : Hp), σ2[2]? = some (some (.int (m : Int))) → Ev te σ2 H2 (IsT (.int j))) → ∀ l5 : Option V, Ev (tLc (iList K (tVar 3)) (gName 6) tYes (tTup (tCons (tVar 6) (tCons te tNil))) [6]) [some v, some x, some (.int (m : Int)), some tv, none, l5, none] H1 (IsL ((unitsM a).map fun u => durD (u, j))) := fun j te hte l5 => by
      have key := ev_lc (te := tTup (tCons (tVar 6) (tCons te tNil))) (tt := tYes) (g := gName 6) (vs := [6]) (σ := [some v, some x, some (.int (m : Int)), some tv, none, l5, none]) (H := H1) (src_strsL (K := K) (te := tVar 3) (ev_vp (i := 3) (v := tv) (P := IsL ((unitsM a).map PyData.str)) rfl (mono_l _) htv)) (fun _ => true) (fun u => durD (u, j)) (by omega) fun u hu z H2 e2 hz C c => by
        subst hz
        exact c [some v, some x, some (.int (m : Int)), some tv, none, l5, some (.str u)] _ (Same.refl _) rfl et_yes fun _ => ev_tup (ts_cons (ev_var (i := 6) (v := .str u) rfl).tstr (ts_cons (hte _ _ rfl) ts_nil)) (by show 2 ≤ 100000; decide)
      rw [filter_yes] at key
      exact key
    have gridE := (ev_kn (ea_two (mono_l _) (rowE 0 (tC (.int 0)) (fun _ _ _ => ev_int) none) (rowE (m : Int) (tVar 2) (fun σ2 H2 h => (ev_var h).tint) none)) (unitsM a, m) (fun vs H2 _ ⟨v, w, h1, h2, h3⟩ => ⟨v, w, h1, h2, h3, (by omega : (unitsM a).length ≤ 4), hm2⟩) (fun v H2 _ h => h) : Ev (tCall spGrid [] E0 (tCons (tLc (iList K (tVar 3)) (gName 6) tYes (tTup (tCons (tVar 6) (tCons (tC (.int 0)) tNil))) [6]) (tCons (tLc (iList K (tVar 3)) (gName 6) tYes (tTup (tCons (tVar 6) (tCons (tVar 2) tNil))) [6]) tNil))) [some v, some x, some (.int (m : Int)), some tv, none, none, none] H1
      (fun v H => ∃ L : List (List (Str × Int)), IsLR RF L v H ∧ L.length ≤ 81 ∧ ∀ f, f ∈ L ↔ f.map (·.1) = unitsM a ∧ ∀ p ∈ f, 0 ≤ p.2 ∧ p.2 ≤ (m : Int)))
    refine q_set gridE fun ev H2 e2 ⟨L, hL, lL, mL⟩ => ?_
    have s2 := e1.trans e2
    have lcE := ev_lcR (S := stab_rf) (te := tVar 4) (tt := tB (tCall spLLater [] E0 (tCons (tVar 0) (tCons (tVar 1) (tCons (tVar 4) tNil))))) (g := gName 4) (vs := [4]) (σ := [some v, some x, some (.int (m : Int)), some tv, none, some ev, none]) (H := H2) (src_lr (K := K) (te := tVar 5) stab_rf (ev_vp (i := 5) (v := ev) (P := IsLR RF L) rfl (mono_lr stab_rf L) hL)) (fun f => decide (Lat a b (dOf f))) (fun f => f) (by omega) fun f hf y H3 e3 hy C c => by
      obtain ⟨f1, f2⟩ := (mL f).mp hf
      have hfz : IsFz (f.map durD) y H3 := hy.elim id fun ⟨z, _⟩ => absurd (by rw [z] at f1; exact f1.symm) une
      refine c [some v, some x, some (.int (m : Int)), some tv, some y, some ev, none] _ (Same.refl _) rfl ?_ fun _ => ev_vp (i := 4) (v := y) (P := RF f) rfl (fun _ _ _ e h => stab_rf.same _ _ _ _ e h) hy
      refine et_B (ev_kn (ea_cons (mono_t (bookD a)) (ev_vt (i := 0) (v := v) rfl (hv.same (s2.trans e3))) (ea_two (mono_t (bookD b)) (ev_vt (i := 1) (v := x) rfl (hx.same (s2.trans e3))) (ev_vp (i := 4) (v := y) (P := IsFz (f.map durD)) rfl (mono_fz _) hfz))) ((a, b), f) (fun vs H6 _ ⟨v1, r, h1, h2, v2, v3, h3, h4, h5⟩ => ⟨v1, v2, v3, by rw [h1, h3], h2, h4, ha, hb, h5, f1, hu, fun p hp => (f2 p hp).1⟩) fun v H6 _ ⟨la, lb, ca, cb, r, h1, h2⟩ => ?_)
      rw [h1]
      congr 1
      rw [Bool.eq_iff_iff, h2, decide_eq_true_iff]
      exact lat_iff (dOf_ge fun p hp => (f2 p hp).1) ca cb
    rw [List.map_id'] at lcE
    have eqE := ev_eqD (K := K) (mono_lr stab_rf _) lcE (ev_lst (ds := []) ts_nil (Nat.zero_le _)) (fun v H1 h => lr_dp h) (fun v H1 h => h.dp) (shaped_all fun d hd => by
      obtain ⟨l, hl, rfl⟩ := List.mem_map.mp hd
      obtain ⟨f1, f2⟩ := (mL l).mp (List.mem_filter.mp hl).1
      exact lay_durs fun p hp => ha.ok.txt _ (by rw [← f1]; exact List.mem_map.mpr ⟨p, hp, rfl⟩)).1 (shaped_all fun d hd => by cases hd).1
    rw [eqv_nilD] at eqE
    refine s_ret eqE fun rv H3 e3 hrv => q rv H3 (s2.trans e3) ?_
    rw [hrv]
    congr 1
    rw [Bool.eq_iff_iff, subB_iff, decide_eq_true_iff, List.map_eq_nil_iff, List.filter_eq_nil_iff]
    constructor
    · intro h s hs
      refine Classical.byContradiction fun hns => ?_
      have hin : (unitsM a).map (fun u => (u, (if u ∈ s then 0 else 1 : Int))) ∈ L := (mL _).mpr ⟨by rw [List.map_map]; exact List.map_id _, fun p hp => by
        obtain ⟨u, _, rfl⟩ := List.mem_map.mp hp
        show 0 ≤ (if u ∈ s then 0 else 1 : Int) ∧ (if u ∈ s then 0 else 1 : Int) ≤ (m : Int)
        split <;> omega⟩
      refine h _ hin (decide_eq_true ?_)
      have nd : (((unitsM a).map fun u => (u, (if u ∈ s then 0 else 1 : Int))).map (·.1)).Nodup := by
        rw [List.map_map, show ((fun p : Str × Int => p.1) ∘ fun u : Str => (u, (if u ∈ s then 0 else 1 : Int))) = id from rfl, List.map_id]
        exact ha.ok.nd
      refine lat_not hs hns (fun u hu' => ?_) fun u hu' => ?_
      · have hua : u ∈ unitsM a := by rw [← hu]; exact hs.units u hu'
        have := dOf_mem nd (p := (u, 0)) (List.mem_map.mpr ⟨u, hua, by rw [if_pos hu']⟩)
        exact this
      · by_cases hua : u ∈ unitsM a
        · have := dOf_mem nd (p := (u, 1)) (List.mem_map.mpr ⟨u, hua, by rw [if_neg hu']⟩)
          exact Int.le_of_eq this.symm
        · rw [dOf_out (by rw [List.map_map]; intro z; obtain ⟨y, hy, e⟩ := List.mem_map.mp z; exact hua (e ▸ hy))]
          exact Int.le_refl _
    · intro h f hf hd
      exact lat_sub (dOf_ge fun p hp => (((mL f).mp hf).2 p hp).1) h (of_decide_eq_true hd)
end
end Up
end
section
set_option Elab.async false
set_option linter.all false
set_option maxRecDepth 100000
set_option maxHeartbeats 4000000
/-! The tub; _law_take. -/
namespace Up
open PySem PySem.Spec PyProof.Rows L2
/-- all stands but the tub -/
def SU (t : Addr) (H H' : Hp) : Prop := ∀ a o, a ≠ t → H a = some o → H' a = some o
def Tub (t : Addr) (n : Nat) (H : Hp) : Prop := ∃ t0 t1 t2 : Int, H t = some (.lst [.int t0, .int t1, .int t2]) ∧ 0 ≤ t1 ∧ t1 < 2 ^ 62 ∧ 0 ≤ t2 ∧ t2 ≤ n
theorem SU.refl (t : Addr) (H : Hp) : SU t H H := fun _ _ _ h => h
theorem SU.trans {t : Addr} {H H1 H2 : Hp} (a : SU t H H1) (b : SU t H1 H2) : SU t H H2 := fun x o n h => b x o n (a x o n h)
theorem Same.su {t : Addr} {H H1 : Hp} (a : Same H H1) : SU t H H1 := fun x o _ h => a x o h
theorem Tub.same {t : Addr} {n : Nat} {H H1 : Hp} (h : Tub t n H) (e : Same H H1) : Tub t n H1 := let ⟨t0, t1, t2, h0, r⟩ := h; ⟨t0, t1, t2, e _ _ h0, r⟩
theorem Tub.mono {t : Addr} {n m : Nat} {H : Hp} (h : Tub t n H) (e : n ≤ m) : Tub t m H := let ⟨t0, t1, t2, h0, h1, h2, h3, h4⟩ := h; ⟨t0, t1, t2, h0, h1, h2, h3, by omega⟩
theorem Tub.some {t : Addr} {n : Nat} {H : Hp} (h : Tub t n H) : ∃ xs, H t = some (.lst xs) := let ⟨_, _, _, h0, _⟩ := h; ⟨_, h0⟩
theorem Tub.put {t : Addr} {n : Nat} {H : Hp} (h : Tub t n H) {a : Addr} {o : HO} (ne : a ≠ t) : Tub t n (upd H a o) := let ⟨t0, t1, t2, h0, r⟩ := h; ⟨t0, t1, t2, by rw [upd_ne (Ne.symm ne)]; exact h0, r⟩
theorem SU.free {t : Addr} {n : Nat} {H H1 : Hp} (s : SU t H H1) (h : Tub t n H1) {p : Addr} (hp : H1 p = none) : H p = none := by
  cases q : H p with
  | none => rfl
  | some o =>
    have ne : p ≠ t := fun e => by
      obtain ⟨xs, hx⟩ := h.some
      rw [← e, hp] at hx; cases hx
    rw [s p o ne q] at hp
    cases hp
theorem SU.tex {t : Addr} {n : Nat} {H H1 : Hp} (s : SU t H H1) (h : Tub t n H) : TEx H H1 := fun a xs ha => s a _ (fun e => by
  obtain ⟨ys, hy⟩ := h.some
  rw [← e, ha] at hy; cases hy) ha
theorem SU.put {t : Addr} {H H1 : Hp} {p : Addr} {o : HO} (s : SU t H H1) (hp : H p = none) : SU t H (upd H1 p o) := fun a x n ha => by
  rw [upd_ne (ne_of_none ha hp)]; exact s a x n ha
def SpU {α : Type} (pre : α → Addr → List V → Hp → Prop) (c : Nat) (post : α → V → Hp → Prop) : Sp := fun vs H Q _ => ∃ a t n, pre a t vs H ∧ Tub t n H ∧ n + c ≤ 2 ^ 60 ∧ ∀ v H', SU t H H' → Tub t (n + c) H' → post a v H' → Q v H'
section
variable {P : Program} {w : World} {K : PySem.W.Frag} {mg : Str → Option Value} {base : Heap}
theorem ev_int1 {σ : L2.St} {H : Hp} {te : TE} {i : Int} (h : Ev te σ H (fun w _ => w = .int i)) : Ev (tCB rInt1 (tCons te tNil)) σ H (fun w _ => w = .int i) := ev_cb (ea_one h) fun vs H1 _ ⟨v, hv, hb⟩ Q q => .inl ⟨i, by rw [hv, hb], q _ _ (Same.refl _) rfl⟩
def spTake : Sp := SpU (α := Nat) (fun u t vs H => vs = [.ref t, .int (u : Int)] ∧ 1 ≤ u ∧ u ≤ 1000) 1 (fun u v _ => ∃ r : Nat, v = .int (r : Int) ∧ r < u)
theorem k_take (T : Txt K mg) : Kn P w K mg base CX0 1 "_law_take" spTake := by
  refine T.d_law_take.kn c_law_take (fun vs H Q E h => ?_) (fun f cdv A outer s H vs Q E hr h => ?_)
  · obtain ⟨a, t, n, ⟨rfl, _⟩, _⟩ := h
    rfl
  · obtain ⟨u, t, n, ⟨rfl, hu1, hu2⟩, tub, hn, q⟩ := h
    refine ⟨_, pss_cons (ps_if (pt_cmpR op_gt (pe_ix ix_list (pv 0) pe_int (fun _ _ => rfl)) pe_int (by rfl))
        (pss_cons (ps_asg (pe_op op_mod (pe_callTy cr_int1 (by rfl) T.b_int (by decide +kernel) (pa_cons (pe_ix ix_list (pv 0) pe_int (fun _ _ => rfl)) pa_nil)) (pv 1)) (pgn 2 c_law_take.nd))
        (pss_cons (ps_asg (pe_op op_fdiv (pe_ix ix_list (pv 0) pe_int (fun _ _ => rfl)) (pv 1)) (pg_sub (pv 0) pe_int set_list))
        (pss_one (ps_ret (pv 2))))) pss_nil)
      (pss_cons (ps_asg (pe_op op_add (pe_ix ix_list (pv 0) pe_int (fun _ _ => rfl)) pe_int) (pg_sub (pv 0) pe_int set_list))
      (pss_cons (ps_asg (pe_op op_mod (pe_callTy cr_int1 (by rfl) T.b_int (by decide +kernel) (pa_cons (pe_op op_mul (pe_op op_add (pe_ix ix_list (pv 0) pe_int (fun _ _ => rfl)) (pe_op op_mul pe_int (pe_ix ix_list (pv 0) pe_int (fun _ _ => rfl)))) (pe_op op_add pe_int (pe_ix ix_list (pv 0) pe_int (fun _ _ => rfl)))) pa_nil)) pe_int) (pgn 3 c_law_take.nd))
      (pss_cons (ps_asg (pe_op op_add (pe_op op_mod (pe_callTy cr_int1 (by rfl) T.b_int (by decide +kernel) (pa_cons (pv 3) pa_nil)) pe_int) pe_int) (pgn 4 c_law_take.nd))
      (pss_cons (ps_asg (pe_op op_mod (pe_callTy cr_int1 (by rfl) T.b_int (by decide +kernel) (pa_cons (pe_op op_mul (pe_op op_add (pe_op op_add (pv 3) (pe_ix ix_list (pv 0) pe_int (fun _ _ => rfl))) (pe_op op_fdiv (pe_ix ix_list (pv 0) pe_int (fun _ _ => rfl)) pe_int)) (pv 4)) pa_nil)) pe_int) (pgn 5 c_law_take.nd))
      (pss_one (ps_ret (pe_op op_mod (pe_callTy cr_int1 (by rfl) T.b_int (by decide +kernel) (pa_cons (pe_op op_fdiv (pe_op op_mod (pe_callTy cr_int1 (by rfl) T.b_int (by decide +kernel) (pa_cons (pe_op op_add (pe_op op_mul (pv 5) pe_int) (pv 3)) pa_nil)) pe_int) pe_int) pa_nil)) (pv 1)))))))), ?_⟩
    obtain ⟨t0, t1, t2, h0, h1, h2, h3, h4⟩ := tub
    have ixE : ∀ (σ : L2.St) (H1 : Hp) (a b c z : Int) (i : Nat), H1 t = some (.lst [.int a, .int b, .int c]) → σ[0]? = some (some (.ref t)) → [PyData.int a, .int b, .int c][i]? = some (.int z) → Ev (tOp (rIxL K) (tVar 0) (tC (.int (i : Int)))) σ H1 (fun w _ => w = .int z) := fun σ H1 a b c z i h hs hi =>
      (ev_ixL (K := K) (ds := [.int a, .int b, .int c]) (i := i) (ev_vp (i := 0) (v := .ref t) (P := IsL [.int a, .int b, .int c]) hs (mono_l _) ⟨t, _, rfl, h, .cons (.int a) (.cons (.int b) (.cons (.int c) .nil))⟩) ev_c hi).vint
    refine q_if (b := decide (0 < t0)) (et_test (ev_I0 (ixE _ H t0 t1 t2 t0 0 h0 rfl rfl) (ev_c (v := .int 0)))) (fun hb H1 e1 => ?_) (fun hb H1 e1 => ?_)
    · have hb : 0 < t0 := of_decide_eq_true hb
      refine q_set (ev_I (C := fun _ j => 0 < j) (show (0 : Int) < (u : Int) by omega) (ev_int1 (ixE _ H1 t0 t1 t2 t0 0 (e1 _ _ h0) rfl rfl)) (ev_var (i := 1) (v := .int (u : Int)) rfl)) fun dv H2 e2 hd => ?_
      subst hd
      refine ev_I (C := CDiv) (show CDiv t0 (u : Int) from ⟨by omega, by omega⟩) (ixE [some (.ref t), some (.int (u : Int)), some (.int (t0 % (u : Int))), none, none, none] H2 t0 t1 t2 t0 0 (e2 _ _ (e1 _ _ h0)) rfl rfl) (ev_var (i := 1) (v := .int (u : Int)) rfl) H2 (Same.refl _) _ fun qv H3 e3 hq => ?_
      subst hq
      have s3 := (e1.trans e2).trans e3
      refine ⟨.ref t, rfl, t, _, 0, 0, rfl, rfl, s3 _ _ h0, rfl, ?_⟩
      refine s_ret (ev_var (i := 2) (v := .int (t0 % (u : Int))) rfl) fun v' H4 e4 hv' => q v' H4 (fun a o ne ha => e4 _ _ (by rw [upd_ne ne]; exact s3 _ _ ha)) (Tub.same ⟨t0 / (u : Int), t1, t2, upd_same, h1, h2, h3, by omega⟩ e4) ⟨(t0 % (u : Int)).toNat, ?_, ?_⟩
      · rw [hv', Int.toNat_of_nonneg (Int.emod_nonneg _ (by omega))]
      · have := Int.emod_lt_of_pos t0 (show (0 : Int) < (u : Int) by omega)
        have := Int.emod_nonneg t0 (show (u : Int) ≠ 0 by omega)
        omega
    · refine ev_I0 (ixE [some (.ref t), some (.int (u : Int)), none, none, none, none] H1 t0 t1 t2 t2 2 (e1 _ _ h0) rfl rfl) (ev_c (v := .int 1)) H1 (Same.refl _) _ fun qv H3 e3 hq => ?_
      subst hq
      have s3 := e1.trans e3
      refine ⟨.ref t, rfl, t, _, 2, 2, rfl, rfl, s3 _ _ h0, rfl, ?_⟩
      have hU : SU t H (upd H3 t (.lst [.int t0, .int t1, .int (t2 + 1)])) := fun a o ne ha => by rw [upd_ne ne]; exact s3 _ _ ha
      have hT : upd H3 t (.lst [.int t0, .int t1, .int (t2 + 1)]) t = some (.lst [.int t0, .int t1, .int (t2 + 1)]) := upd_same
      show tSeq _ _ _ _ (upd H3 t (.lst [.int t0, .int t1, .int (t2 + 1)]))
      generalize upd H3 t (.lst [.int t0, .int t1, .int (t2 + 1)]) = H5 at *
      refine q_set (ev_I (C := fun _ j => 0 < j) (show (0 : Int) < 2147483647 by decide) (ev_int1 (i := (t1 + 48271 * (t2 + 1)) * (39373 + (t2 + 1))) (ev_I (C := CMul) (g := fun i j => .int (i * j)) (show CMul (t1 + 48271 * (t2 + 1)) (39373 + (t2 + 1)) from .inr ⟨by omega, by omega⟩) (ev_I0 (g := fun i j => .int (i + j)) (ixE _ H5 t0 t1 (t2 + 1) t1 1 hT rfl rfl) (ev_I (C := CMul) (g := fun i j => .int (i * j)) (show CMul 48271 (t2 + 1) from .inl ⟨by decide, by decide⟩) (ev_c (v := .int 48271)) (ixE _ H5 t0 t1 (t2 + 1) (t2 + 1) 2 hT rfl rfl))) (ev_I0 (g := fun i j => .int (i + j)) (ev_c (v := .int 39373)) (ixE _ H5 t0 t1 (t2 + 1) (t2 + 1) 2 hT rfl rfl)))) (ev_c (v := .int 2147483647))) fun ov H6 e6 ho => ?_
      subst ho
      have o0 := Int.emod_nonneg ((t1 + 48271 * (t2 + 1)) * (39373 + (t2 + 1))) (show (2147483647 : Int) ≠ 0 by decide)
      have o1 := Int.emod_lt_of_pos ((t1 + 48271 * (t2 + 1)) * (39373 + (t2 + 1))) (show (0 : Int) < 2147483647 by decide)
      generalize (t1 + 48271 * (t2 + 1)) * (39373 + (t2 + 1)) % 2147483647 = once at *
      refine q_set (ev_I0 (ev_I (C := fun _ j => 0 < j) (show (0 : Int) < 40009 by decide) (ev_int1 (ev_var (i := 3) (v := .int once) rfl)) (ev_c (v := .int 40009))) (ev_c (v := .int 7))) fun ov H7 e7 ho => ?_
      subst ho
      have p0 := Int.emod_nonneg once (show (40009 : Int) ≠ 0 by decide)
      have p1 := Int.emod_lt_of_pos once (show (0 : Int) < 40009 by decide)
      have q0 : 0 ≤ once % 40009 + 7 := by omega
      have q1 : once % 40009 + 7 < 40017 := by omega
      generalize once % 40009 + 7 = odd at *
      have hT7 := e7 _ _ (e6 _ _ hT)
      refine q_set (ev_I (C := fun _ j => 0 < j) (show (0 : Int) < 2147483629 by decide) (ev_int1 (i := (once + (t2 + 1) + t1 / 1000003) * odd) (ev_I (C := CMul) (g := fun i j => .int (i * j)) (show CMul (once + (t2 + 1) + t1 / 1000003) odd from .inr ⟨by omega, by omega⟩) (ev_I0 (g := fun i j => .int (i + j)) (ev_I0 (g := fun i j => .int (i + j)) (ev_var (i := 3) (v := .int once) rfl) (ixE _ H7 t0 t1 (t2 + 1) (t2 + 1) 2 hT7 rfl rfl)) (ev_I (C := CDiv) (g := fun i j => .int (i / j)) (show CDiv t1 1000003 from ⟨by decide, by decide⟩) (ixE _ H7 t0 t1 (t2 + 1) t1 1 hT7 rfl rfl) (ev_c (v := .int 1000003)))) (ev_var (i := 4) (v := .int odd) rfl))) (ev_c (v := .int 2147483629))) fun ov H8 e8 ho => ?_
      subst ho
      generalize (once + (t2 + 1) + t1 / 1000003) * odd % 2147483629 = twice at *
      refine s_ret (ev_I (C := fun _ j => 0 < j) (g := fun i j => .int (i % j)) (show (0 : Int) < (u : Int) by omega) (ev_int1 (i := (twice * 48271 + once) % 2147483587 / 64) (ev_I (C := CDiv) (g := fun i j => .int (i / j)) (show CDiv ((twice * 48271 + once) % 2147483587) 64 from ⟨by decide, by decide⟩) (ev_I (C := fun _ j => 0 < j) (g := fun i j => .int (i % j)) (show (0 : Int) < 2147483587 by decide) (ev_int1 (i := twice * 48271 + once) (ev_I0 (g := fun i j => .int (i + j)) (ev_I (C := CMul) (g := fun i j => .int (i * j)) (show CMul twice 48271 from .inr ⟨by decide, by decide⟩) (ev_var (i := 5) (v := .int twice) rfl) (ev_c (v := .int 48271))) (ev_var (i := 3) (v := .int once) rfl))) (ev_c (v := .int 2147483587))) (ev_c (v := .int 64)))) (ev_var (i := 1) (v := .int (u : Int)) rfl)) fun v' H9 e9 hv' => ?_
      have s9 := (e6.trans e7).trans (e8.trans e9)
      refine q v' H9 (hU.trans (Same.su s9)) (Tub.same ⟨t0, t1, t2 + 1, hT, h1, h2, by omega, by omega⟩ s9) ⟨((twice * 48271 + once) % 2147483587 / 64 % (u : Int)).toNat, ?_, ?_⟩
      · rw [hv', Int.toNat_of_nonneg (Int.emod_nonneg _ (by omega))]
      · have := Int.emod_lt_of_pos ((twice * 48271 + once) % 2147483587 / 64) (show (0 : Int) < (u : Int) by omega)
        have := Int.emod_nonneg ((twice * 48271 + once) % 2147483587 / 64) (show (u : Int) ≠ 0 by omega)
        omega
end
end Up
end
section
set_option Elab.async false
set_option linter.all false
set_option maxRecDepth 100000
set_option maxHeartbeats 4000000
/-! _law_of, _law_pick, _law_tags. -/
namespace Up
open PySem PySem.Spec PyProof.Rows L2
theorem go_u {α : Type} {pre : α → Addr → List V → Hp → Prop} {c : Nat} {post : α → V → Hp → Prop} {tr : TA} {σ : L2.St} {H : Hp} {Q : VK} {PA : List V → Hp → Prop} {t : Addr} {n : Nat} (h : EvA tr σ H PA) (tub : Tub t n H) (hn : n + c ≤ 2 ^ 60) (a : α)
    (hp : ∀ vs H1, Same H H1 → PA vs H1 → pre a t vs H1) (k : ∀ v H', SU t H H' → Tub t (n + c) H' → post a v H' → Q v H') : tCall (SpU pre c post) [] E0 tr σ H Q := h H (Same.refl H) _ fun vs H1 e1 hvs => by
  rw [List.append_nil]
  exact ⟨a, t, n, hp vs H1 e1 hvs, tub.same e1, hn, fun v H' su tb hv => k v H' ((Same.su e1).trans su) tb hv⟩
section
variable {P : Program} {w : World} {K : PySem.W.Frag} {mg : Str → Option Value} {base : Heap}
def spOf : Sp := SpU (α := List Int) (fun ns t vs H => ∃ l, vs = [.ref t, .ref l] ∧ H l = some (.lst (ns.map V.int)) ∧ l ≠ t ∧ 1 ≤ ns.length ∧ ns.length ≤ 1000) 1 (fun ns v _ => ∃ z ∈ ns, v = .int z)
theorem k_of (T : Txt K mg) : Kn P w K mg base CX0 2 "_law_of" spOf := by
  have G := k_take (P := P) (w := w) (base := base) T
  refine T.d_law_of.kn c_law_of (fun vs H Q E h => ?_) (fun f cdv A outer s H vs Q E hr h => ?_)
  · obtain ⟨a, t, n, ⟨l, rfl, _⟩, _⟩ := h
    rfl
  · obtain ⟨ns, t, n, ⟨l, rfl, hl, lt, hn1, hn2⟩, tub, hn, q⟩ := h
    refine ⟨_, pss_one (ps_ret (pe_ix ix_list (pv 1) (pe_kn G hr pass0 (pa_cons (pv 0) (pa_cons (pe_callB cr_len (by rfl) T.b_len (by decide +kernel) (pa_cons (pv 1) pa_nil)) pa_nil))) (fun _ _ => rfl))), ?_⟩
    refine ⟨.ref l, rfl, ?_⟩
    have lenE := ev_lenL (K := K) (te := tVar 1) (ds := ns.map PyData.int) (σ := start ["_law_tub", "_law_few_so"] [.ref t, .ref l]) (H := H) (ev_vp (i := 1) (v := .ref l) (P := IsL _) rfl (mono_l _) ⟨l, _, rfl, hl, tta_of_ints ns⟩)
    rw [List.length_map] at lenE
    refine go_u (ea_two (mono_v (.ref t)) (ev_var (i := 0) (v := .ref t) rfl) lenE) tub hn ns.length (fun vs H1 e1 ⟨v, w, h1, h2, h3⟩ => ⟨by rw [h1, h2, h3], hn1, hn2⟩) fun v H1 su tb ⟨r, hv, hr⟩ => ?_
    subst hv
    have hl1 := su l _ lt hl
    have hz : (ns.map V.int)[r]? = some (V.int ns[r]) := by rw [List.getElem?_map, List.getElem?_eq_getElem hr]; rfl
    exact ⟨l, _, (r : Int), _, rfl, rfl, sq_l hl1, atI_nat hz, q _ _ su tb ⟨_, List.getElem_mem hr, rfl⟩⟩
def rMin2 : List V → Hp → VK → Prop := fun xs H Q => ∃ i j, xs = [V.int i, V.int j] ∧ Q (.int (if j < i then j else i)) H
theorem cr_min2 {X : Cx} (hc : X.calm = true) : CallR X (.builtin "min") rMin2 := call_min2 hc
theorem ev_min2 {σ : L2.St} {H : Hp} {ta tb : TE} {m k : Nat} (h1 : Ev ta σ H (fun w _ => w = .int (m : Int))) (h2 : Ev tb σ H (fun w _ => w = .int (k : Int))) : Ev (tCB rMin2 (tCons ta (tCons tb tNil))) σ H (fun w _ => w = .int ((min m k : Nat) : Int)) := ev_cb (ea_two (mono_v _) h1 h2) fun vs H1 _ ⟨v, w, hv, hb, hc⟩ Q q => ⟨(m : Int), (k : Int), by rw [hv, hb, hc], q _ _ (Same.refl _) (by
  congr 1
  by_cases h : k < m
  · rw [if_pos (by omega), Nat.min_eq_right (by omega)]
  · rw [if_neg (by omega), Nat.min_eq_left (by omega)])⟩
theorem popAt_go {p : Addr} {xs : List V} {y : V} {j : Nat} {H : Hp} {Q : VK} (hl : H p = some (.lst xs)) (hy : xs[j]? = some y) (hz : xs.length ≤ 100000) (k : Q y (upd H p (.lst (xs.eraseIdx j)))) : rPopAt (V.ref p) [V.int (j : Int)] H Q := by
  have hj : j < xs.length := (List.getElem?_eq_some_iff.mp hy).1
  refine ⟨p, xs, _, j, y, rfl, rfl, hl, by omega, by omega, ?_, hy, k⟩
  unfold seqIndex?
  first
    | (rw [if_neg (by omega), if_pos (by omega)]; simp; done)
    | (simp; omega)
theorem perm_erase {us : List Str} : ∀ {j : Nat} {u : Str}, us[j]? = some u → (u :: us.eraseIdx j).Perm us := fun {j u} h => by
  induction us generalizing j with
  | nil => cases h
  | cons x us ih =>
    cases j with
    | zero =>
      have : x = u := Option.some.inj h
      subst this
      exact .refl _
    | succ j =>
      have := ih (j := j) (by simpa using h)
      rw [List.eraseIdx_cons_succ]
      exact (List.Perm.swap _ _ _).trans (this.cons x)
theorem erase_map {α β : Type} (f : α → β) : ∀ (l : List α) (j : Nat), (l.map f).eraseIdx j = (l.eraseIdx j).map f
  | [], _ => by simp
  | x :: l, 0 => rfl
  | x :: l, j + 1 => by
    show f x :: (l.map f).eraseIdx j = f x :: (l.eraseIdx j).map f
    rw [erase_map f l j]
def spPick : Sp := SpU (α := List Str × Nat) (fun a t vs H => ∃ l, vs = [.ref t, .ref l, .int (a.2 : Int)] ∧ H l = some (.lst (a.1.map V.str)) ∧ l ≠ t ∧ a.1.Nodup ∧ a.1.length ≤ 100 ∧ a.2 ≤ 1000) 100 (fun a v H => ∃ ks : List Str, IsL (ks.map .str) v H ∧ ks.Nodup ∧ (∀ k ∈ ks, k ∈ a.1) ∧ ks.length = min a.2 a.1.length)
theorem k_pick (T : Txt K mg) : Kn P w K mg base CX0 2 "_law_pick" spPick := by
  have G := k_take (P := P) (w := w) (base := base) T
  refine T.d_law_pick.kn c_law_pick (fun vs H Q E h => ?_) (fun f cdv A outer s H vs Q E hr h => ?_)
  · obtain ⟨a, t, n, ⟨l, rfl, _⟩, _⟩ := h
    rfl
  · obtain ⟨⟨us, m⟩, t, n, ⟨l, rfl, hl, lt, hnd, hus, hm⟩, tub, hn, q⟩ := h
    simp only at hl lt hnd hus hm q
    refine ⟨_, pss_cons (ps_par (i := 3) (j := 4) (by rfl) c_law_pick.nd rfl rfl (by decide) rfl rfl (pa_cons (pe_callTy cr_lst (by rfl) T.b_list (by decide +kernel) (pa_cons (pv 1) pa_nil)) (pa_cons (pe_lst pa_nil) pa_nil)) (by rfl))
      (pss_cons (ps_for PassesOwn.never (by rfl) (pi_range1 (by rfl) T.b_range (pa_cons (pe_callB (cr_min2 (by rfl)) (by rfl) T.b_min (by decide +kernel) (pa_cons (pv 2) (pa_cons (pe_callB cr_len (by rfl) T.b_len (by decide +kernel) (pa_cons (pv 3) pa_nil)) pa_nil))) pa_nil)) (pgn 5 c_law_pick.nd)
        (pss_one (ps_expr (pe_bm PySem.F.plainAttrs_list PySem.F.slot_list_append PySem.F.type_list_append mt_append (pv 4) (pa_cons (pe_bm PySem.F.plainAttrs_list PySem.F.slot_list_pop PySem.F.type_list_pop mt_popAt (pv 3) (pa_cons (pe_kn G hr pass0 (pa_cons (pv 0) (pa_cons (pe_callB cr_len (by rfl) T.b_len (by decide +kernel) (pa_cons (pv 3) pa_nil)) pa_nil))) pa_nil)) pa_nil)))))
      (pss_one (ps_ret (pv 4)))), ?_⟩
    refine ⟨.ref l, rfl, l, us.map V.str, rfl, .inl (sq_l hl), fun a ha => ⟨Nat.zero_le _, fun r hr0 => ⟨.ref a, .ref r, rfl, ?_⟩⟩⟩
    have s1 : Same H (upd H a (.lst (us.map V.str))) := same_new ha
    have fa : upd H a (.lst (us.map V.str)) a = some (.lst (us.map V.str)) := upd_same
    have hrN : H r = none := s1.free hr0
    generalize upd H a (.lst (us.map V.str)) = H1 at *
    have s2 : Same H1 (upd H1 r (.lst [])) := same_new hr0
    have fr : upd H1 r (.lst []) r = some (.lst []) := upd_same
    have ar : a ≠ r := ne_of_none fa hr0
    have fa2 := s2 _ _ fa
    have tub2 := (tub.same s1).same s2
    have su2 : SU t H (upd H1 r (.lst [])) := Same.su (s1.trans s2)
    obtain ⟨tx, htx⟩ := tub.some
    have at' : a ≠ t := fun e => by rw [e, htx] at ha; cases ha
    have rt : r ≠ t := fun e => by rw [e, htx] at hrN; cases hrN
    have lenE := fun (σ : L2.St) (H3 : Hp) (ls : List Str) (h : H3 a = some (.lst (ls.map V.str))) (hs : σ[3]? = some (some (V.ref a))) => ev_lenL (K := K) (te := tVar 3) (ds := ls.map PyData.str) (σ := σ) (H := H3) (ev_vp (i := 3) (v := .ref a) (P := IsL _) hs (mono_l _) ⟨a, _, rfl, h, tta_of_strs ls⟩)
    have l0 := lenE [some (.ref t), some (.ref l), some (.int (m : Int)), some (.ref a), some (.ref r), none] _ us fa2 rfl
    rw [List.length_map] at l0
    have minE := ev_min2 (ev_var (i := 2) (v := .int (m : Int)) (σ := [some (.ref t), some (.ref l), some (.int (m : Int)), some (.ref a), some (.ref r), none]) rfl) l0
    have ml := Nat.min_le_right m us.length
    refine s_for (srcM_rng (n := min m us.length) (fun H1 e Q q => ea_one minE H1 e Q fun vs H2 e2 ⟨v, h1, h2⟩ => q vs H2 e2 (by rw [h1, h2])) (by omega)) (fun HL i σ' H' => ∃ (ls ks : List Str) (l5 : Option V), σ' = [some (.ref t), some (.ref l), some (.int (m : Int)), some (.ref a), some (.ref r), l5] ∧ H' a = some (.lst (ls.map V.str)) ∧ H' r = some (.lst (ks.map V.str)) ∧ (ks ++ ls).Perm us ∧ ks.length = i ∧ i ≤ min m us.length ∧ SU t H H' ∧ Tub t (n + i) H')
      (fun HL eL => ⟨us, [], none, rfl, eL _ _ fa2, eL _ _ fr, .refl _, rfl, Nat.zero_le _, su2.trans (Same.su eL), tub2.same eL⟩) (fun _ _ _ _ _ => trivial) ?_ ?_
    · rintro HL eL i i' z σ' H3 H4 hbi ⟨ls, ks, l5, rfl, ha3, hr3, pm, kl, ki, su3, tb3⟩ e4 rfl
      have iN : i < min m us.length := by
        have := (List.getElem?_eq_some_iff.mp hbi).1
        rwa [List.length_range] at this
      have plen := pm.length_eq
      rw [List.length_append] at plen
      have tb4 := tb3.same e4
      have ha4 := e4 _ _ ha3
      have hr4 := e4 _ _ hr3
      have l4 := lenE [some (.ref t), some (.ref l), some (.int (m : Int)), some (.ref a), some (.ref r), some (.int (i' : Int))] H4 ls ha4 rfl
      rw [List.length_map] at l4
      refine name_go ⟨.ref r, rfl, .inl ⟨rfl, _, sq_l hr4⟩, .ref a, rfl, .inl ⟨rfl, _, sq_l ha4⟩, ?_⟩
      refine go_u (ea_two (mono_v (.ref t)) (ev_var (i := 0) (v := .ref t) rfl) l4) tb4 (by omega) ls.length (fun vs H1 e1 ⟨v, w, h1, h2, h3⟩ => ⟨by rw [h1, h2, h3], by omega, by omega⟩) fun v H5 su tb ⟨j, hv, hj⟩ => ?_
      subst hv
      have ha5 := su a _ at' ha4
      have hr5 := su r _ rt hr4
      have hy : (ls.map V.str)[j]? = some (V.str ls[j]) := by rw [List.getElem?_map, List.getElem?_eq_getElem hj]; rfl
      refine popAt_go ha5 hy (by rw [List.length_map]; omega) ?_
      have hr6 : upd H5 a (.lst ((ls.map V.str).eraseIdx j)) r = some (.lst (ks.map V.str)) := by rw [upd_ne ar.symm]; exact hr5
      refine ⟨r, _, _, rfl, rfl, hr6, size_lt (by rw [List.length_map]; omega), ?_⟩
      have su6 : SU t H H5 := (su3.trans (Same.su e4)).trans su
      refine ⟨ls.eraseIdx j, ks ++ [ls[j]], _, rfl, ?_, ?_, ?_, by rw [List.length_append, List.length_singleton, kl], by omega, (su6.put ha).put hrN, (tb.put at').put rt⟩
      · rw [upd_ne ar, upd_same]
        congr 2
        exact erase_map V.str ls j
      · rw [upd_same, List.map_append]; rfl
      · rw [List.append_assoc]
        exact ((perm_erase (List.getElem?_eq_getElem hj)).append_left ks).trans pm
    · rintro HL eL σ' H3 ⟨ls, ks, l5, rfl, ha3, hr3, pm, kl, ki, su3, tb3⟩
      rw [List.length_range] at kl tb3
      show tRet (tVar 4) { nx := fun _ H' => Q .non H', rt := Q } [some (.ref t), some (.ref l), some (.int (m : Int)), some (.ref a), some (.ref r), l5] H3
      have nd := (pm.nodup_iff).mpr hnd
      refine s_ret (ev_var (i := 4) (v := .ref r) rfl) fun v' H4 e4 hv' => q v' H4 (su3.trans (Same.su e4)) ((tb3.same e4).mono (by omega)) ⟨ks, ⟨r, _, hv', e4 _ _ hr3, tta_of_strs ks⟩, (List.nodup_append.mp nd).1, fun k hk => pm.mem_iff.mp (List.mem_append_left _ hk), kl⟩
end
end Up
end
section
set_option Elab.async false
set_option linter.all false
set_option maxRecDepth 100000
set_option maxHeartbeats 4000000
/-! _law_tags, _law_plan. -/
namespace Up
open PySem PySem.Spec PyProof.Rows L2
def ten : List Str := ["a", "b", "c", "d", "aa", "ab", "unit", "zzzzzzzz", "x", "y"]
section
variable {K : PySem.W.Frag} {σ : L2.St} {H : Hp} {te : TE} {tr : TA}
theorem ev_lstN {ds : List PyData} (h : EvA tr σ H (IsTs ds)) (hl : ds.length ≤ 100000) : Ev (tLst tr) σ H (fun v H' => ∃ l xs, v = V.ref l ∧ H' l = some (.lst xs) ∧ TtA H' xs ds ∧ H l = none) := fun H1 e Q q =>
  h H1 e _ fun vs H2 e2 t => ⟨by rw [TtA.len t]; exact size_ok hl, fun p hp => q _ _ (e2.trans (same_new hp)) ⟨p, vs, rfl, upd_same, TtA.same (same_new hp) t, (e.trans e2).free hp⟩⟩
/-- tuple(sorted(v)) -/
theorem sort_tup_go {ks : List Str} {v : V} {Q : VK} (h : IsL (ks.map .str) v H) (nd : ks.Nodup) (few : ks.length ≤ 100000) (k : ∀ w H2 ys, Same H H2 → Tt H2 w (strsD ys) → Asc ys → ys.Perm ks → Q w H2) :
    (tCB (rTupOf K) (tCons (tCB rSortQ (tCons (tC v) tNil)) tNil)) σ H Q :=
  ev_tupX (K := K) (P := fun ds => ∃ ys : List Str, ds = ys.map PyData.str ∧ Asc ys ∧ ys.Perm ks) ((ev_sortLS (te := tC v) (σ := σ) (ev_tC (mono_l _) h) nd few).imp fun v H1 _ ⟨ys, h1, h2, h3⟩ => ⟨_, h1, ys, rfl, h2, h3⟩) H (Same.refl H) Q fun w H2 e2 ⟨ds, h1, ys, h2, h3, h4⟩ => k w H2 ys e2 (by rw [h2] at h1; exact h1) h3 h4
theorem s_forTake {g : TG} {tb : TS} {D : Ends} (h : te σ H (fun v H1 => tFor (iRng1 (tCons (tC v) tNil)) g tb D σ H1)) : tFor (iRng1 (tCons te tNil)) g tb D σ H := h
end
section
variable {P : Program} {w : World} {K : PySem.W.Frag} {mg : Str → Option Value} {base : Heap}
theorem Tub.ne {t p : Addr} {n : Nat} {H : Hp} (h : Tub t n H) (hp : H p = none) : p ≠ t := fun e => by
  obtain ⟨xs, hx⟩ := h.some
  rw [← e, hp] at hx; cases hx
def spTags : Sp := SpU (α := Nat) (fun m t vs H => vs = [.ref t, .int (m : Int)] ∧ m ≤ 1000) 100 (fun m v H => ∃ ks : List Str, Tt H v (strsD ks) ∧ Asc ks ∧ (∀ k ∈ ks, k ∈ ten) ∧ ks.length = min m 10)
theorem k_tags (T : Txt K mg) : Kn P w K mg base CX0 3 "_law_tags" spTags := by
  have G := k_pick (P := P) (w := w) (base := base) T
  refine T.d_law_tags.kn c_law_tags (fun vs H Q E h => ?_) (fun f cdv A outer s H vs Q E hr h => ?_)
  · obtain ⟨a, t, n, ⟨rfl, _⟩, _⟩ := h
    rfl
  · obtain ⟨m, t, n, ⟨rfl, hm⟩, tub, hn, q⟩ := h
    refine ⟨_, pss_one (ps_ret (pe_callTy cr_tup (by rfl) T.b_tuple (by decide +kernel) (pa_cons (pe_callB (cr_sortQ hr.units) (by rfl) T.b_sorted (by decide +kernel) (pa_cons (pe_kn G hr pass0 (pa_cons (pv 0) (pa_cons (pe_lst (pa_cons pe_str (pa_cons pe_str (pa_cons pe_str (pa_cons pe_str (pa_cons pe_str (pa_cons pe_str (pa_cons pe_str (pa_cons pe_str (pa_cons pe_str (pa_cons pe_str pa_nil))))))))))) (pa_cons (pv 1) pa_nil)))) pa_nil)) pa_nil))), ?_⟩
    refine ⟨.ref t, rfl, (by show 10 ≤ sizeLine; decide), fun l hl => ⟨.int (m : Int), rfl, ?_⟩⟩
    refine ⟨(ten, m), t, n, ⟨l, rfl, upd_same, tub.ne hl, (show ten.Nodup by decide +kernel), (show ten.length ≤ 100 by decide +kernel), hm⟩, tub.same (same_new hl), hn, fun v H1 su tb ⟨ks, hk, knd, ksub, klen⟩ => ?_⟩
    refine sort_tup_go (K := K) (σ := []) hk knd (by rw [klen]; have := Nat.min_le_left m ten.length; omega) fun w H2 ys e2 ty asc pm => ?_
    exact q w H2 ((Same.su (same_new hl)).trans (su.trans (Same.su e2))) (tb.same e2) ⟨ys, ty, asc, fun k hk => ksub k (pm.mem_iff.mp hk), by rw [pm.length_eq, klen]; rfl⟩
/-- a book in the making -/
structure Making (c : Nat) (us : List Str) (b : SBk) : Prop where
  few : ∀ p ∈ b, p.2.length ≤ c
  each : ∀ p ∈ b, ∀ n ∈ p.2, n.length ≤ 1000 ∧ ∀ o ∈ n, o ∈ us
theorem Making.done {c : Nat} {us : List Str} {b : SBk} (h : Making c us b) (hc : c ≤ 1000) (e : unitsM b = us) (nd : us.Nodup) (tx : ∀ u ∈ us, PyData.strOk u = true) (l : us.length ≤ 10) : LBk b := by
  have bl : b.length = us.length := by rw [← e]; unfold unitsM; rw [List.length_map]
  exact ⟨⟨⟨by omega, fun p hp => ⟨Nat.le_trans (h.few p hp) hc, fun n hn => (h.each p hp n hn).1⟩⟩, by rw [e]; exact nd, fun u hu => tx u (by rw [← e]; exact hu), by omega⟩, fun p hp n hn o ho => by rw [e]; exact (h.each p hp n hn).2 o ho⟩
theorem Making.snoc {c : Nat} {us : List Str} {b : SBk} (h : Making c us b) {p : Str × List (List Str)} (h1 : p.2.length ≤ c) (h2 : ∀ n ∈ p.2, n.length ≤ 1000 ∧ ∀ o ∈ n, o ∈ us) : Making c us (b ++ [p]) := by
  refine ⟨fun q hq => ?_, fun q hq => ?_⟩
  · rcases List.mem_append.mp hq with z | z
    · exact h.few q z
    · rw [List.mem_singleton.mp z]; exact h1
  · rcases List.mem_append.mp hq with z | z
    · exact h.each q z
    · rw [List.mem_singleton.mp z]; exact h2
/-- (tag, tuple(sorted(set(lots)))) -/
theorem ev_pairE {K : PySem.W.Frag} {σ : L2.St} {H : Hp} {i j : Nat} {u : Str} {l : Addr} {ts : List (List Str)} (hi : σ[i]? = some (some (V.str u))) (hj : σ[j]? = some (some (V.ref l))) (hl : IsL (ts.map strsD) (V.ref l) H) (few : ts.length < 64) :
    Ev (tTup (tCons (tVar i) (tCons (tCB (rTupOf K) (tCons (tSortSet strsD (tVar j)) tNil)) tNil))) σ H (fun v H' => ∃ es : List (List Str), Tt H' v (pairD (u, es)) ∧ es.length ≤ ts.length ∧ ∀ x ∈ es, x ∈ ts) := by
  have sE := ev_sortSetT (te := tVar j) (ts := ts) (σ := σ) (H := H) (ev_vp hj (mono_l _) hl) few
  have tE : Ev (tCB (rTupOf K) (tCons (tSortSet strsD (tVar j)) tNil)) σ H (fun v H' => ∃ es : List (List Str), Tt H' v (needsD es) ∧ es.length ≤ ts.length ∧ ∀ x ∈ es, x ∈ ts) :=
    (ev_tupX (K := K) (P := fun ds => ∃ es : List (List Str), ds = es.map strsD ∧ es.length ≤ ts.length ∧ ∀ x ∈ es, x ∈ ts) (sE.imp fun v H1 _ ⟨es, h1, h2, h3⟩ => ⟨_, h1, es, rfl, nodup_len h2 fun x hx => (h3 x).mp hx, fun x hx => (h3 x).mp hx⟩)).imp fun v H1 _ ⟨ds, h1, es, h2, h3, h4⟩ => ⟨es, by rw [h2] at h1; exact h1, h3, h4⟩
  exact fun H1 e Q q => ea_two (mono_v (V.str u)) (ev_var hi) tE H1 e _ fun vs H2 e2 ⟨v, w, hvs, hv, es, hw, h3, h4⟩ => by
    subst hvs hv
    exact ⟨(by show 2 ≤ sizeLine; decide), fun p hp => q _ _ (e2.trans (same_new hp)) ⟨es, .tup upd_same (.cons (.str u) (.cons (hw.same (same_new hp)) .nil)), h3, h4⟩⟩
def spPlan : Sp := SpU (α := List Str × Nat) (fun a t vs H => ∃ x, vs = [.ref t, x, .int (a.2 : Int)] ∧ Tt H x (strsD a.1) ∧ a.1.Nodup ∧ a.1.length ≤ 10 ∧ (∀ u ∈ a.1, PyData.strOk u = true) ∧ a.2 ≤ 3) 5000 (fun a v H => ∃ b : SBk, Tt H v (bookD b) ∧ LBk b ∧ unitsM b = a.1 ∧ ∀ p ∈ b, p.2.length ≤ 3)
theorem k_plan (T : Txt K mg) : Kn P w K mg base CX0 3 "_law_plan" spPlan := by
  have G1 := k_take (P := P) (w := w) (base := base) T
  have G2 := k_of (P := P) (w := w) (base := base) T
  have G3 := k_pick (P := P) (w := w) (base := base) T
  refine T.d_law_plan.kn c_law_plan (fun vs H Q E h => ?_) (fun f cdv A outer s H vs Q E hr h => ?_)
  · obtain ⟨a, t, n, ⟨l, rfl, _⟩, _⟩ := h
    rfl
  · obtain ⟨⟨us, m⟩, t, n, ⟨x, rfl, hx, hnd, hus, htx, hm⟩, tub, hn, q⟩ := h
    simp only at hx hnd hus htx hm q
    refine ⟨_, pss_cons (ps_asg (pe_lst pa_nil) (pgn 3 c_law_plan.nd))
      (pss_cons (ps_for PassesOwn.never (by rfl) (pi_tup (pv 1)) (pgn 4 c_law_plan.nd)
        (pss_cons (ps_asg (pe_lst pa_nil) (pgn 5 c_law_plan.nd))
        (pss_cons (ps_for PassesOwn.never (by rfl) (pi_range1 (by rfl) T.b_range (pa_cons (pe_kn G1 (hr.mono (by decide)) pass0 (pa_cons (pv 0) (pa_cons (pe_op op_add (pv 2) pe_int) pa_nil))) pa_nil)) (pgn 6 c_law_plan.nd)
          (pss_cons (ps_asg (pe_kn G3 hr pass0 (pa_cons (pv 0) (pa_cons (pe_callTy cr_lst (by rfl) T.b_list (by decide +kernel) (pa_cons (pv 1) pa_nil)) (pa_cons (pe_kn G2 hr pass0 (pa_cons (pv 0) (pa_cons (pe_lst (pa_cons pe_int (pa_cons pe_int (pa_cons pe_int (pa_cons pe_int (pa_cons pe_int (pa_cons pe_int (pa_cons pe_int pa_nil)))))))) pa_nil))) pa_nil)))) (pgn 7 c_law_plan.nd))
          (pss_one (ps_expr (pe_bm PySem.F.plainAttrs_list PySem.F.slot_list_append PySem.F.type_list_append mt_append (pv 5) (pa_cons (pe_callTy cr_tup (by rfl) T.b_tuple (by decide +kernel) (pa_cons (pe_callB (cr_sortQ hr.units) (by rfl) T.b_sorted (by decide +kernel) (pa_cons (pv 7) pa_nil)) pa_nil)) pa_nil))))))
        (pss_one (ps_expr (pe_bm PySem.F.plainAttrs_list PySem.F.slot_list_append PySem.F.type_list_append mt_append (pv 3) (pa_cons (pe_tup (pa_cons (pv 4) (pa_cons (pe_callTy cr_tup (by rfl) T.b_tuple (by decide +kernel) (pa_cons (pe_sortSet (setKT _ _) strsD is_tup sortD_tups (by rfl) hr.units (by rfl) T.b_sorted (by rfl) T.b_set (by decide +kernel) (by decide +kernel) (pv 5)) pa_nil)) pa_nil))) pa_nil)))))))
      (pss_one (ps_ret (pe_callTy cr_tup (by rfl) T.b_tuple (by decide +kernel) (pa_cons (pv 3) pa_nil))))), ?_⟩
    refine ⟨Nat.zero_le _, fun r hr0 => name_go ?_⟩
    have hrN := hr0
    have s1 : Same H (upd H r (.lst [])) := same_new hr0
    have fr : upd H r (.lst []) r = some (.lst []) := upd_same
    have tub1 := tub.same s1
    have rt : r ≠ t := tub.ne hr0
    have su1 : SU t H (upd H r (.lst [])) := Same.su s1
    have hx1 := hx.same s1
    generalize upd H r (.lst []) = H1 at *
    refine s_for (srcM_map PyData.str (srcM_tup (K := K) (te := tVar 1) (ds := us.map PyData.str) (σ := [some (.ref t), some x, some (.int (m : Int)), some (.ref r), none, none, none, none]) (ev_vt (i := 1) (v := x) rfl hx1))) (fun HL i σ' H' => ∃ (b : SBk) (xs : List V) (l4 l5 l6 l7 : Option V), σ' = [some (.ref t), some x, some (.int (m : Int)), some (.ref r), l4, l5, l6, l7] ∧ H' r = some (.lst xs) ∧ TtA H' xs (b.map pairD) ∧ b.map (·.1) = us.take i ∧ Making 3 us b ∧ TEx HL H' ∧ SU t H H' ∧ Tub t (n + 400 * i) H')
      (fun HL eL => ⟨[], [], none, none, none, none, rfl, eL _ _ fr, .nil, by rw [List.take_zero]; rfl, ⟨(fun p hp => by cases hp), (fun p hp => by cases hp)⟩, TEx.refl _, su1.trans (Same.su eL), tub1.same eL⟩) (fun HL i σ' H' ⟨_, _, _, _, _, _, _, _, _, _, _, t, _⟩ => t) ?_ ?_
    · rintro HL eL i u y σ' H3 H4 hbi ⟨b, xs, l4, l5, l6, l7, rfl, hr3, tx, bu, mk, tex, su3, tb3⟩ e4 hy
      rw [tt_str hy]
      have iu : i < us.length := (List.getElem?_eq_some_iff.mp hbi).1
      have bl : b.length = i := by
        have := congrArg List.length bu
        rw [List.length_map, List.length_take] at this
        omega
      have xl : xs.length = i := by rw [tx.len, List.length_map, bl]
      refine name_go ⟨Nat.zero_le _, fun l hl => name_go ?_⟩
      have e5 : Same H4 (upd H4 l (.lst [])) := same_new hl
      have fl : upd H4 l (.lst []) l = some (.lst []) := upd_same
      have tb4 := tb3.same e4
      have lt : l ≠ t := tb4.ne hl
      have hr5 := e5 _ _ (e4 _ _ hr3)
      have lr : l ≠ r := fun e => by rw [e] at hl; rw [e4 _ _ hr3] at hl; cases hl
      have tb5 := tb4.same e5
      have su5 := (su3.trans (Same.su e4)).trans (Same.su e5)
      have hlN : H l = none := (su3.trans (Same.su e4)).free tb4 hl
      have tex5 := tex.trans ((tex_same e4).trans (tex_same e5))
      have tx5 := (tx.same e4).same e5
      have hx5 : Tt (upd H4 l (.lst [])) x (strsD us) := (hx1.same eL).tex tex5
      generalize upd H4 l (.lst []) = H5 at *
      refine s_forTake (go_u (ea_two (mono_v (.ref t)) (ev_var (i := 0) (v := .ref t) rfl) (ev_I0 (g := fun i j => .int (i + j)) (ev_var (i := 2) (v := .int (m : Int)) rfl) (ev_c (v := .int 1)))) tb5 (by omega) (m + 1) (fun vs H1 e1 ⟨v, w, h1, h2, h3⟩ => ⟨by rw [h1, h2, h3]; simp, by omega, by omega⟩) fun cv H6 su6 tb6 ⟨k, hcv, hk⟩ => ?_)
      subst hcv
      have hr6 := su6 r _ rt hr5
      have hl6 := su6 l _ lt fl
      have tex6 := tex5.trans (su6.tex tb5)
      have tx6 := tx5.tex (su6.tex tb5)
      have su06 := su5.trans su6
      refine s_for (srcM_rng (n := k) (fun H1 e Q q => ea_one (ev_c (v := .int (k : Int))) H1 e Q fun vs H2 e2 ⟨v, h1, h2⟩ => q vs H2 e2 (by rw [h1, h2])) (by omega)) (fun HM j σ' H' => ∃ (ts : List (List Str)) (zs : List V) (l6 l7 : Option V), σ' = [some (.ref t), some x, some (.int (m : Int)), some (.ref r), some (.str u), some (.ref l), l6, l7] ∧ H' l = some (.lst zs) ∧ TtA H' zs (ts.map strsD) ∧ ts.length = j ∧ (∀ z ∈ ts, z.length ≤ 1000 ∧ ∀ o ∈ z, o ∈ us) ∧ H' r = some (.lst xs) ∧ TtA H' xs (b.map pairD) ∧ TEx HL H' ∧ SU t H H' ∧ Tub t (n + 400 * i + 1 + 101 * j) H')
        (fun HM eM => ⟨[], [], _, _, rfl, eM _ _ hl6, .nil, rfl, (fun z hz => by cases hz), eM _ _ hr6, tx6.same eM, tex6.trans (tex_same eM), su06.trans (Same.su eM), tb6.same eM⟩) (fun _ _ _ _ _ => trivial) ?_ ?_
      · rintro HM eM j j' z σ' H7 H8 hbj ⟨ts, zs, l6, l7, rfl, hl7, tz, tl, tg, hr7, txx, tex7, su7, tb7⟩ e8 rfl
        have jk : j < k := by
          have := (List.getElem?_eq_some_iff.mp hbj).1
          rwa [List.length_range] at this
        have hx8 : Tt H8 x (strsD us) := ((hx1.same eL).tex tex7).same e8
        obtain ⟨ax, rfl, hax⟩ := tt_strs hx8
        have tb8 := tb7.same e8
        refine name_go ⟨.ref t, rfl, .ref ax, rfl, ax, us.map V.str, rfl, .inr (sq_t hax), fun ll hll => ⟨.ref t, rfl, (by show 7 ≤ sizeLine; decide), fun lo hlo => ?_⟩⟩
        have e9 : Same H8 (upd H8 ll (.lst (us.map V.str))) := same_new hll
        have fll : upd H8 ll (.lst (us.map V.str)) ll = some (.lst (us.map V.str)) := upd_same
        have llt : ll ≠ t := tb8.ne hll
        have tb9 := tb8.same e9
        generalize upd H8 ll (.lst (us.map V.str)) = H9 at *
        have e10 : Same H9 (upd H9 lo (.lst [.int 0, .int 1, .int 1, .int 1, .int 2, .int 2, .int 3])) := same_new hlo
        have flo : upd H9 lo (.lst [.int 0, .int 1, .int 1, .int 1, .int 2, .int 2, .int 3]) lo = some (.lst [.int 0, .int 1, .int 1, .int 1, .int 2, .int 2, .int 3]) := upd_same
        have tb10 := tb9.same e10
        have lot : lo ≠ t := tb9.ne hlo
        generalize upd H9 lo (.lst [.int 0, .int 1, .int 1, .int 1, .int 2, .int 2, .int 3]) = H10 at *
        refine ⟨[0, 1, 1, 1, 2, 2, 3], t, _, ⟨lo, rfl, flo, lot, by decide, by decide⟩, tb10, by omega, fun ov H11 su11 tb11 ⟨zi, hzi, hov⟩ => ?_⟩
        subst hov
        have z3 : ∃ zn : Nat, zi = (zn : Int) ∧ zn ≤ 3 := by
          simp only [List.mem_cons, List.not_mem_nil, or_false] at hzi
          exact ⟨zi.toNat, by omega, by omega⟩
        obtain ⟨zn, rfl, z3⟩ := z3
        have hll11 := su11 ll _ llt (e10 _ _ fll)
        refine ⟨(us, zn), t, _, ⟨ll, rfl, hll11, llt, hnd, (by omega : us.length ≤ 100), (by omega : zn ≤ 1000)⟩, tb11, by omega, fun fv H12 su12 tb12 ⟨ks, hks, knd, ksub, klen⟩ => ?_⟩
        have su812 : SU t H8 H12 := (((Same.su e9).trans (Same.su e10)).trans su11).trans su12
        have hl12 := su812 l _ lt (e8 _ _ hl7)
        have hr12 := su812 r _ rt (e8 _ _ hr7)
        have klen10 : ks.length ≤ 10 := by
          have := nodup_len knd ksub
          exact Nat.le_trans this hus
        have tx812 := su812.tex tb8
        have tz12 := (tz.same e8).tex tx812
        have stE := ev_tupX (K := K) (P := fun ds => ∃ ys : List Str, ds = ys.map PyData.str ∧ ys.Perm ks) ((ev_sortLS (te := tVar 7) (σ := [some (.ref t), some (.ref ax), some (.int (m : Int)), some (.ref r), some (.str u), some (.ref l), some (.int (j' : Int)), some fv]) (H := H12) (ev_vp (i := 7) (v := fv) (P := IsL (ks.map PyData.str)) rfl (mono_l _) hks) knd (by omega)).imp fun v H1 _ ⟨ys, h1, h2, h3⟩ => ⟨_, h1, ys, rfl, h3⟩)
        refine name_go (s_append (K := K) (i := 5) (p := l) rfl ⟨zs, hl12⟩ stE (fun tv H13 xs13 e13 ⟨ds, ty, ys, eds, pm⟩ hl13 _ => ?_) (fun xs8 h8 => by rw [hl12] at h8; cases h8; rw [tz.len, List.length_map]; omega))
        subst eds
        have ex := e13 _ _ hl12
        rw [hl13] at ex
        cases ex
        have suA : SU t H H13 := ((su7.trans (Same.su e8)).trans su812).trans (Same.su e13)
        refine ⟨ts ++ [ys], zs ++ [tv], _, _, rfl, upd_same, ?_, by rw [List.length_append, List.length_singleton, tl], fun z hz => ?_, by rw [upd_ne lr.symm]; exact e13 _ _ hr12, (((txx.same e8).tex tx812).same e13).tex (tex_lst hl13), ((tex7.trans (tex_same e8)).trans tx812).trans ((tex_same e13).trans (tex_lst hl13)), suA.put hlN, ((tb12.same e13).put lt).mono (by omega)⟩
        · rw [List.map_append]
          exact (TtA.snoc ty (tz12.same e13)).tex (tex_lst hl13)
        · rcases List.mem_append.mp hz with h | h
          · exact tg z h
          · rw [List.mem_singleton.mp h]
            exact ⟨by rw [pm.length_eq]; omega, fun o ho => ksub o (pm.mem_iff.mp ho)⟩
      · rintro HM eM σ' H7 ⟨ts, zs, l6, l7, rfl, hl7, tz, tl, tg, hr7, txx, tex7, su7, tb7⟩
        rw [List.length_range] at tl tb7
        refine s_append (K := K) (i := 3) (p := r) rfl ⟨xs, hr7⟩ (ev_pairE (K := K) (i := 4) (j := 5) (u := u) (l := l) (ts := ts) rfl rfl ⟨l, zs, rfl, hl7, tz⟩ (by omega)) (fun pv H8 xs8 e8 ⟨es, tp, el, em⟩ h8 _ => ?_) (fun xs8 h8 => by rw [hr7] at h8; cases h8; omega)
        have ex := e8 _ _ hr7
        rw [h8] at ex
        cases ex
        have su8 : SU t H H8 := su7.trans (Same.su e8)
        refine ⟨b ++ [(u, es)], xs ++ [pv], _, _, _, _, rfl, upd_same, ?_, ?_, mk.snoc (by show es.length ≤ 3; omega) (fun z hz => tg z (em z hz)), (tex7.trans (tex_same e8)).trans (tex_lst h8), su8.put hrN, ((tb7.same e8).put rt).mono (by omega)⟩
        · rw [List.map_append]
          exact (TtA.snoc tp (txx.same e8)).tex (tex_lst h8)
        · rw [List.map_append, bu, take_more hbi]; rfl
    · rintro HL eL σ' H3 ⟨b, xs, l4, l5, l6, l7, rfl, hr3, tx, bu, mk, tex, su3, tb3⟩
      rw [List.take_length] at bu
      show tRet (tCB (rTupOf K) (tCons (tVar 3) tNil)) { nx := fun _ H' => Q .non H', rt := Q } [some (.ref t), some x, some (.int (m : Int)), some (.ref r), l4, l5, l6, l7] H3
      refine s_ret (ev_tupL (K := K) (te := tVar 3) (ds := b.map pairD) (ev_vp (i := 3) (v := .ref r) rfl (mono_l _) ⟨r, xs, rfl, hr3, tx⟩)) fun v' H4 e4 hv' => q v' H4 (su3.trans (Same.su e4)) ((tb3.same e4).mono (by omega)) ⟨b, hv', mk.done (by decide) bu hnd htx hus, bu, mk.few⟩
end
end Up
end
section
set_option Elab.async false
set_option linter.all false
set_option maxRecDepth 100000
set_option maxHeartbeats 4000000
/-! _law_mate. -/
namespace Up
open PySem PySem.Spec PyProof.Rows L2
section
variable {K : PySem.W.Frag} {σ : L2.St} {H : Hp} {te : TE} {tt : TT} {wi : TI} {g : TG} {vs : List Nat} {Q : VK} {t : Addr} {n : Nat}
theorem q_parL {tz : TS} {D : Ends} {ta : TE} {i j : Nat} {P : V → Hp → Prop} (h : Ev ta σ H P) (k : ∀ v H1, Same H H1 → P v H1 → ∀ r, H1 r = none → tz D ((σ.set i (some v)).set j (some (V.ref r))) (upd H1 r (.lst []))) : tSeq (tPar i j (tCons ta (tCons (tLst tNil) tNil))) tz D σ H :=
  h H (Same.refl H) (fun v H1 => tCons (tLst tNil) tNil σ H1 (fun vs H2 => ∃ a b, v :: vs = [a, b] ∧ tz D ((σ.set i (some a)).set j (some b)) H2)) fun v H1 e p => ⟨Nat.zero_le _, fun r hr => ⟨v, .ref r, rfl, k v H1 e p r hr⟩⟩
/-- a comprehension that takes from the tub -/
theorem go_lcU {ts : List (List Str)} (hsrc : SrcM TEx wi σ H ts (fun z x H1 => Tt H1 x (strsD z))) (tub : Tub t n H) (hz : ts.length ≤ 1000)
    (turn : ∀ z x H1 m, SU t H H1 → Tub t m H1 → m < n + ts.length → Tt H1 x (strsD z) → ∀ C : L2.St → Hp → Prop, (∀ σ2, wipe σ2 vs = wipe σ vs → (∀ QQ : Bool → Hp → Prop, (∀ b H3, SU t H1 H3 → Tub t (m + 1) H3 → QQ b H3) → tt σ2 H1 QQ) → (∀ H3, TEx H1 H3 → Ev te σ2 H3 (IsT (strsD z))) → C σ2 H1) → g x (wipe σ vs) H1 C)
    (k : ∀ (p : Addr) (H' : Hp) (es : List (List Str)), SU t H H' → Tub t (n + ts.length) H' → IsL (es.map strsD) (V.ref p) H' → H p = none → TEx H H' → es.length ≤ ts.length → (∀ x ∈ es, x ∈ ts) → Q (V.ref p) H') : tLc wi g tt te vs σ H Q :=
  hsrc H (Same.refl H) _ fun J H1 G Y e1 w mono g1 yok D hD => by
    have tub1 := tub.same e1
    have Dt : D ≠ t := tub1.ne hD
    refine lc_it w (fun i H' => ∃ acc es, SU t H1 H' ∧ TEx H1 H' ∧ Tub t (n + i) H' ∧ H' D = some (.lst acc) ∧ TtA H' acc (es.map strsD) ∧ es.length ≤ i ∧ ∀ x ∈ es, x ∈ ts) ⟨[], [], Same.su (same_new hD), tex_same (same_new hD), tub1.put Dt, upd_same, .nil, Nat.le_refl 0, fun x hx => by cases hx⟩ (fun i H' _ ⟨_, _, _, e, _⟩ => mono _ _ e g1) (fun i x H' H3 hi pv y => ?_) (fun H' pv => ?_)
    · obtain ⟨acc, es, su1, tx1, tb1, hacc, ta, el, em⟩ := pv
      have hb : ts[i]? = some ts[i] := List.getElem?_eq_getElem hi
      obtain ⟨s3, rb⟩ := yok i _ x H' H3 hb (mono _ _ tx1 g1) y
      have su3 := su1.trans (Same.su s3)
      have tb3 := tb1.same s3
      refine turn ts[i] x H3 (n + i) ((Same.su e1).trans su3) tb3 (by omega) rb _ fun σ2 hw ht he => ⟨hw, ht _ fun b H4 su4 tb4 => ?_⟩
      have hacc3 := s3 _ _ hacc
      have hacc4 := su4 D _ Dt hacc3
      have tx34 := su4.tex tb3
      have ta4 := (ta.same s3).tex tx34
      have su14 := su3.trans su4
      cases b with
      | true =>
        rw [if_pos rfl]
        refine he H4 tx34 H4 (Same.refl H4) _ fun y H5 e5 py => ⟨acc, e5 _ _ hacc4, ?_, acc ++ [y], es ++ [ts[i]], (su14.trans (Same.su e5)).put hD, ((tx1.trans (tex_same s3)).trans tx34).trans ((tex_same e5).trans (tex_lst (e5 _ _ hacc4))), (tb4.same e5).put Dt, upd_same, ?_, by rw [List.length_append, List.length_singleton]; omega, fun z hz => ?_⟩
        · rw [ta.len, List.length_map]
          exact size_lt (by omega)
        · rw [List.map_append]
          exact (TtA.snoc py (ta4.same e5)).tex (tex_lst (e5 _ _ hacc4))
        · rcases List.mem_append.mp hz with h | h
          · exact em z h
          · rw [List.mem_singleton.mp h]; exact List.getElem_mem hi
      | false =>
        rw [if_neg (by decide)]
        exact ⟨acc, es, su14, (tx1.trans (tex_same s3)).trans tx34, tb4, hacc4, ta4, by omega, em⟩
    · obtain ⟨acc, es, su1, tx1, tb1, hacc, ta, el, em⟩ := pv
      exact k D H' es ((Same.su e1).trans su1) tb1 ⟨D, acc, rfl, hacc, ta⟩ (e1.free hD) ((tex_same e1).trans tx1) el em
theorem q_lcU {i : Nat} {tz : TS} {D : Ends} {ts : List (List Str)} (hsrc : SrcM TEx wi σ H ts (fun z x H1 => Tt H1 x (strsD z))) (tub : Tub t n H) (hz : ts.length ≤ 1000)
    (turn : ∀ z x H1 m, SU t H H1 → Tub t m H1 → m < n + ts.length → Tt H1 x (strsD z) → ∀ C : L2.St → Hp → Prop, (∀ σ2, wipe σ2 vs = wipe σ vs → (∀ QQ : Bool → Hp → Prop, (∀ b H3, SU t H1 H3 → Tub t (m + 1) H3 → QQ b H3) → tt σ2 H1 QQ) → (∀ H3, TEx H1 H3 → Ev te σ2 H3 (IsT (strsD z))) → C σ2 H1) → g x (wipe σ vs) H1 C)
    (k : ∀ (p : Addr) (H' : Hp) (es : List (List Str)), SU t H H' → Tub t (n + ts.length) H' → IsL (es.map strsD) (V.ref p) H' → H p = none → TEx H H' → es.length ≤ ts.length → (∀ x ∈ es, x ∈ ts) → tz D (σ.set i (some (V.ref p))) H') : tSeq (tAsg (tLc wi g tt te vs) (gName i)) tz D σ H :=
  go_lcU (Q := fun v H' => tz D (σ.set i (some v)) H') hsrc tub hz turn k
theorem q_ifTake {u : Nat} {tu tw tz : TS} {D : Ends} {tr : TA} (h : EvA tr σ H (fun vs _ => vs = [V.ref t, V.int (u : Int)])) (hu : 1 ≤ u) (hu2 : u ≤ 1000) (tub : Tub t n H) (hn : n + 1 ≤ 2 ^ 60) (k1 : ∀ H', SU t H H' → Tub t (n + 1) H' → tu { D with nx := tz D } σ H') (k2 : ∀ H', SU t H H' → Tub t (n + 1) H' → tw { D with nx := tz D } σ H') :
    tSeq (tIfS (tTest (tOp rEq (tCall spTake [] E0 tr) (tC (.int 0)))) tu tw) tz D σ H := by
  show tCall spTake [] E0 tr σ H (fun x H1 => rEq x (.int 0) H1 (fun v H2 => ∃ b, v = .bl b ∧ (if b = true then tu { D with nx := tz D } σ H2 else tw { D with nx := tz D } σ H2)))
  refine go_u h tub hn u (fun vs H1 _ e => ⟨e, hu, hu2⟩) fun v H' su tb ⟨j, hv, _⟩ => ?_
  subst hv
  refine ⟨rfl, _, rfl, ?_⟩
  by_cases c : decide (V.int (j : Int) = V.int 0) = true
  · rw [if_pos c]; exact k1 H' su tb
  · rw [if_neg c]; exact k2 H' su tb
end
section
variable {P : Program} {w : World} {K : PySem.W.Frag} {mg : Str → Option Value} {base : Heap}
def spMate : Sp := SpU (α := SBk) (fun b t vs H => ∃ x, vs = [.ref t, x] ∧ Tt H x (bookD b) ∧ LBk b ∧ b.length ≤ 10 ∧ ∀ p ∈ b, p.2.length ≤ 3) 5000 (fun b v H => ∃ b' : SBk, Tt H v (bookD b') ∧ LBk b' ∧ unitsM b' = unitsM b)
theorem k_mate (T : Txt K mg) : Kn P w K mg base CX0 3 "_law_mate" spMate := by
  have G1 := k_take (P := P) (w := w) (base := base) T
  have G2 := k_of (P := P) (w := w) (base := base) T
  have G3 := k_pick (P := P) (w := w) (base := base) T
  refine T.d_law_mate.kn c_law_mate (fun vs H Q E h => ?_) (fun f cdv A outer s H vs Q E hr h => ?_)
  · obtain ⟨a, t, n, ⟨l, rfl, _⟩, _⟩ := h
    rfl
  · obtain ⟨b0, t, n, ⟨x, rfl, hx, hb, hus, hp3⟩, tub, hn, q⟩ := h
    refine ⟨_, pss_cons (ps_par (i := 2) (j := 3) (by rfl) c_law_mate.nd rfl rfl (by decide) rfl rfl (pa_cons (pe_lc (own := [("_law_own", 4)]) (g := gName 4) (by rfl) c_law_mate.nd (pi_tup (pv 1)) (blkOk_by (N := ["_law_tub", "_law_plan_so", "_law_tags_here", "_law_found", "_law_own", "_law_tag", "_law_lots_so", "_law_lot"]) (sc := defScope s_law_mate) (by decide +kernel)) (fun _ _ _ _ _ => pgn 4 c_law_mate.nd)
          (fun _ _ _ _ _ => pts_nil) (fun _ _ _ _ _ => pe_ix (ix_tupK (K := K) (by rfl)) (pv 4) pe_int (fun _ _ => rfl))) (pa_cons (pe_lst pa_nil) pa_nil)) (by rfl))
      (pss_cons (ps_for PassesOwn.never (by rfl) (pi_tup (pv 1)) (pg_tup rfl (pgs_cons (pgn 5 c_law_mate.nd) (pgs_cons (pgn 6 c_law_mate.nd) pgs_nil)))
        (pss_cons (ps_setLc (own := [("_law_lot", 7)]) (g := gName 7) (i := 6) (by rfl) c_law_mate.nd (by rfl) (by rfl) (sw_true rfl rfl rfl (by decide +kernel)) (pi_tup (pv 6)) (blkOk_by (N := ["_law_tub", "_law_plan_so", "_law_tags_here", "_law_found", "_law_own", "_law_tag", "_law_lots_so", "_law_lot"]) (sc := defScope s_law_mate) (by decide +kernel)) (fun _ _ _ _ _ => pgn 7 c_law_mate.nd)
          (fun _ _ _ _ _ => pts_one (pt_cmpR op_gt (pe_kn G1 (hr.mono (by decide)) pass0 (pa_cons (pv 0) (pa_cons pe_int pa_nil))) pe_int (by rfl))) (fun _ _ _ _ _ => pv 7))
        (pss_cons (ps_if (pt_cmpR op_eq (pe_kn G1 (hr.mono (by decide)) pass0 (pa_cons (pv 0) (pa_cons pe_int pa_nil))) pe_int (by rfl))
          (pss_one (ps_expr (pe_bm PySem.F.plainAttrs_list PySem.F.slot_list_append PySem.F.type_list_append mt_append (pv 6) (pa_cons (pe_callTy cr_tup (by rfl) T.b_tuple (by decide +kernel) (pa_cons (pe_callB (cr_sortQ hr.units) (by rfl) T.b_sorted (by decide +kernel) (pa_cons (pe_kn G3 hr pass0 (pa_cons (pv 0) (pa_cons (pv 2) (pa_cons (pe_kn G2 hr pass0 (pa_cons (pv 0) (pa_cons (pe_lst (pa_cons pe_int (pa_cons pe_int (pa_cons pe_int (pa_cons pe_int pa_nil))))) pa_nil))) pa_nil)))) pa_nil)) pa_nil)) pa_nil)))) pss_nil)
        (pss_one (ps_expr (pe_bm PySem.F.plainAttrs_list PySem.F.slot_list_append PySem.F.type_list_append mt_append (pv 3) (pa_cons (pe_tup (pa_cons (pv 5) (pa_cons (pe_callTy cr_tup (by rfl) T.b_tuple (by decide +kernel) (pa_cons (pe_sortSet (setKT _ _) strsD is_tup sortD_tups (by rfl) hr.units (by rfl) T.b_sorted (by rfl) T.b_set (by decide +kernel) (by decide +kernel) (pv 6)) pa_nil)) pa_nil))) pa_nil)))))))
      (pss_one (ps_ret (pe_callTy cr_tup (by rfl) T.b_tuple (by decide +kernel) (pa_cons (pv 3) pa_nil))))), ?_⟩
    have n16 := hb.ok.n16
    have ulen : (unitsM b0).length = b0.length := by unfold unitsM; rw [List.length_map]
    have tagsE := ev_lc (te := tOp (rIxT K) (tVar 4) (tC (.int 0))) (tt := tYes) (g := gName 4) (vs := [4]) (σ := start ["_law_tub", "_law_plan_so", "_law_tags_here", "_law_found", "_law_own", "_law_tag", "_law_lots_so", "_law_lot"] [.ref t, x]) (H := H) (src_map pairD (src_tup (K := K) (te := tVar 1) (ds := b0.map pairD) (ev_vt (i := 1) (v := x) rfl hx))) (fun _ => true) (fun p => .str p.1) (by omega) fun p hp y H1 e hy C c =>
      c [some (.ref t), some x, none, none, some y, none, none, none] _ (Same.refl _) rfl et_yes fun _ => ev_ixT (K := K) (i := 0) (ev_vt (i := 4) (v := y) rfl hy) ev_c rfl
    rw [filter_yes, show b0.map (fun p => PyData.str p.1) = (unitsM b0).map PyData.str from by unfold unitsM; rw [List.map_map]; rfl] at tagsE
    refine q_parL tagsE fun tv H1 e1 ⟨tl, txs, etv, htl, ttl⟩ r hr0 => ?_
    subst etv
    rw [tta_strs ttl] at htl
    have tub1 := tub.same e1
    have tlt : tl ≠ t := fun e => by
      obtain ⟨t0, t1, t2, h0, _⟩ := tub1
      rw [← e, htl] at h0
      injection h0 with h0
      injection h0 with h0
      cases hq : unitsM b0 with
      | nil => rw [hq] at h0; cases h0
      | cons u r => rw [hq] at h0; cases h0
    have s1 : Same H1 (upd H1 r (.lst [])) := same_new hr0
    have fr : upd H1 r (.lst []) r = some (.lst []) := upd_same
    have tlr : tl ≠ r := ne_of_none htl hr0
    have htl2 := s1 _ _ htl
    have rt : r ≠ t := tub1.ne hr0
    have hrN : H r = none := e1.free hr0
    have tub2 := tub1.same s1
    have su2 : SU t H (upd H1 r (.lst [])) := Same.su (e1.trans s1)
    have hx2 : Tt (upd H1 r (.lst [])) x (bookD b0) := (hx.same e1).same s1
    generalize upd H1 r (.lst []) = H2 at *
    have hnd := hb.ok.nd
    refine s_for (srcM_map pairD (srcM_tup (K := K) (te := tVar 1) (ds := b0.map pairD) (σ := [some (.ref t), some x, some (.ref tl), some (.ref r), none, none, none, none]) (ev_vt (i := 1) (v := x) rfl hx2))) (fun HL i σ' H' => ∃ (b : SBk) (xs : List V) (l4 l5 l6 l7 : Option V), σ' = [some (.ref t), some x, some (.ref tl), some (.ref r), l4, l5, l6, l7] ∧ H' r = some (.lst xs) ∧ TtA H' xs (b.map pairD) ∧ b.map (·.1) = (unitsM b0).take i ∧ Making 10 (unitsM b0) b ∧ TEx HL H' ∧ SU t H H' ∧ Tub t (n + 400 * i) H' ∧ H' tl = some (.lst ((unitsM b0).map V.str)))
      (fun HL eL => ⟨[], [], none, none, none, none, rfl, eL _ _ fr, .nil, by rw [List.take_zero]; rfl, ⟨(fun p hp => by cases hp), (fun p hp => by cases hp)⟩, TEx.refl _, su2.trans (Same.su eL), tub2.same eL, eL _ _ htl2⟩) (fun HL i σ' H' ⟨_, _, _, _, _, _, _, _, _, _, _, t, _⟩ => t) ?_ ?_
    · rintro HL eL i p y σ' H3 H4 hbi ⟨b, xs, l4, l5, l6, l7, rfl, hr3, tx, bu, mk, tex, su3, tb3, htl3⟩ e4 hy
      have hp : p ∈ b0 := List.mem_of_getElem? hbi
      have iu : i < b0.length := (List.getElem?_eq_some_iff.mp hbi).1
      have bl : b.length = i := by
        have := congrArg List.length bu
        rw [List.length_map, List.length_take] at this
        omega
      have xl : xs.length = i := by rw [tx.len, List.length_map, bl]
      have lot3 := hp3 p hp
      have lotk := hb.ok.fair.each p hp
      have lots := hb.sub p hp
      have bi : (unitsM b0)[i]? = some p.1 := by unfold unitsM; rw [List.getElem?_map, hbi]; rfl
      refine pair_go hy fun y1 z t1 t2 => ?_
      rw [tt_str t1]
      have tb4 := tb3.same e4
      refine q_lcU (te := tVar 7) (tt := tTest (tOp (rI0 fun i j => .bl (decide (j < i))) (tCall spTake [] E0 (tCons (tVar 0) (tCons (tC (.int 4)) tNil))) (tC (.int 0)))) (g := gName 7) (vs := [7]) (srcM_map strsD (srcM_tup (K := K) (te := tVar 6) (ds := p.2.map strsD) (σ := [some (.ref t), some x, some (.ref tl), some (.ref r), l4, some (.str p.1), some z, l7]) (ev_vt (i := 6) (v := z) rfl t2))) tb4 (by omega) (fun zz xx H5 m su5 tb5 hm hz C c => c [some (.ref t), some x, some (.ref tl), some (.ref r), l4, some (.str p.1), some z, some xx] rfl (fun QQ kk => go_u (c := 1) (ea_two (mono_v (.ref t)) (ev_var (i := 0) (v := .ref t) rfl) (ev_c (v := .int 4))) tb5 (by omega) 4 (fun vs H1 e1 ⟨v, w, h1, h2, h3⟩ => ⟨by rw [h1, h2, h3]; rfl, by decide, by decide⟩) fun v H6 su6 tb6 ⟨j, hv, hj⟩ => ⟨(j : Int), 0, hv, rfl, _, rfl, kk _ H6 su6 tb6⟩) fun H6 tx6 => ev_vt (i := 7) (v := xx) rfl (hz.tex tx6)) fun lp H5 es su5 tb5 hes lpn tex5 el em => ?_
      have hr4 := e4 _ _ hr3
      have hr5 := su5 r _ rt hr4
      have lpt : lp ≠ t := tb4.ne lpn
      have lpr : lp ≠ r := fun e => by rw [e, hr4] at lpn; cases lpn
      have lptl : lp ≠ tl := fun e => by rw [e, e4 _ _ htl3] at lpn; cases lpn
      have hlpN : H lp = none := (su3.trans (Same.su e4)).free tb4 lpn
      have htl5 := su5 tl _ tlt (e4 _ _ htl3)
      have tx5 := (tx.same e4).tex tex5
      have texL5 := (tex.trans (tex_same e4)).trans tex5
      have su05 := (su3.trans (Same.su e4)).trans su5
      refine q_ifTake (u := 3) (fun H1 e Q q => ea_two (mono_v (.ref t)) (ev_var (i := 0) (v := .ref t) rfl) (ev_c (v := .int 3)) H1 e Q fun vs H2 e2 ⟨v, w, h1, h2, h3⟩ => q vs H2 e2 (by rw [h1, h2, h3]; rfl)) (by decide) (by decide) tb5 (by omega) (fun H6 su6 tb6 => ?_) (fun H6 su6 tb6 => ?_)
      · have hr6 := su6 r _ rt hr5
        have htl6 := su6 tl _ tlt htl5
        have tex6 := su6.tex tb5
        obtain ⟨lp', zs, elp, hlp5, tz5⟩ := hes
        cases elp
        have hlp6 := su6 lp _ lpt hlp5
        have tz6 := tz5.tex tex6
        have tx6 := tx5.tex tex6
        have su06 := su05.trans su6
        have texL6 := texL5.trans tex6
        refine ⟨.ref lp, rfl, .inl ⟨rfl, _, sq_l hlp6⟩, .ref t, rfl, .ref tl, rfl, .ref t, rfl, (by show 4 ≤ sizeLine; decide), fun lo hlo => ?_⟩
        have e10 : Same H6 (upd H6 lo (.lst [.int 0, .int 1, .int 1, .int 2])) := same_new hlo
        have flo : upd H6 lo (.lst [.int 0, .int 1, .int 1, .int 2]) lo = some (.lst [.int 0, .int 1, .int 1, .int 2]) := upd_same
        have tb10 := tb6.same e10
        have lot : lo ≠ t := tb6.ne hlo
        generalize upd H6 lo (.lst [.int 0, .int 1, .int 1, .int 2]) = H10 at *
        refine ⟨[0, 1, 1, 2], t, _, ⟨lo, rfl, flo, lot, by decide, by decide⟩, tb10, by omega, fun ov H11 su11 tb11 ⟨zi, hzi, hov⟩ => ?_⟩
        subst hov
        have z3 : ∃ zn : Nat, zi = (zn : Int) ∧ zn ≤ 3 := by
          simp only [List.mem_cons, List.not_mem_nil, or_false] at hzi
          exact ⟨zi.toNat, by omega, by omega⟩
        obtain ⟨zn, rfl, z3⟩ := z3
        have htl11 := su11 tl _ tlt (e10 _ _ htl6)
        refine ⟨(unitsM b0, zn), t, _, ⟨tl, rfl, htl11, tlt, hnd, (by omega : (unitsM b0).length ≤ 100), (by omega : zn ≤ 1000)⟩, tb11, by omega, fun fv H12 su12 tb12 ⟨ks, hks, knd, ksub, klen⟩ => ?_⟩
        have klen10 : ks.length ≤ 10 := by
          have := nodup_len knd ksub
          omega
        refine sort_tup_go (K := K) (σ := []) hks knd (by omega) fun tv H13 ys e13 ty asc pm => ?_
        have su613 : SU t H6 H13 := (((Same.su e10).trans su11).trans su12).trans (Same.su e13)
        have tex613 := su613.tex tb6
        have hlp13 := su613 lp _ lpt hlp6
        have hr13 := su613 r _ rt hr6
        have htl13 := su613 tl _ tlt htl6
        refine ⟨lp, zs, tv, rfl, rfl, hlp13, size_lt (by rw [tz5.len, List.length_map]; omega), ?_⟩
        have tb13 := (tb12.same e13).put (a := lp) (o := .lst (zs ++ [tv])) lpt
        have fl14 : upd H13 lp (.lst (zs ++ [tv])) lp = some (.lst (zs ++ [tv])) := upd_same
        have hr14 : upd H13 lp (.lst (zs ++ [tv])) r = some (.lst xs) := by rw [upd_ne lpr.symm]; exact hr13
        have htl14 : upd H13 lp (.lst (zs ++ [tv])) tl = some (.lst ((unitsM b0).map V.str)) := by rw [upd_ne lptl.symm]; exact htl13
        have tex14 : TEx H6 (upd H13 lp (.lst (zs ++ [tv]))) := tex613.trans (tex_lst hlp13)
        have su14 := (su06.trans su613).put (p := lp) (o := .lst (zs ++ [tv])) hlpN
        have tz14 : TtA (upd H13 lp (.lst (zs ++ [tv]))) (zs ++ [tv]) ((es ++ [ys]).map strsD) := by
          rw [List.map_append]
          exact (TtA.snoc ty (tz6.tex tex613)).tex (tex_lst hlp13)
        generalize upd H13 lp (.lst (zs ++ [tv])) = H14 at *
        refine s_append (K := K) (i := 3) (p := r) rfl ⟨xs, hr14⟩ (ev_pairE (K := K) (i := 5) (j := 6) (u := p.1) (l := lp) (ts := es ++ [ys]) rfl rfl ⟨lp, _, rfl, fl14, tz14⟩ (by rw [List.length_append, List.length_singleton]; omega)) (fun pv H8 xs8 e8 ⟨es', tp, el', em'⟩ h8 _ => ?_) (fun xs8 h8 => by rw [hr14] at h8; cases h8; omega)
        have ex := e8 _ _ hr14
        rw [h8] at ex
        cases ex
        rw [List.length_append, List.length_singleton] at el'
        refine ⟨b ++ [(p.1, es')], xs ++ [pv], _, _, _, _, rfl, upd_same, ?_, ?_, mk.snoc (by show es'.length ≤ 10; omega) (fun zz hz => ?_), ((texL6.trans tex14).trans (tex_same e8)).trans (tex_lst h8), (su14.trans (Same.su e8)).put hrN, ((tb13.same e8).put rt).mono (by omega), by rw [upd_ne tlr]; exact e8 _ _ htl14⟩
        · rw [List.map_append]
          exact (TtA.snoc tp ((tx6.tex tex14).same e8)).tex (tex_lst h8)
        · rw [List.map_append, bu, take_more bi]; rfl
        · rcases List.mem_append.mp (em' zz hz) with h | h
          · exact ⟨lotk.2 zz (em zz h), lots zz (em zz h)⟩
          · rw [List.mem_singleton.mp h]
            exact ⟨by rw [pm.length_eq]; omega, fun o ho => ksub o (pm.mem_iff.mp ho)⟩
      · have hr6 := su6 r _ rt hr5
        have htl6 := su6 tl _ tlt htl5
        have tex6 := su6.tex tb5
        obtain ⟨lp', zs, elp, hlp5, tz5⟩ := hes
        cases elp
        have hlp6 := su6 lp _ lpt hlp5
        have tz6 := tz5.tex tex6
        have tx6 := tx5.tex tex6
        have su06 := su05.trans su6
        have texL6 := texL5.trans tex6
        refine s_append (K := K) (i := 3) (p := r) rfl ⟨xs, hr6⟩ (ev_pairE (K := K) (i := 5) (j := 6) (u := p.1) (l := lp) (ts := es) rfl rfl ⟨lp, _, rfl, hlp6, tz6⟩ (by omega)) (fun pv H8 xs8 e8 ⟨es', tp, el', em'⟩ h8 _ => ?_) (fun xs8 h8 => by rw [hr6] at h8; cases h8; omega)
        have ex := e8 _ _ hr6
        rw [h8] at ex
        cases ex
        refine ⟨b ++ [(p.1, es')], xs ++ [pv], _, _, _, _, rfl, upd_same, ?_, ?_, mk.snoc (by show es'.length ≤ 10; omega) (fun zz hz => ⟨lotk.2 zz (em zz (em' zz hz)), lots zz (em zz (em' zz hz))⟩), (texL6.trans (tex_same e8)).trans (tex_lst h8), (su06.trans (Same.su e8)).put hrN, ((tb6.same e8).put rt).mono (by omega), by rw [upd_ne tlr]; exact e8 _ _ htl6⟩
        · rw [List.map_append]
          exact (TtA.snoc tp (tx6.same e8)).tex (tex_lst h8)
        · rw [List.map_append, bu, take_more bi]; rfl
    · rintro HL eL σ' H3 ⟨b, xs, l4, l5, l6, l7, rfl, hr3, tx, bu, mk, tex, su3, tb3, htl3⟩
      rw [← ulen, List.take_length] at bu
      show tRet (tCB (rTupOf K) (tCons (tVar 3) tNil)) { nx := fun _ H' => Q .non H', rt := Q } [some (.ref t), some x, some (.ref tl), some (.ref r), l4, l5, l6, l7] H3
      refine s_ret (ev_tupL (K := K) (te := tVar 3) (ds := b.map pairD) (ev_vp (i := 3) (v := .ref r) rfl (mono_l _) ⟨r, xs, rfl, hr3, tx⟩)) fun v' H4 e4 hv' => q v' H4 (su3.trans (Same.su e4)) ((tb3.same e4).mono (by omega)) ⟨b, hv', mk.done (by decide) bu hnd hb.ok.txt (by omega), bu⟩
end
end Up
end
section
set_option Elab.async false
set_option linter.all false
set_option maxRecDepth 100000
set_option maxHeartbeats 4000000
/-! _law_heard. -/
namespace Up
open PySem PySem.Spec PyProof.Rows L2
theorem pss_prop {X : Cx} {b : List Stmt} {t : TS} {p : Prop} (h : p → PSs X b t) : PSs X b (fun D σ H => p ∧ t D σ H) := ⟨fun pins s σ H D I q => (h q.1).run pins s σ H D I q.2⟩
section
variable {P : Program} {w : World} {K : PySem.W.Frag} {mg : Str → Option Value} {base : Heap} {B C : Addr}
def heardD : List PyData := [.str "other", .bool true]
def spHeard : Sp := SpD (α := SBk × SBk) (fun a vs H => PreTwo a vs H) (fun a v H => if unitsM a.1 = unitsM a.2 then v = .bl (subB a.2 a.1) else IsL heardD v H)
theorem k_heard (T : Txt K mg) (TX : TxtX K mg C) (D : DfT K mg B) : Kn P w K mg base CX0 11 "_law_heard" spHeard := by
  have G := k_never (P := P) (w := w) (base := base) T TX D
  obtain ⟨f, fd, hm, F, hb⟩ := T.d_law_heard.ex
  refine ⟨f, fd, _, F.ok c_law_heard (fun vs H Q E h => ?_) (fun cdv A outer s H vs Q E hr h => ?_), hm, F.kp, hb⟩
  · obtain ⟨a, ⟨v, x, rfl, _⟩, _⟩ := h
    rfl
  · obtain ⟨⟨a, b⟩, ⟨v, x, rfl, hv, hx, ha, hb⟩, q⟩ := h
    simp only at hv hx ha hb q
    refine ⟨_, pss_cons (ps_asg (pe_tup (pa_cons pe_non (pa_cons pe_non pa_nil))) (pg_tup rfl (pgs_cons (pgn 2 c_law_heard.nd) (pgs_cons (pgn 3 c_law_heard.nd) pgs_nil))))
      (pss_cons (ps_try_as (i := 4) (tb := fun W => tAsg (tCallS (spNever C) (WE W) (tCons (tVar 0) (tCons (tVar 1) tNil))) (gName 3)) (ts := fun a' cls d => fun D σ H => (cls = .ref C ∧ d = none) ∧ tAsg (tLst (tCons (tC (.str "other")) (tCons (tCB (rIsE K C a') (tCons (tVar 4) (tCons (tC (.ty "ValueError")) tNil))) tNil))) (gName 2) D σ H) (Wout := fun _ _ _ _ => False) rfl rfl c_law_heard.nd rfl rfl ⟨rfl, by decide, Or.inl TX.gC⟩ takes0
          (fun W pn xe tk _ => pss_one (ps_asg (pe_knS (E := WE W) G hr (fun σ => passAt tk σ) (pa_cons (pv 0) (pa_cons (pv 1) pa_nil))) (pgn 3 c_law_heard.nd)))
          (fun a' oe cls d pn hz hf => pss_prop fun ⟨e1, e2⟩ => pss_one (ps_asg (pe_lst (pa_cons pe_str (pa_cons (pe_callB (call_isE TX.isC (by rw [← e1, ← e2]; exact hz) hf) (by rfl) T.b_isinstance (by decide +kernel) (pa_cons (pv 4) (pa_cons (pe_bltn (v := .ty "ValueError") (by rfl) T.b_ValueError (by decide +kernel) rfl) pa_nil))) pa_nil))) (pgn 2 c_law_heard.nd))))
      (pss_one (ps_ret (pe_ifExp (pt_cmp (pc_isN (pv 2))) (pv 3) (pv 2))))), ?_⟩
    refine s_tup2 (K := K) (mono_v .non) (mono_v .non) (ev_c (v := .non)) (ev_c (v := .non)) fun y z H1 e1 hy hz => ?_
    subst hy hz
    have hv1 := hv.same e1
    have hx1 := hx.same e1
    refine ⟨v, rfl, x, rfl, (a, b), ⟨v, x, rfl, hv1, hx1, ha, hb⟩, fun nb rv H2 e2 ⟨r, h1, h2⟩ => ?_, fun bad H2 e2 => ?_⟩
    · subst h1
      have un : unitsM a = unitsM b := Decidable.of_not_not nb
      show tRet (tIf (tB (tIsN (tVar 2))) (tVar 3) (tVar 2)) { nx := fun _ H' => Q .non H', rt := Q } [some v, some x, some .non, some (.bl r), none] H2
      refine s_ret (ev_if (b := true) (P := fun v _ => v = .bl r) (et_B (ev_isN (v0 := .non) (ev_var (i := 2) (v := .non) rfl))) (fun _ => ev_var (i := 3) (v := .bl r) rfl) fun z => nomatch z) fun v' H3 e3 hv' => q v' H3 ((e1.trans e2).trans e3) ?_
      rw [if_pos un, hv']
      congr 1
      rw [Bool.eq_iff_iff, h2, subB_iff]
    · have un : ¬ unitsM a = unitsM b := bad
      refine ⟨true, TX.te, fun _ a0 ha0 => ⟨⟨rfl, rfl⟩, ?_⟩, fun z => nomatch z⟩
      refine ⟨.ref a0, rfl, .ty "ValueError", .type "ValueError", true, rfl, fun u r => by cases r; rfl, TX.isV, (by show 2 ≤ sizeLine; decide), fun l hl => ?_⟩
      show tRet (tIf (tB (tIsN (tVar 2))) (tVar 3) (tVar 2)) { nx := fun _ H' => Q .non H', rt := Q } [some v, some x, some (.ref l), some .non, none] (upd H2 l (.lst [.str "other", .bl true]))
      refine s_ret (ev_if (b := false) (P := fun v H' => IsL heardD v H') (et_B (ev_isN (v0 := .ref l) (ev_var (i := 2) (v := .ref l) rfl))) (fun z => nomatch z) fun _ => ev_vp (i := 2) (v := .ref l) (P := IsL heardD) rfl (mono_l _) ⟨l, _, rfl, upd_same, .cons (.str "other") (.cons (.bl true) .nil)⟩) fun v' H3 e3 hv' => q v' H3 (((e1.trans e2).trans (same_new hl)).trans e3) ?_
      rw [if_neg un]
      exact hv'
end
end Up
end
section
set_option Elab.async false
set_option linter.all false
set_option maxRecDepth 100000
set_option maxHeartbeats 4000000
/-! _law_same, of data that are the same. -/
namespace Up
open PySem PySem.Spec PyProof.Rows L2
/-- lists of bools and texts, to a depth -/
def Ll : Nat → Hp → V → PyData → Prop
  | 0, _, v, d => (∃ b, v = .bl b ∧ d = .bool b) ∨ ∃ x, v = .str x ∧ d = .str x
  | n + 1, H, v, d => ((∃ b, v = .bl b ∧ d = .bool b) ∨ ∃ x, v = .str x ∧ d = .str x) ∨ ∃ p xs ds, v = .ref p ∧ H p = some (.lst xs) ∧ d = .list ds ∧ ds.length ≤ 1000 ∧ Paired (Ll n H) xs ds
theorem Ll.same {H H' : Hp} (e : Same H H') : ∀ {n : Nat} {v : V} {d : PyData}, Ll n H v d → Ll n H' v d
  | 0, _, _, h => h
  | n + 1, _, _, .inl h => .inl h
  | n + 1, _, _, .inr ⟨p, xs, ds, h1, h2, h3, h4, h5⟩ => .inr ⟨p, xs, ds, h1, e _ _ h2, h3, h4, Paired.mapP h5 fun _ _ q => Ll.same e q⟩
section
variable {P : Program} {w : World} {K : PySem.W.Frag} {mg : Str → Option Value} {base : Heap}
theorem next_r {A : TS} {D : Ends} {r : VK} {b c : L2.St → Hp → Prop} {σ : L2.St} {H : Hp} (h : A D σ H) : tNext { nx := A D, rt := r, bk := b, ct := c } σ H := h
def spLSame (n : Nat) : Sp := SpD (α := PyData) (fun d vs H => ∃ v x, vs = [v, x] ∧ Ll n H v d ∧ Ll n H x d) (fun d v _ => v = .bl true)
theorem isi_scalar {H : Hp} {v x : V} {d : PyData} (h : (∃ b, v = .bl b ∧ d = .bool b) ∨ ∃ x, v = V.str x ∧ d = .str x) (k : (∃ b, x = .bl b ∧ d = .bool b) ∨ ∃ z, x = V.str z ∧ d = .str z) : (∃ b, v = .bl b ∧ x = .bl b) ∨ ∃ z, v = .str z ∧ x = .str z := by
  rcases h with ⟨b, rfl, rfl⟩ | ⟨z, rfl, rfl⟩
  · rcases k with ⟨b', rfl, e⟩ | ⟨z', rfl, e⟩
    · cases e; exact .inl ⟨b, rfl, rfl⟩
    · cases e
  · rcases k with ⟨b', rfl, e⟩ | ⟨z', rfl, e⟩
    · cases e
    · cases e; exact .inr ⟨z, rfl, rfl⟩
/-- the part for bools and texts -/
def tSameS (K : PySem.W.Frag) : TS := tIfS (tOr (tB (tIsN (tVar 1))) (tB (tCB (rIsiT K) (tCons (tVar 1) (tCons (tTup (tCons (tC (.ty "bool")) (tCons (tC (.ty "str")) tNil))) tNil)))))
  (tSeq (tAsg (tAndV (tOp rEq (tCB (rIsi K) (tCons (tVar 0) (tCons (tC (.ty "bool")) tNil))) (tCB (rIsi K) (tCons (tVar 1) (tCons (tC (.ty "bool")) tNil)))) (tOp rEq (tIsN (tVar 0)) (tIsN (tVar 1)))) (gName 4)) (tRet (tAndV (tVar 4) (tOp rEq (tVar 0) (tVar 1))))) tNext
theorem same_scalar {K : PySem.W.Frag} {tz : TS} {D : Ends} {H : Hp} {v x : V} (h : (∃ b, v = .bl b ∧ x = .bl b) ∨ ∃ z, v = V.str z ∧ x = .str z) (q : ∀ H', Same H H' → D.rt (.bl true) H') : tSeq (tSameS K) tz D [some v, some x, none, none, none] H := by
  rcases h with ⟨b, rfl, rfl⟩ | ⟨z, rfl, rfl⟩
  · unfold tSameS
    refine q_if (b := true) ((et_or (et_B (ev_isN (v0 := (.bl b)) (ev_var (i := 1) (v := (.bl b)) rfl))) fun _ => et_B (ev_isi2 (K := K) (i := 1) (v := (.bl b)) (A := "bool") (B := "str") (b := true) rfl (fun _ _ => .base (.bl b)) (kitAny_cons (b := true) (kit_ty (by decide +kernel)) (fun z => nomatch z) fun _ => rfl))).to rfl) (fun _ H1 e1 => ?_) fun z => nomatch z
    refine q_set (ev_andV (a := true) (b := true) ((ev_eqS (x := .bl true) (y := .bl true) rfl (ev_isi1 (K := K) (i := 0) (v := (.bl b)) (A := "bool") rfl (fun _ _ => .base (.bl b)) (kit_ty (by decide +kernel))) (ev_isi1 (K := K) (i := 1) (v := (.bl b)) (A := "bool") rfl (fun _ _ => .base (.bl b)) (kit_ty (by decide +kernel)))).imp fun v _ _ e => by rw [e]; simp) fun _ => (ev_eqS (x := .bl false) (y := .bl false) rfl ((ev_isN (v0 := (.bl b)) (ev_var (i := 0) (v := (.bl b)) rfl)).imp fun v _ _ e => by rw [e]; simp) ((ev_isN (v0 := (.bl b)) (ev_var (i := 1) (v := (.bl b)) rfl)).imp fun v _ _ e => by rw [e]; simp)).imp fun v _ _ e => by rw [e]; simp) fun lv H2 e2 hl => ?_
    rw [hl]
    refine s_ret (ev_andV (a := true) (b := true) (ev_var (i := 4) (v := .bl true) rfl) fun _ => (ev_eqS (x := (.bl b)) (y := (.bl b)) rfl (ev_var (i := 0) (v := (.bl b)) rfl) (ev_var (i := 1) (v := (.bl b)) rfl)).imp fun v _ _ e => by rw [e]; simp) fun v' H3 e3 hv' => ?_
    rw [hv']
    exact q H3 ((e1.trans e2).trans e3)
  · unfold tSameS
    refine q_if (b := true) ((et_or (et_B (ev_isN (v0 := (.str z)) (ev_var (i := 1) (v := (.str z)) rfl))) fun _ => et_B (ev_isi2 (K := K) (i := 1) (v := (.str z)) (A := "bool") (B := "str") (b := true) rfl (fun _ _ => .base (.str z)) (kitAny_cons (b := false) (kit_ty (by decide +kernel)) (fun _ => kitAny_cons (b := true) (kit_ty (by decide +kernel)) (fun z => nomatch z) fun _ => rfl) fun z => nomatch z))).to rfl) (fun _ H1 e1 => ?_) fun z => nomatch z
    refine q_set (ev_andV (a := true) (b := true) ((ev_eqS (x := .bl false) (y := .bl false) rfl (ev_isi1 (K := K) (i := 0) (v := (.str z)) (A := "bool") rfl (fun _ _ => .base (.str z)) (kit_ty (by decide +kernel))) (ev_isi1 (K := K) (i := 1) (v := (.str z)) (A := "bool") rfl (fun _ _ => .base (.str z)) (kit_ty (by decide +kernel)))).imp fun v _ _ e => by rw [e]; simp) fun _ => (ev_eqS (x := .bl false) (y := .bl false) rfl ((ev_isN (v0 := (.str z)) (ev_var (i := 0) (v := (.str z)) rfl)).imp fun v _ _ e => by rw [e]; simp) ((ev_isN (v0 := (.str z)) (ev_var (i := 1) (v := (.str z)) rfl)).imp fun v _ _ e => by rw [e]; simp)).imp fun v _ _ e => by rw [e]; simp) fun lv H2 e2 hl => ?_
    rw [hl]
    refine s_ret (ev_andV (a := true) (b := true) (ev_var (i := 4) (v := .bl true) rfl) fun _ => (ev_eqS (x := (.str z)) (y := (.str z)) rfl (ev_var (i := 0) (v := (.str z)) rfl) (ev_var (i := 1) (v := (.str z)) rfl)).imp fun v _ _ e => by rw [e]; simp) fun v' H3 e3 hv' => ?_
    rw [hv']
    exact q H3 ((e1.trans e2).trans e3)
theorem k_lsame (T : Txt K mg) : ∀ n : Nat, Kn P w K mg base CX0 (n + 1) "_law_same" (spLSame n)
  | 0 => by
    refine T.d_law_same.kn c_law_same (fun vs H Q E h => ?_) (fun f cdv A outer s H vs Q E hr h => ?_)
    · obtain ⟨a, ⟨v, x, rfl, _⟩, _⟩ := h
      rfl
    · obtain ⟨d, ⟨v, x, rfl, hv, hx⟩, q⟩ := h
      refine ⟨_, pss_cons (ps_if (pt_val (pe_callB call_isiT (by rfl) T.b_isinstance (by decide +kernel) (pa_cons (pv 1) (pa_cons (pe_tup (pa_cons (pe_bltn (v := .ty "list") (by rfl) T.b_list (by decide +kernel) rfl) (pa_cons (pe_bltn (v := .ty "tuple") (by rfl) T.b_tuple (by decide +kernel) rfl) pa_nil))) pa_nil)))) (pss_cons ps_no (pss_cons ps_no (pss_one ps_no))) pss_nil)
        (pss_cons (ps_if (pw_or (pt_cmp (pc_isN (pv 1))) (pw_or1 (pt_val (pe_callB call_isiT (by rfl) T.b_isinstance (by decide +kernel) (pa_cons (pv 1) (pa_cons (pe_tup (pa_cons (pe_bltn (v := .ty "bool") (by rfl) T.b_bool (by decide +kernel) rfl) (pa_cons (pe_bltn (v := .ty "str") (by rfl) T.b_str (by decide +kernel) rfl) pa_nil))) pa_nil)))))).pt
          (pss_cons (ps_asg (pe_and (pe_cmpR op_eq (pe_callB call_isi (by rfl) T.b_isinstance (by decide +kernel) (pa_cons (pv 0) (pa_cons (pe_bltn (v := .ty "bool") (by rfl) T.b_bool (by decide +kernel) rfl) pa_nil))) (pe_callB call_isi (by rfl) T.b_isinstance (by decide +kernel) (pa_cons (pv 1) (pa_cons (pe_bltn (v := .ty "bool") (by rfl) T.b_bool (by decide +kernel) rfl) pa_nil))) (by rfl)) (pe_one (pe_cmpR op_eq (pe_cmp (pc_isN (pv 0))) (pe_cmp (pc_isN (pv 1))) (by rfl)))) (pgn 4 c_law_same.nd))
          (pss_one (ps_ret (pe_and (pv 4) (pe_one (pe_cmpR op_eq (pv 0) (pv 1) (by rfl))))))) pss_nil)
        (pss_one ps_no)), ?_⟩
      have hs := isi_scalar (H := H) hv hx
      have hsc : Scal x d := by
        rcases hx with ⟨b, rfl, rfl⟩ | ⟨z, rfl, rfl⟩
        · rfl
        · rfl
      refine q_if (b := false) (et_B (ev_isiN (K := K) (i := 1) (v := x) (d := d) rfl hsc)) (fun z => nomatch z) fun _ H1 e1 => ?_
      refine next_r (same_scalar (K := K) hs fun H' e => ?_)
      exact q _ H' (e1.trans e) rfl
  | n + 1 => by
    have ih := k_lsame T n
    refine T.d_law_same.kn c_law_same (fun vs H Q E h => ?_) (fun f cdv A outer s H vs Q E hr h => ?_)
    · obtain ⟨a, ⟨v, x, rfl, _⟩, _⟩ := h
      rfl
    · obtain ⟨d, ⟨v, x, rfl, hv, hx⟩, q⟩ := h
      refine ⟨_, pss_cons (ps_if (pt_val (pe_callB call_isiT (by rfl) T.b_isinstance (by decide +kernel) (pa_cons (pv 1) (pa_cons (pe_tup (pa_cons (pe_bltn (v := .ty "list") (by rfl) T.b_list (by decide +kernel) rfl) (pa_cons (pe_bltn (v := .ty "tuple") (by rfl) T.b_tuple (by decide +kernel) rfl) pa_nil))) pa_nil))))
          (pss_cons (ps_if (pt_cmpR op_ne (pe_callB call_isi (by rfl) T.b_isinstance (by decide +kernel) (pa_cons (pv 0) (pa_cons (pe_bltn (v := .ty "list") (by rfl) T.b_list (by decide +kernel) rfl) pa_nil))) (pe_callB call_isi (by rfl) T.b_isinstance (by decide +kernel) (pa_cons (pv 1) (pa_cons (pe_bltn (v := .ty "list") (by rfl) T.b_list (by decide +kernel) rfl) pa_nil))) (by rfl)) (pss_one ps_no) pss_nil)
          (pss_cons (ps_if (pt_cmpR op_ne (pe_callB call_isi (by rfl) T.b_isinstance (by decide +kernel) (pa_cons (pv 0) (pa_cons (pe_bltn (v := .ty "tuple") (by rfl) T.b_tuple (by decide +kernel) rfl) pa_nil))) (pe_callB call_isi (by rfl) T.b_isinstance (by decide +kernel) (pa_cons (pv 1) (pa_cons (pe_bltn (v := .ty "tuple") (by rfl) T.b_tuple (by decide +kernel) rfl) pa_nil))) (by rfl)) (pss_one ps_no) pss_nil)
          (pss_one (ps_ret (pe_and (pe_cmpR op_eq (pe_callB cr_len (by rfl) T.b_len (by decide +kernel) (pa_cons (pv 0) pa_nil)) (pe_callB cr_len (by rfl) T.b_len (by decide +kernel) (pa_cons (pv 1) pa_nil)) (by rfl))
            (pe_one (pe_callB (cr_all (by rfl)) (by rfl) T.b_all (by decide +kernel) (pa_cons (pe_lc (own := [("_law_mine", 2), ("_law_its", 3)]) (g := gTup K 2 (gCons (gName 2) (gCons (gName 3) gNil))) (by rfl) c_law_same.nd (pi_zip (by rfl) T.b_zip (pa_cons (pv 0) (pa_cons (pv 1) pa_nil))) (blkOk_by (N := ["_law_got", "_law_due_here", "_law_mine", "_law_its", "_law_like"]) (sc := defScope s_law_same) (by decide +kernel))
              (fun _ _ _ _ _ => pg_tup rfl (pgs_cons (pgn 2 c_law_same.nd) (pgs_cons (pgn 3 c_law_same.nd) pgs_nil))) (fun _ _ _ _ _ => pts_nil) (fun _ _ _ _ _ => pe_kn ih hr pass0 (pa_cons (pv 2) (pa_cons (pv 3) pa_nil)))) pa_nil)))))))) pss_nil)
        (pss_cons (ps_if (pw_or (pt_cmp (pc_isN (pv 1))) (pw_or1 (pt_val (pe_callB call_isiT (by rfl) T.b_isinstance (by decide +kernel) (pa_cons (pv 1) (pa_cons (pe_tup (pa_cons (pe_bltn (v := .ty "bool") (by rfl) T.b_bool (by decide +kernel) rfl) (pa_cons (pe_bltn (v := .ty "str") (by rfl) T.b_str (by decide +kernel) rfl) pa_nil))) pa_nil)))))).pt
          (pss_cons (ps_asg (pe_and (pe_cmpR op_eq (pe_callB call_isi (by rfl) T.b_isinstance (by decide +kernel) (pa_cons (pv 0) (pa_cons (pe_bltn (v := .ty "bool") (by rfl) T.b_bool (by decide +kernel) rfl) pa_nil))) (pe_callB call_isi (by rfl) T.b_isinstance (by decide +kernel) (pa_cons (pv 1) (pa_cons (pe_bltn (v := .ty "bool") (by rfl) T.b_bool (by decide +kernel) rfl) pa_nil))) (by rfl)) (pe_one (pe_cmpR op_eq (pe_cmp (pc_isN (pv 0))) (pe_cmp (pc_isN (pv 1))) (by rfl)))) (pgn 4 c_law_same.nd))
          (pss_one (ps_ret (pe_and (pv 4) (pe_one (pe_cmpR op_eq (pv 0) (pv 1) (by rfl))))))) pss_nil)
        (pss_one ps_no)), ?_⟩
      rcases hx with hx | ⟨px, xs, ds, rfl, hpx, rfl, dl, prx⟩
      · rcases hv with hv | ⟨pv, vs, ds, rfl, hpv, rfl, dl, prv⟩
        · have hs := isi_scalar (H := H) hv hx
          have hsc : Scal x d := by
            rcases hx with ⟨b, rfl, rfl⟩ | ⟨z, rfl, rfl⟩
            · rfl
            · rfl
          refine q_if (b := false) (et_B (ev_isiN (K := K) (i := 1) (v := x) (d := d) rfl hsc)) (fun z => nomatch z) fun _ H1 e1 => ?_
          refine next_r (same_scalar (K := K) hs fun H' e => ?_)
          exact q _ H' (e1.trans e) rfl
        · rcases hx with ⟨b, _, e⟩ | ⟨z, _, e⟩
          · cases e
          · cases e
      · rcases hv with hv | ⟨pv, vs, ds', rfl, hpv, e, _, prv⟩
        · rcases hv with ⟨b, _, e⟩ | ⟨z, _, e⟩
          · cases e
          · cases e
        · cases e
          refine q_if (b := true) (et_B (ev_isiY (K := K) (i := 1) (v := .ref px) (xs := xs) rfl ⟨px, rfl, .inr hpx⟩)) (fun _ H1 e1 => ?_) fun z => nomatch z
          have one : ∀ (i : Nat) (p : Addr) (zs : List V) (A : String) (b : Bool) (H2 : Hp), [some (.ref pv), some (.ref px), none, none, none][i]? = some (some (V.ref p)) → H2 p = some (.lst zs) → kitB "list" A = some b → Ev (tCB (rIsi K) (tCons (tVar i) (tCons (tC (.ty A)) tNil))) [some (.ref pv), some (.ref px), none, none, none] H2 (fun w _ => w = .bl b) := fun i p zs A b H2 h1 h2 h3 => ev_isi1 (K := K) h1 (fun H3 e3 => .base (.lst (e3 _ _ h2))) (kit_ty h3)
          refine q_if (b := false) ((et_test (ev_neS (x := .bl true) (y := .bl true) rfl (one 0 pv vs "list" true H1 rfl (e1 _ _ hpv) (by decide +kernel)) (one 1 px xs "list" true H1 rfl (e1 _ _ hpx) (by decide +kernel)))).to (by simp)) (fun z => nomatch z) fun _ H2 e2 => ?_
          have s2 := e1.trans e2
          refine next_r (q_if (b := false) ((et_test (ev_neS (x := .bl false) (y := .bl false) rfl (one 0 pv vs "tuple" false H2 rfl (s2 _ _ hpv) (by decide +kernel)) (one 1 px xs "tuple" false H2 rfl (s2 _ _ hpx) (by decide +kernel)))).to (by simp)) (fun z => nomatch z) fun _ H3 e3 => ?_)
          have s3 := s2.trans e3
          have lv := paired_len prv
          have lx := paired_len prx
          have lenE : ∀ (i : Nat) (p : Addr) (zs : List V), [some (.ref pv), some (.ref px), none, none, none][i]? = some (some (V.ref p)) → H3 p = some (.lst zs) → zs.length = ds.length → Ev (tCB (rLen K) (tCons (tVar i) tNil)) [some (.ref pv), some (.ref px), none, none, none] H3 (fun w _ => w = .int (ds.length : Int)) := fun i p zs h1 h2 h3 H4 e4 Q q =>
            ⟨.ref p, h1, _, zs.length, rfl, .inl ⟨zs, sq_l (e4 _ _ h2), rfl⟩, q _ H4 (Same.refl _) (by rw [h3])⟩
          have srcZ : Src (iZip K (tCons (tVar 0) (tCons (tVar 1) tNil))) [some (.ref pv), some (.ref px), none, none, none] H3 ds (fun d X H' => ∃ T x y, X = V.ref T ∧ H' T = some (.tup [x, y]) ∧ Ll n H' x d ∧ Ll n H' y d) := fun H4 e4 C c => by
            refine ⟨.ref pv, rfl, .ref px, rfl, pv, px, vs, xs, rfl, sq_l (e4 _ _ (s3 _ _ hpv)), sq_l (e4 _ _ (s3 _ _ hpx)), c (Itz K pv px) H4 (fun H2 => (H2 pv = some (.lst vs) ∧ Paired (Ll n H2) vs ds) ∧ (H2 px = some (.lst xs) ∧ Paired (Ll n H2) xs ds)) (YPair (fun i => vs[i]?) (fun i => xs[i]?)) (Same.refl _) ?_ (fun H2 H3 e g => ⟨⟨e _ _ g.1.1, Paired.mapP g.1.2 fun _ _ q => q.same e⟩, ⟨e _ _ g.2.1, Paired.mapP g.2.2 fun _ _ q => q.same e⟩⟩) ⟨⟨e4 _ _ (s3 _ _ hpv), Paired.mapP prv fun _ _ q => q.same (s3.trans e4)⟩, ⟨e4 _ _ (s3 _ _ hpx), Paired.mapP prx fun _ _ q => q.same (s3.trans e4)⟩⟩ fun i d X H5 H6 hb g y => ?_⟩
            · exact (walk_zip (xs := vs) (ys := xs) (by omega)).mono (fun H2 g => ⟨sq_l g.1.1, sq_l g.2.1⟩) fun i H2 x H3 _ _ y => y
            · obtain ⟨T', x1, y1, rfl, hT, rfl, h1, h2⟩ := y
              obtain ⟨d1, hd1, q1⟩ := paired_get g.1.2 h1
              obtain ⟨d2, hd2, q2⟩ := paired_get g.2.2 h2
              rw [hb] at hd1 hd2
              cases hd1
              cases hd2
              exact ⟨same_new hT, T', x1, y1, rfl, upd_same, q1.same (same_new hT), q2.same (same_new hT)⟩
          have lcE := ev_lc (te := tCall (spLSame n) [] E0 (tCons (tVar 2) (tCons (tVar 3) tNil))) (tt := tYes) (g := gTup K 2 (gCons (gName 2) (gCons (gName 3) gNil))) (vs := [2, 3]) srcZ (fun _ => true) (fun _ => .bool true) (by omega) fun d hd X H4 e4 hX C c => by
            obtain ⟨T', x1, y1, rfl, hT, q1, q2⟩ := hX
            refine ⟨T', [x1, y1], rfl, sq_t hT, rfl, x1, [y1], rfl, y1, [], rfl, rfl, c [some (.ref pv), some (.ref px), some x1, some y1, none] _ (Same.refl _) rfl et_yes fun _ => ?_⟩
            exact (ev_kn (ea_two (P1 := fun v H => Ll n H v d) (fun _ _ _ e q => q.same e) (ev_vp (i := 2) (v := x1) (P := fun v H => Ll n H v d) rfl (fun _ _ _ e q => q.same e) q1) (ev_vp (i := 3) (v := y1) (P := fun v H => Ll n H v d) rfl (fun _ _ _ e q => q.same e) q2)) d (fun vs H6 _ h => h) (fun v H6 _ h => h) : Ev (tCall (spLSame n) [] E0 (tCons (tVar 2) (tCons (tVar 3) tNil))) [some (.ref pv), some (.ref px), some x1, some y1, none] H4 (fun v _ => v = .bl true)).tbl
          rw [filter_yes, show ds.map (fun _ => PyData.bool true) = (ds.map fun _ => true).map PyData.bool from by rw [List.map_map]; rfl] at lcE
          have allE := ev_all (K := K) lcE
          refine next_r (s_ret (ev_andV (a := true) (b := true) ((ev_eqS (x := .int (ds.length : Int)) (y := .int (ds.length : Int)) rfl (lenE 0 pv vs rfl (s3 _ _ hpv) lv) (lenE 1 px xs rfl (s3 _ _ hpx) lx)).imp fun v _ _ e => by rw [e]; simp) fun _ => allE.imp fun v _ _ e => by rw [e]; simp) fun v' H4 e4 hv' => ?_)
          exact q v' H4 (s3.trans e4) (by rw [hv']; rfl)
end
end Up
end
section
set_option Elab.async false
set_option linter.all false
set_option maxRecDepth 100000
set_option maxHeartbeats 4000000
/-! Rules for _law_right. -/
namespace Up
open PySem PySem.Spec PyProof.Rows L2
section
variable {X : Cx} {K : PySem.W.Frag}
theorem op_notInDK (h : X.K = K) (hu : X.A.units + 65 < cLine) : OpR X (compareOp .NotIn) (rNotInD K) := by subst h; exact op_notInD hu
theorem op_eqDK (h : X.K = K) (hu : X.A.units + 64 < cLine) : OpR X (compareOp .Eq) (rEqD K) := by subst h; exact op_eqD hu
end
section
variable {K : PySem.W.Frag} {σ : L2.St} {H : Hp} {ta tb te : TE} {t2 t3 : TT} {tu tz : TS} {D : Ends} {tr : TA} {t : Addr} {n i : Nat}
theorem q_u {α : Type} {pre : α → Addr → List V → Hp → Prop} {c : Nat} {post : α → V → Hp → Prop} {PA : List V → Hp → Prop} (h : EvA tr σ H PA) (tub : Tub t n H) (hn : n + c ≤ 2 ^ 60) (a : α) (hp : ∀ vs H1, Same H H1 → PA vs H1 → pre a t vs H1)
    (k : ∀ v H', SU t H H' → Tub t (n + c) H' → post a v H' → tz D (σ.set i (some v)) H') : tSeq (tAsg (tCall (SpU pre c post) [] E0 tr) (gName i)) tz D σ H := go_u (Q := fun v H' => tz D (σ.set i (some v)) H') h tub hn a hp k
theorem q_no (h : EvT t2 σ H false) (k : ∀ H1, Same H H1 → tz D σ H1) : tSeq (tIfS t2 tu tNext) tz D σ H := q_if h (fun z => nomatch z) fun _ H1 e1 => k H1 e1
theorem s_no (h : EvT t2 σ H false) (k : ∀ H1, Same H H1 → D.nx σ H1) : tIfS t2 tu tNext D σ H := s_if h (fun z => nomatch z) fun _ H1 e1 => k H1 e1
theorem q_ifin {b : Bool} (h : EvT t2 σ H b) (h2 : ∀ H1, Same H H1 → EvT t3 σ H1 false) (k : ∀ H1, Same H H1 → tz D σ H1) : tSeq (tIfS t2 (tIfS t3 tu tNext) tNext) tz D σ H :=
  q_if h (fun _ H1 e1 => s_no (D := { D with nx := tz D }) (h2 H1 e1) fun H2 e2 => k H2 (e1.trans e2)) fun _ H1 e1 => k H1 e1
theorem ll_bools {H : Hp} {bs : List Bool} {v : V} (h : IsL (bs.map .bool) v H) (hl : bs.length ≤ 1000) : Ll 1 H v (.list (bs.map .bool)) := by
  obtain ⟨p, xs, rfl, hp, t⟩ := h
  refine .inr ⟨p, xs, _, rfl, hp, rfl, by rw [List.length_map]; exact hl, ?_⟩
  rw [tta_bools t]
  clear hp t hl
  induction bs with
  | nil => exact .nil
  | cons b bs ih => exact .cons (.inl ⟨b, rfl, rfl⟩) ih
theorem eqv_bools : ∀ as bs : List Bool, PyData.eqvAll (as.map PyData.bool) (bs.map PyData.bool) = decide (as = bs)
  | [], [] => by simp [PyData.eqvAll]
  | [], _ :: _ => by simp [PyData.eqvAll]
  | _ :: _, [] => by simp [PyData.eqvAll]
  | a :: as, b :: bs => by
    rw [List.map_cons, List.map_cons, PyData.eqvAll, eqv_bools as bs]
    cases a <;> cases b <;> by_cases h : as = bs <;> simp [h, PyData.eqv]
theorem eqv_boolsL (as bs : List Bool) : PyData.eqv (.list (as.map PyData.bool)) (.list (bs.map PyData.bool)) = decide (as = bs) := by
  rw [PyData.eqv]; exact eqv_bools as bs
theorem shaped_bools (bs : List Bool) : SeqAt.shaped (.list (bs.map PyData.bool)) = true := (shaped_all fun d hd => by
  obtain ⟨b, _, rfl⟩ := List.mem_map.mp hd
  exact ⟨rfl, by simp [PyData.depth]⟩).1
theorem ev_notInD {k : List Str} {es : List (List Str)} (hk : ∀ u ∈ k, PyData.strOk u = true) (he : ∀ e ∈ es, ∀ u ∈ e, PyData.strOk u = true) (ha : Ev ta σ H (IsT (strsD k))) (hb : Ev tb σ H (IsL (es.map strsD))) : Ev (tOp (rNotInD K) ta tb) σ H (fun w _ => w = .bl (!decide (k ∈ es))) :=
  ev_op (mono_t _) ha hb fun x y H1 _ p1 p2 Q q => ⟨strsD k, es.map strsD, p1.dp, p2.dp, shaped_strsD hk, (shaped_all fun d hd => by obtain ⟨e, h, rfl⟩ := List.mem_map.mp hd; exact lay_strsD (he e h)).1, q _ H1 (Same.refl H1) (by
    congr 2
    rw [Bool.eq_iff_iff, decide_eq_true_iff, List.any_eq_true]
    constructor
    · rintro ⟨d, hd, e⟩
      obtain ⟨z, hz, rfl⟩ := List.mem_map.mp hd
      rw [eqv_strsD, decide_eq_true_iff] at e
      rw [← e]; exact hz
    · intro h
      exact ⟨strsD k, List.mem_map.mpr ⟨k, h, rfl⟩, by rw [eqv_strsD]; exact decide_eq_true rfl⟩)⟩
/-- a list of lists of text tuples -/
def RLs (es : List (List Str)) (x : V) (H : Hp) : Prop := IsL (es.map strsD) x H
theorem src_lrM {β : Type} {R : β → V → Hp → Prop} (S : ∀ b x H H', Same H H' → R b x H → R b x H') {bs : List β} (h : Ev te σ H (IsLR R bs)) : Src (iList K te) σ H bs R := fun H0 e C c =>
  h H0 e _ fun v H1 e1 ⟨a, xs, hv, h2, t⟩ => by
    refine ⟨a, hv, ⟨xs, sq_l h2⟩, c (Itl K a) H1 (fun H2 => H2 a = some (.lst xs) ∧ Paired (fun x b => R b x H2) xs bs) (YAt xs) e1 ?_ (fun H2 H3 e3 g => ⟨e3 _ _ g.1, Paired.mapP g.2 fun x b q => S _ _ _ _ e3 q⟩) ⟨h2, t⟩ fun i b x H2 H3 hb g y => ?_⟩
    · rw [← paired_len t]
      exact walk_list.mono (fun H2 g => sq_l g.1) fun i H2 x H3 _ _ y => y
    · obtain ⟨e3, y⟩ := y
      subst e3
      obtain ⟨d, hd, td⟩ := paired_get g.2 y
      rw [hb] at hd
      cases hd
      exact ⟨Same.refl _, td⟩
theorem ev_lls {A B : List (List Str)} (ha : Ev ta σ H (IsL (A.map strsD))) (hb : Ev tb σ H (IsL (B.map strsD))) : Ev (tLst (tCons ta (tCons tb tNil))) σ H (IsLR RLs [A, B]) := fun H1 e Q q =>
  ea_two (mono_l _) ha hb H1 e _ fun vs H2 e2 ⟨v, w, hvs, hv, hw⟩ => by
    subst hvs
    exact ⟨(by show 2 ≤ sizeLine; decide), fun p hp => q _ _ (e2.trans (same_new hp)) ⟨p, [v, w], rfl, upd_same, .cons (hv.same (same_new hp)) (.cons (hw.same (same_new hp)) .nil)⟩⟩
end
theorem stands_sub {a b : SBk} {es fs : List (List Str)} (he : ∀ k, k ∈ es ↔ Asc k ∧ Stand a k) (hf : ∀ k, k ∈ fs ↔ Asc k ∧ Stand b k) : decide (fs.filter (fun k => !decide (k ∈ es)) = []) = subB b a := by
  rw [Bool.eq_iff_iff, decide_eq_true_iff, subB_iff, List.filter_eq_nil_iff]
  constructor
  · intro h s hs
    have c := canon_can s
    have hm : canon s ∈ fs := (hf _).mpr ⟨c.1, hs.same fun x => (c.2 x).symm⟩
    have := h _ hm
    have hin : canon s ∈ es := by simpa using this
    exact ((he _).mp hin).2.same fun x => c.2 x
  · intro h k hk hc
    obtain ⟨h1, h2⟩ := (hf k).mp hk
    have : k ∈ es := (he k).mpr ⟨h1, h k h2⟩
    simp [this] at hc
/-! books sorted -/
theorem alike_tups : ∀ ns ms : List (List Str), PySem.W.alikeAll (ns.map strsD) (ms.map strsD) = true
  | [], _ => by simp [PySem.W.alikeAll]
  | _ :: _, [] => by simp [PySem.W.alikeAll]
  | n :: ns, m :: ms => by
    rw [List.map_cons, List.map_cons, PySem.W.alikeAll, alike_tups ns ms, Bool.and_true]
    show PySem.W.alike (.tuple _) (.tuple _) = true
    rw [PySem.W.alike]; exact alike_strs n m
theorem alike_pairs (p q : Str × List (List Str)) : PySem.W.alike (pairD p) (pairD q) = true := by
  unfold pairD needsD
  simp [PySem.W.alike, PySem.W.alikeAll, alike_tups]
theorem depth_tups : ∀ ns : List (List Str), PyData.depthAll (ns.map strsD) ≤ 2
  | [] => by simp [PyData.depthAll]
  | n :: ns => by
    rw [List.map_cons, PyData.depthAll]
    have h1 := depth_tups ns
    have h2 := depth_strsD n
    omega
theorem depth_pair (p : Str × List (List Str)) : (pairD p).depth ≤ 10 := by
  unfold pairD needsD
  have := depth_tups p.2
  simp [PyData.depth, PyData.depthAll]
  omega
theorem sortD_pairs (b : SBk) (h : b.length ≤ 100000) : SortD (b.map pairD) where
  al := fun d hd d' hd' => by
    obtain ⟨u, _, rfl⟩ := List.mem_map.mp hd
    obtain ⟨v, _, rfl⟩ := List.mem_map.mp hd'
    exact alike_pairs u v
  ok := .inl fun d hd => by obtain ⟨u, _, rfl⟩ := List.mem_map.mp hd; exact ⟨_, rfl⟩
  few := by rw [List.length_map]; exact h
  dep := fun d hd => by obtain ⟨u, _, rfl⟩ := List.mem_map.mp hd; exact Nat.le_trans (depth_pair u) (by decide)
/-! a book with one unit more -/
def nD : Str × List (List Str) := ("n", [[]])
theorem wide_ok {us : List Str} {b b3 : SBk} (h : LBk b) (e : unitsM b = us) (hs : ∀ u ∈ us, u ∈ ten) (l : b.length ≤ 4) (pm : b3.Perm (b ++ [nD])) : LBk b3 ∧ b3.length = b.length + 1 := by
  have len : b3.length = b.length + 1 := by rw [pm.length_eq, List.length_append]; rfl
  have um : (unitsM b3).Perm (unitsM b ++ [("n" : Str)]) := by
    have := pm.map (fun p : Str × List (List Str) => p.1)
    rw [List.map_append] at this
    exact this
  have nn : ("n" : Str) ∉ unitsM b := fun z => by
    rw [e] at z
    exact (show ¬ ("n" : Str) ∈ ten by decide +kernel) (hs _ z)
  have mem : ∀ p ∈ b3, p ∈ b ∨ p = nD := fun p hp => (List.mem_append.mp (pm.mem_iff.mp hp)).imp id fun h => List.mem_singleton.mp h
  refine ⟨⟨⟨⟨by omega, fun p hp => ?_⟩, ?_, fun u hu => ?_, by omega⟩, fun p hp n hn o ho => ?_⟩, len⟩
  · rcases mem p hp with z | rfl
    · exact h.ok.fair.each p z
    · exact ⟨by decide, fun n hn => by rw [List.mem_singleton.mp hn]; exact Nat.zero_le _⟩
  · exact um.nodup_iff.mpr (snoc_nodup h.ok.nd nn)
  · rcases List.mem_append.mp (um.mem_iff.mp hu) with z | z
    · exact h.ok.txt u z
    · rw [List.mem_singleton.mp z]; decide +kernel
  · rcases mem p hp with z | rfl
    · exact um.mem_iff.mpr (List.mem_append_left _ (h.sub p z n hn o ho))
    · rw [List.mem_singleton.mp hn] at ho; cases ho
theorem ll_heard {H : Hp} {x : V} (h : IsL heardD x H) : Ll 1 H x (.list heardD) := by
  obtain ⟨p, xs, rfl, hp, t⟩ := h
  cases t with
  | cons t1 t =>
    cases t with
    | cons t2 t =>
      cases t
      rw [tt_str t1, tt_bl t2] at hp
      exact .inr ⟨p, _, _, rfl, hp, rfl, by decide, .cons (.inr ⟨_, rfl, rfl⟩) (.cons (.inl ⟨_, rfl, rfl⟩) .nil)⟩
def TwoH : V → Hp → Prop := fun v H => Ll 2 H v (.list [.list heardD, .list heardD])
section
variable {K : PySem.W.Frag} {σ : L2.St} {H : Hp} {ta tb : TE}
theorem ev_twoH (ha : Ev ta σ H (IsL heardD)) (hb : Ev tb σ H (IsL heardD)) : Ev (tLst (tCons ta (tCons tb tNil))) σ H TwoH := fun H1 e Q q =>
  ea_two (mono_l _) ha hb H1 e _ fun vs H2 e2 ⟨v, w, hvs, hv, hw⟩ => by
    subst hvs
    exact ⟨(by show 2 ≤ sizeLine; decide), fun p hp => q _ _ (e2.trans (same_new hp)) (.inr ⟨p, [v, w], _, rfl, upd_same, rfl, by show 2 ≤ 1000; decide, .cons (ll_heard (hv.same (same_new hp))) (.cons (ll_heard (hw.same (same_new hp))) .nil)⟩)⟩
theorem ev_repH : Ev (tOp rRep (tLst (tCons (tLst (tCons (tC (.str "other")) (tCons (tC (.bl true)) tNil))) tNil)) (tC (.int 2))) σ H TwoH := fun H1 e Q q =>
  ⟨(by show 2 ≤ sizeLine; decide), fun p hp => ⟨(by show 1 ≤ sizeLine; decide), fun r hr => ⟨r, 2, [.ref p], rfl, rfl, upd_same, by decide, by decide, (by show 1 * 2 ≤ sizeLine; decide), fun l hl => by
    have hx : IsL heardD (.ref p) (upd (upd (upd H1 p (.lst [.str "other", .bl true])) r (.lst [.ref p])) l (.lst [.ref p, .ref p])) := ⟨p, _, rfl, same_new hl _ _ (same_new hr _ _ upd_same), .cons (.str "other") (.cons (.bl true) .nil)⟩
    exact q _ _ (((same_new hp).trans (same_new hr)).trans (same_new hl)) (.inr ⟨l, [.ref p, .ref p], _, rfl, upd_same, rfl, by show 2 ≤ 1000; decide, .cons (ll_heard hx) (.cons (ll_heard hx) .nil)⟩)⟩⟩⟩
end
end Up
end
section
set_option Elab.async false
set_option linter.all false
set_option maxRecDepth 100000
set_option maxHeartbeats 4000000
/-! _law_right. -/
namespace Up
open PySem PySem.Spec PyProof.Rows L2
section
variable {P : Program} {w : World} {K : PySem.W.Frag} {mg : Str → Option Value} {base : Heap} {B C : Addr}
def spRight : Sp := SpU (α := Unit) (fun _ t vs H => vs = [.ref t]) 100000 (fun _ v _ => v = .bl true)
theorem k_right (T : Txt K mg) (TX : TxtX K mg C) (D : DfT K mg B) : Kn P w K mg base CX0 12 "_law_right" spRight := by
  have G1 := k_take (P := P) (w := w) (base := base) T
  have G2 := k_tags (P := P) (w := w) (base := base) T
  have G3 := k_plan (P := P) (w := w) (base := base) T
  have G4 := k_mate (P := P) (w := w) (base := base) T
  have G5 := k_ldue (P := P) (w := w) (base := base) T
  have G6 := k_heard (P := P) (w := w) (base := base) T TX D
  have G7 := fun n => k_lsame (P := P) (w := w) (base := base) T n
  have G8 := k_lstands (P := P) (w := w) (base := base) T
  refine T.d_law_right.kn c_law_right (fun vs H Q E h => ?_) (fun f cdv A outer s H vs Q E hr h => ?_)
  · obtain ⟨a, t, n, rfl, _⟩ := h
    rfl
  · obtain ⟨_, t, n, rfl, tub, hn, q⟩ := h
    have hu65 : (A.deeper (envOfC "_law_right" (defScope s_law_right) s.heap.objs.size f cdv)).units + 65 < cLine := by
      have := hr.un
      omega
    refine ⟨_, pss_cons (ps_for PassesOwn.never (by rfl) (pi_range1 (by rfl) T.b_range (pa_cons pe_int pa_nil)) (pgn 1 c_law_right.nd)
        (pss_cons (ps_asg (pe_kn G2 (hr.mono (by decide)) pass0 (pa_cons (pv 0) (pa_cons (pe_op op_add pe_int (pe_kn G1 (hr.mono (by decide)) pass0 (pa_cons (pv 0) (pa_cons pe_int pa_nil)))) pa_nil))) (pgn 2 c_law_right.nd))
        (pss_cons (ps_asg (pe_kn G3 (hr.mono (by decide)) pass0 (pa_cons (pv 0) (pa_cons (pv 2) (pa_cons pe_int pa_nil)))) (pgn 3 c_law_right.nd))
        (pss_cons (ps_asg (pe_kn G4 (hr.mono (by decide)) pass0 (pa_cons (pv 0) (pa_cons (pv 3) pa_nil))) (pgn 4 c_law_right.nd))
        (pss_cons (ps_asg (pe_lst (pa_cons (pe_kn G5 (hr.mono (by decide)) pass0 (pa_cons (pv 3) (pa_cons (pv 4) (pa_cons pe_int pa_nil)))) (pa_cons (pe_kn G5 (hr.mono (by decide)) pass0 (pa_cons (pv 4) (pa_cons (pv 3) (pa_cons pe_int pa_nil)))) pa_nil))) (pgn 5 c_law_right.nd))
        (pss_cons (ps_asg (pe_lst (pa_cons (pe_kn G6 hr pass0 (pa_cons (pv 3) (pa_cons (pv 4) pa_nil))) (pa_cons (pe_kn G6 hr pass0 (pa_cons (pv 4) (pa_cons (pv 3) pa_nil))) (pa_cons (pe_kn G6 hr pass0 (pa_cons (pv 3) (pa_cons (pv 3) pa_nil))) pa_nil)))) (pgn 6 c_law_right.nd))
        (pss_cons (ps_if (pt_not (pt_val (pe_kn (G7 1) (hr.mono (by decide)) pass0 (pa_cons (pv 6) (pa_cons (pe_op op_cat (pv 5) (pe_lst (pa_cons pe_bl pa_nil))) pa_nil))))) (pss_one ps_no) pss_nil)
        (pss_cons (ps_if (pt_cmpR op_lt (pe_callB cr_len (by rfl) T.b_len (by decide +kernel) (pa_cons (pv 2) pa_nil)) pe_int (by rfl))
          (pss_one (ps_if (pt_cmpR (op_neD hr.units) (pe_lst (pa_cons (pe_kn G5 (hr.mono (by decide)) pass0 (pa_cons (pv 3) (pa_cons (pv 4) (pa_cons pe_int pa_nil)))) (pa_cons (pe_kn G5 (hr.mono (by decide)) pass0 (pa_cons (pv 4) (pa_cons (pv 3) (pa_cons pe_int pa_nil)))) pa_nil))) (pv 5) (by rfl)) (pss_one ps_no) pss_nil)) pss_nil)
        (pss_cons (ps_asg (pe_tup (pa_cons (pe_kn G8 (hr.mono (by decide)) pass0 (pa_cons (pv 3) pa_nil)) (pa_cons (pe_kn G8 (hr.mono (by decide)) pass0 (pa_cons (pv 4) pa_nil)) pa_nil))) (pg_tup rfl (pgs_cons (pgn 7 c_law_right.nd) (pgs_cons (pgn 8 c_law_right.nd) pgs_nil))))
        (pss_cons (ps_asg (pe_lst (pa_cons (pe_lc (own := [("_law_own", 10)]) (g := gName 10) (by rfl) c_law_right.nd (pi_list (pv 8)) (blkOk_by (N := ["_law_tub", "_law_turn", "_law_tags_here", "_law_kit_here", "_law_mate_here", "_law_due_here", "_law_got", "_law_mine", "_law_its", "_law_lacks", "_law_own", "_law_lot", "_law_wide"]) (sc := defScope s_law_right) (by decide +kernel)) (fun _ _ _ _ _ => pgn 10 c_law_right.nd) (fun _ _ _ _ _ => pts_one (pt_cmpR (op_notInDK (K := K) (by rfl) hu65) (pv 10) (pv 7) (by rfl))) (fun _ _ _ _ _ => pv 10))
            (pa_cons (pe_lc (own := [("_law_own", 10)]) (g := gName 10) (by rfl) c_law_right.nd (pi_list (pv 7)) (blkOk_by (N := ["_law_tub", "_law_turn", "_law_tags_here", "_law_kit_here", "_law_mate_here", "_law_due_here", "_law_got", "_law_mine", "_law_its", "_law_lacks", "_law_own", "_law_lot", "_law_wide"]) (sc := defScope s_law_right) (by decide +kernel)) (fun _ _ _ _ _ => pgn 10 c_law_right.nd) (fun _ _ _ _ _ => pts_one (pt_cmpR (op_notInDK (K := K) (by rfl) hu65) (pv 10) (pv 8) (by rfl))) (fun _ _ _ _ _ => pv 10)) pa_nil))) (pgn 9 c_law_right.nd))
        (pss_cons (ps_if (pt_cmpR (op_neD hr.units) (pe_lc (own := [("_law_lot", 11)]) (g := gName 11) (by rfl) c_law_right.nd (pi_list (pv 9)) (blkOk_by (N := ["_law_tub", "_law_turn", "_law_tags_here", "_law_kit_here", "_law_mate_here", "_law_due_here", "_law_got", "_law_mine", "_law_its", "_law_lacks", "_law_own", "_law_lot", "_law_wide"]) (sc := defScope s_law_right) (by decide +kernel)) (fun _ _ _ _ _ => pgn 11 c_law_right.nd) (fun _ _ _ _ _ => pts_nil) (fun _ _ _ _ _ => pe_cmpR (op_eqDK (K := K) (by rfl) hr.units) (pv 11) (pe_lst pa_nil) (by rfl))) (pv 5) (by rfl)) (pss_one ps_no) pss_nil)
        (pss_cons (ps_asg (pe_callTy cr_tup (by rfl) T.b_tuple (by decide +kernel) (pa_cons (pe_callB (cr_sortQ hr.units) (by rfl) T.b_sorted (by decide +kernel) (pa_cons (pe_op op_catA (pv 4) (pe_tup (pa_cons (pe_tup (pa_cons pe_str (pa_cons (pe_tup (pa_cons (pe_tup pa_nil) pa_nil)) pa_nil))) pa_nil))) pa_nil)) pa_nil)) (pgn 12 c_law_right.nd))
        (pss_one (ps_if (pt_not (pt_val (pe_kn (G7 2) (hr.mono (by decide)) pass0 (pa_cons (pe_lst (pa_cons (pe_kn G6 hr pass0 (pa_cons (pv 3) (pa_cons (pv 12) pa_nil))) (pa_cons (pe_kn G6 hr pass0 (pa_cons (pv 12) (pa_cons (pv 3) pa_nil))) pa_nil))) (pa_cons (pe_op op_rep (pe_lst (pa_cons (pe_lst (pa_cons pe_str (pa_cons pe_bl pa_nil))) pa_nil)) pe_int) pa_nil))))) (pss_one ps_no) pss_nil))))))))))))))
      (pss_one (ps_ret pe_bl)), ?_⟩
    refine s_for (srcM_rng (n := 6) (fun H1 e Q q => ea_one (ev_c (v := .int 6)) H1 e Q fun vs H2 e2 ⟨v, h1, h2⟩ => q vs H2 e2 (by rw [h1, h2]; rfl)) (by decide)) (fun HL i σ' H' => ∃ l1 l2 l3 l4 l5 l6 l7 l8 l9 l10 l11 l12 : Option V, σ' = [some (.ref t), l1, l2, l3, l4, l5, l6, l7, l8, l9, l10, l11, l12] ∧ SU t H H' ∧ Tub t (n + 15000 * i) H')
      (fun HL eL => ⟨none, none, none, none, none, none, none, none, none, none, none, none, rfl, Same.su eL, tub.same eL⟩) (fun _ _ _ _ _ => trivial) ?_ ?_
    · rintro HL eL i i' z σ' H3 H4 hbi ⟨l1, l2, l3, l4, l5, l6, l7, l8, l9, l10, l11, l12, rfl, su3, tb3⟩ e4 rfl
      have i6 : i < 6 := by
        have := (List.getElem?_eq_some_iff.mp hbi).1
        rwa [List.length_range] at this
      have su4 := su3.trans (Same.su e4)
      have tb4 := tb3.same e4
      clear su3 tb3 e4
      refine name_go ⟨.ref t, rfl, ?_⟩
      refine go_u (ea_two (mono_v (.ref t)) (ev_var (i := 0) (v := .ref t) rfl) (ev_c (v := .int 4))) tb4 (by omega) 4 (fun vs H1 e1 ⟨v, w, h1, h2, h3⟩ => ⟨by rw [h1, h2, h3]; rfl, by decide, by decide⟩) fun v H5 su5 tb5 ⟨j, hv, hj⟩ => ?_
      refine ⟨1, (j : Int), rfl, hv, 1 + j, t, _, ⟨by simp, by omega⟩, tb5, by omega, fun tv H6 su6 tb6 ⟨us, htv, uasc, usub, ulen⟩ => ?_⟩
      have un := asc_nodup uasc
      have ul : us.length = 1 + j := by rw [ulen]; omega
      have utx : ∀ u ∈ us, PyData.strOk u = true := fun u hu => (show ∀ u ∈ ten, PyData.strOk u = true by decide +kernel) u (usub u hu)
      have su06 := (su4.trans su5).trans su6
      clear su4 tb4 su5 tb5
      refine q_u (t := t) (ea_cons (mono_v (.ref t)) (ev_var (i := 0) (v := .ref t) rfl) (ea_two (mono_t (strsD us)) (ev_vt (i := 2) (v := tv) rfl htv) (ev_c (v := .int 3)))) tb6 (by omega) (us, 3) (fun vs H1 e1 ⟨v, r, h1, h2, w1, w2, h3, h4, h5⟩ => ⟨w1, by rw [h1, h2, h3, h5]; rfl, h4, un, (by omega : us.length ≤ 10), utx, Nat.le_refl 3⟩) fun kv H7 su7 tb7 ⟨a, hkv, hla, una, ha3⟩ => ?_
      have una : unitsM a = us := una
      have htv7 := htv.tex (su7.tex tb6)
      have al : a.length = 1 + j := by
        have : (unitsM a).length = a.length := by unfold unitsM; rw [List.length_map]
        rw [una] at this
        omega
      refine q_u (t := t) (ea_two (mono_v (.ref t)) (ev_var (i := 0) (v := .ref t) rfl) (ev_vt (i := 3) (v := kv) (d := bookD a) rfl hkv)) tb7 (by omega) a (fun vs H1 e1 ⟨v, w, h1, h2, h3⟩ => ⟨w, by rw [h1, h2], h3, hla, by omega, ha3⟩) fun mv H8 su8 tb8 ⟨b, hmv, hlb, unb⟩ => ?_
      have hkv8 := hkv.tex (su8.tex tb7)
      have htv8 := htv7.tex (su8.tex tb7)
      have bl : b.length = 1 + j := by
        have h1 : (unitsM b).length = b.length := by unfold unitsM; rw [List.length_map]
        have h2 : (unitsM a).length = a.length := by unfold unitsM; rw [List.length_map]
        rw [unb] at h1
        omega
      have ane : a ≠ [] := fun z => by rw [z, List.length_nil] at al; omega
      have bne : b ≠ [] := fun z => by rw [z, List.length_nil] at bl; omega
      have su08 := (su06.trans su7).trans su8
      have tb8 : Tub t (n + 15000 * i + 10101) H8 := tb8.mono (by omega)
      clear su06 tb6 su7 tb7 su8 su6
      have dueE : ∀ (m : Nat) (c d : SBk) (i1 i2 : Nat) (v1 v2 : V) (σ : L2.St) (H9 : Hp), 1 ≤ m → m ≤ 2 → LBk c → LBk d → unitsM d = unitsM c → c.length ≤ 4 → c ≠ [] → σ[i1]? = some (some v1) → σ[i2]? = some (some v2) → Tt H9 v1 (bookD c) → Tt H9 v2 (bookD d) → Ev (tCall spDue [] E0 (tCons (tVar i1) (tCons (tVar i2) (tCons (tC (.int (m : Int))) tNil)))) σ H9 (IsT (.bool (subB d c))) := fun m c d i1 i2 v1 v2 σ H9 m1 m2 lc ld ue cl cn h1 h2 t1 t2 =>
        (ev_kn (ea_cons (mono_t (bookD c)) (ev_vt h1 t1) (ea_two (mono_t (bookD d)) (ev_vt h2 t2) (ev_c (v := .int (m : Int))))) ((c, d), m) (fun vs H6 _ ⟨w, r, e1, e2, w1, w2, e3, e4, e5⟩ => ⟨w, w1, by rw [e1, e3, e5], e2, e4, lc, ld, ue, cl, cn, m1, m2⟩) (fun v H6 _ h => h) : Ev _ σ H9 (fun w _ => w = .bl (subB d c))).tbl
      have duesE : ∀ (m : Nat) (σ : L2.St) (H9 : Hp), 1 ≤ m → m ≤ 2 → Same H8 H9 → σ[3]? = some (some kv) → σ[4]? = some (some mv) → Ev (tLst (tCons (tCall spDue [] E0 (tCons (tVar 3) (tCons (tVar 4) (tCons (tC (.int (m : Int))) tNil)))) (tCons (tCall spDue [] E0 (tCons (tVar 4) (tCons (tVar 3) (tCons (tC (.int (m : Int))) tNil)))) tNil))) σ H9 (IsL ([subB b a, subB a b].map .bool)) := fun m σ H9 m1 m2 e h1 h2 =>
        ev_lst (ts_cons (dueE m a b 3 4 kv mv σ H9 m1 m2 hla hlb unb (by omega) ane h1 h2 (hkv8.same e) (hmv.same e)) (ts_cons (dueE m b a 4 3 mv kv σ H9 m1 m2 hlb hla unb.symm (by omega) bne h2 h1 (hmv.same e) (hkv8.same e)) ts_nil)) (by show 2 ≤ 100000; decide)
      refine q_set (duesE 1 _ H8 (by decide) (by decide) (Same.refl _) rfl rfl) fun dv H9 e9 hdv => ?_
      have heardE : ∀ (c d : SBk) (i1 i2 : Nat) (v1 v2 : V) (σ : L2.St) (H9 : Hp), LBk c → LBk d → unitsM c = unitsM d → σ[i1]? = some (some v1) → σ[i2]? = some (some v2) → Tt H9 v1 (bookD c) → Tt H9 v2 (bookD d) → Ev (tCall spHeard [] E0 (tCons (tVar i1) (tCons (tVar i2) tNil))) σ H9 (IsT (.bool (subB d c))) := fun c d i1 i2 v1 v2 σ H9 lc ld ue h1 h2 t1 t2 =>
        (ev_kn (ea_two (mono_t (bookD c)) (ev_vt h1 t1) (ev_vt h2 t2)) (c, d) (fun vs H6 _ ⟨w1, w2, e1, e2, e3⟩ => ⟨w1, w2, e1, bookV_of lc.ok.fair e2, bookV_of ld.ok.fair e3, lc.ok, ld.ok⟩) (fun v H6 _ h => by rw [if_pos ue] at h; exact h) : Ev _ σ H9 (fun w _ => w = .bl (subB d c))).tbl
      refine q_set (P := IsL ([subB b a, subB a b, subB a a].map .bool)) (ev_lst (ts_cons (heardE a b 3 4 kv mv _ H9 hla hlb unb.symm rfl rfl (hkv8.same e9) (hmv.same e9)) (ts_cons (heardE b a 4 3 mv kv _ H9 hlb hla unb rfl rfl (hmv.same e9) (hkv8.same e9)) (ts_cons (heardE a a 3 3 kv kv _ H9 hla hla rfl rfl rfl (hkv8.same e9) (hkv8.same e9)) ts_nil))) (by show 3 ≤ 100000; decide)) fun gv H10 e10 hgv => ?_
      have saa : subB a a = true := subB_iff.mpr (SubB.refl a)
      rw [saa] at hgv
      have catE := ev_catL (ta := tVar 5) (tb := tLst (tCons (tC (.bl true)) tNil)) (σ := [some (.ref t), some (.int (i' : Int)), some tv, some kv, some mv, some dv, some gv, l7, l8, l9, l10, l11, l12]) (H := H10) (ds := [subB b a, subB a b].map PyData.bool) (es := [PyData.bool true]) (ev_vp (i := 5) (v := dv) (P := IsL _) rfl (mono_l _) (hdv.same e10)) (ev_lst (ts_cons ev_bl ts_nil) (by show 1 ≤ 100000; decide)) (by show 2 + 1 ≤ 100000; decide)
      refine q_no ((et_not (et_B (ev_kn (ea_two (P1 := fun v H => IsL ([subB b a, subB a b, true].map .bool) v H) (mono_l _) (ev_vp (i := 6) (v := gv) (P := IsL _) rfl (mono_l _) hgv) catE) (.list ([subB b a, subB a b, true].map PyData.bool)) (fun vs H6 _ ⟨w1, w2, e1, e2, e3⟩ => ⟨w1, w2, e1, ll_bools e2 (by show 3 ≤ 1000; decide), ll_bools (bs := [subB b a, subB a b, true]) e3 (by show 3 ≤ 1000; decide)⟩) (fun v H6 _ h => h) : Ev _ _ H10 (fun w _ => w = .bl true)))).to rfl) fun H11 e11 => ?_
      have s811 := (e9.trans e10).trans e11
      have lenE := ev_lenT (K := K) (te := tVar 2) (ds := us.map PyData.str) (σ := [some (.ref t), some (.int (i' : Int)), some tv, some kv, some mv, some dv, some gv, l7, l8, l9, l10, l11, l12]) (H := H11) (ev_vt (i := 2) (v := tv) rfl (htv8.same s811))
      refine q_ifin (et_test (ev_I0 lenE (ev_c (v := .int 4)))) (fun H12 e12 => ?_) fun H12 e12 => ?_
      · have neE := ev_neD (K := K) (mono_l _) (duesE 2 [some (.ref t), some (.int (i' : Int)), some tv, some kv, some mv, some dv, some gv, l7, l8, l9, l10, l11, l12] H12 (by decide) (by decide) (s811.trans e12) rfl rfl) (ev_vp (i := 5) (v := dv) (P := IsL ([subB b a, subB a b].map .bool)) rfl (mono_l _) (hdv.same ((e10.trans e11).trans e12))) (fun v H1 h => h.dp) (fun v H1 h => h.dp) (shaped_bools _) (shaped_bools _)
        rw [eqv_boolsL] at neE
        exact (et_test neE).to (by simp)
      have s812 := s811.trans e12
      have standE : ∀ (c : SBk) (i1 : Nat) (v1 : V) (σ : L2.St), LBk c → c.length ≤ 4 → σ[i1]? = some (some v1) → Tt H12 v1 (bookD c) → Ev (tCall spLStands [] E0 (tCons (tVar i1) tNil)) σ H12 (fun v H => ∃ es : List (List Str), IsL (es.map strsD) v H ∧ es.length ≤ 1000 ∧ ∀ k, k ∈ es ↔ Asc k ∧ Stand c k) := fun c i1 v1 σ lc cl h1 t1 => ev_kn (ea_one (ev_vt h1 t1)) c (fun vs H6 _ ⟨w1, e1, e2⟩ => ⟨w1, e1, e2, lc, cl⟩) fun v H6 _ h => h
      refine s_tup2 (K := K) (fun _ _ _ e ⟨es, h1, h2⟩ => ⟨es, h1.same e, h2⟩) (fun _ _ _ e ⟨es, h1, h2⟩ => ⟨es, h1.same e, h2⟩) (standE a 3 kv _ hla (by omega) rfl (hkv8.same s812)) (standE b 4 mv _ hlb (by omega) rfl (hmv.same s812)) fun minev itsv H13 e13 ⟨es, hes, esl, esm⟩ ⟨fs, hfs, fsl, fsm⟩ => ?_
      have fstr : ∀ k ∈ fs, ∀ u ∈ k, PyData.strOk u = true := fun k hk u hu => hlb.ok.txt u (((fsm k).mp hk).2.units u hu)
      have estr : ∀ k ∈ es, ∀ u ∈ k, PyData.strOk u = true := fun k hk u hu => hla.ok.txt u (((esm k).mp hk).2.units u hu)
      have lackE : ∀ (i1 i2 : Nat) (v1 v2 : V) (xs ys : List (List Str)), [some (.ref t), some (.int (i' : Int)), some tv, some kv, some mv, some dv, some gv, some minev, some itsv, l9, l10, l11, l12][i1]? = some (some v1) → (∀ y : V, [some (.ref t), some (.int (i' : Int)), some tv, some kv, some mv, some dv, some gv, some minev, some itsv, l9, some y, l11, l12][i2]? = some (some v2)) → IsL (xs.map strsD) v1 H13 → IsL (ys.map strsD) v2 H13 → xs.length ≤ 1000 → (∀ k ∈ xs, ∀ u ∈ k, PyData.strOk u = true) → (∀ k ∈ ys, ∀ u ∈ k, PyData.strOk u = true) →
          Ev (tLc (iList K (tVar i1)) (gName 10) (tTest (tOp (rNotInD K) (tVar 10) (tVar i2))) (tVar 10) [10]) [some (.ref t), some (.int (i' : Int)), some tv, some kv, some mv, some dv, some gv, some minev, some itsv, l9, l10, l11, l12] H13 (IsL ((xs.filter fun k => !decide (k ∈ ys)).map strsD)) := fun i1 i2 v1 v2 xs ys h1 h2 t1 t2 xl x1 y1 =>
        ev_lc (te := tVar 10) (tt := tTest (tOp (rNotInD K) (tVar 10) (tVar i2))) (g := gName 10) (vs := [10]) (src_map strsD (src_lst (K := K) (te := tVar i1) (ev_vp (i := i1) (v := v1) (P := IsL (xs.map strsD)) h1 (mono_l _) t1))) (fun k => !decide (k ∈ ys)) strsD (by omega) fun k hk y H14 e14 hy C c =>
          c [some (.ref t), some (.int (i' : Int)), some tv, some kv, some mv, some dv, some gv, some minev, some itsv, l9, some y, l11, l12] _ (Same.refl _) rfl (et_test (ev_notInD (K := K) (x1 k hk) y1 (ev_vt (i := 10) (v := y) rfl hy) (ev_vp (i := i2) (v := v2) (P := IsL (ys.map strsD)) (h2 y) (mono_l _) (t2.same e14)))) fun _ => ev_vt (i := 10) (v := y) rfl hy
      refine q_set (ev_lls (lackE 8 7 itsv minev fs es rfl (fun _ => rfl) hfs hes fsl fstr estr) (lackE 7 8 minev itsv es fs rfl (fun _ => rfl) hes hfs esl estr fstr)) fun lv H14 e14 hlv => ?_
      have sA := stands_sub esm fsm
      have sB := stands_sub fsm esm
      have astr : ∀ z ∈ [fs.filter fun k => !decide (k ∈ es), es.filter fun k => !decide (k ∈ fs)], ∀ k ∈ z, ∀ u ∈ k, PyData.strOk u = true := fun z hz k hk => by
        rcases List.mem_cons.mp hz with rfl | hz
        · exact fstr k (List.mem_filter.mp hk).1
        · rw [List.mem_singleton.mp hz] at hk
          exact estr k (List.mem_filter.mp hk).1
      have emptE := ev_lc (te := tOp (rEqD K) (tVar 11) (tLst tNil)) (tt := tYes) (g := gName 11) (vs := [11]) (σ := [some (.ref t), some (.int (i' : Int)), some tv, some kv, some mv, some dv, some gv, some minev, some itsv, some lv, l10, l11, l12]) (H := H14) (src_lrM (K := K) (te := tVar 9) (R := RLs) (fun _ _ _ _ e h => IsL.same e h) (ev_vp (i := 9) (v := lv) (P := IsLR RLs _) rfl (fun v H H' e ⟨p, xs, h1, h2, h3⟩ => ⟨p, xs, h1, e _ _ h2, Paired.mapP h3 fun _ _ q => IsL.same e q⟩) hlv)) (fun _ => true) (fun z => .bool (decide (z = []))) (by show 2 ≤ 99999; decide) fun z hz y H15 e15 hy C c => by
        refine c [some (.ref t), some (.int (i' : Int)), some tv, some kv, some mv, some dv, some gv, some minev, some itsv, some lv, l10, some y, l12] _ (Same.refl _) rfl et_yes fun _ => ?_
        have eqE := ev_eqD (K := K) (mono_l _) (ev_vp (i := 11) (v := y) (σ := [some (.ref t), some (.int (i' : Int)), some tv, some kv, some mv, some dv, some gv, some minev, some itsv, some lv, l10, some y, l12]) (H := H15) (P := IsL (z.map strsD)) rfl (mono_l _) hy) (ev_lst (ds := []) ts_nil (Nat.zero_le _)) (fun v H1 h => h.dp) (fun v H1 h => h.dp) (shaped_all fun d hd => by obtain ⟨k, hk, rfl⟩ := List.mem_map.mp hd; exact lay_strsD (astr z hz k hk)).1 (shaped_all fun d hd => by cases hd).1
        rw [eqv_nilD] at eqE
        refine (eqE.imp fun v _ _ e => ?_).tbl
        rw [e]
        congr 1
        rw [Bool.eq_iff_iff, decide_eq_true_iff, decide_eq_true_iff, List.map_eq_nil_iff]
      rw [filter_yes, show [fs.filter fun k => !decide (k ∈ es), es.filter fun k => !decide (k ∈ fs)].map (fun z => PyData.bool (decide (z = []))) = [subB b a, subB a b].map PyData.bool from by
        rw [List.map_cons, List.map_cons, List.map_nil, sA, sB]; rfl] at emptE
      have s914 := ((e10.trans e11).trans e12).trans (e13.trans e14)
      have neE := ev_neD (K := K) (mono_l _) emptE (ev_vp (i := 5) (v := dv) (P := IsL ([subB b a, subB a b].map .bool)) rfl (mono_l _) (hdv.same s914)) (fun v H1 h => h.dp) (fun v H1 h => h.dp) (shaped_bools _) (shaped_bools _)
      rw [eqv_boolsL] at neE
      refine q_no ((et_test neE).to (by simp)) fun H15 e15 => ?_
      have s815 := (e9.trans s914).trans e15
      have catE := ev_catT (K := K) (ta := tVar 4) (tb := tTup (tCons (tTup (tCons (tC (.str "n")) (tCons (tTup (tCons (tTup tNil) tNil)) tNil))) tNil)) (σ := [some (.ref t), some (.int (i' : Int)), some tv, some kv, some mv, some dv, some gv, some minev, some itsv, some lv, l10, l11, l12]) (H := H15) (ds := b.map pairD) (es := [pairD nD]) (ev_vt (i := 4) (v := mv) rfl (hmv.same s815)) (ev_tup (ts_cons (ev_tup (ts_cons ev_str (ts_cons (ev_tup (ts_cons (ev_tup (ds := []) ts_nil (Nat.zero_le _)) ts_nil) (by show 1 ≤ 100000; decide)) ts_nil)) (by show 2 ≤ 100000; decide)) ts_nil) (by show 1 ≤ 100000; decide)) (by rw [List.length_map]; show b.length + 1 ≤ 100000; omega)
      rw [show b.map pairD ++ [pairD nD] = (b ++ [nD]).map pairD from by rw [List.map_append]; rfl] at catE
      have sortE := ev_sortT catE (sortD_pairs (b ++ [nD]) (by rw [List.length_append]; show b.length + 1 ≤ 100000; omega))
      refine q_set (ev_tupX (K := K) (P := fun ds => ∃ b3 : SBk, ds = b3.map pairD ∧ b3.Perm (b ++ [nD])) (sortE.imp fun v H1 _ ⟨M, h1, pm, _⟩ => by
        obtain ⟨b3, p2, eb⟩ := perm_back pairD pm rfl
        exact ⟨_, h1, b3, eb.symm, p2⟩)) fun wv H16 e16 ⟨ds, hwv, b3, eds, pm3⟩ => ?_
      subst eds
      obtain ⟨hl3, len3⟩ := wide_ok hlb (unb.trans una) usub (by omega) pm3
      have unlike : ¬ unitsM a = unitsM b3 := fun z => by
        have h1 := congrArg List.length z
        have h2 : (unitsM a).length = a.length := by unfold unitsM; rw [List.length_map]
        have h3 : (unitsM b3).length = b3.length := by unfold unitsM; rw [List.length_map]
        omega
      have hkv16 := (hkv8.same s815).same e16
      have badE : ∀ (c d : SBk) (i1 i2 : Nat) (v1 v2 : V) (σ : L2.St), LBk c → LBk d → ¬ unitsM c = unitsM d → σ[i1]? = some (some v1) → σ[i2]? = some (some v2) → Tt H16 v1 (bookD c) → Tt H16 v2 (bookD d) → Ev (tCall spHeard [] E0 (tCons (tVar i1) (tCons (tVar i2) tNil))) σ H16 (IsL heardD) := fun c d i1 i2 v1 v2 σ lc ld ue h1 h2 t1 t2 =>
        ev_kn (ea_two (mono_t (bookD c)) (ev_vt h1 t1) (ev_vt h2 t2)) (c, d) (fun vs H6 _ ⟨w1, w2, e1, e2, e3⟩ => ⟨w1, w2, e1, bookV_of lc.ok.fair e2, bookV_of ld.ok.fair e3, lc.ok, ld.ok⟩) fun v H6 _ h => by rw [if_neg ue] at h; exact h
      refine s_no ((et_not (et_B (ev_kn (ea_two (P1 := TwoH) (fun _ _ _ e q => Ll.same e q) (ev_twoH (badE a b3 3 12 kv wv [some (.ref t), some (.int (i' : Int)), some tv, some kv, some mv, some dv, some gv, some minev, some itsv, some lv, l10, l11, some wv] hla hl3 unlike rfl rfl hkv16 hwv) (badE b3 a 12 3 wv kv _ hl3 hla (fun z => unlike z.symm) rfl rfl hwv hkv16)) ev_repH) (.list [.list heardD, .list heardD]) (fun vs H6 _ ⟨w1, w2, e1, e2, e3⟩ => ⟨w1, w2, e1, e2, e3⟩) (fun v H6 _ h => h) : Ev _ _ H16 (fun w _ => w = .bl true)))).to rfl) fun H17 e17 => ?_
      have s817 := (s815.trans e16).trans e17
      exact ⟨_, _, _, _, _, _, _, _, _, _, _, _, rfl, su08.trans (Same.su s817), (tb8.same s817).mono (by omega)⟩
    · rintro HL eL σ' H3 ⟨l1, l2, l3, l4, l5, l6, l7, l8, l9, l10, l11, l12, rfl, su3, tb3⟩
      rw [List.length_range] at tb3
      show tRet (tC (.bl true)) { nx := fun _ H' => Q .non H', rt := Q } [some (.ref t), l1, l2, l3, l4, l5, l6, l7, l8, l9, l10, l11, l12] H3
      refine s_ret (ev_c (v := .bl true)) fun v' H4 e4 hv' => q v' H4 (su3.trans (Same.su e4)) ((tb3.same e4).mono (by omega)) hv'
end
end Up
end
section
set_option Elab.async false
set_option linter.all false
set_option maxRecDepth 100000
set_option maxHeartbeats 4000000
/-! _law_box, _law_cells, law. -/
namespace Up
open PySem PySem.Spec PyProof.Rows L2
section
variable {P : Program} {w : World} {K : PySem.W.Frag} {mg : Str → Option Value} {base : Heap} {B C : Addr}
def spBox : Sp := fun vs H Q _ => ∃ (ns : List Int) (k : Nat), (∃ v, vs = [v, .int (k : Int)] ∧ IsL (ns.map .int) v H ∧ k ≤ 10 ∧ ns.length ≤ 10) ∧ ∀ p H', Same H H' → H p = none → Tub p 0 H' → Q (.ref p) H'
def rAbs : List V → Hp → VK → Prop := fun xs H Q => ∃ i, xs = [V.int i] ∧ Q (.int (if i < 0 then -i else i)) H
theorem cr_abs {X : Cx} : CallR X (.builtin "abs") rAbs := call_abs
theorem ev_abs {σ : L2.St} {H : Hp} {te : TE} {i : Int} (h : Ev te σ H (fun w _ => w = .int i)) : Ev (tCB rAbs (tCons te tNil)) σ H (fun w _ => w = .int (if i < 0 then -i else i)) := ev_cb (ea_one h) fun vs H1 _ ⟨v, hv, hb⟩ Q q => ⟨i, by rw [hv, hb], q _ _ (Same.refl _) rfl⟩
theorem k_box (T : Txt K mg) : Kn P w K mg base CX0 1 "_law_box" spBox := by
  refine T.d_law_box.kn c_law_box (fun vs H Q E h => ?_) (fun f cdv A outer s H vs Q E hr h => ?_)
  · obtain ⟨ns, k, ⟨v, rfl, _⟩, _⟩ := h
    rfl
  · obtain ⟨ns, k, ⟨v, rfl, hv, hk, hn⟩, q⟩ := h
    refine ⟨_, pss_cons (ps_asg (pe_ifExp (pt_cmpR op_lt (pv 1) (pe_callB cr_len (by rfl) T.b_len (by decide +kernel) (pa_cons (pv 0) pa_nil)) (by rfl)) (pe_ix ix_list (pv 0) (pv 1) (fun _ _ => rfl)) pe_int) (pgn 2 c_law_box.nd))
      (pss_one (ps_ret (pe_lst (pa_cons (pe_op op_mul (pe_callB cr_abs (by rfl) T.b_abs (by decide +kernel) (pa_cons (pv 2) pa_nil)) (pe_callTy cr_int1 (by rfl) T.b_int (by decide +kernel) (pa_cons (pe_cmpR op_ge (pe_callB cr_abs (by rfl) T.b_abs (by decide +kernel) (pa_cons (pv 2) pa_nil)) (pe_op op_pow pe_int pe_int) (by rfl)) pa_nil)))
        (pa_cons (pe_op op_add (pe_op op_add (pe_op op_mod (pe_callTy cr_int1 (by rfl) T.b_int (by decide +kernel) (pa_cons (pv 2) pa_nil)) pe_int) (pe_op op_mul pe_int (pv 1))) pe_int) (pa_cons pe_int pa_nil)))))), ?_⟩
    have lenE := ev_lenL (K := K) (te := tVar 0) (ds := ns.map PyData.int) (σ := start ["_law_script", "_law_k", "_law_cell"] [v, .int (k : Int)]) (H := H) (ev_vp (i := 0) (v := v) rfl (mono_l _) hv)
    rw [List.length_map] at lenE
    refine q_set (P := fun v _ => ∃ z : Int, v = .int z) (ev_if (b := decide ((k : Int) < (ns.length : Int))) (et_test (ev_I0 (ev_var (i := 1) (v := .int (k : Int)) rfl) lenE)) (fun hl => ?_) fun _ => ev_c.imp fun v _ _ e => ⟨_, e⟩) fun cv H1 e1 ⟨z, hz⟩ => ?_
    · have hl : (k : Int) < (ns.length : Int) := of_decide_eq_true hl
      have hlt : k < ns.length := by omega
      exact (ev_ixL (K := K) (i := k) (d := .int ns[k]) (ev_vp (i := 0) (v := v) (P := IsL (ns.map .int)) rfl (mono_l _) hv) (ev_var (i := 1) (v := .int (k : Int)) rfl) (by rw [List.getElem?_map, List.getElem?_eq_getElem hlt]; rfl)).imp fun v _ _ e => ⟨_, tt_int e⟩
    · subst hz
      have absE := ev_abs (σ := [some v, some (.int (k : Int)), some (.int z)]) (H := H1) (ev_var (i := 2) (v := .int z) rfl)
      have geE : Ev (tOp (rI0 fun i j => .bl (decide (j ≤ i))) (tCB rAbs (tCons (tVar 2) tNil)) (tOp (rI CPow fun i j => .int (i ^ j.toNat)) (tC (.int 10)) (tC (.int 18)))) [some v, some (.int (k : Int)), some (.int z)] H1 (fun w _ => ∃ b : Bool, w = .bl b) := fun H2 e2 Q q => ev_I0 absE (ev_I (C := CPow) (g := fun i j => .int (i ^ j.toNat)) (show CPow 10 18 from ⟨by decide, by decide, by decide⟩) (ev_c (v := .int 10)) (ev_c (v := .int 18))) H2 e2 Q fun v H3 e3 p => q v H3 e3 ⟨_, p⟩
      have firstE : Ev (tOp (rI CMul fun i j => .int (i * j)) (tCB rAbs (tCons (tVar 2) tNil)) (tCB rInt1 (tCons (tOp (rI0 fun i j => .bl (decide (j ≤ i))) (tCB rAbs (tCons (tVar 2) tNil)) (tOp (rI CPow fun i j => .int (i ^ j.toNat)) (tC (.int 10)) (tC (.int 18)))) tNil))) [some v, some (.int (k : Int)), some (.int z)] H1 (fun w _ => ∃ t0 : Int, w = .int t0) := fun H2 e2 Q q =>
        absE H2 e2 _ fun x H3 e3 hx => geE H3 (e2.trans e3) _ fun y H4 e4 ⟨b, hy⟩ => .inr ⟨b, by rw [hy], _, _, hx, rfl, .inr (by cases b <;> decide), q _ H4 (e3.trans e4) ⟨_, rfl⟩⟩
      have secE : Ev (tOp (rI0 fun i j => .int (i + j)) (tOp (rI0 fun i j => .int (i + j)) (tOp (rI (fun _ j => 0 < j) fun i j => .int (i % j)) (tCB rInt1 (tCons (tVar 2) tNil)) (tC (.int 2305843009213693951))) (tOp (rI CMul fun i j => .int (i * j)) (tC (.int 39373)) (tVar 1))) (tC (.int 1052122))) [some v, some (.int (k : Int)), some (.int z)] H1 (fun w _ => w = .int (z % 2305843009213693951 + 39373 * (k : Int) + 1052122)) :=
        ev_I0 (g := fun i j => .int (i + j)) (ev_I0 (g := fun i j => .int (i + j)) (ev_I (C := fun _ j => 0 < j) (g := fun i j => .int (i % j)) (show (0 : Int) < 2305843009213693951 by decide) (ev_int1 (ev_var (i := 2) (v := .int z) rfl)) (ev_c (v := .int 2305843009213693951))) (ev_I (C := CMul) (g := fun i j => .int (i * j)) (show CMul 39373 (k : Int) from .inl ⟨by decide, by decide⟩) (ev_c (v := .int 39373)) (ev_var (i := 1) (v := .int (k : Int)) rfl))) (ev_c (v := .int 1052122))
      refine firstE H1 (Same.refl _) _ fun x H2 e2 ⟨t0, hx⟩ => secE H2 e2 _ fun y H3 e3 hy => ⟨(by show 3 ≤ sizeLine; decide), fun p hp => ?_⟩
      have s3 := (e1.trans e2).trans e3
      refine q p _ (s3.trans (same_new hp)) (s3.free hp) ?_
      subst hx hy
      have m0 := Int.emod_nonneg z (show (2305843009213693951 : Int) ≠ 0 by decide)
      have m1 := Int.emod_lt_of_pos z (show (0 : Int) < 2305843009213693951 by decide)
      exact ⟨_, _, _, upd_same, by omega, by omega, Int.le_refl _, Int.le_refl _⟩
end
end Up
end
section
set_option Elab.async false
set_option linter.all false
set_option maxRecDepth 100000
set_option maxHeartbeats 4000000
/-! _law_cells. -/
namespace Up
open PySem PySem.Spec PyProof.Rows L2
theorem sql_same {K : PySem.W.Frag} {H H' : Hp} {a : Addr} {xs : List V} (e : Same H H') (h : SqL K H a xs) : SqL K H' a xs := h.imp (Rd.same e) id
section
variable {K : PySem.W.Frag} {σ : L2.St} {H : Hp} {te : TE}
theorem s_forE {g : TG} {tb : TS} {D : Ends} (h : te σ H (fun v H1 => tFor (iEnum K (tCons (tC v) tNil)) g tb D σ H1)) : tFor (iEnum K (tCons te tNil)) g tb D σ H := h
theorem srcM_enum {l : Addr} {xs : List V} (h : H l = some (.lst xs)) : SrcM (fun H2 H3 => H2 l = some (.lst xs) → H3 l = some (.lst xs)) (iEnum K (tCons (tC (.ref l)) tNil)) σ H (List.range xs.length) (fun i X H' => ∃ T x, X = V.ref T ∧ H' T = some (.tup [.int (i : Int), x]) ∧ xs[i]? = some x) := fun H0 e C c => by
  refine ⟨l, xs, rfl, sq_l (e _ _ h), c (Ite K l) H0 (fun H2 => H2 l = some (.lst xs)) (YPair (fun i => some (.int (i : Nat))) (fun i => xs[i]?)) (Same.refl _) ?_ (fun H2 H3 m g => m g) (e _ _ h) fun i b x H2 H3 hb g y => ?_⟩
  · rw [List.length_range]
    exact walk_enum.mono (fun H2 g => sq_l g) fun i H2 x H3 _ _ y => y
  · obtain ⟨T, x1, y1, rfl, hT, rfl, h1, h2⟩ := y
    obtain ⟨hi, hb⟩ := List.getElem?_eq_some_iff.mp hb
    rw [List.getElem_range] at hb
    subst hb
    cases h1
    exact ⟨same_new hT, T, y1, rfl, upd_same, h2⟩
end
section
variable {P : Program} {w : World} {K : PySem.W.Frag} {mg : Str → Option Value} {base : Heap} {B C : Addr}
def spCells (K : PySem.W.Frag) : Sp := SpD (α := List Int) (fun ns vs H => ∃ a, vs = [.ref a, .int 2] ∧ SqL K H a (ns.map V.int) ∧ ns.length ≤ 1000) (fun ns v H => ∃ ms : List Int, IsL (ms.map .int) v H ∧ ms.length ≤ 2)
theorem k_cells (T : Txt K mg) : Kn P w K mg base CX0 1 "_law_cells" (spCells K) := by
  refine T.d_law_cells.kn c_law_cells (fun vs H Q E h => ?_) (fun f cdv A outer s H vs Q E hr h => ?_)
  · obtain ⟨ns, ⟨a, rfl, _⟩, _⟩ := h
    rfl
  · obtain ⟨ns, ⟨a, rfl, ha, hn⟩, q⟩ := h
    refine ⟨_, pss_cons (ps_asg (pe_orT (pe_callTy cr_lst (by rfl) T.b_list (by decide +kernel) (pa_cons (pe_slice sl_list (pv 0) po_none (po_some (pv 1))) pa_nil)) (pe_one (pe_lst (pa_cons pe_int pa_nil)))) (pgn 2 c_law_cells.nd))
      (pss_cons (ps_for PassesOwn.never (by rfl) (pi_enum (by rfl) T.b_enumerate (pa_cons (pe_slice sl_list (pv 0) (po_some (pv 1)) (po_some pe_int)) pa_nil)) (pg_tup rfl (pgs_cons (pgn 3 c_law_cells.nd) (pgs_cons (pgn 4 c_law_cells.nd) pgs_nil)))
        (pss_cons (ps_asg (pe_op op_mod (pe_callTy cr_int1 (by rfl) T.b_int (by decide +kernel) (pa_cons (pv 3) pa_nil)) (pv 1)) (pgn 5 c_law_cells.nd))
        (pss_one (ps_asg (pe_op op_add (pe_ix ix_list (pv 2) (pv 5) (fun _ _ => rfl)) (pe_op op_mul (pv 4) (pe_op op_add (pv 3) pe_int))) (pg_sub (pv 2) (pv 5) set_list)))))
      (pss_one (ps_ret (pv 2)))), ?_⟩
    refine q_set (i := 2) (P := fun v H' => ∃ (c : Addr) (ms : List Int), v = .ref c ∧ H' c = some (.lst (ms.map V.int)) ∧ H c = none ∧ ms.length ≤ 2 ∧ (2 < ns.length → ms.length = 2)) (fun H1 e Q q => ?_) fun cv H1 e1 ⟨c, ms, hcv, hc, hcN, ml, m2⟩ => ?_
    · refine ⟨.ref a, rfl, .int 2, rfl, 2, rfl, a, ns.map V.int, rfl, sql_same e ha, fun l hl => ⟨l, _, rfl, .inl (sq_l upd_same), fun l2 hl2 => ?_⟩⟩
      refine ⟨_, .inl ⟨_, sq_l upd_same, rfl⟩, ?_⟩
      have ecut : cutV (ns.map V.int) none (some 2) = (ns.take 2).map V.int := (cut_to _ 2).trans (List.map_take ..).symm
      rw [ecut] at hl2 ⊢
      cases hq : ns.take 2 with
      | nil =>
        have nz : ns = [] := by
          cases ns with
          | nil => rfl
          | cons x r => cases hq
        rw [hq] at hl2
        rw [if_neg (by simp)]
        refine ⟨(by show 1 ≤ sizeLine; decide), fun l3 hl3 => q _ _ ?_ ⟨l3, [0], rfl, upd_same, ?_, by decide, fun z => by rw [nz] at z; simp at z⟩⟩
        · exact ((same_new hl).trans (same_new hl2)).trans (same_new hl3)
        · exact ((e.trans (same_new hl)).trans (same_new hl2)).free hl3
      | cons x r =>
        rw [if_pos (by simp), ← hq]
        refine q _ _ ((same_new hl).trans (same_new hl2)) ⟨l2, ns.take 2, rfl, upd_same, (e.trans (same_new hl)).free hl2, by rw [List.length_take]; omega, fun z => by rw [List.length_take]; omega⟩
    · subst hcv
      have ctN : H c = none := hcN
      refine s_forE ⟨.ref a, rfl, .int 2, rfl, 2, rfl, 63, rfl, a, ns.map V.int, rfl, sql_same e1 ha, fun l hl => ?_⟩
      have e2 : Same H1 (upd H1 l (.lst (cutV (ns.map V.int) (some 2) (some 63)))) := same_new hl
      have ecut : cutV (ns.map V.int) (some 2) (some 63) = ((ns.take 63).drop 2).map V.int := (cut_fr _ 2 63).trans (by rw [List.map_drop, List.map_take])
      have fl : upd H1 l (.lst (cutV (ns.map V.int) (some 2) (some 63))) l = some (.lst (((ns.take 63).drop 2).map V.int)) := by rw [upd_same, ecut]
      have hc2 := e2 _ _ hc
      have lc : c ≠ l := ne_of_none hc hl
      have tl : ((ns.take 63).drop 2).length ≤ 61 := by rw [List.length_drop, List.length_take]; omega
      have t2 : 0 < ((ns.take 63).drop 2).length → 2 < ns.length := fun z => by rw [List.length_drop, List.length_take] at z; omega
      generalize upd H1 l (.lst (cutV (ns.map V.int) (some 2) (some 63))) = H2 at *
      generalize (ns.take 63).drop 2 = zs at *
      have s2 := e1.trans e2
      refine s_for (srcM_enum (K := K) fl) (fun HL i σ' H' => ∃ (ms : List Int) (l3 l4 l5 : Option V), σ' = [some (.ref a), some (.int 2), some (.ref c), l3, l4, l5] ∧ H' c = some (.lst (ms.map V.int)) ∧ ms.length ≤ 2 ∧ (2 < ns.length → ms.length = 2) ∧ H' l = some (.lst (zs.map V.int)) ∧ Same H H')
        (fun HL eL => ⟨ms, none, none, none, rfl, eL _ _ hc2, ml, m2, eL _ _ fl, s2.trans eL⟩) (fun HL i σ' H' ⟨_, _, _, _, _, _, _, _, t, _⟩ _ => t) ?_ ?_
      · rintro HL eL i i' X σ' H3 H4 hbi ⟨ms, l3, l4, l5, rfl, hc3, ml, m2, hl3, s3⟩ e4 ⟨T', x, rfl, hT, hx⟩
        have ii : i' < zs.length := by
          have := (List.getElem?_eq_some_iff.mp hx).1
          rwa [List.length_map] at this
        have m2 := m2 (t2 (by omega))
        rw [List.getElem?_map, List.getElem?_eq_getElem ii] at hx
        have hx : x = V.int zs[i'] := (Option.some.inj hx).symm
        subst hx
        refine ⟨T', [.int (i' : Int), .int zs[i']], rfl, sq_t hT, rfl, _, _, rfl, _, _, rfl, rfl, ?_⟩
        refine q_set (ev_I (C := fun _ j => 0 < j) (g := fun i j => .int (i % j)) (show (0 : Int) < 2 by decide) (ev_int1 (ev_var (i := 3) (v := .int (i' : Int)) rfl)) (ev_var (i := 1) (v := .int 2) rfl)) fun sv H5 e5 hsv => ?_
        subst hsv
        have hc5 := e5 _ _ (e4 _ _ hc3)
        obtain ⟨j, hj, j2⟩ : ∃ j : Nat, (i' : Int) % 2 = (j : Int) ∧ j < 2 := ⟨i' % 2, by omega, by omega⟩
        rw [hj]
        have hjm : j < ms.length := by omega
        have ixE : Ev (tOp (rIxL K) (tVar 2) (tVar 5)) [some (.ref a), some (.int 2), some (.ref c), some (.int (i' : Int)), some (.int zs[i']), some (.int (j : Int))] H5 (fun w _ => w = .int ms[j]) :=
          (ev_ixL (K := K) (i := j) (d := .int ms[j]) (ev_vp (i := 2) (v := .ref c) (P := IsL (ms.map .int)) rfl (mono_l _) ⟨c, _, rfl, hc5, tta_of_ints ms⟩) (ev_var (i := 5) (v := .int (j : Int)) rfl) (by rw [List.getElem?_map, List.getElem?_eq_getElem hjm]; rfl)).vint
        refine ev_I0 (g := fun i j => .int (i + j)) ixE (ev_I (C := CMul) (g := fun i j => .int (i * j)) (show CMul zs[i'] ((i' : Int) + 2) from .inr ⟨by omega, by omega⟩) (ev_var (i := 4) (v := .int zs[i']) rfl) (ev_I0 (g := fun i j => .int (i + j)) (ev_var (i := 3) (v := .int (i' : Int)) rfl) (ev_c (v := .int 2)))) H5 (Same.refl _) _ fun nv H6 e6 hnv => ?_
        subst hnv
        have hc6 := e6 _ _ hc5
        have e36 := (e4.trans e5).trans e6
        refine ⟨.ref c, rfl, .int (j : Int), rfl, c, _, (j : Int), j, rfl, rfl, hc6, ?_, ?_⟩
        · unfold ixN
          rw [List.length_map, if_pos (by omega), if_pos (by omega), Int.toNat_natCast]
        · refine ⟨ms.set j (ms[j] + zs[i'] * ((i' : Int) + 2)), _, _, _, rfl, ?_, by rw [List.length_set]; exact ml, fun _ => by rw [List.length_set]; exact m2, by rw [upd_ne lc.symm]; exact e36 _ _ hl3, same_mut (s3.trans e36) ctN⟩
          rw [upd_same, List.map_set]
      · rintro HL eL σ' H3 ⟨ms, l3, l4, l5, rfl, hc3, ml, m2, hl3, s3⟩
        show tRet (tVar 2) { nx := fun _ H' => Q .non H', rt := Q } [some (.ref a), some (.int 2), some (.ref c), l3, l4, l5] H3
        refine s_ret (ev_var (i := 2) (v := .ref c) rfl) fun v' H4 e4 hv' => q v' H4 (s3.trans e4) ⟨ms, ⟨c, _, hv', e4 _ _ hc3, tta_of_ints ms⟩, ml⟩
end
end Up
end
section
set_option Elab.async false
set_option linter.all false
set_option maxRecDepth 100000
set_option maxHeartbeats 4000000
/-! law, from the part by hand. -/
namespace Up
open PySem PySem.Spec PyProof.Rows L2
section
variable {P : Program} {w : World} {K : PySem.W.Frag} {mg : Str → Option Value} {base : Heap} {B C : Addr}
def spHand : Sp := SpD (α := Unit) (fun _ vs _ => vs = []) (fun _ v _ => v = .bl true)
def spLaw (K : PySem.W.Frag) : Sp := fun vs H Q _ => ∃ (a : Addr) (ns : List Int), vs = [.ref a] ∧ SqL K H a (ns.map V.int) ∧ ns.length ≤ 63 ∧ ∀ H', Q (.bl true) H'
theorem k_law (T : Txt K mg) (TX : TxtX K mg C) (D : DfT K mg B) (G0 : Kn P w K mg base CX0 13 "_law_by_hand_right" spHand) : Kn P w K mg base CX0 14 "law" (spLaw K) := by
  have G1 := k_cells (P := P) (w := w) (base := base) T
  have G2 := k_box (P := P) (w := w) (base := base) T
  have G3 := k_right (P := P) (w := w) (base := base) T TX D
  refine T.d_law.kn c_law (fun vs H Q E h => ?_) (fun f cdv A outer s H vs Q E hr h => ?_)
  · obtain ⟨a, ns, rfl, _⟩ := h
    rfl
  · obtain ⟨a, ns, rfl, ha, hn, q⟩ := h
    refine ⟨_, pss_cons (ps_if (pt_not (pt_val (pe_kn0 G0 hr pass0))) (pss_one ps_no) pss_nil)
      (pss_cons (ps_asg (pe_kn G1 (hr.mono (by decide)) pass0 (pa_cons (pv 0) (pa_cons pe_int pa_nil))) (pgn 1 c_law.nd))
      (pss_one (ps_ret (pe_callB (cr_all (by rfl)) (by rfl) T.b_all (by decide +kernel) (pa_cons (pe_lc (own := [("_law_k", 2)]) (g := gName 2) (by rfl) c_law.nd (pi_range1 (by rfl) T.b_range (pa_cons (pe_callB cr_len (by rfl) T.b_len (by decide +kernel) (pa_cons (pv 1) pa_nil)) pa_nil)) (blkOk_by (N := ["_law_script", "_law_cells_here", "_law_k"]) (sc := defScope s_law) (by decide +kernel)) (fun _ _ _ _ _ => pgn 2 c_law.nd)
        (fun _ _ _ _ _ => pts_nil) (fun _ _ _ _ _ => pe_kn G3 (hr.mono (by decide)) pass0 (pa_cons (pe_kn G2 (hr.mono (by decide)) pass0 (pa_cons (pv 1) (pa_cons (pv 2) pa_nil))) pa_nil))) pa_nil))))), ?_⟩
    refine q_no ((et_not (et_B (b := true) (ev_kn (PA := fun vs _ => vs = []) ea_nil () (fun vs H1 _ h => h) fun v H1 _ h => h))).to rfl) fun H1 e1 => ?_
    refine q_set (P := fun v H' => ∃ ms : List Int, IsL (ms.map .int) v H' ∧ ms.length ≤ 2) (ev_kn (ea_two (mono_v (.ref a)) (ev_var (i := 0) (v := .ref a) rfl) (ev_c (v := .int 2))) ns (fun vs H2 e2 ⟨v, w, h1, h2, h3⟩ => ⟨a, by rw [h1, h2, h3], sql_same (e1.trans e2) ha, by omega⟩) fun v H2 _ h => h) fun cv H2 e2 ⟨ms, hcv, ml⟩ => ?_
    have lenE := ev_lenL (K := K) (te := tVar 1) (ds := ms.map PyData.int) (σ := [some (.ref a), some cv, none]) (H := H2) (ev_vp (i := 1) (v := cv) rfl (mono_l _) hcv)
    rw [List.length_map] at lenE
    have lcE := ev_lc (te := tCall spRight [] E0 (tCons (tCall spBox [] E0 (tCons (tVar 1) (tCons (tVar 2) tNil))) tNil)) (tt := tYes) (g := gName 2) (vs := [2]) (σ := [some (.ref a), some cv, none]) (H := H2) (src_rng (n := ms.length) (fun H3 e Q q => ea_one lenE H3 e Q fun vs H4 e4 ⟨v, h1, h2⟩ => q vs H4 e4 (by rw [h1, h2])) (by omega)) (fun _ => true) (fun _ => .bool true) (by rw [List.length_range]; omega) fun k hk y H3 e3 hy CC c => by
      subst hy
      have hk := List.mem_range.mp hk
      refine c [some (.ref a), some cv, some (.int (k : Int))] _ (Same.refl _) rfl et_yes fun _ => ?_
      intro H4 e4 Q' q'
      refine ⟨cv, rfl, .int (k : Int), rfl, ms, k, ⟨cv, rfl, hcv.same (e3.trans e4), by omega, by omega⟩, fun p H5 e5 hp tb => ?_⟩
      refine ⟨(), p, 0, rfl, tb, by decide, fun v H6 su6 tb6 hv => q' v H6 (fun b o hb => su6 b o (ne_of_none hb hp) (e5 _ _ hb)) ?_⟩
      rw [hv]; exact .bl true
    rw [filter_yes, show (List.range ms.length).map (fun _ => PyData.bool true) = ((List.range ms.length).map fun _ => true).map PyData.bool from by rw [List.map_map]; rfl] at lcE
    refine s_ret (ev_all (K := K) lcE) fun v' H3 e3 hv' => ?_
    have : ((List.range ms.length).map fun _ => true).all id = true := by simp
    rw [hv']
    first
      | (rw [this]; exact q H3)
      | (simp; exact q H3)
end
end Up
end
section
set_option Elab.async false
set_option linter.all false
set_option maxRecDepth 100000
set_option maxHeartbeats 4000000
/-! _law_kit (printed by gen_kit.py). -/
namespace Up
open PySem PySem.Spec PyProof.Rows L2
def headB : SBk := [("a", [[]]), ("b", [[]]), ("c", [["a"], ["b"]])]
def tailB : SBk := [("d", [["a", "b"], ["c"]]), ("e", [])]
def kitB : SBk := headB ++ tailB
section
variable {P : Program} {w : World} {K : PySem.W.Frag} {mg : Str → Option Value} {base : Heap}
def spKit : Sp := SpD (α := Unit) (fun _ vs _ => vs = []) (fun _ v H => Tt H v (bookD kitB))
theorem k_kit (T : Txt K mg) : Kn P w K mg base CX0 1 "_law_kit" spKit := by
  refine T.d_law_kit.kn c_law_kit (fun vs H Q E h => ?_) (fun f cdv A outer s H vs Q E hr h => ?_)
  · obtain ⟨_, rfl, _⟩ := h
    rfl
  · obtain ⟨_, rfl, q⟩ := h
    refine ⟨_, pss_cons (ps_asg (pe_tup (pa_cons (pe_tup (pa_cons pe_str (pa_cons (pe_tup (pa_cons (pe_tup pa_nil) pa_nil)) pa_nil))) (pa_cons (pe_tup (pa_cons pe_str (pa_cons (pe_tup (pa_cons (pe_tup pa_nil) pa_nil)) pa_nil))) (pa_cons (pe_tup (pa_cons pe_str (pa_cons (pe_tup (pa_cons (pe_tup (pa_cons pe_str pa_nil)) (pa_cons (pe_tup (pa_cons pe_str pa_nil)) pa_nil))) pa_nil))) pa_nil)))) (pgn 0 c_law_kit.nd)) (pss_one (ps_ret (pe_op op_catA (pv 0) (pe_tup (pa_cons (pe_tup (pa_cons pe_str (pa_cons (pe_tup (pa_cons (pe_tup (pa_cons pe_str (pa_cons pe_str pa_nil))) (pa_cons (pe_tup (pa_cons pe_str pa_nil)) pa_nil))) pa_nil))) (pa_cons (pe_tup (pa_cons pe_str (pa_cons (pe_tup pa_nil) pa_nil))) pa_nil)))))), ?_⟩
    refine q_set (P := IsT (bookD headB)) (ev_tup (ts_cons (ev_tup (ts_cons ev_str (ts_cons (ev_tup (ts_cons (ev_tup ts_nil (by show 0 ≤ 100000; decide)) ts_nil) (by show 1 ≤ 100000; decide)) ts_nil)) (by show 2 ≤ 100000; decide)) (ts_cons (ev_tup (ts_cons ev_str (ts_cons (ev_tup (ts_cons (ev_tup ts_nil (by show 0 ≤ 100000; decide)) ts_nil) (by show 1 ≤ 100000; decide)) ts_nil)) (by show 2 ≤ 100000; decide)) (ts_cons (ev_tup (ts_cons ev_str (ts_cons (ev_tup (ts_cons (ev_tup (ts_cons ev_str ts_nil) (by show 1 ≤ 100000; decide)) (ts_cons (ev_tup (ts_cons ev_str ts_nil) (by show 1 ≤ 100000; decide)) ts_nil)) (by show 2 ≤ 100000; decide)) ts_nil)) (by show 2 ≤ 100000; decide)) ts_nil))) (by show 3 ≤ 100000; decide)) fun hv H1 e1 hh => ?_
    have tailE : Ev _ [some hv] H1 (IsT (bookD tailB)) := (ev_tup (ts_cons (ev_tup (ts_cons ev_str (ts_cons (ev_tup (ts_cons (ev_tup (ts_cons ev_str (ts_cons ev_str ts_nil)) (by show 2 ≤ 100000; decide)) (ts_cons (ev_tup (ts_cons ev_str ts_nil) (by show 1 ≤ 100000; decide)) ts_nil)) (by show 2 ≤ 100000; decide)) ts_nil)) (by show 2 ≤ 100000; decide)) (ts_cons (ev_tup (ts_cons ev_str (ts_cons (ev_tup ts_nil (by show 0 ≤ 100000; decide)) ts_nil)) (by show 2 ≤ 100000; decide)) ts_nil)) (by show 2 ≤ 100000; decide))
    have catE := ev_catT (K := K) (ta := tVar 0) (ds := headB.map pairD) (es := tailB.map pairD) (ev_vt (i := 0) (v := hv) rfl hh) tailE (by decide)
    rw [← List.map_append] at catE
    exact s_ret catE fun v' H2 e2 hv' => q v' H2 (e1.trans e2) hv'
end
end Up
end
section
set_option Elab.async false
set_option linter.all false
set_option maxRecDepth 100000
set_option maxHeartbeats 4000000
/-! _law_free_kit. -/
namespace Up
open PySem PySem.Spec PyProof.Rows L2
def abc : Str := "abcdefghij"
def abcU : List Str := ["a", "b", "c", "d", "e", "f", "g", "h", "i", "j"]
theorem abc_eq : abcU = abc.cps.toList.map fun c => ⟨#[c]⟩ := by decide +kernel
def freeB : SBk := abcU.map fun u => (u, [[]])
section
variable {K : PySem.W.Frag} {σ : L2.St} {H : Hp} {te : TE}
theorem src_abc (h : Ev te σ H (fun w _ => w = .str abc)) : Src (iStr te) σ H abcU (fun u x _ => x = .str u) := fun H0 e C c =>
  h H0 e _ fun v H1 e1 hv => by
    refine ⟨abc, hv, c (Its abc) H1 (fun _ => True) (fun i H v H' => H' = H ∧ ∃ c, abc.cps[i]? = some c ∧ v = .str ⟨#[c]⟩) e1 ?_ (fun _ _ _ _ => True.intro) True.intro fun i u x H2 H3 hb _ y => ?_⟩
    · have : abcU.length = abc.cps.size := by rw [abc_eq, List.length_map, Array.length_toList]
      rw [this]; exact walk_str
    · obtain ⟨rfl, ch, hc, rfl⟩ := y
      refine ⟨Same.refl _, ?_⟩
      rw [abc_eq, List.getElem?_map, Array.getElem?_toList, hc] at hb
      exact congrArg V.str (Option.some.inj hb)
end
section
variable {P : Program} {w : World} {K : PySem.W.Frag} {mg : Str → Option Value} {base : Heap}
def spFree : Sp := SpD (α := Unit) (fun _ vs _ => vs = [.int 10]) (fun _ v H => Tt H v (bookD freeB))
theorem ev_cutabc {σ : L2.St} {H : Hp} {tk : TE} (h : Ev tk σ H (fun w _ => w = .int 10)) : Ev (tSl rSlS (tC (.str abc)) tNoPart (tPart tk)) σ H (fun w _ => w = .str abc) := fun H1 e Q q =>
  h H1 e _ fun v H2 e2 hv => ⟨10, hv, abc, rfl, by decide +kernel, q _ H2 e2 (congrArg V.str (by decide +kernel))⟩
theorem k_free (T : Txt K mg) : Kn P w K mg base CX0 1 "_law_free_kit" spFree := by
  refine T.d_law_free_kit.kn c_law_free_kit (fun vs H Q E h => ?_) (fun f cdv A outer s H vs Q E hr h => ?_)
  · obtain ⟨_, rfl, _⟩ := h
    rfl
  · obtain ⟨_, rfl, q⟩ := h
    refine ⟨_, pss_one (ps_ret (pe_callTy cr_tup (by rfl) T.b_tuple (by decide +kernel) (pa_cons (pe_lc (own := [("_law_tag", 1)]) (g := gName 1) (by rfl) c_law_free_kit.nd (pi_str (pe_slice sl_str pe_str po_none (po_some (pv 0)))) (blkOk_by (N := ["_law_size_so", "_law_tag"]) (sc := defScope s_law_free_kit) (by decide +kernel)) (fun _ _ _ _ _ => pgn 1 c_law_free_kit.nd)
      (fun _ _ _ _ _ => pts_nil) (fun _ _ _ _ _ => pe_tup (pa_cons (pv 1) (pa_cons (pe_tup (pa_cons (pe_tup pa_nil) pa_nil)) pa_nil)))) pa_nil))), ?_⟩
    have key := ev_lc (te := tTup (tCons (tVar 1) (tCons (tTup (tCons (tTup tNil) tNil)) tNil))) (tt := tYes) (g := gName 1) (vs := [1]) (σ := start ["_law_size_so", "_law_tag"] [.int 10]) (H := H) (src_abc (ev_cutabc (ev_var (i := 0) (v := .int 10) rfl))) (fun _ => true) (fun u => pairD (u, [[]])) (by decide) fun u hu x H1 e hx C c => by
      subst hx
      exact c [some (.int 10), some (.str u)] _ (Same.refl _) rfl et_yes fun _ => ev_tup (ts_cons (ev_var (i := 1) (v := .str u) rfl).tstr (ts_cons (ev_tup (ts_cons (ev_tup (ds := []) ts_nil (Nat.zero_le _)) ts_nil) (by show 1 ≤ 100000; decide)) ts_nil)) (by show 2 ≤ 100000; decide)
    rw [filter_yes, show abcU.map (fun u => pairD (u, [[]])) = freeB.map pairD from by unfold freeB; rw [List.map_map]; rfl] at key
    exact s_ret (ev_tupL key) q
end
end Up
end
section
set_option Elab.async false
set_option linter.all false
set_option maxRecDepth 100000
set_option maxHeartbeats 4000000
/-! tuple(a text). -/
namespace Up
open PySem PySem.Spec PyProof.Rows L2
section
variable {X : Cx}
theorem vals_signs {z : Str} {l : List Value} (hl : l.length = z.cps.size) (h : ∀ (j : Nat) (v : Value), l[j]? = some v → ∃ c u, z.cps[j]? = some c ∧ v = Value.str ⟨#[c]⟩ u) : Vals (z.cps.toList.map fun c => V.str ⟨#[c]⟩) l := by
  have key : ∀ (cs : List Nat) (l : List Value), l.length = cs.length → (∀ (j : Nat) (v : Value), l[j]? = some v → ∃ c u, cs[j]? = some c ∧ v = Value.str ⟨#[c]⟩ u) → Vals (cs.map fun c => V.str ⟨#[c]⟩) l := fun cs => by
    induction cs with
    | nil => intro l hl _; rw [List.length_eq_zero_iff.mp hl]; exact .nil
    | cons c cs ih =>
      intro l hl h
      cases l with
      | nil => cases hl
      | cons v l =>
        obtain ⟨c', u, e1, e2⟩ := h 0 v rfl
        have e1 : c = c' := Option.some.inj e1
        subst e1 e2
        exact .cons ⟨u, rfl⟩ (ih l (Nat.succ.inj hl) fun j v hv => h (j + 1) v hv)
  exact key _ l (by rw [hl, Array.length_toList]) fun j v hv => by
    obtain ⟨c, u, e1, e2⟩ := h j v hv
    exact ⟨c, u, by rw [Array.getElem?_toList]; exact e1, e2⟩
def rTupStr : List V → Hp → VK → Prop := fun xs H Q => ∃ z : Str, xs = [V.str z] ∧ z.cps.size ≤ 1000 ∧ ∀ p, H p = none → Q (.ref p) (upd H p (.tup (z.cps.toList.map fun c => V.str ⟨#[c]⟩)))
theorem cr_tupStr (hc : X.calm = true) : CallR X (.type "tuple") rTupStr := by
  intro pins s σ H xs us Q I r h
  obtain ⟨z, rfl, hz, q⟩ := h
  obtain ⟨u, rfl, t, rfl⟩ := vals1 r
  have hz2 : z.cps.size ≤ sizeLine := size_ok (by omega)
  refine call_tuple_str (I.ok.hd hc) z t (fun h' tk acc kp hacc => ?_) hz2
  have I1 : Inv X pins σ H { s with heap := h', toks := tk } := I.kept (t' := tk) kp
  have len : acc.toList.length = z.cps.size := by rw [Array.length_toList]; exact hacc.1
  have rv := vals_signs len fun j v hv => hacc.2 j v (by simpa using hv)
  have I2 : Inv X pins σ (upd H h'.objs.size (.tup (z.cps.toList.map fun c => V.str ⟨#[c]⟩))) { s with heap := h'.push { cls := .type "tuple", data := .seq acc }, toks := tk } :=
    I1.laid (t' := tk) (fun b o e => Heap.get?_push_of_some _ e) (Nat.le_refl _) (show ObjOk X.prog X.w _ _ _ (.tup _) from ⟨by rw [List.length_map, Array.length_toList]; exact hz2, acc.toList, rv, ⟨_, Heap.get?_push_size _ rfl, rfl, 0, by simp⟩⟩)
  exact ⟨.ref h'.objs.size, _, I2, rfl, q _ (I1.hok.fresh (Nat.le_refl _))⟩
end
end Up
end
section
set_option Elab.async false
set_option linter.all false
set_option maxRecDepth 100000
set_option maxHeartbeats 4000000
/-! Standing sets reckoned. -/
namespace Up
open PySem PySem.Spec PyProof.Rows L2
def growS (b : SBk) (k : List Str) : Nat → List Str
  | 0 => []
  | n + 1 => match k.find? (fun u => letsM b (growS b k n) u) with
    | some u => growS b k n ++ [u]
    | none => growS b k n
def standC (b : SBk) (k : List Str) : Bool := k.all fun u => decide (u ∈ growS b k k.length)
theorem grow_row (b : SBk) (k : List Str) : ∀ n, Row b (growS b k n) ∧ ∀ u ∈ growS b k n, u ∈ k
  | 0 => ⟨.nil, fun u hu => by cases hu⟩
  | n + 1 => by
    obtain ⟨h1, h2⟩ := grow_row b k n
    unfold growS
    cases q : k.find? fun u => letsM b (growS b k n) u with
    | none => exact ⟨h1, h2⟩
    | some u =>
      refine ⟨.snoc h1 (by simpa using List.find?_some q), fun x hx => ?_⟩
      rcases List.mem_append.mp hx with h | h
      · exact h2 x h
      · rw [List.mem_singleton.mp h]; exact List.mem_of_find?_eq_some q
theorem grow_stop (b : SBk) (k : List Str) : ∀ n, (growS b k n).length = n ∨ ∀ u ∈ k, letsM b (growS b k n) u = false
  | 0 => .inl rfl
  | n + 1 => by
    unfold growS
    cases q : k.find? fun u => letsM b (growS b k n) u with
    | none => exact .inr fun u hu => by simpa using List.find?_eq_none.mp q u hu
    | some u =>
      rcases grow_stop b k n with h | h
      · exact .inl (by rw [List.length_append, List.length_singleton, h])
      · have h1 : letsM b (growS b k n) u = true := by simpa using List.find?_some q
        rw [h u (List.mem_of_find?_eq_some q)] at h1
        cases h1
theorem grow_max (b : SBk) (k : List Str) : MaxRow b k (growS b k k.length) := by
  obtain ⟨h1, h2⟩ := grow_row b k k.length
  refine ⟨h1, h2, fun u hu => ?_⟩
  rcases grow_stop b k k.length with h | h
  · cases q : letsM b (growS b k k.length) u with
    | false => rfl
    | true =>
      have row : Row b (growS b k k.length ++ [u]) := .snoc h1 q
      have := nodup_len row.nodup fun x hx => (List.mem_append.mp hx).elim (h2 x) fun z => by rw [List.mem_singleton.mp z]; exact hu
      rw [List.length_append, List.length_singleton, h] at this
      omega
  · exact h u hu
theorem standC_iff {b : SBk} {k : List Str} : standC b k = true ↔ Stand b k := by
  rw [← (grow_max b k).stand]
  unfold standC
  rw [List.all_eq_true]
  constructor
  · intro h x
    exact ⟨(grow_max b k).sub x, fun hx => of_decide_eq_true (h x hx)⟩
  · intro h x hx
    exact decide_eq_true ((h x).mpr hx)
theorem sub_check {b a : SBk} (h : (subs (unitsM b)).all (fun k => !standC b k || standC a k) = true) : SubB b a := fun s hs => by
  have e : Same2 ((unitsM b).filter fun u => decide (u ∈ s)) s := fun x => by
    rw [List.mem_filter, decide_eq_true_iff]
    exact ⟨fun z => z.2, fun z => ⟨hs.units x z, z⟩⟩
  have hk := List.all_eq_true.mp h _ (filter_subs (fun u => decide (u ∈ s)) (unitsM b))
  rw [standC_iff.mpr (hs.same e.symm)] at hk
  exact (standC_iff.mp (by simpa using hk)).same e
theorem sub_not {b a : SBk} (k : List Str) (h : standC b k = true) (h2 : standC a k = false) : ¬ SubB b a := fun z => by
  have := standC_iff.mpr (z k (standC_iff.mp h))
  rw [h2] at this
  cases this
theorem subB_yes {b a : SBk} (h : SubB b a) : subB b a = true := subB_iff.mpr h
theorem subB_no {b a : SBk} (h : ¬ SubB b a) : subB b a = false := by
  cases q : subB b a with
  | false => rfl
  | true => exact absurd (subB_iff.mp q) h
end Up
end
section
set_option Elab.async false
set_option linter.all false
set_option maxRecDepth 100000
set_option maxHeartbeats 4000000
/-! The books by hand. -/
namespace Up
open PySem PySem.Spec PyProof.Rows L2
def slowB : SBk := headB ++ ([("d", [["c"]]), ("e", [])] : SBk)
def fastB : SBk := headB ++ ([("d", [["a"], ["a", "b"], ["c"]]), ("e", [["d"]])] : SBk)
def wideB : SBk := [("a", [[]]), ("b", [[]]), ("c", [["a"], ["a", "b"], ["b"]]), ("d", [["a", "b"], ["c"]]), ("e", [["e"]])]
def leftB : SBk := [("a", [[]]), ("b", [["a"]])]
def rightB : SBk := [("a", [["b"]]), ("b", [[]])]
def bothB : SBk := [("a", [[]]), ("b", [[]])]
def x0B : SBk := [("x", [])]
def x1B : SBk := [("x", [[]])]
def nearB : SBk := [("a", [[]]), ("b", [["a"]]), ("c", [["b"]])]
def farB : SBk := [("a", [[]]), ("b", [["a"]]), ("c", [["a", "b"]])]
theorem r_slow_kit : subB slowB kitB = true := subB_yes (sub_check (by decide +kernel))
theorem r_kit_slow : subB kitB slowB = false := subB_no (sub_not ["a", "b", "d"] (by decide +kernel) (by decide +kernel))
theorem r_fast_kit : subB fastB kitB = false := subB_no (sub_not ["a", "d"] (by decide +kernel) (by decide +kernel))
theorem r_kit_fast : subB kitB fastB = true := subB_yes (sub_check (by decide +kernel))
theorem r_slow_fast : subB slowB fastB = true := subB_yes (sub_check (by decide +kernel))
theorem r_fast_slow : subB fastB slowB = false := subB_no (sub_not ["a", "d"] (by decide +kernel) (by decide +kernel))
theorem r_self (b : SBk) : subB b b = true := subB_yes (SubB.refl b)
theorem r_wide_kit : subB wideB kitB = true := subB_yes (sub_check (by decide +kernel))
theorem r_kit_wide : subB kitB wideB = true := subB_yes (sub_check (by decide +kernel))
theorem r_right_left : subB rightB leftB = false := subB_no (sub_not ["b"] (by decide +kernel) (by decide +kernel))
theorem r_left_right : subB leftB rightB = false := subB_no (sub_not ["a"] (by decide +kernel) (by decide +kernel))
theorem r_left_both : subB leftB bothB = true := subB_yes (sub_check (by decide +kernel))
theorem r_both_left : subB bothB leftB = false := subB_no (sub_not ["b"] (by decide +kernel) (by decide +kernel))
theorem r_x1_x0 : subB x1B x0B = false := subB_no (sub_not ["x"] (by decide +kernel) (by decide +kernel))
theorem r_far_near : subB farB nearB = true := subB_yes (sub_check (by decide +kernel))
theorem r_near_far : subB nearB farB = true := subB_yes (sub_check (by decide +kernel))
end Up
end
section
set_option Elab.async false
set_option linter.all false
set_option maxRecDepth 100000
set_option maxHeartbeats 4000000
/-! The row of ten and the free ten. -/
namespace Up
open PySem PySem.Spec PyProof.Rows L2
def rowB : SBk := [("a", [[]]), ("b", [["a"]]), ("c", [["b"]]), ("d", [["c"]]), ("e", [["d"]]), ("f", [["e"]]), ("g", [["f"]]), ("h", [["g"]]), ("i", [["h"]]), ("j", [["i"]])]
theorem r_free_row : subB freeB rowB = false := subB_no (sub_not ["b"] (by decide +kernel) (by decide +kernel))
theorem free_lets : ∀ u ∈ unitsM rowB, [] ∈ needsM freeB u := by decide +kernel
theorem free_row : ∀ {r : List Str}, Row rowB r → Row freeB r := fun {r} h => by
  induction h with
  | nil => exact .nil
  | @snoc r u hr hl ih =>
    exact .snoc ih (lets_iff.mpr ⟨(lets_iff.mp hl).1, [], free_lets u (lets_unit hl), fun o ho => by cases ho⟩)
theorem r_row_free : subB rowB freeB = true := subB_yes fun s ⟨r, hr, hs⟩ => ⟨r, free_row hr, hs⟩
end Up
end
section
set_option Elab.async false
set_option linter.all false
set_option maxRecDepth 100000
set_option maxHeartbeats 4000000
/-! enumerate(a tuple). -/
namespace PySem
open Sem (wp)
open AutoSeq1 (wpAny_loadPart')
theorem up_enum_newT (l : Addr) (items : Array Value) :
    Meets (Builtin.«enumerate.__new__» ⟨[.type "enumerate", .ref l], []⟩) (fun _ R s => s.heap.IsTuple l items ∧
      R (.ok (.ret (.ref (s.heap.push { cls := .type "tuple_iterator", data := .fields #[.ref l, .int 0 0] }).objs.size)))
        { s with heap := (s.heap.push { cls := .type "tuple_iterator", data := .fields #[.ref l, .int 0 0] }).push { cls := .type "enumerate", data := .fields #[.none, .bool false, .ref s.heap.objs.size, rawInt 0, .none, .none] } }) :=
  .of_wp fun prog w A R s h => by
    obtain ⟨hp, g, d, tk, os⟩ := s
    obtain ⟨hL, h⟩ := h
    have hsub := sub_enumerate
    have hl := hL
    obtain ⟨ob, hl, _⟩ := hl
    wp_walk using wpAny_loadPart' hl
    refine wpAny_stack_any fun st => wpAny_pure ?_
    split
    · rename_i c _ _ _ _ _
      cases (c == Value.type "enumerate")
      · wp_walk using wpAny_loadPart' hl, wpAny_pyIter_tuple hL
        exact ⟨_, rfl, h⟩
      · wp_walk using wpAny_loadPart' hl, wpAny_pyIter_tuple hL
        exact ⟨_, rfl, h⟩
    · wp_walk using wpAny_loadPart' hl, wpAny_pyIter_tuple hL
      exact ⟨_, rfl, h⟩
theorem up_call_enumT {prog : Program} {w : World} {A : Around} {E : Value → Shared → Prop} {s : Shared} {l : Addr} {items : Array Value} {Q : Value → Shared → Prop} (hL : s.heap.IsTuple l items)
    (h : ∀ h', IsEnum h' (s.heap.objs.size + 1) s.heap.objs.size 0 .none → h'.IsTupleIter s.heap.objs.size l 0 → h'.objs.size = s.heap.objs.size + 2 →
      (∀ b o, s.heap.get? b = some o → h'.get? b = some o) → Q (.ref (s.heap.objs.size + 1)) { s with heap := h' }) :
    wpAny (model prog w) A (call (.type "enumerate") [.ref l]) Q E s := by
  refine callType_new F.called_enumerate (by decide) (F.typeCall_enumerate_1 _) (F.newCall_enumerate_1 _) (fun obj => F.args_object_init_2 obj _) F.entry_enumerate_new
    (up_enum_newT l items) ⟨hL, ?_⟩
  have hz : (s.heap.push { cls := .type "tuple_iterator", data := .fields #[.ref l, .int 0 0] }).objs.size = s.heap.objs.size + 1 := Heap.size_push ..
  show _ ∧ _
  rw [hz]
  have he : IsEnum ((s.heap.push { cls := .type "tuple_iterator", data := .fields #[.ref l, .int 0 0] }).push
      { cls := .type "enumerate", data := .fields #[.none, .bool false, .ref s.heap.objs.size, rawInt 0, .none, .none] }) (s.heap.objs.size + 1) s.heap.objs.size 0 .none := by
    have := Heap.get?_push_size (s.heap.push { cls := .type "tuple_iterator", data := .fields #[.ref l, .int 0 0] })
      (o := { cls := .type "enumerate", data := .fields #[.none, .bool false, .ref s.heap.objs.size, rawInt 0, .none, .none] }) rfl
    rw [hz] at this; exact this
  exact ⟨⟨_, he, rfl⟩, h _ he ⟨_, Heap.get?_push_of_some _ (Heap.get?_push_size _ rfl), rfl, rfl⟩ (by rw [Heap.size_push, hz]) fun b o x => Heap.get?_push_of_some _ (Heap.get?_push_of_some _ x)⟩
end PySem
end
section
set_option Elab.async false
set_option linter.all false
set_option maxRecDepth 100000
set_option maxHeartbeats 4000000
/-! enumerate(a tuple), a rule. -/
namespace Up
open PySem PySem.Spec PyProof.Rows L2
def IteT (K : PySem.W.Frag) (a : Addr) : It :=
  ⟨fun i H => ∃ (xs : List V) (x : V), SqT K H a xs ∧ xs[i]? = some x, fun i H v H' => ∃ T x, v = .ref T ∧ H T = none ∧ H' = upd H T (.tup [.int (i : Nat), x]) ∧ ∀ xs, SqT K H a xs → xs[i]? = some x, fun i H => ∃ xs : List V, SqT K H a xs ∧ xs.length ≤ i⟩
theorem turn_enumT {P : Program} {w : World} {K : PySem.W.Frag} {elts : List Expr} {kk : Nat} {tpos : Pos} (a e it : Addr) :
    Turn P w K (.Tuple elts kk tpos) (IteT K a) [e, it] e (fun i h => (∃ old, IsEnum h e it ((i : Nat) : Int) old) ∧ h.IsTupleIter it a i ∧ e ≠ it) where
  mem := by simp
  obj := fun i h st b hb => by
    obtain ⟨⟨old, he⟩, ⟨o, ho, hc, hd⟩, _⟩ := st
    have e' : b = e ∨ b = it := by simpa using hb
    rcases e' with z | z
    · rw [z]; exact ⟨_, he, fun v q => nomatch q⟩
    · rw [z]; exact ⟨o, ho, fun v q => by rw [hd] at q; cases q⟩
  keep := fun i h h' st k => let ⟨⟨old, he⟩, hi, hne⟩ := st; ⟨⟨old, k e (by simp) _ he⟩, hi.at fun o q => k it (by simp) o q, hne⟩
  item := by
    intro X hP hw hK hc i pins s σ H E I hf st hg
    subst hP hw hK
    obtain ⟨⟨old, he⟩, hit, hne⟩ := st
    obtain ⟨xs, x, hq, hx⟩ := hg
    obtain ⟨its, rv, p, hz⟩ := I.tuple hq
    obtain ⟨u, hu, ru⟩ := rv.get hx
    have hel : e < s.heap.objs.size := Heap.lt_size he
    have hil : it < s.heap.objs.size := by obtain ⟨_, q, _⟩ := hit; exact Heap.lt_size q
    have ai : a ≠ it := fun z => by
      obtain ⟨o, ho, _, n, hd⟩ := id p
      obtain ⟨o', ho', _, hd'⟩ := id hit
      rw [z, ho'] at ho
      cases ho
      rw [hd'] at hd
      cases hd
    have ea : e ∉ [it, a] := fun z => by
      rcases List.mem_cons.mp z with z | z
      · exact hne z
      · obtain ⟨o, ho, _, n, hd⟩ := id p
        have he' := he
        rw [List.mem_singleton.mp z] at he'
        have he' : s.heap.get? a = some _ := he'
        rw [ho] at he'
        cases he'
        cases hd
    have hi : i < its.toArray.size := by
      have := (List.getElem?_eq_some_iff.mp hu).1
      rwa [List.size_toArray]
    refine wpAny_pyNext_enum_itemD (Draws.tuple (A := X.A.in1) (I.ok.hd hc) it a ai its.toArray) he ⟨hit, p⟩ hi hne ea fun u' h' tk hu' ho hst' hT hsz hk => ?_
    have eu : u' = u := by
      have hu' : its.toArray[i]? = some u' := hu'
      rw [show its.toArray[i]? = some u from by simpa using hu] at hu'
      exact (Option.some.inj hu').symm
    subst eu
    obtain ⟨hit', _⟩ := hst'
    refine ⟨_, rfl, wpAny_letOwnedTupleGo_enum (s := { s with heap := h', toks := tk + 1 }) ho fun h'' he' sb => ?_⟩
    have hT2 : h''.get? s.heap.objs.size = some { cls := .type "tuple", data := .seq #[.int i tk, u'] } := (sb.2 _ (Nat.ne_of_gt hel)).trans hT
    have new : ObjOk X.prog X.w (upd H s.heap.objs.size (.tup [.int (i : Nat), x])) h'' s.heap.objs.size (.tup [.int (i : Nat), x]) :=
      ⟨by show 2 ≤ sizeLine; decide, [.int i tk, u'], .cons ⟨_, rfl⟩ (.cons ru .nil), ⟨_, hT2, rfl, _, rfl⟩⟩
    have I1 : Inv X pins σ (upd H s.heap.objs.size (.tup [.int (i : Nat), x])) { s with heap := h'', toks := tk + 1 } :=
      I.turnedNew (ch := [e, it]) (fun b ob hb q => (sb.2 b (fun z => hb (by simp [z]))).trans (hk b ob (fun z => hb (by simp [z])) (fun z => hb (by simp [z])) q)) hf (Nat.le_refl _) new
    refine ⟨.ref s.heap.objs.size, _, I1, rfl, ⟨_, x, rfl, I.hok.fresh (Nat.le_refl _), rfl, fun ys hy => by rw [I.tuple_inj hy hq]; exact hx⟩, ⟨⟨u', ?_⟩, hit'.at fun o q => (sb.2 it (Ne.symm hne)).trans q, hne⟩, fun b hb => ?_⟩
    · have e1 : ((i + 1 : Nat) : Int) = (i : Int) + 1 := by omega
      rw [e1]; exact he'
    · have hb' : b < s.heap.objs.size := by
        have e' : b = e ∨ b = it := by simpa using hb
        rcases e' with z | z
        · rw [z]; exact hel
        · rw [z]; exact hil
      rw [upd_ne (Nat.ne_of_lt hb')]
      exact (hf b hb).1
  done := by
    intro X hP hw hK hc i pins s σ H E I hf st hg
    subst hP hw hK
    obtain ⟨⟨old, he⟩, hit, hne⟩ := st
    obtain ⟨xs, hq, hx⟩ := hg
    obtain ⟨its, rv, p, hz⟩ := I.tuple hq
    obtain ⟨f0, f1, f2, f3, f4, f5⟩ := hf it (by simp)
    have hl := rv.length
    have D : Draws X.prog X.w X.A.in1 it [it, a] 0 (fun _ _ => True) (fun _ h => h.IsTupleIter it a i ∧ h.IsTuple a its.toArray) :=
      ⟨fun _ _ st => let ⟨o, ho, _⟩ := st.1; ⟨o, ho⟩, fun _ _ _ st hk => ⟨st.1.at fun o e => hk it (by simp) o e, st.2.at fun o e => hk a (by simp) o e⟩, fun j s Q E hj => absurd hj (Nat.not_lt_zero _), fun s Q E st hE => wpAny_nextOf_tuple_end (A := X.A.in1) (I.ok.hd hc) st.1 st.2 (by simp; omega) hE⟩
    exact wpAny_pyNext_enum_endD D he ⟨hit, p⟩ fun h' eb => ⟨rfl, I.turned (t' := s.toks) (fun b o hb q => eb b o hb q) f0 f1 f3 f4 f5⟩
  self := fun A i s Q E st h => let ⟨⟨_, he⟩, _⟩ := st; wpAny_pyIter_enum he h
def iEnumT (K : PySem.W.Frag) (ta : TA) : TI := fun σ H R => ta σ H fun vs H1 => ∃ a xs, vs = [.ref a] ∧ SqT K H1 a xs ∧ R (IteT K a) H1
theorem pi_enumT {X : Cx} {e : Expr} {ta : TA} {p pos tpos : Pos} {elts : List Expr} {kk : Nat} (hg : Gl X "enumerate") (hm : X.mg "enumerate" = none) (ha : PA X [e] ta) (hs : starEach [e] X.env = [(false, eval e X.env)] := by rfl) :
    PI X (.Tuple elts kk tpos) (.Call (.Name "enumerate" p) [e] [] pos) (iEnumT X.K ta) := by
  refine ⟨fun pins s σ H R I h => ?_⟩
  refine Call_ (ld_blt I hg hm boot_enumerate (PyProof.Rows.callWith_type1 (thn (ha.run pos pins s σ H _ I h) fun us s1 ⟨vs, H1, I1, r1, q1⟩ => ?_) hs rfl))
  obtain ⟨a, xs, ex, hq, q⟩ := q1
  subst ex
  cases r1 with
  | cons r rr =>
    cases rr
    cases r
    obtain ⟨its, rv, p', hz⟩ := I1.tuple hq
    refine up_call_enumT p' fun h' he hit hsz hk => wpAny_pyIter_enum he ?_
    have I2 : Inv X pins σ H1 { s1 with heap := h' } := I1.kept (t' := s1.toks) hk
    refine ⟨s1.heap.objs.size + 1, [s1.heap.objs.size + 1, s1.heap.objs.size], _, _, H1, rfl, I2, turn_enumT a (s1.heap.objs.size + 1) s1.heap.objs.size, ⟨⟨.none, he⟩, hit, Nat.succ_ne_self _⟩, fun b hb => ?_, q⟩
    have e' : b = s1.heap.objs.size + 1 ∨ b = s1.heap.objs.size := by simpa using hb
    have hle : s1.heap.objs.size ≤ b := by
      rcases e' with z | z
      · rw [z]; exact Nat.le_add_right _ _
      · rw [z]; exact Nat.le_refl _
    exact I1.fpOk hle (I1.hok.fresh hle)
theorem walk_enumT {K : PySem.W.Frag} {a : Addr} {xs : List V} : Walk (IteT K a) xs.length (fun H => SqT K H a xs) (YPair (fun i => some (.int (i : Nat))) (fun i => xs[i]?)) := by
  refine ⟨fun i _ hi q => ⟨xs, xs[i], q, by simp [hi]⟩, fun _ q => ⟨xs, q, Nat.le_refl _⟩, fun i H v H' _ q y => ?_⟩
  obtain ⟨T, x, h1, h2, h3, h4⟩ := y
  exact ⟨T, .int (i : Nat), x, h1, h2, h3, rfl, h4 xs q⟩
end Up
end
section
set_option Elab.async false
set_option linter.all false
set_option maxRecDepth 100000
set_option maxHeartbeats 4000000
/-! _law_row_kit. -/
namespace Up
open PySem PySem.Spec PyProof.Rows L2
section
variable {K : PySem.W.Frag} {σ : L2.St} {H : Hp} {te : TE}
theorem src_enumT {us : List Str} (h : Ev te σ H (IsT (strsD us))) : Src (iEnumT K (tCons te tNil)) σ H (List.range us.length) (fun i X H' => ∃ T, X = V.ref T ∧ H' T = some (.tup [.int (i : Int), .str (us.getD i "")])) := fun H0 e C c =>
  ea_one h H0 e _ fun vs H1 e1 ⟨v, hvs, hv⟩ => by
    obtain ⟨a, rfl, ha⟩ := tt_strs hv
    refine ⟨a, us.map V.str, hvs, sq_t ha, c (IteT K a) H1 (fun H2 => H2 a = some (.tup (us.map V.str))) (YPair (fun i => some (.int (i : Nat))) (fun i => (us.map V.str)[i]?)) e1 ?_ (fun H2 H3 e g => e _ _ g) ha fun i b x H2 H3 hb g y => ?_⟩
    · have w := walk_enumT (K := K) (a := a) (xs := us.map V.str)
      rw [List.length_map] at w
      rw [List.length_range]
      exact w.mono (fun H2 g => sq_t g) fun i H2 x H3 _ _ y => y
    · obtain ⟨T, x1, y1, rfl, hT, rfl, h1, h2⟩ := y
      obtain ⟨hi, hb⟩ := List.getElem?_eq_some_iff.mp hb
      rw [List.getElem_range] at hb
      subst hb
      cases h1
      have h2 : (us.map V.str)[i]? = some y1 := h2
      rw [List.getElem?_map] at h2
      obtain ⟨z, hz, rfl⟩ := Option.map_eq_some_iff.mp h2
      exact ⟨same_new hT, T, rfl, by rw [upd_same, List.getD_eq_getElem?_getD, hz]; rfl⟩
end
section
variable {P : Program} {w : World} {K : PySem.W.Frag} {mg : Str → Option Value} {base : Heap}
def spRowK : Sp := SpD (α := Unit) (fun _ vs _ => vs = [.int 10]) (fun _ v H => Tt H v (bookD rowB))
def rowF (i : Nat) : PyData := pairD (abcU.getD i "", if i = 0 then [[]] else [[abcU.getD (i - 1) ""]])
theorem k_rowk (T : Txt K mg) : Kn P w K mg base CX0 1 "_law_row_kit" spRowK := by
  refine T.d_law_row_kit.kn c_law_row_kit (fun vs H Q E h => ?_) (fun f cdv A outer s H vs Q E hr h => ?_)
  · obtain ⟨_, rfl, _⟩ := h
    rfl
  · obtain ⟨_, rfl, q⟩ := h
    refine ⟨_, pss_cons (ps_asg (pe_callTy (cr_tupStr (by rfl)) (by rfl) T.b_tuple (by decide +kernel) (pa_cons (pe_slice sl_str pe_str po_none (po_some (pv 0))) pa_nil)) (pgn 1 c_law_row_kit.nd))
      (pss_one (ps_ret (pe_callTy cr_tup (by rfl) T.b_tuple (by decide +kernel) (pa_cons (pe_lc (own := [("_law_k", 2), ("_law_tag", 3)]) (g := gTup K 2 (gCons (gName 2) (gCons (gName 3) gNil))) (by rfl) c_law_row_kit.nd (pi_enumT (by rfl) T.b_enumerate (pa_cons (pv 1) pa_nil)) (blkOk_by (N := ["_law_size_so", "_law_tags_here", "_law_k", "_law_tag"]) (sc := defScope s_law_row_kit) (by decide +kernel)) (fun _ _ _ _ _ => pg_tup rfl (pgs_cons (pgn 2 c_law_row_kit.nd) (pgs_cons (pgn 3 c_law_row_kit.nd) pgs_nil)))
        (fun _ _ _ _ _ => pts_nil) (fun _ _ _ _ _ => pe_tup (pa_cons (pv 3) (pa_cons (pe_ifExp (pt_cmpR op_eq (pv 2) pe_int (by rfl)) (pe_tup (pa_cons (pe_tup pa_nil) pa_nil)) (pe_tup (pa_cons (pe_tup (pa_cons (pe_ix (ix_tupK (K := K) (by rfl)) (pv 1) (pe_op op_sub (pv 2) pe_int) (fun _ _ => rfl)) pa_nil)) pa_nil))) pa_nil)))) pa_nil)))), ?_⟩
    have tagsE : Ev (tCB rTupStr (tCons (tSl rSlS (tC (.str abc)) tNoPart (tPart (tVar 0))) tNil)) (start ["_law_size_so", "_law_tags_here", "_law_k", "_law_tag"] [.int 10]) H (IsT (strsD abcU)) := ev_cb (ea_one (ev_cutabc (ev_var (i := 0) (v := .int 10) rfl))) fun vs H1 _ ⟨v, hv, hb⟩ Q q => ⟨abc, by rw [hv, hb], by decide +kernel, fun p hp => q _ _ (same_new hp) (tt_of_strs (by rw [upd_same, abc_eq, List.map_map]; rfl))⟩
    refine q_set tagsE fun tv H1 e1 htv => ?_
    have key := ev_lc (te := tTup (tCons (tVar 3) (tCons (tIf (tTest (tOp rEq (tVar 2) (tC (.int 0)))) (tTup (tCons (tTup tNil) tNil)) (tTup (tCons (tTup (tCons (tOp (rIxT K) (tVar 1) (tOp (rI0 fun i j => .int (i - j)) (tVar 2) (tC (.int 1)))) tNil)) tNil))) tNil))) (tt := tYes) (g := gTup K 2 (gCons (gName 2) (gCons (gName 3) gNil))) (vs := [2, 3]) (σ := [some (.int 10), some tv, none, none]) (H := H1) (src_enumT (K := K) (te := tVar 1) (us := abcU) (ev_vt (i := 1) (v := tv) rfl htv)) (fun _ => true) rowF (by decide) fun i hi X H2 e2 ⟨T', hX, hT⟩ C c => by
      subst hX
      have hi := List.mem_range.mp hi
      refine ⟨T', [.int (i : Int), .str (abcU.getD i "")], rfl, sq_t hT, rfl, _, _, rfl, _, _, rfl, rfl, c [some (.int 10), some tv, some (.int (i : Int)), some (.str (abcU.getD i ""))] _ (Same.refl _) rfl et_yes fun _ => ?_⟩
      unfold rowF pairD
      refine ev_tup (ts_cons (ev_var (i := 3) (v := .str (abcU.getD i "")) rfl).tstr (ts_cons (ev_if (b := decide (i = 0)) ((et_test (ev_eqS (x := .int (i : Int)) (y := .int 0) rfl (ev_var (i := 2) (v := .int (i : Int)) rfl) ev_c)).to (by by_cases h : i = 0 <;> simp [h])) (fun h => ?_) (fun h => ?_)) ts_nil)) (by show 2 ≤ 100000; decide)
      · rw [if_pos (of_decide_eq_true h)]
        exact ev_tup (ts_cons (ev_tup (ds := []) ts_nil (Nat.zero_le _)) ts_nil) (by show 1 ≤ 100000; decide)
      · have h0 : ¬ i = 0 := of_decide_eq_false h
        rw [if_neg h0]
        refine ev_tup (ts_cons (ev_tup (ts_cons (ev_ixT (K := K) (i := i - 1) (ev_vt (i := 1) (v := tv) (d := strsD abcU) rfl (htv.same e2)) ((ev_I0 (g := fun i j => .int (i - j)) (ev_var (i := 2) (v := .int (i : Int)) rfl) (ev_c (v := .int 1))).imp fun v _ _ e => by rw [e]; congr 1; omega) ?_) ts_nil) (by show 1 ≤ 100000; decide)) ts_nil) (by show 1 ≤ 100000; decide)
        rw [List.getElem?_map, List.getD_eq_getElem?_getD, List.getElem?_eq_getElem (show i - 1 < abcU.length by omega)]
        rfl
    rw [filter_yes, show (List.range abcU.length).map rowF = rowB.map pairD from by rfl] at key
    exact s_ret (ev_tupL key) fun v' H2 e2 hv' => q v' H2 (e1.trans e2) hv'
end
end Up
end
section
set_option Elab.async false
set_option linter.all false
set_option maxRecDepth 100000
set_option maxHeartbeats 4000000
/-! f(k = v, ..): a def of the text, by keywords alone. -/
namespace Up
open PySem PySem.Spec PyProof.Rows L2
section
variable {X : Cx} {CX : CXT} {k : Nat} {f : Addr} {fd : FuncData} {ps ks : List Str} {sp : Sp} {E : XK} {x : Str} {p pos : Pos} {kws : List Keyword} {tk : TA} {g : List Value → List Value → List Value} {gV : List V → List V → List V}
theorem pe_callK0 (F : FnOk X.prog X.w X.K X.mg X.base CX k f fd ps sp) (hr : Room k X.A) (hg : Gl X x) (hm : X.mg x = some (.ref f)) (hk : PySem.W.keepIn X.K (.ref f) = true) (hb : KBn X.K fd ps 0 ks g gV) (hx : Passes CX X E) (hkw : PK X kws tk)
    (hall : (backToKw pos (keywordEach kws X.env)).all (·.1.isSome) = true := by rfl) (hks : (backToKw pos (keywordEach kws X.env)).filterMap (·.1) = ks := by rfl) (hdb : (x == ("__debug__" : Str)) = false := by decide)
    (hpl : ((backTo pos (starEach [] X.env)).any (·.1) || (backToKw pos (keywordEach kws X.env)).any (·.1.isNone)) = false := by rfl) :
    PE X (.Call (.Name x p) [] kws pos) (tCallN 0 ks.length sp gV E tNil tk) := by
  refine ⟨fun pins s σ H Q I h => ?_⟩
  refine wpAny_Call_Name_kw (ld_glob I hg hm ?_ hdb)
  refine PySem.W.callWith_KW0 (h₀ := X.base) I.ok.mod.kin hk hall ?_ hpl
  refine thn (hkw.run pos pins s σ H _ I h) fun ws s2 ⟨zs, H2, I2, rz, l1, l2, q2⟩ => ⟨I2.kIn, ?_⟩
  rw [hks]
  exact run_fnN (us := []) (vs := []) F hr hb hx I2 .nil rz rfl l2 q2
end
def swap2 {α : Type} : List α → List α
  | [a, b] => [b, a]
  | l => l
theorem vals_swap : ∀ {zs : List V} {ws : List Value}, Vals zs ws → Vals (swap2 zs) (swap2 ws)
  | _, _, .nil => .nil
  | _, _, .cons h .nil => .cons h .nil
  | _, _, .cons h (.cons h2 .nil) => .cons h2 (.cons h .nil)
  | _, _, .cons h (.cons h2 (.cons h3 t)) => .cons h (.cons h2 (.cons h3 t))
theorem kbn_never {K : PySem.W.Frag} {f : Addr} {fd : FuncData} (F : Fun K "never_later" "never_later" s_never_later f fd) : KBn K fd ["one", "other"] 0 ["other", "one"] (fun _ ws => swap2 ws) (fun _ zs => swap2 zs) := by
  obtain ⟨oc, od, kV, doc, pm, an, cdv, ct, osl, rfl, lk, hcd⟩ := F.ex
  refine ⟨fun s us ws X l1 l2 => ?_, fun _ r2 => vals_swap r2⟩
  have e1 := List.length_eq_zero_iff.mp l1
  subst e1
  match ws, l2 with
  | [a, b], _ => exact .of_eq rfl
end Up
end
section
set_option Elab.async false
set_option linter.all false
set_option maxRecDepth 100000
set_option maxHeartbeats 4000000
/-! Lists whose items are new lists; _law_lists. -/
namespace Up
open PySem PySem.Spec PyProof.Rows L2
theorem nfree {H H' : Hp} {p : Addr} (e : Same H H') (h : H' p = none) : H p = none := by
  cases q : H p with
  | none => rfl
  | some o => rw [e _ _ q] at h; cases h
/-- a word about new things: the second heap is the one they were made over -/
structure Nw {β : Type} (R : β → Hp → V → Hp → Prop) : Prop where
  same : ∀ b H0 x H H', Same H H' → R b H0 x H → R b H0 x H'
  chg : ∀ b H0 x H D o, H0 D ≠ none → R b H0 x H → R b H0 x (upd H D o)
  weak : ∀ b H0 H0' x H, (∀ p, H0 p = none → H0' p = none) → R b H0 x H → R b H0' x H
def EvN (te : TE) (σ : L2.St) (H : Hp) (P : Hp → V → Hp → Prop) : Prop := ∀ H1, Same H H1 → ∀ Q : VK, (∀ v H2, Same H1 H2 → P H1 v H2 → Q v H2) → te σ H1 Q
def IsNL {β : Type} (R : β → Hp → V → Hp → Prop) (bs : List β) : Hp → V → Hp → Prop := fun H0 v H => ∃ p xs, v = .ref p ∧ H0 p = none ∧ H p = some (.lst xs) ∧ Paired (fun x b => R b H0 x H) xs bs
section
variable {K : PySem.W.Frag} {σ : L2.St} {H : Hp} {te ta tb : TE}
theorem EvN.ev {β : Type} {R : β → Hp → V → Hp → Prop} {b : β} (S : Nw R) (h : EvN te σ H (R b)) : Ev te σ H (R b H) := fun H1 e Q q =>
  h H1 e Q fun v H2 e2 p => q v H2 e2 (S.weak _ _ _ _ _ (fun p hp => nfree e hp) p)
theorem EvN.imp {P P' : Hp → V → Hp → Prop} (h : EvN te σ H P) (k : ∀ H0 v H1, P H0 v H1 → P' H0 v H1) : EvN te σ H P' := fun H1 e Q q => h H1 e Q fun v H2 e2 p => q v H2 e2 (k _ _ _ p)
theorem ev_lcN {β γ : Type} {R' : γ → Hp → V → Hp → Prop} (S : Nw R') {bs : List β} {R : β → V → Hp → Prop} {wi : TI} {g : TG} {vs : List Nat} (hsrc : Src wi σ H bs R) (f : β → γ) (hz : bs.length ≤ 99999)
    (turn : ∀ b ∈ bs, ∀ x H1, Same H H1 → R b x H1 → ∀ C : L2.St → Hp → Prop, (∀ σ2 H2, Same H1 H2 → wipe σ2 vs = wipe σ vs → EvN te σ2 H2 (R' (f b)) → C σ2 H2) → g x (wipe σ vs) H1 C) :
    EvN (tLc wi g tYes te vs) σ H (IsNL R' (bs.map f)) := fun H0 e0 Q q =>
  hsrc H0 e0 _ fun J H1 G Y e1 w mono g1 yok D hD => by
    have hb0 : (upd H1 D (.lst [])) D ≠ none := by rw [upd_same]; exact fun z => nomatch z
    refine lc_it w (fun i H' => ∃ acc, Same H1 H' ∧ H' D = some (.lst acc) ∧ Paired (fun x b => R' b (upd H1 D (.lst [])) x H') acc ((bs.take i).map f)) ⟨[], same_new hD, upd_same, by rw [List.take_zero]; exact .nil⟩ (fun i H' _ pv => let ⟨_, s, _⟩ := pv; mono _ _ s g1) (fun i x H' H3 hi pv y => ?_) (fun H' pv => ?_)
    · obtain ⟨acc, s1, hacc, ta⟩ := pv
      have hb : bs[i]? = some bs[i] := List.getElem?_eq_getElem hi
      obtain ⟨s3, rb⟩ := yok i _ x H' H3 hb (mono _ _ s1 g1) y
      refine turn bs[i] (List.getElem_mem hi) x H3 (((e0.trans e1).trans s1).trans s3) rb _ fun σ2 H2 e2 hw he => ⟨hw, ?_⟩
      have s4 : Same H' H2 := s3.trans e2
      refine yes_go ?_
      rw [if_pos rfl]
      refine he H2 (Same.refl _) _ fun y H5 e5 py => ⟨acc, e5 _ _ (s4 _ _ hacc), ?_, acc ++ [y], same_mut (s1.trans (s4.trans e5)) hD, upd_same, ?_⟩
      · rw [paired_len ta, List.length_map, List.length_take]
        exact size_lt (by omega)
      · have wk : ∀ p, H2 p = none → (upd H1 D (.lst [])) p = none := fun p hp => by
          by_cases e : p = D
          · subst e; rw [s4 _ _ hacc] at hp; cases hp
          · rw [upd_ne e]; exact nfree (s1.trans s4) hp
        rw [take_more hb, List.map_append]
        exact paired_app (Paired.mapP ta fun x b q => S.chg _ _ _ _ _ _ hb0 (S.same _ _ _ _ _ (s4.trans e5) q)) (.cons (S.chg _ _ _ _ _ _ hb0 (S.weak _ _ _ _ _ wk py)) .nil)
    · obtain ⟨acc, s1, hacc, ta⟩ := pv
      rw [List.take_length] at ta
      refine q _ H' (e1.trans s1) ⟨D, acc, rfl, nfree e1 hD, hacc, Paired.mapP ta fun x b q => S.weak _ _ _ _ _ (fun p hp => ?_) q⟩
      by_cases e : p = D
      · subst e; exact nfree e1 hD
      · rw [upd_ne e] at hp; exact nfree e1 hp
end
/-- new lists in the place of tuples, to a depth -/
def LtN : Nat → PyData → Hp → V → Hp → Prop
  | 0, d, _, v, _ => Scal v d
  | n + 1, d, H0, v, H => Scal v d ∨ ∃ p xs ds, v = .ref p ∧ H0 p = none ∧ H p = some (.lst xs) ∧ d = .tuple ds ∧ ds.length ≤ 90000 ∧ Paired (fun x d => LtN n d H0 x H) xs ds
theorem LtN.same {H0 H H' : Hp} (e : Same H H') : ∀ {n : Nat} {v : V} {d : PyData}, LtN n d H0 v H → LtN n d H0 v H'
  | 0, _, _, h => h
  | n + 1, _, _, h => h.imp id fun ⟨p, xs, ds, h1, h2, h3, h4, h5, h6⟩ => ⟨p, xs, ds, h1, h2, e _ _ h3, h4, h5, Paired.mapP h6 fun _ _ q => LtN.same e q⟩
theorem LtN.chg {H0 H : Hp} {D : Addr} {o : HO} (hD : H0 D ≠ none) : ∀ {n : Nat} {v : V} {d : PyData}, LtN n d H0 v H → LtN n d H0 v (upd H D o)
  | 0, _, _, h => h
  | n + 1, _, _, h => h.imp id fun ⟨p, xs, ds, h1, h2, h3, h4, h5, h6⟩ => ⟨p, xs, ds, h1, h2, by rw [upd_ne (fun z => hD (by rw [← z]; exact h2))]; exact h3, h4, h5, Paired.mapP h6 fun _ _ q => LtN.chg hD q⟩
theorem LtN.weak {H0 H0' H : Hp} (w : ∀ p, H0 p = none → H0' p = none) : ∀ {n : Nat} {v : V} {d : PyData}, LtN n d H0 v H → LtN n d H0' v H
  | 0, _, _, h => h
  | n + 1, _, _, h => h.imp id fun ⟨p, xs, ds, h1, h2, h3, h4, h5, h6⟩ => ⟨p, xs, ds, h1, w _ h2, h3, h4, h5, Paired.mapP h6 fun _ _ q => LtN.weak w q⟩
theorem nw_lt (n : Nat) : Nw (LtN n) := ⟨fun _ _ _ _ _ e h => h.same e, fun _ _ _ _ _ _ hD h => h.chg hD, fun _ _ _ _ _ w h => h.weak w⟩
theorem LtN.lt {H0 H : Hp} : ∀ {n : Nat} {v : V} {d : PyData}, LtN n d H0 v H → Lt n H v d
  | 0, _, _, h => h
  | n + 1, _, _, h => h.imp id fun ⟨p, xs, ds, h1, h2, h3, h4, h5, h6⟩ => ⟨xs, ds, ⟨p, h1, .inr h3⟩, h4, h5, Paired.mapP h6 fun _ _ q => LtN.lt q⟩
theorem ltn_scal {H0 H : Hp} {n : Nat} {v : V} {d : PyData} (h : Scal v d) : LtN n d H0 v H := by
  cases n with
  | zero => exact h
  | succ n => exact .inl h
section
variable {P : Program} {w : World} {K : PySem.W.Frag} {mg : Str → Option Value} {base : Heap}
def spLists (n : Nat) : Sp := fun vs H Q _ => ∃ d v, vs = [v] ∧ Lt n H v d ∧ ∀ w H', Same H H' → LtN n d H w H' → Q w H'
theorem k_lists (T : Txt K mg) : ∀ n : Nat, Kn P w K mg base CX0 (n + 1) "_law_lists" (spLists n)
  | 0 => by
    refine T.d_law_lists.kn c_law_lists (fun vs H Q E h => ?_) (fun f cdv A outer s H vs Q E hr h => ?_)
    · obtain ⟨d, v, rfl, _⟩ := h
      rfl
    · obtain ⟨d, v, rfl, hv, q⟩ := h
      refine ⟨_, pss_one (ps_ret (pe_ifExp (pt_val (pe_callB call_isiT (by rfl) T.b_isinstance (by decide +kernel) (pa_cons (pv 0) (pa_cons (pe_tup (pa_cons (pe_bltn (v := .ty "list") (by rfl) T.b_list (by decide +kernel) rfl) (pa_cons (pe_bltn (v := .ty "tuple") (by rfl) T.b_tuple (by decide +kernel) rfl) pa_nil))) pa_nil)))) pe_no (pv 0))), ?_⟩
      exact s_ret (P := fun w _ => w = v) (ev_if (et_B (ev_isiN rfl hv)) (fun z => nomatch z) fun _ => ev_var rfl) fun w H' e hw => q w H' e (by rw [hw]; exact hv)
  | n + 1 => by
    have ih := k_lists T n
    refine T.d_law_lists.kn c_law_lists (fun vs H Q E h => ?_) (fun f cdv A outer s H vs Q E hr h => ?_)
    · obtain ⟨d, v, rfl, _⟩ := h
      rfl
    · obtain ⟨d, v, rfl, hv, q⟩ := h
      refine ⟨_, pss_one (ps_ret (pe_ifExp (pt_val (pe_callB call_isiT (by rfl) T.b_isinstance (by decide +kernel) (pa_cons (pv 0) (pa_cons (pe_tup (pa_cons (pe_bltn (v := .ty "list") (by rfl) T.b_list (by decide +kernel) rfl) (pa_cons (pe_bltn (v := .ty "tuple") (by rfl) T.b_tuple (by decide +kernel) rfl) pa_nil))) pa_nil))))
        (pe_lc (own := [("_law_bit", 1)]) (g := gName 1) (by rfl) c_law_lists.nd (pi_seq 0 (pv 0)) (blkOk_by (N := ["_law_matter", "_law_bit"]) (sc := defScope s_law_lists) (by decide +kernel)) (fun _ _ _ _ _ => pgn 1 c_law_lists.nd) (fun _ _ _ _ _ => pts_nil)
          (fun _ _ _ _ _ => pe_kn ih hr pass0 (pa_cons (pv 1) pa_nil))) (pv 0))), ?_⟩
      rcases hv with hv | ⟨xs, ds, h1, rfl, h3, h4⟩
      · exact s_ret (P := fun w _ => w = v) (ev_if (et_B (ev_isiN rfl hv)) (fun z => nomatch z) fun _ => ev_var rfl) fun w H' e hw => q w H' e (by rw [hw]; exact ltn_scal hv)
      · refine s_ret (P := LtN (n + 1) (.tuple ds) H) (ev_if (et_B (ev_isiY rfl h1)) (fun _ => ?_) fun z => nomatch z) q
        have key := ev_lcN (te := tCall (spLists n) [] E0 (tCons (tVar 1) tNil)) (g := gName 1) (vs := [1]) (nw_lt n) (src_seq (K := K) (i := 0) (R := fun H1 x d => Lt n H1 x d) (σ := start ["_law_matter", "_law_bit"] [v]) rfl h1 h4 fun H2 H3 x d e q => q.same e) (fun d => d) (by omega) fun d _ x H1 e hx C c =>
          c _ _ (Same.refl _) rfl fun H4 e4 Q q => ⟨x, rfl, d, x, rfl, hx.same e4, q⟩
        rw [List.map_id'] at key
        exact EvN.ev (nw_lt (n + 1)) (key.imp fun H0 v H1 ⟨p, xs, h1, h2, h3, h4⟩ => .inr ⟨p, xs, ds, h1, h2, h3, rfl, by assumption, h4⟩)
/-- of a book -/
def spListsB : Sp := SpD (α := SBk) (fun b vs H => ∃ v, vs = [v] ∧ BookV b v H) (fun b v H => BookV b v H)
theorem k_listsB (T : Txt K mg) : Kn P w K mg base CX0 5 "_law_lists" spListsB := (k_lists T 4).imp fun vs H Q E ⟨b, ⟨v, h1, h2⟩, q⟩ => ⟨bookD b, v, h1, h2, fun w H' e h => q w H' e h.lt⟩
end
end Up
end
section
set_option Elab.async false
set_option linter.all false
set_option maxRecDepth 100000
set_option maxHeartbeats 4000000
/-! never_later where nothing is raised; what the part by hand asks. -/
namespace Up
open PySem PySem.Spec PyProof.Rows L2
section
variable {P : Program} {w : World} {K : PySem.W.Frag} {mg : Str → Option Value} {base : Heap} {B C : Addr}
theorem ok_calm {k : Nat} {f : Addr} {fd : FuncData} {ps : List Str} {sp sp' : Sp} (F : FnOk P w K mg base (L2.CX P w) k f fd ps sp) (h : ∀ vs H Q E, sp' vs H Q E → sp vs H Q E0) : FnOk P w K mg base CX0 k f fd ps sp' :=
  ⟨fun vs H Q E q => F.len vs H Q E0 (h _ _ _ _ q), fun A outer s H args us vs Q E hr he hb hv hs => codeAny_mono (F.run A outer s H args us vs Q E0 hr he hb hv (h _ _ _ _ hs)) fun r s' hq => by
    cases r with
    | ok fl => cases fl <;> exact hq
    | error e =>
      obtain ⟨_, _, _, _, _, _, _, _, _, _, _, _, z⟩ := hq
      exact z.elim⟩
theorem ok_never (T : Txt K mg) (TX : TxtX K mg C) (D : DfT K mg B) {f : Addr} {fd : FuncData} (F : Fun K "never_later" "never_later" s_never_later f fd) : FnOk P w K mg base (L2.CX P w) 10 f fd ["one", "other"] (spNever C) := by
  have G1 := k_later (P := P) (w := w) (base := base) T TX D
  refine F.okX c_never_later (fun vs H Q E h => ?_) (fun cdv A outer s H vs Q E hr h => ?_)
  · obtain ⟨a, ⟨v, x, rfl, _⟩, _⟩ := h
    rfl
  · obtain ⟨⟨a, b⟩, ⟨v, x, rfl, hv, hx, ha, hb⟩, q1, q2⟩ := h
    refine ⟨_, pss_one (ps_ret (pe_cmp (pc_isN (pe_knS (E := WE (fun cls d _ H => E cls d H)) G1 hr (fun σ => passAt (takes_of rfl rfl rfl rfl) σ) (pa_cons (pv 0) (pa_cons (pv 1) pa_nil)))))), ?_⟩
    refine ⟨v, rfl, x, rfl, (a, b), ⟨v, x, rfl, hv, hx, ha, hb⟩, fun nb rv H1 e1 h1 => ?_, fun bad H1 e1 => q2 bad H1 e1⟩
    refine q1 nb _ H1 e1 ⟨_, rfl, ?_⟩
    rw [decide_eq_true_iff]
    rcases h1 with ⟨h, k⟩ | ⟨h, k⟩
    · exact ⟨fun _ => k, fun _ => h⟩
    · exact ⟨fun z => absurd z h, fun z => absurd z k⟩
def spNever0 : Sp := SpD (α := SBk × SBk) (fun a vs H => PreTwo a vs H ∧ unitsM a.1 = unitsM a.2) (fun a v _ => v = .bl (subB a.2 a.1))
theorem ok_never0 (T : Txt K mg) (TX : TxtX K mg C) (D : DfT K mg B) {f : Addr} {fd : FuncData} (F : Fun K "never_later" "never_later" s_never_later f fd) : FnOk P w K mg base CX0 10 f fd ["one", "other"] spNever0 :=
  ok_calm (ok_never T TX D F) fun vs H Q E ⟨a, ⟨h1, h2⟩, q⟩ => ⟨a, h1, fun _ v H' e ⟨r, hr, hb⟩ => q v H' e (by
    rw [hr]
    congr 1
    rw [Bool.eq_iff_iff, hb, subB_iff]), fun bad => absurd h2 bad⟩
end
/-! ### books that will do -/
def okC (b : SBk) : Bool := decide (b.length ≤ 16) && b.all (fun p => decide (p.2.length ≤ 1000) && p.2.all fun n => decide (n.length ≤ 1000)) && decide (unitsM b).Nodup && (unitsM b).all PyData.strOk
theorem ok_of {b : SBk} (h : okC b = true) : BkOk b := by
  unfold okC at h
  simp only [Bool.and_eq_true, decide_eq_true_iff, List.all_eq_true] at h
  obtain ⟨⟨⟨h1, h2⟩, h3⟩, h4⟩ := h
  exact ⟨⟨by omega, h2⟩, h3, h4, h1⟩
/-! ### lists of bools, texts and lists of such -/
abbrev LsA (n : Nat) (ds : List PyData) : List V → Hp → Prop := fun vs H => Paired (fun v d => Ll n H v d) vs ds
def IsLs (n : Nat) (ds : List PyData) : V → Hp → Prop := fun v H => ∃ p xs, v = .ref p ∧ H p = some (.lst xs) ∧ ds.length ≤ 1000 ∧ Paired (fun v d => Ll n H v d) xs ds
theorem ll_bl {H : Hp} (b : Bool) : ∀ n, Ll n H (.bl b) (.bool b)
  | 0 => .inl ⟨b, rfl, rfl⟩
  | _ + 1 => .inl (.inl ⟨b, rfl, rfl⟩)
theorem ll_str {H : Hp} (x : Str) : ∀ n, Ll n H (.str x) (.str x)
  | 0 => .inr ⟨x, rfl, rfl⟩
  | _ + 1 => .inl (.inr ⟨x, rfl, rfl⟩)
theorem mono_ls (n : Nat) (ds : List PyData) : Mono (IsLs n ds) := fun _ _ _ e ⟨p, xs, h1, h2, h3, h4⟩ => ⟨p, xs, h1, e _ _ h2, h3, Paired.mapP h4 fun _ _ q => Ll.same e q⟩
theorem ls_ll {n : Nat} {ds : List PyData} {v : V} {H : Hp} (h : IsLs n ds v H) : Ll (n + 1) H v (.list ds) := by
  obtain ⟨p, xs, rfl, h2, h3, h4⟩ := h
  exact .inr ⟨p, xs, ds, rfl, h2, rfl, h3, h4⟩
section
variable {K : PySem.W.Frag} {σ : L2.St} {H : Hp} {te ta tb : TE} {tr : TA} {n : Nat} {ds es : List PyData}
theorem la_nil : EvA tNil σ H (LsA n []) := fun H1 _ Q q => q [] H1 (Same.refl H1) .nil
theorem la_cons {d : PyData} (h : Ev te σ H (fun v H => Ll n H v d)) (hr : EvA tr σ H (LsA n ds)) : EvA (tCons te tr) σ H (LsA n (d :: ds)) := fun H1 e Q q =>
  h H1 e _ fun v H2 e2 p => hr H2 (e.trans e2) _ fun r H3 e3 pr => q _ H3 (e2.trans e3) (.cons (Ll.same e3 p) pr)
theorem el_lst (h : EvA tr σ H (LsA n ds)) (hl : ds.length ≤ 1000) : Ev (tLst tr) σ H (IsLs n ds) := fun H1 e Q q =>
  h H1 e _ fun vs H2 e2 p => ⟨by rw [paired_len p]; exact size_ok (by omega), fun a ha => q _ _ (e2.trans (same_new ha)) ⟨a, vs, rfl, upd_same, hl, Paired.mapP p fun _ _ q => Ll.same (same_new ha) q⟩⟩
theorem el_cat (ha : Ev ta σ H (IsLs n ds)) (hb : Ev tb σ H (IsLs n es)) (hz : ds.length + es.length ≤ 1000) : Ev (tOp rCat ta tb) σ H (IsLs n (ds ++ es)) :=
  ev_op (mono_ls _ _) ha hb fun x y H1 _ ⟨p, xs, h1, h2, _, t1⟩ ⟨p', ys, h1', h2', _, t2⟩ Q q =>
    ⟨p, p', xs, ys, h1, h1', h2, h2', by rw [paired_len t1, paired_len t2]; exact size_ok (by omega), fun l hl => q _ _ (same_new hl) ⟨l, _, rfl, upd_same, by rw [List.length_append]; omega, paired_app (Paired.mapP t1 fun x b q => Ll.same (same_new hl) q) (Paired.mapP t2 fun x b q => Ll.same (same_new hl) q)⟩⟩
theorem el_bl {b : Bool} : Ev (tC (.bl b)) σ H (fun v H => Ll n H v (.bool b)) := fun H1 _ Q q => q _ H1 (Same.refl H1) (ll_bl b n)
theorem el_str {x : Str} : Ev (tC (.str x)) σ H (fun v H => Ll n H v (.str x)) := fun H1 _ Q q => q _ H1 (Same.refl H1) (ll_str x n)
theorem el_in (h : Ev te σ H (IsLs n ds)) : Ev te σ H (fun v H => Ll (n + 1) H v (.list ds)) := h.imp fun _ _ _ p => ls_ll p
theorem ev_vs {i : Nat} {v : V} (h : σ[i]? = some (some v)) (p : IsLs n ds v H) : Ev (tVar i) σ H (IsLs n ds) := ev_vp h (mono_ls n ds) p
/-! calls -/
theorem ev_bkv {b : SBk} (h : Ev te σ H (IsT (bookD b))) (o : BkOk b) : Ev te σ H (fun v H => BookV b v H) := h.imp fun v H1 _ p => bookV_of o.fair p
theorem ev_bk {b : SBk} (h : Ev te σ H (IsT (.tuple ds))) (e : ds = b.map pairD) : Ev te σ H (IsT (bookD b)) := by subst e; exact h
theorem ev_nev {a b : SBk} {r : Bool} (oa : BkOk a) (ob : BkOk b) (un : unitsM a = unitsM b) (hr : subB b a = r) (ha : Ev ta σ H (fun v H => BookV a v H)) (hb : Ev tb σ H (fun v H => BookV b v H)) : Ev (tCall spNever0 [] E0 (tCons ta (tCons tb tNil))) σ H (fun v H => Ll n H v (.bool r)) := fun H1 e Q q =>
  ha H1 e _ fun x H2 e2 px => hb H2 (e.trans e2) _ fun y H3 e3 py => ⟨(a, b), ⟨⟨x, y, rfl, px.same e3, py, oa, ob⟩, un⟩, fun v H4 e4 h => q v H4 ((e2.trans e3).trans e4) (by rw [h, hr]; exact ll_bl r n)⟩
theorem ev_nevK {a b : SBk} {r : Bool} (oa : BkOk a) (ob : BkOk b) (un : unitsM a = unitsM b) (hr : subB b a = r) (hb : Ev tb σ H (fun v H => BookV b v H)) (ha : Ev ta σ H (fun v H => BookV a v H)) :
    Ev (tCallN 0 2 spNever0 (fun _ zs => swap2 zs) E0 tNil (tCons tb (tCons ta tNil))) σ H (fun v H => Ll n H v (.bool r)) := fun H1 e Q q =>
  hb H1 e _ fun y H2 e2 py => ha H2 (e.trans e2) _ fun x H3 e3 px => ⟨rfl, rfl, (a, b), ⟨⟨x, y, rfl, px, py.same e3, oa, ob⟩, un⟩, fun v H4 e4 h => q v H4 ((e2.trans e3).trans e4) (by rw [h, hr]; exact ll_bl r n)⟩
theorem ev_hrd {a b : SBk} (oa : BkOk a) (ob : BkOk b) (un : unitsM a ≠ unitsM b) (ha : Ev ta σ H (fun v H => BookV a v H)) (hb : Ev tb σ H (fun v H => BookV b v H)) : Ev (tCall spHeard [] E0 (tCons ta (tCons tb tNil))) σ H (fun v H => Ll 1 H v (.list heardD)) := fun H1 e Q q =>
  ha H1 e _ fun x H2 e2 px => hb H2 (e.trans e2) _ fun y H3 e3 py => ⟨(a, b), ⟨x, y, rfl, px.same e3, py, oa, ob⟩, fun v H4 e4 h => q v H4 ((e2.trans e3).trans e4) (ll_heard (by
    have h : if unitsM a = unitsM b then v = .bl (subB b a) else IsL heardD v H4 := h
    rw [if_neg un] at h
    exact h))⟩
theorem ev_lists {a : SBk} (ha : Ev ta σ H (fun v H => BookV a v H)) : Ev (tCall spListsB [] E0 (tCons ta tNil)) σ H (fun v H => BookV a v H) := fun H1 e Q q =>
  ha H1 e _ fun x H2 e2 px => ⟨a, ⟨x, rfl, px⟩, fun v H3 e3 h => q v H3 (e2.trans e3) h⟩
theorem ev_k0 {post : Unit → V → Hp → Prop} {P : V → Hp → Prop} (h2 : ∀ v H2, Same H H2 → post () v H2 → P v H2) : Ev (tCall (SpD (fun _ vs _ => vs = []) post) [] E0 tNil) σ H P := ev_kn (PA := fun vs _ => vs = []) ea_nil () (fun vs H1 _ h => h) h2
theorem ev_k10 {post : Unit → V → Hp → Prop} {P : V → Hp → Prop} (h2 : ∀ v H2, Same H H2 → post () v H2 → P v H2) : Ev (tCall (SpD (fun _ vs _ => vs = [.int 10]) post) [] E0 (tCons (tC (.int 10)) tNil)) σ H P := ev_kn (ea_one (ev_c (v := .int 10))) () (fun vs H1 _ ⟨v, h, hv⟩ => by rw [h, hv]) h2
/-- a list of new lists of bools -/
def RB (bs : List Bool) (H0 : Hp) (x : V) (H : Hp) : Prop := ∃ p, x = .ref p ∧ H0 p = none ∧ H p = some (.lst (bs.map V.bl))
theorem nw_rb : Nw RB := ⟨fun _ _ _ _ _ e ⟨p, h1, h2, h3⟩ => ⟨p, h1, h2, e _ _ h3⟩, fun _ _ _ _ D _ hD ⟨p, h1, h2, h3⟩ => ⟨p, h1, h2, by rw [upd_ne (fun z => hD (by rw [← z]; exact h2))]; exact h3⟩, fun _ _ _ _ _ w ⟨p, h1, h2, h3⟩ => ⟨p, h1, w _ h2, h3⟩⟩
def RB1 (b : Bool) (_ : Hp) (x : V) (_ : Hp) : Prop := x = .bl b
theorem nw_rb1 : Nw RB1 := ⟨fun _ _ _ _ _ _ h => h, fun _ _ _ _ _ _ _ h => h, fun _ _ _ _ _ _ h => h⟩
theorem rb_of {bs : List Bool} {H0 : Hp} {v : V} {H : Hp} (h : IsNL RB1 bs H0 v H) : RB bs H0 v H := by
  obtain ⟨p, xs, h1, h2, h3, h4⟩ := h
  refine ⟨p, h1, h2, ?_⟩
  rw [h3]
  congr 2
  clear h3
  induction h4 with
  | nil => rfl
  | cons r _ ih => rw [List.map_cons, ← ih]; exact congrArg (· :: _) r
theorem ll_rb {bs : List Bool} {H0 H : Hp} {v : V} (h : RB bs H0 v H) (hl : bs.length ≤ 1000) : Ll 1 H v (.list (bs.map .bool)) := by
  obtain ⟨p, h1, _, h3⟩ := h
  refine .inr ⟨p, _, _, h1, h3, rfl, by rw [List.length_map]; exact hl, ?_⟩
  clear h3 hl
  induction bs with
  | nil => exact .nil
  | cons b bs ih => exact .cons (.inl ⟨b, rfl, rfl⟩) ih
theorem ls_rb {rows : List (List Bool)} {H0 H : Hp} {v : V} (h : IsNL RB rows H0 v H) (hr : rows.length ≤ 1000) (hl : ∀ r ∈ rows, r.length ≤ 1000) : IsLs 1 (rows.map fun r => .list (r.map .bool)) v H := by
  obtain ⟨p, xs, h1, _, h3, h4⟩ := h
  refine ⟨p, xs, h1, h3, by rw [List.length_map]; exact hr, ?_⟩
  clear h3 hr
  induction h4 with
  | nil => exact .nil
  | cons r _ ih => exact .cons (ll_rb r (hl _ List.mem_cons_self)) (ih fun r hr => hl r (List.mem_cons_of_mem _ hr))
end
end Up
end
section
set_option Elab.async false
set_option linter.all false
set_option maxRecDepth 100000
set_option maxHeartbeats 4000000
/-! What _law_by_hand_right asks of its books; its first comprehension. -/
namespace Up
open PySem PySem.Spec PyProof.Rows L2
def emptyB : SBk := []
def someB : List SBk := [kitB, slowB, fastB]
theorem ok_kitB : BkOk kitB := ok_of (by decide +kernel)
theorem ok_slowB : BkOk slowB := ok_of (by decide +kernel)
theorem ok_fastB : BkOk fastB := ok_of (by decide +kernel)
theorem ok_wideB : BkOk wideB := ok_of (by decide +kernel)
theorem ok_leftB : BkOk leftB := ok_of (by decide +kernel)
theorem ok_rightB : BkOk rightB := ok_of (by decide +kernel)
theorem ok_bothB : BkOk bothB := ok_of (by decide +kernel)
theorem ok_x0B : BkOk x0B := ok_of (by decide +kernel)
theorem ok_x1B : BkOk x1B := ok_of (by decide +kernel)
theorem ok_nearB : BkOk nearB := ok_of (by decide +kernel)
theorem ok_farB : BkOk farB := ok_of (by decide +kernel)
theorem ok_rowB : BkOk rowB := ok_of (by decide +kernel)
theorem ok_freeB : BkOk freeB := ok_of (by decide +kernel)
theorem ok_headB : BkOk headB := ok_of (by decide +kernel)
theorem ok_emptyB : BkOk emptyB := ok_of (by decide +kernel)
def rowsB : List (List Bool) := [[true, true, false], [false, true, false], [true, true, true]]
def gotD1 : List PyData := rowsB.map fun r => .list (r.map .bool)
theorem rows_eq : (someB.map fun near => someB.map fun m => subB m near) = rowsB := by
  show [[subB kitB kitB, subB slowB kitB, subB fastB kitB], [subB kitB slowB, subB slowB slowB, subB fastB slowB], [subB kitB fastB, subB slowB fastB, subB fastB fastB]] = rowsB
  rw [r_self, r_self, r_self, r_slow_kit, r_fast_kit, r_kit_slow, r_fast_slow, r_kit_fast, r_slow_fast]
  rfl
def dueD : List PyData := gotD1 ++ [.bool true, .bool true, .bool false, .bool false, .bool true, .bool false, .bool true, .bool false, .bool true, .bool true, .bool true, .bool false, .list heardD, .list heardD, .list heardD, .bool true, .bool false]
theorem next_r2 {A : TS} {D : Ends} {r : VK} {b c : L2.St → Hp → Prop} {σ : L2.St} {H : Hp} (h : A D σ H) : Ends.nx { nx := A D, rt := r, bk := b, ct := c } σ H := h
section
variable {K : PySem.W.Frag} {H : Hp}
theorem ev_matrix {x0 x1 x2 x3 : V} (hx : IsL (someB.map bookD) x3 H) :
    Ev (tLc (iList K (tVar 3)) (gName 6) tYes (tLc (iList K (tVar 3)) (gName 5) tYes (tCall spNever0 [] E0 (tCons (tVar 6) (tCons (tVar 5) tNil))) [5]) [6]) [some x0, some x1, some x2, some x3, none, none, none, none, none, none, none, none, none, none] H (IsLs 1 gotD1) := by
  have sok : ∀ b ∈ someB, BkOk b := fun b hb => ok_of ((show ∀ b ∈ someB, okC b = true by decide +kernel) b hb)
  have sun : ∀ a ∈ someB, ∀ b ∈ someB, unitsM a = unitsM b := by decide +kernel
  have outer := ev_lcN (te := tLc (iList K (tVar 3)) (gName 5) tYes (tCall spNever0 [] E0 (tCons (tVar 6) (tCons (tVar 5) tNil))) [5]) (g := gName 6) (vs := [6]) nw_rb (src_map bookD (src_lst (K := K) (te := tVar 3) (ds := someB.map bookD) (σ := [some x0, some x1, some x2, some x3, none, none, none, none, none, none, none, none, none, none]) (ev_vp (i := 3) (v := x3) rfl (mono_l _) hx))) (fun near => someB.map fun m => subB m near) (by decide) fun near hn x H1 e hx1 C c => by
    refine c [some x0, some x1, some x2, some x3, none, none, some x, none, none, none, none, none, none, none] _ (Same.refl _) rfl ?_
    have inner := ev_lcN (te := tCall spNever0 [] E0 (tCons (tVar 6) (tCons (tVar 5) tNil))) (g := gName 5) (vs := [5]) nw_rb1 (src_map bookD (src_lst (K := K) (te := tVar 3) (ds := someB.map bookD) (σ := [some x0, some x1, some x2, some x3, none, none, some x, none, none, none, none, none, none, none]) (ev_vp (i := 3) (v := x3) rfl (mono_l _) (mono_l _ _ _ _ e hx)))) (fun m => subB m near) (by decide) fun m hm y H2 e2 hy C c => by
      refine c [some x0, some x1, some x2, some x3, none, some y, some x, none, none, none, none, none, none, none] _ (Same.refl _) rfl ?_
      intro H3 e3 Q q
      exact ⟨x, rfl, y, rfl, (near, m), ⟨⟨x, y, rfl, bookV_of (sok near hn).fair (hx1.same (e2.trans e3)), bookV_of (sok m hm).fair (hy.same e3), sok near hn, sok m hm⟩, sun near hn m hm⟩, q⟩
    exact inner.imp fun H0 v H1 h => rb_of h
  rw [rows_eq] at outer
  exact fun H1 e Q q => outer H1 e Q fun v H2 e2 p => q v H2 e2 (ls_rb p (by decide) (by decide))
end
end Up
end
section
set_option Elab.async false
set_option linter.all false
set_option maxRecDepth 100000
set_option maxHeartbeats 0
/-! _law_by_hand_right (printed by gen_hand.py). -/
namespace Up
open PySem PySem.Spec PyProof.Rows L2
section
variable {P : Program} {w : World} {K : PySem.W.Frag} {mg : Str → Option Value} {base : Heap} {B C : Addr}
theorem k_hand (T : Txt K mg) (TX : TxtX K mg C) (D : DfT K mg B) : Kn P w K mg base CX0 13 "_law_by_hand_right" spHand := by
  obtain ⟨fN, fdN, hmN, FuN, hbN0⟩ := T.d_never_later.ex
  have FN := ok_never0 (P := P) (w := w) (base := base) T TX D FuN
  have hkN := FuN.kp
  have hbN := kbn_never FuN
  have GN : Kn P w K mg base CX0 10 "never_later" spNever0 := ⟨fN, fdN, _, FN, hmN, hkN, hbN0⟩
  have GH := k_heard (P := P) (w := w) (base := base) T TX D
  have GL := k_listsB (P := P) (w := w) (base := base) T
  have GF := k_free (P := P) (w := w) (base := base) T
  have GR := k_rowk (P := P) (w := w) (base := base) T
  have GS := k_lsame (P := P) (w := w) (base := base) T 2
  have GK := k_kit (P := P) (w := w) (base := base) T
  refine T.d_law_by_hand_right.kn c_law_by_hand_right (fun vs H Q E h => ?_) (fun f cdv A outer s H vs Q E hr h => ?_)
  · obtain ⟨_, rfl, _⟩ := h
    rfl
  · obtain ⟨_, rfl, q⟩ := h
    have s0 := Same.refl H
    refine ⟨_, pss_cons (ps_asg (pe_kn0 GK (hr.mono (by decide)) pass0) (pgn 0 c_law_by_hand_right.nd))
      (pss_cons (ps_asg (pe_op op_catA (pe_slice sl_tupA (pv 0) po_none (po_some pe_int)) (pe_tup (pa_cons (pe_tup (pa_cons pe_str (pa_cons (pe_tup (pa_cons (pe_tup (pa_cons pe_str pa_nil)) pa_nil)) pa_nil))) (pa_cons (pe_tup (pa_cons pe_str (pa_cons (pe_tup pa_nil) pa_nil))) pa_nil)))) (pgn 1 c_law_by_hand_right.nd))
      (pss_cons (ps_asg (pe_op op_catA (pe_slice sl_tupA (pv 0) po_none (po_some pe_int)) (pe_tup (pa_cons (pe_tup (pa_cons pe_str (pa_cons (pe_tup (pa_cons (pe_tup (pa_cons pe_str pa_nil)) (pa_cons (pe_tup (pa_cons pe_str (pa_cons pe_str pa_nil))) (pa_cons (pe_tup (pa_cons pe_str pa_nil)) pa_nil)))) pa_nil))) (pa_cons (pe_tup (pa_cons pe_str (pa_cons (pe_tup (pa_cons (pe_tup (pa_cons pe_str pa_nil)) pa_nil)) pa_nil))) pa_nil)))) (pgn 2 c_law_by_hand_right.nd))
      (pss_cons (ps_asg (pe_lst (pa_cons (pv 0) (pa_cons (pv 1) (pa_cons (pv 2) pa_nil)))) (pgn 3 c_law_by_hand_right.nd))
      (pss_cons (ps_setLc (own := [("_law_near_so", 6)]) (g := gName 6) (i := 4) (by rfl) c_law_by_hand_right.nd (by rfl) (by rfl) (sw_true rfl rfl rfl (by decide +kernel)) (pi_list (pv 3)) (blkOk_by (N := ["_law_kit_here", "_law_slow", "_law_fast", "_law_some", "_law_got", "_law_mate_so", "_law_near_so", "_law_due_here", "_law_wide", "_law_left", "_law_right_here", "_law_both", "_law_near", "_law_far"]) (sc := defScope s_law_by_hand_right) (by decide +kernel)) (fun _ _ _ _ _ => pgn 6 c_law_by_hand_right.nd) (fun _ _ _ _ _ => pts_nil) (fun _ _ _ _ _ => pe_lc (own := [("_law_mate_so", 5)]) (g := gName 5) (by rfl) c_law_by_hand_right.nd (pi_lstK (K := K) (by rfl) (pv 3)) (blkOk_by (N := ["_law_kit_here", "_law_slow", "_law_fast", "_law_some", "_law_got", "_law_mate_so", "_law_near_so", "_law_due_here", "_law_wide", "_law_left", "_law_right_here", "_law_both", "_law_near", "_law_far"]) (sc := relS _ (defScope s_law_by_hand_right)) (by decide +kernel)) (fun _ _ _ _ _ => pgn 5 c_law_by_hand_right.nd) (fun _ _ _ _ _ => pts_nil) (fun _ _ _ _ _ => pe_kn GN (hr.mono (by decide)) pass0 (pa_cons (pv 6) (pa_cons (pv 5) pa_nil)))))
      (pss_cons (ps_asg (pe_lst (pa_cons (pe_lst (pa_cons pe_bl (pa_cons pe_bl (pa_cons pe_bl pa_nil)))) (pa_cons (pe_lst (pa_cons pe_bl (pa_cons pe_bl (pa_cons pe_bl pa_nil)))) (pa_cons (pe_lst (pa_cons pe_bl (pa_cons pe_bl (pa_cons pe_bl pa_nil)))) pa_nil)))) (pgn 7 c_law_by_hand_right.nd))
      (pss_cons (ps_asg (pe_op op_catA (pe_op op_catA (pe_op op_catA (pe_slice sl_tupA (pv 0) po_none (po_some pe_int)) (pe_tup (pa_cons (pe_tup (pa_cons pe_str (pa_cons (pe_tup (pa_cons (pe_tup (pa_cons pe_str pa_nil)) (pa_cons (pe_tup (pa_cons pe_str (pa_cons pe_str pa_nil))) (pa_cons (pe_tup (pa_cons pe_str pa_nil)) pa_nil)))) pa_nil))) pa_nil))) (pe_slice sl_tupA (pv 0) (po_some pe_int) (po_some pe_int))) (pe_tup (pa_cons (pe_tup (pa_cons pe_str (pa_cons (pe_tup (pa_cons (pe_tup (pa_cons pe_str pa_nil)) pa_nil)) pa_nil))) pa_nil))) (pgn 8 c_law_by_hand_right.nd))
      (pss_cons (ps_asg (pe_tup (pa_cons (pe_tup (pa_cons (pe_tup (pa_cons pe_str (pa_cons (pe_tup (pa_cons (pe_tup pa_nil) pa_nil)) pa_nil))) (pa_cons (pe_tup (pa_cons pe_str (pa_cons (pe_tup (pa_cons (pe_tup (pa_cons pe_str pa_nil)) pa_nil)) pa_nil))) pa_nil))) (pa_cons (pe_tup (pa_cons (pe_tup (pa_cons pe_str (pa_cons (pe_tup (pa_cons (pe_tup (pa_cons pe_str pa_nil)) pa_nil)) pa_nil))) (pa_cons (pe_tup (pa_cons pe_str (pa_cons (pe_tup (pa_cons (pe_tup pa_nil) pa_nil)) pa_nil))) pa_nil))) pa_nil))) (pg_tup rfl (pgs_cons (pgn 9 c_law_by_hand_right.nd) (pgs_cons (pgn 10 c_law_by_hand_right.nd) pgs_nil))))
      (pss_cons (ps_asg (pe_tup (pa_cons (pe_tup (pa_cons pe_str (pa_cons (pe_tup (pa_cons (pe_tup pa_nil) pa_nil)) pa_nil))) (pa_cons (pe_tup (pa_cons pe_str (pa_cons (pe_tup (pa_cons (pe_tup pa_nil) pa_nil)) pa_nil))) pa_nil))) (pgn 11 c_law_by_hand_right.nd))
      (pss_cons (ps_asg (pe_op op_cat (pv 4) (pe_lst (pa_cons (pe_kn GN (hr.mono (by decide)) pass0 (pa_cons (pv 0) (pa_cons (pv 8) pa_nil))) (pa_cons (pe_kn GN (hr.mono (by decide)) pass0 (pa_cons (pv 8) (pa_cons (pv 0) pa_nil))) (pa_cons (pe_kn GN (hr.mono (by decide)) pass0 (pa_cons (pv 9) (pa_cons (pv 10) pa_nil))) pa_nil))))) (pgn 4 c_law_by_hand_right.nd))
      (pss_cons (ps_asg (pe_op op_cat (pv 4) (pe_lst (pa_cons (pe_kn GN (hr.mono (by decide)) pass0 (pa_cons (pv 10) (pa_cons (pv 9) pa_nil))) pa_nil))) (pgn 4 c_law_by_hand_right.nd))
      (pss_cons (ps_asg (pe_op op_cat (pv 7) (pe_lst (pa_cons pe_bl (pa_cons pe_bl (pa_cons pe_bl (pa_cons pe_bl pa_nil)))))) (pgn 7 c_law_by_hand_right.nd))
      (pss_cons (ps_asg (pe_op op_cat (pv 4) (pe_lst (pa_cons (pe_kn GN (hr.mono (by decide)) pass0 (pa_cons (pv 11) (pa_cons (pv 9) pa_nil))) (pa_cons (pe_kn GN (hr.mono (by decide)) pass0 (pa_cons (pv 9) (pa_cons (pv 11) pa_nil))) (pa_cons (pe_kn GN (hr.mono (by decide)) pass0 (pa_cons (pe_tup pa_nil) (pa_cons (pe_tup pa_nil) pa_nil))) pa_nil))))) (pgn 4 c_law_by_hand_right.nd))
      (pss_cons (ps_asg (pe_op op_cat (pv 4) (pe_lst (pa_cons (pe_kn GN (hr.mono (by decide)) pass0 (pa_cons (pe_tup (pa_cons (pe_tup (pa_cons pe_str (pa_cons (pe_tup pa_nil) pa_nil))) pa_nil)) (pa_cons (pe_tup (pa_cons (pe_tup (pa_cons pe_str (pa_cons (pe_tup (pa_cons (pe_tup pa_nil) pa_nil)) pa_nil))) pa_nil)) pa_nil))) pa_nil))) (pgn 4 c_law_by_hand_right.nd))
      (pss_cons (ps_asg (pe_op op_cat (pv 7) (pe_lst (pa_cons pe_bl (pa_cons pe_bl (pa_cons pe_bl (pa_cons pe_bl pa_nil)))))) (pgn 7 c_law_by_hand_right.nd))
      (pss_cons (ps_asg (pe_tup (pa_cons (pe_tup (pa_cons pe_str (pa_cons (pe_tup (pa_cons (pe_tup pa_nil) pa_nil)) pa_nil))) (pa_cons (pe_tup (pa_cons pe_str (pa_cons (pe_tup (pa_cons (pe_tup (pa_cons pe_str pa_nil)) pa_nil)) pa_nil))) (pa_cons (pe_tup (pa_cons pe_str (pa_cons (pe_tup (pa_cons (pe_tup (pa_cons pe_str pa_nil)) pa_nil)) pa_nil))) pa_nil)))) (pgn 12 c_law_by_hand_right.nd))
      (pss_cons (ps_asg (pe_tup (pa_cons (pe_tup (pa_cons pe_str (pa_cons (pe_tup (pa_cons (pe_tup pa_nil) pa_nil)) pa_nil))) (pa_cons (pe_tup (pa_cons pe_str (pa_cons (pe_tup (pa_cons (pe_tup (pa_cons pe_str pa_nil)) pa_nil)) pa_nil))) (pa_cons (pe_tup (pa_cons pe_str (pa_cons (pe_tup (pa_cons (pe_tup (pa_cons pe_str (pa_cons pe_str pa_nil))) pa_nil)) pa_nil))) pa_nil)))) (pgn 13 c_law_by_hand_right.nd))
      (pss_cons (ps_asg (pe_op op_cat (pv 4) (pe_lst (pa_cons (pe_kn GN (hr.mono (by decide)) pass0 (pa_cons (pv 12) (pa_cons (pv 13) pa_nil))) (pa_cons (pe_kn GN (hr.mono (by decide)) pass0 (pa_cons (pv 13) (pa_cons (pv 12) pa_nil))) pa_nil)))) (pgn 4 c_law_by_hand_right.nd))
      (pss_cons (ps_asg (pe_op op_cat (pv 4) (pe_lst (pa_cons (pe_kn GN (hr.mono (by decide)) pass0 (pa_cons (pe_kn GF (hr.mono (by decide)) pass0 (pa_cons pe_int pa_nil)) (pa_cons (pe_kn GR (hr.mono (by decide)) pass0 (pa_cons pe_int pa_nil)) pa_nil))) pa_nil))) (pgn 4 c_law_by_hand_right.nd))
      (pss_cons (ps_asg (pe_op op_cat (pv 4) (pe_lst (pa_cons (pe_kn GN (hr.mono (by decide)) pass0 (pa_cons (pe_kn GR (hr.mono (by decide)) pass0 (pa_cons pe_int pa_nil)) (pa_cons (pe_kn GF (hr.mono (by decide)) pass0 (pa_cons pe_int pa_nil)) pa_nil))) (pa_cons (pe_kn GH (hr.mono (by decide)) pass0 (pa_cons (pv 0) (pa_cons (pe_slice sl_tupA (pv 0) po_none (po_some pe_int)) pa_nil))) pa_nil)))) (pgn 4 c_law_by_hand_right.nd))
      (pss_cons (ps_asg (pe_op op_cat (pv 4) (pe_lst (pa_cons (pe_kn GH (hr.mono (by decide)) pass0 (pa_cons (pe_tup pa_nil) (pa_cons (pv 11) pa_nil))) (pa_cons (pe_kn GH (hr.mono (by decide)) pass0 (pa_cons (pv 9) (pa_cons (pv 12) pa_nil))) pa_nil)))) (pgn 4 c_law_by_hand_right.nd))
      (pss_cons (ps_asg (pe_op op_cat (pv 7) (pe_lst (pa_cons pe_bl (pa_cons pe_bl (pa_cons pe_bl (pa_cons pe_bl (pa_cons (pe_lst (pa_cons pe_str (pa_cons pe_bl pa_nil))) (pa_cons (pe_lst (pa_cons pe_str (pa_cons pe_bl pa_nil))) (pa_cons (pe_lst (pa_cons pe_str (pa_cons pe_bl pa_nil))) pa_nil))))))))) (pgn 7 c_law_by_hand_right.nd))
      (pss_cons (ps_asg (pe_op op_cat (pv 4) (pe_lst (pa_cons (pe_callK0 FN (hr.mono (by decide)) (by rfl) hmN hkN hbN pass0 (pk_cons (pe_kn GL (hr.mono (by decide)) pass0 (pa_cons (pv 1) pa_nil)) (pk_cons (pe_kn GL (hr.mono (by decide)) pass0 (pa_cons (pv 0) pa_nil)) pk_nil))) pa_nil))) (pgn 4 c_law_by_hand_right.nd))
      (pss_cons (ps_asg (pe_op op_cat (pv 4) (pe_lst (pa_cons (pe_callK0 FN (hr.mono (by decide)) (by rfl) hmN hkN hbN pass0 (pk_cons (pv 0) (pk_cons (pe_kn GL (hr.mono (by decide)) pass0 (pa_cons (pv 1) pa_nil)) pk_nil))) pa_nil))) (pgn 4 c_law_by_hand_right.nd))
      (pss_one (ps_ret (pe_kn GS (hr.mono (by decide)) pass0 (pa_cons (pv 4) (pa_cons (pe_op op_cat (pv 7) (pe_lst (pa_cons pe_bl (pa_cons pe_bl pa_nil)))) pa_nil)))))))))))))))))))))))))))), ?_⟩
    refine q_set (P := IsT (bookD kitB)) (ev_k0 fun v H2 _ h => h) fun x0 H1 e1 n0 => ?_
    replace s0 := s0.trans e1
    have h0 := n0
    show tSeq _ _ _ [some x0, none, none, none, none, none, none, none, none, none, none, none, none, none] _
    refine q_set (P := IsT (bookD slowB)) (ev_bk (ev_catT (K := K) (ev_slT (K := K) (ds := kitB.map pairD) (ev_vt (i := 0) (v := x0) (d := bookD kitB) rfl h0) eo_none (eo_some (ev_c (v := .int 3))) (part_to _ 3)) (ev_tup (ts_cons (ev_tup (ts_cons ev_str (ts_cons (ev_tup (ts_cons (ev_tup (ts_cons ev_str ts_nil) (by show 1 ≤ 100000; decide)) ts_nil) (by show 1 ≤ 100000; decide)) ts_nil)) (by show 2 ≤ 100000; decide)) (ts_cons (ev_tup (ts_cons ev_str (ts_cons (ev_tup ts_nil (by show 0 ≤ 100000; decide)) ts_nil)) (by show 2 ≤ 100000; decide)) ts_nil)) (by show 2 ≤ 100000; decide)) (by decide +kernel)) (by rfl)) fun x1 H2 e2 n1 => ?_
    replace h0 := h0.same e2
    replace s0 := s0.trans e2
    have h1 := n1
    show tSeq _ _ _ [some x0, some x1, none, none, none, none, none, none, none, none, none, none, none, none] _
    refine q_set (P := IsT (bookD fastB)) (ev_bk (ev_catT (K := K) (ev_slT (K := K) (ds := kitB.map pairD) (ev_vt (i := 0) (v := x0) (d := bookD kitB) rfl h0) eo_none (eo_some (ev_c (v := .int 3))) (part_to _ 3)) (ev_tup (ts_cons (ev_tup (ts_cons ev_str (ts_cons (ev_tup (ts_cons (ev_tup (ts_cons ev_str ts_nil) (by show 1 ≤ 100000; decide)) (ts_cons (ev_tup (ts_cons ev_str (ts_cons ev_str ts_nil)) (by show 2 ≤ 100000; decide)) (ts_cons (ev_tup (ts_cons ev_str ts_nil) (by show 1 ≤ 100000; decide)) ts_nil))) (by show 3 ≤ 100000; decide)) ts_nil)) (by show 2 ≤ 100000; decide)) (ts_cons (ev_tup (ts_cons ev_str (ts_cons (ev_tup (ts_cons (ev_tup (ts_cons ev_str ts_nil) (by show 1 ≤ 100000; decide)) ts_nil) (by show 1 ≤ 100000; decide)) ts_nil)) (by show 2 ≤ 100000; decide)) ts_nil)) (by show 2 ≤ 100000; decide)) (by decide +kernel)) (by rfl)) fun x2 H3 e3 n2 => ?_
    replace h0 := h0.same e3
    replace h1 := h1.same e3
    replace s0 := s0.trans e3
    have h2 := n2
    show tSeq _ _ _ [some x0, some x1, some x2, none, none, none, none, none, none, none, none, none, none, none] _
    refine q_set (P := IsL (someB.map bookD)) (ev_lst (ts_cons (ev_vt (i := 0) (v := x0) (d := bookD kitB) rfl h0) (ts_cons (ev_vt (i := 1) (v := x1) (d := bookD slowB) rfl h1) (ts_cons (ev_vt (i := 2) (v := x2) (d := bookD fastB) rfl h2) ts_nil))) (by show 3 ≤ 100000; decide)) fun x3 H4 e4 n3 => ?_
    replace h0 := h0.same e4
    replace h1 := h1.same e4
    replace h2 := h2.same e4
    replace s0 := s0.trans e4
    have h3 := n3
    show tSeq _ _ _ [some x0, some x1, some x2, some x3, none, none, none, none, none, none, none, none, none, none] _
    refine q_set (P := IsLs 1 gotD1) (ev_matrix h3) fun x4 H5 e5 n4 => ?_
    replace h0 := h0.same e5
    replace h1 := h1.same e5
    replace h2 := h2.same e5
    replace h3 := mono_l _ _ _ _ e5 h3
    replace s0 := s0.trans e5
    have h4 := n4
    show tSeq _ _ _ [some x0, some x1, some x2, some x3, some x4, none, none, none, none, none, none, none, none, none] _
    refine q_set (P := IsLs 1 _) (el_lst (la_cons (el_in (el_lst (la_cons el_bl (la_cons el_bl (la_cons el_bl la_nil))) (by show 3 ≤ 1000; decide))) (la_cons (el_in (el_lst (la_cons el_bl (la_cons el_bl (la_cons el_bl la_nil))) (by show 3 ≤ 1000; decide))) (la_cons (el_in (el_lst (la_cons el_bl (la_cons el_bl (la_cons el_bl la_nil))) (by show 3 ≤ 1000; decide))) la_nil))) (by show 3 ≤ 1000; decide)) fun x7 H6 e6 n7 => ?_
    replace h0 := h0.same e6
    replace h1 := h1.same e6
    replace h2 := h2.same e6
    replace h3 := mono_l _ _ _ _ e6 h3
    replace h4 := mono_ls _ _ _ _ _ e6 h4
    replace s0 := s0.trans e6
    have h7 := n7
    show tSeq _ _ _ [some x0, some x1, some x2, some x3, some x4, none, none, some x7, none, none, none, none, none, none] _
    refine q_set (P := IsT (bookD wideB)) (ev_bk (ev_catT (K := K) (ev_catT (K := K) (ev_catT (K := K) (ev_slT (K := K) (ds := kitB.map pairD) (ev_vt (i := 0) (v := x0) (d := bookD kitB) rfl h0) eo_none (eo_some (ev_c (v := .int 2))) (part_to _ 2)) (ev_tup (ts_cons (ev_tup (ts_cons ev_str (ts_cons (ev_tup (ts_cons (ev_tup (ts_cons ev_str ts_nil) (by show 1 ≤ 100000; decide)) (ts_cons (ev_tup (ts_cons ev_str (ts_cons ev_str ts_nil)) (by show 2 ≤ 100000; decide)) (ts_cons (ev_tup (ts_cons ev_str ts_nil) (by show 1 ≤ 100000; decide)) ts_nil))) (by show 3 ≤ 100000; decide)) ts_nil)) (by show 2 ≤ 100000; decide)) ts_nil) (by show 1 ≤ 100000; decide)) (by decide +kernel)) (ev_slT (K := K) (ds := kitB.map pairD) (ev_vt (i := 0) (v := x0) (d := bookD kitB) rfl h0) (eo_some (ev_c (v := .int 3))) (eo_some (ev_c (v := .int 4))) (part_fr _ 3 4)) (by decide +kernel)) (ev_tup (ts_cons (ev_tup (ts_cons ev_str (ts_cons (ev_tup (ts_cons (ev_tup (ts_cons ev_str ts_nil) (by show 1 ≤ 100000; decide)) ts_nil) (by show 1 ≤ 100000; decide)) ts_nil)) (by show 2 ≤ 100000; decide)) ts_nil) (by show 1 ≤ 100000; decide)) (by decide +kernel)) (by rfl)) fun x8 H7 e7 n8 => ?_
    replace h0 := h0.same e7
    replace h1 := h1.same e7
    replace h2 := h2.same e7
    replace h3 := mono_l _ _ _ _ e7 h3
    replace h4 := mono_ls _ _ _ _ _ e7 h4
    replace h7 := mono_ls _ _ _ _ _ e7 h7
    replace s0 := s0.trans e7
    have h8 := n8
    show tSeq _ _ _ [some x0, some x1, some x2, some x3, some x4, none, none, some x7, some x8, none, none, none, none, none] _
    refine s_tup2 (K := K) (P1 := IsT (bookD leftB)) (P2 := IsT (bookD rightB)) (mono_t _) (mono_t _) (ev_bk (ev_tup (ts_cons (ev_tup (ts_cons ev_str (ts_cons (ev_tup (ts_cons (ev_tup ts_nil (by show 0 ≤ 100000; decide)) ts_nil) (by show 1 ≤ 100000; decide)) ts_nil)) (by show 2 ≤ 100000; decide)) (ts_cons (ev_tup (ts_cons ev_str (ts_cons (ev_tup (ts_cons (ev_tup (ts_cons ev_str ts_nil) (by show 1 ≤ 100000; decide)) ts_nil) (by show 1 ≤ 100000; decide)) ts_nil)) (by show 2 ≤ 100000; decide)) ts_nil)) (by show 2 ≤ 100000; decide)) (by rfl)) (ev_bk (ev_tup (ts_cons (ev_tup (ts_cons ev_str (ts_cons (ev_tup (ts_cons (ev_tup (ts_cons ev_str ts_nil) (by show 1 ≤ 100000; decide)) ts_nil) (by show 1 ≤ 100000; decide)) ts_nil)) (by show 2 ≤ 100000; decide)) (ts_cons (ev_tup (ts_cons ev_str (ts_cons (ev_tup (ts_cons (ev_tup ts_nil (by show 0 ≤ 100000; decide)) ts_nil) (by show 1 ≤ 100000; decide)) ts_nil)) (by show 2 ≤ 100000; decide)) ts_nil)) (by show 2 ≤ 100000; decide)) (by rfl)) fun x9 x10 H8 e8 n9 n10 => ?_
    replace h0 := h0.same e8
    replace h1 := h1.same e8
    replace h2 := h2.same e8
    replace h3 := mono_l _ _ _ _ e8 h3
    replace h4 := mono_ls _ _ _ _ _ e8 h4
    replace h7 := mono_ls _ _ _ _ _ e8 h7
    replace h8 := h8.same e8
    replace s0 := s0.trans e8
    have h9 := n9
    have h10 := n10
    show tSeq _ _ _ [some x0, some x1, some x2, some x3, some x4, none, none, some x7, some x8, some x9, some x10, none, none, none] _
    refine q_set (P := IsT (bookD bothB)) (ev_bk (ev_tup (ts_cons (ev_tup (ts_cons ev_str (ts_cons (ev_tup (ts_cons (ev_tup ts_nil (by show 0 ≤ 100000; decide)) ts_nil) (by show 1 ≤ 100000; decide)) ts_nil)) (by show 2 ≤ 100000; decide)) (ts_cons (ev_tup (ts_cons ev_str (ts_cons (ev_tup (ts_cons (ev_tup ts_nil (by show 0 ≤ 100000; decide)) ts_nil) (by show 1 ≤ 100000; decide)) ts_nil)) (by show 2 ≤ 100000; decide)) ts_nil)) (by show 2 ≤ 100000; decide)) (by rfl)) fun x11 H9 e9 n11 => ?_
    replace h0 := h0.same e9
    replace h1 := h1.same e9
    replace h2 := h2.same e9
    replace h3 := mono_l _ _ _ _ e9 h3
    replace h4 := mono_ls _ _ _ _ _ e9 h4
    replace h7 := mono_ls _ _ _ _ _ e9 h7
    replace h8 := h8.same e9
    replace h9 := h9.same e9
    replace h10 := h10.same e9
    replace s0 := s0.trans e9
    have h11 := n11
    show tSeq _ _ _ [some x0, some x1, some x2, some x3, some x4, none, none, some x7, some x8, some x9, some x10, some x11, none, none] _
    refine q_set (P := IsLs 1 _) (el_cat (ev_vs (i := 4) (v := x4) rfl h4) (el_lst (la_cons (ev_nev (a := kitB) (b := wideB) (r := true) ok_kitB ok_wideB (by decide +kernel) r_wide_kit (ev_bkv (b := kitB) (ev_vt (i := 0) (v := x0) (d := bookD kitB) rfl h0) ok_kitB) (ev_bkv (b := wideB) (ev_vt (i := 8) (v := x8) (d := bookD wideB) rfl h8) ok_wideB)) (la_cons (ev_nev (a := wideB) (b := kitB) (r := true) ok_wideB ok_kitB (by decide +kernel) r_kit_wide (ev_bkv (b := wideB) (ev_vt (i := 8) (v := x8) (d := bookD wideB) rfl h8) ok_wideB) (ev_bkv (b := kitB) (ev_vt (i := 0) (v := x0) (d := bookD kitB) rfl h0) ok_kitB)) (la_cons (ev_nev (a := leftB) (b := rightB) (r := false) ok_leftB ok_rightB (by decide +kernel) r_right_left (ev_bkv (b := leftB) (ev_vt (i := 9) (v := x9) (d := bookD leftB) rfl h9) ok_leftB) (ev_bkv (b := rightB) (ev_vt (i := 10) (v := x10) (d := bookD rightB) rfl h10) ok_rightB)) la_nil))) (by show 3 ≤ 1000; decide)) (by decide +kernel)) fun x4 H10 e10 n4 => ?_
    replace h0 := h0.same e10
    replace h1 := h1.same e10
    replace h2 := h2.same e10
    replace h3 := mono_l _ _ _ _ e10 h3
    replace h7 := mono_ls _ _ _ _ _ e10 h7
    replace h8 := h8.same e10
    replace h9 := h9.same e10
    replace h10 := h10.same e10
    replace h11 := h11.same e10
    replace s0 := s0.trans e10
    replace h4 := n4
    show tSeq _ _ _ [some x0, some x1, some x2, some x3, some x4, none, none, some x7, some x8, some x9, some x10, some x11, none, none] _
    refine q_set (P := IsLs 1 _) (el_cat (ev_vs (i := 4) (v := x4) rfl h4) (el_lst (la_cons (ev_nev (a := rightB) (b := leftB) (r := false) ok_rightB ok_leftB (by decide +kernel) r_left_right (ev_bkv (b := rightB) (ev_vt (i := 10) (v := x10) (d := bookD rightB) rfl h10) ok_rightB) (ev_bkv (b := leftB) (ev_vt (i := 9) (v := x9) (d := bookD leftB) rfl h9) ok_leftB)) la_nil) (by show 1 ≤ 1000; decide)) (by decide +kernel)) fun x4 H11 e11 n4 => ?_
    replace h0 := h0.same e11
    replace h1 := h1.same e11
    replace h2 := h2.same e11
    replace h3 := mono_l _ _ _ _ e11 h3
    replace h7 := mono_ls _ _ _ _ _ e11 h7
    replace h8 := h8.same e11
    replace h9 := h9.same e11
    replace h10 := h10.same e11
    replace h11 := h11.same e11
    replace s0 := s0.trans e11
    replace h4 := n4
    show tSeq _ _ _ [some x0, some x1, some x2, some x3, some x4, none, none, some x7, some x8, some x9, some x10, some x11, none, none] _
    refine q_set (P := IsLs 1 _) (el_cat (ev_vs (i := 7) (v := x7) rfl h7) (el_lst (la_cons el_bl (la_cons el_bl (la_cons el_bl (la_cons el_bl la_nil)))) (by show 4 ≤ 1000; decide)) (by decide +kernel)) fun x7 H12 e12 n7 => ?_
    replace h0 := h0.same e12
    replace h1 := h1.same e12
    replace h2 := h2.same e12
    replace h3 := mono_l _ _ _ _ e12 h3
    replace h4 := mono_ls _ _ _ _ _ e12 h4
    replace h8 := h8.same e12
    replace h9 := h9.same e12
    replace h10 := h10.same e12
    replace h11 := h11.same e12
    replace s0 := s0.trans e12
    replace h7 := n7
    show tSeq _ _ _ [some x0, some x1, some x2, some x3, some x4, none, none, some x7, some x8, some x9, some x10, some x11, none, none] _
    refine q_set (P := IsLs 1 _) (el_cat (ev_vs (i := 4) (v := x4) rfl h4) (el_lst (la_cons (ev_nev (a := bothB) (b := leftB) (r := true) ok_bothB ok_leftB (by decide +kernel) r_left_both (ev_bkv (b := bothB) (ev_vt (i := 11) (v := x11) (d := bookD bothB) rfl h11) ok_bothB) (ev_bkv (b := leftB) (ev_vt (i := 9) (v := x9) (d := bookD leftB) rfl h9) ok_leftB)) (la_cons (ev_nev (a := leftB) (b := bothB) (r := false) ok_leftB ok_bothB (by decide +kernel) r_both_left (ev_bkv (b := leftB) (ev_vt (i := 9) (v := x9) (d := bookD leftB) rfl h9) ok_leftB) (ev_bkv (b := bothB) (ev_vt (i := 11) (v := x11) (d := bookD bothB) rfl h11) ok_bothB)) (la_cons (ev_nev (a := emptyB) (b := emptyB) (r := true) ok_emptyB ok_emptyB (by decide +kernel) (r_self _) (ev_bkv (b := emptyB) (ev_bk (ev_tup ts_nil (by show 0 ≤ 100000; decide)) (by rfl)) ok_emptyB) (ev_bkv (b := emptyB) (ev_bk (ev_tup ts_nil (by show 0 ≤ 100000; decide)) (by rfl)) ok_emptyB)) la_nil))) (by show 3 ≤ 1000; decide)) (by decide +kernel)) fun x4 H13 e13 n4 => ?_
    replace h0 := h0.same e13
    replace h1 := h1.same e13
    replace h2 := h2.same e13
    replace h3 := mono_l _ _ _ _ e13 h3
    replace h7 := mono_ls _ _ _ _ _ e13 h7
    replace h8 := h8.same e13
    replace h9 := h9.same e13
    replace h10 := h10.same e13
    replace h11 := h11.same e13
    replace s0 := s0.trans e13
    replace h4 := n4
    show tSeq _ _ _ [some x0, some x1, some x2, some x3, some x4, none, none, some x7, some x8, some x9, some x10, some x11, none, none] _
    refine q_set (P := IsLs 1 _) (el_cat (ev_vs (i := 4) (v := x4) rfl h4) (el_lst (la_cons (ev_nev (a := x0B) (b := x1B) (r := false) ok_x0B ok_x1B (by decide +kernel) r_x1_x0 (ev_bkv (b := x0B) (ev_bk (ev_tup (ts_cons (ev_tup (ts_cons ev_str (ts_cons (ev_tup ts_nil (by show 0 ≤ 100000; decide)) ts_nil)) (by show 2 ≤ 100000; decide)) ts_nil) (by show 1 ≤ 100000; decide)) (by rfl)) ok_x0B) (ev_bkv (b := x1B) (ev_bk (ev_tup (ts_cons (ev_tup (ts_cons ev_str (ts_cons (ev_tup (ts_cons (ev_tup ts_nil (by show 0 ≤ 100000; decide)) ts_nil) (by show 1 ≤ 100000; decide)) ts_nil)) (by show 2 ≤ 100000; decide)) ts_nil) (by show 1 ≤ 100000; decide)) (by rfl)) ok_x1B)) la_nil) (by show 1 ≤ 1000; decide)) (by decide +kernel)) fun x4 H14 e14 n4 => ?_
    replace h0 := h0.same e14
    replace h1 := h1.same e14
    replace h2 := h2.same e14
    replace h3 := mono_l _ _ _ _ e14 h3
    replace h7 := mono_ls _ _ _ _ _ e14 h7
    replace h8 := h8.same e14
    replace h9 := h9.same e14
    replace h10 := h10.same e14
    replace h11 := h11.same e14
    replace s0 := s0.trans e14
    replace h4 := n4
    show tSeq _ _ _ [some x0, some x1, some x2, some x3, some x4, none, none, some x7, some x8, some x9, some x10, some x11, none, none] _
    refine q_set (P := IsLs 1 _) (el_cat (ev_vs (i := 7) (v := x7) rfl h7) (el_lst (la_cons el_bl (la_cons el_bl (la_cons el_bl (la_cons el_bl la_nil)))) (by show 4 ≤ 1000; decide)) (by decide +kernel)) fun x7 H15 e15 n7 => ?_
    replace h0 := h0.same e15
    replace h1 := h1.same e15
    replace h2 := h2.same e15
    replace h3 := mono_l _ _ _ _ e15 h3
    replace h4 := mono_ls _ _ _ _ _ e15 h4
    replace h8 := h8.same e15
    replace h9 := h9.same e15
    replace h10 := h10.same e15
    replace h11 := h11.same e15
    replace s0 := s0.trans e15
    replace h7 := n7
    show tSeq _ _ _ [some x0, some x1, some x2, some x3, some x4, none, none, some x7, some x8, some x9, some x10, some x11, none, none] _
    refine q_set (P := IsT (bookD nearB)) (ev_bk (ev_tup (ts_cons (ev_tup (ts_cons ev_str (ts_cons (ev_tup (ts_cons (ev_tup ts_nil (by show 0 ≤ 100000; decide)) ts_nil) (by show 1 ≤ 100000; decide)) ts_nil)) (by show 2 ≤ 100000; decide)) (ts_cons (ev_tup (ts_cons ev_str (ts_cons (ev_tup (ts_cons (ev_tup (ts_cons ev_str ts_nil) (by show 1 ≤ 100000; decide)) ts_nil) (by show 1 ≤ 100000; decide)) ts_nil)) (by show 2 ≤ 100000; decide)) (ts_cons (ev_tup (ts_cons ev_str (ts_cons (ev_tup (ts_cons (ev_tup (ts_cons ev_str ts_nil) (by show 1 ≤ 100000; decide)) ts_nil) (by show 1 ≤ 100000; decide)) ts_nil)) (by show 2 ≤ 100000; decide)) ts_nil))) (by show 3 ≤ 100000; decide)) (by rfl)) fun x12 H16 e16 n12 => ?_
    replace h0 := h0.same e16
    replace h1 := h1.same e16
    replace h2 := h2.same e16
    replace h3 := mono_l _ _ _ _ e16 h3
    replace h4 := mono_ls _ _ _ _ _ e16 h4
    replace h7 := mono_ls _ _ _ _ _ e16 h7
    replace h8 := h8.same e16
    replace h9 := h9.same e16
    replace h10 := h10.same e16
    replace h11 := h11.same e16
    replace s0 := s0.trans e16
    have h12 := n12
    show tSeq _ _ _ [some x0, some x1, some x2, some x3, some x4, none, none, some x7, some x8, some x9, some x10, some x11, some x12, none] _
    refine q_set (P := IsT (bookD farB)) (ev_bk (ev_tup (ts_cons (ev_tup (ts_cons ev_str (ts_cons (ev_tup (ts_cons (ev_tup ts_nil (by show 0 ≤ 100000; decide)) ts_nil) (by show 1 ≤ 100000; decide)) ts_nil)) (by show 2 ≤ 100000; decide)) (ts_cons (ev_tup (ts_cons ev_str (ts_cons (ev_tup (ts_cons (ev_tup (ts_cons ev_str ts_nil) (by show 1 ≤ 100000; decide)) ts_nil) (by show 1 ≤ 100000; decide)) ts_nil)) (by show 2 ≤ 100000; decide)) (ts_cons (ev_tup (ts_cons ev_str (ts_cons (ev_tup (ts_cons (ev_tup (ts_cons ev_str (ts_cons ev_str ts_nil)) (by show 2 ≤ 100000; decide)) ts_nil) (by show 1 ≤ 100000; decide)) ts_nil)) (by show 2 ≤ 100000; decide)) ts_nil))) (by show 3 ≤ 100000; decide)) (by rfl)) fun x13 H17 e17 n13 => ?_
    replace h0 := h0.same e17
    replace h1 := h1.same e17
    replace h2 := h2.same e17
    replace h3 := mono_l _ _ _ _ e17 h3
    replace h4 := mono_ls _ _ _ _ _ e17 h4
    replace h7 := mono_ls _ _ _ _ _ e17 h7
    replace h8 := h8.same e17
    replace h9 := h9.same e17
    replace h10 := h10.same e17
    replace h11 := h11.same e17
    replace h12 := h12.same e17
    replace s0 := s0.trans e17
    have h13 := n13
    show tSeq _ _ _ [some x0, some x1, some x2, some x3, some x4, none, none, some x7, some x8, some x9, some x10, some x11, some x12, some x13] _
    refine q_set (P := IsLs 1 _) (el_cat (ev_vs (i := 4) (v := x4) rfl h4) (el_lst (la_cons (ev_nev (a := nearB) (b := farB) (r := true) ok_nearB ok_farB (by decide +kernel) r_far_near (ev_bkv (b := nearB) (ev_vt (i := 12) (v := x12) (d := bookD nearB) rfl h12) ok_nearB) (ev_bkv (b := farB) (ev_vt (i := 13) (v := x13) (d := bookD farB) rfl h13) ok_farB)) (la_cons (ev_nev (a := farB) (b := nearB) (r := true) ok_farB ok_nearB (by decide +kernel) r_near_far (ev_bkv (b := farB) (ev_vt (i := 13) (v := x13) (d := bookD farB) rfl h13) ok_farB) (ev_bkv (b := nearB) (ev_vt (i := 12) (v := x12) (d := bookD nearB) rfl h12) ok_nearB)) la_nil)) (by show 2 ≤ 1000; decide)) (by decide +kernel)) fun x4 H18 e18 n4 => ?_
    replace h0 := h0.same e18
    replace h1 := h1.same e18
    replace h2 := h2.same e18
    replace h3 := mono_l _ _ _ _ e18 h3
    replace h7 := mono_ls _ _ _ _ _ e18 h7
    replace h8 := h8.same e18
    replace h9 := h9.same e18
    replace h10 := h10.same e18
    replace h11 := h11.same e18
    replace h12 := h12.same e18
    replace h13 := h13.same e18
    replace s0 := s0.trans e18
    replace h4 := n4
    show tSeq _ _ _ [some x0, some x1, some x2, some x3, some x4, none, none, some x7, some x8, some x9, some x10, some x11, some x12, some x13] _
    refine q_set (P := IsLs 1 _) (el_cat (ev_vs (i := 4) (v := x4) rfl h4) (el_lst (la_cons (ev_nev (a := freeB) (b := rowB) (r := true) ok_freeB ok_rowB (by decide +kernel) r_row_free (ev_bkv (b := freeB) (ev_k10 fun v H2 _ h => h) ok_freeB) (ev_bkv (b := rowB) (ev_k10 fun v H2 _ h => h) ok_rowB)) la_nil) (by show 1 ≤ 1000; decide)) (by decide +kernel)) fun x4 H19 e19 n4 => ?_
    replace h0 := h0.same e19
    replace h1 := h1.same e19
    replace h2 := h2.same e19
    replace h3 := mono_l _ _ _ _ e19 h3
    replace h7 := mono_ls _ _ _ _ _ e19 h7
    replace h8 := h8.same e19
    replace h9 := h9.same e19
    replace h10 := h10.same e19
    replace h11 := h11.same e19
    replace h12 := h12.same e19
    replace h13 := h13.same e19
    replace s0 := s0.trans e19
    replace h4 := n4
    show tSeq _ _ _ [some x0, some x1, some x2, some x3, some x4, none, none, some x7, some x8, some x9, some x10, some x11, some x12, some x13] _
    refine q_set (P := IsLs 1 _) (el_cat (ev_vs (i := 4) (v := x4) rfl h4) (el_lst (la_cons (ev_nev (a := rowB) (b := freeB) (r := false) ok_rowB ok_freeB (by decide +kernel) r_free_row (ev_bkv (b := rowB) (ev_k10 fun v H2 _ h => h) ok_rowB) (ev_bkv (b := freeB) (ev_k10 fun v H2 _ h => h) ok_freeB)) (la_cons (ev_hrd ok_kitB ok_headB (by decide +kernel) (ev_bkv (b := kitB) (ev_vt (i := 0) (v := x0) (d := bookD kitB) rfl h0) ok_kitB) (ev_bkv (b := headB) (ev_bk (ev_slT (K := K) (ds := kitB.map pairD) (ev_vt (i := 0) (v := x0) (d := bookD kitB) rfl h0) eo_none (eo_some (ev_c (v := .int 3))) (part_to _ 3)) (by rfl)) ok_headB)) la_nil)) (by show 2 ≤ 1000; decide)) (by decide +kernel)) fun x4 H20 e20 n4 => ?_
    replace h0 := h0.same e20
    replace h1 := h1.same e20
    replace h2 := h2.same e20
    replace h3 := mono_l _ _ _ _ e20 h3
    replace h7 := mono_ls _ _ _ _ _ e20 h7
    replace h8 := h8.same e20
    replace h9 := h9.same e20
    replace h10 := h10.same e20
    replace h11 := h11.same e20
    replace h12 := h12.same e20
    replace h13 := h13.same e20
    replace s0 := s0.trans e20
    replace h4 := n4
    show tSeq _ _ _ [some x0, some x1, some x2, some x3, some x4, none, none, some x7, some x8, some x9, some x10, some x11, some x12, some x13] _
    refine q_set (P := IsLs 1 _) (el_cat (ev_vs (i := 4) (v := x4) rfl h4) (el_lst (la_cons (ev_hrd ok_emptyB ok_bothB (by decide +kernel) (ev_bkv (b := emptyB) (ev_bk (ev_tup ts_nil (by show 0 ≤ 100000; decide)) (by rfl)) ok_emptyB) (ev_bkv (b := bothB) (ev_vt (i := 11) (v := x11) (d := bookD bothB) rfl h11) ok_bothB)) (la_cons (ev_hrd ok_leftB ok_nearB (by decide +kernel) (ev_bkv (b := leftB) (ev_vt (i := 9) (v := x9) (d := bookD leftB) rfl h9) ok_leftB) (ev_bkv (b := nearB) (ev_vt (i := 12) (v := x12) (d := bookD nearB) rfl h12) ok_nearB)) la_nil)) (by show 2 ≤ 1000; decide)) (by decide +kernel)) fun x4 H21 e21 n4 => ?_
    replace h0 := h0.same e21
    replace h1 := h1.same e21
    replace h2 := h2.same e21
    replace h3 := mono_l _ _ _ _ e21 h3
    replace h7 := mono_ls _ _ _ _ _ e21 h7
    replace h8 := h8.same e21
    replace h9 := h9.same e21
    replace h10 := h10.same e21
    replace h11 := h11.same e21
    replace h12 := h12.same e21
    replace h13 := h13.same e21
    replace s0 := s0.trans e21
    replace h4 := n4
    show tSeq _ _ _ [some x0, some x1, some x2, some x3, some x4, none, none, some x7, some x8, some x9, some x10, some x11, some x12, some x13] _
    refine q_set (P := IsLs 1 _) (el_cat (ev_vs (i := 7) (v := x7) rfl h7) (el_lst (la_cons el_bl (la_cons el_bl (la_cons el_bl (la_cons el_bl (la_cons (el_in (el_lst (la_cons el_str (la_cons el_bl la_nil)) (by show 2 ≤ 1000; decide))) (la_cons (el_in (el_lst (la_cons el_str (la_cons el_bl la_nil)) (by show 2 ≤ 1000; decide))) (la_cons (el_in (el_lst (la_cons el_str (la_cons el_bl la_nil)) (by show 2 ≤ 1000; decide))) la_nil))))))) (by show 7 ≤ 1000; decide)) (by decide +kernel)) fun x7 H22 e22 n7 => ?_
    replace h0 := h0.same e22
    replace h1 := h1.same e22
    replace h2 := h2.same e22
    replace h3 := mono_l _ _ _ _ e22 h3
    replace h4 := mono_ls _ _ _ _ _ e22 h4
    replace h8 := h8.same e22
    replace h9 := h9.same e22
    replace h10 := h10.same e22
    replace h11 := h11.same e22
    replace h12 := h12.same e22
    replace h13 := h13.same e22
    replace s0 := s0.trans e22
    replace h7 := n7
    show tSeq _ _ _ [some x0, some x1, some x2, some x3, some x4, none, none, some x7, some x8, some x9, some x10, some x11, some x12, some x13] _
    refine q_set (P := IsLs 1 _) (el_cat (ev_vs (i := 4) (v := x4) rfl h4) (el_lst (la_cons (ev_nevK (a := kitB) (b := slowB) (r := true) ok_kitB ok_slowB (by decide +kernel) r_slow_kit (ev_lists (a := slowB) (ev_bkv (b := slowB) (ev_vt (i := 1) (v := x1) (d := bookD slowB) rfl h1) ok_slowB)) (ev_lists (a := kitB) (ev_bkv (b := kitB) (ev_vt (i := 0) (v := x0) (d := bookD kitB) rfl h0) ok_kitB))) la_nil) (by show 1 ≤ 1000; decide)) (by decide +kernel)) fun x4 H23 e23 n4 => ?_
    replace h0 := h0.same e23
    replace h1 := h1.same e23
    replace h2 := h2.same e23
    replace h3 := mono_l _ _ _ _ e23 h3
    replace h7 := mono_ls _ _ _ _ _ e23 h7
    replace h8 := h8.same e23
    replace h9 := h9.same e23
    replace h10 := h10.same e23
    replace h11 := h11.same e23
    replace h12 := h12.same e23
    replace h13 := h13.same e23
    replace s0 := s0.trans e23
    replace h4 := n4
    show tSeq _ _ _ [some x0, some x1, some x2, some x3, some x4, none, none, some x7, some x8, some x9, some x10, some x11, some x12, some x13] _
    refine q_set (P := IsLs 1 _) (el_cat (ev_vs (i := 4) (v := x4) rfl h4) (el_lst (la_cons (ev_nevK (a := slowB) (b := kitB) (r := false) ok_slowB ok_kitB (by decide +kernel) r_kit_slow (ev_bkv (b := kitB) (ev_vt (i := 0) (v := x0) (d := bookD kitB) rfl h0) ok_kitB) (ev_lists (a := slowB) (ev_bkv (b := slowB) (ev_vt (i := 1) (v := x1) (d := bookD slowB) rfl h1) ok_slowB))) la_nil) (by show 1 ≤ 1000; decide)) (by decide +kernel)) fun x4 H24 e24 n4 => ?_
    replace h0 := h0.same e24
    replace h1 := h1.same e24
    replace h2 := h2.same e24
    replace h3 := mono_l _ _ _ _ e24 h3
    replace h7 := mono_ls _ _ _ _ _ e24 h7
    replace h8 := h8.same e24
    replace h9 := h9.same e24
    replace h10 := h10.same e24
    replace h11 := h11.same e24
    replace h12 := h12.same e24
    replace h13 := h13.same e24
    replace s0 := s0.trans e24
    replace h4 := n4
    show tRet _ _ [some x0, some x1, some x2, some x3, some x4, none, none, some x7, some x8, some x9, some x10, some x11, some x12, some x13] _
    refine s_ret (P := fun v _ => v = .bl true) (ev_kn (ea_two (mono_ls 1 _) (ev_vs (i := 4) (v := x4) rfl h4) (el_cat (ev_vs (i := 7) (v := x7) rfl h7) (el_lst (la_cons el_bl (la_cons el_bl la_nil)) (by show 2 ≤ 1000; decide)) (by decide +kernel))) (.list dueD) (fun vs H1 _ ⟨v, w, h1, h2, h3⟩ => ⟨v, w, h1, ls_ll h2, ls_ll h3⟩) fun v H1 _ h => h) fun v' H' e' hv' => q v' H' (s0.trans e') hv'
end
end Up
end
section
set_option Elab.async false
set_option linter.all false
set_option maxRecDepth 100000
set_option maxHeartbeats 4000000
/-! The end: law by its own def; the facts of the head, put together. -/
namespace Up
open PySem PySem.Spec PyProof.Rows L2
section
variable {P : Program} {w : World} {K : PySem.W.Frag} {mg : Str → Option Value} {base : Heap} {B C : Addr}
theorem ok_law (T : Txt K mg) (TX : TxtX K mg C) (D : DfT K mg B) (G0 : Kn P w K mg base CX0 13 "_law_by_hand_right" spHand) {f : Addr} {fd : FuncData} (F : Fun K "law" "law" s_law f fd) : FnOk P w K mg base CX0 14 f fd ["_law_script"] (spLaw K) := by
  have G1 := k_cells (P := P) (w := w) (base := base) T
  have G2 := k_box (P := P) (w := w) (base := base) T
  have G3 := k_right (P := P) (w := w) (base := base) T TX D
  refine F.ok c_law (fun vs H Q E h => ?_) (fun cdv A outer s H vs Q E hr h => ?_)
  · obtain ⟨a, ns, rfl, _⟩ := h
    rfl
  · obtain ⟨a, ns, rfl, ha, hn, q⟩ := h
    refine ⟨_, pss_cons (ps_if (pt_not (pt_val (pe_kn0 G0 hr pass0))) (pss_one ps_no) pss_nil)
      (pss_cons (ps_asg (pe_kn G1 (hr.mono (by decide)) pass0 (pa_cons (pv 0) (pa_cons pe_int pa_nil))) (pgn 1 c_law.nd))
      (pss_one (ps_ret (pe_callB (cr_all (by rfl)) (by rfl) T.b_all (by decide +kernel) (pa_cons (pe_lc (own := [("_law_k", 2)]) (g := gName 2) (by rfl) c_law.nd (pi_range1 (by rfl) T.b_range (pa_cons (pe_callB cr_len (by rfl) T.b_len (by decide +kernel) (pa_cons (pv 1) pa_nil)) pa_nil)) (blkOk_by (N := ["_law_script", "_law_cells_here", "_law_k"]) (sc := defScope s_law) (by decide +kernel)) (fun _ _ _ _ _ => pgn 2 c_law.nd)
        (fun _ _ _ _ _ => pts_nil) (fun _ _ _ _ _ => pe_kn G3 (hr.mono (by decide)) pass0 (pa_cons (pe_kn G2 (hr.mono (by decide)) pass0 (pa_cons (pv 1) (pa_cons (pv 2) pa_nil))) pa_nil))) pa_nil))))), ?_⟩
    refine q_no ((et_not (et_B (b := true) (ev_kn (PA := fun vs _ => vs = []) ea_nil () (fun vs H1 _ h => h) fun v H1 _ h => h))).to rfl) fun H1 e1 => ?_
    refine q_set (P := fun v H' => ∃ ms : List Int, IsL (ms.map .int) v H' ∧ ms.length ≤ 2) (ev_kn (ea_two (mono_v (.ref a)) (ev_var (i := 0) (v := .ref a) rfl) (ev_c (v := .int 2))) ns (fun vs H2 e2 ⟨v, w, h1, h2, h3⟩ => ⟨a, by rw [h1, h2, h3], sql_same (e1.trans e2) ha, by omega⟩) fun v H2 _ h => h) fun cv H2 e2 ⟨ms, hcv, ml⟩ => ?_
    have lenE := ev_lenL (K := K) (te := tVar 1) (ds := ms.map PyData.int) (σ := [some (.ref a), some cv, none]) (H := H2) (ev_vp (i := 1) (v := cv) rfl (mono_l _) hcv)
    rw [List.length_map] at lenE
    have lcE := ev_lc (te := tCall spRight [] E0 (tCons (tCall spBox [] E0 (tCons (tVar 1) (tCons (tVar 2) tNil))) tNil)) (tt := tYes) (g := gName 2) (vs := [2]) (σ := [some (.ref a), some cv, none]) (H := H2) (src_rng (n := ms.length) (fun H3 e Q q => ea_one lenE H3 e Q fun vs H4 e4 ⟨v, h1, h2⟩ => q vs H4 e4 (by rw [h1, h2])) (by omega)) (fun _ => true) (fun _ => .bool true) (by rw [List.length_range]; omega) fun k hk y H3 e3 hy CC c => by
      subst hy
      have hk := List.mem_range.mp hk
      refine c [some (.ref a), some cv, some (.int (k : Int))] _ (Same.refl _) rfl et_yes fun _ => ?_
      intro H4 e4 Q' q'
      refine ⟨cv, rfl, .int (k : Int), rfl, ms, k, ⟨cv, rfl, hcv.same (e3.trans e4), by omega, by omega⟩, fun p H5 e5 hp tb => ?_⟩
      refine ⟨(), p, 0, rfl, tb, by decide, fun v H6 su6 tb6 hv => q' v H6 (fun b o hb => su6 b o (ne_of_none hb hp) (e5 _ _ hb)) ?_⟩
      rw [hv]; exact .bl true
    rw [filter_yes, show (List.range ms.length).map (fun _ => PyData.bool true) = ((List.range ms.length).map fun _ => true).map PyData.bool from by rw [List.map_map]; rfl] at lcE
    refine s_ret (ev_all (K := K) lcE) fun v' H3 e3 hv' => ?_
    have : ((List.range ms.length).map fun _ => true).all id = true := by simp
    rw [hv']
    first
      | (rw [this]; exact q H3)
      | (simp; exact q H3)
end
/-! ### from the head -/
theorem df_mk {K : PySem.W.Frag} {h : Heap} {mg : Str → Option Value} (X : K.In h) (G : h.Ns mainGlobals mg) {x : Str} {st : Stmt} {ps : List Str} {f : Addr} {oc : Value} {od an : Option Addr} {osl : Array (Option Value)} {kV doc pm cdv ct : Value}
    (a : PySem.W.nsIn K mainGlobals x = some (some (.ref f))) (l : K.lookup f = some ⟨oc, od, .func (PySem.W.fnOf x x (defArgs st) (defBody st) (defScope st) .none kV doc pm an cdv ct), osl⟩) (c : PySem.W.codeIn K cdv x = true) (k : PySem.W.keepIn K (.ref f) = true)
    (hb : ∀ (kV doc pm : Value) (an : Option Addr) (cdv ct : Value) (us : List Value), us.length = ps.length → bindArgs (PySem.W.fnOf x x (defArgs st) (defBody st) (defScope st) .none kV doc pm an cdv ct) ⟨us, []⟩ = pure (ps.zip us)) : Df K mg x st ps :=
  ⟨⟨f, _, PySem.W.mg_of X G a, fun_mk l c k, (fun_mk l c k).binds hb⟩⟩
theorem kit_exc {K : PySem.W.Frag} {C : Addr} (h : PySem.W.subIn K (.ref C) (.type "ValueError") = some true) : PySem.W.kitOne K (.ref C) (.type "ValueError") = some true := by
  unfold PySem.W.kitOne
  rw [if_neg (by intro z; cases beq_iff_eq.mp z)]
  show (if PySem.W.kitMeta "ValueError" = true then PySem.W.subIn K (.ref C) (.type "ValueError") else none) = some true
  rw [if_pos (by decide +kernel)]
  exact h
theorem txtX_mk {K : PySem.W.Frag} {h : Heap} {mg : Str → Option Value} (X : K.In h) (G : h.Ns mainGlobals mg) {C : Addr} (a : PySem.W.nsIn K mainGlobals "OtherUnits" = some (some (.ref C))) (ex : PySem.W.excIn K C bmVE "ValueError.__new__" = true) (kC : PySem.W.keepIn K (.ref C) = true)
    (sub : PySem.W.subIn K (.ref C) (.type "BaseException") = some true) (ty : PySem.W.typeIn K (.ref C) = some (.type "type")) (sC : PySem.W.subIn K (.ref C) (.ref C) = some true) (hg : PySem.W.findIn K (.ref C) "__getattribute__" = some (some (.builtin "BaseException.__getattribute__")))
    (hk : PySem.W.findIn K (.ref C) "__getattr__" = some none) (hd : PySem.W.hasDictIn K C = true) (ha : PySem.W.findIn K (.ref C) "__class__" = some (some (.builtin "object.__class__"))) (hn : PySem.W.specialIn K (.builtin "object.__class__") "__get__" = some (some (.builtin "getset_descriptor.__get__")))
    (ht : PySem.W.takesIn K (.builtin "object.__class__") = some true) (hm : PySem.W.mroIn K C (.type "object") = some true) (sv : PySem.W.subIn K (.ref C) (.type "ValueError") = some true) : TxtX K mg C where
  gC := PySem.W.mg_of X G a
  ex := ex
  kC := kC
  sub := sub
  ty := ty
  te := PySem.W.exm_ref sub hd ty sC
  isC := ⟨hg, hk, sub, hd, ha, hn, ht, hm⟩
  isV := kit_exc sv
theorem dfT_mk {K : PySem.W.Frag} {h : Heap} {mg : Str → Option Value} (X : K.In h) (G : h.Ns mainGlobals mg) {f Tp B : Addr} {oc oc2 : Value} {od od2 od3 an : Option Addr} {osl osl2 osl3 : Array (Option Value)} {kV doc pm cdv ct : Value} {n2 n3 : Nat}
    (a : PySem.W.nsIn K mainGlobals "all_times" = some (some (.ref f))) (l : K.lookup f = some ⟨oc, od, .func (PySem.W.fnOf "all_times" "all_times" (defArgs s_all_times) (defBody s_all_times) (defScope s_all_times) (.ref Tp) kV doc pm an cdv ct), osl⟩) (c : PySem.W.codeIn K cdv "all_times" = true) (k : PySem.W.keepIn K (.ref f) = true)
    (lT : K.lookup Tp = some ⟨oc2, od2, .seq #[.ref B] n2, osl2⟩) (lB : K.lookup B = some ⟨.type "tuple", od3, .seq #[] n3, osl3⟩) : DfT K mg B := by
  have F : FunD K "all_times" "all_times" (defArgs s_all_times) (defBody s_all_times) (defScope s_all_times) [.ref B] [] f _ := ⟨⟨oc, od, .ref Tp, kV, doc, pm, an, cdv, ct, osl, rfl, l, c, .inr ⟨(fun z => nomatch z), Tp, _, [.ref B], n2, rfl, lT, rfl, .cons rfl .nil⟩, .inl rfl⟩, k⟩
  refine ⟨fun H => .inr ⟨_, #[], n3, lB, rfl, rfl, Nat.zero_le _, .nil⟩, f, _, PySem.W.mg_of X G a, F, ?_⟩
  exact F.binds1 (ps := ["book", "durations", "barred"]) 2 0 (fun z => nomatch z) rfl fun T kV doc pm an cdv ct us its h1 h2 => match us, its, h1, h2 with | [_, _], [_], _, _ => ⟨_, rfl, rfl⟩
theorem end_law {P : Program} {w : World} {K : PySem.W.Frag} {mg : Str → Option Value} {B C fa : Addr} (T : Txt K mg) (TX : TxtX K mg C) (D : DfT K mg B) (hfa : mg "law" = some (.ref fa)) :
    ∃ fd : FuncData, (∀ (s : Shared) (u : Value), BindsTo s fd ⟨[u], []⟩ [("_law_script", u)]) ∧ ∀ base : Heap, K.In base → base.Ns mainGlobals mg → FnOk P w K mg base CX0 14 fa fd ["_law_script"] (spLaw K) := by
  obtain ⟨f, fd, hm, F, hb⟩ := T.d_law.ex
  cases hm.symm.trans hfa
  refine ⟨fd, fun s u => ?_, fun base _ _ => ok_law T TX D (k_hand T TX D) F⟩
  obtain ⟨oc, od, kV, doc, pm, an, cdv, ct, osl, rfl, lk, hcd⟩ := F.ex
  exact .of_eq rfl
theorem walk {l : PySem.W.OpenLaw} {q : Program} {loose : List Str} {XP : (Str → Option Value) → Heap → Prop} {YP : World → Heap → Prop} {d : DefRec} {K : Params → PySem.W.Frag} (hn : l.most = some 63) (hdf : d.params.defaults = [])
    (hY : ∀ (w : World) (h : Heap), YP w h → (K w.params).In h)
    (F : ∀ (w : World) (mg : Str → Option Value) (fa : Addr) (h : Heap), (K w.params).In h → h.Ns mainGlobals mg → mg d.name = some (.ref fa) →
      ∃ fd : FuncData, (∀ (s : Shared) (u : Value), BindsTo s fd ⟨[u], []⟩ [("_law_script", u)]) ∧ ∀ base : Heap, (K w.params).In base → base.Ns mainGlobals mg → FnOk l.prog w (K w.params) mg base CX0 14 fa fd ["_law_script"] (spLaw (K w.params))) :
    PySem.W.WalkO q loose XP YP l.row.toRowW d [] (fun f vs => PySem.call f vs) :=
  L2.walk_ofK (n := 63) (k := 14) (x := "_law_script") (CX := CX0) (sp := spLaw) hn (by decide) hdf ⟨rfl, by decide, by decide⟩ hY F (fun K H a ns hl _ hS => ⟨a, ns, rfl, hS, hl, fun _ => rfl⟩) fun _ _ _ _ z => z
end Up
end
section
set_option Elab.async false
set_option maxRecDepth 100000
set_option maxHeartbeats 0
open PySem PySem.W PyProof.Rows
theorem PySem.Challenge.cw_upbyany_k22_whole_never_later_holds : PySem.Challenge.rw_upbyany_k22_whole_never_later.Holds := by
  w_on; o_law; k_head; (case hw => w_witness2)
  k_fill
  refine Up.walk (l := PySem.Challenge.rw_upbyany_k22_whole_never_later) rfl rfl (fun w h Y => PySem.W.kIn_of Y) ?F
  case F =>
    intro w mg fa h KX G hmg
    refine' Up.end_law (?T : Up.Txt _ mg) (?TX : Up.TxtX _ mg _) (?D : Up.DfT _ mg _) hmg
    case T =>
      refine' Up.Txt.mk ?b_tuple ?b_list ?b_dict ?b_set ?b_sorted ?b_isinstance ?b_any ?b_all ?b_len ?b_min ?b_max ?b_range ?b_int ?b_abs ?b_enumerate ?b_zip ?b_bool ?b_str ?b_ValueError ?d_set_of ?d_tupled ?d_units ?d_check_units ?d_table_of ?d_lets ?d_row_within ?d_greatest_within ?d_is_standing ?d_standings_of ?d_without ?d_ends_in ?d_ends_of_paths ?d_all_paths ?d_check_same ?d_begin_by ?d_row_by ?d_never_later ?d_first_beyond ?d_later_durations ?d__law_box ?d__law_take ?d__law_cells ?d__law_of ?d__law_pick ?d__law_same ?d__law_lists ?d__law_tags ?d__law_plan ?d__law_lets ?d__law_next ?d__law_stands ?d__law_clock ?d__law_kit ?d__law_row_kit ?d__law_free_kit ?d__law_mate ?d__law_grid ?d__law_heard ?d__law_later ?d__law_due ?d__law_by_hand_right ?d__law_right ?d_law
      (case b_tuple => exact PySem.W.mg_none_of KX G (by k_is))
      (case b_list => exact PySem.W.mg_none_of KX G (by k_is))
      (case b_dict => exact PySem.W.mg_none_of KX G (by k_is))
      (case b_set => exact PySem.W.mg_none_of KX G (by k_is))
      (case b_sorted => exact PySem.W.mg_none_of KX G (by k_is))
      (case b_isinstance => exact PySem.W.mg_none_of KX G (by k_is))
      (case b_any => exact PySem.W.mg_none_of KX G (by k_is))
      (case b_all => exact PySem.W.mg_none_of KX G (by k_is))
      (case b_len => exact PySem.W.mg_none_of KX G (by k_is))
      (case b_min => exact PySem.W.mg_none_of KX G (by k_is))
      (case b_max => exact PySem.W.mg_none_of KX G (by k_is))
      (case b_range => exact PySem.W.mg_none_of KX G (by k_is))
      (case b_int => exact PySem.W.mg_none_of KX G (by k_is))
      (case b_abs => exact PySem.W.mg_none_of KX G (by k_is))
      (case b_enumerate => exact PySem.W.mg_none_of KX G (by k_is))
      (case b_zip => exact PySem.W.mg_none_of KX G (by k_is))
      (case b_bool => exact PySem.W.mg_none_of KX G (by k_is))
      (case b_str => exact PySem.W.mg_none_of KX G (by k_is))
      (case b_ValueError => exact PySem.W.mg_none_of KX G (by k_is))
      (case d_set_of => (refine' Up.df_mk KX G ?a ?l ?c ?k ?b; (case a => k_is); (case l => k_is); (case c => k_is); (case k => k_is); (case b => exact fun _ _ _ _ _ _ us hl => match us, hl with | [_], _ => rfl)))
      (case d_tupled => (refine' Up.df_mk KX G ?a ?l ?c ?k ?b; (case a => k_is); (case l => k_is); (case c => k_is); (case k => k_is); (case b => exact fun _ _ _ _ _ _ us hl => match us, hl with | [_], _ => rfl)))
      (case d_units => (refine' Up.df_mk KX G ?a ?l ?c ?k ?b; (case a => k_is); (case l => k_is); (case c => k_is); (case k => k_is); (case b => exact fun _ _ _ _ _ _ us hl => match us, hl with | [_], _ => rfl)))
      (case d_check_units => (refine' Up.df_mk KX G ?a ?l ?c ?k ?b; (case a => k_is); (case l => k_is); (case c => k_is); (case k => k_is); (case b => exact fun _ _ _ _ _ _ us hl => match us, hl with | [_, _], _ => rfl)))
      (case d_table_of => (refine' Up.df_mk KX G ?a ?l ?c ?k ?b; (case a => k_is); (case l => k_is); (case c => k_is); (case k => k_is); (case b => exact fun _ _ _ _ _ _ us hl => match us, hl with | [_], _ => rfl)))
      (case d_lets => (refine' Up.df_mk KX G ?a ?l ?c ?k ?b; (case a => k_is); (case l => k_is); (case c => k_is); (case k => k_is); (case b => exact fun _ _ _ _ _ _ us hl => match us, hl with | [_, _, _], _ => rfl)))
      (case d_row_within => (refine' Up.df_mk KX G ?a ?l ?c ?k ?b; (case a => k_is); (case l => k_is); (case c => k_is); (case k => k_is); (case b => exact fun _ _ _ _ _ _ us hl => match us, hl with | [_, _], _ => rfl)))
      (case d_greatest_within => (refine' Up.df_mk KX G ?a ?l ?c ?k ?b; (case a => k_is); (case l => k_is); (case c => k_is); (case k => k_is); (case b => exact fun _ _ _ _ _ _ us hl => match us, hl with | [_, _], _ => rfl)))
      (case d_is_standing => (refine' Up.df_mk KX G ?a ?l ?c ?k ?b; (case a => k_is); (case l => k_is); (case c => k_is); (case k => k_is); (case b => exact fun _ _ _ _ _ _ us hl => match us, hl with | [_, _], _ => rfl)))
      (case d_standings_of => (refine' Up.df_mk KX G ?a ?l ?c ?k ?b; (case a => k_is); (case l => k_is); (case c => k_is); (case k => k_is); (case b => exact fun _ _ _ _ _ _ us hl => match us, hl with | [_], _ => rfl)))
      (case d_without => (refine' Up.df_mk KX G ?a ?l ?c ?k ?b; (case a => k_is); (case l => k_is); (case c => k_is); (case k => k_is); (case b => exact fun _ _ _ _ _ _ us hl => match us, hl with | [_, _], _ => rfl)))
      (case d_ends_in => (refine' Up.df_mk KX G ?a ?l ?c ?k ?b; (case a => k_is); (case l => k_is); (case c => k_is); (case k => k_is); (case b => exact fun _ _ _ _ _ _ us hl => match us, hl with | [_, _], _ => rfl)))
      (case d_ends_of_paths => (refine' Up.df_mk KX G ?a ?l ?c ?k ?b; (case a => k_is); (case l => k_is); (case c => k_is); (case k => k_is); (case b => exact fun _ _ _ _ _ _ us hl => match us, hl with | [_], _ => rfl)))
      (case d_all_paths => (refine' Up.df_mk KX G ?a ?l ?c ?k ?b; (case a => k_is); (case l => k_is); (case c => k_is); (case k => k_is); (case b => exact fun _ _ _ _ _ _ us hl => match us, hl with | [_], _ => rfl)))
      (case d_check_same => (refine' Up.df_mk KX G ?a ?l ?c ?k ?b; (case a => k_is); (case l => k_is); (case c => k_is); (case k => k_is); (case b => exact fun _ _ _ _ _ _ us hl => match us, hl with | [_, _], _ => rfl)))
      (case d_begin_by => (refine' Up.df_mk KX G ?a ?l ?c ?k ?b; (case a => k_is); (case l => k_is); (case c => k_is); (case k => k_is); (case b => exact fun _ _ _ _ _ _ us hl => match us, hl with | [_, _], _ => rfl)))
      (case d_row_by => (refine' Up.df_mk KX G ?a ?l ?c ?k ?b; (case a => k_is); (case l => k_is); (case c => k_is); (case k => k_is); (case b => exact fun _ _ _ _ _ _ us hl => match us, hl with | [_, _], _ => rfl)))
      (case d_never_later => (refine' Up.df_mk KX G ?a ?l ?c ?k ?b; (case a => k_is); (case l => k_is); (case c => k_is); (case k => k_is); (case b => exact fun _ _ _ _ _ _ us hl => match us, hl with | [_, _], _ => rfl)))
      (case d_first_beyond => (refine' Up.df_mk KX G ?a ?l ?c ?k ?b; (case a => k_is); (case l => k_is); (case c => k_is); (case k => k_is); (case b => exact fun _ _ _ _ _ _ us hl => match us, hl with | [_, _], _ => rfl)))
      (case d_later_durations => (refine' Up.df_mk KX G ?a ?l ?c ?k ?b; (case a => k_is); (case l => k_is); (case c => k_is); (case k => k_is); (case b => exact fun _ _ _ _ _ _ us hl => match us, hl with | [_, _], _ => rfl)))
      (case d__law_box => (refine' Up.df_mk KX G ?a ?l ?c ?k ?b; (case a => k_is); (case l => k_is); (case c => k_is); (case k => k_is); (case b => exact fun _ _ _ _ _ _ us hl => match us, hl with | [_, _], _ => rfl)))
      (case d__law_take => (refine' Up.df_mk KX G ?a ?l ?c ?k ?b; (case a => k_is); (case l => k_is); (case c => k_is); (case k => k_is); (case b => exact fun _ _ _ _ _ _ us hl => match us, hl with | [_, _], _ => rfl)))
      (case d__law_cells => (refine' Up.df_mk KX G ?a ?l ?c ?k ?b; (case a => k_is); (case l => k_is); (case c => k_is); (case k => k_is); (case b => exact fun _ _ _ _ _ _ us hl => match us, hl with | [_, _], _ => rfl)))
      (case d__law_of => (refine' Up.df_mk KX G ?a ?l ?c ?k ?b; (case a => k_is); (case l => k_is); (case c => k_is); (case k => k_is); (case b => exact fun _ _ _ _ _ _ us hl => match us, hl with | [_, _], _ => rfl)))
      (case d__law_pick => (refine' Up.df_mk KX G ?a ?l ?c ?k ?b; (case a => k_is); (case l => k_is); (case c => k_is); (case k => k_is); (case b => exact fun _ _ _ _ _ _ us hl => match us, hl with | [_, _, _], _ => rfl)))
      (case d__law_same => (refine' Up.df_mk KX G ?a ?l ?c ?k ?b; (case a => k_is); (case l => k_is); (case c => k_is); (case k => k_is); (case b => exact fun _ _ _ _ _ _ us hl => match us, hl with | [_, _], _ => rfl)))
      (case d__law_lists => (refine' Up.df_mk KX G ?a ?l ?c ?k ?b; (case a => k_is); (case l => k_is); (case c => k_is); (case k => k_is); (case b => exact fun _ _ _ _ _ _ us hl => match us, hl with | [_], _ => rfl)))
      (case d__law_tags => (refine' Up.df_mk KX G ?a ?l ?c ?k ?b; (case a => k_is); (case l => k_is); (case c => k_is); (case k => k_is); (case b => exact fun _ _ _ _ _ _ us hl => match us, hl with | [_, _], _ => rfl)))
      (case d__law_plan => (refine' Up.df_mk KX G ?a ?l ?c ?k ?b; (case a => k_is); (case l => k_is); (case c => k_is); (case k => k_is); (case b => exact fun _ _ _ _ _ _ us hl => match us, hl with | [_, _, _], _ => rfl)))
      (case d__law_lets => (refine' Up.df_mk KX G ?a ?l ?c ?k ?b; (case a => k_is); (case l => k_is); (case c => k_is); (case k => k_is); (case b => exact fun _ _ _ _ _ _ us hl => match us, hl with | [_, _], _ => rfl)))
      (case d__law_next => (refine' Up.df_mk KX G ?a ?l ?c ?k ?b; (case a => k_is); (case l => k_is); (case c => k_is); (case k => k_is); (case b => exact fun _ _ _ _ _ _ us hl => match us, hl with | [_, _], _ => rfl)))
      (case d__law_stands => (refine' Up.df_mk KX G ?a ?l ?c ?k ?b; (case a => k_is); (case l => k_is); (case c => k_is); (case k => k_is); (case b => exact fun _ _ _ _ _ _ us hl => match us, hl with | [_], _ => rfl)))
      (case d__law_clock => (refine' Up.df_mk KX G ?a ?l ?c ?k ?b; (case a => k_is); (case l => k_is); (case c => k_is); (case k => k_is); (case b => exact fun _ _ _ _ _ _ us hl => match us, hl with | [_, _], _ => rfl)))
      (case d__law_kit => (refine' Up.df_mk KX G ?a ?l ?c ?k ?b; (case a => k_is); (case l => k_is); (case c => k_is); (case k => k_is); (case b => exact fun _ _ _ _ _ _ us hl => match us, hl with | [], _ => rfl)))
      (case d__law_row_kit => (refine' Up.df_mk KX G ?a ?l ?c ?k ?b; (case a => k_is); (case l => k_is); (case c => k_is); (case k => k_is); (case b => exact fun _ _ _ _ _ _ us hl => match us, hl with | [_], _ => rfl)))
      (case d__law_free_kit => (refine' Up.df_mk KX G ?a ?l ?c ?k ?b; (case a => k_is); (case l => k_is); (case c => k_is); (case k => k_is); (case b => exact fun _ _ _ _ _ _ us hl => match us, hl with | [_], _ => rfl)))
      (case d__law_mate => (refine' Up.df_mk KX G ?a ?l ?c ?k ?b; (case a => k_is); (case l => k_is); (case c => k_is); (case k => k_is); (case b => exact fun _ _ _ _ _ _ us hl => match us, hl with | [_, _], _ => rfl)))
      (case d__law_grid => (refine' Up.df_mk KX G ?a ?l ?c ?k ?b; (case a => k_is); (case l => k_is); (case c => k_is); (case k => k_is); (case b => exact fun _ _ _ _ _ _ us hl => match us, hl with | [_, _], _ => rfl)))
      (case d__law_heard => (refine' Up.df_mk KX G ?a ?l ?c ?k ?b; (case a => k_is); (case l => k_is); (case c => k_is); (case k => k_is); (case b => exact fun _ _ _ _ _ _ us hl => match us, hl with | [_, _], _ => rfl)))
      (case d__law_later => (refine' Up.df_mk KX G ?a ?l ?c ?k ?b; (case a => k_is); (case l => k_is); (case c => k_is); (case k => k_is); (case b => exact fun _ _ _ _ _ _ us hl => match us, hl with | [_, _, _], _ => rfl)))
      (case d__law_due => (refine' Up.df_mk KX G ?a ?l ?c ?k ?b; (case a => k_is); (case l => k_is); (case c => k_is); (case k => k_is); (case b => exact fun _ _ _ _ _ _ us hl => match us, hl with | [_, _, _], _ => rfl)))
      (case d__law_by_hand_right => (refine' Up.df_mk KX G ?a ?l ?c ?k ?b; (case a => k_is); (case l => k_is); (case c => k_is); (case k => k_is); (case b => exact fun _ _ _ _ _ _ us hl => match us, hl with | [], _ => rfl)))
      (case d__law_right => (refine' Up.df_mk KX G ?a ?l ?c ?k ?b; (case a => k_is); (case l => k_is); (case c => k_is); (case k => k_is); (case b => exact fun _ _ _ _ _ _ us hl => match us, hl with | [_], _ => rfl)))
      (case d_law => (refine' Up.df_mk KX G ?a ?l ?c ?k ?b; (case a => k_is); (case l => k_is); (case c => k_is); (case k => k_is); (case b => exact fun _ _ _ _ _ _ us hl => match us, hl with | [_], _ => rfl)))
    case TX =>
      refine' Up.txtX_mk KX G ?a ?ex ?kC ?sub ?ty ?sC ?hg ?hk ?hd ?ha ?hn ?ht ?hm ?sv
      (case a => k_is); (case ex => k_exc); (case kC => k_is); (case sub => k_is); (case ty => k_is); (case sC => first | rfl | k_is); (case hg => k_is); (case hk => k_is); (case hd => k_is); (case ha => k_is); (case hn => k_is); (case ht => k_is); (case hm => k_is); (case sv => k_is)
    case D =>
      refine' Up.dfT_mk KX G ?a ?l ?c ?k ?lT ?lB
      (case a => k_is); (case l => k_is); (case c => k_is); (case k => k_is); (case lT => k_is); (case lB => k_is)
end
