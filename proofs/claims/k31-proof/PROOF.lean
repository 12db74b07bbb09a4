import PyProof.Rows.All
import Wide.All
import OpenK.AllK
import Wide.FinOn
import PyProof.ReprRoads
import PyProof.ReprLen
import KE.DataEq
import HandS.ForMost
import HandS.Codes
import HandS.More
import HandS.IsInst
import HandS.OwnEq
import HandS.Steps
import HandS.Evl
import HandS.Walk
import PyProof.CallType
import PyProof.Conv_bool
import PyProof.InstNe
import OpenK.KOps
import OpenK.KDescr
import OpenK.KCls
import KE.KTypeName
import KE.KStateDown
import KE.KSuper
import HandS.Star
import HandS.Defaults
import KE.KFromBytes
import HandS.Exc
import HandS.ExcSuper
import HandS.ExcInit
import KE.KLam
import HandS.TryOnly
import HandS.Lambda
import HandS.ExcIs
import HandS.ExcField
import HandS.SortInts
import HandS.Strs
import HandS.Wide
import HandS.Small
import HandS.Dict
import HandS.DictComp
import HandS.Style
import HandS.Iter
import HandS.ListItems
import HandS.WordsExc
import PySem.Challenge.RW_deepasdrawn_k31_great_folded_rows_by_for
import HandS.SortOrd
import PyProof.AutoSeq1
import HandS.List
import PyProof.EqKinds
import KE.KSortTup
import HandS.SortRule
import KE.KTupSum
import HandS.HeadHook1
import HandS.HeadHook2
import HandS.HeadHook3
import HandS.HeadHook4
import HandS.HeadWalk
import HandS.Head0
import HandS.Head1
import HandS.Head2
import HandS.Head3
set_option Elab.async false
set_option linter.all false
set_option maxRecDepth 100000
set_option maxHeartbeats 4000000
/-! ### data: lists made tuples all the way in; how great it is; seen by a heap that grows, or beside one object that changes -/
namespace OwnL
open PySem PySem.Spec PyProof.Rows L2
mutual
def tupd : PyData → PyData
  | .list xs => .tuple (tupdAll xs)
  | .tuple xs => .tuple (tupdAll xs)
  | .none => .none
  | .bool b => .bool b
  | .int i => .int i
  | .str x => .str x
  | .dict k => .dict k
def tupdAll : List PyData → List PyData
  | [] => []
  | x :: xs => tupd x :: tupdAll xs
end
theorem tupdAll_map : ∀ xs : List PyData, tupdAll xs = xs.map tupd
  | [] => rfl
  | x :: xs => by rw [tupdAll, tupdAll_map xs]; rfl
mutual
theorem tupd_tupd : ∀ d : PyData, tupd (tupd d) = tupd d
  | .list xs => by simp only [tupd]; rw [tupdAll_tupdAll xs]
  | .tuple xs => by simp only [tupd]; rw [tupdAll_tupdAll xs]
  | .none => rfl
  | .bool _ => rfl
  | .int _ => rfl
  | .str _ => rfl
  | .dict _ => rfl
theorem tupdAll_tupdAll : ∀ xs : List PyData, tupdAll (tupdAll xs) = tupdAll xs
  | [] => rfl
  | x :: xs => by simp only [tupdAll]; rw [tupd_tupd x, tupdAll_tupdAll xs]
end
mutual
theorem tupd_depth : ∀ d : PyData, (tupd d).depth = d.depth
  | .list xs => by simp only [tupd, PyData.depth]; rw [tupdAll_depth xs]
  | .tuple xs => by simp only [tupd, PyData.depth]; rw [tupdAll_depth xs]
  | .none => rfl
  | .bool _ => rfl
  | .int _ => rfl
  | .str _ => rfl
  | .dict _ => rfl
theorem tupdAll_depth : ∀ xs : List PyData, PyData.depthAll (tupdAll xs) = PyData.depthAll xs
  | [] => rfl
  | x :: xs => by simp only [tupdAll, PyData.depthAll]; rw [tupd_depth x, tupdAll_depth xs]
end
mutual
theorem tupd_weight : ∀ d : PyData, (tupd d).weight = d.weight
  | .list xs => by simp only [tupd, PyData.weight]; rw [tupdAll_weight xs]
  | .tuple xs => by simp only [tupd, PyData.weight]; rw [tupdAll_weight xs]
  | .none => rfl
  | .bool _ => rfl
  | .int _ => rfl
  | .str _ => rfl
  | .dict _ => rfl
theorem tupdAll_weight : ∀ xs : List PyData, PyData.weightAll (tupdAll xs) = PyData.weightAll xs
  | [] => rfl
  | x :: xs => by simp only [tupdAll, PyData.weightAll]; rw [tupd_weight x, tupdAll_weight xs]
end
mutual
theorem tupd_canLay : ∀ d : PyData, (tupd d).canLay0 = d.canLay0
  | .list xs => by simp only [tupd, PyData.canLay0]; rw [tupdAll_canLay xs]
  | .tuple xs => by simp only [tupd, PyData.canLay0]; rw [tupdAll_canLay xs]
  | .none => rfl
  | .bool _ => rfl
  | .int _ => rfl
  | .str _ => rfl
  | .dict _ => rfl
theorem tupdAll_canLay : ∀ xs : List PyData, PyData.canLayAll0 (tupdAll xs) = PyData.canLayAll0 xs
  | [] => rfl
  | x :: xs => by simp only [tupdAll, PyData.canLayAll0]; rw [tupd_canLay x, tupdAll_canLay xs]
end
mutual
theorem tupd_showable : ∀ d : PyData, (tupd d).showable = d.showable
  | .list xs => by simp only [tupd, PyData.showable]; rw [tupdAll_showable xs]
  | .tuple xs => by simp only [tupd, PyData.showable]; rw [tupdAll_showable xs]
  | .none => rfl
  | .bool _ => rfl
  | .int _ => rfl
  | .str _ => rfl
  | .dict _ => rfl
theorem tupdAll_showable : ∀ xs : List PyData, PyData.showableAll (tupdAll xs) = PyData.showableAll xs
  | [] => rfl
  | x :: xs => by simp only [tupdAll, PyData.showableAll]; rw [tupd_showable x, tupdAll_showable xs]
end
mutual
theorem tupd_short (B : Nat) : ∀ d : PyData, (tupd d).leavesShort B = d.leavesShort B
  | .list xs => by simp only [tupd, PyData.leavesShort]; rw [tupdAll_short B xs]
  | .tuple xs => by simp only [tupd, PyData.leavesShort]; rw [tupdAll_short B xs]
  | .none => rfl
  | .bool _ => rfl
  | .int _ => rfl
  | .str _ => rfl
  | .dict _ => rfl
theorem tupdAll_short (B : Nat) : ∀ xs : List PyData, PyData.leavesShortAll B (tupdAll xs) = PyData.leavesShortAll B xs
  | [] => rfl
  | x :: xs => by simp only [tupdAll, PyData.leavesShortAll]; rw [tupd_short B x, tupdAll_short B xs]
end
/-- at most so deep, so great; its words can be written and are short -/
structure Small (n W : Nat) (d : PyData) : Prop where
  dp : d.depth ≤ n
  wt : d.weight ≤ W
  cl : d.canLay0 = true
  sh : d.showable = true
  lv : d.leavesShort 44 = true
theorem Small.tupd {n W : Nat} {d : PyData} (s : Small n W d) : Small n W (tupd d) := ⟨by rw [tupd_depth]; exact s.dp, by rw [tupd_weight]; exact s.wt, by rw [tupd_canLay]; exact s.cl, by rw [tupd_showable]; exact s.sh, by rw [tupd_short]; exact s.lv⟩
theorem Small.mono {n m W V : Nat} {d : PyData} (s : Small n W d) (h : n ≤ m) (k : W ≤ V) : Small m V d := ⟨Nat.le_trans s.dp h, Nat.le_trans s.wt k, s.cl, s.sh, s.lv⟩
theorem Small.shaped {n W : Nat} {d : PyData} (s : Small n W d) (h : n ≤ 64) : SeqAt.shaped d = true := by
  show (d.canLay0 && decide (d.depth ≤ 64)) = true
  rw [s.cl]
  simpa using Nat.le_trans s.dp h
theorem Small.fits {n W : Nat} {d : PyData} (s : Small n W d) (h : W ≤ 300000) : d.shown.length ≤ sizeLine := by
  have h1 := PyData.shown_le 44 (by decide) d s.lv
  have h2 : d.weight ≤ 300000 := Nat.le_trans s.wt h
  have h3 : (44 + 2) * d.weight ≤ (44 + 2) * 300000 := Nat.mul_le_mul (Nat.le_refl _) h2
  rw [sizeLine_eq]
  omega
/-- a row of such -/
inductive Smalls (n W : Nat) : List PyData → Prop
  | nil : Smalls n W []
  | cons {d : PyData} {ds : List PyData} : Small n W d → Smalls n W ds → Smalls n W (d :: ds)
theorem Smalls.all {n W : Nat} : ∀ {ds : List PyData}, Smalls n W ds → PyData.depthAll ds ≤ n ∧ PyData.weightAll ds ≤ ds.length * (W + 1) ∧ PyData.canLayAll0 ds = true ∧ PyData.showableAll ds = true ∧ PyData.leavesShortAll 44 ds = true
  | _, .nil => ⟨Nat.zero_le _, by simp [PyData.weightAll], rfl, rfl, rfl⟩
  | _, .cons (d := d) (ds := ds) s r => by
    obtain ⟨h1, h2, h3, h4, h5⟩ := r.all
    refine ⟨?_, ?_, ?_, ?_, ?_⟩
    · simp only [PyData.depthAll]; exact Nat.max_le.mpr ⟨s.dp, h1⟩
    · simp only [PyData.weightAll, List.length_cons]
      have := s.wt
      rw [Nat.succ_mul]
      omega
    · simp only [PyData.canLayAll0, s.cl, h3, Bool.and_self]
    · simp only [PyData.showableAll, s.sh, h4, Bool.and_self]
    · simp only [PyData.leavesShortAll, s.lv, h5, Bool.and_self]
theorem Smalls.list {n W V : Nat} {ds : List PyData} (s : Smalls n W ds) (h : ds.length * (W + 1) ≤ V) : Small (n + 1) V (.list ds) := by
  obtain ⟨h1, h2, h3, h4, h5⟩ := s.all
  exact ⟨by simp only [PyData.depth]; omega, by simp only [PyData.weight]; omega, by simpa only [PyData.canLay0] using h3, by simpa only [PyData.showable] using h4, by simpa only [PyData.leavesShort] using h5⟩
theorem Smalls.tuple {n W V : Nat} {ds : List PyData} (s : Smalls n W ds) (h : ds.length * (W + 1) ≤ V) : Small (n + 1) V (.tuple ds) := by
  obtain ⟨h1, h2, h3, h4, h5⟩ := s.all
  exact ⟨by simp only [PyData.depth]; omega, by simp only [PyData.weight]; omega, by simpa only [PyData.canLay0] using h3, by simpa only [PyData.showable] using h4, by simpa only [PyData.leavesShort] using h5⟩
mutual
theorem plain_of : ∀ d : PyData, d.canLay0 = true → d.plain = true
  | .list xs, h => by simp only [PyData.plain]; exact plainAll_of xs (by simpa only [PyData.canLay0] using h)
  | .tuple xs, h => by simp only [PyData.plain]; exact plainAll_of xs (by simpa only [PyData.canLay0] using h)
  | .none, _ => rfl
  | .bool _, _ => rfl
  | .int _, _ => rfl
  | .str _, _ => rfl
  | .dict _, h => by simp [PyData.canLay0] at h
theorem plainAll_of : ∀ xs : List PyData, PyData.canLayAll0 xs = true → PyData.plainAll xs = true
  | [], _ => rfl
  | x :: xs, h => by
    have h' : x.canLay0 = true ∧ PyData.canLayAll0 xs = true := by simpa [PyData.canLayAll0] using h
    simp only [PyData.plainAll, plain_of x h'.1, plainAll_of xs h'.2, Bool.and_self]
end
/-! what is equal is equally deep -/
mutual
theorem eqv_depth : ∀ a b : PyData, PyData.eqv a b = true → a.depth = b.depth
  | .list xs, .list ys, h => by
    simp only [PyData.depth]
    rw [eqvAll_depth xs ys (by simpa only [PyData.eqv] using h)]
  | .tuple xs, .tuple ys, h => by
    simp only [PyData.depth]
    rw [eqvAll_depth xs ys (by simpa only [PyData.eqv] using h)]
  | .none, .none, _ => rfl
  | .bool _, .bool _, _ => rfl
  | .bool _, .int _, _ => rfl
  | .int _, .bool _, _ => rfl
  | .int _, .int _, _ => rfl
  | .str _, .str _, _ => rfl
  | .list _, .none, h => by simp [PyData.eqv] at h
  | .list _, .bool _, h => by simp [PyData.eqv] at h
  | .list _, .int _, h => by simp [PyData.eqv] at h
  | .list _, .str _, h => by simp [PyData.eqv] at h
  | .list _, .tuple _, h => by simp [PyData.eqv] at h
  | .list _, .dict _, h => by simp [PyData.eqv] at h
  | .tuple _, .none, h => by simp [PyData.eqv] at h
  | .tuple _, .bool _, h => by simp [PyData.eqv] at h
  | .tuple _, .int _, h => by simp [PyData.eqv] at h
  | .tuple _, .str _, h => by simp [PyData.eqv] at h
  | .tuple _, .list _, h => by simp [PyData.eqv] at h
  | .tuple _, .dict _, h => by simp [PyData.eqv] at h
  | .none, .bool _, h => by simp [PyData.eqv] at h
  | .none, .int _, h => by simp [PyData.eqv] at h
  | .none, .str _, h => by simp [PyData.eqv] at h
  | .none, .list _, h => by simp [PyData.eqv] at h
  | .none, .tuple _, h => by simp [PyData.eqv] at h
  | .none, .dict _, h => by simp [PyData.eqv] at h
  | .bool _, .none, h => by simp [PyData.eqv] at h
  | .bool _, .str _, h => by simp [PyData.eqv] at h
  | .bool _, .list _, h => by simp [PyData.eqv] at h
  | .bool _, .tuple _, h => by simp [PyData.eqv] at h
  | .bool _, .dict _, h => by simp [PyData.eqv] at h
  | .int _, .none, h => by simp [PyData.eqv] at h
  | .int _, .str _, h => by simp [PyData.eqv] at h
  | .int _, .list _, h => by simp [PyData.eqv] at h
  | .int _, .tuple _, h => by simp [PyData.eqv] at h
  | .int _, .dict _, h => by simp [PyData.eqv] at h
  | .str _, .none, h => by simp [PyData.eqv] at h
  | .str _, .bool _, h => by simp [PyData.eqv] at h
  | .str _, .int _, h => by simp [PyData.eqv] at h
  | .str _, .list _, h => by simp [PyData.eqv] at h
  | .str _, .tuple _, h => by simp [PyData.eqv] at h
  | .str _, .dict _, h => by simp [PyData.eqv] at h
  | .dict _, .dict _, h => by simp [PyData.eqv] at h
  | .dict _, .none, h => by simp [PyData.eqv] at h
  | .dict _, .bool _, h => by simp [PyData.eqv] at h
  | .dict _, .int _, h => by simp [PyData.eqv] at h
  | .dict _, .str _, h => by simp [PyData.eqv] at h
  | .dict _, .list _, h => by simp [PyData.eqv] at h
  | .dict _, .tuple _, h => by simp [PyData.eqv] at h
theorem eqvAll_depth : ∀ xs ys : List PyData, PyData.eqvAll xs ys = true → PyData.depthAll xs = PyData.depthAll ys
  | [], [], _ => rfl
  | x :: xs, y :: ys, h => by
    have h' : PyData.eqv x y = true ∧ PyData.eqvAll xs ys = true := by simpa only [PyData.eqvAll, Bool.and_eq_true] using h
    simp only [PyData.depthAll]
    rw [eqv_depth x y h'.1, eqvAll_depth xs ys h'.2]
  | [], _ :: _, h => by simp [PyData.eqvAll] at h
  | _ :: _, [], h => by simp [PyData.eqvAll] at h
end
theorem Small.refl {n W : Nat} {d : PyData} (s : Small n W d) : PyData.eqv d d = true := PySem.SeqAt.eqv_refl_plain d (plain_of d s.cl)
/-! data in a heap that grows -/
section
variable {K : PySem.W.Frag} {H H' : Hp}
mutual
theorem Dp.ext (e : Ext H H') : ∀ {v : V} {d : PyData}, Dp K H v d → Dp K H' v d
  | _, _, .non => .non
  | _, _, .bl b => .bl b
  | _, _, .int i => .int i
  | _, _, .str x => .str x
  | _, _, .lst h a => .lst (SqL.ext h e) (DpAll.ext e a)
  | _, _, .tup h a => .tup (SqT.ext h e) (DpAll.ext e a)
theorem DpAll.ext (e : Ext H H') : ∀ {vs : List V} {ds : List PyData}, DpAll K H vs ds → DpAll K H' vs ds
  | _, _, .nil => .nil
  | _, _, .cons h r => .cons (Dp.ext e h) (DpAll.ext e r)
end
theorem DpAll.length : ∀ {vs : List V} {ds : List PyData}, DpAll K H vs ds → vs.length = ds.length
  | _, _, .nil => rfl
  | _, _, .cons _ r => by simp [DpAll.length r]
theorem DpAll.get : ∀ {vs : List V} {ds : List PyData} {i : Nat} {v : V}, DpAll K H vs ds → vs[i]? = some v → ∃ d, ds[i]? = some d ∧ Dp K H v d
  | _, _, _, _, .nil, e => by simp at e
  | _, _, 0, _, .cons h _, e => by simp at e; subst e; exact ⟨_, rfl, h⟩
  | _, _, i + 1, v, .cons _ r, e => by
    obtain ⟨d, h1, h2⟩ := DpAll.get (i := i) (v := v) r (by simpa using e)
    exact ⟨d, by simpa using h1, h2⟩
theorem DpAll.append : ∀ {vs ws : List V} {ds es : List PyData}, DpAll K H vs ds → DpAll K H ws es → DpAll K H (vs ++ ws) (ds ++ es)
  | _, _, _, _, .nil, s => s
  | _, _, _, _, .cons h r, s => .cons h (DpAll.append r s)
theorem DpAll.take (n : Nat) : ∀ {vs : List V} {ds : List PyData}, DpAll K H vs ds → DpAll K H (vs.take n) (ds.take n) := by
  induction n with
  | zero => intro vs ds _; exact .nil
  | succ n ih =>
    intro vs ds h
    cases h with
    | nil => exact .nil
    | cons h r => exact .cons h (ih r)
/-- all but the object at p -/
def hide (p : Addr) (H : Hp) : Hp := fun b => if b = p then none else H b
theorem hide_ext (p : Addr) (H : Hp) : Ext (hide p H) H := fun b o e => by
  unfold hide at e
  split at e
  · cases e
  · exact e
theorem hide_get {p b : Addr} {H : Hp} (n : b ≠ p) : hide p H b = H b := by unfold hide; rw [if_neg n]
theorem hide_of {p b : Addr} {o : HO} {H : Hp} (e : hide p H b = some o) : b ≠ p ∧ H b = some o := by
  unfold hide at e
  split at e
  · cases e
  · exact ⟨by assumption, e⟩
theorem hide_mono {p : Addr} {H H' : Hp} (e : Ext H H') : Ext (hide p H) (hide p H') := fun b o h => by
  obtain ⟨n, q⟩ := hide_of h
  rw [hide_get n]
  exact e b o q
theorem hide_upd {p : Addr} {o : HO} {H : Hp} : hide p (upd H p o) = hide p H := by
  funext b
  unfold hide
  by_cases n : b = p
  · rw [if_pos n, if_pos n]
  · rw [if_neg n, if_neg n, upd_ne n]
theorem hide_new {p q : Addr} {o : HO} {H : Hp} (n : q ≠ p) : hide p (upd H q o) = upd (hide p H) q o := by
  funext b
  unfold hide
  by_cases e : b = q
  · subst e
    rw [if_neg n, upd_same, upd_same]
  · rw [upd_ne e, upd_ne e]
end
end OwnL

/-! ### evaluation up to what is true of the value in any heap that has grown -/
namespace OwnL
open PySem PySem.Spec PyProof.Rows L2 Evl
def EvP (te : TE) (σ : L2.St) (H : Hp) (P : V → Hp → Prop) : Prop := ∀ H1, Ex H H1 → ∀ Q : VK, (∀ v H2, Ex H1 H2 → P v H2 → Q v H2) → te σ H1 Q
/-- several arguments -/
def EvPs (ta : TA) (σ : L2.St) (H : Hp) (P : List V → Hp → Prop) : Prop := ∀ H1, Ex H H1 → ∀ Q : List V → Hp → Prop, (∀ vs H2, Ex H1 H2 → P vs H2 → Q vs H2) → ta σ H1 Q
/-- it stays true where more is there -/
def Up {α : Type} (P : α → Hp → Prop) : Prop := ∀ a H H', Ex H H' → P a H → P a H'
section
variable {X : Cx} {σ : L2.St} {H H' : Hp} {te ta tb : TE} {v x y z : V} {K : PySem.W.Frag} {P P' R : V → Hp → Prop}
theorem EvP.up (e : Ex H H') (h : EvP te σ H P) : EvP te σ H' P := fun H1 a Q q => h H1 (e.trans a) Q q
theorem EvP.imp (h : EvP te σ H P) (k : ∀ v H1, Ex H H1 → P v H1 → P' v H1) : EvP te σ H P' := fun H1 e Q q => h H1 e Q fun v H2 e2 p => q v H2 e2 (k v H2 (e.trans e2) p)
theorem EvP.of (h : Ev te σ H v) : EvP te σ H fun u _ => u = v := fun H1 e Q q => h H1 e Q fun H2 e2 => q v H2 e2 rfl
theorem EvP.is (h : Ev te σ H v) (k : ∀ H1, Ex H H1 → P v H1) : EvP te σ H P := fun H1 e Q q => h H1 e Q fun H2 e2 => q v H2 e2 (k H2 (e.trans e2))
theorem EvP.ev (h : EvP te σ H fun u _ => u = v) : Ev te σ H v := fun H1 e Q q => h H1 e Q fun u H2 e2 p => by subst p; exact q H2 e2
theorem EvP.ofL {xs : List V} (h : EvL te σ H xs) : EvP te σ H fun v H2 => ∃ p, v = .ref p ∧ H p = none ∧ H2 p = some (.lst xs) := fun H1 e Q q => h H1 e _ fun p H2 hp e2 h2 => q (.ref p) H2 e2 ⟨p, rfl, fresh_back e hp, h2⟩
theorem EvP.ofU {xs : List V} (h : EvU te σ H xs) : EvP te σ H fun v H2 => ∃ p, v = .ref p ∧ H p = none ∧ H2 p = some (.tup xs) := fun H1 e Q q => h H1 e _ fun p H2 hp e2 h2 => q (.ref p) H2 e2 ⟨p, rfl, fresh_back e hp, h2⟩
theorem ep_nil : EvPs tNil σ H fun vs _ => vs = [] := fun H1 _ _ q => q [] H1 (Ex.refl H1) rfl
theorem ep_cons {tr : TA} {Ps : List V → Hp → Prop} (hP : Up P) (h : EvP te σ H P) (hr : EvPs tr σ H Ps) : EvPs (tCons te tr) σ H fun vs H2 => ∃ u us, vs = u :: us ∧ P u H2 ∧ Ps us H2 := fun H1 e Q q =>
  h H1 e _ fun u H2 e2 p => hr H2 (e.trans e2) _ fun us H3 e3 ps => q (u :: us) H3 (e2.trans e3) ⟨u, us, rfl, hP u H2 H3 e3 p, ps⟩
theorem EvPs.of {t : TA} {vs : List V} (h : EvA t σ H vs) : EvPs t σ H fun us _ => us = vs := fun H1 e Q q => h H1 e Q fun H2 e2 => q vs H2 e2 rfl
theorem EvPs.imp {t : TA} {Ps Ps' : List V → Hp → Prop} (h : EvPs t σ H Ps) (k : ∀ v H1, Ex H H1 → Ps v H1 → Ps' v H1) : EvPs t σ H Ps' := fun H1 e Q q => h H1 e Q fun v H2 e2 p => q v H2 e2 (k v H2 (e.trans e2) p)
/-- a call of a def, by what it promises from any arguments of a kind -/
theorem ep_call {sp : Sp} {dvs : List V} {E : XK} {t : TA} {Ps : List V → Hp → Prop} (h : EvPs t σ H Ps) (hs : ∀ vs H1, Ex H H1 → Ps vs H1 → ∀ Q : VK, (∀ v H2, Ex H1 H2 → P v H2 → Q v H2) → sp (vs ++ dvs) H1 Q E) : EvP (tCall sp dvs E t) σ H P := fun H1 e Q q =>
  h H1 e _ fun vs H2 e2 p => hs vs H2 (e.trans e2) p Q fun v H3 e3 pv => q v H3 (e2.trans e3) pv
theorem ep_cb {r : List V → Hp → VK → Prop} {t : TA} {Ps : List V → Hp → Prop} (h : EvPs t σ H Ps) (hr : ∀ vs H1, Ex H H1 → Ps vs H1 → ∀ Q : VK, (∀ v H2, Ex H1 H2 → P v H2 → Q v H2) → r vs H1 Q) : EvP (tCB r t) σ H P := fun H1 e Q q =>
  h H1 e _ fun vs H2 e2 p => hr vs H2 (e.trans e2) p Q fun v H3 e3 pv => q v H3 (e2.trans e3) pv
theorem ep_op {r : R2} (hP : Up P) (ha : EvP ta σ H P) (hb : EvP tb σ H P') (hr : ∀ x y H1, Ex H H1 → P x H1 → P' y H1 → ∀ Q : VK, (∀ v H2, Ex H1 H2 → R v H2 → Q v H2) → r x y H1 Q) : EvP (tOp r ta tb) σ H R := fun H1 e Q q =>
  ha H1 e _ fun x H2 e2 p => hb H2 (e.trans e2) _ fun y H3 e3 p' => hr x y H3 ((e.trans e2).trans e3) (hP x H2 H3 e3 p) p' Q fun v H4 e4 r4 => q v H4 ((e2.trans e3).trans e4) r4
theorem ep_tup {t : TA} {Ps : List V → Hp → Prop} (h : EvPs t σ H Ps) (hl : ∀ vs H1, Ps vs H1 → vs.length ≤ 100000) (hu : Up Ps) : EvP (tTup t) σ H fun v H2 => ∃ p vs, v = .ref p ∧ H p = none ∧ H2 p = some (.tup vs) ∧ Ps vs H2 := fun H1 e Q q =>
  h H1 e _ fun vs H2 e2 p => ⟨sz_of (hl vs H2 p), fun a ha => q (.ref a) _ (e2.trans (Ex.new ha)) ⟨a, vs, rfl, fresh_back (e.trans e2) ha, upd_same, hu vs _ _ (Ex.new ha) p⟩⟩
theorem ep_lst {t : TA} {Ps : List V → Hp → Prop} (h : EvPs t σ H Ps) (hl : ∀ vs H1, Ps vs H1 → vs.length ≤ 100000) (hu : Up Ps) : EvP (tLst t) σ H fun v H2 => ∃ p vs, v = .ref p ∧ H p = none ∧ H2 p = some (.lst vs) ∧ Ps vs H2 := fun H1 e Q q =>
  h H1 e _ fun vs H2 e2 p => ⟨sz_of (hl vs H2 p), fun a ha => q (.ref a) _ (e2.trans (Ex.new ha)) ⟨a, vs, rfl, fresh_back (e.trans e2) ha, upd_same, hu vs _ _ (Ex.new ha) p⟩⟩
theorem ep_if {t : TT} {b : Bool} (h : EvT t σ H b) (h1 : b = true → EvP ta σ H P) (h2 : b = false → EvP tb σ H P) : EvP (tIf t ta tb) σ H P := fun H1 e Q q => h H1 e _ fun H2 e2 => by
  cases b with
  | true => exact h1 rfl H2 (e.trans e2) Q fun v H3 e3 p => q v H3 (e2.trans e3) p
  | false => exact h2 rfl H2 (e.trans e2) Q fun v H3 e3 p => q v H3 (e2.trans e3) p
theorem ev_chain {r r' : R2} {tc : TE} {k k' : Bool} (ha : Ev ta σ H x) (hb : Ev tb σ H y) (hr : RV r x y H (.bl k)) (hc : k = true → Ev tc σ H z ∧ RV r' y z H (.bl k')) : Ev (tChain r r' ta tb tc) σ H (.bl (k && k')) := fun H1 e Q q =>
  ha H1 e _ fun H2 e2 => hb H2 (e.trans e2) _ fun H3 e3 => hr H3 ((e.trans e2).trans e3) _ fun H4 e4 => ⟨k, rfl, by
    have e14 := (e2.trans e3).trans e4
    cases k with
    | true =>
      obtain ⟨c1, c2⟩ := hc rfl
      exact c1 H4 (e.trans e14) _ fun H5 e5 => c2 H5 ((e.trans e14).trans e5) Q fun H6 e6 => q H6 ((e14.trans e5).trans e6)
    | false => exact q H4 e14⟩
theorem pi_or {tg l : Expr} {w1 w2 : TI} (h1 : PI X tg l w1) (h2 : PI X tg l w2) : PI X tg l (fun σ H R => w1 σ H R ∨ w2 σ H R) := ⟨fun pins s σ H R I h => h.elim (h1.run pins s σ H R I) (h2.run pins s σ H R I)⟩
theorem sr_ret {D : Ends} (h : EvP te σ H P) (k : ∀ v H1, Ex H H1 → P v H1 → D.rt v H1) : tRet te D σ H := h H (Ex.refl H) _ k
theorem sr_asg {D : Ends} {i : Nat} (h : EvP te σ H P) (k : ∀ v H1, Ex H H1 → P v H1 → D.nx (σ.set i (some v)) H1) : tAsg te (gName i) D σ H := h H (Ex.refl H) _ k
/-! a comprehension without tests: items xs i of an iterable that stays as it is; what is true of the items found is true beside the new list -/
def Lc (H : Hp) (P : Nat → V → Hp → Prop) (D : Addr) (i : Nat) (H' : Hp) : Prop := H D = none ∧ Ex H H' ∧ ∃ acc : List V, H' D = some (.lst acc) ∧ acc.length = i ∧ ∀ (j : Nat) (u : V), acc[j]? = some u → P j u (hide D H')
theorem hide_ex {p : Addr} (e : Ex H H') : Ex (hide p H) (hide p H') := hide_mono e
theorem ep_lc {J : It} {n : Nat} {G : Hp → Prop} {Y : Nat → Hp → V → Hp → Prop} (w : Walk J n G Y) {j : Nat} {vs : List Nat} (xs : Nat → V) (Pi : Nat → V → Hp → Prop) (hG : ∀ H', Ex H H' → G H') (hY : ∀ i H1 x H2, i < n → Ex H H1 → Y i H1 x H2 → H2 = H1 ∧ x = xs i)
    (hn : n ≤ 50000) (hw : ∀ x, wipe ((wipe σ vs).set j (some x)) vs = wipe σ vs) (up : ∀ i, Up (Pi i))
    (he : ∀ i H1 D acc, i < n → Ex H H1 → H D = none → H1 D = some (.lst acc) → EvP te ((wipe σ vs).set j (some (xs i))) H1 (fun u H2 => Pi i u (hide D H2))) (Q : VK) (hQ : ∀ D H2, H D = none → Ex H H2 → (∃ acc : List V, H2 D = some (.lst acc) ∧ acc.length = n ∧ ∀ (j : Nat) (u : V), acc[j]? = some u → Pi j u (hide D H2)) → Q (.ref D) H2) :
    ∀ D, H D = none → ∃ W : Nat → Nat → Hp → Prop, (∃ m, W 0 m (upd H D (.lst []))) ∧ ∀ i m H, W i m H →
      (J.stop i H ∧ Q (.ref D) H) ∨ (J.go i H ∧ ∃ Nx : Hp → Prop, (∀ H', Nx H' → ∃ m', m' < m ∧ W (i + 1) m' H') ∧ ∀ x H', J.yld i H x H' → gName j x (wipe σ vs) H' fun σ2 H2 => wipe σ2 vs = wipe σ vs ∧ tYes σ2 H2 fun b H3 =>
        if b = true then te σ2 H3 fun y H4 => ∃ acc, H4 D = some (.lst acc) ∧ acc.length < sizeLine ∧ Nx (upd H4 D (.lst (acc ++ [y]))) else Nx H3) := fun D hD =>
  lc_it w (Lc H Pi D) ⟨hD, Ex.new hD, [], upd_same, rfl, fun j u h => by simp at h⟩ (fun i H' _ p => hG H' p.2.1) (fun i x H' H2 hi p y => by
    obtain ⟨p1, p2, acc, p3, p4, p5⟩ := p
    obtain ⟨rfl, rfl⟩ := hY i H' x H2 hi p2 y
    refine ⟨hw _, ?_⟩
    show (if true = true then (te ((wipe σ vs).set j (some (xs i))) H2 fun y H4 => ∃ acc, H4 D = some (.lst acc) ∧ acc.length < sizeLine ∧ Lc H Pi D (i + 1) (upd H4 D (.lst (acc ++ [y])))) else Lc H Pi D (i + 1) H2)
    rw [if_pos rfl]
    refine he i H2 D acc hi p2 p1 p3 H2 (Ex.refl H2) _ fun u H4 e4 pu => ⟨acc, e4 D _ p3, sz_lt (by omega), p1, Ex.mut (p2.trans e4) p1, acc ++ [u], upd_same, by simp [p4], fun k z hz => ?_⟩
    rw [hide_upd]
    by_cases hk : k < acc.length
    · rw [List.getElem?_append_left hk] at hz
      exact up k z _ _ (hide_ex e4) (p5 k z hz)
    · have hk2 : k = acc.length := by
        have := (List.getElem?_eq_some_iff.mp hz).1
        simp at this
        omega
      subst hk2
      rw [List.getElem?_append_right (Nat.le_refl _)] at hz
      simp at hz
      subst hz
      rw [p4]
      exact pu) fun H' p => hQ D H' p.1 p.2.1 p.2.2
/-- the same with any target: sg i what the slots are behind it -/
theorem ep_lcg {J : It} {n : Nat} {G : Hp → Prop} {Y : Nat → Hp → V → Hp → Prop} (w : Walk J n G Y) {g : TG} {vs : List Nat} (xs : Nat → V) (sg : Nat → L2.St) (Pi : Nat → V → Hp → Prop) (hG : ∀ H', Ex H H' → G H') (hY : ∀ i H1 x H2, i < n → Ex H H1 → Y i H1 x H2 → H2 = H1 ∧ x = xs i)
    (hn : n ≤ 50000) (hw : ∀ i, i < n → wipe (sg i) vs = wipe σ vs) (hg : ∀ i H1, i < n → Ex H H1 → ∀ Q : L2.St → Hp → Prop, Q (sg i) H1 → g (xs i) (wipe σ vs) H1 Q) (up : ∀ i, Up (Pi i))
    (he : ∀ i H1 D acc, i < n → Ex H H1 → H D = none → H1 D = some (.lst acc) → EvP te (sg i) H1 (fun u H2 => Pi i u (hide D H2))) (Q : VK) (hQ : ∀ D H2, H D = none → Ex H H2 → (∃ acc : List V, H2 D = some (.lst acc) ∧ acc.length = n ∧ ∀ (j : Nat) (u : V), acc[j]? = some u → Pi j u (hide D H2)) → Q (.ref D) H2) :
    ∀ D, H D = none → ∃ W : Nat → Nat → Hp → Prop, (∃ m, W 0 m (upd H D (.lst []))) ∧ ∀ i m H, W i m H →
      (J.stop i H ∧ Q (.ref D) H) ∨ (J.go i H ∧ ∃ Nx : Hp → Prop, (∀ H', Nx H' → ∃ m', m' < m ∧ W (i + 1) m' H') ∧ ∀ x H', J.yld i H x H' → g x (wipe σ vs) H' fun σ2 H2 => wipe σ2 vs = wipe σ vs ∧ tYes σ2 H2 fun b H3 =>
        if b = true then te σ2 H3 fun y H4 => ∃ acc, H4 D = some (.lst acc) ∧ acc.length < sizeLine ∧ Nx (upd H4 D (.lst (acc ++ [y]))) else Nx H3) := fun D hD =>
  lc_it w (Lc H Pi D) ⟨hD, Ex.new hD, [], upd_same, rfl, fun j u h => by simp at h⟩ (fun i H' _ p => hG H' p.2.1) (fun i x H' H2 hi p y => by
    obtain ⟨p1, p2, acc, p3, p4, p5⟩ := p
    obtain ⟨rfl, rfl⟩ := hY i H' x H2 hi p2 y
    refine hg i H2 hi p2 _ ⟨hw i hi, ?_⟩
    show (if true = true then (te (sg i) H2 fun y H4 => ∃ acc, H4 D = some (.lst acc) ∧ acc.length < sizeLine ∧ Lc H Pi D (i + 1) (upd H4 D (.lst (acc ++ [y])))) else Lc H Pi D (i + 1) H2)
    rw [if_pos rfl]
    refine he i H2 D acc hi p2 p1 p3 H2 (Ex.refl H2) _ fun u H4 e4 pu => ⟨acc, e4 D _ p3, sz_lt (by omega), p1, Ex.mut (p2.trans e4) p1, acc ++ [u], upd_same, by simp [p4], fun k z hz => ?_⟩
    rw [hide_upd]
    by_cases hk : k < acc.length
    · rw [List.getElem?_append_left hk] at hz
      exact up k z _ _ (hide_ex e4) (p5 k z hz)
    · have hk2 : k = acc.length := by
        have := (List.getElem?_eq_some_iff.mp hz).1
        simp at this
        omega
      subst hk2
      rw [List.getElem?_append_right (Nat.le_refl _)] at hz
      simp at hz
      subst hz
      rw [p4]
      exact pu) fun H' p => hQ D H' p.1 p.2.1 p.2.2
/-- over a list that stays -/
theorem ep_lcL {a : Addr} {ls : List V} {tl : TE} {g : TG} {vs : List Nat} (hl : Ev tl σ H (.ref a)) (hs : SqL K H a ls) (sg : Nat → L2.St) (Pi : Nat → V → Hp → Prop) (hn : ls.length ≤ 50000) (hw : ∀ i, i < ls.length → wipe (sg i) vs = wipe σ vs)
    (hg : ∀ i H1, i < ls.length → Ex H H1 → ∀ Q : L2.St → Hp → Prop, Q (sg i) H1 → g (ls.getD i .non) (wipe σ vs) H1 Q) (up : ∀ i, Up (Pi i)) (he : ∀ i H1 D acc, i < ls.length → Ex H H1 → H D = none → H1 D = some (.lst acc) → EvP te (sg i) H1 (fun u H2 => Pi i u (hide D H2))) :
    EvP (tLc (iList K tl) g tYes te vs) σ H fun v H2 => ∃ D acc, v = .ref D ∧ H D = none ∧ H2 D = some (.lst acc) ∧ acc.length = ls.length ∧ ∀ (j : Nat) (u : V), acc[j]? = some u → Pi j u (hide D H2) := fun H0 e0 Q q => hl H0 e0 _ fun H1 e1 =>
  ⟨a, rfl, ⟨ls, ex_l (e0.trans e1) hs⟩, ep_lcg (H := H1) (walk_list (K := K) (a := a) (xs := ls)) (fun i => ls.getD i .non) sg Pi (fun H' e => ex_l ((e0.trans e1).trans e) hs) (fun i H2 x H3 hi e y => ⟨y.1, by rw [List.getD_eq_getElem?_getD, y.2]; rfl⟩) hn hw
    (fun i H2 hi e => hg i H2 hi ((e0.trans e1).trans e)) up (fun i H2 D acc hi e hD h2 => he i H2 D acc hi ((e0.trans e1).trans e) (fresh_back (e0.trans e1) hD) h2) Q fun D H2 hD e2 ⟨acc, h1, h2, h3⟩ => q (.ref D) H2 (e1.trans e2) ⟨D, acc, rfl, fresh_back (e0.trans e1) hD, h1, h2, h3⟩⟩
/-- over a list of pairs that stays: [f one other for one, other in l] -/
theorem el_lcPair {a : Addr} {ls : List V} {tl : TE} {i j k : Nat} {vs : List Nat} (f : V → V → V) (one two : Nat → V) (hl : Ev tl σ H (.ref a)) (hs : SqL K H a ls) (hp : ∀ m u, ls[m]? = some u → ∃ t, u = .ref t ∧ SqT K H t [one m, two m]) (hn : ls.length ≤ 50000)
    (hw : ∀ x y, wipe (((wipe σ vs).set i (some x)).set j (some y)) vs = wipe σ vs) (hv : ∀ x y, (((wipe σ vs).set i (some x)).set j (some y))[k]? = some (some (f x y))) :
    EvL (tLc (iList K tl) (gTup K 2 (gCons (gName i) (gCons (gName j) gNil))) tYes (tVar k) vs) σ H ((List.range ls.length).map fun m => f (one m) (two m)) := fun H1 e1 Q q =>
  ep_lcL (H := H1) (K := K) (a := a) (ls := ls) (hl.mono e1) (ex_l e1 hs) (fun m => ((wipe σ vs).set i (some (one m))).set j (some (two m))) (fun m u _ => u = f (one m) (two m)) hn (fun m _ => hw _ _)
    (fun m H2 hm e2 R hR => by
      obtain ⟨u, hu⟩ : ∃ u, ls[m]? = some u := ⟨_, List.getElem?_eq_getElem hm⟩
      obtain ⟨t, ht, hq⟩ := hp m u hu
      rw [List.getD_eq_getElem?_getD, hu]
      exact ⟨t, _, ht, ex_t (e1.trans e2) hq, rfl, _, _, rfl, _, _, rfl, rfl, hR⟩) (fun m u H2 H3 e h => h)
    (fun m H2 D acc _ _ _ _ => EvP.of (ev_var (hv _ _))) H1 (Ex.refl H1) _ fun v H2 e2 ⟨D, acc, hv2, hD, hacc, hlen, hall⟩ => by
      subst hv2
      refine q D H2 hD e2 ?_
      rw [hacc]
      congr 2
      refine List.ext_getElem? fun m => ?_
      by_cases hm : m < acc.length
      · have h1 := List.getElem?_eq_getElem hm
        rw [h1, hall m _ h1, List.getElem?_map, List.getElem?_range (by omega)]
        rfl
      · rw [List.getElem?_eq_none (by omega), List.getElem?_eq_none (by simp; omega)]
/-- over a list that stays, no item passes the tests -/
theorem el_lcNone {a : Addr} {ls : List V} {tl te2 : TE} {g : TG} {t : TT} {vs : List Nat} (hl : Ev tl σ H (.ref a)) (hs : SqL K H a ls) (sg : Nat → L2.St) (hw : ∀ i, i < ls.length → wipe (sg i) vs = wipe σ vs)
    (hg : ∀ i H1, i < ls.length → Ex H H1 → ∀ Q : L2.St → Hp → Prop, Q (sg i) H1 → g (ls.getD i .non) (wipe σ vs) H1 Q) (ht : ∀ i H1, i < ls.length → Ex H H1 → EvT t (sg i) H1 false) : EvL (tLc (iList K tl) g t te2 vs) σ H [] := fun H1 e1 Q q => hl H1 e1 _ fun H2 e2 =>
  ⟨a, rfl, ⟨ls, ex_l (e1.trans e2) hs⟩, fun D hD => lc_it (walk_list (K := K) (a := a) (xs := ls)) (fun _ H' => Ex H2 H' ∧ H' D = some (.lst [])) ⟨Ex.new hD, upd_same⟩ (fun i H' _ p => ex_l ((e1.trans e2).trans p.1) hs) (fun i x H' H3 hi p y => by
    obtain ⟨y1, y2⟩ := y
    subst y1
    have e3 := (e1.trans e2).trans p.1
    have hx : x = ls.getD i .non := by rw [List.getD_eq_getElem?_getD, y2]; rfl
    rw [hx]
    exact hg i H3 hi e3 _ ⟨hw i hi, ht i H3 hi e3 H3 (Ex.refl H3) _ fun H4 e4 => iteF ⟨p.1.trans e4, e4 D _ p.2⟩⟩) fun H' p => q D H' (fresh_back e2 hD) (e2.trans p.1) p.2⟩
def rTupS (K : PySem.W.Frag) : List V → Hp → VK → Prop := fun xs H Q => ∃ p ys, xs = [.ref p] ∧ ((SqL K H p ys ∧ ∀ l, H l = none → Q (.ref l) (upd H l (.tup ys))) ∨ (SqT K H p ys ∧ Q (.ref p) H))
theorem ep_tupOf {R : Addr → List V → Hp → Prop} (h : EvP te σ H fun v H2 => ∃ D acc, v = .ref D ∧ H D = none ∧ H2 D = some (.lst acc) ∧ R D acc H2) (up : ∀ D, Up (R D)) : EvP (tCB (rTupS K) (tCons te tNil)) σ H fun v H2 => ∃ t D acc, v = .ref t ∧ H t = none ∧ H2 t = some (.tup acc) ∧ R D acc H2 := fun H1 e Q q =>
  h H1 e _ fun v H2 e2 ⟨D, acc, hv, hD, h1, h2⟩ => by
    subst hv
    exact ⟨D, acc, rfl, .inl ⟨sq_of h1, fun l hl => q (.ref l) _ (e2.trans (Ex.new hl)) ⟨l, D, acc, rfl, fresh_back (e.trans e2) hl, upd_same, up D acc _ _ (Ex.new hl) h2⟩⟩⟩
theorem pg_tupC {X : Cx} {K : PySem.W.Frag} {es : List Expr} {k : Nat} {t : TGs} {n : Nat} {pos : Pos} (hK : X.K = K) (hc : X.calm = true) (h : PGs X es t)
    (hn : (assignEach es X.env).length = n := by rfl) (hst : (assignEach es X.env).findIdx? (·.1) = none := by rfl) : PG X (.Tuple es k pos) (gTup K n t) := by
  subst hK
  exact pg_tup hc h hn hst
theorem yes_if {A B : Hp → Prop} (h : A H) : tYes σ H fun b H3 => if b = true then A H3 else B H3 := by
  show (if true = true then A H else B H)
  rw [if_pos rfl]
  exact h
theorem eu_tupOf {xs : List V} (h : EvL te σ H xs) : EvU (tCB (rTupS K) (tCons te tNil)) σ H xs := fun H1 e Q q =>
  h H1 e _ fun D H2 _ e2 h2 => ⟨D, xs, rfl, .inl ⟨sq_of h2, fun l hl => q l _ (fresh_back e2 hl) (e2.trans (Ex.new hl)) upd_same⟩⟩
/-! inside a comprehension: the words name K by itself -/
theorem callR_K {X : Cx} {K : PySem.W.Frag} {f : Value} (r : PySem.W.Frag → List V → Hp → VK → Prop) (hK : X.K = K) (h : CallR X f (r X.K)) : CallR X f (r K) := by
  subst hK
  exact h
theorem pe_fldK {X : Cx} {K : PySem.W.Frag} {e : Expr} {f : Str} {ta : TE} {pos : Pos} (hK : X.K = K) (he : PE X e ta) (hb : attributeBase e f X.env (eval e X.env) = eval e X.env) : PE X (.Attribute e f pos) (tFld K ta f) := by
  subst hK
  exact pe_fld he hb
/-- all but some objects -/
def hid (S : List Addr) (H : Hp) : Hp := fun b => if b ∈ S then none else H b
theorem hid_ex {S : List Addr} (e : Ex H H') : Ex (hid S H) (hid S H') := fun b o h => by
  unfold hid at *
  split at h
  · cases h
  · rename_i n
    rw [if_neg n]
    exact e b o h
theorem hid_hide {S : List Addr} {p : Addr} : hid S (hide p H) = hid (p :: S) H := by
  funext b
  unfold hid hide
  by_cases h : b = p
  · subst h
    simp
  · simp [h]
theorem hid_less {S : List Addr} {p : Addr} : Ex (hid (p :: S) H) (hid S H) := fun b o h => by
  unfold hid at *
  split at h
  · cases h
  · rename_i n
    rw [if_neg fun z => n (List.mem_cons_of_mem _ z)]
    exact h
theorem hid_out (S : List Addr) : Ex (hid S H) H := fun b o h => by
  unfold hid at h
  split at h
  · cases h
  · exact h
theorem hid_fresh {S : List Addr} {p : Addr} (hp : H p = none) (e : Ex H H') : Ex (hid S H) (hid (p :: S) H') := fun b o h => by
  unfold hid at *
  split at h
  · cases h
  · rename_i n
    rw [if_neg]
    · exact e b o h
    · intro z
      rcases List.mem_cons.mp z with z | z
      · subst z
        rw [hp] at h
        cases h
      · exact n z
theorem hid_at {S : List Addr} {p : Addr} {o : HO} (n : p ∉ S) (h : H p = some o) : hid S H p = some o := by
  unfold hid
  rw [if_neg n]
  exact h
theorem hid_upd {S : List Addr} {p : Addr} {o : HO} (h : p ∈ S) : hid S (upd H p o) = hid S H := by
  funext b
  unfold hid
  by_cases z : b ∈ S
  · rw [if_pos z, if_pos z]
  · rw [if_neg z, if_neg z, upd_ne (fun e : b = p => z (by rw [e]; exact h))]
/-- all of S are there -/
def Here (S : List Addr) (H : Hp) : Prop := ∀ b ∈ S, H b ≠ none
theorem Here.up {S : List Addr} (h : Here S H) (e : Ex H H') : Here S H' := fun b hb z => by
  cases q : H b with
  | none => exact h b hb q
  | some o =>
    rw [e b o q] at z
    cases z
theorem Here.not {S : List Addr} {p : Addr} (h : Here S H) (hp : H p = none) : p ∉ S := fun z => h p z hp
theorem Here.set {S : List Addr} {p : Addr} {o : HO} (h : Here S H) : Here S (upd H p o) := fun b hb => by
  by_cases z : b = p
  · subst z
    rw [upd_same]
    exact nofun
  · rw [upd_ne z]
    exact h b hb
theorem Here.cons {S : List Addr} {p : Addr} {o : HO} (h : Here S H) (hp : H p = some o) : Here (p :: S) H := fun b hb => by
  rcases List.mem_cons.mp hb with z | z
  · subst z
    rw [hp]
    exact nofun
  · exact h b z
end
end OwnL

/-! ### own classes: bool(x), ==, != by own methods, x.__class__.__name__, o.f as a target among several -/
namespace OwnL
open PySem PySem.Spec PyProof.Rows L2
section
variable {prog : Program} {w : World} {A : Around} {E : Value → Shared → Prop} {s : Shared}
theorem bool_new_ref {x : Addr} {R : Result → Shared → Prop} (h : wpAny (model prog w) A.in1 (truthy (.ref x)) (fun b s' => R (.ok (.ret (.bool b))) s') (fun e s' => R (.error e) s') s) :
    wpAny (model prog w) A.in1 (Builtin.«bool.__new__» ⟨[.type "bool", .ref x], []⟩) (fun fin s' => match fin with | .done f => R (.ok f) s' | .again c' => c'.quiet = true ∧ codeAny (model prog w) A c' R s') (fun e s' => R (.error e) s') s := by
  obtain ⟨hp, g, d, tk, os⟩ := s
  have f1 := F.conv_sub_bool
  repeat (any_goals (first | assumption | (with_reducible refine wpAny_mono h ?_ ?_) | wp_step))
  all_goals first | (intro _ _ z; exact z) | skip
  all_goals first | (intro b s' z; repeat (any_goals (first | assumption | wp_step))) | skip
theorem call_bool_own {x : Addr} {Q : Value → Shared → Prop} (h : wpAny (model prog w) A.in1.in1 (truthy (.ref x)) (fun b s' => Q (.bool b) s') E s) : wpAny (model prog w) A (call (.type "bool") [.ref x]) Q E s := by
  have ft := F.called_bool
  obtain ⟨c, tl, hmro⟩ := ft.mro
  have hmade := ft.made
  have hsub := ft.sub
  refine wpAny_call (codeAny_of_tree ?_)
  show wpAny _ _ (callAny (.type "bool") _) _ _ _
  refine wpAny_pure ⟨Code.quiet_builtin _ (by decide +kernel), codeAny_builtin F.entry_type_call ?_⟩
  rw [Around.under_plain (weight_type_call_type "bool" [.ref x] []) (units_type_call_type "bool" [.ref x] [])]
  have h1 := ft.notType
  have h2 := ft.canCreate
  have hct := F.typeCall_bool_1 (.ref x)
  repeat (any_goals (first | assumption | wp_step))
  refine codeAny_mono (codeAny_call_builtin (R := wants (fun v s' => (∃ b, v = .bool b) ∧ Q v s') E) ft.plain F.entry_bool_new (wpAny_of_eq (F.newCall_bool_1 (.ref x)) (bool_new_ref (R := wants (fun v s' => (∃ b, v = .bool b) ∧ Q v s') E) (wpAny_mono h (fun b s' z => ⟨⟨b, rfl⟩, z⟩) fun e s' z => z)))) fun r s₁ hr => ?_
  match r, hr with
  | .error e, hr => exact hr
  | .ok (.ret obj), ⟨⟨b, hb⟩, hq⟩ =>
    subst hb
    have hT : s₁.TypeIs (.bool b) "bool" := by rfl
    have hli := ft.init.lookup
    have hbi := ft.init.bind (.bool b)
    repeat (any_goals (first | assumption | wp_step))
    refine codeAny_mono (codeAny_call_builtin ft.init.plain F.entry_object_init (ft.init.check _ _ _ _ _ _ _ _ hT (F.args_object_init_2 (.bool b) (.ref x)) (object_init_meets ft.init.lookup ft.made F.newNe_bool prog w A.in1 (wants (fun r s₂ => r = .none ∧ Q (.bool b) s₂) E) s₁ ⟨hT, rfl, hq⟩))) fun r₂ s₂ hr₂ => ?_
    match r₂, hr₂ with
    | .error e, hr₂ => exact hr₂
    | .ok (.ret r), ⟨hr, hq⟩ =>
      subst hr
      repeat (any_goals (first | assumption | wp_step))
end
section
variable {X : Cx} {pins : List (Addr × Obj)} {σ : L2.St} {H : Hp} {s : Shared}
/-- bool(x), x of a class with an own __bool__ at f that promises True or False -/
def rBoolI (K : PySem.W.Frag) (f : Addr) (sp : Sp) (E : XK) : List V → Hp → VK → Prop := fun xs H Q => ∃ a C dx fs, xs = [.ref a] ∧ H a = some (.ins C dx fs) ∧ PySem.W.findIn K (.ref C) "__bool__" = some (some (.ref f)) ∧
  sp [.ref a] H (fun v H' => (∃ b, v = .bl b) ∧ Q v H') E
/-- where another A stands: the same stack, no more room needed than there is -/
theorem env0_at {A : Around} (I : Inv X pins σ H s) (fr : A.frames = X.A.frames) : Env0 X.prog X.w X.K X.mg X.base A X.stack s H := by
  have e := I.env0
  exact ⟨by rw [fr]; exact e.frames, e.mod, e.bs, e.bsz, e.funs, e.frf, e.hok, e.bare⟩
/-- a method is called by the model itself -/
theorem run_at {CX : CXT} {A : Around} {k : Nat} {f : Addr} {fd : FuncData} {ps : List Str} {sp : Sp} {E : XK} {us : List Value} {vs : List V} {Q : VK} (F : FnOk X.prog X.w X.K X.mg X.base CX k f fd ps sp) (hb : Binds X.K fd ps []) (hx : Passes CX X E) (hr : Room k A) (fr : A.frames = X.A.frames)
    (I : Inv X pins σ H s) (rel : Vals vs us) (hsp : sp vs H Q E) : wpAny (model X.prog X.w) A (call (.ref f) us) (EP X pins σ Q) X.xe s := by
  have long : us.length = ps.length := by rw [← rel.length]; exact F.len _ _ _ _ hsp
  have bnd := hb s us I.kIn (by simpa using long)
  rw [List.append_nil] at bnd
  refine wpAny_call (codeAny_mono (F.run A X.stack s H ⟨us, []⟩ us vs Q E hr (env0_at I fr) bnd rel hsp) fun r s' hq => ?_)
  match r, hq with
  | .error e, hq => exact hx pins σ H s e s' I hq
  | .ok (.ret u), hq => exact I.after hq
theorem call_boolI {CX : CXT} {k : Nat} {f : Addr} {fd : FuncData} {ps : List Str} {sp : Sp} {E : XK} (F : FnOk X.prog X.w X.K X.mg X.base CX k f fd ps sp) (hf : PySem.W.isFn X.K (.ref f) = true) (hb : Binds X.K fd ps []) (hx : Passes CX X E) (hr : Room (k + 2) X.A) :
    CallR X (.type "bool") (rBoolI X.K f sp E) := by
  intro pins s σ H xs us Q I r h
  obtain ⟨a, C, dx, fs, rfl, ha, hs, hsp⟩ := h
  obtain ⟨u, rfl, ru⟩ := vals1 r
  cases ru
  obtain ⟨mA, J, _⟩ := ins_get I.hok ha
  obtain ⟨od, J, _⟩ := J.look
  obtain ⟨m, hF⟩ := I.fr
  refine call_bool_own (PySem.W.truthy_K hF I.ok.mod.kin J hs hf (wpAny_mono (run_at (vs := [V.ref a]) F hb hx (A := X.A.in1.in1) (Room.in1 (Room.in1 hr)) rfl I (.cons rfl .nil) hsp) (fun v s' z => ?_) fun e s' z => z))
  obtain ⟨y, H', I', ry, ⟨b, rfl⟩, q⟩ := z
  cases ry
  exact ⟨.bl b, H', I', rfl, q⟩
/-- x == y of instances, by the == at f of x's class -/
def rEqI (K : PySem.W.Frag) (f : Addr) (sp : Sp) (E : XK) : R2 := fun x y H Q => ∃ a b C D dx dy fs gs, x = .ref a ∧ y = .ref b ∧ H a = some (.ins C dx fs) ∧ H b = some (.ins D dy gs) ∧ PySem.W.findIn K (.ref C) "__eq__" = some (some (.ref f)) ∧ PySem.W.notFirst K C (.ref D) = true ∧
  sp [.ref a, .ref b] H (fun v H' => (∃ c, v = .bl c) ∧ Q v H') E
theorem op_eqI {CX : CXT} {k : Nat} {f : Addr} {fd : FuncData} {ps : List Str} {sp : Sp} {E : XK} (F : FnOk X.prog X.w X.K X.mg X.base CX k f fd ps sp) (hf : PySem.W.isFn X.K (.ref f) = true) (hb : Binds X.K fd ps []) (hx : Passes CX X E) (hr : Room k X.A) :
    OpR X (compareOp .Eq) (rEqI X.K f sp E) := by
  intro pins s σ H x y v u Q I rx ry h
  obtain ⟨a, b, C, D, dx, dy, fs, gs, rfl, rfl, ha, hb', hs, hn, hsp⟩ := h
  cases rx
  cases ry
  obtain ⟨mA, J, _⟩ := ins_get I.hok ha
  obtain ⟨mB, J', _⟩ := ins_get I.hok hb'
  obtain ⟨od, J, _⟩ := J.look
  obtain ⟨od', J', _⟩ := J'.look
  obtain ⟨m, hF⟩ := I.fr
  refine PySem.W.cmp_K (op := .Eq) (tb := .ref D) hr.units0 hF I.ok.mod.kin J J'.type hn hs hf (wpAny_mono (run_at (vs := [V.ref a, V.ref b]) F hb hx (A := X.A) hr rfl I (.cons rfl (.cons rfl .nil)) hsp) (fun v s' z => ?_) fun e s' z => z)
  obtain ⟨y, H', I', ry, ⟨c, rfl⟩, q⟩ := z
  cases ry
  exact ⟨.bl c, H', I', rfl, q⟩
end
/-! != by an own ==: object.__ne__ asks it -/
section
open PySem.W
variable {prog : Program} {w : World} {A : Around} {E : Value → Shared → Prop} {s : Shared} {K : Frag} {x C L f : Addr} {h₀ : Heap} {m : Str → Option Value} {ox : Obj} {od : Option Obj} {name : Str} {b tb : Value}
theorem bound_builtin {M : Model} {T id : String} {args : List Value} {Q : Option Value → Shared → Prop} (S : Slot T name id) (XK : K.In s.heap) (I : InstAt s.heap x ox C od) (hs : findIn K (.ref C) name = some (some (.builtin id)))
    (h : wpAny M A (call (.builtin id) (.ref x :: args)) (fun v => Q (some v)) E s) : wpAny M A (callSpecialIfBound? (.ref x) name args) Q E s := by
  unfold callSpecialIfBound? bindSpecialIfBound?
  refine wpAny_holding (wpAny_bind (wpAny_bind (wpAny_bind (I.type.here ((looks_findIn XK hs).here ?_)))))
  simp only [S.bind]
  have fin : wpAny M A (call (.builtin id) ([.ref x] ++ args) >>= fun v => pure (some v)) Q E s := wpAny_bind (wpAny_mono h (fun v s' z => wpAny_pure z) fun _ _ z => z)
  refine wpAny_bind (wpAny_askSetting (wpAny_ite ?_))
  split
  · exact wpAny_bind (wpAny_pure (wpAny_pure fin))
  · exact wpAny_tryCatch (wpAny_bind (wpAny_pure (wpAny_pure fin)))
theorem ne_entry {Q : Fin → Shared → Prop} (hu : A.units < cLine) (XK : K.In s.heap) (I : InstAt s.heap x ox C od) (hs : findIn K (.ref C) "__eq__" = some (some (.ref f))) (hf : isFn K (.ref f) = true)
    (h : wpAny (model prog w) A (call (.ref f) [.ref x, b]) (fun v s' => ∃ c, v = .bool c ∧ Q (.done (.ret (.bool (!c)))) s') E s) :
    wpAny (model prog w) A (Builtin.«object.__ne__» ⟨[.ref x, b], []⟩) Q E s := by
  unfold Builtin.«object.__ne__»
  repeat (first
    | with_reducible refine wpAny_cRoomFor hu ?_
    | (refine wpAny_bind (m := callSpecialIfBound? (.ref x) (Str.ofString "__eq__") [b]) (ifBound_K XK I hs hf (wpAny_mono h (fun r s' hr => by
          obtain ⟨c, rfl, hq⟩ := hr
          repeat (first | exact hq | exact wpAny_pure hq | exact wpAny_truthy_bool hq | (refine wpAny_bind (m := truthy (.bool _)) (wpAny_truthy_bool ?_)) | wp_step)) fun _ _ e => e)))
    | wp_step)
theorem ne_K {Q : Value → Shared → Prop} (hu : A.units + 1 < cLine) (F : Fr h₀ L s.heap m) (X₀ : K.In h₀) (I : InstAt s.heap x ox C od) (hb : Looks (model prog w) s.heap (typeOf b) tb) (hn : notFirst K C tb = true)
    (hne : findIn K (.ref C) "__ne__" = some (some (.builtin "object.__ne__"))) (hm : mroIn K C (.type "object") = some true) (hs : findIn K (.ref C) "__eq__" = some (some (.ref f))) (hf : isFn K (.ref f) = true)
    (h : wpAny (model prog w) A.in1 (call (.ref f) [.ref x, b]) (fun v s' => ∃ c, v = .bool c ∧ Q (.bool (!c)) s') E s) : wpAny (model prog w) A (richCompare .NotEq (.ref x) b) Q E s := by
  have XK := X₀.keeps F.keep
  have once : wpAny (model prog w) A (tryCompare (.ref x) (cmpInfo .NotEq).2.1 b) (fun r s' => ∃ v, r = some v ∧ Q v s') E s := by
    show wpAny _ _ (tryCompare (.ref x) "__ne__" b) _ _ _
    unfold tryCompare
    refine wpAny_bind (bound_builtin PySem.F.cmp_object.ne XK I hne (wpAny_call (codeAny_call_builtin PySem.F.cmp_object.ne.plain PySem.F.cmpEntry_ne
      (check_slot PySem.F.cmpKind_ne PySem.F.cmpSplit_ne (I.type.andThen (looks_mroIn XK hm)) (PySem.F.cmpArgs_ne _ _) (ne_entry (A := A.in1) hu XK I hs hf (wpAny_mono h (fun v s' hv => ?_) fun _ _ e => e))))))
    obtain ⟨c, rfl, hq⟩ := hv
    exact ⟨c, rfl, wpAny_pure ⟨_, rfl, hq⟩⟩
  unfold richCompare
  simp only [oneThing_ref]
  refine wpAny_holding (wpAny_bind (wpAny_cRoomFor (Nat.lt_of_succ_lt hu) ?_))
  refine wpAny_bind (I.type.here (wpAny_bind (hb.here ?_)))
  have rest : wpAny (model prog w) A (tryCompare (.ref x) (cmpInfo .NotEq).2.1 b) (fun r s' => ∃ v, r = some v ∧ Q v s') E s := once
  split
  · rename_i q
    have e : subIn K tb (.ref C) = some false := by
      rcases Bool.or_eq_true_iff.mp hn with e | e
      · rw [beq_iff_eq.mp e] at q; simp at q
      · exact beq_iff_eq.mp e
    refine wpAny_bind ((looks_subIn XK e).here ?_)
    simp only [Bool.false_eq_true, if_false]
    refine wpAny_bind (wpAny_mono rest (fun r s' z => ?_) fun _ _ e => e)
    obtain ⟨v, rfl, hq⟩ := z
    exact wpAny_pure hq
  · refine wpAny_bind (wpAny_pure ?_)
    simp only [Bool.false_eq_true, if_false]
    refine wpAny_bind (wpAny_mono rest (fun r s' z => ?_) fun _ _ e => e)
    obtain ⟨v, rfl, hq⟩ := z
    exact wpAny_pure hq
end
section
variable {X : Cx}
def rNeI (K : PySem.W.Frag) (f : Addr) (sp : Sp) (E : XK) : R2 := fun x y H Q => ∃ a b C D dx dy fs gs, x = .ref a ∧ y = .ref b ∧ H a = some (.ins C dx fs) ∧ H b = some (.ins D dy gs) ∧ PySem.W.findIn K (.ref C) "__eq__" = some (some (.ref f)) ∧ PySem.W.notFirst K C (.ref D) = true ∧
  PySem.W.findIn K (.ref C) "__ne__" = some (some (.builtin "object.__ne__")) ∧ PySem.W.mroIn K C (.type "object") = some true ∧
  sp [.ref a, .ref b] H (fun v H' => ∃ c, v = .bl c ∧ Q (.bl (!c)) H') E
theorem op_neI {CX : CXT} {k : Nat} {f : Addr} {fd : FuncData} {ps : List Str} {sp : Sp} {E : XK} (F : FnOk X.prog X.w X.K X.mg X.base CX k f fd ps sp) (hf : PySem.W.isFn X.K (.ref f) = true) (hb : Binds X.K fd ps []) (hx : Passes CX X E) (hr : Room (k + 1) X.A) :
    OpR X (compareOp .NotEq) (rNeI X.K f sp E) := by
  intro pins s σ H x y v u Q I rx ry h
  obtain ⟨a, b, C, D, dx, dy, fs, gs, rfl, rfl, ha, hb', hs, hn, hne, hm, hsp⟩ := h
  cases rx
  cases ry
  obtain ⟨mA, J, _⟩ := ins_get I.hok ha
  obtain ⟨mB, J', _⟩ := ins_get I.hok hb'
  obtain ⟨od, J, _⟩ := J.look
  obtain ⟨od', J', _⟩ := J'.look
  obtain ⟨m, hF⟩ := I.fr
  have hu := hr.un
  refine ne_K (tb := .ref D) (by omega) hF I.ok.mod.kin J J'.type hn hne hm hs hf (wpAny_mono (run_at (vs := [V.ref a, V.ref b]) F hb hx (A := X.A.in1) (Room.in1 hr) rfl I (.cons rfl (.cons rfl .nil)) hsp) (fun v s' z => ?_) fun e s' z => z)
  obtain ⟨y, H', I', ry, c, rfl, q⟩ := z
  cases ry
  exact ⟨c, rfl, .bl (!c), H', I', rfl, q⟩
end
/-! x.__class__.__name__ -/
structure ClsNm (K : PySem.W.Frag) (C : Addr) (nm : Str) : Prop where
  cd : ∃ c, PySem.W.clsIn K C = some c
  ga : PySem.W.findIn K (.ref C) "__getattribute__" = some (some (.builtin "object.__getattribute__"))
  gx : PySem.W.findIn K (.ref C) "__getattr__" = some none
  fc : PySem.W.findIn K (.ref C) "__class__" = some (some (.builtin "object.__class__"))
  sg : PySem.W.specialIn K (.builtin "object.__class__") "__get__" = some (some (.builtin "getset_descriptor.__get__"))
  tk : PySem.W.takesIn K (.builtin "object.__class__") = some true
  mo : PySem.W.mroIn K C (.type "object") = some true
  ty : PySem.W.typeIn K (.ref C) = some (.type "type")
  rd : PySem.W.readsIn K C (.type "type") = true
  fn : PySem.W.findCls K (.ref C) (.type "type") "__name__" = some (.get (.builtin "getset_descriptor.__get__") (.builtin "type.__name__") (.ref C) (.type "type"))
  at_ : ∃ o t, K.lookup C = some o ∧ (o.slots[2]?).join = some (.str nm t)
section
open PySem.W
variable {prog : Program} {w : World} {A : Around} {E : Value → Shared → Prop} {s : Shared} {K : Frag} {x C : Addr} {nm : Str} {ox : Obj} {od : Option Obj} {R : Result → Shared → Prop}
theorem get_class {expr : Bool} {Q : Value → Shared → Prop} (N : ClsNm K C nm) (XK : K.In s.heap) (I : InstAt s.heap x ox C od) (h : ∀ u, Q (.ref C) { s with toks := u }) : wpAny (model prog w) A (getAttr (.ref x) "__class__" expr) Q E s := by
  obtain ⟨c, hc⟩ := N.cd
  have hf : findObj K C od "__class__" = some (.bind (.builtin "getset_descriptor.__get__") (.builtin "object.__class__")) := by
    unfold findObj
    rw [hc, Option.bind_some, N.fc, Option.bind_some]
    simp only [N.sg, Option.bind_some, N.tk]
  refine get_bind XK I N.ga hf N.gx (wpAny_call (class_get (s := { s with toks := s.toks + 1 }) XK I N.mo ?_))
  exact handed_on rfl (h _)
theorem name_get {tp : Value} (N : ClsNm K C nm) (XK : K.In s.heap) (h : ∀ t, R (.ok (.ret (.str nm t))) s) :
    codeAny (model prog w) A (.call (.builtin "getset_descriptor.__get__") ⟨[.builtin "type.__name__", .ref C, tp], []⟩) R s := by
  obtain ⟨hh, g, dr, t, os⟩ := s
  obtain ⟨o, tok, ho, hs⟩ := N.at_
  have L0 : Looks (model prog w) hh (typeOf (.ref C)) (.type "type") := looks_typeIn XK N.ty
  have L1 : Looks (model prog w) hh (isSubtype (.type "type") (.type "type")) true := Looks.of_pure (by rw [isSubtype_type]; kernel_rfl)
  have L2 : Looks (model prog w) hh (PySem.slotAt C 2) (some (.str nm tok)) := by
    unfold PySem.slotAt
    refine (Looks.ld (XK C o ho)).andThen ?_
    rw [hs]
    exact .now
  refine codeAny_call_builtin KF.slot_gs.plain KF.entry_gs (KF.slot_gs.check _ _ _ _ _ _ _ _ ktyn_type (KF.args_gs _ _ _) ?_)
  unfold Builtin.«getset_descriptor.__get__» Builtin.Getset_descriptor.descrGet
  rw [dga_obj]
  refine wpAny_bind (wpAny_pure ?_)
  unfold Builtin.Getset_descriptor.descrGetter Builtin.Getset_descriptor.descrCheckInstance Builtin.Getset_descriptor.descrNameAndClass isInstance
  simp only [ktyn_owner]
  repeat lk
  refine ⟨Code.quiet_builtin _ (by decide +kernel), codeAny_builtin ktyn_entry ?_⟩
  unfold Builtin.«type.__name__» Builtin.keptObject
  repeat lk
  exact h _
theorem get_name {expr : Bool} {Q : Value → Shared → Prop} (N : ClsNm K C nm) (XK : K.In s.heap) (h : ∀ t u, Q (.str nm t) { s with toks := u }) : wpAny (model prog w) A (getAttr (.ref C) "__name__" expr) Q E s := by
  refine cls_bind XK N.rd N.fn (wpAny_call (name_get (s := { s with toks := s.toks + 1 }) N XK fun t => ?_))
  exact handed_on rfl (h _ _)
end
section
variable {X : Cx} {e : Expr} {p1 p2 : Pos} {ta : TE}
def tClsNm (K : PySem.W.Frag) (ta : TE) : TE := fun σ H Q => ta σ H fun x H1 => ∃ a C dx fs nm, x = .ref a ∧ H1 a = some (.ins C dx fs) ∧ ClsNm K C nm ∧ Q (.str nm) H1
theorem pe_clsNm (he : PE X e ta) (h1 : attributeBase e "__class__" X.env (eval e X.env) = eval e X.env)
    (h2 : attributeBase (.Attribute e "__class__" p1) "__name__" X.env (eval (.Attribute e "__class__" p1) X.env) = eval (.Attribute e "__class__" p1) X.env) : PE X (.Attribute (.Attribute e "__class__" p1) "__name__" p2) (tClsNm X.K ta) := by
  refine ⟨fun pins s σ H Q I h => attr_of h2 (attr_of h1 (thn (he.run pins s σ H _ I h) fun u s1 ⟨x, H1, I1, rx, a, C, dx, fs, nm, ex, ea, N, q⟩ => ?_))⟩
  subst ex
  obtain rfl : u = Value.ref a := rx
  obtain ⟨mA, J, _⟩ := ins_get I1.hok ea
  obtain ⟨od, J, _⟩ := J.look
  refine get_class N I1.kIn J fun t => ?_
  exact get_name N (s := { s1 with toks := t }) I1.kIn fun t' u' => ⟨.str nm, H1, I1.tok _, ⟨_, rfl⟩, q⟩
/-- o.f as a target among several -/
def gFld (K : PySem.W.Frag) (to : TE) (f : Str) : TG := fun v σ H Q => to σ H fun x H1 => ∃ a C dx fs, x = .ref a ∧ H1 a = some (.ins C dx fs) ∧ Cls K C ∧ NoAttr K C f ∧ fs.length < 1000 ∧ Q σ (upd H1 a (.ins C dx (putF f v fs)))
theorem pg_fld {f : Str} {to : TE} (ho : PE X e to)
    (ha : ∀ v, assign (.Attribute e f p1) X.env v = (do
      let ov ← holding [v] (eval e X.env)
      standAt p1.atName
      holding [v, ov] (setAttr ov f v)
      release [v, ov] []) := by intro _; rfl) : PG X (.Attribute e f p1) (gFld X.K to f) := by
  refine ⟨fun pins s σ H v u Q I r h => ?_⟩
  rw [ha]
  refine wpAny_bind (wpAny_holding (thn (ho.run pins s σ H _ I h) fun ov s1 ⟨x, H1, I1, r1, a, C, dx, fs, ex, ea, c, n, l, q⟩ => ?_))
  subst ex
  obtain rfl : ov = Value.ref a := r1
  refine wpAny_bind (wpAny_standAt (wpAny_bind (wpAny_holding (setattr_ok I1 ea c n l r fun s3 I3 => ?_))))
  exact wpAny_release ⟨σ, _, I3, q⟩
end
end OwnL

/-! ### a method that begins with super().__init__(..) -/
namespace OwnL
open PySem PySem.Spec PyProof.Rows L2
structure SupScope (N P : List Str) (sc : Scope) : Prop where
  kind : sc.kind = .function
  co : sc.isCoroutine = false
  gen : sc.isGenerator = false
  nd : N.Nodup
  pre : N.take P.length = P
  par : ∀ x ∈ P, sc.names.lookup x = some .local
  nocell : ∀ y ∈ sc.names, y.2 ≠ .cell
  free : ∀ y ∈ sc.names, y.2 = .free → y.1 = "__class__"
  sup : sc.names.lookup ("super" : Str) = some .globalImplicit
  cls : sc.names.lookup ("__class__" : Str) = some .free
abbrev supEnv (qual : Str) (scope : Scope) (L f : Addr) (cd : Value) (cc : Addr) : Env := PySem.W.envX qual scope L f cd [("__class__", cc)]
def cxS (CX : CXT) (P : Program) (w : World) (K : PySem.W.Frag) (mg : Str → Option Value) (base : Heap) (N : List Str) (qual : Str) (scope : Scope) (f : Addr) (cd : Value) (cc : Addr) (A : Around) (outer : List Env) (s : Shared) (H : Hp) (E : XK) : Cx where
  prog := P
  w := w
  K := K
  mg := mg
  base := base
  A := A.deeper (supEnv qual scope s.heap.objs.size f cd cc)
  N := N
  s_0 := s
  H_0 := H
  env := supEnv qual scope s.heap.objs.size f cd cc
  outer := outer
  stack := supEnv qual scope s.heap.objs.size f cd cc :: outer
  ex := []
  calm := true
  fn := fun _ => false
  pn := []
  xe := fun e s' => wpAny (model P w) (A.deeper (supEnv qual scope s.heap.objs.size f cd cc)) (leaving (supEnv qual scope s.heap.objs.size f cd cc) e) (fun _ s'' => CX outer H s E e s'') (fun e' s'' => CX outer H s E e' s'') s'
theorem zip_lookup_rev {ps : List Str} {us : List Value} {i : Nat} {x : Str} {v : Value} (nd : ps.Nodup) (h1 : ps[i]? = some x) (h2 : us[i]? = some v) : (ps.zip us).reverse.lookup x = some v := by
  induction ps generalizing us i with
  | nil => simp at h1
  | cons p r ih =>
    cases us with
    | nil => simp at h2
    | cons u us =>
      rw [List.zip_cons_cons, List.reverse_cons, List.lookup_append]
      obtain ⟨n1, n2⟩ := List.nodup_cons.mp nd
      cases i with
      | zero =>
        simp only [List.getElem?_cons_zero, Option.some.injEq] at h1 h2
        subst h1 h2
        have e : (r.zip us).reverse.lookup p = none := by
          rw [List.lookup_eq_none_iff]
          intro q hq
          have := List.of_mem_zip (show (q.1, q.2) ∈ r.zip us from List.mem_reverse.mp hq)
          have ne : p ≠ q.1 := fun z => n1 (z ▸ this.1)
          simpa using ne
        rw [e]
        simp [List.lookup]
      | succ i =>
        rw [ih n2 (by simpa using h1) (by simpa using h2)]
        rfl
theorem inv_startS {CX : CXT} {P : Program} {w : World} {K : PySem.W.Frag} {mg : Str → Option Value} {base : Heap} {N ps : List Str} {qual : Str} {scope : Scope} {f cc D : Addr} {cd : Value} {A : Around} {outer : List Env} {s : Shared} {H : Hp} {E : XK} {us : List Value} {vs : List V} {h' : Heap} {tk : Nat}
    {cl : Value} {cld : Option Addr} {csl : Array (Option Value)}
    (S : SupScope N ps scope) (hd : A.handled = none) (e0 : Env0 P w K mg base A outer s H) (hl : vs.length = ps.length) (r : Vals vs us) (hcell : K.lookup cc = some ⟨cl, cld, .cell (some (.ref D)), csl⟩)
    (hns : h'.Ns s.heap.objs.size (fun x => (ps.zip us).reverse.lookup x)) (hk : ∀ b o, s.heap.get? b = some o → h'.get? b = some o) :
    Inv (cxS CX P w K mg base N qual scope f cd cc A outer s H E) [] (L2.start N vs) H { s with heap := h', toks := tk } := by
  have hpl : ps.length ≤ N.length := by have := congrArg List.length S.pre; rw [List.length_take] at this; omega
  have noA : ∀ b : Addr, b ∉ (cxS CX P w K mg base N qual scope f cd cc A outer s H E).ex := fun b z => absurd (show b ∈ ([] : List Addr) from z) (by simp)
  have KX : K.In base := e0.mod.kin
  have hcb := KX _ _ hcell
  have hone : ∀ {y : Str} {c : Addr}, (cxS CX P w K mg base N qual scope f cd cc A outer s H E).env.cells.lookup y = some c → y = "__class__" ∧ c = cc := fun {y c} h => by
    have h' : List.lookup y [(("__class__" : Str), cc)] = some c := h
    by_cases z : y = "__class__"
    · subst z
      simp [List.lookup] at h'
      exact ⟨rfl, h'.symm⟩
    · have zb : (y == ("__class__" : Str)) = false := beq_eq_false_iff_ne.mpr z
      simp [List.lookup, zb] at h'
  refine ⟨⟨e0.mod, S.kind, rfl, rfl, Nat.le_refl _, fun y z c h1 h2 => ?_, fun y hy => ?_, fun y c h _ => Bool.noConfusion h, fun _ => hd, Around.frames_deeper e0.frames, .inr ⟨rfl, rfl⟩, fun b z => absurd z (noA b), e0.bs, e0.bsz, fun b _ _ => noA b, fun b z => absurd z (noA b), e0.funs, e0.frf⟩,
    rfl, e0.bare, Un.kept hk, ⟨_, hns, fun i y v h1 h2 h3 => ?_⟩, fun y c h => ?_, e0.hok.fresh (Nat.le_refl _), fun y c h => ?_, fun p hp => absurd (show p ∈ ([] : List (Addr × Obj)) from hp) (by simp), e0.hok.kept hk, ?_⟩
  · rw [(hone h1).1, (hone h2).1]
  · have hy : scope.names.lookup y = some .cell ∨ scope.names.lookup y = some .free := hy
    rcases hy with hy | hy
    · exact absurd rfl (S.nocell _ (PySem.mem_of_lookup hy))
    · have e := S.free _ (PySem.mem_of_lookup hy) rfl
      have e' : y = "__class__" := e
      subst e'
      exact ⟨cc, by show List.lookup ("__class__" : Str) [(("__class__" : Str), cc)] = some cc; simp [List.lookup]⟩
  · have hi : i < vs.length := by
      unfold L2.start at h2
      by_cases hi : i < vs.length
      · exact hi
      · rw [List.getElem?_append_right (by simpa using hi)] at h2
        rw [List.getElem?_replicate] at h2
        split at h2 <;> cases h2
    have ha : vs[i]? = some v := by
      unfold L2.start at h2
      rw [List.getElem?_append_left (by simpa using hi), List.getElem?_map] at h2
      cases e : vs[i]? with
      | none => rw [e] at h2; cases h2
      | some a => rw [e] at h2; cases h2; rfl
    obtain ⟨u, hu, rv⟩ := r.get ha
    have hp : ps[i]? = some y := by
      rw [← S.pre, List.getElem?_take_of_lt (by omega)]; exact h1
    have ndP : ps.Nodup := by rw [← S.pre]; exact S.nd.sublist (List.take_sublist _ _)
    exact ⟨u, rv, .inl ⟨S.par y (List.mem_of_getElem? hp), zip_lookup_rev ndP hp hu⟩⟩
  · rw [(hone h).2]
    exact ⟨_, _, hk _ _ (e0.bs _ _ hcb).1, rfl⟩
  · rw [(hone h).2]
    exact (e0.bs _ _ hcb).2
  · unfold L2.start
    show _ = N.length
    rw [List.length_append, List.length_map, List.length_replicate]
    omega

/-- what the written part says of such a method: its code's file, its cell, what super() finds for the class at C -/
structure SupFacts (P : Program) (K : PySem.W.Frag) (mg : Str → Option Value) (C D f2 cda cc : Addr) : Prop where
  code : ∃ (ccl : Value) (cdd : Option Addr) (vs : Array Value) (ccs : Array (Option Value)) (file : Str) (tf : Tok), K.lookup cda = some ⟨ccl, cdd, .fields vs, ccs⟩ ∧ vs[2]? = some (.str file tf) ∧ ((P.main.file : Str) == file) = true
  cell : ∃ (cl : Value) (cld : Option Addr) (csl : Array (Option Value)), K.lookup cc = some ⟨cl, cld, .cell (some (.ref D)), csl⟩
  isD : ∃ cdD, PySem.W.clsIn K D = some cdD
  sub : PySem.W.mroIn K C (.ref D) = some true
  noSup : PySem.W.nsIn K mainGlobals "super" = some none
  top : (P.main.scope.names.lookup ("super" : Str)).isSome = false
  opq : PySem.W.nsIn K cStatics "thirdparty.any" = some none
  find : PySem.W.ks_superIn K C D "__init__" = some (some (.ref f2))
  fn : PySem.W.typeIn K (.ref f2) = some (.type "function")
  fi : PySem.W.fnIn K f2 = true
theorem boot_super : bootBuiltins "super" = some (.type "super") := by first | rfl | decide +kernel | kernel_rfl
section
variable {CX : CXT} {P : Program} {w : World} {K : PySem.W.Frag} {mg : Str → Option Value} {base : Heap} {k j : Nat} {f f2 C D cda cc : Addr} {name qual : Str} {params : Arguments} {scope : Scope} {dV kV doc pm ct oc : Value} {an od : Option Addr}
    {osl : Array (Option Value)} {N ps : List Str} {sp sp2 : Sp} {x0 : Str} {e : Expr} {es : List Expr} {rest : List Stmt} {p0 p1 p2 p3 p4 psup : Pos} {ar : Arg}
/-- the first statement: the super object and its bound method are made, the arguments are reckoned, the other __init__ is called -/
theorem super_call {A : Around} {outer : List Env} {s0 : Shared} {H0 : Hp} {E : XK} {body : List Stmt} {s : Shared} {σ : L2.St} {H : Hp} {ta : TA} {fd : FuncData} {dx : Addr} {fs : List (Str × V)} {x : Addr} {Q : Hp → Prop} {pl : Sem Bool}
    (S : SupScope N ps scope) (T : SupFacts P K mg C D f2 cda cc) (F2 : FnR P w K mg base CX j f2 sp2)
    (lk : K.lookup f = some ⟨oc, od, .func fd, osl⟩) (hp : (fd.params.posonlyargs ++ fd.params.args).head? = some ar) (h0 : N[0]? = some ar.arg) (hin : ar.arg ∈ ps)
    (hr : Room j (A.deeper (supEnv qual scope s0.heap.objs.size f (.ref cda) cc))) (hx : Passes CX (cxS CX P w K mg base N qual scope f (.ref cda) cc A outer s0 H0 E) E)
    (I : Inv (cxS CX P w K mg base N qual scope f (.ref cda) cc A outer s0 H0 E) [] σ H s) (hσ : σ[0]? = some (some (.ref x))) (ho : H x = some (.ins C dx fs))
    (ha : PA (cxS CX P w K mg base N qual scope f (.ref cda) cc A outer s0 H0 E) (e :: es) ta)
    (hq : ∀ q, H q = none → ta σ (upd H q (.met f2 x)) fun us H1 => H1 q = some (.met f2 x) ∧ sp2 (.ref x :: us) H1 (fun _ H2 => Q H2) E)
    (hst : starEach (e :: es) (supEnv qual scope s0.heap.objs.size f (.ref cda) cc) = (false, eval e (supEnv qual scope s0.heap.objs.size f (.ref cda) cc)) :: starEach es (supEnv qual scope s0.heap.objs.size f (.ref cda) cc) := by rfl)
    (hpl : (backTo p3 (starEach (e :: es) (supEnv qual scope s0.heap.objs.size f (.ref cda) cc))).any (·.1) = false := by rfl)
    (he : eval (.Call (.Attribute (.Call (.Name "super" p0) [] [] p1) "__init__" p2) (e :: es) [] p3) (supEnv qual scope s0.heap.objs.size f (.ref cda) cc) = (do
        let ov ← attributeBase (.Call (.Name "super" p0) [] [] p1) "__init__" (supEnv qual scope s0.heap.objs.size f (.ref cda) cc) (eval (.Call (.Name "super" p0) [] [] p1) (supEnv qual scope s0.heap.objs.size f (.ref cda) cc))
        standAt p2.atName
        let (g, first) ← holding [ov] (getMethod ov "__init__" pl)
        callWith p3 g first (backTo p3 (starEach (e :: es) (supEnv qual scope s0.heap.objs.size f (.ref cda) cc))) []) := by rfl) :
    _root_.PySem.wpAt (model P w) (A.deeper (supEnv qual scope s0.heap.objs.size f (.ref cda) cc)) (.func body (supEnv qual scope s0.heap.objs.size f (.ref cda) cc))
      (eval (.Call (.Attribute (.Call (.Name "super" p0) [] [] p1) "__init__" p2) (e :: es) [] p3) (supEnv qual scope s0.heap.objs.size f (.ref cda) cc))
      (fun _ s' => ∃ H', Inv (cxS CX P w K mg base N qual scope f (.ref cda) cc A outer s0 H0 E) [] σ H' s' ∧ Q H') (cxS CX P w K mg base N qual scope f (.ref cda) cc A outer s0 H0 E).xe s := by
  have KX : K.In s.heap := I.kIn
  obtain ⟨ccl, cdd, vs, ccs, file, tf, hcode, hvs, hfile⟩ := T.code
  obtain ⟨cl, cld, csl, hcell⟩ := T.cell
  obtain ⟨cdD, hD⟩ := T.isD
  obtain ⟨mA, O, _, _, _, _⟩ := ins_get I.hok ho
  have hka : scope.names.lookup ar.arg = some .local := S.par _ hin
  have hxo := O.obj
  obtain ⟨m, hns, hl⟩ := id I.loc
  obtain ⟨u, ru, hlook⟩ := hl 0 ar.arg (.ref x) h0 hσ (.inl hka)
  obtain rfl : u = Value.ref x := ru
  have hm : m ar.arg = some (.ref x) := by
    rcases hlook with ⟨_, e⟩ | ⟨hk, _⟩
    · exact e
    · rcases hk with hk | hk
      · have hk' : scope.names.lookup ar.arg = some .cell := hk
        rw [hka] at hk'; cases hk'
      · have hk' : scope.names.lookup ar.arg = some .free := hk
        rw [hka] at hk'; cases hk'
  obtain ⟨oD, hD1, hD2⟩ : ∃ oD, s.heap.get? D = some oD ∧ oD.data = .cls cdD := by
    unfold PySem.W.clsIn at hD
    split at hD
    · rename_i c d cd' sl hoD
      cases hD
      exact ⟨_, KX _ _ hoD, rfl⟩
    · cases hD
  refine PySem.ks_wpAt_MethodCall (pl := pl) ?_ he
  refine PySem.ks_wpAt_super_base (f := f) (cc := cda) (env := supEnv qual scope s0.heap.objs.size f (.ref cda) cc) S.sup S.cls (by decide) rfl (KX _ _ lk) rfl hp rfl (KX _ _ hcode) rfl hvs hfile T.top ?_
  obtain ⟨mb, hb1, hb2⟩ := I.mod.blt
  refine PySem.W.ks_loadName_global S.kind S.sup (Calls.loadGlobal_builtin (env := supEnv qual scope s0.heap.objs.size f (.ref cda) cc) (I.mod.glob.keeps I.bk) (PySem.W.mg_none_of I.ok.mod.kin I.mod.glob T.noSup) (hb1.keeps I.bk) ((hb2 _ (by decide)).trans boot_super) ⟨rfl, ?_⟩)
  refine wpAny_loadName_free S.kind S.cls rfl ⟨_, KX _ _ hcell, rfl⟩ ?_
  refine wpAny_loadName_local S.kind hka hns hm ?_
  obtain ⟨hh, g, d, t, os⟩ := s
  refine PySem.ks_wpAny_isType_cls hD1 hD2 ⟨rfl, ?_⟩
  refine PySem.ks_wpAny_call_super hD1 hD2 hxo rfl (fun c e => nomatch e) (PySem.W.looks_mroIn KX T.sub) (fun h' eso k => ?_)
  have K1 : K.In h' := KX.keeps k
  have hm2 := T.find
  unfold PySem.W.ks_superIn at hm2
  cases hc : PySem.W.clsIn K C with
  | none => rw [hc] at hm2; cases hm2
  | some cd =>
    rw [hc] at hm2
    obtain ⟨of, hof, hofc⟩ : ∃ of, h'.get? f2 = some of ∧ of.cls = .type "function" := by
      have ht' : (K.lookup f2).map (·.cls) = some (.type "function") := T.fn
      cases z : K.lookup f2 with
      | none => rw [z] at ht'; cases ht'
      | some of => rw [z] at ht'; exact ⟨of, K1 _ _ z, Option.some.inj ht'⟩
    have hxC : x ≠ C := by
      rintro rfl
      unfold PySem.W.clsIn at hc
      split at hc
      · rename_i c d cd' sl ho'
        have e := KX _ _ ho'
        have e2 : some (PySem.W.instObj x dx) = _ := hxo.symm.trans e
        cases e2
      · cases hc
    refine PySem.ks_wpAny_getMethod_super eso (PySem.W.looks_opaque K1 T.opq) (l₀ := cd.mro) ?_ rfl K1 hm2 hof hofc hxC (by decide) ?_
    · exact fun A Q E s k q => wpAny_bind ((PySem.W.looks_clsIn K1 hc) A _ E s k (wpAny_pure q))
    · have I1 : Inv (cxS CX P w K mg base N qual scope f (.ref cda) cc A outer s0 H0 E) [] σ H ⟨h', g, d, t, os⟩ := I.kept k
      have hfr : H h'.objs.size = none := I1.hok.fresh (Nat.le_refl _)
      have I2 : Inv (cxS CX P w K mg base N qual scope f (.ref cda) cc A outer s0 H0 E) [] σ (upd H h'.objs.size (.met f2 x)) ⟨h'.push { cls := .type "method", data := .fields #[.ref f2, .ref x] }, g, d, t + 1, os⟩ :=
        I1.laid (t' := t + 1) (a := h'.objs.size) (o := .met f2 x) (fun b u z => Heap.get?_push_of_some _ z) (Nat.le_refl _)
          (show (h'.push (PySem.W.methodObj (.ref f2) (.ref x))).get? h'.objs.size = some (PySem.W.methodObj (.ref f2) (.ref x)) from Heap.get?_push_size h' rfl)
      rw [hst] at hpl ⊢
      refine callwith_met (X := cxS CX P w K mg base N qual scope f (.ref cda) cc A outer s0 H0 E) (g := f2) (a := x) (keywords := []) (by rw [hpl] <;> rfl) T.fi ?_
      refine PySem.Calls.evalArgs_plain ?_
      have hrun := ha.run p3 [] _ σ _ _ I2 (hq _ hfr)
      have hst' : starEach (e :: es) (cxS CX P w K mg base N qual scope f (.ref cda) cc A outer s0 H0 E).env = _ := hst
      rw [hst'] at hrun
      refine thn hrun fun us s2 ⟨vs2, H2, I3, r, hmet, hsp⟩ => ⟨met_P I3 hmet, ?_⟩
      refine wpAny_call (call_met I3 hmet ?_)
      refine codeAny_mono (run_fnR (us := Value.ref x :: us) (vs := V.ref x :: vs2) F2 hr hx I3 (.cons rfl r) hsp) fun r s' hq' => ?_
      cases r with
      | error e => exact hq'
      | ok fl =>
        cases fl with
        | ret v =>
          obtain ⟨_, H', I4, _, q⟩ := hq'
          exact ⟨H', I4, q⟩
        | next => exact False.elim hq'
        | brk => exact False.elim hq'
        | cont => exact False.elim hq'

theorem fn_super {body : List Stmt} (hbd : body = .Expr (.Call (.Attribute (.Call (.Name "super" p0) [] [] p1) "__init__" p2) (e :: es) [] p3) p4 :: rest)
    (lk : K.lookup f = some ⟨oc, od, .func (PySem.W.fnX name qual params body scope [("__class__", cc)] dV kV doc pm an (.ref cda) ct), osl⟩) (hcd : PySem.W.codeIn K (.ref cda) qual = true) (S : SupScope N ps scope)
    (hcell : ∃ (cl : Value) (cld : Option Addr) (csl : Array (Option Value)), K.lookup cc = some ⟨cl, cld, .cell (some (.ref D)), csl⟩)
    (hp : (params.posonlyargs ++ params.args).head? = some ar) (h0 : N[0]? = some ar.arg) (hin : ar.arg ∈ ps)
    (len : ∀ vs H Q E, sp vs H Q E → vs.length = ps.length) (F2 : FnR P w K mg base CX j f2 sp2)
    (hst : ∀ env : Env, starEach (e :: es) env = (false, eval e env) :: starEach es env) (hpl : ∀ env : Env, (backTo p3 (starEach (e :: es) env)).any (·.1) = false)
    {pl : Env → Sem Bool}
    (he : ∀ env : Env, eval (.Call (.Attribute (.Call (.Name "super" p0) [] [] p1) "__init__" p2) (e :: es) [] p3) env = (do
        let ov ← attributeBase (.Call (.Name "super" p0) [] [] p1) "__init__" env (eval (.Call (.Name "super" p0) [] [] p1) env)
        standAt p2.atName
        let (g, first) ← holding [ov] (getMethod ov "__init__" (pl env))
        callWith p3 g first (backTo p3 (starEach (e :: es) env)) []))
    (hsw : ∀ env : Env, swapsWith (.Call (.Attribute (.Call (.Name "super" p0) [] [] p1) "__init__" p2) (e :: es) [] p3) none p4.line env = pure false)
    (hbody : ∀ (A : Around) (outer : List Env) (s : Shared) (H : Hp) (vs : List V) (Q : VK) (E : XK), Room k (A.deeper (supEnv qual scope s.heap.objs.size f (.ref cda) cc)) → sp vs H Q E →
      ∃ (C dx : Addr) (fs : List (Str × V)) (x : Addr) (ta : TA) (t : TS), (L2.start N vs)[0]? = some (some (.ref x)) ∧ H x = some (.ins C dx fs) ∧ SupFacts P K mg C D f2 cda cc ∧ Room j (A.deeper (supEnv qual scope s.heap.objs.size f (.ref cda) cc)) ∧
        Passes CX (cxS CX P w K mg base N qual scope f (.ref cda) cc A outer s H E) E ∧ PA (cxS CX P w K mg base N qual scope f (.ref cda) cc A outer s H E) (e :: es) ta ∧ PSs (cxS CX P w K mg base N qual scope f (.ref cda) cc A outer s H E) rest t ∧
        ∀ q, H q = none → ta (L2.start N vs) (upd H q (.met f2 x)) fun us H1 => H1 q = some (.met f2 x) ∧ sp2 (.ref x :: us) H1 (fun _ H2 => t { nx := fun _ H' => Q .non H', rt := Q } (L2.start N vs) H2) E) :
    FnOk P w K mg base CX (k + 1) f (PySem.W.fnX name qual params body scope [("__class__", cc)] dV kV doc pm an (.ref cda) ct) ps sp := by
  subst hbd
  refine ⟨len, fun A outer s H args us vs Q E hr e0 hb r hsp => ?_⟩
  have hl := len _ _ _ _ hsp
  have KX : K.In s.heap := e0.mod.kin.keeps fun b o e => (e0.bs b o e).1
  have lim : s.heap.NoLimit := e0.mod.nolimit.keeps fun b o e => (e0.bs b o e).1
  obtain ⟨cl, cld, csl, hcell⟩ := hcell
  refine PySem.ks_codeAny_call_defAt (binds := ps.zip us) hr.depth (KX _ _ lk) rfl lim (PySem.W.codeRec_of KX hcd) rfl hb S.nocell (fun y hy => S.par _ (List.of_mem_zip (show (y.1, y.2) ∈ ps.zip us from hy)).1) (fun h₁ hns hk₁ => ?_) S.co S.gen S.kind
  obtain ⟨C, dx, fs, x, ta, t, hσ, ho, T, hrj, hx, ha, hs, hq⟩ := hbody A outer s H vs Q E (hr.deeper _) hsp
  have I : Inv (cxS CX P w K mg base N qual scope f (.ref cda) cc A outer s H E) [] (L2.start N vs) H { s with heap := h₁, toks := s.toks + (ps.zip us).length } := inv_startS S hr.hd e0 hl r hcell hns hk₁
  have fin : ∀ {σ' : L2.St} {H' : Hp} {v : V} {u : Value} {s' : Shared}, Inv (cxS CX P w K mg base N qual scope f (.ref cda) cc A outer s H E) [] σ' H' s' → RelV v u → Q v H' → CE outer P w H s Q u s' :=
    fun {σ' H' v u s'} J rv q => ⟨v, H', J.os, J.bare, J.base, J.hok, rv, q⟩
  refine PySem.ks_wpAt_execs_cons (PySem.ks_wpAt_Expr_any (PySem.ks_wpAt_mono (super_call (pl := pl _) S T F2 lk hp h0 hin hrj hx I hσ ho ha hq (hst _) (hpl _) (he _)) (fun v s' hv => ?_) fun e s' hs => hs) ?_ (hsw _))
  · obtain ⟨H', J, q⟩ := hv
    show _root_.PySem.wpAt _ _ _ (execs rest _) _ _ s'
    refine wpAt_of_wpAny (wpAny_mono (hs.run [] s' (L2.start N vs) H' _ J q) (fun fl s'' hs' => ?_) fun e s'' hs' => hs')
    cases fl with
    | ret u =>
      obtain ⟨v, σ', H', J, rv, q⟩ := hs'
      exact fin J rv q
    | next =>
      obtain ⟨σ', H', J, q⟩ := hs'
      exact fin (v := V.non) (u := Value.none) J rfl q
    | brk =>
      obtain ⟨_, _, _, q⟩ := hs'
      exact False.elim q
    | cont =>
      obtain ⟨_, _, _, q⟩ := hs'
      exact False.elim q
  · show interactive (supEnv qual scope s.heap.objs.size f (.ref cda) cc) = false
    simp [interactive, S.kind]
end
end OwnL

/-! ### an own exception over ValueError whose __init__ begins with super().__init__(..) -/
namespace OwnL
open PySem PySem.W PySem.Calls PyProof.Rows
/-- ValueError.__init__ bound to x -/
abbrev vwrap (x : Addr) : Obj := { cls := .type "method-wrapper", dict := none, data := .fields #[.builtin "ValueError.__init__", .ref x], slots := #[] }
theorem type_vi : typeOf (.builtin "ValueError.__init__") = pure (.type "wrapper_descriptor") := by
  show builtinType _ = _
  rw [builtinType_eq_fast]
  kernel_rfl
theorem name_vi : (kfb_private% "nameAndClass") (Value.builtin "ValueError.__init__") = (pure (("__init__" : Str), Value.type "ValueError") : Sem (Str × Value)) := by kernel_rfl
section
variable {prog : Program} {w : World} {M : Model} {A : Around} {E : Value → Shared → Prop} {h : Heap} {g : Array GenState} {d : Drawn} {t : Nat} {os : OsState}
theorem bind_vi {x C : Addr} {P : Fin → Shared → Prop} (isV : PySem.W.Looks M h (isInstance (.ref x) (.type "ValueError")) true) (q : P (.done (.ret (.ref h.objs.size))) ⟨h.push (vwrap x), g, d, t, os⟩) :
    wpAny M A (Builtin.«wrapper_descriptor.__get__» ⟨[.builtin "ValueError.__init__", .ref x, .ref C], []⟩) P E ⟨h, g, d, t, os⟩ := by
  unfold Builtin.«wrapper_descriptor.__get__»
  refine wpAny_bind (wpAny_of_eq (a := (.builtin "ValueError.__init__", some (.ref x), some (.ref C))) (by first | rfl | kernel_rfl) ?_)
  show wpAny M A ((kfb_private% "checkInstance") (.builtin "ValueError.__init__") (.ref x) >>= fun _ => newFields "method-wrapper" [.builtin "ValueError.__init__", .ref x] >>= fun r => ret r) P E _
  refine wpAny_bind ?_
  show wpAny M A ((kfb_private% "nameAndClass") (.builtin "ValueError.__init__") >>= _) _ E _
  refine wpAny_bind (wpAny_of_eq name_vi ?_)
  show wpAny M A (isInstance (.ref x) (.type "ValueError") >>= _) _ E _
  exact wpAny_bind (isV.at (KFB.if_not rfl (wpAny_pure (wpAny_bind (wpAny_newObj_type (wpAny_pure q))))))
theorem super_vi {so D x C : Addr} {l0 l : List Value} {K : Frag} {name : Str} {tk : Tok} {Q : Fin → Shared → Prop}
    (hso : h.get? so = some { cls := .type "super", dict := none, data := .fields #[.ref D, .ref x, .ref C], slots := #[] }) (nop : PySem.W.Looks (model prog w) h (opaqueClassAbove (.ref C)) none)
    (hC : PySem.W.Looks (model prog w) h (mroOf (.ref C)) l0) (hl : (l0.dropWhile (· != .ref D)).drop 1 = l) (X : K.In h) (hf : alongIn K name l = some (some (.builtin "ValueError.__init__"))) (xC : x ≠ C) (hn : (name == ("__class__" : Str)) = false)
    (isV : PySem.W.Looks (model prog w) h (isInstance (.ref x) (.type "ValueError")) true) (q : Q (.done (.ret (.ref h.objs.size))) ⟨h.push (vwrap x), g, d, t, os⟩) :
    wpAny (model prog w) A (Builtin.«super.__getattribute__» ⟨[.ref so, .str name tk], []⟩) Q E ⟨h, g, d, t, os⟩ := by
  have e1 := ESX.slot_wd.lookup
  have e2 : (Value.ref x == Value.ref C) = false := by simp [xC]
  have e3 := type_vi
  have e4 : Shared.TypeIs ⟨h, g, d, t, os⟩ (.builtin "ValueError.__init__") "wrapper_descriptor" := type_vi
  have dt : ({ cls := .type "super", dict := none, data := .fields #[.ref D, .ref x, .ref C], slots := #[] } : Obj).data = .fields #[.ref D, .ref x, .ref C] := rfl
  have g0 : (#[.ref D, .ref x, .ref C] : Array Value)[0]? = some (.ref D) := rfl
  have g1 : (#[.ref D, .ref x, .ref C] : Array Value)[1]? = some (.ref x) := rfl
  have g2 : (#[.ref D, .ref x, .ref C] : Array Value)[2]? = some (.ref C) := rfl
  unfold Builtin.«super.__getattribute__»
  repeat (first
    | (with_reducible refine wpAny_field hso dt g0 ?_) | (with_reducible refine wpAny_field hso dt g1 ?_) | (with_reducible refine wpAny_field hso dt g2 ?_)
    | (with_reducible refine ks_wpAny_notOpaque nop ?_)
    | (with_reducible refine Looks.at hC ?_; rw [hl]) | (refine ks_forIn_along X (fun _ _ => rfl) rfl ?_ hf)
    | (with_reducible refine wpAny_call_entry ESX.slot_wd e4 ESX.entry_wd ?_ (ESX.args_wd _ _ _))
    | (with_reducible refine bind_vi isV ?_) | (with_reducible refine ⟨_, rfl, ?_⟩)
    | (simp only [hn, e2, Bool.or_false, Bool.false_eq_true, if_false]) | wp_step | dsimp only)
  all_goals exact q
theorem method_vi {so D x C : Addr} {l0 l : List Value} {K : Frag} {name : Str} {pl : Sem Bool} {Q : Value × List Value → Shared → Prop}
    (hso : h.get? so = some { cls := .type "super", dict := none, data := .fields #[.ref D, .ref x, .ref C], slots := #[] }) (nop : PySem.W.Looks (model prog w) h (opaqueClassAbove (.ref C)) none)
    (hC : PySem.W.Looks (model prog w) h (mroOf (.ref C)) l0) (hl : (l0.dropWhile (· != .ref D)).drop 1 = l) (X : K.In h) (hf : alongIn K name l = some (some (.builtin "ValueError.__init__"))) (xC : x ≠ C) (hn : (name == ("__class__" : Str)) = false)
    (isV : PySem.W.Looks (model prog w) h (isInstance (.ref x) (.type "ValueError")) true) (q : Q (.ref h.objs.size, []) ⟨h.push (vwrap x), g, d, t + 1, os⟩) :
    wpAny (model prog w) A (getMethod (.ref so) name pl) Q E ⟨h, g, d, t, os⟩ := by
  have e1 := F.ks_slot_super_ga.lookup
  have e2 := F.ks_canon_super_ga
  have e3 : ∀ t', (⟨h, g, d, t', os⟩ : Shared).TypeIs (.ref so) "super" := fun _ => ⟨_, hso, rfl⟩
  unfold getMethod
  refine wpAny_bind (wpAny_specialOf (e3 _) e1 ?_)
  show wpAny _ _ (if (Manifest.canonical "super.__getattribute__" != "object.__getattribute__") = true then _ else _) _ _ _
  rw [if_pos e2]
  unfold getAttr getAttrBy
  refine wpAny_bind (wpAny_bind (wpAny_mkText (wpAny_holding (wpAny_bind (wpAny_typeOf (e3 _) (wpAny_bind (wpAny_of_eq e1 ?_)))))))
  show wpAny _ _ (getAttrByItsOwn (.ref so) (.str name t) (.type "super") (.builtin "super.__getattribute__") true false) _ _ _
  unfold getAttrByItsOwn hookBefore callGetattribute boundAndCalled
  refine wpAny_bind (wpAny_of_eq (show (if onTheHeap (.type "super") then typeLookup (.type "super") "__getattr__" else pure none) = pure none from rfl) (wpAny_bind (wpAny_attempt (wpAny_holding ?_))))
  show wpAny _ _ (bindSpecial (.builtin "super.__getattribute__") (.ref so) >>= _) _ _ _
  refine wpAny_bind (wpAny_of_eq (F.ks_slot_super_ga.bind _) ?_)
  refine wpAny_mono (Q := fun v s' => v = .ref h.objs.size ∧ s' = ⟨h.push (vwrap x), g, d, t + 1, os⟩) (E := fun _ _ => False)
    (wpAny_call_entry F.ks_slot_super_ga (e3 _) F.ks_entry_super_ga (super_vi hso nop hC hl X hf xC hn isV ⟨_, rfl, rfl, rfl⟩) (F.ks_gaArgs_super _ _)) (fun v s' ⟨h1, h2⟩ => ?_) fun _ _ z => z.elim
  subst h1 h2
  exact wpAny_pure (wpAny_pure q)
end
section
variable {M : Model} {A : Around} {E : Value → Shared → Prop} {s : Shared}
theorem with_vi {pos : Pos} {u x : Addr} {first : List Value} {args : List (Bool × Sem Value)} {Q : Value → Shared → Prop} (np : args.any (·.1) = false)
    (h : wpAny M A (evalArgs (.ref u) true args []) (fun a s1 => s1.heap.get? u = some (vwrap x) ∧ wpAny M A (call (.ref u) (first ++ a.pos) a.kw) Q E s1) E s) : wpAny M A (callWith pos (.ref u) first args []) Q E s := by
  unfold callWith
  refine wpAny_bind (wpAny_holding (wpAny_mono h (fun a s1 ⟨ho, hcall⟩ => wpAny_bind (wpAny_standAt ?_)) fun _ _ x => x))
  simp only [np, List.any_nil, Bool.or_false]
  refine wpAny_bind (m := keeperOf (.ref u)) ?_
  unfold keeperOf
  refine wpAny_bind (wpAny_load ho ?_)
  simp only [vwrap, show (Value.type "method-wrapper" != Value.type "method") = true by decide, show (Value.type "method-wrapper" == Value.type "builtin_function_or_method" || Value.type "method-wrapper" == Value.type "method-wrapper") = true by decide, if_true]
  exact wpAny_pure (wpAny_bind (wpAny_mono hcall (fun r s2 hr => wpAny_bind (wpAny_holding (wpAny_point (wpAny_pure hr)))) fun _ _ x => x))
end
section
variable {prog : Program} {w : World} {A : Around} {E : Value → Shared → Prop} {h : Heap} {g : Array GenState} {d : Drawn} {t : Nat} {os : OsState}
variable {nm q : Str} {C N : Addr} {bs bm : List Value} {hdct : Bool} {sn : List Str} {sub : List Value} {ab : Bool} {col : Option Bool} {dd : Option Addr} {k0 k1 k2 k3 k5 : Option Value}
theorem call_vi {u e t0 : Addr} {rest : List Value} {Q : Value → Shared → Prop}
    (hC : h.get? C = some (excClassObj nm q C N bs bm hdct sn sub ab col dd k0 k1 k2 k3 k5 "ValueError.__new__")) (he : h.get? e = some (HandSPX.excO C t0)) (hu : h.get? u = some (vwrap e)) (few : rest.length ≤ sizeLine)
    (go : ∀ h' t1, (∀ b o, b ≠ e → h.get? b = some o → h'.get? b = some o) → h'.get? e = some (HandSPX.excO C t1) → Q .none ⟨h', g, d, t, os⟩) :
    wpAny (model prog w) A (call (.ref u) rest) Q E ⟨h, g, d, t, os⟩ := by
  refine wpAny_call (codeAny_of_tree ?_)
  show wpAny _ A.in1 (callAny (.ref u) ⟨rest, []⟩) _ _ _
  simp only [callAny]
  refine wpAny_bind (wpAny_load hu ?_)
  simp only [vwrap, show (Value.type "method-wrapper" == Value.type "method" || Value.type "method-wrapper" == Value.type "builtin_function_or_method" || Value.type "method-wrapper" == Value.type "method-wrapper") = true by decide, if_true]
  refine PySem.W.KFB.if_so (by decide) (wpAny_bind (ESX.check_bound F.excBase_ValueError hC he rfl (wpAny_bind (wpAny_pure (wpAny_pure ⟨Code.quiet_builtin _ (by decide +kernel), codeAny_builtin F.excBase_ValueError.initEntry ?_⟩)))))
  rw [Around.under_plainId F.excBase_ValueError.init.plain _]
  wp_walk
  refine go _ h.objs.size (fun b o nb ho => ?_) ?_
  · rw [Heap.get?_update_other _ _ (Ne.symm nb)]
    exact Heap.get?_push_of_some _ ho
  · rw [Heap.get?_update_self _ (Heap.get?_push_of_some _ he) rfl]
    rfl
end
end OwnL
namespace OwnL
open PySem PySem.Spec PyProof.Rows L2
/-- what the written part says of such an __init__: its code's file, its cell; super() finds ValueError.__init__ -/
structure SupV (P : Program) (K : PySem.W.Frag) (C cda cc : Addr) : Prop where
  code : ∃ (ccl : Value) (cdd : Option Addr) (vs : Array Value) (ccs : Array (Option Value)) (file : Str) (tf : Tok), K.lookup cda = some ⟨ccl, cdd, .fields vs, ccs⟩ ∧ vs[2]? = some (.str file tf) ∧ ((P.main.file : Str) == file) = true
  cell : ∃ (cl : Value) (cld : Option Addr) (csl : Array (Option Value)), K.lookup cc = some ⟨cl, cld, .cell (some (.ref C)), csl⟩
  isC : ∃ cd, PySem.W.clsIn K C = some cd
  sub : PySem.W.mroIn K C (.ref C) = some true
  val : PySem.W.mroIn K C (.type "ValueError") = some true
  noSup : PySem.W.nsIn K mainGlobals "super" = some none
  top : (P.main.scope.names.lookup ("super" : Str)).isSome = false
  opq : PySem.W.nsIn K cStatics "thirdparty.any" = some none
  find : PySem.W.ks_superIn K C C "__init__" = some (some (.builtin "ValueError.__init__"))
  exc : OexC K C
section
variable {CX : CXT} {P : Program} {w : World} {K : PySem.W.Frag} {mg : Str → Option Value} {base : Heap} {k : Nat} {f C cda cc : Addr} {name qual : Str} {params : Arguments} {scope : Scope} {dV kV doc pm ct oc : Value} {an od : Option Addr}
    {osl : Array (Option Value)} {N ps : List Str} {sp : Sp} {x0 : Str} {e : Expr} {es : List Expr} {rest : List Stmt} {p0 p1 p2 p3 p4 psup : Pos} {ar : Arg}
/-- the first statement: super().__init__(..) of an exception that is being made -/
theorem superV_call {A : Around} {outer : List Env} {s0 : Shared} {H0 : Hp} {E : XK} {body : List Stmt} {s : Shared} {σ : L2.St} {H : Hp} {ta : TA} {fd : FuncData} {x : Addr} {Q : Hp → Prop} {pl : Sem Bool}
    (S : SupScope N ps scope) (T : SupV P K C cda cc) (lk : K.lookup f = some ⟨oc, od, .func fd, osl⟩) (hp : (fd.params.posonlyargs ++ fd.params.args).head? = some ar) (h0 : N[0]? = some ar.arg) (hin : ar.arg ∈ ps)
    (I : Inv (cxS CX P w K mg base N qual scope f (.ref cda) cc A outer s0 H0 E) [] σ H s) (hσ : σ[0]? = some (some (.ref x))) (ho : H x = some (exo x C none))
    (ha : PA (cxS CX P w K mg base N qual scope f (.ref cda) cc A outer s0 H0 E) (e :: es) ta)
    (hq : ∀ (q : Addr) (φ : Heap → Prop), H q = none → ta σ (upd H q (.ext φ)) fun us H1 => H1 q = some (.ext φ) ∧ us.length ≤ 1000 ∧ H1 x = some (exo x C none) ∧ Q H1)
    (hst : starEach (e :: es) (supEnv qual scope s0.heap.objs.size f (.ref cda) cc) = (false, eval e (supEnv qual scope s0.heap.objs.size f (.ref cda) cc)) :: starEach es (supEnv qual scope s0.heap.objs.size f (.ref cda) cc) := by rfl)
    (hpl : (backTo p3 (starEach (e :: es) (supEnv qual scope s0.heap.objs.size f (.ref cda) cc))).any (·.1) = false := by rfl)
    (he : eval (.Call (.Attribute (.Call (.Name "super" p0) [] [] p1) "__init__" p2) (e :: es) [] p3) (supEnv qual scope s0.heap.objs.size f (.ref cda) cc) = (do
        let ov ← attributeBase (.Call (.Name "super" p0) [] [] p1) "__init__" (supEnv qual scope s0.heap.objs.size f (.ref cda) cc) (eval (.Call (.Name "super" p0) [] [] p1) (supEnv qual scope s0.heap.objs.size f (.ref cda) cc))
        standAt p2.atName
        let (g, first) ← holding [ov] (getMethod ov "__init__" pl)
        callWith p3 g first (backTo p3 (starEach (e :: es) (supEnv qual scope s0.heap.objs.size f (.ref cda) cc))) []) := by rfl) :
    _root_.PySem.wpAt (model P w) (A.deeper (supEnv qual scope s0.heap.objs.size f (.ref cda) cc)) (.func body (supEnv qual scope s0.heap.objs.size f (.ref cda) cc))
      (eval (.Call (.Attribute (.Call (.Name "super" p0) [] [] p1) "__init__" p2) (e :: es) [] p3) (supEnv qual scope s0.heap.objs.size f (.ref cda) cc))
      (fun _ s' => ∃ H', Inv (cxS CX P w K mg base N qual scope f (.ref cda) cc A outer s0 H0 E) [] σ H' s' ∧ Q H') (cxS CX P w K mg base N qual scope f (.ref cda) cc A outer s0 H0 E).xe s := by
  have KX : K.In s.heap := I.kIn
  obtain ⟨ccl, cdd, vs, ccs, file, tf, hcode, hvs, hfile⟩ := T.code
  obtain ⟨cl, cld, csl, hcell⟩ := T.cell
  obtain ⟨cdD, hD⟩ := T.isC
  obtain ⟨t1, hxo⟩ := exo_at I.hok ho
  have hka : scope.names.lookup ar.arg = some .local := S.par _ hin
  obtain ⟨m, hns, hl⟩ := id I.loc
  obtain ⟨u, ru, hlook⟩ := hl 0 ar.arg (.ref x) h0 hσ (.inl hka)
  obtain rfl : u = Value.ref x := ru
  have hm : m ar.arg = some (.ref x) := by
    rcases hlook with ⟨_, e⟩ | ⟨hk, _⟩
    · exact e
    · rcases hk with hk | hk
      · have hk' : scope.names.lookup ar.arg = some .cell := hk
        rw [hka] at hk'; cases hk'
      · have hk' : scope.names.lookup ar.arg = some .free := hk
        rw [hka] at hk'; cases hk'
  obtain ⟨oD, hD1, hD2⟩ : ∃ oD, s.heap.get? C = some oD ∧ oD.data = .cls cdD := by
    unfold PySem.W.clsIn at hD
    split at hD
    · rename_i c d cd' sl hoD
      cases hD
      exact ⟨_, KX _ _ hoD, rfl⟩
    · cases hD
  refine PySem.ks_wpAt_MethodCall (pl := pl) ?_ he
  refine PySem.ks_wpAt_super_base (f := f) (cc := cda) (env := supEnv qual scope s0.heap.objs.size f (.ref cda) cc) S.sup S.cls (by decide) rfl (KX _ _ lk) rfl hp rfl (KX _ _ hcode) rfl hvs hfile T.top ?_
  obtain ⟨mb, hb1, hb2⟩ := I.mod.blt
  refine PySem.W.ks_loadName_global S.kind S.sup (Calls.loadGlobal_builtin (env := supEnv qual scope s0.heap.objs.size f (.ref cda) cc) (I.mod.glob.keeps I.bk) (PySem.W.mg_none_of I.ok.mod.kin I.mod.glob T.noSup) (hb1.keeps I.bk) ((hb2 _ (by decide)).trans boot_super) ⟨rfl, ?_⟩)
  refine wpAny_loadName_free S.kind S.cls rfl ⟨_, KX _ _ hcell, rfl⟩ ?_
  refine wpAny_loadName_local S.kind hka hns hm ?_
  obtain ⟨hh, g, d, t, os⟩ := s
  refine PySem.ks_wpAny_isType_cls hD1 hD2 ⟨rfl, ?_⟩
  refine PySem.ks_wpAny_call_super hD1 hD2 hxo rfl (fun c e => nomatch e) (PySem.W.looks_mroIn KX T.sub) (fun h' eso k => ?_)
  have K1 : K.In h' := KX.keeps k
  have hm2 := T.find
  unfold PySem.W.ks_superIn at hm2
  cases hc : PySem.W.clsIn K C with
  | none => rw [hc] at hm2; cases hm2
  | some cd =>
    rw [hc] at hm2
    have hxC : x ≠ C := by
      rintro rfl
      unfold PySem.W.clsIn at hc
      split at hc
      · rename_i ho'
        have e := KX _ _ ho'
        cases hxo.symm.trans e
      · cases hc
    have hx1 := k _ _ hxo
    have isV : PySem.W.Looks (model P w) h' (isInstance (.ref x) (.type "ValueError")) true :=
      (show PySem.W.Looks (model P w) h' (typeOf (.ref x)) (.ref C) from fun A Q E s kp q => wpAny_typeOf_ref (kp _ _ hx1) q).andThen (PySem.W.looks_mroIn K1 T.val)
    refine method_vi eso (PySem.W.looks_opaque K1 T.opq) (l0 := cd.mro) ?_ rfl K1 hm2 hxC (by decide) isV ?_
    · exact fun A Q E s k q => wpAny_bind ((PySem.W.looks_clsIn K1 hc) A _ E s k (wpAny_pure q))
    · have I1 : Inv (cxS CX P w K mg base N qual scope f (.ref cda) cc A outer s0 H0 E) [] σ H ⟨h', g, d, t, os⟩ := I.kept k
      have wr : (h'.push (vwrap x)).get? h'.objs.size = some (vwrap x) := Heap.get?_push_size h' rfl
      have hfr : H h'.objs.size = none := I1.hok.fresh (Nat.le_refl _)
      have okφ : ObjOk P w (upd H h'.objs.size (.ext fun h => h.get? h'.objs.size = some (vwrap x))) (h'.push (vwrap x)) h'.objs.size (.ext fun h => h.get? h'.objs.size = some (vwrap x)) := ⟨wr, ⟨_, wr⟩, fun h1 h2 z st => st _ z⟩
      have I2 : Inv (cxS CX P w K mg base N qual scope f (.ref cda) cc A outer s0 H0 E) [] σ (upd H h'.objs.size (.ext fun h => h.get? h'.objs.size = some (vwrap x))) ⟨h'.push (vwrap x), g, d, t + 1, os⟩ :=
        I1.laid (t' := t + 1) (a := h'.objs.size) (fun b u z => Heap.get?_push_of_some _ z) (Nat.le_refl _) okφ
      have run := ha.run p3 [] _ σ _ _ I2 (hq h'.objs.size _ hfr)
      rw [hst] at hpl ⊢
      refine with_vi (x := x) hpl (PySem.Calls.evalArgs_plain ?_)
      have hst' : starEach (e :: es) (cxS CX P w K mg base N qual scope f (.ref cda) cc A outer s0 H0 E).env = _ := hst
      rw [hst'] at run
      refine thn run fun us s2 ⟨vs2, H2, I3, r, hw, few, hx2, q2⟩ => ?_
      have w2 : s2.heap.get? h'.objs.size = some (vwrap x) := (I3.hok _ _ hw).1
      refine ⟨w2, ?_⟩
      obtain ⟨cnm, cq, cN, cbs, cbm, csn, csub, cab, ccol, cdd2, c0, c1, c2, c3, c5, hCl, _⟩ := T.exc.cls
      obtain ⟨t2, hx3⟩ := exo_at I3.hok hx2
      obtain ⟨hp2, g2, d2, tt2, os2⟩ := s2
      have few2 : us.length ≤ sizeLine := by
        rw [← Paired.length r, sizeLine_eq]
        omega
      refine call_vi (I3.kIn _ _ hCl) hx3 w2 few2 fun h3 t3 kk hx4 => ⟨H2, ?_, q2⟩
      have J := I3.write (t' := tt2) (x := x) (e := x) (o := exo x C none) (by rw [hx2]; exact True.intro) (.inl rfl) kk ⟨_, hx4⟩ (exo_ok hx4)
      have same : upd H2 x (exo x C none) = H2 := by
        funext b
        by_cases z : b = x
        · rw [z, upd_same, hx2]
        · rw [upd_ne z]
      rw [same] at J
      exact J
/-- such an __init__ as a def -/
theorem fn_superV {body : List Stmt} (hbd : body = .Expr (.Call (.Attribute (.Call (.Name "super" p0) [] [] p1) "__init__" p2) (e :: es) [] p3) p4 :: rest)
    (lk : K.lookup f = some ⟨oc, od, .func (PySem.W.fnX name qual params body scope [("__class__", cc)] dV kV doc pm an (.ref cda) ct), osl⟩) (hcd : PySem.W.codeIn K (.ref cda) qual = true) (S : SupScope N ps scope) (T : SupV P K C cda cc)
    (hp : (params.posonlyargs ++ params.args).head? = some ar) (h0 : N[0]? = some ar.arg) (hin : ar.arg ∈ ps) (len : ∀ vs H Q E, sp vs H Q E → vs.length = ps.length)
    (hst : ∀ env : Env, starEach (e :: es) env = (false, eval e env) :: starEach es env) (hpl : ∀ env : Env, (backTo p3 (starEach (e :: es) env)).any (·.1) = false)
    {pl : Env → Sem Bool}
    (he : ∀ env : Env, eval (.Call (.Attribute (.Call (.Name "super" p0) [] [] p1) "__init__" p2) (e :: es) [] p3) env = (do
        let ov ← attributeBase (.Call (.Name "super" p0) [] [] p1) "__init__" env (eval (.Call (.Name "super" p0) [] [] p1) env)
        standAt p2.atName
        let (g, first) ← holding [ov] (getMethod ov "__init__" (pl env))
        callWith p3 g first (backTo p3 (starEach (e :: es) env)) []))
    (hsw : ∀ env : Env, swapsWith (.Call (.Attribute (.Call (.Name "super" p0) [] [] p1) "__init__" p2) (e :: es) [] p3) none p4.line env = pure false)
    (hbody : ∀ (A : Around) (outer : List Env) (s : Shared) (H : Hp) (vs : List V) (Q : VK) (E : XK), Room k (A.deeper (supEnv qual scope s.heap.objs.size f (.ref cda) cc)) → sp vs H Q E →
      ∃ (x : Addr) (ta : TA) (t : TS), (L2.start N vs)[0]? = some (some (.ref x)) ∧ H x = some (exo x C none) ∧ PA (cxS CX P w K mg base N qual scope f (.ref cda) cc A outer s H E) (e :: es) ta ∧ PSs (cxS CX P w K mg base N qual scope f (.ref cda) cc A outer s H E) rest t ∧
        ∀ (q : Addr) (φ : Heap → Prop), H q = none → ta (L2.start N vs) (upd H q (.ext φ)) fun us H1 => H1 q = some (.ext φ) ∧ us.length ≤ 1000 ∧ H1 x = some (exo x C none) ∧ t { nx := fun _ H' => Q .non H', rt := Q } (L2.start N vs) H1) :
    FnOk P w K mg base CX (k + 1) f (PySem.W.fnX name qual params body scope [("__class__", cc)] dV kV doc pm an (.ref cda) ct) ps sp := by
  subst hbd
  refine ⟨len, fun A outer s H args us vs Q E hr e0 hb r hsp => ?_⟩
  have KX : K.In s.heap := e0.mod.kin.keeps fun b o e => (e0.bs b o e).1
  have lim : s.heap.NoLimit := e0.mod.nolimit.keeps fun b o e => (e0.bs b o e).1
  obtain ⟨cl, cld, csl, hcell⟩ := T.cell
  refine PySem.ks_codeAny_call_defAt (binds := ps.zip us) hr.depth (KX _ _ lk) rfl lim (PySem.W.codeRec_of KX hcd) rfl hb S.nocell (fun y hy => S.par _ (List.of_mem_zip (show (y.1, y.2) ∈ ps.zip us from hy)).1) (fun h₁ hns hk₁ => ?_) S.co S.gen S.kind
  obtain ⟨x, ta, t, hσ, ho, ha, hs, hq⟩ := hbody A outer s H vs Q E (hr.deeper _) hsp
  have I : Inv (cxS CX P w K mg base N qual scope f (.ref cda) cc A outer s H E) [] (L2.start N vs) H { s with heap := h₁, toks := s.toks + (ps.zip us).length } := inv_startS S hr.hd e0 (len _ _ _ _ hsp) r hcell hns hk₁
  have fin : ∀ {σ' : L2.St} {H' : Hp} {v : V} {u : Value} {s' : Shared}, Inv (cxS CX P w K mg base N qual scope f (.ref cda) cc A outer s H E) [] σ' H' s' → RelV v u → Q v H' → CE outer P w H s Q u s' :=
    fun {σ' H' v u s'} J rv q => ⟨v, H', J.os, J.bare, J.base, J.hok, rv, q⟩
  refine PySem.ks_wpAt_execs_cons (PySem.ks_wpAt_Expr_any (PySem.ks_wpAt_mono (superV_call (pl := pl _) S T lk hp h0 hin I hσ ho ha hq (hst _) (hpl _) (he _)) (fun v s' ⟨H', J, q⟩ => ?_) fun e s' hs => hs) ?_ (hsw _))
  · show _root_.PySem.wpAt _ _ _ (execs rest _) _ _ s'
    refine wpAt_of_wpAny (wpAny_mono (hs.run [] s' (L2.start N vs) H' _ J q) (fun fl s'' hs' => ?_) fun e s'' hs' => hs')
    match fl, hs' with
    | .ret u, ⟨v, σ', H', J, rv, q⟩ => exact fin J rv q
    | .next, ⟨σ', H', J, q⟩ => exact fin (v := V.non) (u := Value.none) J rfl q
    | .brk, ⟨_, _, _, q⟩ => exact False.elim q
    | .cont, ⟨_, _, _, q⟩ => exact False.elim q
  · show interactive (supEnv qual scope s.heap.objs.size f (.ref cda) cc) = false
    simp [interactive, S.kind]
end
end OwnL

/-! ### lambdas with one parameter that has a written default, called without arguments -/
namespace OwnL
open PySem PySem.Spec PyProof.Rows L2 LamX
/-- the object of a lambda whose defaults are dV -/
abbrev lamF (dV : Value) (qual : Str) (params : Arguments) (body : Expr) (scope : Scope) (cl : List (Str × Addr)) (pm cdv ct : Value) : FuncData :=
  { name := "<lambda>", qualname := qual, params, body := .expr body, scope, globals := mainGlobals, closure := cl, defaults := dV, kwdefaults := .none,
    doc := .none, pyModule := pm, annotations := none, code := cdv, closureTuple := ct, builtins := builtinsNs }
abbrev lamO (dV : Value) (qual : Str) (params : Arguments) (body : Expr) (scope : Scope) (cl : List (Str × Addr)) (pm : Value) (c' : Addr) (ctv : Value) : Obj :=
  { cls := .type "function", data := .func (lamF dV qual params body scope cl pm (.ref c') ctv) }
section
open PySem.W
variable {M : Model} {A : Around} {E : Value → Shared → Prop} {s : Shared} {qual : Str} {params : Arguments} {body : Expr} {scope : Scope} {env : Env} {c P : Addr} {ps : Array Value} {pos : Pos} {ln : Nat} {mg : Str → Option Value}
variable {cls : List (Str × Addr)} {Q : Value → Shared → Prop} {dV : Value}
theorem lam_tail_new (k1 : closureFor scope env = pure cls) (k2 : env.globals = mainGlobals) (k3 : s.heap.Ns mainGlobals mg) (k4 : env.code = .ref c) (k5 : CodeHd s.heap c P) (k6 : s.heap.get? P = some (tabObj ps)) (k7 : TriplesOk ps.toList)
    (k8 : codeAmong pos ps.toList = none) (k9 : mainGlobals ≠ P) (kb : s.heap.BuiltinsAt mg P)
    (go : ∀ c' ctv h' tk, Heap.ExtBut P s.heap h' → s.heap.objs.size ≤ c' → c' < h'.objs.size → h'.CodeRec (.ref c') qual → h'.get? P = some (tabObj (ps ++ #[rawInt pos.line, rawInt pos.col, .ref c'])) →
      Q (.ref h'.objs.size) { s with heap := h'.push (lamO dV qual params body scope cls ((mg "__name__").getD .none) c' ctv), toks := tk }) :
    wpAny M A (makeTail "<lambda>" qual params (.expr body) scope env dV .none none pos ln) Q E s := by
  obtain ⟨bm, ob, e1, e2, _, e3, e4, e5, e6, e7⟩ := kb
  unfold makeTail
  rw [k1, k2]
  refine wpAny_bind (wpAny_pure ?_)
  cases hc : cls with
  | nil =>
    subst hc
    simp only [List.isEmpty_nil, if_true]
    refine wpAny_bind (wpAny_pure (wpAny_bind ?_))
    refine wpAny_functionCodeX k4 (k5.code k6 k7) (k5.tab k6) k8 fun c' h' tk hx hge hlt _ hr ht _ => wpAny_bind ?_
    have g' := k3.extBut hx k9
    refine wpAny_builtinsFor g' e1 e2 (hx _ _ e3 e4) e5 e6 e7 (wpAny_bind (wpAny_nsGet g' (wpAny_bind (wpAny_pure ?_))))
    exact wpAny_newObj_type (go c' .none h' tk hx hge hlt hr ht.2) (by size_fits)
  | cons q r =>
    subst hc
    simp only [List.isEmpty_cons, Bool.false_eq_true, if_false]
    refine wpAny_bind (wpAny_newTextTuple (wpAny_bind ?_))
    have kp : ∀ {o : Obj} b u, s.heap.get? b = some u → (s.heap.push o).get? b = some u := fun b u e => Heap.get?_push_of_some _ e
    have k5' := k5.keeps (kp (o := { cls := .type "tuple", data := .seq (((q :: r).mergeSort fun a b => a.1.cps.toList ≤ b.1.cps.toList).map (Value.ref ·.2)).toArray }))
    refine wpAny_functionCodeX k4 (k5'.code (kp _ _ k6) k7) (k5'.tab (kp _ _ k6)) k8 fun c' h' tk hx hge hlt _ hr ht _ => wpAny_bind ?_
    have g' := (k3.push _).extBut hx k9
    have hx' : Heap.ExtBut P s.heap h' := fun b o nb e => hx b o nb (kp _ _ e)
    refine wpAny_builtinsFor g' e1 e2 (hx' _ _ e3 e4) e5 e6 e7 (wpAny_bind (wpAny_nsGet g' (wpAny_bind (wpAny_pure ?_))))
    exact wpAny_newObj_type (go c' _ h' tk hx' (Nat.le_trans (by rw [Heap.size_push]; omega) hge) hlt hr ht.2) (by size_fits)
theorem lam_tail_hit {cv : Value} (k1 : closureFor scope env = pure cls) (k2 : env.globals = mainGlobals) (k3 : s.heap.Ns mainGlobals mg) (k4 : env.code = .ref c) (k5 : CodeHd s.heap c P) (k6 : s.heap.get? P = some (tabObj ps)) (k7 : TriplesOk ps.toList)
    (k8 : codeAmong pos ps.toList = some cv) (kb : s.heap.BuiltinsAt mg P)
    (go : ∀ (ctv : Value) (h' : Heap) (tk : Tok), (∀ b o, s.heap.get? b = some o → h'.get? b = some o) → s.heap.objs.size ≤ h'.objs.size →
      Q (.ref h'.objs.size) { s with heap := h'.push { cls := .type "function", data := .func (lamF dV qual params body scope cls ((mg "__name__").getD .none) cv ctv) }, toks := tk }) :
    wpAny M A (makeTail "<lambda>" qual params (.expr body) scope env dV .none none pos ln) Q E s := by
  obtain ⟨bm, ob, e1, e2, _, e3, e4, e5, e6, e7⟩ := kb
  unfold makeTail
  rw [k1, k2]
  refine wpAny_bind (wpAny_pure ?_)
  cases hc : cls with
  | nil =>
    subst hc
    simp only [List.isEmpty_nil, if_true]
    refine wpAny_bind (wpAny_pure (wpAny_bind (wpAny_functionCode_hit k4 (k5.code k6 k7) k8 (wpAny_bind ?_))))
    refine wpAny_builtinsFor k3 e1 e2 e4 e5 e6 e7 (wpAny_bind (wpAny_nsGet k3 (wpAny_bind (wpAny_pure ?_))))
    exact wpAny_newObj_type (go .none s.heap s.toks (fun _ _ e => e) (Nat.le_refl _)) (by size_fits)
  | cons q r =>
    subst hc
    simp only [List.isEmpty_cons, Bool.false_eq_true, if_false]
    have kp : ∀ {o : Obj} b u, s.heap.get? b = some u → (s.heap.push o).get? b = some u := fun b u e => Heap.get?_push_of_some _ e
    refine wpAny_bind (wpAny_newTextTuple (wpAny_bind (wpAny_functionCode_hit k4 ((k5.keeps kp).code (kp _ _ k6) k7) k8 (wpAny_bind ?_))))
    refine wpAny_builtinsFor (k3.push _) e1 e2 (kp _ _ e4) e5 e6 e7 (wpAny_bind (wpAny_nsGet (k3.push _) (wpAny_bind (wpAny_pure ?_))))
    exact wpAny_newObj_type (go _ _ s.toks kp (by rw [Heap.size_push]; omega)) (by size_fits)
/-- the default is evaluated, its tuple laid -/
theorem lam_evalD {x : Sem Value} {i : Int} (hdef : defaultsOf params env = ([x], [])) (hx : ∀ {Q : Value → Shared → Prop} {s : Shared}, (∀ t tk, Q (.int i t) { s with toks := tk }) → wpAny M A x Q E s)
    (go : ∀ t tk, wpAny M A (makeTail "<lambda>" (env.qual ++ "<lambda>") params (.expr body) scope env (.ref s.heap.objs.size) .none none pos pos.line) Q E { s with heap := s.heap.push { cls := .type "tuple", data := .seq #[.int i t] }, toks := tk }) :
    wpAny M A (eval (.Lambda params body scope pos) env) Q E s := by
  rw [arm_eval_Lambda, hdef]
  show wpAny M A (evalAll [x] >>= fun dv => holding dv (evalAllOpt []) >>= fun kdv => makeFunction "<lambda>" (env.qual ++ "<lambda>") params (.expr body) scope env dv kdv [] pos pos.line) Q E s
  refine wpAny_bind ?_
  show wpAny M A (x >>= fun v => holding [v] (evalAll []) >>= fun r => pure (v :: r)) _ E s
  refine wpAny_bind (hx fun t tk => wpAny_bind (wpAny_holding (wpAny_pure (wpAny_pure (wpAny_bind (wpAny_holding (wpAny_pure ?_)))))))
  rw [makeFunction_eq]
  simp only [List.zip_nil_right, List.filterMap_nil, List.isEmpty_nil, List.isEmpty_cons, Bool.false_eq_true, if_false, if_true, pure_bind]
  exact wpAny_bind (wpAny_newTextTuple (go t tk))
end
section
variable {X : Cx} {pins : List (Addr × Obj)} {σ : L2.St} {H : Hp} {s : Shared}
/-- a lambda is made, its defaults at dV: its code object is new, or found in the table -/
theorem lam_tail2 {T : List (Addr × Str)} {c P : Addr} {params : Arguments} {body : Expr} {scope : Scope} {pos : Pos} {dV : Value} {E : Value → Shared → Prop} {Q : Value → Shared → Prop} (I : Inv X pins σ H s) (TB : TabB X.base X.mg c P) (hc : X.env.code = .ref c)
    (hm : (P, X.env.qual ++ "<lambda>") ∈ T) (hu : ∀ p ∈ T, p.1 = P → p.2 = X.env.qual ++ "<lambda>") (hT : Tabs T H) (hfree : ∀ y ∈ scope.names, y.2 = .free → ∃ c, X.env.cells.lookup y.1 = some c)
    (go : ∀ (f c' : Addr) (pm ctv : Value) (H1 : Hp) (s' : Shared), Inv X pins σ H1 s' → ExtN H H1 → Tabs T H1 →
      s'.heap.get? f = some (lamO dV (X.env.qual ++ "<lambda>") params body scope (cloFrom X.env.cells scope.names []) pm c' ctv) → H1 f = none → f ∉ frs X.stack → H1 c' = some (CodeO c' (X.env.qual ++ "<lambda>")) → Q (.ref f) s') :
    wpAny (model X.prog X.w) X.A (PySem.makeTail "<lambda>" (X.env.qual ++ "<lambda>") params (.expr body) scope X.env dV .none none pos pos.line) Q E s := by
  obtain ⟨ps, hP, ht, ha⟩ := hT _ hm
  have bP := TB.bm.keeps I.bk
  have oP : s.heap.get? P = some { cls := .none, data := .fields ps } := I.hok P _ hP
  have far : ∀ f, s.heap.objs.size ≤ f → f ∉ frs X.stack := fun f hf z => by
    rcases List.mem_cons.mp (I.stkSub _ z) with e | e
    · have q := I.lt
      rw [← e] at q
      exact Nat.lt_irrefl _ (Nat.lt_of_lt_of_le q hf)
    · exact I.nofs hf e
  cases hk : codeAmong pos ps.toList with
  | some cv =>
    obtain ⟨c', rfl, hco⟩ := ha pos cv hk
    refine lam_tail_hit (mg := X.mg) (c := c) (P := P) (ps := ps) (closure_ok hfree) I.ok.glob (I.mod.glob.keeps I.bk) hc (TB.code.keeps I.bk) oP ht hk bP fun ctv h' tk kx ks => ?_
    refine go h'.objs.size c' _ ctv H _ (I.kept fun b o e => Heap.get?_push_of_some _ (kx b o e)) (ExtN.refl H) hT (Heap.get?_push_size _ rfl) (I.hok.fresh ks) (far _ ks) hco
  | none =>
    refine lam_tail_new (mg := X.mg) (c := c) (P := P) (ps := ps) (closure_ok hfree) I.ok.glob (I.mod.glob.keeps I.bk) hc (TB.code.keeps I.bk) oP ht hk TB.gP bP fun c' ctv h' tk kx kg kl kr kt => ?_
    obtain ⟨_, oc, vs, t, e2, hoc, hd, hv⟩ := kr
    cases e2
    have ks : s.heap.objs.size ≤ h'.objs.size := Nat.le_trans kg (Nat.le_of_lt kl)
    have nC : H c' = none := I.hok.fresh kg
    have nCP : P ≠ c' := ne_of_none hP nC
    have J := inv_table (t' := tk) (more := #[rawInt pos.line, rawInt pos.col, .ref c']) (h' := h'.push (lamO dV (X.env.qual ++ "<lambda>") params body scope (cloFrom X.env.cells scope.names []) ((X.mg "__name__").getD .none) c' ctv)) I hP
      (fun b o nb e => Heap.get?_push_of_some _ (kx b o nb e)) (Heap.get?_push_of_some _ kt) kg ⟨oc, vs, t, Heap.get?_push_of_some _ hoc, hd, hv⟩
    have up : ExtN H (upd (upd H P (.tbl (ps ++ #[rawInt pos.line, rawInt pos.col, .ref c']))) c' (CodeO c' (X.env.qual ++ "<lambda>"))) := fun b o e n => by
      rw [upd_ne (ne_of_none e nC)]
      by_cases z : b = P
      · rw [z, hP] at e
        exact absurd (Option.some.inj e).symm (n ps)
      · rw [upd_ne z]; exact e
    have tl : (ps ++ #[rawInt pos.line, rawInt pos.col, .ref c']).toList = ps.toList ++ [rawInt pos.line, rawInt pos.col, .ref c'] := by simp
    refine go h'.objs.size c' _ ctv _ _ J up (fun p hp => ?_) (Heap.get?_push_size _ rfl) ?_ (far _ ks) upd_same
    · by_cases z : p.1 = P
      · rw [hu p hp z, z]
        refine ⟨_, by rw [upd_ne nCP, upd_same], by rw [tl]; exact PySem.TriplesOk_snoc _ _ _ _ ht, fun p' cv hcv => ?_⟩
        rw [tl] at hcv
        exact (among_app _ ht hcv).elim (fun q => (ha p' cv q).elim fun c0 ⟨q1, q2⟩ => ⟨c0, q1, up _ _ q2 codeO_ne⟩) fun q => ⟨c', q, upd_same⟩
      · obtain ⟨ps', a1, a2, a3⟩ := hT p hp
        exact ⟨ps', by rw [upd_ne (ne_of_none a1 nC), upd_ne z]; exact a1, a2, fun p' cv hcv => (a3 p' cv hcv).elim fun c0 ⟨q1, q2⟩ => ⟨c0, q1, up _ _ q2 codeO_ne⟩⟩
    · rw [upd_ne (Nat.ne_of_gt kl), upd_ne (Nat.ne_of_gt (Nat.lt_of_lt_of_le (Heap.lt_size oP) ks))]
      exact I.hok.fresh ks
/-- the same, with one default -/
theorem lam_makeD {T : List (Addr × Str)} {c P : Addr} {params : Arguments} {body : Expr} {scope : Scope} {pos : Pos} {x : Sem Value} {i : Int} {E : Value → Shared → Prop} {Q : Value → Shared → Prop} (I : Inv X pins σ H s) (TB : TabB X.base X.mg c P) (hc : X.env.code = .ref c)
    (hm : (P, X.env.qual ++ "<lambda>") ∈ T) (hu : ∀ p ∈ T, p.1 = P → p.2 = X.env.qual ++ "<lambda>") (hT : Tabs T H) (hdef : defaultsOf params X.env = ([x], [])) (hx : ∀ {M : Model} {A : Around} {E Q : Value → Shared → Prop} {s : Shared}, (∀ t tk, Q (.int i t) { s with toks := tk }) → wpAny M A x Q E s)
    (hfree : ∀ y ∈ scope.names, y.2 = .free → ∃ c, X.env.cells.lookup y.1 = some c)
    (go : ∀ (f c' D : Addr) (pm ctv : Value) (H1 : Hp) (s' : Shared), Inv X pins σ H1 s' → ExtN H H1 → Tabs T H1 →
      s'.heap.get? f = some (lamO (.ref D) (X.env.qual ++ "<lambda>") params body scope (cloFrom X.env.cells scope.names []) pm c' ctv) → H1 f = none → f ∉ frs X.stack → H1 c' = some (CodeO c' (X.env.qual ++ "<lambda>")) → H1 D = some (.tup [.int i]) → Q (.ref f) s') :
    wpAny (model X.prog X.w) X.A (eval (.Lambda params body scope pos) X.env) Q E s := by
  refine lam_evalD (i := i) hdef hx fun t tk => ?_
  have nD : H s.heap.objs.size = none := I.hok.fresh (Nat.le_refl _)
  have gD : (s.heap.push { cls := .type "tuple", data := .seq #[.int i t] }).get? s.heap.objs.size = some { cls := .type "tuple", data := .seq #[.int i t] } := Heap.get?_push_size _ rfl
  have I1 : Inv X pins σ (upd H s.heap.objs.size (.tup [.int i])) { s with heap := s.heap.push { cls := .type "tuple", data := .seq #[.int i t] }, toks := tk } :=
    I.laid (fun b o e => Heap.get?_push_of_some _ e) (Nat.le_refl _) ⟨by show 1 ≤ sizeLine; decide, [.int i t], .cons ⟨t, rfl⟩ .nil, ⟨_, gD, rfl, _, rfl⟩⟩
  have e1 : ∀ b o, H b = some o → upd H s.heap.objs.size (.tup [.int i]) b = some o := fun b o e => by rw [upd_ne (ne_of_none e nD)]; exact e
  refine lam_tail2 I1 TB hc hm hu (hT.ext e1) hfree fun f c' pm ctv H1 s' J eN TT hf hn hr hco => go f c' _ pm ctv H1 s' J ((ExtN.of e1).trans eN) TT hf hn hr hco (eN _ _ upd_same fun ps z => by cases z)
end
/-! the names of such a lambda: one parameter, captured names, globals -/
structure LamD (sc scope : Scope) (a : Str) : Prop where
  kind : scope.kind = .function
  co : scope.isCoroutine = false
  gen : scope.isGenerator = false
  own : ∀ y ∈ scope.names, (y.2 = .local → y.1 = a) ∧ y.2 ≠ .cell
  par : scope.names.lookup a = some .local
  free : ∀ y ∈ scope.names, y.2 = .free → sc.names.lookup y.1 = some .cell ∨ sc.names.lookup y.1 = some .free
def lamDB (sc scope : Scope) (a : Str) : Bool :=
  decide (scope.kind = .function) && (!scope.isCoroutine && (!scope.isGenerator && ((scope.names.all fun y => (!decide (y.2 = .local) || decide (y.1 = a)) && !decide (y.2 = .cell)) && (decide (scope.names.lookup a = some .local) &&
    scope.names.all fun y => !decide (y.2 = .free) || (decide (sc.names.lookup y.1 = some .cell) || decide (sc.names.lookup y.1 = some .free))))))
theorem lamD_by {sc scope : Scope} {a : Str} (h : lamDB sc scope a = true) : LamD sc scope a := by
  unfold lamDB at h
  simp only [Bool.and_eq_true, Bool.or_eq_true, Bool.not_eq_true', decide_eq_true_eq, decide_eq_false_iff_not, List.all_eq_true] at h
  obtain ⟨q1, q2, q3, q4, q5, q6⟩ := h
  exact ⟨q1, q2, q3, fun y hy => ⟨fun e => (q4 y hy).1.elim (fun n => absurd e n) id, (q4 y hy).2⟩, q5, fun y hy e => (q6 y hy).elim (fun n => absurd e n) id⟩
theorem LamD.has {X : Cx} {scope : Scope} {a : Str} (L : LamD X.env.scope scope a) (ok : X.Ok) : ∀ y ∈ scope.names, y.2 = .free → ∃ c, X.env.cells.lookup y.1 = some c :=
  fun y hy e => (L.free y hy e).elim (fun k => ok.has _ (.inl k)) fun k => ok.has _ (.inr k)
section
variable {X : Cx} {pins : List (Addr × Obj)} {σ : L2.St} {H HZ : Hp} {s s1 : Shared}
theorem lam_startD {A : Around} {outer : List Env} {E : XK} {scope : Scope} {a : Str} {v0 : Value} {f c' : Addr} {g1 : Heap} {tk : Nat} (I : Inv X pins σ H s) (L : LamD X.env.scope scope a) (na : ∀ i : Nat, X.N[i]? ≠ some a) (e0 : Env0 X.prog X.w X.K X.mg X.base A outer s1 HZ) (hd : A.handled = none)
    (un : Un (frs X.stack) [] H HZ s.heap s1.heap) (ns : g1.Ns s1.heap.objs.size fun y => ([(a, v0)] : List (Str × Value)).reverse.lookup y) (kp : ∀ b o, s1.heap.get? b = some o → g1.get? b = some o) :
    Inv (lamCx X A outer s1 HZ E scope f c') [] σ HZ { s1 with heap := g1, toks := tk } := by
  have hfree := L.has I.ok
  have cellOf : ∀ {y c}, (cloFrom X.env.cells scope.names []).lookup y = some c → X.env.cells.lookup y = some c := fun {y c} e => by
    rcases cloFrom_mem (PySem.mem_of_lookup e) with z | ⟨z1, z2⟩
    · cases z
    · obtain ⟨c1, q⟩ := hfree _ z1 rfl
      have q : X.env.cells.lookup y = some c1 := q
      rw [show c = c1 by rw [z2, q] <;> rfl]
      exact q
  have freeAt : ∀ {y}, scope.names.lookup y = some .free → ∃ c, (cloFrom X.env.cells scope.names []).lookup y = some c := fun {y} e =>
    mem_lookup (cloFrom_has (cells := X.env.cells) (acc := []) (show (y, NameKind.free) ∈ scope.names from PySem.mem_of_lookup e))
  have cellK : ∀ {c : Addr} {v : Option Value}, H c = none → s.heap.IsCell c v → g1.IsCell c v := fun {c v} n ⟨o, ho, hd⟩ => by
    obtain ⟨sl, q⟩ := un.any ho n (by simp)
    exact ⟨_, kp _ _ q, hd⟩
  have noEx : ∀ b : Addr, b ∉ (lamCx X A outer s1 HZ E scope f c').ex := fun b z => absurd (show b ∈ ([] : List Addr) from z) (by simp)
  have okL : (lamCx X A outer s1 HZ E scope f c').Ok := by
    refine ⟨e0.mod, L.kind, rfl, rfl, Nat.le_refl _, fun y z c e1 e2 => I.ok.inj y z c (cellOf e1) (cellOf e2), fun y hy => ?_, fun y c z _ => ?_, fun _ => hd, Around.frames_deeper e0.frames, .inr ⟨rfl, rfl⟩, fun b z => absurd z (noEx b), e0.bs, e0.bsz, fun b _ _ => noEx b,
      fun b z => absurd z (noEx b), e0.funs, e0.frf⟩
    · rcases (hy : scope.names.lookup y = some .cell ∨ scope.names.lookup y = some .free) with hy | hy
      · exact absurd rfl (L.own _ (PySem.mem_of_lookup hy)).2
      · exact freeAt hy
    · have z : false = true := z
      cases z
  refine ⟨okL, rfl, e0.bare, Un.kept kp, ⟨_, ns, fun i y v e1 e2 e3 => ?_⟩, fun y c e => ?_, e0.hok.fresh (Nat.le_refl _), fun y c e => ?_, fun q hq => absurd (show q ∈ ([] : List (Addr × Obj)) ++ [] from hq) (by simp), e0.hok.kept kp, I.len⟩
  · rcases (e3 : Vis scope y) with k | k | k
    · have ey : y = a := (L.own _ (PySem.mem_of_lookup k)).1 rfl
      exact absurd (show X.N[i]? = some a by rw [← ey]; exact e1) (na i)
    · exact absurd rfl (L.own _ (PySem.mem_of_lookup k)).2
    · obtain ⟨m, hn, hl⟩ := I.loc
      have cf := L.free _ (PySem.mem_of_lookup k) rfl
      obtain ⟨w', r, q⟩ := hl i y v e1 e2 (cf.elim (fun k => .inr (.inl k)) fun k => .inr (.inr k))
      obtain ⟨c2, h2⟩ := freeAt k
      refine ⟨w', r, .inr ⟨.inr k, c2, h2, ?_⟩⟩
      have c1 := cellOf h2
      rcases q with ⟨k', _⟩ | ⟨_, c3, e', z⟩
      · have k' : X.env.scope.names.lookup y = some .local := k'
        rcases cf with k2 | k2 <;> rw [show X.env.scope.names.lookup y = _ from k2] at k' <;> cases k'
      · rw [c1] at e'
        cases e'
        exact cellK (I.freeC y _ c1) z
  · exact (I.cell y c (cellOf e)).elim fun w' z => ⟨w', cellK (I.freeC y c (cellOf e)) z⟩
  · obtain ⟨v, o, ho, hd⟩ := I.cell y c (cellOf e)
    exact un.free c o ho (I.freeC y c (cellOf e)) (by simp)
/-- x() of such a lambda, in the def that got it -/
theorem pe_actD {CXg : CXT} {Eg : XK} {Ng : List Str} {qg : Str} {sg : Scope} {g f c' D : Addr} {cdg pm ctv : Value} {params : Arguments} {body : Expr} {scope : Scope} {a0 : Str} {iv : Int} {k i : Nat} {a : Str} {pn : List (Addr × Obj)} {xe : Value → Shared → Prop} {W : WX} {E : XK} {tb : TE} {p1 p2 : Pos}
    (I : Inv X pins σ H s) (L : LamD X.env.scope scope a0) (na : ∀ i : Nat, X.N[i]? ≠ some a0) (hf : s.heap.get? f = some (lamO (.ref D) (X.env.qual ++ "<lambda>") params body scope (cloFrom X.env.cells scope.names []) pm c' ctv)) (hfn : H f = none) (hfr : f ∉ frs X.stack)
    (hbind : ∀ t : Tok, ∃ kk, bindArgs (lamF (.ref D) (X.env.qual ++ "<lambda>") params body scope (cloFrom X.env.cells scope.names []) pm (.ref c') ctv) ⟨[], []⟩ = seqItems? (.ref D) >>= kk ∧ kk (some #[.int iv t]) = pure [(a0, .int iv t)])
    (tk : Takes ((cxOf CXg X.prog X.w X.K X.mg X.base Ng qg sg g cdg X.A X.stack s H Eg).tr pn xe) W) (hW : ∀ cls d σ' H', E cls d H' → W cls d σ' H') (hr : Room (k + 1) (X.A.deeper (envOfC qg sg s.heap.objs.size g cdg)))
    (hbody : ∀ (A : Around) (outer : List Env) (s : Shared) (H : Hp), Room k (A.deeper (lamEnv X scope s.heap.objs.size f c')) → PE (lamCx X A outer s H E scope f c') body tb)
    (hN : Ng[i]? = some a) (hv : Vis sg a) (hd : (a == ("__debug__" : Str)) = false := by decide) (hcd : (a == ("__classdict__" : Str)) = false := by decide) :
    PE ((cxOf CXg X.prog X.w X.K X.mg X.base Ng qg sg g cdg X.A X.stack s H Eg).tr pn xe) (.Call (.Name a p1) [] [] p2)
      (fun σZ HZ Q => σZ[i]? = some (some (.ref f)) ∧ (HZ c' = some (CodeO c' (X.env.qual ++ "<lambda>")) ∧ HZ D = some (.tup [.int iv])) ∧ tb σ HZ Q) := by
  refine ⟨fun pinsZ sZ σZ HZ Q IZ ⟨hs, ⟨hc, hD⟩, ht⟩ => ?_⟩
  refine wpAny_Call_Name_kw (thn ((pe_var (pos := p1) (i := i) hN hv hd hcd).run pinsZ sZ σZ HZ (fun v H1 => v = .ref f ∧ H1 = HZ) IZ ⟨.ref f, hs, rfl, rfl⟩) fun u s1 ⟨v, H1, I1, r1, q1⟩ => ?_)
  obtain ⟨rfl, rfl⟩ := q1
  obtain rfl : u = Value.ref f := r1
  have un : Un (frs X.stack) [] H H1 s.heap s1.heap := I1.base
  have fo : s1.heap.get? f = some (lamO (.ref D) (X.env.qual ++ "<lambda>") params body scope (cloFrom X.env.cells scope.names []) pm c' ctv) := un.keep f _ hf hfn hfr (fun z => nomatch (show f ∈ ([] : List Addr) from z))
  refine PySem.W.callWith_F0 ⟨_, _, _, _, fo⟩ ?_
  obtain ⟨⟨oc, vs, t, hoc, hdc, hvc⟩, _, _⟩ := I1.hok c' _ hc
  obtain ⟨_, its, rits, oD, gD, cD, nD, dD⟩ := I1.hok D _ hD
  obtain ⟨tD, rfl⟩ : ∃ t, its = [.int iv t] := by
    cases rits with
    | cons r rr =>
      cases rr
      obtain ⟨t, rfl⟩ := r
      exact ⟨t, rfl⟩
  obtain ⟨kk, b1, b2⟩ := hbind tD
  have run : codeAny (model X.prog X.w) (X.A.deeper (envOfC qg sg s.heap.objs.size g cdg)) (.call (.ref f) ⟨[], []⟩) (CR (L2.CX X.prog X.w) (envOfC qg sg s.heap.objs.size g cdg :: X.stack) X.prog X.w H1 s1 Q E) s1 := by
    refine PySem.W.kla_callFunE hr.depth fo rfl L.co L.gen rfl ⟨c', oc, vs, t, rfl, hoc, hdc, hvc⟩ ?_
    rw [b1]
    refine wpAny_bind (wpAny_seqItems gD dD ?_)
    rw [b2]
    refine wpAny_pure (wpAny_newFunctionEnv (fun y hy => (L.own y hy).2) (fun y hy => by rw [List.mem_singleton.mp hy]; exact L.par) (fun g1 hns hsb => ⟨I1.nolimit.fresh _ hsb, ?_⟩) L.kind)
    show codeAny _ _ (.expr body (lamEnv X scope s1.heap.objs.size f c')) _ _
    have kp : ∀ b o, s1.heap.get? b = some o → g1.get? b = some o := fun b o e => hsb.extBut b o (Nat.ne_of_lt (Heap.lt_size e)) (Heap.get?_push_of_some _ e)
    have J : Inv (lamCx X (X.A.deeper (envOfC qg sg s.heap.objs.size g cdg)) (envOfC qg sg s.heap.objs.size g cdg :: X.stack) s1 H1 E scope f c') [] σ H1 { s1 with heap := g1, toks := s1.toks + ([(a0, Value.int iv tD)] : List (Str × Value)).length } :=
      lam_startD I L na I1.env0 hr.hd un hns kp
    exact PySem.W.kla_codeExpr (wpAny_mono ((hbody _ _ s1 H1 (hr.deeper _)).run [] _ _ H1 Q J ht) (fun v s' ⟨w', H', J', rv, q⟩ => ⟨w', H', J'.os, J'.bare, J'.base, J'.hok, rv, q⟩) fun e s' hq => hq)
  have hx : Passes (L2.CX X.prog X.w) ((cxOf CXg X.prog X.w X.K X.mg X.base Ng qg sg g cdg X.A X.stack s H Eg).tr pn xe) E := passes_call tk hW
  refine wpAny_call (codeAny_mono run fun r s' hq => ?_)
  cases r with
  | error e => exact hx pinsZ σZ H1 s1 e s' I1 hq
  | ok fl =>
    cases fl with
    | ret u => exact I1.after hq
    | next => exact False.elim hq
    | brk => exact False.elim hq
    | cont => exact False.elim hq
end
/-- a def that calls what it got: TT: what it makes of the lambda's reading; what the call leans on stays where more is there -/
def GivesP (X : Cx) (Ng : List Str) (x : Str) (sg : Scope) (g : Addr) (cdg : Value) (bg : List Stmt) (a : Str) (TT : (XK → Hp → VK → Prop) → Hp → VK → Prop) : Prop :=
  ∀ (f : Addr) (φ : Hp → Prop) (s : Shared) (H : Hp) (Q : VK) (tl : XK → Hp → VK → Prop),
    (∀ (W : WX) (pn : List (Addr × Obj)) (xe : Value → Shared → Prop) (E : XK) (p1 p2 : Pos), Takes ((cxOf C8.CX0 X.prog X.w X.K X.mg X.base Ng x sg g cdg X.A X.stack s H C8.E0).tr pn xe) W → (∀ cls d σ' H', E cls d H' → W cls d σ' H') →
      PE ((cxOf C8.CX0 X.prog X.w X.K X.mg X.base Ng x sg g cdg X.A X.stack s H C8.E0).tr pn xe) (.Call (.Name a p1) [] [] p2) (fun σZ HZ Q => σZ[0]? = some (some (.ref f)) ∧ φ HZ ∧ tl E HZ Q)) →
    φ H → TT tl H Q →
    ∃ t, PSs (cxOf C8.CX0 X.prog X.w X.K X.mg X.base Ng x sg g cdg X.A X.stack s H C8.E0).nox bg t ∧ t { nx := fun _ H' => Q .non H', rt := Q } (L2.start Ng [.ref f]) H
section
variable {X : Cx}
/-- x(lambda: body) -/
theorem pe_lam0 {T : List (Addr × Str)} {TT : (XK → Hp → VK → Prop) → Hp → VK → Prop} {x a : Str} {g c P : Addr} {k : Nat} {pg : Arguments} {bg : List Stmt} {sg : Scope} {dV kV doc pm cdv ct oc : Value} {an od : Option Addr} {osl : Array (Option Value)} {Ng : List Str}
    {params : Arguments} {body : Expr} {scope : Scope} {t : XK → TE} {p lpos pos : Pos} (hg : Gl X x) (hm : X.mg x = some (.ref g)) (hk : PySem.W.keepIn X.K (.ref g) = true)
    (lk : X.K.lookup g = some ⟨oc, od, .func (PySem.W.fnOf x x pg bg sg dV kV doc pm an cdv ct), osl⟩) (hcg : PySem.W.codeIn X.K cdv x = true) (hb : L2.Binds X.K (PySem.W.fnOf x x pg bg sg dV kV doc pm an cdv ct) [a] []) (Sg : FnScope Ng [a] sg) (hNg : Ng[0]? = some a) (hva : Vis sg a)
    (hG : GivesP X Ng x sg g cdv bg a TT)
    (TB : TabB X.base X.mg c P) (hcode : X.env.code = .ref c) (hmT : (P, X.env.qual ++ "<lambda>") ∈ T) (hu : ∀ p ∈ T, p.1 = P → p.2 = X.env.qual ++ "<lambda>") (hr : Room (k + 2) X.A) (L : LamS X.env.scope scope) (hdef : defaultsOf params X.env = ([], []))
    (hbind : ∀ (q : Str) (cl : List (Str × Addr)) (pm cv ctv : Value), bindArgs (PySem.W.kla_fn "<lambda>" q params body scope cl pm cv ctv) ⟨[], []⟩ = pure [])
    (hbody : ∀ (A : Around) (outer : List Env) (s : Shared) (H : Hp) (E : XK) (f c' : Addr), Room k (A.deeper (lamEnv X scope s.heap.objs.size f c')) → PE (lamCx X A outer s H E scope f c') body (t E))
    (hdb : (x == ("__debug__" : Str)) = false := by decide) (hd : (a == ("__debug__" : Str)) = false := by decide) (hcd : (a == ("__classdict__" : Str)) = false := by decide) :
    PE X (.Call (.Name x p) [.Lambda params body scope lpos] [] pos) (tLam T TT t) := by
  refine ⟨fun pins s σ H Q I ⟨hT, h⟩ => wpAny_Call_Name_kw (ld_glob I hg hm ?_ hdb)⟩
  refine PySem.W.callWith_K (h₀ := X.base) I.ok.mod.kin hk ?_ (by rfl) (by rfl)
  show wpAny _ _ (spliced ((false, eval (.Lambda params body scope lpos) X.env) :: backTo pos (starEach [] X.env))) _ _ s
  refine Calls.spliced_cons (lam_make2 I TB hcode hmT hu hT hdef (L.has I.ok) fun f c' pm' ctv H1 s' I1 eN T1 hf hfn hfr hco => Calls.spliced_nil ⟨I1.kIn, ?_⟩)
  have run : codeAny (model X.prog X.w) X.A (.call (.ref g) ⟨[.ref f], []⟩) (CR C8.CX0 X.stack X.prog X.w H1 s' Q C8.E0) s' := by
    refine run_ofS (N := Ng) (ps := [a]) (us := [.ref f]) (vs := [.ref f]) lk hcg Sg hr I1.env0 (hb s' [.ref f] I1.kIn rfl) (.cons rfl .nil) rfl fun hr' => ?_
    obtain ⟨t', ht', hq'⟩ := hG f (fun HZ => HZ c' = some (CodeO c' (X.env.qual ++ "<lambda>"))) s' H1 Q (fun E H' Q' => t E σ H' Q') (fun W pn xe E p1 p2 tk hW =>
      pe_act (i := 0) I1 L hf hfn hfr (hbind _ _ _ _ _) tk hW hr' (fun A outer s H hr2 => hbody A outer s H E f c' hr2) hNg hva hd hcd) hco (h H1 eN T1)
    exact ⟨t', ht'.nox, hq'⟩
  refine wpAny_call (codeAny_mono run fun r s2 hq => ?_)
  match r, hq with
  | .error e, hq => exact (show False from hq).elim
  | .ok (.ret u), hq => exact I1.after hq
/-- x(lambda a0=i: body) -/
theorem pe_lamD {T : List (Addr × Str)} {TT : (XK → Hp → VK → Prop) → Hp → VK → Prop} {x a a0 : Str} {iv : Int} {dx : Sem Value} {g c P : Addr} {k : Nat} {pg : Arguments} {bg : List Stmt} {sg : Scope} {dV kV doc pm cdv ct oc : Value} {an od : Option Addr} {osl : Array (Option Value)} {Ng : List Str}
    {params : Arguments} {body : Expr} {scope : Scope} {t : XK → TE} {p lpos pos : Pos} (hg : Gl X x) (hm : X.mg x = some (.ref g)) (hk : PySem.W.keepIn X.K (.ref g) = true)
    (lk : X.K.lookup g = some ⟨oc, od, .func (PySem.W.fnOf x x pg bg sg dV kV doc pm an cdv ct), osl⟩) (hcg : PySem.W.codeIn X.K cdv x = true) (hb : L2.Binds X.K (PySem.W.fnOf x x pg bg sg dV kV doc pm an cdv ct) [a] []) (Sg : FnScope Ng [a] sg) (hNg : Ng[0]? = some a) (hva : Vis sg a)
    (hG : GivesP X Ng x sg g cdv bg a TT)
    (TB : TabB X.base X.mg c P) (hcode : X.env.code = .ref c) (hmT : (P, X.env.qual ++ "<lambda>") ∈ T) (hu : ∀ p ∈ T, p.1 = P → p.2 = X.env.qual ++ "<lambda>") (hr : Room (k + 2) X.A) (L : LamD X.env.scope scope a0) (na : ∀ i : Nat, X.N[i]? ≠ some a0)
    (hdef : defaultsOf params X.env = ([dx], [])) (hx : ∀ {M : Model} {A : Around} {E Q : Value → Shared → Prop} {s : Shared}, (∀ t tk, Q (.int iv t) { s with toks := tk }) → wpAny M A dx Q E s)
    (hbind : ∀ (D : Addr) (q : Str) (cl : List (Str × Addr)) (pm cv ctv : Value) (t : Tok), ∃ kk, bindArgs (lamF (.ref D) q params body scope cl pm cv ctv) ⟨[], []⟩ = seqItems? (.ref D) >>= kk ∧ kk (some #[.int iv t]) = pure [(a0, .int iv t)])
    (hbody : ∀ (A : Around) (outer : List Env) (s : Shared) (H : Hp) (E : XK) (f c' : Addr), Room k (A.deeper (lamEnv X scope s.heap.objs.size f c')) → PE (lamCx X A outer s H E scope f c') body (t E))
    (hdb : (x == ("__debug__" : Str)) = false := by decide) (hd : (a == ("__debug__" : Str)) = false := by decide) (hcd : (a == ("__classdict__" : Str)) = false := by decide) :
    PE X (.Call (.Name x p) [.Lambda params body scope lpos] [] pos) (tLam T TT t) := by
  refine ⟨fun pins s σ H Q I ⟨hT, h⟩ => wpAny_Call_Name_kw (ld_glob I hg hm ?_ hdb)⟩
  refine PySem.W.callWith_K (h₀ := X.base) I.ok.mod.kin hk ?_ (by rfl) (by rfl)
  show wpAny _ _ (spliced ((false, eval (.Lambda params body scope lpos) X.env) :: backTo pos (starEach [] X.env))) _ _ s
  refine Calls.spliced_cons (lam_makeD (i := iv) I TB hcode hmT hu hT hdef hx (L.has I.ok) fun f c' D pm' ctv H1 s' I1 eN T1 hf hfn hfr hco hD => Calls.spliced_nil ⟨I1.kIn, ?_⟩)
  have run : codeAny (model X.prog X.w) X.A (.call (.ref g) ⟨[.ref f], []⟩) (CR C8.CX0 X.stack X.prog X.w H1 s' Q C8.E0) s' := by
    refine run_ofS (N := Ng) (ps := [a]) (us := [.ref f]) (vs := [.ref f]) lk hcg Sg hr I1.env0 (hb s' [.ref f] I1.kIn rfl) (.cons rfl .nil) rfl fun hr' => ?_
    obtain ⟨t', ht', hq'⟩ := hG f (fun HZ => HZ c' = some (CodeO c' (X.env.qual ++ "<lambda>")) ∧ HZ D = some (.tup [.int iv])) s' H1 Q (fun E H' Q' => t E σ H' Q') (fun W pn xe E p1 p2 tk hW =>
      pe_actD (i := 0) I1 L na hf hfn hfr (fun t => hbind _ _ _ _ _ _ t) tk hW hr' (fun A outer s H hr2 => hbody A outer s H E f c' hr2) hNg hva hd hcd) ⟨hco, hD⟩ (h H1 eN T1)
    exact ⟨t', ht'.nox, hq'⟩
  refine wpAny_call (codeAny_mono run fun r s2 hq => ?_)
  match r, hq with
  | .error e, hq => exact (show False from hq).elim
  | .ok (.ret u), hq => exact I1.after hq
end
end OwnL

/-! ### try .. except C as n: suite, where the exception is kept in a name beyond the suite -/
namespace OwnL
open PySem PySem.Spec PyProof.Rows L2
section
variable {X : Cx} {pins : List (Addr × Obj)} {σ : L2.St} {H : Hp} {s : Shared}
theorem inv_keep {a : Addr} {q : Addr × Obj} {pn' : List (Addr × Obj)} (I : Inv (X.suite a (q :: (X.pn ++ pins))) pn' σ H s) (ok : X.Ok) : Inv (X.tr (q :: (X.pn ++ pins)) X.xe) [] σ H s :=
  ⟨ok.toTry _ _, I.os, I.bare, I.base, I.loc, I.cell, I.free, I.freeC, fun p hp => I.pin p (List.mem_append_left _ (by rw [List.append_nil] at hp; exact hp)), I.hok, I.len⟩
theorem inv_unkeep {q : Addr × Obj} {pn' : List (Addr × Obj)} {xe : Value → Shared → Prop} (I : Inv (X.tr (q :: (X.pn ++ pins)) xe) pn' σ H s) (ok : X.Ok) : Inv X pins σ H s :=
  ⟨ok, I.os, I.bare, I.base, I.loc, I.cell, I.free, I.freeC, fun p hp => I.pin p (List.mem_append_left _ (List.mem_cons_of_mem _ hp)), I.hok, I.len⟩
end
/-- what such a clause wishes of an exception; behind the suite the rest goes on, the exception known -/
def wKeep (K : PySem.W.Frag) (c : Value) (i : Nat) (ts t2 : Addr → Value → Option Addr → TS) (Wout : WX) (D : Ends) : WX := fun cls d σ H =>
  ∃ b, PySem.W.exmOne K cls c = some b ∧ (b = true → ∀ a, H a = none → ts a cls d { nx := fun σ' H' => H' a = none → t2 a cls d D (σ'.set i none) H', rt := fun _ _ => False, bk := fun _ _ => False, ct := fun _ _ => False } (σ.set i (some (.ref a))) H) ∧ (b = false → Wout cls d σ H)
section
variable {X : Cx} {x n : Str} {c : Value} {i : Nat} {body suite rest : List Stmt} {b0 : Stmt} {np pos pos' : Pos} {tb : WX → TS} {ts t2 : Addr → Value → Option Addr → TS} {t1 : TS} {Wout : WX}
theorem pss_tryK (hs : X.stack = X.env :: X.outer) (hf : X.env.frame = some X.env.locals) (hN : X.N.Nodup) (hi : X.N[i]? = some n) (hln : X.env.kindOf n = some .local) (hc : Names X x c) (tk : Takes X Wout)
    (hb : ∀ (W : WX) (pn : List (Addr × Obj)) (xe : Value → Shared → Prop), Takes (X.tr pn xe) W → PassesOwn (model X.prog X.w) X.A X.env xe → PSs (X.tr pn xe) body (tb W))
    (hsu : ∀ (a : Addr) (oe : Obj) (cls : Value) (d : Option Addr) (pn : List (Addr × Obj)), Zc cls d oe → (∃ vs, oe.data = .fields vs) → PSs (X.suite a ((a, oe) :: pn)) (b0 :: suite) (ts a cls d))
    (h1 : PSs X rest t1) (h2 : ∀ (a : Addr) (oe : Obj) (cls : Value) (d : Option Addr) (pn : List (Addr × Obj)), Zc cls d oe → (∃ vs, oe.data = .fields vs) → PSs (X.tr ((a, oe) :: pn) X.xe) rest (t2 a cls d)) :
    PSs X (.Try body [.ExceptHandler (some (.Name x np)) (some n) (b0 :: suite) pos'] [] [] pos :: rest) (fun D σ H => tb (wKeep X.K c i ts t2 Wout D) { D with nx := t1 D } σ H) := by
  refine ⟨fun pins s σ H D I h => wpAny_execs_cons ?_⟩
  have ok := I.ok
  have frm : X.A.frames = some (X.env :: X.outer) := by rw [ok.frames, hs]
  -- what the try leaves
  let R : Flow → Shared → Prop := fun f s' => match f with
    | .next => wpAny (model X.prog X.w) X.A (execs rest X.env) (SP X pins D) X.xe s'
    | f => SP X pins D f s'
  suffices g : wpAny (model X.prog X.w) X.A (exec (.Try body [.ExceptHandler (some (.Name x np)) (some n) (b0 :: suite) pos'] [] [] pos) X.env) R X.xe s by
    refine wpAny_mono g (fun f s' q => ?_) fun _ _ z => z
    cases f with
    | next => exact q
    | ret v => exact q
    | brk => exact q
    | cont => exact q
  refine wpAny_Try_except (wpAny_mono ((hb (wKeep X.K c i ts t2 Wout D) (X.pn ++ pins) (fun e s₁ => wpAny (model X.prog X.w) X.A (noteFrame e X.env) (fun _ s₂ => wpAny (model X.prog X.w) X.A (setFlight e none)
    (fun _ s₃ => wpAny (model X.prog X.w) X.A (handleBy e X.env [.ExceptHandler (some (.Name x np)) (some n) (b0 :: suite) pos']) R X.xe s₃) X.xe s₂) X.xe s₁) (fun u s' xx => ?_) PassesOwn.looking).run [] s σ H { D with nx := t1 D } (I.toTry _) h) (fun f s1 q => ?_) fun e s1 z => z)
  · obtain ⟨a, B, sI, pins', σ', H', cls, d, rfl, J', nb, up, sky, na, os, ag, b, ex, yes, no⟩ := xx
    have J : Inv X pins σ' H' sI := J'.ofTry ok
    have sky2 : Sky B (X.env :: X.outer) a (Zc cls d) X.env.locals s'.heap := by rw [← hs]; exact sky
    show wpAny (model X.prog X.w) X.A (noteFrame (.ref a) X.env) _ _ _
    refine Sky.land Zc.steady frm hf sky2 fun h3 fl up3 => ?_
    have J3 : Inv X pins σ' H' { s' with heap := h3 } := J.landed nb fl.1 (up.trans up3) os ag
    obtain ⟨oe, vs, ae, ze, de⟩ := fl.there
    have off : a ∉ frs (X.env :: X.outer) := fun z => by
      obtain ⟨_, o', e', hn⟩ := fl.2.2.1.mem z
      rw [ae] at e'
      cases e'
      exact hn _ de
    have offL : a ≠ X.env.locals := fun z => off (List.mem_filterMap.mpr ⟨X.env, List.mem_cons_self, by rw [hf, z]⟩)
    have offF : a ∉ X.fs := fun z => by
      obtain ⟨e, he, q⟩ := List.mem_filterMap.mp z
      exact off (List.mem_filterMap.mpr ⟨e, List.mem_cons_of_mem _ he, q⟩)
    have S3 := J3.suite ae de na offL offF
    refine wpAny_handleBy_cons (codeAny_handlers_test ?_) (by intro q; cases q)
    have isC : PySem.W.Looks (model X.prog X.w) h3 (typeOf (.ref a)) cls := fun A Q E s k q => wpAny_typeOf_ref (k _ _ ae) (by rw [ze.1]; exact q)
    have mt := PySem.W.exm_one (M := model X.prog X.w) J3.kIn isC ex
    have name : ∀ {Q : Value → Shared → Prop} {E : Value → Shared → Prop}, Q c { s' with heap := h3 } → wpAny (model X.prog X.w) (X.A.mark (some (.ref a))) (eval (.Name x np) X.env) Q E { s' with heap := h3 } := fun {Q E} q => by
      obtain ⟨gl, nd, own | ⟨own, bl, nn⟩⟩ := hc
      · exact ld_glob (X := X.suite a ((a, oe) :: (X.pn ++ pins))) S3 gl own q nd
      · exact ld_blt (X := X.suite a ((a, oe) :: (X.pn ++ pins))) S3 gl own bl q nn nd
    refine name (mt.here ?_)
    cases b with
    | true =>
      refine codeAny_handlers_suite_as (HandSPX.lands_againZ fl fun h4 fl4 up4 => ?_)
      have J4 : Inv X pins σ' H' { s' with heap := h4 } := J.landed nb fl4.1 ((up.trans up3).trans up4) os ag
      obtain ⟨oe4, vs4, ae4, ze4, de4⟩ := fl4.there
      have S4 := J4.suite ae4 de4 na offL offF
      refine store_ok (X := X.suite a ((a, oe4) :: (X.pn ++ pins))) (v := .ref a) S4 hN hi (.inl hln) rfl (fun s5 S5 => ?_) (.inr hln)
      refine wpAny_mono ((hsu a oe4 cls d (X.pn ++ pins) ze4 ⟨_, de4⟩).run [] s5 _ H' _ S5 (yes rfl a na)) (fun f s6 q => ?_) (fun _ _ z => False.elim z)
      cases f with
      | next =>
        obtain ⟨σ6, H6, S6, q6⟩ := q
        have na6 : H6 a = none := (S6.pin (a, oe4) (List.mem_append_left _ List.mem_cons_self)).2.1
        refine gone_ok (X := X.tr ((a, oe4) :: (X.pn ++ pins)) X.xe) (inv_keep S6 ok) hN hi hln fun s7 J7 => ?_
        refine wpAny_mono ((h2 a oe4 cls d (X.pn ++ pins) ze4 ⟨_, de4⟩).run [] s7 _ H6 D J7 (q6 na6)) (fun f s8 q8 => ?_) fun _ _ z => z
        cases f with
        | next => exact q8.elim fun σ8 ⟨H8, J8, q9⟩ => ⟨σ8, H8, inv_unkeep J8 ok, q9⟩
        | brk => exact q8.elim fun σ8 ⟨H8, J8, q9⟩ => ⟨σ8, H8, inv_unkeep J8 ok, q9⟩
        | cont => exact q8.elim fun σ8 ⟨H8, J8, q9⟩ => ⟨σ8, H8, inv_unkeep J8 ok, q9⟩
        | ret u => exact q8.elim fun v8 ⟨σ8, H8, J8, r8, q9⟩ => ⟨v8, σ8, H8, inv_unkeep J8 ok, r8, q9⟩
      | brk => exact (q.elim fun σ6 ⟨H6, S6, q6⟩ => q6 : False).elim
      | cont => exact (q.elim fun σ6 ⟨H6, S6, q6⟩ => q6 : False).elim
      | ret u => exact (q.elim fun v6 ⟨σ6, H6, S6, r6, q6⟩ => q6 : False).elim
    | false =>
      show wpAny _ X.A (handleBy (.ref a) X.env []) _ _ _
      refine wpAny_handleBy_nil ?_
      obtain ⟨_, _, _, oe', vs', T, oT, tv, ae', _, de', dT, _⟩ := id fl
      unfold PySem.passOn
      refine wpAny_bind (wpAny_field ae' de' dT ?_)
      rw [if_neg (show ¬ ((Value.ref T == Value.none) = true) from by simp)]
      have fin : wpAny (model X.prog X.w) X.A (setFlight (.ref a) X.env.frame) (fun _ s4 => wpAny (model X.prog X.w) X.A (throw (.ref a) : Sem Flow) R X.xe s4) X.xe { s' with heap := h3 } := by
        rw [hf]
        refine HandSPX.setFlight_upZ fl fun h4 hh4 up4 => wpAny_throw (tk _ _ ⟨a, B, sI, pins, σ', H', cls, d, rfl, J, nb, (up.trans up3).trans up4, .inr (.inr (by rw [hs]; exact hh4)), na, os, ag, no rfl⟩)
      first
        | exact wpAny_bind (wpAny_pure (wpAny_bind fin))
        | exact wpAny_bind fin
  · cases f with
    | next =>
      obtain ⟨σ', H', J', q⟩ := q
      exact wpAny_execs_nil (h1.run pins s1 σ' H' D (J'.ofTry ok) q)
    | brk => exact q.elim fun σ' ⟨H', J', q⟩ => ⟨σ', H', J'.ofTry ok, q⟩
    | cont => exact q.elim fun σ' ⟨H', J', q⟩ => ⟨σ', H', J'.ofTry ok, q⟩
    | ret u => exact q.elim fun v ⟨σ', H', J', r, q⟩ => ⟨v, σ', H', J'.ofTry ok, r, q⟩
end
end OwnL
namespace OwnL
open PySem PySem.Spec PySem.Calls PyProof.Rows PySem.W
section
variable {prog : Program} {w : World} {A : Around} {E : Value → Shared → Prop} {K : Frag} {x D : Addr} {ox : Obj} {od : Option Obj}
/-- x.__class__ as isinstance asks it, x an exception of an own class, with a dict or without -/
theorem exc_class {s : Shared} {Q : Option Value → Shared → Prop} (C : L2.ExcC K D) (X : K.In s.heap) (I : InstAt s.heap x ox D od) (h : Q (some (.ref D)) { s with toks := s.toks + 1 }) : wpAny (model prog w) A (getAttr? (.ref x) "__class__") Q E s := by
  obtain ⟨cd, hc, _⟩ := any_some C.hd
  have found : findObj K D od "__class__" = some (.bind (.builtin "getset_descriptor.__get__") (.builtin "object.__class__")) := by
    unfold findObj
    rw [hc, Option.bind_some, C.ha, Option.bind_some]
    simp only [C.hn, Option.bind_some, C.ht]
  obtain ⟨hp, g, d, t, os⟩ := s
  have la := I.type (M := model prog w)
  have lb := looks_findIn (M := model prog w) X C.hg
  have lc := looks_findIn (M := model prog w) X C.hk
  have ld := looks_find (M := model prog w) X I found
  have isB : Looks (model prog w) hp (isInstance (.ref x) (.type "BaseException")) true := la.andThen (looks_subIn X C.hs)
  have no1 : (Value.builtin "BaseException.__getattribute__" == Value.builtin "object.__getattribute__") = false := by decide +kernel
  have no2 : (onTheHeap (Value.ref D) && Value.builtin "BaseException.__getattribute__" == Value.builtin "object.__getattribute__") = false := by rw [no1]; rfl
  unfold getAttr? getAttrBy? getAttrBy
  refine wpAny_bind (wpAny_mkText (wpAny_bind (wpAny_attempt (wpAny_holding (wpAny_bind (la.at (wpAny_bind (lb.at ?_))))))))
  show wpAny _ _ (if (onTheHeap (Value.ref D) && Value.builtin "BaseException.__getattribute__" == Value.builtin "object.__getattribute__") = true then _ else _) _ _ _
  rw [no2, if_neg Bool.false_ne_true]
  unfold getAttrByItsOwn hookBefore
  refine wpAny_bind ?_
  rw [if_pos (show onTheHeap (Value.ref D) = true from rfl)]
  refine lc.at (wpAny_bind (wpAny_attempt (wpAny_holding ?_)))
  unfold callGetattribute
  rw [show (false && onTheHeap (Value.builtin "BaseException.__getattribute__")) = false from rfl, if_neg Bool.false_ne_true]
  unfold boundAndCalled
  rw [PySem.F.excAttr_ValueError.ga.bind (.ref x)]
  refine wpAny_bind (wpAny_pure ?_)
  show wpAny _ _ (call (.builtin "BaseException.__getattribute__") [.ref x, .str "__class__" t]) _ _ _
  refine wpAny_call (codeAny_call_builtin PySem.F.excAttr_ValueError.ga.plain PySem.F.entry_bexc_ga (@check_slot (model prog w) _ _ ⟨hp, g, d, t + 1, os⟩ "BaseException.__getattribute__" "BaseException" "__getattribute__" (.ref x) [.str "__class__" t] [] _ (by decide +kernel) (by decide +kernel) isB (PySem.F.args_bexc_ga (.ref x) (.str "__class__" t)) ?_))
  unfold Builtin.«object.__getattribute__»
  refine wpAny_bind (wpAny_of_eq (a := ((Value.ref x : Value), [Value.str "__class__" t])) (by first | rfl | (simp only [slotArgs]; rfl)) ?_)
  refine wpAny_bind (wpAny_pure (wpAny_bind (la.at (wpAny_bind (ld.at ?_)))))
  show wpAny _ _ (holding [Value.builtin "object.__class__"] (call (.builtin "getset_descriptor.__get__") [.builtin "object.__class__", .ref x, .ref D]) >>= ret) _ _ _
  refine wpAny_bind (wpAny_holding (wpAny_call (class_get (s := ⟨hp, g, d, t + 1, os⟩) X I C.hm (wpAny_pure ?_))))
  show wpAny _ _ (handedOut (.ref D)) _ _ _
  rw [handedOut_of (v := .ref D) rfl]
  first
    | exact wpAny_pure (wpAny_pure h)
    | exact wpAny_pure h
    | exact wpAny_pure (wpAny_bind (wpAny_pure (wpAny_pure h)))
theorem exc_kit (C : L2.ExcC K D) : KitX K (.ref x) (.ref D) (fun h => ∃ ox od, InstAt h x ox D od) where
  ty := fun _ _ _ ⟨_, _, I⟩ => I.type
  it := fun _ _ X _ => by
    obtain ⟨cd, hc, _⟩ := any_some C.hd
    unfold clsIn at hc
    split at hc
    · rename_i ho
      intro A' Q' E' s' k q
      unfold isType loadHead
      exact wpAny_bind (wpAny_loadPart (k _ _ (X _ _ ho)) (wpAny_pure q))
    · cases hc
  ne := fun h tp dd its n sl X htp => Bool.eq_false_iff.mpr fun q => by
    obtain ⟨cd, hc, _⟩ := any_some C.hd
    obtain rfl : D = tp := Value.ref.inj (beq_iff_eq.mp q)
    unfold clsIn at hc
    split at hc
    · rename_i ho
      cases (X _ _ ho).symm.trans htp
    · cases hc
  ca := fun X ⟨_, _, I⟩ k => exc_class C X I k
end
end OwnL
namespace OwnL
open PySem PySem.Spec PyProof.Rows L2
section
variable {X : Cx} {a : Addr} {oe : Obj} {pn : List (Addr × Obj)} {xe : Value → Shared → Prop}
/-- the exception that is kept, as an object -/
theorem kept_at {C : Addr} {d : Option Addr} {pins : List (Addr × Obj)} {σ : L2.St} {H : Hp} {s : Shared} (I : Inv (X.tr ((a, oe) :: pn) xe) pins σ H s) (hz : Zc (.ref C) d oe) (hf : ∃ vs, oe.data = .fields vs) (hd : ∀ dd, d = some dd → ∃ fs, H dd = some (.xd fs)) :
    ∃ od, PySem.W.InstAt s.heap a oe C od := by
  obtain ⟨ha, _⟩ := I.pin (a, oe) (List.mem_append_left _ List.mem_cons_self)
  obtain ⟨vs, hv⟩ := hf
  have nc : PySem.W.notCls oe = true := by unfold PySem.W.notCls; rw [hv] <;> rfl
  cases d with
  | none => exact ⟨none, ha, hz.1, nc, by rw [hz.2]; trivial⟩
  | some dd =>
    obtain ⟨fs, e⟩ := hd dd rfl
    have hx : ObjOk X.prog X.w H s.heap dd (.xd fs) := I.hok dd _ e
    obtain ⟨mA, hns, _⟩ := hx
    obtain ⟨od, ho, _⟩ := lookIn_ns hns
    exact ⟨some od, ha, hz.1, nc, by rw [hz.2]; exact ho⟩
/-- isinstance(e, C'), e the kept exception: of the class at C, its dict at dd -/
def rIsK (K : PySem.W.Frag) (a C : Addr) (d : Option Addr) : List V → Hp → VK → Prop := fun xs H Q => ∃ (C' : Addr) (b : Bool), xs = [.ref a, .ref C'] ∧ (∀ dd, d = some dd → ∃ fs, H dd = some (.xd fs)) ∧ ExcC K C ∧ PySem.W.kitOne K (.ref C) (.ref C') = some b ∧ Q (.bl b) H
theorem call_isK {C : Addr} {cls : Value} {d : Option Addr} (hz : Zc cls d oe) (hc : cls = .ref C) (hf : ∃ vs, oe.data = .fields vs) : CallR (X.tr ((a, oe) :: pn) xe) (.builtin "isinstance") (rIsK X.K a C d) := by
  intro pins s σ H xs us Q I r h
  obtain ⟨C', b, rfl, hd, T, e, q⟩ := h
  subst hc
  cases r with
  | cons rx rr =>
    cases rr with
    | cons rt rr =>
      cases rr
      cases rx
      cases rt
      obtain ⟨od, J⟩ := kept_at I hz hf hd
      exact PySem.W.kia_one (exc_kit T) I.kIn ⟨_, _, J⟩ e (fun z => nomatch z) fun tk => ⟨.bl b, H, I.kept (t' := tk) fun _ _ z => z, rfl, q⟩
/-- e.f of the kept exception -/
theorem pe_xfK {C : Addr} {cls : Value} {d : Option Addr} {e : Expr} {te : TE} {pos : Pos} {n : Str} (T : XfC X.K C) (hno : PySem.W.findIn X.K (.ref C) n = some none)
    (hz : Zc cls d oe) (hf : ∃ vs, oe.data = .fields vs) (he : PE (X.tr ((a, oe) :: pn) xe) e te) (hb : attributeBase e n X.env (eval e X.env) = eval e X.env := by rfl) :
    PE (X.tr ((a, oe) :: pn) xe) (.Attribute e n pos) (tXf a cls d C n te) := by
  refine ⟨fun pins s σ H Q I h => attr_of hb (thn (he.run pins s σ H _ I h) fun u s1 ⟨x, H1, I1, rx, ex, ec, dd, fs, v, ed, ea, l, q⟩ => ?_)⟩
  subst ex
  obtain rfl : u = Value.ref a := rx
  subst ec
  subst ed
  have hx : ObjOk X.prog X.w H1 s1.heap dd (.xd fs) := I1.hok dd _ ea
  obtain ⟨mA, hns, hr⟩ := hx
  obtain ⟨od, ho, hl⟩ := lookIn_ns hns
  obtain ⟨u, hu, ru⟩ := RelO.some_of (v := v) (o := mA n) (by rw [← l]; exact hr n)
  obtain ⟨vs, hv⟩ := hf
  obtain ⟨ha, _⟩ := I1.pin (a, oe) (List.mem_append_left _ List.mem_cons_self)
  have J : PySem.W.InstAt s1.heap a oe C (some od) := ⟨ha, hz.1, by unfold PySem.W.notCls; rw [hv] <;> rfl, by rw [hz.2]; exact ho⟩
  exact HandSPX.exc_get I1.kIn J T.ga T.gg T.exC (PySem.W.findObj_own T.hdC hno rfl (by rw [hl, hu])) (handed_of ru) ⟨v, H1, I1.tok _, ru, q⟩
end
end OwnL

namespace K31
open PySem PySem.Spec PyProof.Rows L2 OwnL Evl StX
def top (i : Nat) : Stmt := PySem.Challenge.pw_deepasdrawn_k31_great_folded_rows_by_for.main.body.getD i (.Pass ⟨0, 0, 0, 0⟩)
abbrev sIsInteger : Stmt := top 2
theorem scIsInteger : FnScope ["value"] ["value"] (defScope sIsInteger) := ⟨rfl, rfl, rfl, by decide +kernel, rfl, by decide +kernel, by decide +kernel⟩
abbrev sIsWithin : Stmt := top 3
theorem scIsWithin : FnScope ["value", "least", "most"] ["value", "least", "most"] (defScope sIsWithin) := ⟨rfl, rfl, rfl, by decide +kernel, rfl, by decide +kernel, by decide +kernel⟩
abbrev sIsListed : Stmt := top 4
theorem scIsListed : FnScope ["value"] ["value"] (defScope sIsListed) := ⟨rfl, rfl, rfl, by decide +kernel, rfl, by decide +kernel, by decide +kernel⟩
abbrev sIsName : Stmt := top 5
theorem scIsName : FnScope ["value", "letter"] ["value"] (defScope sIsName) := ⟨rfl, rfl, rfl, by decide +kernel, rfl, by decide +kernel, by decide +kernel⟩
abbrev sFixed : Stmt := top 14
theorem scFixed : FnScope ["value", "part"] ["value"] (defScope sFixed) := ⟨rfl, rfl, rfl, by decide +kernel, rfl, by decide +kernel, by decide +kernel⟩
abbrev sIsItem : Stmt := top 19
theorem scIsItem : FnScope ["value", "many"] ["value", "many"] (defScope sIsItem) := ⟨rfl, rfl, rfl, by decide +kernel, rfl, by decide +kernel, by decide +kernel⟩
abbrev sAreParts : Stmt := top 20
theorem scAreParts : FnScope ["value", "part", "item", "at"] ["value"] (defScope sAreParts) := ⟨rfl, rfl, rfl, by decide +kernel, rfl, by decide +kernel, by decide +kernel⟩
abbrev sNeedFolded : Stmt := top 22
theorem scNeedFolded : FnScope ["value", "part"] ["value", "part"] (defScope sNeedFolded) := ⟨rfl, rfl, rfl, by decide +kernel, rfl, by decide +kernel, by decide +kernel⟩
abbrev sLengthsOf : Stmt := top 23
theorem scLengthsOf : FnScope ["parts", "found", "part", "item"] ["parts"] (defScope sLengthsOf) := ⟨rfl, rfl, rfl, by decide +kernel, rfl, by decide +kernel, by decide +kernel⟩
abbrev sIsEvent : Stmt := top 24
theorem scIsEvent : FnScope ["item"] ["item"] (defScope sIsEvent) := ⟨rfl, rfl, rfl, by decide +kernel, rfl, by decide +kernel, by decide +kernel⟩
abbrev sItemLength : Stmt := top 25
theorem scItemLength : FnScope ["row", "item"] ["row", "item"] (defScope sItemLength) := ⟨rfl, rfl, rfl, by decide +kernel, rfl, by decide +kernel, by decide +kernel⟩
abbrev sWithin : Stmt := top 27
theorem scWithin : FnScope ["row", "part", "number", "item"] ["row", "part", "number"] (defScope sWithin) := ⟨rfl, rfl, rfl, by decide +kernel, rfl, by decide +kernel, by decide +kernel⟩
abbrev sUsedIn : Stmt := top 28
theorem scUsedIn : FnScope ["parts", "part", "found", "line", "item"] ["parts", "part"] (defScope sUsedIn) := ⟨rfl, rfl, rfl, by decide +kernel, rfl, by decide +kernel, by decide +kernel⟩
abbrev sNeeded : Stmt := top 29
theorem scNeeded : FnScope ["parts", "part", "used", "numbers", "at", "old", "told", "item"] ["parts", "part"] (defScope sNeeded) := ⟨rfl, rfl, rfl, by decide +kernel, rfl, by decide +kernel, by decide +kernel⟩
abbrev sFoldedOf : Stmt := top 30
theorem scFoldedOf : FnScope ["events", "event"] ["events"] (defScope sFoldedOf) := ⟨rfl, rfl, rfl, by decide +kernel, rfl, by decide +kernel, by decide +kernel⟩
abbrev sUnfolded : Stmt := top 31
theorem scUnfolded : FnScope ["row", "found", "line", "part", "at", "item"] ["row"] (defScope sUnfolded) := ⟨rfl, rfl, rfl, by decide +kernel, rfl, by decide +kernel, by decide +kernel⟩
abbrev sJoined : Stmt := top 32
theorem scJoined : FnScope ["rows", "row", "sharing", "items"] ["rows"] (defScope sJoined) := ⟨rfl, rfl, rfl, by decide +kernel, rfl, by decide +kernel, by decide +kernel⟩
abbrev sEventAt : Stmt := top 33
theorem scEventAt : FnScope ["row", "number", "item", "left"] ["row", "number"] (defScope sEventAt) := ⟨rfl, rfl, rfl, by decide +kernel, rfl, by decide +kernel, by decide +kernel⟩
abbrev sFirstOf : Stmt := top 34
theorem scFirstOf : FnScope ["row", "many", "found", "part", "left", "inner", "item", "size"] ["row", "many"] (defScope sFirstOf) := ⟨rfl, rfl, rfl, by decide +kernel, rfl, by decide +kernel, by decide +kernel⟩
abbrev sCounted : Stmt := top 35
theorem scCounted : FnScope ["row", "found", "part", "told", "item", "counts", "event"] ["row"] (defScope sCounted) := ⟨rfl, rfl, rfl, by decide +kernel, rfl, by decide +kernel, by decide +kernel⟩
abbrev sPen : Stmt := top 37
theorem scPen : FnScope ["script"] ["script"] (defScope sPen) := ⟨rfl, rfl, rfl, by decide +kernel, rfl, by decide +kernel, by decide +kernel⟩
abbrev sDraw : Stmt := top 38
theorem scDraw : FnScope ["pen", "many", "digit", "lap", "cell", "great", "mixed"] ["pen", "many"] (defScope sDraw) := ⟨rfl, rfl, rfl, by decide +kernel, rfl, by decide +kernel, by decide +kernel⟩
abbrev sPick : Stmt := top 39
theorem scPick : FnScope ["pen", "some"] ["pen", "some"] (defScope sPick) := ⟨rfl, rfl, rfl, by decide +kernel, rfl, by decide +kernel, by decide +kernel⟩
abbrev sHeard : Stmt := top 40
theorem scHeard : FnScope ["ask", "caught", "found", "error"] ["ask"] (defScope sHeard) := ⟨rfl, rfl, rfl, by decide +kernel, rfl, by decide +kernel, by decide +kernel⟩
abbrev sLaw : Stmt := top 41
theorem scLaw : FnScope ["script", "pen", "base", "deep", "row", "at", "size", "turn", "many", "steps", "golden", "counts", "word", "spot", "marked", "whole", "heard"] ["script"] (defScope sLaw) := ⟨rfl, rfl, rfl, by decide +kernel, rfl, by decide +kernel, by decide +kernel⟩
abbrev sFInit : Stmt := inClass (top 21) 0
theorem scFInit : FnScope ["self", "parts"] ["self", "parts"] (defScope sFInit) := ⟨rfl, rfl, rfl, by decide +kernel, rfl, by decide +kernel, by decide +kernel⟩
abbrev sFEq : Stmt := inClass (top 21) 1
theorem scFEq : FnScope ["self", "other"] ["self", "other"] (defScope sFEq) := ⟨rfl, rfl, rfl, by decide +kernel, rfl, by decide +kernel, by decide +kernel⟩
abbrev sSInit : Stmt := inClass (top 26) 0
theorem scSInit : FnScope ["self"] ["self"] (defScope sSInit) := ⟨rfl, rfl, rfl, by decide +kernel, rfl, by decide +kernel, by decide +kernel⟩
abbrev sSPut : Stmt := inClass (top 26) 1
theorem scSPut : FnScope ["self", "part"] ["self", "part"] (defScope sSPut) := ⟨rfl, rfl, rfl, by decide +kernel, rfl, by decide +kernel, by decide +kernel⟩
abbrev sSItems : Stmt := inClass (top 26) 2
theorem scSItems : FnScope ["self", "row", "numbers", "part", "told", "item"] ["self", "row"] (defScope sSItems) := ⟨rfl, rfl, rfl, by decide +kernel, rfl, by decide +kernel, by decide +kernel⟩
abbrev sBadValueI : Stmt := inClass (top 8) 0
theorem scBadValueI : SupScope ["self", "part"] ["self", "part"] (defScope sBadValueI) := ⟨rfl, rfl, rfl, by decide +kernel, rfl, by decide +kernel, by decide +kernel, by decide +kernel, rfl, rfl⟩
abbrev sBadNumberI : Stmt := inClass (top 9) 0
theorem scBadNumberI : SupScope ["self", "part"] ["self", "part"] (defScope sBadNumberI) := ⟨rfl, rfl, rfl, by decide +kernel, rfl, by decide +kernel, by decide +kernel, by decide +kernel, rfl, rfl⟩
abbrev sMisfitI : Stmt := inClass (top 10) 0
theorem scMisfitI : SupScope ["self", "part"] ["self", "part"] (defScope sMisfitI) := ⟨rfl, rfl, rfl, by decide +kernel, rfl, by decide +kernel, by decide +kernel, by decide +kernel, rfl, rfl⟩
abbrev sTooManyI : Stmt := inClass (top 11) 0
theorem scTooManyI : SupScope ["self", "what", "most"] ["self", "what", "most"] (defScope sTooManyI) := ⟨rfl, rfl, rfl, by decide +kernel, rfl, by decide +kernel, by decide +kernel, by decide +kernel, rfl, rfl⟩
abbrev sNoNameI : Stmt := inClass (top 12) 0
theorem scNoNameI : SupScope ["self", "name"] ["self", "name"] (defScope sNoNameI) := ⟨rfl, rfl, rfl, by decide +kernel, rfl, by decide +kernel, by decide +kernel, by decide +kernel, rfl, rfl⟩
structure Ad where
  aIsInteger : Addr
  aIsWithin : Addr
  aIsListed : Addr
  aIsName : Addr
  aFixed : Addr
  aIsItem : Addr
  aAreParts : Addr
  aNeedFolded : Addr
  aLengthsOf : Addr
  aIsEvent : Addr
  aItemLength : Addr
  aWithin : Addr
  aUsedIn : Addr
  aNeeded : Addr
  aFoldedOf : Addr
  aUnfolded : Addr
  aJoined : Addr
  aEventAt : Addr
  aFirstOf : Addr
  aCounted : Addr
  aPen : Addr
  aDraw : Addr
  aPick : Addr
  aHeard : Addr
  aLaw : Addr
  aFInit : Addr
  aFEq : Addr
  aSInit : Addr
  aSPut : Addr
  aSItems : Addr
  aBadValueI : Addr
  aBadNumberI : Addr
  aMisfitI : Addr
  aTooManyI : Addr
  aNoNameI : Addr
  cChartError : Addr
  cBadValue : Addr
  cBadNumber : Addr
  cMisfit : Addr
  cTooMany : Addr
  cNoName : Addr
  cFolded : Addr
  cSharing : Addr

structure T10 (mg : Str → Option Value) (K : PySem.W.Frag) (A : Ad) : Prop where
  b_int : mg "int" = none
  b_len : mg "len" = none
  b_abs : mg "abs" = none
  b_list : mg "list" = none
  b_tuple : mg "tuple" = none
  b_isinstance : mg "isinstance" = none
  b_bool : mg "bool" = none
  b_str : mg "str" = none
  b_all : mg "all" = none
  b_any : mg "any" = none
  b_repr : mg "repr" = none
  b_set : mg "set" = none
  b_range : mg "range" = none
  b_sum : mg "sum" = none
  b_sorted : mg "sorted" = none
  b_enumerate : mg "enumerate" = none
  b_min : mg "min" = none
  gIsInteger : mg "is_integer" = some (.ref A.aIsInteger)
  kIsInteger : PySem.W.keepIn K (.ref A.aIsInteger) = true
  gIsWithin : mg "is_within" = some (.ref A.aIsWithin)
  kIsWithin : PySem.W.keepIn K (.ref A.aIsWithin) = true
  gIsListed : mg "is_listed" = some (.ref A.aIsListed)
  kIsListed : PySem.W.keepIn K (.ref A.aIsListed) = true
  gIsName : mg "is_name" = some (.ref A.aIsName)
  kIsName : PySem.W.keepIn K (.ref A.aIsName) = true
  gFixed : mg "fixed" = some (.ref A.aFixed)
  kFixed : PySem.W.keepIn K (.ref A.aFixed) = true
  gIsItem : mg "is_item" = some (.ref A.aIsItem)
  kIsItem : PySem.W.keepIn K (.ref A.aIsItem) = true
  gAreParts : mg "are_parts" = some (.ref A.aAreParts)
  kAreParts : PySem.W.keepIn K (.ref A.aAreParts) = true
  gNeedFolded : mg "need_folded" = some (.ref A.aNeedFolded)
  kNeedFolded : PySem.W.keepIn K (.ref A.aNeedFolded) = true
  gLengthsOf : mg "lengths_of" = some (.ref A.aLengthsOf)
  kLengthsOf : PySem.W.keepIn K (.ref A.aLengthsOf) = true
  gIsEvent : mg "is_event" = some (.ref A.aIsEvent)
  kIsEvent : PySem.W.keepIn K (.ref A.aIsEvent) = true
  gItemLength : mg "item_length" = some (.ref A.aItemLength)
  kItemLength : PySem.W.keepIn K (.ref A.aItemLength) = true
  gWithin : mg "within" = some (.ref A.aWithin)
  kWithin : PySem.W.keepIn K (.ref A.aWithin) = true
  gUsedIn : mg "used_in" = some (.ref A.aUsedIn)
  kUsedIn : PySem.W.keepIn K (.ref A.aUsedIn) = true
  gNeeded : mg "needed" = some (.ref A.aNeeded)
  kNeeded : PySem.W.keepIn K (.ref A.aNeeded) = true
  gFoldedOf : mg "folded_of" = some (.ref A.aFoldedOf)
  kFoldedOf : PySem.W.keepIn K (.ref A.aFoldedOf) = true
  gUnfolded : mg "unfolded" = some (.ref A.aUnfolded)
  kUnfolded : PySem.W.keepIn K (.ref A.aUnfolded) = true
  gJoined : mg "joined" = some (.ref A.aJoined)
  kJoined : PySem.W.keepIn K (.ref A.aJoined) = true
  gEventAt : mg "event_at" = some (.ref A.aEventAt)
  kEventAt : PySem.W.keepIn K (.ref A.aEventAt) = true
  gFirstOf : mg "first_of" = some (.ref A.aFirstOf)
  kFirstOf : PySem.W.keepIn K (.ref A.aFirstOf) = true
  gCounted : mg "counted" = some (.ref A.aCounted)
  kCounted : PySem.W.keepIn K (.ref A.aCounted) = true
  gPen : mg "_law_pen" = some (.ref A.aPen)
  kPen : PySem.W.keepIn K (.ref A.aPen) = true
  gDraw : mg "_law_draw" = some (.ref A.aDraw)
  kDraw : PySem.W.keepIn K (.ref A.aDraw) = true
  gPick : mg "_law_pick" = some (.ref A.aPick)
  kPick : PySem.W.keepIn K (.ref A.aPick) = true
  gHeard : mg "_law_dp_heard" = some (.ref A.aHeard)
  kHeard : PySem.W.keepIn K (.ref A.aHeard) = true
  gLaw : mg "law" = some (.ref A.aLaw)
  kLaw : PySem.W.keepIn K (.ref A.aLaw) = true
  gChartError : mg "ChartError" = some (.ref A.cChartError)
  kChartError : PySem.W.keepIn K (.ref A.cChartError) = true
  gBadValue : mg "BadValue" = some (.ref A.cBadValue)
  kBadValue : PySem.W.keepIn K (.ref A.cBadValue) = true
  gBadNumber : mg "BadNumber" = some (.ref A.cBadNumber)
  kBadNumber : PySem.W.keepIn K (.ref A.cBadNumber) = true
  gMisfit : mg "Misfit" = some (.ref A.cMisfit)
  kMisfit : PySem.W.keepIn K (.ref A.cMisfit) = true
  gTooMany : mg "TooMany" = some (.ref A.cTooMany)
  kTooMany : PySem.W.keepIn K (.ref A.cTooMany) = true
  gNoName : mg "NoName" = some (.ref A.cNoName)
  kNoName : PySem.W.keepIn K (.ref A.cNoName) = true
  gFolded : mg "Folded" = some (.ref A.cFolded)
  kFolded : PySem.W.keepIn K (.ref A.cFolded) = true
  gSharing : mg "Sharing" = some (.ref A.cSharing)
  kSharing : PySem.W.keepIn K (.ref A.cSharing) = true
  gLETTERS : ∃ t, mg "LETTERS" = some (.str "abcdefghijklmnopqrstuvwxyz" t)
  gMOSTPARTS : ∃ t, mg "MOST_PARTS" = some (.int 2000 t)
  gMOSTITEMS : ∃ t, mg "MOST_ITEMS" = some (.int 20000 t)
  gMOSTEVENTS : ∃ t, mg "MOST_EVENTS" = some (.int 10000 t)

structure F10 (K : PySem.W.Frag) (A : Ad) where
  fIsInteger : FuncData
  FIsInteger : L2.Fun K "is_integer" "is_integer" sIsInteger A.aIsInteger fIsInteger
  fIsWithin : FuncData
  FIsWithin : L2.Fun K "is_within" "is_within" sIsWithin A.aIsWithin fIsWithin
  fIsListed : FuncData
  FIsListed : L2.Fun K "is_listed" "is_listed" sIsListed A.aIsListed fIsListed
  fIsName : FuncData
  FIsName : L2.Fun K "is_name" "is_name" sIsName A.aIsName fIsName
  fFixed : FuncData
  FFixed : L2.Fun K "fixed" "fixed" sFixed A.aFixed fFixed
  fIsItem : FuncData
  FIsItem : L2.Fun K "is_item" "is_item" sIsItem A.aIsItem fIsItem
  fAreParts : FuncData
  FAreParts : L2.Fun K "are_parts" "are_parts" sAreParts A.aAreParts fAreParts
  fNeedFolded : FuncData
  FNeedFolded : FunD K "need_folded" "need_folded" (defArgs sNeedFolded) (defBody sNeedFolded) (defScope sNeedFolded) [.str "row"] [] A.aNeedFolded fNeedFolded
  fLengthsOf : FuncData
  FLengthsOf : L2.Fun K "lengths_of" "lengths_of" sLengthsOf A.aLengthsOf fLengthsOf
  fIsEvent : FuncData
  FIsEvent : L2.Fun K "is_event" "is_event" sIsEvent A.aIsEvent fIsEvent
  fItemLength : FuncData
  FItemLength : L2.Fun K "item_length" "item_length" sItemLength A.aItemLength fItemLength
  fWithin : FuncData
  FWithin : L2.Fun K "within" "within" sWithin A.aWithin fWithin
  fUsedIn : FuncData
  FUsedIn : L2.Fun K "used_in" "used_in" sUsedIn A.aUsedIn fUsedIn
  fNeeded : FuncData
  FNeeded : L2.Fun K "needed" "needed" sNeeded A.aNeeded fNeeded
  fFoldedOf : FuncData
  FFoldedOf : L2.Fun K "folded_of" "folded_of" sFoldedOf A.aFoldedOf fFoldedOf
  fUnfolded : FuncData
  FUnfolded : L2.Fun K "unfolded" "unfolded" sUnfolded A.aUnfolded fUnfolded
  fJoined : FuncData
  FJoined : L2.Fun K "joined" "joined" sJoined A.aJoined fJoined
  fEventAt : FuncData
  FEventAt : L2.Fun K "event_at" "event_at" sEventAt A.aEventAt fEventAt
  fFirstOf : FuncData
  FFirstOf : L2.Fun K "first_of" "first_of" sFirstOf A.aFirstOf fFirstOf
  fCounted : FuncData
  FCounted : L2.Fun K "counted" "counted" sCounted A.aCounted fCounted
  fPen : FuncData
  FPen : L2.Fun K "_law_pen" "_law_pen" sPen A.aPen fPen
  fDraw : FuncData
  FDraw : L2.Fun K "_law_draw" "_law_draw" sDraw A.aDraw fDraw
  fPick : FuncData
  FPick : L2.Fun K "_law_pick" "_law_pick" sPick A.aPick fPick
  fHeard : FuncData
  FHeard : L2.Fun K "_law_dp_heard" "_law_dp_heard" sHeard A.aHeard fHeard
  fLaw : FuncData
  FLaw : L2.Fun K "law" "law" sLaw A.aLaw fLaw
  fFInit : FuncData
  FFInit : L2.Fun K "__init__" "Folded.__init__" sFInit A.aFInit fFInit
  fFEq : FuncData
  FFEq : L2.Fun K "__eq__" "Folded.__eq__" sFEq A.aFEq fFEq
  fSInit : FuncData
  FSInit : L2.Fun K "__init__" "Sharing.__init__" sSInit A.aSInit fSInit
  fSPut : FuncData
  FSPut : L2.Fun K "put" "Sharing.put" sSPut A.aSPut fSPut
  fSItems : FuncData
  FSItems : L2.Fun K "items" "Sharing.items" sSItems A.aSItems fSItems

section
variable {P : Program} {w : World} {K : PySem.W.Frag} {mg : Str → Option Value} {base : Heap} {A : Ad}
/-! ### which values are integers, lists, names -/
def isIntD : PyData → Bool
  | .int _ => true
  | _ => false
def isSeqD : PyData → Bool
  | .list _ => true
  | .tuple _ => true
  | _ => false
def isLstD : PyData → Bool
  | .list _ => true
  | _ => false
def isTupD : PyData → Bool
  | .tuple _ => true
  | _ => false
def isBoolD : PyData → Bool
  | .bool _ => true
  | _ => false
def isStrD : PyData → Bool
  | .str _ => true
  | _ => false
def tyD : PyData → String
  | .none => "NoneType"
  | .bool _ => "bool"
  | .int _ => "int"
  | .str _ => "str"
  | .list _ => "list"
  | .tuple _ => "tuple"
  | .dict _ => "dict"
theorem tyx_rd {H : Hp} {a : Addr} {xs : List V} (h : SqL K H a xs) : TyX K H (.ref a) (.type "list") := by
  rcases h with (h | ⟨o, h⟩) | ⟨o, its, n, h1, h2, _⟩
  · exact .base (.lst h)
  · exact .base (.frz h)
  · exact .kList h1 h2
theorem tyx_rt {H : Hp} {a : Addr} {xs : List V} (h : SqT K H a xs) : TyX K H (.ref a) (.type "tuple") := by
  rcases h with (h | ⟨o, h⟩) | ⟨o, its, n, h1, h2, _⟩
  · exact .base (.tup h)
  · exact .fTuple h
  · exact .kTuple h1 h2
theorem tyx_of {H : Hp} {v : V} {d : PyData} (h : Dp K H v d) : TyX K H v (.type (tyD d)) := by
  cases h with
  | non => exact .base .non
  | bl b => exact .base (.bl b)
  | int i => exact .base (.int i)
  | str x => exact .base (.str x)
  | lst h _ => exact tyx_rd h
  | tup h _ => exact tyx_rt h
theorem ex_same {H H' : Hp} (e : Ex H H') : Ext H H' := e
theorem isi_int : ∀ d : PyData, d.canLay0 = true → PySem.W.kitOne K (.type (tyD d)) (.type "int") = some (isIntD d || isBoolD d)
  | .none, _ => kit_ty (a := "NoneType") (b := "int") (r := false) (by decide +kernel)
  | .bool _, _ => kit_ty (a := "bool") (b := "int") (r := true) (by decide +kernel)
  | .int _, _ => kit_ty (a := "int") (b := "int") (r := true) (by decide +kernel)
  | .str _, _ => kit_ty (a := "str") (b := "int") (r := false) (by decide +kernel)
  | .list _, _ => kit_ty (a := "list") (b := "int") (r := false) (by decide +kernel)
  | .tuple _, _ => kit_ty (a := "tuple") (b := "int") (r := false) (by decide +kernel)
  | .dict _, h => by simp [PyData.canLay0] at h
theorem isi_bool : ∀ d : PyData, d.canLay0 = true → PySem.W.kitOne K (.type (tyD d)) (.type "bool") = some (isBoolD d)
  | .none, _ => kit_ty (a := "NoneType") (b := "bool") (r := false) (by decide +kernel)
  | .bool _, _ => kit_ty (a := "bool") (b := "bool") (r := true) (by decide +kernel)
  | .int _, _ => kit_ty (a := "int") (b := "bool") (r := false) (by decide +kernel)
  | .str _, _ => kit_ty (a := "str") (b := "bool") (r := false) (by decide +kernel)
  | .list _, _ => kit_ty (a := "list") (b := "bool") (r := false) (by decide +kernel)
  | .tuple _, _ => kit_ty (a := "tuple") (b := "bool") (r := false) (by decide +kernel)
  | .dict _, h => by simp [PyData.canLay0] at h
theorem isi_str : ∀ d : PyData, d.canLay0 = true → PySem.W.kitOne K (.type (tyD d)) (.type "str") = some (isStrD d)
  | .none, _ => kit_ty (a := "NoneType") (b := "str") (r := false) (by decide +kernel)
  | .bool _, _ => kit_ty (a := "bool") (b := "str") (r := false) (by decide +kernel)
  | .int _, _ => kit_ty (a := "int") (b := "str") (r := false) (by decide +kernel)
  | .str _, _ => kit_ty (a := "str") (b := "str") (r := true) (by decide +kernel)
  | .list _, _ => kit_ty (a := "list") (b := "str") (r := false) (by decide +kernel)
  | .tuple _, _ => kit_ty (a := "tuple") (b := "str") (r := false) (by decide +kernel)
  | .dict _, h => by simp [PyData.canLay0] at h
theorem isi_list : ∀ d : PyData, d.canLay0 = true → PySem.W.kitOne K (.type (tyD d)) (.type "list") = some (isLstD d)
  | .none, _ => kit_ty (a := "NoneType") (b := "list") (r := false) (by decide +kernel)
  | .bool _, _ => kit_ty (a := "bool") (b := "list") (r := false) (by decide +kernel)
  | .int _, _ => kit_ty (a := "int") (b := "list") (r := false) (by decide +kernel)
  | .str _, _ => kit_ty (a := "str") (b := "list") (r := false) (by decide +kernel)
  | .list _, _ => kit_ty (a := "list") (b := "list") (r := true) (by decide +kernel)
  | .tuple _, _ => kit_ty (a := "tuple") (b := "list") (r := false) (by decide +kernel)
  | .dict _, h => by simp [PyData.canLay0] at h
theorem isi_tuple : ∀ d : PyData, d.canLay0 = true → PySem.W.kitOne K (.type (tyD d)) (.type "tuple") = some (isTupD d)
  | .none, _ => kit_ty (a := "NoneType") (b := "tuple") (r := false) (by decide +kernel)
  | .bool _, _ => kit_ty (a := "bool") (b := "tuple") (r := false) (by decide +kernel)
  | .int _, _ => kit_ty (a := "int") (b := "tuple") (r := false) (by decide +kernel)
  | .str _, _ => kit_ty (a := "str") (b := "tuple") (r := false) (by decide +kernel)
  | .list _, _ => kit_ty (a := "list") (b := "tuple") (r := false) (by decide +kernel)
  | .tuple _, _ => kit_ty (a := "tuple") (b := "tuple") (r := true) (by decide +kernel)
  | .dict _, h => by simp [PyData.canLay0] at h
theorem rc_isi {H : Hp} {v : V} {d : PyData} {T : String} {b : Bool} (h : Dp K H v d) (k : PySem.W.kitOne K (.type (tyD d)) (.type T) = some b) : RC (rIsi K) [v, .ty T] H (.bl b) := fun H1 e Q q =>
  ⟨v, .ty T, .type (tyD d), .type T, b, rfl, .ty T, tyx_of (Dp.ext e h), k, q H1 (Ex.refl H1)⟩
/-- a pure check of one piece of data -/
def spChk (K : PySem.W.Frag) (φ : PyData → Bool) : Sp := fun vs H Q _ => ∃ v d, vs = [v] ∧ Dp K H v d ∧ d.canLay0 = true ∧ RetV (.bl (φ d)) H Q
theorem spv_chk {H : Hp} {v : V} {d : PyData} {φ : PyData → Bool} (h : Dp K H v d) (hd : d.canLay0 = true) : SpV (spChk K φ) [v] H (.bl (φ d)) := fun H1 e Q q E => ⟨v, d, rfl, Dp.ext e h, hd, fun H2 e2 => q H2 e2⟩
theorem ok_isInteger (F : F10 K A) (T : T10 mg K A) : FnOk P w K mg base CX0 1 A.aIsInteger F.fIsInteger ["value"] (spChk K isIntD) := by
  refine F.FIsInteger.ok scIsInteger (fun vs H Q E h => ?_) (fun cdv Ar outer s H vs Q E hr h => ?_)
  · obtain ⟨v, d, rfl, _⟩ := h
    rfl
  · obtain ⟨v, d, rfl, hd, hc, k⟩ := h
    refine ⟨_, (pss_one (ps_ret (pe_and (pe_callB call_isi (by rfl) T.b_isinstance (by decide +kernel) (pa_cons (pv 0) (pa_cons (pe_bltn (v := .ty "int") (u := .type "int") rfl T.b_int (by decide +kernel) rfl) pa_nil))) (pe_one (pe_not (pe_callB call_isi (by rfl) T.b_isinstance (by decide +kernel) (pa_cons (pv 0) (pa_cons (pe_bltn (v := .ty "bool") (u := .type "bool") rfl T.b_bool (by decide +kernel) rfl) pa_nil)))))))), ?_⟩
    refine s_ret (ev_is (ev_andV (ev_cb (ea_cons (ev_var rfl) (ea_cons ev_c ea_nil)) (rc_isi hd (isi_int d hc))) fun _ => ev_notV (ev_cb (ea_cons (ev_var rfl) (ea_cons ev_c ea_nil)) (rc_isi hd (isi_bool d hc)))) ?_) k
    cases d <;> rfl
theorem isi_seq (d : PyData) (hd : d.canLay0 = true) : PySem.W.kitAny K (.type (tyD d)) [.type "list", .type "tuple"] = some (isSeqD d) :=
  kitAny_cons (b := isLstD d) (isi_list d hd) (fun h => kitAny_cons (b := isTupD d) (isi_tuple d hd) (fun h2 => by
    have e : isSeqD d = false := by cases d <;> simp_all [isLstD, isTupD, isSeqD]
    rw [e]
    exact kitAny_nil) fun h2 => by cases d <;> simp_all [isLstD, isTupD, isSeqD]) fun h => by cases d <;> simp_all [isLstD, isTupD, isSeqD]
theorem ev_isiLT {σ : L2.St} {H : Hp} {v : V} {d : PyData} {te : TE} (h : Ev te σ H v) (hd : Dp K H v d) (hc : d.canLay0 = true) :
    Ev (tCB (rIsiT K) (tCons te (tCons (tTup (tCons (tC (.ty "list")) (tCons (tC (.ty "tuple")) tNil))) tNil))) σ H (.bl (isSeqD d)) := fun H1 e Q q =>
  h H1 e _ fun H2 e2 => ⟨by show 2 ≤ sizeLine; decide, fun p hp => ⟨v, p, [.ty "list", .ty "tuple"], .type (tyD d), [.type "list", .type "tuple"], isSeqD d, rfl, upd_same, .cons (.ty _) (.cons (.ty _) .nil), tyx_of (Dp.ext (e.trans (e2.trans (Ex.new hp))) hd), isi_seq d hc, q _ (e2.trans (Ex.new hp))⟩⟩
theorem ok_isListed (F : F10 K A) (T : T10 mg K A) : FnOk P w K mg base CX0 1 A.aIsListed F.fIsListed ["value"] (spChk K isSeqD) := by
  refine F.FIsListed.ok scIsListed (fun vs H Q E h => ?_) (fun cdv Ar outer s H vs Q E hr h => ?_)
  · obtain ⟨v, d, rfl, _⟩ := h
    rfl
  · obtain ⟨v, d, rfl, hd, hc, k⟩ := h
    exact ⟨_, (pss_one (ps_ret (pe_callB call_isiT (by rfl) T.b_isinstance (by decide +kernel) (pa_cons (pv 0) (pa_cons (pe_tup (pa_cons (pe_bltn (v := .ty "list") (u := .type "list") rfl T.b_list (by decide +kernel) rfl) (pa_cons (pe_bltn (v := .ty "tuple") (u := .type "tuple") rfl T.b_tuple (by decide +kernel) rfl) pa_nil))) pa_nil))))), s_ret (ev_isiLT (ev_var rfl) hd hc) k⟩
/-! ### lists made tuples, all the way in -/
mutual
/-- the longest list in a piece of data -/
def wide : PyData → Nat
  | .list ds => max ds.length (wideAll ds)
  | .tuple ds => max ds.length (wideAll ds)
  | _ => 0
def wideAll : List PyData → Nat
  | [] => 0
  | d :: ds => max (wide d) (wideAll ds)
end
theorem all_at {ds : List PyData} {i : Nat} {d : PyData} : ds[i]? = some d → d.depth ≤ PyData.depthAll ds ∧ wide d ≤ wideAll ds ∧ (PyData.canLayAll0 ds = true → d.canLay0 = true) := by
  induction ds generalizing i with
  | nil => simp
  | cons e ds ih =>
    cases i with
    | zero =>
      intro h
      simp at h
      subst h
      simp only [PyData.depthAll, wideAll, PyData.canLayAll0, Bool.and_eq_true]
      exact ⟨Nat.le_max_left _ _, by omega, fun h => h.1⟩
    | succ i =>
      intro h
      obtain ⟨h1, h2, h3⟩ := ih (by simpa using h)
      simp only [PyData.depthAll, wideAll, PyData.canLayAll0, Bool.and_eq_true]
      exact ⟨Nat.le_trans h1 (Nat.le_max_right _ _), by omega, fun h => h3 h.2⟩
def spFixed (K : PySem.W.Frag) (n : Nat) : Sp := fun vs H Q _ => ∃ v d S, vs = [v] ∧ Here S H ∧ Dp K (hid S H) v d ∧ d.canLay0 = true ∧ d.depth ≤ n ∧ wide d ≤ 40000 ∧ ∀ r H', Ex H H' → Dp K (hid S H') r (tupd d) → Q r H'
theorem dpall_of {K : PySem.W.Frag} {H : Hp} : ∀ {acc : List V} {ds : List PyData}, acc.length = ds.length → (∀ (j : Nat) (u : V) (d : PyData), acc[j]? = some u → ds[j]? = some d → Dp K H u d) → DpAll K H acc ds
  | [], [], _, _ => .nil
  | u :: acc, d :: ds, hl, h => .cons (h 0 u d rfl rfl) (dpall_of (by simpa using hl) fun j u' d' h1 h2 => h (j + 1) u' d' (by simpa using h1) (by simpa using h2))
  | [], _ :: _, hl, _ => by simp at hl
  | _ :: _, [], hl, _ => by simp at hl
theorem ok_fixed (F : F10 K A) (T : T10 mg K A) (n : Nat) : FnOk P w K mg base CX0 (n + 1) A.aFixed F.fFixed ["value"] (spFixed K n) := by
  have bFixed : Binds K F.fFixed ["value"] [] := F.FFixed.binds (fun _ _ _ _ _ _ us hl => match us, hl with | [_], _ => rfl)
  induction n with
  | zero =>
    refine F.FFixed.ok scFixed (fun vs H Q E h => ?_) (fun cdv Ar outer s H vs Q E hr h => ?_)
    · obtain ⟨v, d, S, rfl, _⟩ := h
      rfl
    · obtain ⟨v, d, S, rfl, hS, hd, hc, hn, hw, k⟩ := h
      have hf : isSeqD d = false := by cases d <;> simp_all [isSeqD, PyData.depth]
      have ht : tupd d = d := by cases d <;> simp_all [isSeqD, tupd]
      refine ⟨_, (pss_cons (ps_if (pt_val (pe_callB call_isiT (by rfl) T.b_isinstance (by decide +kernel) (pa_cons (pv 0) (pa_cons (pe_tup (pa_cons (pe_bltn (v := .ty "list") (u := .type "list") rfl T.b_list (by decide +kernel) rfl) (pa_cons (pe_bltn (v := .ty "tuple") (u := .type "tuple") rfl T.b_tuple (by decide +kernel) rfl) pa_nil))) pa_nil)))) (pss_one ps_never) pss_nil)
  (pss_one (ps_ret (pv 0)))), ?_⟩
      refine q_when (et_B (ev_isiLT (ev_var rfl) (Dp.ext (hid_out S) hd) hc)) (fun hb => by rw [hf] at hb; cases hb) fun hb H1 e1 => ?_
      exact s_ret (ev_var rfl) fun H2 e2 => k _ _ (e1.trans e2) (by rw [ht]; exact Dp.ext (hid_ex (e1.trans e2)) hd)
  | succ n GFixed =>
    refine F.FFixed.ok scFixed (fun vs H Q E h => ?_) (fun cdv Ar outer s H vs Q E hr h => ?_)
    · obtain ⟨v, d, S, rfl, _⟩ := h
      rfl
    · obtain ⟨v, d, S, rfl, hS, hd, hc, hn, hw, k⟩ := h
      have hr1 := hr
      refine ⟨_, (pss_cons (ps_if (pt_val (pe_callB call_isiT (by rfl) T.b_isinstance (by decide +kernel) (pa_cons (pv 0) (pa_cons (pe_tup (pa_cons (pe_bltn (v := .ty "list") (u := .type "list") rfl T.b_list (by decide +kernel) rfl) (pa_cons (pe_bltn (v := .ty "tuple") (u := .type "tuple") rfl T.b_tuple (by decide +kernel) rfl) pa_nil))) pa_nil)))) (pss_one (ps_ret (pe_callTy call_tuple_of (by rfl) T.b_tuple (by decide +kernel) (pa_cons (pe_lc (own := [("part", 1)]) rfl scFixed.nd (pi_or (pi_list (pv 0)) (pi_tup (pv 0))) (blkOk_by (own := [("part", 1)]) (N := ["value", "part"]) (sc := defScope (top 14)) (by decide +kernel)) (fun _ _ _ _ _ => (pg_name (i := 1) scFixed.nd rfl (Or.inl rfl))) (fun _ _ _ _ _ => pts_nil) (fun _ _ _ _ _ => (pe_call GFixed hr1 rfl T.gFixed T.kFixed bFixed .nil pass0 (pa_cons (pv 1) pa_nil)))) pa_nil)))) pss_nil)
  (pss_one (ps_ret (pv 0)))), ?_⟩
      refine q_when (et_B (ev_isiLT (ev_var rfl) (Dp.ext (hid_out S) hd) hc)) (fun hb H1 e1 => ?_) fun hb H1 e1 => ?_
      · have both : ∃ a xs ds, v = .ref a ∧ (SqL K H1 a xs ∨ SqT K H1 a xs) ∧ DpAll K (hid S H1) xs ds ∧ tupd d = .tuple (tupdAll ds) ∧ PyData.canLayAll0 ds = true ∧ PyData.depthAll ds ≤ n ∧ wideAll ds ≤ 40000 ∧ ds.length ≤ 40000 := by
          cases hd with
          | lst h1 h2 => exact ⟨_, _, _, rfl, .inl (SqL.ext h1 ((hid_out S).trans e1)), DpAll.ext (hid_ex e1) h2, by simp only [tupd], by simpa only [PyData.canLay0] using hc, by simp only [PyData.depth] at hn; omega, by simp only [wide] at hw; omega, by simp only [wide] at hw; omega⟩
          | tup h1 h2 => exact ⟨_, _, _, rfl, .inr (SqT.ext h1 ((hid_out S).trans e1)), DpAll.ext (hid_ex e1) h2, by simp only [tupd], by simpa only [PyData.canLay0] using hc, by simp only [PyData.depth] at hn; omega, by simp only [wide] at hw; omega, by simp only [wide] at hw; omega⟩
          | non => cases hb
          | bl => cases hb
          | int => cases hb
          | str => cases hb
        obtain ⟨a, xs, ds, rfl, hq, ha, ht, hc2, hn2, hw2, hl2⟩ := both
        have hl : xs.length = ds.length := DpAll.length ha
        have hw1 : ∀ x : V, wipe ((wipe (L2.start ["value", "part"] [V.ref a]) [1]).set 1 (some x)) [1] = wipe (L2.start ["value", "part"] [V.ref a]) [1] := fun x => rfl
        have he : ∀ i H2 D acc, i < xs.length → Ex H1 H2 → H1 D = none → H2 D = some (.lst acc) → EvP (tCall (spFixed K n) [] (fun _ _ _ => False) (tCons (tVar 1) tNil)) ((wipe (L2.start ["value", "part"] [V.ref a]) [1]).set 1 (some (xs.getD i .non))) H2 (fun u H3 => ∀ d', ds[i]? = some d' → Dp K (hid S (hide D H3)) u (tupd d')) := fun i H2 D acc hi e2 hD hD2 => by
          have hx : xs[i]? = some (xs.getD i .non) := by simp [List.getD, List.getElem?_eq_getElem hi]
          obtain ⟨di, hdi, hdp⟩ := DpAll.get ha hx
          obtain ⟨q1, q2, q3⟩ := all_at hdi
          refine ep_call (EvPs.of (ea_cons (ev_var rfl) ea_nil)) fun vs H3 e3 hvs Q' q => ?_
          subst hvs
          refine ⟨_, di, D :: S, rfl, (Here.cons (hS.up (e1.trans e2)) hD2).up e3, Dp.ext (hid_fresh hD (e2.trans e3)) hdp, q3 hc2, by omega, by omega, fun r H4 e4 hr4 => q r H4 e4 fun d' hd' => ?_⟩
          rw [hdi] at hd'
          cases hd'
          rw [hid_hide]
          exact hr4
        have fin : ∀ D H2, H1 D = none → Ex H1 H2 → (∃ acc : List V, H2 D = some (.lst acc) ∧ acc.length = xs.length ∧ ∀ (j : Nat) (u : V), acc[j]? = some u → ∀ d', ds[j]? = some d' → Dp K (hid S (hide D H2)) u (tupd d')) →
            ∃ p ys, [V.ref D] = [V.ref p] ∧ ((SqL K H2 p ys ∧ ∀ l, H2 l = none → Q (.ref l) (upd H2 l (.tup ys))) ∨ (SqT K H2 p ys ∧ Q (.ref p) H2)) := fun D H2 hD e2 ⟨acc, h1, h2, h3⟩ => by
          refine ⟨D, acc, rfl, .inl ⟨SqL.of h1, fun l hl2 => k _ _ (e1.trans (e2.trans (Ex.new hl2))) ?_⟩⟩
          rw [ht]
          refine .tup (SqT.of (hid_at ((hS.up (e1.trans e2)).not hl2) upd_same)) ?_
          rw [tupdAll_map]
          refine dpall_of (by rw [List.length_map]; omega) fun j u d' g1 g2 => ?_
          rw [List.getElem?_map, Option.map_eq_some_iff] at g2
          obtain ⟨d0, g3, rfl⟩ := g2
          have g4 := h3 j u g1 d0 g3
          rw [hid_hide] at g4
          exact Dp.ext (hid_ex (Ex.new hl2)) (Dp.ext hid_less g4)
        have up : ∀ i : Nat, Up (fun (u : V) H3 => ∀ d', ds[i]? = some d' → Dp K (hid S H3) u (tupd d')) := fun i u Ha Hb e p d' hd' => Dp.ext (hid_ex e) (p d' hd')
        have yat : ∀ i H2 x H3, i < xs.length → Ex H1 H2 → YAt xs i H2 x H3 → H3 = H2 ∧ x = xs.getD i .non := fun i H2 x H3 hi e2 y => ⟨y.1, by simp [List.getD, y.2]⟩
        rcases hq with hq | hq
        · refine .inl ⟨_, rfl, a, rfl, ⟨xs, hq⟩, ?_⟩
          exact ep_lc (walk_list (K := K) (a := a) (xs := xs)) (fun i => xs.getD i .non) (fun (i : Nat) u H3 => ∀ d', ds[i]? = some d' → Dp K (hid S H3) u (tupd d')) (fun H' e => SqL.ext hq e) yat (by omega) hw1 up he (fun (x : V) (H2 : Hp) => ∃ p ys, [x] = [V.ref p] ∧ ((SqL K H2 p ys ∧ ∀ l, H2 l = none → Q (.ref l) (upd H2 l (.tup ys))) ∨ (SqT K H2 p ys ∧ Q (.ref p) H2))) fin
        · refine .inr ⟨_, rfl, a, rfl, ⟨xs, hq⟩, ?_⟩
          exact ep_lc (walk_tup (K := K) (a := a) (xs := xs)) (fun i => xs.getD i .non) (fun (i : Nat) u H3 => ∀ d', ds[i]? = some d' → Dp K (hid S H3) u (tupd d')) (fun H' e => SqT.ext hq e) yat (by omega) hw1 up he (fun (x : V) (H2 : Hp) => ∃ p ys, [x] = [V.ref p] ∧ ((SqL K H2 p ys ∧ ∀ l, H2 l = none → Q (.ref l) (upd H2 l (.tup ys))) ∨ (SqT K H2 p ys ∧ Q (.ref p) H2))) fin
      · have ht : tupd d = d := by cases d <;> simp_all [isSeqD, tupd]
        exact s_ret (ev_var rfl) fun H2 e2 => k _ _ (e1.trans e2) (by rw [ht]; exact Dp.ext (hid_ex (e1.trans e2)) hd)
end

/-! ### what draws -/
/-- the pen at p: the cells, the index of the next one, the rest of a great one; b more draws can be made -/
def PenOk (H : Hp) (p : Addr) (b : Nat) : Prop := ∃ (c : Addr) (ns : List Int) (lap g : Int), H p = some (.lst [.ref c, .int lap, .int g]) ∧ H c = some (.lst (ns.map V.int)) ∧ c ≠ p ∧ ns.length ≤ 63 ∧ 0 ≤ lap ∧ lap + b ≤ 1000000 ∧ 0 ≤ g
theorem PenOk.less {H : Hp} {p : Addr} {b b' : Nat} (h : PenOk H p b) (l : b' ≤ b) : PenOk H p b' := by
  obtain ⟨c, ns, lap, g, h1, h2, h3, h4, h5, h6, h7⟩ := h
  exact ⟨c, ns, lap, g, h1, h2, h3, h4, h5, by omega, h7⟩
theorem PenOk.ext {H H' : Hp} {p : Addr} {b : Nat} (h : PenOk H p b) (e : Same H H') : PenOk H' p b := by
  obtain ⟨c, ns, lap, g, h1, h2, h3⟩ := h
  exact ⟨c, ns, lap, g, e _ _ h1, e _ _ h2, h3⟩
/-- all but the pen is as it was, and more may be there -/
structure SameP (p : Addr) (H H' : Hp) : Prop where
  ob : ∀ b o, b ≠ p → H b = some o → H' b = some o
  hd : ∀ r xs, H p = some (.lst (r :: xs)) → ∃ ys, H' p = some (.lst (r :: ys))
theorem SameP.refl (p : Addr) (H : Hp) : SameP p H H := ⟨fun _ _ _ h => h, fun _ xs h => ⟨xs, h⟩⟩
theorem SameP.upd {p : Addr} {r : V} {xs ys : List V} {H H' : Hp} (hp : H p = some (.lst (r :: xs))) (h : SameP p H H') : SameP p H (upd H' p (.lst (r :: ys))) := ⟨fun b u n e => by
  rw [upd_ne n]; exact h.ob b u n e, fun r' xs' e => by
  rw [hp] at e
  cases e
  exact ⟨ys, upd_same⟩⟩
theorem SameP.new {p q : Addr} {o : HO} {H H' : Hp} (h : SameP p H H') (hq : H' q = none) : SameP p H (L2.upd H' q o) := ⟨fun b u n e => by
  have e1 := h.ob b u n e
  rw [upd_ne (ne_of_none e1 hq)]; exact e1, fun r xs e => by
  obtain ⟨ys, e1⟩ := h.hd r xs e
  exact ⟨ys, by rw [upd_ne (ne_of_none e1 hq)]; exact e1⟩⟩
theorem SameP.trans {p : Addr} {H H1 H2 : Hp} (a : SameP p H H1) (b : SameP p H1 H2) : SameP p H H2 := ⟨fun c o n h => b.ob c o n (a.ob c o n h), fun r xs e => by
  obtain ⟨ys, e1⟩ := a.hd r xs e
  exact b.hd r ys e1⟩
theorem SameP.of {p : Addr} {H H' : Hp} (h : Same H H') : SameP p H H' := ⟨fun b o _ e => h b o e, fun _ xs e => ⟨xs, h _ _ e⟩⟩
/-- a draw: any number below many -/
def spDraw : Sp := fun vs H Q _ => ∃ (p : Addr) (m : Int) (b : Nat), vs = [.ref p, .int m] ∧ 0 < m ∧ m < 1073741824 ∧ PenOk H p (b + 1) ∧
  ∀ (r : Int) (H' : Hp), 0 ≤ r → r < m → SameP p H H' → PenOk H' p b → Q (.int r) H'
section
variable {P : Program} {w : World} {K : PySem.W.Frag} {mg : Str → Option Value} {base : Heap} {A : Ad}
theorem fst3 {a b c : V} : atI [a, b, c] 0 = some a := rfl
theorem eqv_nil (ns : List Int) : PyData.eqv (.list (ns.map PyData.int)) (.list []) = decide (ns = []) := by
  cases ns with
  | nil => rfl
  | cons n r => rfl
theorem dp_ints (K : PySem.W.Frag) (H : Hp) : ∀ ns : List Int, DpAll K H (ns.map V.int) (ns.map PyData.int)
  | [] => .nil
  | n :: r => .cons (.int n) (dp_ints K H r)
theorem canLay_ints : ∀ ns : List Int, PyData.canLayAll0 (ns.map PyData.int) = true
  | [] => rfl
  | n :: r => by
    show (PyData.canLay0 (.int n) && PyData.canLayAll0 (r.map PyData.int)) = true
    rw [canLay_ints r]; rfl
theorem depth_ints : ∀ ns : List Int, PyData.depthAll (ns.map PyData.int) ≤ 1
  | [] => by simp [PyData.depthAll]
  | n :: r => by
    have := depth_ints r
    simp [PyData.depthAll, PyData.depth] at *
    omega
theorem shaped_ints (ns : List Int) : SeqAt.shaped (.list (ns.map PyData.int)) = true := by
  have h1 := canLay_ints ns
  have h2 := depth_ints ns
  simp only [SeqAt.shaped, PyData.canLay0, PyData.depth, h1, Bool.true_and]
  exact decide_eq_true (by omega)
theorem mod_lt {a m : Int} (h : 0 < m) : 0 ≤ a % m ∧ a % m < m := ⟨Int.emod_nonneg _ (by omega), Int.emod_lt_of_pos _ h⟩
theorem mix_in {x : Int} : -(2 ^ 64) < x % 2147483563 ∧ x % 2147483563 < 2 ^ 64 := by
  have := mod_lt (a := x) (m := 2147483563) (by decide)
  omega
theorem mix_bd {x lap : Int} (l0 : 0 ≤ lap) (l1 : lap ≤ 1000000) : (x % 2147483563 * (2 * lap + 19001) + 170003 * lap * lap + 104711).natAbs < 2 ^ 64 := by
  have h := mod_lt (a := x) (m := 2147483563) (by decide)
  generalize x % 2147483563 = y at *
  have pr : 0 ≤ y * (2 * lap + 19001) ∧ y * (2 * lap + 19001) ≤ 2147483563 * 2019001 := ⟨Int.mul_nonneg h.1 (by omega), Int.mul_le_mul (by omega) (by omega) (by omega) (by decide)⟩
  have hq : 0 ≤ lap * lap ∧ lap * lap ≤ 1000000 * 1000000 := ⟨Int.mul_nonneg l0 l0, Int.mul_le_mul l1 l1 l0 (by decide)⟩
  rw [show (170003 : Int) * lap * lap = 170003 * (lap * lap) from Int.mul_assoc _ _ _]
  omega
theorem ok_draw (F : F10 K A) (T : T10 mg K A) : FnOk P w K mg base CX0 1 A.aDraw F.fDraw ["pen", "many"] spDraw := by
  refine F.FDraw.ok scDraw (fun vs H Q E h => ?_) (fun cdv Ar outer s H vs Q E hr h => ?_)
  · obtain ⟨p, m, b, rfl, _⟩ := h
    rfl
  · obtain ⟨p, m, b, rfl, m0, m1, ⟨c, ns, lap, g, hp, hc, ncp, hn, l0, l1, g0⟩, k⟩ := h
    have hu := hr.units
    refine ⟨_, (pss_cons (ps_if (pt_cmpR op_gt (pe_ix ix_list (pv 0) pe_int (fun _ _ => rfl)) pe_int (nomark _)) (pss_cons (ps_set (i := 2) scDraw.nd rfl (Or.inl rfl) (pe_op op_mod (pe_callTy call_int1 (by rfl) T.b_int (by decide +kernel) (pa_cons (pe_ix ix_list (pv 0) pe_int (fun _ _ => rfl)) pa_nil)) (pv 1)))
  (pss_cons (ps_asg (pe_op op_fdiv (pe_callTy call_int1 (by rfl) T.b_int (by decide +kernel) (pa_cons (pe_ix ix_list (pv 0) pe_int (fun _ _ => rfl)) pa_nil)) (pv 1)) (pg_sub (pv 0) pe_int set_list))
  (pss_one (ps_ret (pv 2))))) pss_nil)
  (pss_cons (ps_set (i := 3) scDraw.nd rfl (Or.inl rfl) (pe_ix ix_list (pv 0) pe_int (fun _ _ => rfl)))
  (pss_cons (ps_asg (pe_op op_add (pv 3) pe_int) (pg_sub (pv 0) pe_int set_list))
  (pss_cons (ps_set (i := 4) scDraw.nd rfl (Or.inl rfl) (pe_op op_add (pe_op op_mul pe_int (pv 3)) pe_int))
  (C8.pss_cut (ps_if (pt_cmpR (op_neD hu) (pe_ix ix_list (pv 0) pe_int (fun _ _ => rfl)) (pe_lst pa_nil) (nomark _)) (pss_one (ps_set (i := 4) scDraw.nd rfl (Or.inl rfl) (pe_ix ix_list (pe_ix ix_list (pv 0) pe_int (fun _ _ => rfl)) (pe_op op_mod (pe_callTy call_int1 (by rfl) T.b_int (by decide +kernel) (pa_cons (pv 3) pa_nil)) (pe_callB call_len_seq (by rfl) T.b_len (by decide +kernel) (pa_cons (pe_ix ix_list (pv 0) pe_int (fun _ _ => rfl)) pa_nil))) (fun _ _ => rfl)))) pss_nil)
  (C8.pss_cut (ps_if (PW.pt (pw_and (pt_cmpR op_lt (pv 3) (pe_callB call_len_seq (by rfl) T.b_len (by decide +kernel) (pa_cons (pe_ix ix_list (pv 0) pe_int (fun _ _ => rfl)) pa_nil)) (nomark _)) (pw_and1 (pt_cmpR op_ge (pe_callB call_abs (by rfl) T.b_abs (by decide +kernel) (pa_cons (pv 4) pa_nil)) (pe_op op_pow pe_int pe_int) (nomark _))))) (pss_cons (ps_set (i := 5) scDraw.nd rfl (Or.inl rfl) (pe_op op_add (pe_op op_mul pe_int (pe_op op_sub (pe_callB call_abs (by rfl) T.b_abs (by decide +kernel) (pa_cons (pv 4) pa_nil)) (pe_op op_pow pe_int pe_int))) (pe_callTy call_int1 (by rfl) T.b_int (by decide +kernel) (pa_cons (pe_cmpR op_lt (pv 4) pe_int (nomark _)) pa_nil))))
  (pss_cons (ps_asg (pe_op op_fdiv (pe_callTy call_int1 (by rfl) T.b_int (by decide +kernel) (pa_cons (pv 5) pa_nil)) (pv 1)) (pg_sub (pv 0) pe_int set_list))
  (pss_one (ps_ret (pe_op op_mod (pe_callTy call_int1 (by rfl) T.b_int (by decide +kernel) (pa_cons (pv 5) pa_nil)) (pv 1)))))) pss_nil)
  (pss_cons (ps_set (i := 6) scDraw.nd rfl (Or.inl rfl) (pe_op op_mod (pe_callTy call_int1 (by rfl) T.b_int (by decide +kernel) (pa_cons (pe_op op_pow (pe_op op_add (pe_op op_add (pe_op op_mod (pe_callTy call_int1 (by rfl) T.b_int (by decide +kernel) (pa_cons (pv 4) pa_nil)) pe_int) (pe_op op_mul pe_int (pv 3))) pe_int) pe_int) pa_nil)) pe_int))
  (pss_cons (ps_set (i := 6) scDraw.nd rfl (Or.inl rfl) (pe_op op_mod (pe_callTy call_int1 (by rfl) T.b_int (by decide +kernel) (pa_cons (pe_op op_pow (pe_op op_add (pe_op op_add (pe_op op_mul (pv 6) (pe_op op_add (pe_op op_mul pe_int (pv 3)) pe_int)) (pe_op op_mul (pe_op op_mul pe_int (pv 3)) (pv 3))) pe_int) pe_int) pa_nil)) pe_int))
  (pss_one (ps_ret (pe_op op_mod (pe_callTy call_int1 (by rfl) T.b_int (by decide +kernel) (pa_cons (pe_op op_fdiv (pv 6) pe_int) pa_nil)) (pv 1)))))))))))), ?_⟩
    -- if pen[2] > 0
    refine ⟨_, rfl, p, _, 2, _, rfl, rfl, SqL.of hp, rfl, _, _, rfl, rfl, _, rfl, ?_⟩
    refine ite2 (fun hg => ?_) (fun hg => ?_)
    · refine ⟨_, rfl, p, _, 2, _, rfl, rfl, SqL.of hp, rfl, .inl ⟨_, rfl, _, rfl, _, _, rfl, rfl, m0, ?_⟩⟩
      refine ⟨_, rfl, p, _, 2, _, rfl, rfl, SqL.of hp, rfl, .inl ⟨_, rfl, _, rfl, _, _, rfl, rfl, ⟨m0, m1⟩, ?_⟩⟩
      refine ⟨_, rfl, p, _, 2, 2, rfl, rfl, hp, rfl, _, rfl, ?_⟩
      exact k _ _ (mod_lt m0).1 (mod_lt m0).2 (SameP.upd hp (SameP.refl p H)) ⟨c, ns, lap, g / m, upd_same, by rw [upd_ne ncp]; exact hc, ncp, hn, l0, by omega, Int.ediv_nonneg g0 (by omega)⟩
    · -- lap = pen[1]; pen[1] = lap + 1; cell = ..
      refine ⟨_, rfl, p, _, 1, _, rfl, rfl, SqL.of hp, rfl, ?_⟩
      refine ⟨_, rfl, _, _, rfl, rfl, _, rfl, p, _, 1, 1, rfl, rfl, hp, rfl, ?_⟩
      have hp1 : (upd H p (.lst [.ref c, .int (lap + 1), .int g])) p = some (.lst [.ref c, .int (lap + 1), .int g]) := upd_same
      have hc1 : (upd H p (.lst [.ref c, .int (lap + 1), .int g])) c = some (.lst (ns.map V.int)) := by rw [upd_ne ncp]; exact hc
      refine ⟨_, rfl, _, _, rfl, rfl, .inl ⟨by decide, by decide⟩, _, _, rfl, rfl, ?_⟩
      -- if pen[0] != []: cell = pen[0][..]
      refine ⟨fun σ' H' => ∃ cl : Int, σ' = [some (.ref p), some (.int m), none, some (.int lap), some (.int cl), none, none] ∧ SameP p H H' ∧ H' p = some (.lst [.ref c, .int (lap + 1), .int g]) ∧ H' c = some (.lst (ns.map V.int)), ?_, ?_⟩
      · refine ⟨_, rfl, p, _, 0, _, rfl, rfl, SqL.of hp1, rfl, (by show 0 ≤ sizeLine; decide), fun q hq => ?_⟩
        have npq : p ≠ q := ne_of_none hp1 hq
        have ncq : c ≠ q := ne_of_none hc1 hq
        have hp2 : ∀ o, (upd (upd H p (.lst [.ref c, .int (lap + 1), .int g])) q o) p = some (.lst [.ref c, .int (lap + 1), .int g]) := fun o => by rw [upd_ne npq]; exact hp1
        have hc2 : ∀ o, (upd (upd H p (.lst [.ref c, .int (lap + 1), .int g])) q o) c = some (.lst (ns.map V.int)) := fun o => by rw [upd_ne ncq]; exact hc1
        have sm : ∀ o, SameP p H (upd (upd H p (.lst [.ref c, .int (lap + 1), .int g])) q o) := fun o => (SameP.upd hp (SameP.refl p H)).new hq
        refine ⟨.list (ns.map PyData.int), .list [], .lst (SqL.of (hc2 _)) (dp_ints K _ ns), .lst (SqL.of upd_same) .nil, shaped_ints ns, rfl, _, rfl, ?_⟩
        rw [eqv_nil]
        by_cases e : ns = []
        · rw [decide_eq_true e]
          exact ⟨_, rfl, sm _, hp2 _, hc2 _⟩
        · rw [decide_eq_false e]
          have hl : 0 < ns.length := List.length_pos_iff.mpr e
          have hj := mod_lt (a := lap) (m := (ns.length : Int)) (by omega)
          obtain ⟨j, hj2⟩ : ∃ j : Nat, lap % (ns.length : Int) = (j : Int) := ⟨(lap % (ns.length : Int)).toNat, by omega⟩
          have hjl : j < ns.length := by omega
          have at_ : atI (ns.map V.int) (lap % (ns.length : Int)) = some (V.int ns[j]) := by
            rw [hj2]
            exact atI_nat (by rw [List.getElem?_map, List.getElem?_eq_getElem hjl]; rfl)
          refine ⟨_, rfl, p, _, 0, _, rfl, rfl, SqL.of (hp2 _), rfl, _, rfl, .inl ⟨_, rfl, _, rfl, p, _, 0, _, rfl, rfl, SqL.of (hp2 _), rfl, _, _, rfl, .inl (SqL.of (hc2 _)), _, _, rfl, rfl, ?_, ?_⟩⟩
          · rw [List.length_map]; omega
          · rw [List.length_map]
            exact ⟨c, _, _, _, rfl, rfl, SqL.of (hc2 _), at_, ⟨ns[j], rfl, sm _, hp2 _, hc2 _⟩⟩
      · rintro σ' H' ⟨cl, rfl, sm, hp3, hc3⟩
        have pen3 : PenOk H' p b := ⟨c, ns, lap + 1, g, hp3, hc3, ncp, hn, by omega, by omega, g0⟩
        refine ⟨fun σ'' H'' => σ'' = [some (.ref p), some (.int m), none, some (.int lap), some (.int cl), none, none] ∧ H'' = H', ?_, ?_⟩
        · refine ⟨_, rfl, _, rfl, p, _, 0, _, rfl, rfl, SqL.of hp3, rfl, _, _, rfl, .inl (SqL.of hc3), _, _, rfl, rfl, _, rfl, ?_⟩
          refine ite2 (fun h1 => ?_) (fun h1 => iteF ⟨rfl, rfl⟩)
          refine ⟨_, rfl, _, rfl, _, _, rfl, rfl, ⟨by decide, by decide, by decide⟩, _, _, rfl, rfl, _, rfl, ?_⟩
          refine ite2 (fun h2 => ?_) (fun h2 => ⟨rfl, rfl⟩)
          have ha : (10 : Int) ^ 18 ≤ (if cl < 0 then -cl else cl) := of_decide_eq_true h2
          refine ⟨_, rfl, _, rfl, _, _, rfl, rfl, ⟨by decide, by decide, by decide⟩, _, _, rfl, rfl, _, _, rfl, rfl, .inl ⟨by decide, by decide⟩, ?_⟩
          refine ⟨_, rfl, _, _, rfl, rfl, .inr ⟨_, rfl, _, _, rfl, rfl, ?_⟩⟩
          have hg0 : 0 ≤ 2 * ((if cl < 0 then -cl else cl) - (10 : Int) ^ 18) + (if decide (cl < 0) = true then 1 else 0) := by
            by_cases z : cl < 0
            · simp only [z, if_true, decide_true] at *; omega
            · simp only [z, if_false, decide_false, Bool.false_eq_true] at *; omega
          refine ⟨_, rfl, .inl ⟨_, rfl, _, rfl, _, _, rfl, rfl, ⟨m0, m1⟩, _, rfl, p, _, 2, 2, rfl, rfl, hp3, rfl, ?_⟩⟩
          refine ⟨_, rfl, .inl ⟨_, rfl, _, rfl, _, _, rfl, rfl, m0, ?_⟩⟩
          exact k _ _ (mod_lt m0).1 (mod_lt m0).2 (SameP.upd hp sm) ⟨c, ns, lap + 1, _, upd_same, by rw [upd_ne ncp]; exact hc3, ncp, hn, by omega, by omega, Int.ediv_nonneg hg0 (by omega)⟩
        · rintro σ'' H'' ⟨rfl, rfl⟩
          have hl1 : lap ≤ 1000000 := by omega
          have c1 := mod_lt (a := cl) (m := 2147483587) (by decide)
          have hq : 0 ≤ lap * lap ∧ lap * lap ≤ 1000000 * 1000000 := ⟨Int.mul_nonneg l0 l0, Int.mul_le_mul hl1 hl1 l0 (by decide)⟩
          have e170 : (170003 : Int) * lap * lap = 170003 * (lap * lap) := Int.mul_assoc _ _ _
          refine ⟨_, rfl, .inl ⟨_, rfl, _, _, rfl, rfl, (by show (0 : Int) < 2147483587; decide), _, rfl, _, _, rfl, rfl, .inl ⟨by decide, by decide⟩, _, _, rfl, rfl, _, _, rfl, rfl, _, _, rfl, rfl, ⟨by decide, by decide, ?_⟩, .inl ⟨_, rfl, _, _, rfl, rfl, (by show (0 : Int) < 2147483563; decide), ?_⟩⟩⟩
          · omega
          refine ⟨_, rfl, _, rfl, _, _, rfl, rfl, .inl ⟨by decide, by decide⟩, _, _, rfl, rfl, _, _, rfl, rfl, .inl mix_in, _, rfl, _, _, rfl, rfl, .inl ⟨by decide, by decide⟩, _, rfl, _, _, rfl, rfl, .inr ⟨by omega, by omega⟩, _, _, rfl, rfl, _, _, rfl, rfl, _, _, rfl, rfl, ⟨by decide, by decide, mix_bd l0 hl1⟩, ?_⟩
          refine .inl ⟨_, rfl, _, _, rfl, rfl, (by show (0 : Int) < 2147483549; decide), ?_⟩
          refine ⟨_, rfl, _, _, rfl, rfl, ⟨by decide, by decide⟩, .inl ⟨_, rfl, _, rfl, _, _, rfl, rfl, m0, ?_⟩⟩
          exact k _ _ (mod_lt m0).1 (mod_lt m0).2 sm pen3
theorem SameP.hide {p : Addr} {H H' : Hp} (h : SameP p H H') : Ex (OwnL.hide p H) (OwnL.hide p H') := fun b o e => by
  obtain ⟨n, q⟩ := hide_of e
  rw [hide_get n]
  exact h.ob b o n q
/-- a pick: any of what there is beside the pen -/
def spPick (K : PySem.W.Frag) : Sp := fun vs H Q _ => ∃ (p l : Addr) (xs : List V) (b : Nat), vs = [.ref p, .ref l] ∧ (SqL K (OwnL.hide p H) l xs ∨ SqT K (OwnL.hide p H) l xs) ∧ 0 < xs.length ∧ xs.length < 1000000 ∧ PenOk H p (b + 1) ∧
  ∀ (i : Nat) (v : V) (H' : Hp), xs[i]? = some v → SameP p H H' → PenOk H' p b → Q v H'
theorem ok_pick (F : F10 K A) (T : T10 mg K A) : FnOk P w K mg base CX0 2 A.aPick F.fPick ["pen", "some"] (spPick K) := by
  have bDraw : Binds K F.fDraw ["pen", "many"] [] := F.FDraw.binds (fun _ _ _ _ _ _ us hl => match us, hl with | [_, _], _ => rfl)
  have GDraw := ok_draw (P := P) (w := w) (mg := mg) (base := base) F T
  refine F.FPick.ok scPick (fun vs H Q E h => ?_) (fun cdv Ar outer s H vs Q E hr h => ?_)
  · obtain ⟨p, l, xs, b, rfl, _⟩ := h
    rfl
  · obtain ⟨p, l, xs, b, rfl, hl, h0, h1, hp, k⟩ := h
    have hr1 := hr
    refine ⟨_, (pss_one (ps_ret (pe_ix (ix_list.or ix_tup) (pv 1) (pe_call GDraw hr1 rfl T.gDraw T.kDraw bDraw .nil pass0 (pa_cons (pv 0) (pa_cons (pe_callB call_len_seq (by rfl) T.b_len (by decide +kernel) (pa_cons (pv 1) pa_nil)) pa_nil))) (fun _ _ => rfl)))), ?_⟩
    have hs : SqL K H l xs ∨ SqT K H l xs := hl.imp (fun h => SqL.ext h (hide_ext p H)) fun h => SqT.ext h (hide_ext p H)
    refine ⟨_, rfl, _, rfl, _, rfl, l, xs, rfl, hs, p, xs.length, b, rfl, by omega, by omega, hp, fun r H' r0 r1 sm hp' => ?_⟩
    obtain ⟨j, rfl⟩ : ∃ j : Nat, r = (j : Int) := ⟨r.toNat, by omega⟩
    have hj : j < xs.length := by omega
    have at_ : atI xs (j : Int) = some xs[j] := atI_nat (List.getElem?_eq_getElem hj)
    have fin : Q xs[j] H' := k j _ H' (List.getElem?_eq_getElem hj) sm hp'
    rcases hl with hl | hl
    · exact .inl ⟨l, xs, _, _, rfl, rfl, SqL.ext hl (Ex.trans sm.hide (hide_ext p H')), at_, fin⟩
    · exact .inr ⟨l, xs, _, _, rfl, rfl, SqT.ext hl (Ex.trans sm.hide (hide_ext p H')), at_, fin⟩
end
section
variable {P : Program} {w : World} {K : PySem.W.Frag} {mg : Str → Option Value} {base : Heap} {A : Ad}
/-! ### integers within bounds; names -/
def inB (d : PyData) (a b : Int) : Bool := match d with
  | .int i => decide (a ≤ i) && decide (i ≤ b)
  | _ => false
def spWithin (K : PySem.W.Frag) : Sp := fun vs H Q _ => ∃ v d a b, vs = [v, .int a, .int b] ∧ Dp K H v d ∧ d.canLay0 = true ∧ RetV (.bl (inB d a b)) H Q
theorem rv_isN {x : V} {H : Hp} : RV (fun (x y : V) H (Q : VK) => y = .non ∧ Q (.bl (decide (x = .non))) H) x .non H (.bl (decide (x = .non))) := fun H1 _ Q q => ⟨rfl, q H1 (Ex.refl H1)⟩
theorem ok_isWithin (F : F10 K A) (T : T10 mg K A) : FnOk P w K mg base CX0 2 A.aIsWithin F.fIsWithin ["value", "least", "most"] (spWithin K) := by
  have bIsInteger : Binds K F.fIsInteger ["value"] [] := F.FIsInteger.binds (fun _ _ _ _ _ _ us hl => match us, hl with | [_], _ => rfl)
  have GIsInteger := ok_isInteger (P := P) (w := w) (mg := mg) (base := base) F T
  refine F.FIsWithin.ok scIsWithin (fun vs H Q E h => ?_) (fun cdv Ar outer s H vs Q E hr h => ?_)
  · obtain ⟨v, d, a, b, rfl, _⟩ := h
    rfl
  · obtain ⟨v, d, a, b, rfl, hd, hc, k⟩ := h
    have hr1 := hr
    refine ⟨_, (pss_one (ps_ret (pe_and (pe_call GIsInteger hr1 rfl T.gIsInteger T.kIsInteger bIsInteger .nil pass0 (pa_cons (pv 0) pa_nil)) (pe_and (pe_or (pe_cmpR op_isN (pv 1) pe_non (nomark _)) (pe_one (pe_cmpR op_ge (pv 0) (pv 1) (nomark _)))) (pe_one (pe_or (pe_cmpR op_isN (pv 2) pe_non (nomark _)) (pe_one (pe_cmpR op_le (pv 0) (pv 2) (nomark _))))))))), ?_⟩
    by_cases hi : isIntD d = true
    · obtain ⟨i, rfl⟩ : ∃ i, d = .int i := by cases d <;> simp_all [isIntD]
      cases hd
      refine s_ret (v := .bl (inB (.int i) a b)) (ev_is (ev_andV (a := true) (b := decide (a ≤ i) && decide (i ≤ b)) (ev_call (ea_cons (ev_var rfl) ea_nil) (spv_chk (φ := isIntD) (.int i) rfl)) fun _ => ev_is (ev_andV (a := decide (a ≤ i)) (b := decide (i ≤ b)) (ev_is (ev_orV (a := false) (b := decide (a ≤ i)) (ev_op (ev_var rfl) ev_c rv_isN) fun _ => ev_op (ev_var rfl) (ev_var rfl) rv_I0) (by simp)) fun _ => ev_is (ev_orV (a := false) (b := decide (i ≤ b)) (ev_op (ev_var rfl) ev_c rv_isN) fun _ => ev_op (ev_var rfl) (ev_var rfl) rv_I0) (by simp)) rfl) (by simp [inB])) k
    · have hf : isIntD d = false := by simpa using hi
      have hb : inB d a b = false := by cases d <;> simp_all [isIntD, inB]
      refine s_ret (v := .bl (inB d a b)) (ev_is (ev_andV (a := isIntD d) (b := false) (ev_call (ea_cons (ev_var rfl) ea_nil) (spv_chk (φ := isIntD) hd hc)) fun h => absurd h hi) (by rw [hb, hf]; rfl)) k
/-! names -/
def letterB (c : Nat) : Bool := decide (c ∈ ("abcdefghijklmnopqrstuvwxyz" : Str).cps.toList)
def nameB (x : Str) : Bool := (decide ((1 : Int) ≤ x.length) && decide ((x.length : Int) ≤ 8)) && (List.range x.cps.size).all fun i => letterB (x.cps.getD i 0)
theorem el_lcS {σ : L2.St} {H : Hp} {x : Str} {tl te : TE} {t : TT} {j : Nat} {vs : List Nat} (f : Nat → Bool) (v : Nat → V) (h : Ev tl σ H (.str x)) (hz : x.cps.size ≤ 40000) (hw : ∀ z, wipe ((wipe σ vs).set j (some z)) vs = wipe σ vs)
    (ht : ∀ (i : Nat) c H1, Ex H H1 → x.cps[i]? = some c → EvT t ((wipe σ vs).set j (some (.str ⟨#[c]⟩))) H1 (f i)) (he : ∀ (i : Nat) c H1, Ex H H1 → x.cps[i]? = some c → f i = true → Ev te ((wipe σ vs).set j (some (.str ⟨#[c]⟩))) H1 (v i)) :
    EvL (tLc (iStr tl) (gName j) t te vs) σ H (Evl.given x.cps.size f v) := fun H0 e Q q => h H0 e _ fun H1 e1 => ⟨x, rfl, fun Dl hD =>
  lc_it walk_str (Cw H1 f v Dl) ⟨hD, Ex.new hD, upd_same⟩ (fun _ _ _ _ => trivial) (fun i z H' H2 hi p y => by
    obtain ⟨rfl, c, hc, rfl⟩ := y
    exact ⟨hw _, cw_turn p (by omega) (ht i c H1 (e.trans e1) hc) fun hf => he i c H1 (e.trans e1) hc hf⟩) fun H' p => q Dl H' (fresh_back e1 p.1) (e1.trans p.2.1) p.2.2⟩
theorem et_yes {σ : L2.St} {H : Hp} : EvT tYes σ H true := fun H1 _ Q q => q H1 (Ex.refl H1)
theorem ev_all {σ : L2.St} {H : Hp} {te : TE} {bs : List Bool} (h : EvL te σ H (bs.map V.bl)) : Ev (tCB (rAll K) (tCons te tNil)) σ H (.bl (bs.all id)) := fun H1 e Q q => h H1 e _ fun p H2 hp e2 h2 => ⟨p, bs, rfl, SqL.of h2, q H2 e2⟩
theorem rv_inS {c : Nat} {z : Str} {H : Hp} : RV rInS (.str ⟨#[c]⟩) (.str z) H (.bl (decide (c ∈ z.cps.toList))) := fun H1 _ Q q => ⟨c, z, rfl, rfl, q H1 (Ex.refl H1)⟩
theorem rv_notInS {c : Nat} {z : Str} {H : Hp} : RV rNotInS (.str ⟨#[c]⟩) (.str z) H (.bl (!decide (c ∈ z.cps.toList))) := fun H1 _ Q q => ⟨c, z, rfl, rfl, q H1 (Ex.refl H1)⟩
theorem given_all (n : Nat) (v : Nat → V) : Evl.given n (fun _ => true) v = (List.range n).map v := by
  unfold Evl.given
  rw [List.filter_eq_self.mpr (fun _ _ => rfl)]
def spName (K : PySem.W.Frag) : Sp := fun vs H Q _ => ∃ x : Str, vs = [.str x] ∧ x.length ≤ 40000 ∧ PyData.strOk x = true ∧ RetV (.bl (nameB x)) H Q
theorem ok_isName (F : F10 K A) (T : T10 mg K A) : FnOk P w K mg base CX0 1 A.aIsName F.fIsName ["value"] (spName K) := by
  refine F.FIsName.ok scIsName (fun vs H Q E h => ?_) (fun cdv Ar outer s H vs Q E hr h => ?_)
  · obtain ⟨x, rfl, _⟩ := h
    rfl
  · obtain ⟨x, rfl, hz, hk, k⟩ := h
    obtain ⟨tL, hLet⟩ := T.gLETTERS
    have hz2 : x.cps.size ≤ 40000 := hz
    refine ⟨_, (pss_one (ps_ret (pe_and (pe_callB call_isi (by rfl) T.b_isinstance (by decide +kernel) (pa_cons (pv 0) (pa_cons (pe_bltn (v := .ty "str") (u := .type "str") rfl T.b_str (by decide +kernel) rfl) pa_nil))) (pe_and (pe_chain op_le op_le pe_int (pe_callB call_len (by rfl) T.b_len (by decide +kernel) (pa_cons (pv 0) pa_nil)) pe_int) (pe_one (pe_callB (cr_all rfl) (by rfl) T.b_all (by decide +kernel) (pa_cons (pe_lc (own := [("letter", 1)]) rfl scIsName.nd (pi_str (pv 0)) (blkOk_by (own := [("letter", 1)]) (N := ["value", "letter"]) (sc := defScope (top 5)) (by decide +kernel)) (fun _ _ _ _ _ => (pg_name (i := 1) scIsName.nd rfl (Or.inl rfl))) (fun _ _ _ _ _ => pts_nil) (fun _ _ _ _ _ => (pe_cmpR op_inS (pv 1) (pe_glob (v := .str "abcdefghijklmnopqrstuvwxyz") rfl hLet ⟨_, rfl⟩) (by rfl)))) pa_nil))))))), ?_⟩
    have len : ∀ H1, Ex H H1 → RC (fun (xs : List V) (H : Hp) (Q : VK) => ∃ x n, xs = [x] ∧ LenV K x H n ∧ Q (.int n) H) [.str x] H1 (.int (x.length : Nat)) := fun H1 _ H2 _ Q q => ⟨.str x, x.length, rfl, ⟨sz_of (by omega), rfl⟩, q H2 (Ex.refl H2)⟩
    have all : ∀ σ : L2.St, σ = [some (.str x), none] → EvL (tLc (iStr (tVar 0)) (gName 1) tYes (tOp rInS (tVar 1) (tC (.str "abcdefghijklmnopqrstuvwxyz"))) [1]) σ H (((List.range x.cps.size).map fun i => letterB (x.cps.getD i 0)).map V.bl) := fun σ hσ => by
      subst hσ
      have q := el_lcS (σ := [some (.str x), none]) (H := H) (x := x) (tl := tVar 0) (te := tOp rInS (tVar 1) (tC (.str "abcdefghijklmnopqrstuvwxyz"))) (t := tYes) (j := 1) (vs := [1]) (fun _ => true) (fun i => .bl (letterB (x.cps.getD i 0))) (ev_var rfl) hz2 (fun z => rfl) (fun i c H1 e hc => et_yes) (fun i c H1 e hc _ => by
        have hg : x.cps.getD i 0 = c := by rw [Array.getD_eq_getD_getElem?, hc]; rfl
        rw [hg]
        exact ev_op (ev_var rfl) ev_c rv_inS)
      rw [given_all] at q
      rw [List.map_map]
      exact q
    refine s_ret (v := .bl (nameB x)) (ev_is (ev_andV (a := true) (b := nameB x) (ev_cb (ea_cons (ev_var rfl) (ea_cons ev_c ea_nil)) (rc_isi (.str x) (isi_str (.str x) hk))) fun _ => ev_is (ev_andV (a := decide ((1 : Int) ≤ x.length) && decide ((x.length : Int) ≤ 8)) (b := (List.range x.cps.size).all fun i => letterB (x.cps.getD i 0)) (ev_chain ev_c (ev_cb (ea_cons (ev_var rfl) ea_nil) (len H (Ex.refl H))) rv_I0 fun _ => ⟨ev_c, rv_I0⟩) fun _ => ev_is (ev_all (all _ rfl)) (by rw [List.all_map]; rfl)) rfl) (by simp)) k
end
section
variable {P : Program} {w : World} {K : PySem.W.Frag} {mg : Str → Option Value} {base : Heap} {A : Ad}
/-! ### the pen -/
theorem cut63 (ns : List Int) : ∃ ms : List Int, cutV (ns.map V.int) none (some 63) = ms.map V.int ∧ ms.length ≤ 63 := by
  refine ⟨(ns.drop (HT.sIx (ns.map V.int).length 0 none)).take (HT.sIx (ns.map V.int).length (ns.map V.int).length (some 63) - HT.sIx (ns.map V.int).length 0 none), ?_, ?_⟩
  · unfold cutV
    rw [List.map_take, List.map_drop]
  · rw [List.length_take, List.length_drop]
    have h : HT.sIx (ns.map V.int).length (ns.map V.int).length (some 63) ≤ 63 := by
      simp [HT.sIx]
      omega
    omega
def spPen (K : PySem.W.Frag) : Sp := fun vs H Q _ => ∃ (s : Addr) (ns : List Int), vs = [.ref s] ∧ SqL K H s (ns.map V.int) ∧ ∀ p H', Ex H H' → H p = none → PenOk H' p 1000000 → Q (.ref p) H'
theorem ok_pen (F : F10 K A) (T : T10 mg K A) : FnOk P w K mg base CX0 1 A.aPen F.fPen ["script"] (spPen K) := by
  refine F.FPen.ok scPen (fun vs H Q E h => ?_) (fun cdv Ar outer s H vs Q E hr h => ?_)
  · obtain ⟨p, ns, rfl, _⟩ := h
    rfl
  · obtain ⟨c, ns, rfl, hc, k⟩ := h
    obtain ⟨ms, hms, lms⟩ := cut63 ns
    refine ⟨_, (pss_one (ps_ret (pe_lst (pa_cons (pe_callTy call_list_of (by rfl) T.b_list (by decide +kernel) (pa_cons (pe_slice sl_list (pv 0) po_none (po_some pe_int)) pa_nil)) (pa_cons pe_int (pa_cons pe_int pa_nil)))))), ?_⟩
    have cp : EvP (tCB (rListS K) (tCons (tSl (rSlL K) (tVar 0) tNoPart (tPart (tC (V.int 63)))) tNil)) [some (.ref c)] H fun v H2 => ∃ p, v = .ref p ∧ H p = none ∧ H2 p = some (.lst (ms.map V.int)) := by
      refine EvP.ofL (fun H1 e1 Q' q => ?_)
      refine el_sl (ev_var rfl) eo_none (eo_some ev_c) (ex_l e1 hc) H1 (Ex.refl H1) _ fun p H2 hp e2 h2 => ?_
      exact ⟨p, _, rfl, .inl (sq_of h2), fun l hl => q l _ (fresh_back e2 hl) (e2.trans (Ex.new hl)) (by rw [upd_same, hms])⟩
    refine sr_ret (ep_lst (ep_cons (fun v H5 H6 e6 ⟨q, h5, h6, h7⟩ => ⟨q, h5, h6, e6 q _ h7⟩) cp (EvPs.of (ea_cons ev_c (ea_cons ev_c ea_nil)))) (fun vs H5 ⟨u, us, q1, _, q2⟩ => by subst q1; subst q2; exact Nat.le_of_ble_eq_true rfl) (fun vs H5 H6 e6 ⟨u, us, q1, ⟨q, h5, h6, h7⟩, q2⟩ => ⟨u, us, q1, ⟨q, h5, h6, e6 q _ h7⟩, q2⟩)) fun v H6 e6 ⟨t, vs, hv, ht, h6, u, us, q1, ⟨q, hu, hq, hq6⟩, q2⟩ => ?_
    subst q1
    subst q2
    subst hu
    subst hv
    refine k t H6 e6 ht ⟨q, ms, 0, 0, h6, hq6, fun e => ?_, lms, Int.le_refl _, by omega, Int.le_refl _⟩
    subst e
    rw [h6] at hq6
    cases ms <;> simp at hq6
/-! ### calls of the classes -/
theorem kbn_of {fd : FuncData} {ps ks : List Str} {n : Nat} {g : List Value → List Value → List Value} {gV : List V → List V → List V} (h : ∀ us ws : List Value, us.length = n → ws.length = ks.length → bindArgs fd ⟨us, ks.zip ws⟩ = pure (ps.zip (g us ws))) (hr : ∀ {vs : List V} {us : List Value} {zs : List V} {ws : List Value}, Vals vs us → Vals zs ws → Vals (gV vs zs) (g us ws)) : KBn K fd ps n ks g gV :=
  ⟨fun s us ws _ l1 l2 => BindsTo.of_eq (h us ws l1 l2), hr⟩
end
end K31

/-! OwnSort: sorted(d) of a dict whose keys are ints, any number of them. -/
namespace OwnL
open PySem PySem.Spec PyProof.Rows L2
/-- sorted(d): the keys are ints -/
def rSortDI : List V → Hp → VK → Prop := fun args H Q => ∃ (d : Addr) (m : List (L2.Key × V)) (ns : List Int), args = [V.ref d] ∧ Rd H d (.dK m) ∧ m.map Prod.fst = ns.map Sum.inl ∧ ns.length ≤ 100000 ∧
  ∀ (zs : List Int) (l : Addr), zs.Perm ns → zs.Pairwise (· ≤ ·) → H l = none → Q (.ref l) (upd H l (.lst (zs.map V.int)))
theorem cr_sortDI {X : Cx} (calm : X.calm = true) : CallR X (.builtin "sorted") rSortDI := by
  intro pins s σ H args us Q I r ⟨d, m, ns, ea, hd, hm, hN, q⟩
  subst ea
  obtain rfl := Vals.ref1 r
  obtain ⟨_, lo, vs, rel, dd⟩ := dk_rd I.hok hd
  obtain ⟨ep, hat⟩ := dd.dictAt
  have keys : vs.map Prod.fst = ns.map Sum.inl := rel.keys.symm.trans hm
  have len : vs.length = ns.length := by simpa using congrArg List.length keys
  have line : vs.length ≤ sizeLine := by rw [len]; exact Nat.le_trans hN (by decide)
  refine Calls.call_function_entry kind_sorted plain_sorted entry_sorted (args_sorted1 _) ?_
  unfold Builtin.«sorted»
  refine wpAny_bind (m := checkCount "sorted" 1 1 _) (wpAny_pure ?_)
  refine wpAny_bind (PySem.W.kdu_collect (A := X.A.in1) (PySem.W.kdl_dict (knd := mixKind X.prog X.w) (kvs := vs) (ep := ep) lo) (I.ok.hd calm) hat line fun h1 tk acc old got => ?_)
  have la : acc.toList.length = ns.length := by simp [got.1, len]
  have nums : IntsAre acc.toList ns := ints_each la fun j v e => by
    obtain ⟨k, x, g1, g2⟩ := got.2 j v (by simpa using e)
    have g3 : (ns.map Sum.inl)[j]? = some k := by rw [← keys, List.getElem?_map, g1]; rfl
    rw [List.getElem?_map, Option.map_eq_some_iff] at g3
    obtain ⟨y, g4, rfl⟩ := g3
    rcases keyIs_shape (show keyIs (Sum.inl y) v = true from g2) with ⟨i, t, z1, z2⟩ | ⟨z, t, z1, z2⟩
    · cases z1
      exact ⟨y, t, g4, z2⟩
    · cases z1
  have I1 : Inv X pins σ H { s with heap := h1, toks := tk } := I.kept old
  refine wpAny_bind (wpAny_newList ?_ (by rw [la]; exact Nat.le_trans hN (by decide)))
  have hoL : (h1.push (seqObj "list" acc.toList.toArray 0)).get? h1.objs.size = some (seqObj "list" acc.toList.toArray 0) := Heap.get?_push_size _ rfl
  show wpAny _ _ _ _ _ { s with heap := h1.push (seqObj "list" acc.toList.toArray 0), toks := tk }
  refine wpAny_bind (wpAny_holding (wpAny_call_entry slot_list_sort ⟨_, hoL, rfl⟩ entry_list_sort
    (SrtO.list_sort_ord (s := { s with heap := h1.push (seqObj "list" acc.toList.toArray 0), toks := tk }) SrtO.swo_int hoL (by rw [la]; exact Nat.le_trans hN (by decide)) (fun h2 => SrtO.ints_sortable nums h2) fun out a1 a2 => ⟨_, rfl, ?_⟩) (args_list_sort _)))
  obtain ⟨k1, k2, k3⟩ := SrtO.ints_out nums a1 a2
  obtain ⟨e2, at2⟩ := sortedHeap_at (vs := acc.toList) (out := out.toArray) hoL
  have fits : ((out.map SrtO.iv).map V.int).length ≤ sizeLine := by
    rw [List.length_map, k2.length_eq]
    exact Nat.le_trans hN (by decide)
  refine wpAny_pure ⟨_, rfl, .ref h1.objs.size, upd H h1.objs.size (.lst ((out.map SrtO.iv).map V.int)), I1.laid (t' := tk) (fun b u e => ?_) (Nat.le_refl _)
    (show ObjOk X.prog X.w _ _ _ (.lst ((out.map SrtO.iv).map V.int)) from ⟨fits, out, e2, vals_of_ints k1, at2⟩), rfl, q _ _ k2 k3 (I1.hok.fresh (Nat.le_refl _))⟩
  have below : b < h1.objs.size := Heap.lt_size e
  rw [sortedHeap_old (Nat.ne_of_lt below) (by rw [size_push']; exact Nat.lt_succ_of_lt below)]
  exact Heap.get?_push_of_some _ e
end OwnL

/-! OwnExt: xs.extend(a tuple). -/
namespace OwnL
open PySem PySem.Spec PyProof.Rows L2 PyProof
theorem extend_tup (l : Addr) (mine : Array Value) (n : Nat) (b : Addr) (more : Array Value) (k : Nat) (dct : Option Addr) (sl : Array (Option Value)) (short : ¬(!mine.isEmpty && Builtin.List.listTooLong (mine.size + more.size)) = true) (z1 : mine.size ≤ sizeLine) (z2 : mine.size + more.size ≤ sizeLine + 1) :
    Meets (Builtin.«list.extend» ⟨[.ref l, .ref b], []⟩) (fun _ R s => s.heap.get? l = some { cls := .type "list", dict := none, data := .seq mine n, slots := #[] } ∧ s.heap.get? b = some { cls := .type "tuple", dict := dct, data := .seq more k, slots := sl } ∧
      R (.ok (.ret Value.none)) { s with heap := s.heap.update l (Obj.mapSeq fun x => x ++ more), toks := s.toks }) :=
  .of_wp fun prog w A R s h => by
    obtain ⟨hp, g, d, tk, os⟩ := s
    obtain ⟨at1, at2, h⟩ := h
    have f1 := AutoSeq1.idx_int
    have f2 := AutoSeq1.sub_tuple_tuple
    have f3 := AutoSeq1.sub_list_list
    have f4 := AutoSeq1.sub_tuple_list
    have f5 := AutoSeq1.sub_list_tuple
    have z3 : (mine ++ more).size ≤ sizeLine + 1 := by rw [Array.size_append]; exact z2
    wp_walk using (wpAny_updateSeq at1 rfl (hz := z1) (_hz' := z3)), AutoSeq1.wpAny_loadPart' at1, AutoSeq1.wpAny_loadPart' at2
    exact ⟨_, rfl, h⟩
/-- xs.extend(t): t is a tuple -/
def rExtT (K : PySem.W.Frag) : V → List V → Hp → VK → Prop := fun x args H Q => ∃ l b xs zs, x = .ref l ∧ args = [.ref b] ∧ H l = some (.lst xs) ∧ SqT K H b zs ∧ xs.length + zs.length ≤ 100000 ∧ Q .non (upd H l (.lst (xs ++ zs)))
theorem mt_extT {X : Cx} : MtM X "list.extend" (rExtT X.K) := by
  intro pins s σ H x args v us Q I rx rv ⟨l, b, xs, zs, e1, e2, at1, at2, lim, q⟩
  subst e1
  subst e2
  cases rx
  obtain ⟨u, rfl, ru⟩ := rv.one
  cases ru
  obtain ⟨_, its, n, r1, _, here⟩ := I.lstM at1
  obtain ⟨jts, r2, ⟨⟨c, dct, dat, sl⟩, there, hc, k, hd⟩, _⟩ := I.tuple at2
  subst hc
  subst hd
  have h1 := r1.length
  have h2 := r2.length
  have lim2 : its.length + jts.length ≤ sizeLine := by rw [← h1, ← h2]; exact Nat.le_trans lim (by decide)
  have sz : its.toArray.size + jts.toArray.size ≤ sizeLine := by simpa using lim2
  have short : ¬ (!its.toArray.isEmpty && Builtin.List.listTooLong (its.toArray.size + jts.toArray.size)) = true := by
    rw [notLongL sz, Bool.and_false]
    exact Bool.false_ne_true
  refine call_meets F.slot_list_extend ⟨_, here, rfl⟩ F.entry_list_extend (F.args_list_extend_2 _ _)
    (extend_tup l its.toArray n b jts.toArray k dct sl short (by rw [List.size_toArray]; omega) (by omega)) ⟨here, there, ?_⟩
  refine ⟨.non, _, I.lset (its' := its ++ jts) at1 here (by simp) (r1.append r2) ?_, rfl, q⟩
  rw [List.length_append, h1, h2]
  exact lim2
end OwnL

/-! OwnSortS: sorted(xs) of pairs (a text, an int). -/
namespace OwnL
open PySem PySem.Spec PyProof.Rows PyProof L2 Srt
/-- v is a pair of a text and an int -/
def TxtPair (h : Heap) (v : Value) (x : Str) (y : Int) : Prop := ∃ a o t u n, v = .ref a ∧ h.get? a = some o ∧ o.cls = .type "tuple" ∧ o.data = .seq #[.str x t, .int y u] n
theorem TxtPair.up {h h' : Heap} {v : Value} {x : Str} {y : Int} (p : TxtPair h v x y) (k : ∀ b o, h.get? b = some o → o.cls = .type "tuple" → h'.get? b = some o) : TxtPair h' v x y := by
  obtain ⟨a, o, t, u, n, e1, e2, e3, e4⟩ := p
  exact ⟨a, o, t, u, n, e1, k _ _ e2 e3, e3, e4⟩
/-- the texts' rank -/
structure Rank (S : List Str) (ρ : Str → Int) : Prop where
  lt : ∀ x ∈ S, ∀ y ∈ S, decide (x.cps.toList < y.cps.toList) = decide (ρ x < ρ y)
  inj : ∀ x ∈ S, ∀ y ∈ S, ρ x = ρ y → x = y
section
variable {prog : Program} {w : World} {A : Around} {E : Value → Shared → Prop} {s : Shared} {ρ : Str → Int} {S : List Str}
theorem txt_cmp {vs : List Value} {f : Value → Str} {g : Value → Int} (R : Rank S ρ) (hf : ∀ v ∈ vs, f v ∈ S) (hp : ∀ v ∈ vs, TxtPair s.heap v (f v) (g v)) : SrtO.Cmp prog w A s (tuples' true) (fun p => p.1 ∈ vs) (SrtO.lt2 fun v u => SrtO.lexB (ρ (f v), g v) (ρ (f u), g u)) := by
  intro p q m1 m2
  have h1 := hp _ m1
  have h2 := hp _ m2
  have s1 := hf _ m1
  have s2 := hf _ m2
  show wpAny (model prog w) A (keyLt' (tuples' true) p.1 q.1) (fun r s' => s' = s ∧ r = SrtO.lexB (ρ (f p.1), g p.1) (ρ (f q.1), g q.1)) (fun _ _ => False) s
  unfold SrtO.lexB
  generalize f p.1 = x at h1 s1 ⊢
  generalize g p.1 = y at h1 ⊢
  generalize f q.1 = x' at h2 s2 ⊢
  generalize g q.1 = y' at h2 ⊢
  obtain ⟨a, o, t, u, n, e, ho, hc, hd⟩ := h1
  obtain ⟨a', o', t', u', n', e', ho', hc', hd'⟩ := h2
  rw [e, e']
  refine PySem.W.kat_lt ho hd ho' hd' ?_
  show PySem.W.KatLex prog w A true (decide (2 < 2)) _ [(.str x t, .str x' t'), (.int y u, .int y' u')] 0 s
  refine PySem.W.kat_cons (SeqAt.EqAt.str_str x t x' t' prog w _ _ ?_)
  refine PySem.W.kat_go (fun e1 => ?_) (fun e1 => ?_)
  · have ex : ρ x = ρ x' := by
      have q : x = x' := by simpa using e1
      rw [q]
    refine PySem.W.kat_yes (PySem.W.kat_cons (SeqAt.EqAt.int_int y u y' u' prog w _ _ ?_))
    refine PySem.W.kat_go (fun e2 => ?_) (fun e2 => ?_)
    · have ey : y = y' := by simpa using e2
      have e3 : (if ρ x = ρ x' then decide (y < y') else decide (ρ x < ρ x')) = false := by
        rw [if_pos ex, ey]
        exact decide_eq_false (Int.lt_irrefl _)
      exact PySem.W.kat_yes (PySem.W.kat_nil ⟨rfl, e3.symm⟩)
    · have e3 : (if ρ x = ρ x' then decide (y < y') else decide (ρ x < ρ x')) = decide (y < y') := if_pos ex
      refine PySem.W.kat_no (PySem.W.kat_one _ _ (PyProof.Rows.lt_int ?_))
      exact (show s = s ∧ decide (y < y') = (if ρ x = ρ x' then decide (y < y') else decide (ρ x < ρ x')) from ⟨rfl, e3.symm⟩)
  · have ex : ¬ ρ x = ρ x' := fun z => by
      have q := R.inj _ s1 _ s2 z
      simp [q] at e1
    have e3 : (if ρ x = ρ x' then decide (y < y') else decide (ρ x < ρ x')) = decide (x.cps.toList < x'.cps.toList) := by
      rw [if_neg ex, R.lt _ s1 _ s2]
    exact PySem.W.kat_no (oneLt_str ⟨rfl, e3.symm⟩)
theorem txt_firsts {h : Heap} : ∀ {vs : List Value}, (∀ v ∈ vs, ∃ x y, TxtPair h v x y) → ∃ fs : List Value, PySem.W.KatTups h vs fs ∧ fs.length = vs.length ∧ ∀ f ∈ fs, ∃ x t, f = Value.str x t
  | [], _ => ⟨[], PySem.W.KatTups.nil, rfl, fun _ hm => by simp at hm⟩
  | v :: vs, hp => by
    obtain ⟨fs, h1, h2, h3⟩ := txt_firsts (vs := vs) fun u hm => hp u (List.mem_cons_of_mem _ hm)
    obtain ⟨x, y, a, o, t, u, n, rfl, ho, hc, hd⟩ := hp v List.mem_cons_self
    refine ⟨.str x t :: fs, PySem.W.KatTups.cons ho hc hd rfl h1, by simp [h2], fun f hm => ?_⟩
    rcases List.mem_cons.mp hm with rfl | hm
    · exact ⟨x, t, rfl⟩
    · exact h3 f hm
theorem txt_sortable {a : Addr} {vs : List Value} {f : Value → Str} {g : Value → Int} (R : Rank S ρ) (h0 : 0 < vs.length) (hf : ∀ v ∈ vs, f v ∈ S) (hp : ∀ v ∈ vs, TxtPair s.heap v (f v) (g v)) (ha : ∀ o, s.heap.get? a = some o → o.cls ≠ .type "tuple") :
    SrtO.SortableO prog w A s a vs fun v u => SrtO.lexB (ρ (f v), g v) (ρ (f u), g u) := by
  intro h' keep
  have hp2 : ∀ v ∈ vs, TxtPair h' v (f v) (g v) := fun v hm => (hp v hm).up fun b o e c => keep b o (fun z => by subst z; exact ha o e c) e
  obtain ⟨fs, h1, h2, h3⟩ := txt_firsts fun v hm => ⟨_, _, hp2 v hm⟩
  refine ⟨tuples' true, fun Q E hq => ?_, txt_cmp R hf hp2⟩
  refine PySem.W.kat_kind (T := .type "str") h1 (by omega) (fun z hm => ?_) (by rfl) ?_
  · obtain ⟨x, t, rfl⟩ := h3 z hm
    exact PySem.W.Looks.now
  · have e : (Value.type "str" != Value.type "tuple") = true := by first | decide +kernel | rfl | decide
    rw [e]
    exact hq
end
/-- sorted(xs): xs holds pairs of a text (of S) and an int -/
def rSortTx (K : PySem.W.Frag) (S : List Str) (ρ : Str → Int) : List V → Hp → VK → Prop := fun args H Q => ∃ (a : Addr) (xs : List V) (f : V → Str) (g : V → Int), args = [V.ref a] ∧ SqL K H a xs ∧ (∀ x ∈ xs, f x ∈ S ∧ ∃ t, x = V.ref t ∧ H t = some (.tup [.str (f x), .int (g x)])) ∧
  ∀ ys p, ys.Perm xs → ys.Pairwise (fun x y => ρ (f x) ≤ ρ (f y)) → H p = none → Q (.ref p) (upd H p (.lst ys))
theorem cr_sortTx {X : Cx} {S : List Str} {ρ : Str → Int} (R : Rank S ρ) : CallR X (.builtin "sorted") (rSortTx X.K S ρ) := by
  intro pins s σ H args us Q I r ⟨a, xs, f, g, ea, hs, hx, q⟩
  subst ea
  obtain rfl := Vals.ref1 r
  obtain ⟨its, rv, hl, hz⟩ := I.list hs
  obtain ⟨e1, e2⟩ := refs_back rv fun x m => by
    obtain ⟨_, t, e, _⟩ := hx x m
    exact ⟨t, e⟩
  have back : ∀ v ∈ its, backV v ∈ xs := fun v hv => by rw [e1]; exact List.mem_map.mpr ⟨v, hv, rfl⟩
  have tp : ∀ v ∈ its, TxtPair s.heap v (f (backV v)) (g (backV v)) := fun v hv => by
    obtain ⟨t, rfl⟩ := e2 v hv
    obtain ⟨_, t', e, ht⟩ := hx _ (back _ hv)
    cases e
    obtain ⟨_, jts, r2, o, ho, hc, n, hd⟩ := I.hok _ _ ht
    obtain ⟨u1, u2, rfl, ri, rj⟩ := vals2 r2
    obtain ⟨t1, rfl⟩ := ri
    obtain ⟨t2, rfl⟩ := rj
    exact ⟨t, o, t1, t2, n, rfl, ho, hc, hd⟩
  refine SrtO.sorted_ord (SrtO.swo_lex fun v => (ρ (f (backV v)), g (backV v))) hl.isList (by rw [← rv.length]; exact hz) (fun h2 h₁ b hb kk => ?_) fun out a1 a2 => ?_
  · refine txt_sortable (s := { s with heap := h₁ }) R (by omega) (fun v hv => (hx _ (back v hv)).1) (fun v hv => (tp v hv).up fun c o e _ => (kk c o e).2) fun o e => ?_
    have e' : some o = some (seqObj "list" its.toArray 0) := e.symm.trans hb
    cases e'
    intro c
    exact absurd (Value.type.inj c) (by decide)
  · have h3 : ∀ u ∈ out, ∃ c, u = Value.ref c := fun u hu => e2 u (a2.perm.mem_iff.mp hu)
    obtain ⟨n, hn⟩ := sortedAll_at s.heap its out.toArray
    have pm : (out.map backV).Perm xs := by
      rw [e1]
      exact a2.perm.map backV
    refine ⟨.ref (s.heap.objs.size + 1), upd H (s.heap.objs.size + 1) (.lst (out.map backV)), I.laid (t' := s.toks) (fun b o e => sortedAll_old e) (Nat.le_succ _) ⟨?_, out, n, vals_back h3, hn⟩, rfl, q _ _ pm ?_ (I.hok.fresh (Nat.le_succ _))⟩
    · rw [pm.length_eq]
      exact hz
    · rw [List.pairwise_map]
      exact a1.imp fun {x y} h => by
        have q := SrtO.lexB_no.mp h
        simp only at q
        omega
end OwnL

/-! OwnSumT: sum of a tuple of ints. -/
namespace OwnL
open PySem PySem.Spec PyProof.Rows L2
def rSumT (K : PySem.W.Frag) : List V → Hp → VK → Prop := fun vs H Q => ∃ (a : Addr) (ns : List Int), vs = [V.ref a] ∧ SqT K H a (ns.map V.int) ∧ Q (.int ns.sum) H
theorem cr_sumT {X : Cx} (hc : X.calm = true) : CallR X (.builtin "sum") (rSumT X.K) := by
  intro pins s σ H vs us Q I r ⟨a, ns, e0, hs, q⟩
  subst e0
  obtain ⟨its, rv, ht, _⟩ := I.tuple hs
  rw [Vals.ref1 r]
  obtain ⟨xs, e⟩ := rv.ints.allInts.items
  have hn : numsOf (intItems xs).toList = ns := by
    rw [← e]
    exact rv.ints.numsOf
  rw [nums_intItems] at hn
  rw [e] at ht
  refine PySem.W.ktm_sumG (I.ok.hd hc) ht fun h' tk t' hk => ?_
  rw [preSum_eq, List.take_of_length_le (by simp), hn]
  exact ⟨.int _, H, I.kept hk, ⟨_, rfl⟩, q⟩
end OwnL

/-! ### lambdas with one parameter that has a written default, called without arguments -/
namespace OwnL
open PySem PySem.Spec PyProof.Rows L2 LamX
section
variable {X : Cx} {pins : List (Addr × Obj)} {σ : L2.St} {H HZ : Hp} {s s1 : Shared}
/-- x() of such a lambda, in the def that got it -/
theorem pe_actW {CXg : CXT} {Eg : XK} {Ng : List Str} {qg : Str} {sg : Scope} {g f c' : Addr} {cdg pm ctv : Value} {params : Arguments} {body : Expr} {scope : Scope} {k i : Nat} {a : Str} {pn : List (Addr × Obj)} {xe : Value → Shared → Prop} {W : WX} {E : XK} {tb : TE} {p1 p2 : Pos}
    (I : Inv X pins σ H s) (L : LamS X.env.scope scope) (hf : s.heap.get? f = some (PySem.W.kla_obj "<lambda>" (X.env.qual ++ "<lambda>") params body scope (cloFrom X.env.cells scope.names []) pm c' ctv)) (hfn : H f = none) (hfr : f ∉ frs X.stack)
    (hbind : bindArgs (PySem.W.kla_fn "<lambda>" (X.env.qual ++ "<lambda>") params body scope (cloFrom X.env.cells scope.names []) pm (.ref c') ctv) ⟨[], []⟩ = pure [])
    (tk : Takes ((cxOf CXg X.prog X.w X.K X.mg X.base Ng qg sg g cdg X.A X.stack s H Eg).tr pn xe) W) (hr : Room (k + 1) (X.A.deeper (envOfC qg sg s.heap.objs.size g cdg)))
    (hbody : ∀ (A : Around) (outer : List Env) (s : Shared) (H : Hp), Room k (A.deeper (lamEnv X scope s.heap.objs.size f c')) → PE (lamCx X A outer s H E scope f c') body tb)
    (hN : Ng[i]? = some a) (hv : Vis sg a) (hd : (a == ("__debug__" : Str)) = false := by decide) (hcd : (a == ("__classdict__" : Str)) = false := by decide) :
    PE ((cxOf CXg X.prog X.w X.K X.mg X.base Ng qg sg g cdg X.A X.stack s H Eg).tr pn xe) (.Call (.Name a p1) [] [] p2)
      (fun σZ HZ Q => σZ[i]? = some (some (.ref f)) ∧ HZ c' = some (CodeO c' (X.env.qual ++ "<lambda>")) ∧ (∀ cls d H', E cls d H' → W cls d σZ H') ∧ tb σ HZ Q) := by
  refine ⟨fun pinsZ sZ σZ HZ Q IZ ⟨hs, hc, hW, ht⟩ => ?_⟩
  refine wpAny_Call_Name_kw (thn ((pe_var (pos := p1) (i := i) hN hv hd hcd).run pinsZ sZ σZ HZ (fun v H1 => v = .ref f ∧ H1 = HZ) IZ ⟨.ref f, hs, rfl, rfl⟩) fun u s1 ⟨v, H1, I1, r1, q1⟩ => ?_)
  obtain ⟨rfl, rfl⟩ := q1
  obtain rfl : u = Value.ref f := r1
  have un : Un (frs X.stack) [] H H1 s.heap s1.heap := I1.base
  have fo : s1.heap.get? f = some (PySem.W.kla_obj "<lambda>" (X.env.qual ++ "<lambda>") params body scope (cloFrom X.env.cells scope.names []) pm c' ctv) := un.keep f _ hf hfn hfr (fun z => nomatch (show f ∈ ([] : List Addr) from z))
  refine PySem.W.callWith_F0 ⟨_, _, _, _, fo⟩ ?_
  obtain ⟨⟨oc, vs, t, hoc, hdc, hvc⟩, _, _⟩ := I1.hok c' _ hc
  have run : codeAny (model X.prog X.w) (X.A.deeper (envOfC qg sg s.heap.objs.size g cdg)) (.call (.ref f) ⟨[], []⟩) (CR (L2.CX X.prog X.w) (envOfC qg sg s.heap.objs.size g cdg :: X.stack) X.prog X.w H1 s1 Q E) s1 := by
    refine PySem.W.kla_callFunE hr.depth fo rfl L.co L.gen rfl ⟨c', oc, vs, t, rfl, hoc, hdc, hvc⟩ ?_
    rw [hbind]
    refine wpAny_pure (wpAny_newFunctionEnv (fun y hy => (L.own y hy).2) (fun y hy => absurd hy (by simp)) (fun g1 hns hsb => ⟨I1.nolimit.fresh _ hsb, ?_⟩) L.kind)
    show codeAny _ _ (.expr body (lamEnv X scope s1.heap.objs.size f c')) _ _
    have kp : ∀ b o, s1.heap.get? b = some o → g1.get? b = some o := fun b o e => hsb.extBut b o (Nat.ne_of_lt (Heap.lt_size e)) (Heap.get?_push_of_some _ e)
    have J : Inv (lamCx X (X.A.deeper (envOfC qg sg s.heap.objs.size g cdg)) (envOfC qg sg s.heap.objs.size g cdg :: X.stack) s1 H1 E scope f c') [] σ H1 { s1 with heap := g1, toks := s1.toks + ([] : List (Str × Value)).length } :=
      lam_start2 I L I1.env0 hr.hd un hns kp
    exact PySem.W.kla_codeExpr (wpAny_mono ((hbody _ _ s1 H1 (hr.deeper _)).run [] _ _ H1 Q J ht) (fun v s' ⟨w', H', J', rv, q⟩ => ⟨w', H', J'.os, J'.bare, J'.base, J'.hok, rv, q⟩) fun e s' hq => hq)
  refine wpAny_call (codeAny_mono run fun r s' hq => ?_)
  cases r with
  | error e => exact tk e s' (XE.of_call I1 (fun cls d Hx h => hW cls d Hx h) hq)
  | ok fl =>
    cases fl with
    | ret u => exact I1.after hq
    | next => exact False.elim hq
    | brk => exact False.elim hq
    | cont => exact False.elim hq
/-- x() of such a lambda, in the def that got it -/
theorem pe_actDW {CXg : CXT} {Eg : XK} {Ng : List Str} {qg : Str} {sg : Scope} {g f c' D : Addr} {cdg pm ctv : Value} {params : Arguments} {body : Expr} {scope : Scope} {a0 : Str} {iv : Int} {k i : Nat} {a : Str} {pn : List (Addr × Obj)} {xe : Value → Shared → Prop} {W : WX} {E : XK} {tb : TE} {p1 p2 : Pos}
    (I : Inv X pins σ H s) (L : LamD X.env.scope scope a0) (na : ∀ i : Nat, X.N[i]? ≠ some a0) (hf : s.heap.get? f = some (lamO (.ref D) (X.env.qual ++ "<lambda>") params body scope (cloFrom X.env.cells scope.names []) pm c' ctv)) (hfn : H f = none) (hfr : f ∉ frs X.stack)
    (hbind : ∀ t : Tok, ∃ kk, bindArgs (lamF (.ref D) (X.env.qual ++ "<lambda>") params body scope (cloFrom X.env.cells scope.names []) pm (.ref c') ctv) ⟨[], []⟩ = seqItems? (.ref D) >>= kk ∧ kk (some #[.int iv t]) = pure [(a0, .int iv t)])
    (tk : Takes ((cxOf CXg X.prog X.w X.K X.mg X.base Ng qg sg g cdg X.A X.stack s H Eg).tr pn xe) W) (hr : Room (k + 1) (X.A.deeper (envOfC qg sg s.heap.objs.size g cdg)))
    (hbody : ∀ (A : Around) (outer : List Env) (s : Shared) (H : Hp), Room k (A.deeper (lamEnv X scope s.heap.objs.size f c')) → PE (lamCx X A outer s H E scope f c') body tb)
    (hN : Ng[i]? = some a) (hv : Vis sg a) (hd : (a == ("__debug__" : Str)) = false := by decide) (hcd : (a == ("__classdict__" : Str)) = false := by decide) :
    PE ((cxOf CXg X.prog X.w X.K X.mg X.base Ng qg sg g cdg X.A X.stack s H Eg).tr pn xe) (.Call (.Name a p1) [] [] p2)
      (fun σZ HZ Q => σZ[i]? = some (some (.ref f)) ∧ (HZ c' = some (CodeO c' (X.env.qual ++ "<lambda>")) ∧ HZ D = some (.tup [.int iv])) ∧ (∀ cls d H', E cls d H' → W cls d σZ H') ∧ tb σ HZ Q) := by
  refine ⟨fun pinsZ sZ σZ HZ Q IZ ⟨hs, ⟨hc, hD⟩, hW, ht⟩ => ?_⟩
  refine wpAny_Call_Name_kw (thn ((pe_var (pos := p1) (i := i) hN hv hd hcd).run pinsZ sZ σZ HZ (fun v H1 => v = .ref f ∧ H1 = HZ) IZ ⟨.ref f, hs, rfl, rfl⟩) fun u s1 ⟨v, H1, I1, r1, q1⟩ => ?_)
  obtain ⟨rfl, rfl⟩ := q1
  obtain rfl : u = Value.ref f := r1
  have un : Un (frs X.stack) [] H H1 s.heap s1.heap := I1.base
  have fo : s1.heap.get? f = some (lamO (.ref D) (X.env.qual ++ "<lambda>") params body scope (cloFrom X.env.cells scope.names []) pm c' ctv) := un.keep f _ hf hfn hfr (fun z => nomatch (show f ∈ ([] : List Addr) from z))
  refine PySem.W.callWith_F0 ⟨_, _, _, _, fo⟩ ?_
  obtain ⟨⟨oc, vs, t, hoc, hdc, hvc⟩, _, _⟩ := I1.hok c' _ hc
  obtain ⟨_, its, rits, oD, gD, cD, nD, dD⟩ := I1.hok D _ hD
  obtain ⟨tD, rfl⟩ : ∃ t, its = [.int iv t] := by
    cases rits with
    | cons r rr =>
      cases rr
      obtain ⟨t, rfl⟩ := r
      exact ⟨t, rfl⟩
  obtain ⟨kk, b1, b2⟩ := hbind tD
  have run : codeAny (model X.prog X.w) (X.A.deeper (envOfC qg sg s.heap.objs.size g cdg)) (.call (.ref f) ⟨[], []⟩) (CR (L2.CX X.prog X.w) (envOfC qg sg s.heap.objs.size g cdg :: X.stack) X.prog X.w H1 s1 Q E) s1 := by
    refine PySem.W.kla_callFunE hr.depth fo rfl L.co L.gen rfl ⟨c', oc, vs, t, rfl, hoc, hdc, hvc⟩ ?_
    rw [b1]
    refine wpAny_bind (wpAny_seqItems gD dD ?_)
    rw [b2]
    refine wpAny_pure (wpAny_newFunctionEnv (fun y hy => (L.own y hy).2) (fun y hy => by rw [List.mem_singleton.mp hy]; exact L.par) (fun g1 hns hsb => ⟨I1.nolimit.fresh _ hsb, ?_⟩) L.kind)
    show codeAny _ _ (.expr body (lamEnv X scope s1.heap.objs.size f c')) _ _
    have kp : ∀ b o, s1.heap.get? b = some o → g1.get? b = some o := fun b o e => hsb.extBut b o (Nat.ne_of_lt (Heap.lt_size e)) (Heap.get?_push_of_some _ e)
    have J : Inv (lamCx X (X.A.deeper (envOfC qg sg s.heap.objs.size g cdg)) (envOfC qg sg s.heap.objs.size g cdg :: X.stack) s1 H1 E scope f c') [] σ H1 { s1 with heap := g1, toks := s1.toks + ([(a0, Value.int iv tD)] : List (Str × Value)).length } :=
      lam_startD I L na I1.env0 hr.hd un hns kp
    exact PySem.W.kla_codeExpr (wpAny_mono ((hbody _ _ s1 H1 (hr.deeper _)).run [] _ _ H1 Q J ht) (fun v s' ⟨w', H', J', rv, q⟩ => ⟨w', H', J'.os, J'.bare, J'.base, J'.hok, rv, q⟩) fun e s' hq => hq)
  refine wpAny_call (codeAny_mono run fun r s' hq => ?_)
  cases r with
  | error e => exact tk e s' (XE.of_call I1 (fun cls d Hx h => hW cls d Hx h) hq)
  | ok fl =>
    cases fl with
    | ret u => exact I1.after hq
    | next => exact False.elim hq
    | brk => exact False.elim hq
    | cont => exact False.elim hq
end
/-- a def that calls what it got: TT: what it makes of the lambda's reading; what the call leans on stays where more is there -/
def GivesW (X : Cx) (Ng : List Str) (x : Str) (sg : Scope) (g : Addr) (cdg : Value) (bg : List Stmt) (a : Str) (TT : (XK → Hp → VK → Prop) → Hp → VK → Prop) : Prop :=
  ∀ (f : Addr) (φ : Hp → Prop) (s : Shared) (H : Hp) (Q : VK) (tl : XK → Hp → VK → Prop),
    (∀ (W : WX) (pn : List (Addr × Obj)) (xe : Value → Shared → Prop) (E : XK) (p1 p2 : Pos), Takes ((cxOf C8.CX0 X.prog X.w X.K X.mg X.base Ng x sg g cdg X.A X.stack s H C8.E0).tr pn xe) W →
      PE ((cxOf C8.CX0 X.prog X.w X.K X.mg X.base Ng x sg g cdg X.A X.stack s H C8.E0).tr pn xe) (.Call (.Name a p1) [] [] p2) (fun σZ HZ Q => σZ[0]? = some (some (.ref f)) ∧ φ HZ ∧ (∀ cls d H', E cls d H' → W cls d σZ H') ∧ tl E HZ Q)) →
    (∀ Ha Hb : Hp, (∀ b o, Ha b = some o → Hb b = some o) → φ Ha → φ Hb) → φ H → TT tl H Q →
    ∃ t, PSs (cxOf C8.CX0 X.prog X.w X.K X.mg X.base Ng x sg g cdg X.A X.stack s H C8.E0).nox bg t ∧ t { nx := fun _ H' => Q .non H', rt := Q } (L2.start Ng [.ref f]) H
section
variable {X : Cx}
/-- x(lambda: body) -/
theorem pe_lam0W {T : List (Addr × Str)} {TT : (XK → Hp → VK → Prop) → Hp → VK → Prop} {x a : Str} {g c P : Addr} {k : Nat} {pg : Arguments} {bg : List Stmt} {sg : Scope} {dV kV doc pm cdv ct oc : Value} {an od : Option Addr} {osl : Array (Option Value)} {Ng : List Str}
    {params : Arguments} {body : Expr} {scope : Scope} {t : XK → TE} {p lpos pos : Pos} (hg : Gl X x) (hm : X.mg x = some (.ref g)) (hk : PySem.W.keepIn X.K (.ref g) = true)
    (lk : X.K.lookup g = some ⟨oc, od, .func (PySem.W.fnOf x x pg bg sg dV kV doc pm an cdv ct), osl⟩) (hcg : PySem.W.codeIn X.K cdv x = true) (hb : L2.Binds X.K (PySem.W.fnOf x x pg bg sg dV kV doc pm an cdv ct) [a] []) (Sg : FnScope Ng [a] sg) (hNg : Ng[0]? = some a) (hva : Vis sg a)
    (hG : GivesW X Ng x sg g cdv bg a TT)
    (TB : TabB X.base X.mg c P) (hcode : X.env.code = .ref c) (hmT : (P, X.env.qual ++ "<lambda>") ∈ T) (hu : ∀ p ∈ T, p.1 = P → p.2 = X.env.qual ++ "<lambda>") (hr : Room (k + 2) X.A) (L : LamS X.env.scope scope) (hdef : defaultsOf params X.env = ([], []))
    (hbind : ∀ (q : Str) (cl : List (Str × Addr)) (pm cv ctv : Value), bindArgs (PySem.W.kla_fn "<lambda>" q params body scope cl pm cv ctv) ⟨[], []⟩ = pure [])
    (hbody : ∀ (A : Around) (outer : List Env) (s : Shared) (H : Hp) (E : XK) (f c' : Addr), Room k (A.deeper (lamEnv X scope s.heap.objs.size f c')) → PE (lamCx X A outer s H E scope f c') body (t E))
    (hdb : (x == ("__debug__" : Str)) = false := by decide) (hd : (a == ("__debug__" : Str)) = false := by decide) (hcd : (a == ("__classdict__" : Str)) = false := by decide) :
    PE X (.Call (.Name x p) [.Lambda params body scope lpos] [] pos) (tLam T TT t) := by
  refine ⟨fun pins s σ H Q I ⟨hT, h⟩ => wpAny_Call_Name_kw (ld_glob I hg hm ?_ hdb)⟩
  refine PySem.W.callWith_K (h₀ := X.base) I.ok.mod.kin hk ?_ (by rfl) (by rfl)
  show wpAny _ _ (spliced ((false, eval (.Lambda params body scope lpos) X.env) :: backTo pos (starEach [] X.env))) _ _ s
  refine Calls.spliced_cons (lam_make2 I TB hcode hmT hu hT hdef (L.has I.ok) fun f c' pm' ctv H1 s' I1 eN T1 hf hfn hfr hco => Calls.spliced_nil ⟨I1.kIn, ?_⟩)
  have run : codeAny (model X.prog X.w) X.A (.call (.ref g) ⟨[.ref f], []⟩) (CR C8.CX0 X.stack X.prog X.w H1 s' Q C8.E0) s' := by
    refine run_ofS (N := Ng) (ps := [a]) (us := [.ref f]) (vs := [.ref f]) lk hcg Sg hr I1.env0 (hb s' [.ref f] I1.kIn rfl) (.cons rfl .nil) rfl fun hr' => ?_
    obtain ⟨t', ht', hq'⟩ := hG f (fun HZ => HZ c' = some (CodeO c' (X.env.qual ++ "<lambda>"))) s' H1 Q (fun E H' Q' => t E σ H' Q') (fun W pn xe E p1 p2 tk =>
      pe_actW (i := 0) I1 L hf hfn hfr (hbind _ _ _ _ _) tk hr' (fun A outer s H hr2 => hbody A outer s H E f c' hr2) hNg hva hd hcd) (fun Ha Hb e h => e _ _ h) hco (h H1 eN T1)
    exact ⟨t', ht'.nox, hq'⟩
  refine wpAny_call (codeAny_mono run fun r s2 hq => ?_)
  match r, hq with
  | .error e, hq => exact (show False from hq).elim
  | .ok (.ret u), hq => exact I1.after hq
/-- x(lambda a0=i: body) -/
theorem pe_lamDW {T : List (Addr × Str)} {TT : (XK → Hp → VK → Prop) → Hp → VK → Prop} {x a a0 : Str} {iv : Int} {dx : Sem Value} {g c P : Addr} {k : Nat} {pg : Arguments} {bg : List Stmt} {sg : Scope} {dV kV doc pm cdv ct oc : Value} {an od : Option Addr} {osl : Array (Option Value)} {Ng : List Str}
    {params : Arguments} {body : Expr} {scope : Scope} {t : XK → TE} {p lpos pos : Pos} (hg : Gl X x) (hm : X.mg x = some (.ref g)) (hk : PySem.W.keepIn X.K (.ref g) = true)
    (lk : X.K.lookup g = some ⟨oc, od, .func (PySem.W.fnOf x x pg bg sg dV kV doc pm an cdv ct), osl⟩) (hcg : PySem.W.codeIn X.K cdv x = true) (hb : L2.Binds X.K (PySem.W.fnOf x x pg bg sg dV kV doc pm an cdv ct) [a] []) (Sg : FnScope Ng [a] sg) (hNg : Ng[0]? = some a) (hva : Vis sg a)
    (hG : GivesW X Ng x sg g cdv bg a TT)
    (TB : TabB X.base X.mg c P) (hcode : X.env.code = .ref c) (hmT : (P, X.env.qual ++ "<lambda>") ∈ T) (hu : ∀ p ∈ T, p.1 = P → p.2 = X.env.qual ++ "<lambda>") (hr : Room (k + 2) X.A) (L : LamD X.env.scope scope a0) (na : ∀ i : Nat, X.N[i]? ≠ some a0)
    (hdef : defaultsOf params X.env = ([dx], [])) (hx : ∀ {M : Model} {A : Around} {E Q : Value → Shared → Prop} {s : Shared}, (∀ t tk, Q (.int iv t) { s with toks := tk }) → wpAny M A dx Q E s)
    (hbind : ∀ (D : Addr) (q : Str) (cl : List (Str × Addr)) (pm cv ctv : Value) (t : Tok), ∃ kk, bindArgs (lamF (.ref D) q params body scope cl pm cv ctv) ⟨[], []⟩ = seqItems? (.ref D) >>= kk ∧ kk (some #[.int iv t]) = pure [(a0, .int iv t)])
    (hbody : ∀ (A : Around) (outer : List Env) (s : Shared) (H : Hp) (E : XK) (f c' : Addr), Room k (A.deeper (lamEnv X scope s.heap.objs.size f c')) → PE (lamCx X A outer s H E scope f c') body (t E))
    (hdb : (x == ("__debug__" : Str)) = false := by decide) (hd : (a == ("__debug__" : Str)) = false := by decide) (hcd : (a == ("__classdict__" : Str)) = false := by decide) :
    PE X (.Call (.Name x p) [.Lambda params body scope lpos] [] pos) (tLam T TT t) := by
  refine ⟨fun pins s σ H Q I ⟨hT, h⟩ => wpAny_Call_Name_kw (ld_glob I hg hm ?_ hdb)⟩
  refine PySem.W.callWith_K (h₀ := X.base) I.ok.mod.kin hk ?_ (by rfl) (by rfl)
  show wpAny _ _ (spliced ((false, eval (.Lambda params body scope lpos) X.env) :: backTo pos (starEach [] X.env))) _ _ s
  refine Calls.spliced_cons (lam_makeD (i := iv) I TB hcode hmT hu hT hdef hx (L.has I.ok) fun f c' D pm' ctv H1 s' I1 eN T1 hf hfn hfr hco hD => Calls.spliced_nil ⟨I1.kIn, ?_⟩)
  have run : codeAny (model X.prog X.w) X.A (.call (.ref g) ⟨[.ref f], []⟩) (CR C8.CX0 X.stack X.prog X.w H1 s' Q C8.E0) s' := by
    refine run_ofS (N := Ng) (ps := [a]) (us := [.ref f]) (vs := [.ref f]) lk hcg Sg hr I1.env0 (hb s' [.ref f] I1.kIn rfl) (.cons rfl .nil) rfl fun hr' => ?_
    obtain ⟨t', ht', hq'⟩ := hG f (fun HZ => HZ c' = some (CodeO c' (X.env.qual ++ "<lambda>")) ∧ HZ D = some (.tup [.int iv])) s' H1 Q (fun E H' Q' => t E σ H' Q') (fun W pn xe E p1 p2 tk =>
      pe_actDW (i := 0) I1 L na hf hfn hfr (fun t => hbind _ _ _ _ _ _ t) tk hr' (fun A outer s H hr2 => hbody A outer s H E f c' hr2) hNg hva hd hcd) (fun Ha Hb e h => ⟨e _ _ h.1, e _ _ h.2⟩) ⟨hco, hD⟩ (h H1 eN T1)
    exact ⟨t', ht'.nox, hq'⟩
  refine wpAny_call (codeAny_mono run fun r s2 hq => ?_)
  match r, hq with
  | .error e, hq => exact (show False from hq).elim
  | .ok (.ret u), hq => exact I1.after hq
end
end OwnL

/-! ### the head's facts: an own hook; __init__s that begin with super().__init__; classes with __eq__, __bool__ of their own -/
namespace OwnL
open PySem PySem.Spec PyProof.Rows L2 He
def asO (g : Addr → Option Obj) (n : Nat) : List Addr := asD g n ++ [cStatics]
/-- an __init__ with a cell of its class: where it stands (class, __init__), qualified name, parameters, body, scope, the class whose __init__ super() finds -/
structure InitD where
  cls : Str
  sup : Str
  qual : Str
  params : Arguments
  body : List Stmt
  scope : Scope
abbrev FnY : Type := Option (Str × Str × Arguments × FuncBody × Scope × Addr × Addr)
def fnY (K : PySem.W.Frag) (p : Str × Option Str) : FnY := match K.lookup (fAd K p) with
  | some ⟨_, _, .func fd, _⟩ => some (fd.name, fd.qualname, fd.params, fd.body, fd.scope, fd.globals, fd.builtins)
  | _ => none
def InitD.at_ (d : InitD) : Str × Option Str := (d.cls, some "__init__")
def InitD.val (d : InitD) : FnY := some ("__init__", d.qual, d.params, .stmts d.body, d.scope, mainGlobals, builtinsNs)
def cellB (K : PySem.W.Frag) (cc D : Addr) : Bool := match K.lookup cc with
  | some ⟨_, _, .cell (some (.ref a)), _⟩ => decide (a = D)
  | _ => false
def closB (K : PySem.W.Frag) (D : Addr) : List (Str × Addr) → Bool
  | [q] => decide (q.1 = "__class__") && cellB K q.2 D
  | _ => false
def codeB (P : Program) (K : PySem.W.Frag) (cd : Value) (q : Str) : Bool := PySem.W.codeIn K cd q && match cd with
  | .ref a => (match K.lookup a with
    | some ⟨_, _, .fields vs, _⟩ => (match (vs[2]? : Option Value) with
      | some (.str file _) => (P.main.file : Str) == file
      | _ => false)
    | _ => false)
  | _ => false
def supB (K : PySem.W.Frag) (C f2 : Addr) : Bool := (PySem.W.clsIn K C).isSome && (decide (PySem.W.mroIn K C (.ref C) = some true) && (eqO (PySem.W.nsIn K mainGlobals "super") (some none) && (eqO (PySem.W.nsIn K cStatics "thirdparty.any") (some none) &&
  (eqO (PySem.W.ks_superIn K C C "__init__") (some (some (.ref f2))) && (decide (PySem.W.typeIn K (.ref f2) = some (.type "function")) && PySem.W.fnIn K f2)))))
def noneB : Value → Bool
  | .none => true
  | _ => false
def InitD.ok (P : Program) (K : PySem.W.Frag) (d : InitD) : Bool := supB K (ga K d.cls) (ma K (ga K d.sup) "__init__") && (match K.lookup (fAd K d.at_) with
  | some ⟨_, _, .func fd, _⟩ => codeB P K fd.code d.qual && (closB K (ga K d.cls) fd.closure && noneB fd.defaults)
  | _ => false)
theorem codeB_ok {P : Program} {K : PySem.W.Frag} {cd : Value} {q : Str} (h : codeB P K cd q = true) : ∃ cda, cd = .ref cda ∧ PySem.W.codeIn K (.ref cda) q = true ∧
    ∃ (ccl : Value) (cdd : Option Addr) (vs : Array Value) (ccs : Array (Option Value)) (file : Str) (tf : Tok), K.lookup cda = some ⟨ccl, cdd, .fields vs, ccs⟩ ∧ vs[2]? = some (.str file tf) ∧ ((P.main.file : Str) == file) = true := by
  obtain ⟨h1, h2⟩ := ba h
  cases cd with
  | ref a =>
    refine ⟨a, rfl, h1, ?_⟩
    have h3 : (match K.lookup a with
      | some ⟨_, _, .fields vs, _⟩ => (match (vs[2]? : Option Value) with
        | some (.str file _) => (P.main.file : Str) == file
        | _ => false)
      | _ => false) = true := h2
    cases e : K.lookup a with
    | none => rw [e] at h3; cases h3
    | some o =>
      obtain ⟨oc, od, dt, osl⟩ := o
      rw [e] at h3
      cases dt with
      | fields vs =>
        have h4 : (match (vs[2]? : Option Value) with
          | some (.str file _) => (P.main.file : Str) == file
          | _ => false) = true := h3
        cases e2 : vs[2]? with
        | none => rw [e2] at h4; cases h4
        | some v =>
          rw [e2] at h4
          cases v with
          | str x t => exact ⟨_, _, _, _, x, t, rfl, e2, h4⟩
          | _ => cases h4
      | _ => cases h3
  | _ => cases h2
theorem closB_ok {K : PySem.W.Frag} {D : Addr} {l : List (Str × Addr)} (h : closB K D l = true) : ∃ cc, l = ([(("__class__" : Str), cc)] : List (Str × Addr)) ∧ ∃ (cl : Value) (cld : Option Addr) (csl : Array (Option Value)), K.lookup cc = some ⟨cl, cld, .cell (some (.ref D)), csl⟩ := by
  match l, h with
  | [(x, cc)], h =>
    obtain ⟨h1, h2⟩ := ba (show (decide (x = "__class__") && cellB K cc D) = true from h)
    have ex : x = "__class__" := of_decide_eq_true h1
    subst ex
    refine ⟨cc, rfl, ?_⟩
    unfold cellB at h2
    cases e : K.lookup cc with
    | none => rw [e] at h2; cases h2
    | some o =>
      obtain ⟨oc, od, dt, osl⟩ := o
      rw [e] at h2
      cases dt with
      | cell v =>
        cases v with
        | none => cases h2
        | some v =>
          cases v with
          | ref a =>
            have ea : a = D := of_decide_eq_true h2
            subst ea
            exact ⟨_, _, _, rfl⟩
          | _ => cases h2
      | _ => cases h2
  | [], h => cases h
  | _ :: _ :: _, h => cases h
theorem InitD.fnx {P : Program} {K : PySem.W.Frag} {d : InitD} {mg : Str → Option Value} (e : fnY K d.at_ = d.val) (c : d.ok P K = true) (tp : (P.main.scope.names.lookup ("super" : Str)).isSome = false) :
    ∃ (fd : FuncData) (oc : Value) (od : Option Addr) (kV doc pm : Value) (an : Option Addr) (cda : Addr) (ct : Value) (osl : Array (Option Value)) (cc : Addr), fd = PySem.W.fnX "__init__" d.qual d.params d.body d.scope [("__class__", cc)] .none kV doc pm an (.ref cda) ct ∧
      K.lookup (fAd K d.at_) = some ⟨oc, od, .func (PySem.W.fnX "__init__" d.qual d.params d.body d.scope [("__class__", cc)] .none kV doc pm an (.ref cda) ct), osl⟩ ∧ PySem.W.codeIn K (.ref cda) d.qual = true ∧ SupFacts P K mg (ga K d.cls) (ga K d.cls) (ma K (ga K d.sup) "__init__") cda cc := by
  obtain ⟨c1, c2⟩ := ba c
  obtain ⟨s1, s2⟩ := ba c1
  obtain ⟨s2, s3⟩ := ba s2
  obtain ⟨s3, s4⟩ := ba s3
  obtain ⟨s4, s5⟩ := ba s4
  obtain ⟨s5, s6⟩ := ba s5
  obtain ⟨s6, s7⟩ := ba s6
  unfold fnY at e
  cases q : K.lookup (fAd K d.at_) with
  | none =>
    rw [q] at c2
    cases c2
  | some o =>
    obtain ⟨oc, od, dt, osl⟩ := o
    rw [q] at c2 e
    cases dt with
    | func fd =>
      obtain ⟨n1, n2, n3, n4, n5, n6, n7, n8, n9, n10, n11, n12, n13, n14, n15⟩ := fd
      have e2 : (some (n1, n2, n3, n4, n5, n6, n15) : FnY) = (some (("__init__" : Str), d.qual, d.params, FuncBody.stmts d.body, d.scope, mainGlobals, builtinsNs) : FnY) := e
      simp only [Option.some.injEq, Prod.mk.injEq] at e2
      obtain ⟨h1, h2, h3, h4, h5, h6, h7⟩ := e2
      subst h1 h2 h3 h4 h5 h6 h7
      obtain ⟨k1, k2⟩ := ba (show (codeB P K n13 d.qual && (closB K (ga K d.cls) n7 && noneB n8)) = true from c2)
      obtain ⟨k2, k3⟩ := ba k2
      obtain ⟨cda, rfl, cI, cF⟩ := codeB_ok k1
      obtain ⟨cc, rfl, cC⟩ := closB_ok k2
      cases n8 with
      | none =>
        exact ⟨_, oc, od, n9, n10, n11, n12, cda, n14, osl, cc, rfl, rfl, cI, ⟨cF, cC, Option.isSome_iff_exists.mp s1, of_decide_eq_true s2, eqO_ok s3, tp, eqO_ok s4, eqO_ok s5, of_decide_eq_true s6, s7⟩⟩
      | _ => cases k3
    | _ => cases c2
/-- a def's function as the layer wants it -/
theorem fun_of {K : PySem.W.Frag} {x qual : Str} {st : Stmt} {f : Addr} {fd : FuncData} (F : FunD K x qual (defArgs st) (defBody st) (defScope st) [] [] f fd) : L2.Fun K x qual st f fd := by
  obtain ⟨⟨oc, od, dV, kV, doc, pm, an, cdv, ct, osl, h1, h2, h3, h4, h5⟩, kp⟩ := F
  rcases h4 with ⟨_, h4⟩ | ⟨h4, _⟩
  · subst h4
    exact ⟨⟨oc, od, kV, doc, pm, an, cdv, ct, osl, h1, h2, h3⟩, kp⟩
  · exact absurd rfl h4
/-! a class's name -/
def gotB : Option PySem.W.CFound → Addr → Bool
  | some (.get (.builtin g) (.builtin a) (.ref C') (.type t)), C => decide (g = "getset_descriptor.__get__") && (decide (a = "type.__name__") && (decide (C' = C) && decide (t = "type")))
  | _, _ => false
theorem gotB_ok {r : Option PySem.W.CFound} {C : Addr} (h : gotB r C = true) : r = some (.get (.builtin "getset_descriptor.__get__") (.builtin "type.__name__") (.ref C) (.type "type")) := by
  unfold gotB at h
  split at h
  · obtain ⟨h1, h⟩ := ba h
    obtain ⟨h2, h⟩ := ba h
    obtain ⟨h3, h4⟩ := ba h
    rw [of_decide_eq_true h1, of_decide_eq_true h2, of_decide_eq_true h3, of_decide_eq_true h4]
  · cases h
def nmB (K : PySem.W.Frag) (C : Addr) (nm : Str) : Bool := match K.lookup C with
  | some o => (match ((o.slots[2]?).join : Option Value) with
    | some (.str x _) => decide (x = nm)
    | _ => false)
  | none => false
theorem nmB_ok {K : PySem.W.Frag} {C : Addr} {nm : Str} (h : nmB K C nm = true) : ∃ o t, K.lookup C = some o ∧ (o.slots[2]?).join = some (.str nm t) := by
  unfold nmB at h
  cases e : K.lookup C with
  | none => rw [e] at h; cases h
  | some o =>
    rw [e] at h
    have h' : (match ((o.slots[2]?).join : Option Value) with
      | some (.str x _) => decide (x = nm)
      | _ => false) = true := h
    cases e2 : (o.slots[2]?).join with
    | none => rw [e2] at h'; cases h'
    | some v =>
      rw [e2] at h'
      cases v with
      | str x t =>
        have ex : x = nm := of_decide_eq_true h'
        subst ex
        exact ⟨o, t, rfl, e2⟩
      | _ => cases h'
def clsNmB (K : PySem.W.Frag) (C : Addr) (nm : Str) : Bool := (PySem.W.clsIn K C).isSome && (eqO (PySem.W.findIn K (.ref C) "__getattribute__") (some (some (.builtin "object.__getattribute__"))) && (eqO (PySem.W.findIn K (.ref C) "__getattr__") (some none) &&
  (eqO (PySem.W.findIn K (.ref C) "__class__") (some (some (.builtin "object.__class__"))) && (eqO (PySem.W.specialIn K (.builtin "object.__class__") "__get__") (some (some (.builtin "getset_descriptor.__get__"))) && (decide (PySem.W.takesIn K (.builtin "object.__class__") = some true) &&
  (decide (PySem.W.mroIn K C (.type "object") = some true) && (decide (PySem.W.typeIn K (.ref C) = some (.type "type")) && (PySem.W.readsIn K C (.type "type") && (gotB (PySem.W.findCls K (.ref C) (.type "type") "__name__") C && nmB K C nm)))))))))
theorem clsNmB_ok {K : PySem.W.Frag} {C : Addr} {nm : Str} (h : clsNmB K C nm = true) : ClsNm K C nm := by
  obtain ⟨h1, h⟩ := ba h
  obtain ⟨h2, h⟩ := ba h
  obtain ⟨h3, h⟩ := ba h
  obtain ⟨h4, h⟩ := ba h
  obtain ⟨h5, h⟩ := ba h
  obtain ⟨h6, h⟩ := ba h
  obtain ⟨h7, h⟩ := ba h
  obtain ⟨h8, h⟩ := ba h
  obtain ⟨h9, h⟩ := ba h
  obtain ⟨h10, h11⟩ := ba h
  exact ⟨Option.isSome_iff_exists.mp h1, eqO_ok h2, eqO_ok h3, eqO_ok h4, eqO_ok h5, of_decide_eq_true h6, of_decide_eq_true h7, of_decide_eq_true h8, h9, gotB_ok h10, nmB_ok h11⟩
/-! the hook -/
abbrev AlX : Type := Bool × List FnW × List FnY
def obsX (P : Program) (fa : List Fa) (fn : List DefD) (fx : List InitD) (xs : List (PySem.W.Frag → Bool)) (K : PySem.W.Frag) : AlX := ((fa.all fun f => f.ok K) && ((fn.all fun d => d.ok K) && ((fx.all fun d => d.ok P K) && xs.all fun x => x K)), fn.map (fun d => fnW K d.at_), fx.map fun d => fnY K d.at_)
def valX (fn : List DefD) (fx : List InitD) : AlX := (true, fn.map DefD.val, fx.map InitD.val)
def SaysX (P : Program) (fa : List Fa) (fn : List DefD) (fx : List InitD) (xs : List (PySem.W.Frag → Bool)) (K : PySem.W.Frag) : Prop := obsX P fa fn fx xs K = valX fn fx
def obsXG (n : Nat) (P : Program) (fa : List Fa) (fn : List DefD) (fx : List InitD) (xs : List (PySem.W.Frag → Bool)) (g : Addr → Option Obj) : AlX := obsX P fa fn fx xs (frG g (asO g n))
def hookX (n : Nat) (P : Program) (fa : List Fa) (fn : List DefD) (fx : List InitD) (xs : List (PySem.W.Frag → Bool)) : PySem.W.Hook where
  α := AlX
  obs := fun s => obsXG n P fa fn fx xs s.heap.get?
  val := fun _ => valX fn fx
  says := fun _ h => ∃ K : PySem.W.Frag, K.In h ∧ SaysX P fa fn fx xs K
  of := fun _ _ e => ⟨_, frG_in, e⟩
  keeps := fun _ _ _ ⟨K, hK, c⟩ k => ⟨K, PySem.W.Frag.In.keeps hK k, c⟩
theorem obsXG_eq {n : Nat} {P : Program} {fa : List Fa} {fn : List DefD} {fx : List InitD} {xs : List (PySem.W.Frag → Bool)} {g : Addr → Option Obj} {s : Shared} (h : ∀ a, g a = s.heap.get? a) : obsXG n P fa fn fx xs g = (hookX n P fa fn fx xs).obs s := by
  have e : g = s.heap.get? := funext h
  rw [e] <;> rfl
section
variable {P : Program} {fa : List Fa} {fn : List DefD} {fx : List InitD} {xs : List (PySem.W.Frag → Bool)} {K : PySem.W.Frag}
theorem SaysX.all (c : SaysX P fa fn fx xs K) : (fa.all fun f => f.ok K) = true ∧ (fn.all fun d => d.ok K) = true ∧ (fx.all fun d => d.ok P K) = true ∧ (xs.all fun x => x K) = true := by
  have c1 : ((fa.all fun f => f.ok K) && ((fn.all fun d => d.ok K) && ((fx.all fun d => d.ok P K) && xs.all fun x => x K))) = true := congrArg (fun z : AlX => z.1) c
  obtain ⟨h1, h⟩ := ba c1
  obtain ⟨h2, h⟩ := ba h
  obtain ⟨h3, h4⟩ := ba h
  exact ⟨h1, h2, h3, h4⟩
theorem SaysX.fact (c : SaysX P fa fn fx xs K) {f : Fa} (h : f ∈ fa) : f.ok K = true := List.all_eq_true.mp c.all.1 f h
theorem SaysX.at_ (c : SaysX P fa fn fx xs K) (i : Nat) {f : Fa} (h : fa[i]? = some f := by rfl) : f.ok K = true := c.fact (List.mem_of_getElem? h)
theorem SaysX.own (c : SaysX P fa fn fx xs K) (i : Nat) {x : PySem.W.Frag → Bool} (h : xs[i]? = some x := by rfl) : x K = true := List.all_eq_true.mp c.all.2.2.2 x (List.mem_of_getElem? h)
theorem SaysX.def_ (c : SaysX P fa fn fx xs K) (i : Nat) {d : DefD} (h : fn[i]? = some d := by rfl) : ∃ fd, FunD K d.name d.qual d.params d.body d.scope (d.dvs K) (d.kws K) (fAd K d.at_) fd := by
  have e : fn.map (fun d => fnW K d.at_) = fn.map DefD.val := congrArg (fun z : AlX => z.2.1) c
  have e2 : (fn.map fun d => fnW K d.at_)[i]? = (fn.map DefD.val)[i]? := by rw [e]
  rw [List.getElem?_map, List.getElem?_map, h] at e2
  exact DefD.funD (Option.some.inj e2) (List.all_eq_true.mp c.all.2.1 d (List.mem_of_getElem? h))
theorem SaysX.init (c : SaysX P fa fn fx xs K) (i : Nat) {d : InitD} (h : fx[i]? = some d := by rfl) : fnY K d.at_ = d.val ∧ d.ok P K = true := by
  have e : fx.map (fun d => fnY K d.at_) = fx.map InitD.val := congrArg (fun z : AlX => z.2.2) c
  have e2 : (fx.map fun d => fnY K d.at_)[i]? = (fx.map InitD.val)[i]? := by rw [e]
  rw [List.getElem?_map, List.getElem?_map, h] at e2
  exact ⟨Option.some.inj e2, List.all_eq_true.mp c.all.2.2.1 d (List.mem_of_getElem? h)⟩
end
end OwnL

/-! ### the head's facts, further: own exceptions whose __init__ calls super().__init__; tables of code objects -/
namespace OwnL
open PySem PySem.Spec PyProof.Rows L2 He
/-- an own exception's class -/
def oexB (K : PySem.W.Frag) (C : Addr) : Bool := (match K.lookup C with
  | some ⟨.type t, _, .cls cd, sl⟩ => decide (t = "type") && (match cd.mro, sl.toList with
    | .ref C' :: bm, [_, _, _, _, some (.builtin n), _] => decide (C' = C) && (decide (n = "ValueError.__new__") && (!cd.hasDel && (cd.hasDict && PySem.HandSPX.refsVE bm)))
    | _, _ => false)
  | _ => false) && (eqO (PySem.W.findIn K (.ref C) "__setattr__") (some (some (.builtin "object.__setattr__"))) && (decide (PySem.W.subIn K (.ref C) (.type "BaseException") = some true) && (decide (PySem.W.typeIn K (.ref C) = some (.type "type")) && PySem.W.keepIn K (.ref C))))
theorem oexB_ok {K : PySem.W.Frag} {C : Addr} (h : oexB K C = true) : OexC K C := by
  obtain ⟨h1, h⟩ := ba h
  obtain ⟨h2, h⟩ := ba h
  obtain ⟨h3, h⟩ := ba h
  obtain ⟨h4, h5⟩ := ba h
  refine ⟨?_, eqO_ok h2, of_decide_eq_true h3, of_decide_eq_true h4, h5⟩
  cases q : K.lookup C with
  | none => rw [q] at h1; cases h1
  | some o =>
    obtain ⟨oc, od, dt, sl⟩ := o
    rw [q] at h1
    cases oc with
    | type t =>
      cases dt with
      | cls cd =>
        obtain ⟨g1, g2⟩ := ba (show (decide (t = "type") && (match cd.mro, sl.toList with
          | .ref C' :: bm, [_, _, _, _, some (.builtin n), _] => decide (C' = C) && (decide (n = "ValueError.__new__") && (!cd.hasDel && (cd.hasDict && PySem.HandSPX.refsVE bm)))
          | _, _ => false)) = true from h1)
        have et : t = "type" := of_decide_eq_true g1
        subst et
        obtain ⟨nm, bs, mro, N, q', hd, sn, sub, ab, col, del⟩ := cd
        obtain ⟨sll⟩ := sl
        split at g2
        · rename_i C' bm k0 k1 k2 k3 n k5 hm hs
          obtain ⟨g3, g⟩ := ba g2
          obtain ⟨g4, g⟩ := ba g
          obtain ⟨g5, g⟩ := ba g
          obtain ⟨g6, g7⟩ := ba g
          have hm' : mro = .ref C' :: bm := hm
          have hs' : sll = [k0, k1, k2, k3, some (.builtin n), k5] := hs
          have eC : C' = C := of_decide_eq_true g3
          have en : n = "ValueError.__new__" := of_decide_eq_true g4
          have ed : del = false := by
            have : (!del) = true := g5
            cases del with
            | false => rfl
            | true => cases this
          have eh : hd = true := g6
          subst hm' hs' eC en ed eh
          exact ⟨_, _, _, _, _, _, _, _, _, _, _, _, _, _, _, rfl, g7⟩
        · cases g2
      | _ => cases h1
    | _ => cases dt <;> cases h1
def supEB (K : PySem.W.Frag) (C : Addr) : Bool := (PySem.W.clsIn K C).isSome && (decide (PySem.W.mroIn K C (.ref C) = some true) && (decide (PySem.W.mroIn K C (.type "ValueError") = some true) && (eqO (PySem.W.nsIn K mainGlobals "super") (some none) && (eqO (PySem.W.nsIn K cStatics "thirdparty.any") (some none) &&
  (eqO (PySem.W.ks_superIn K C C "__init__") (some (some (.builtin "ValueError.__init__"))) && oexB K C)))))
def InitD.okE (P : Program) (K : PySem.W.Frag) (d : InitD) : Bool := supEB K (ga K d.cls) && (match K.lookup (fAd K d.at_) with
  | some ⟨_, _, .func fd, _⟩ => codeB P K fd.code d.qual && (closB K (ga K d.cls) fd.closure && noneB fd.defaults)
  | _ => false)
theorem InitD.fnE {P : Program} {K : PySem.W.Frag} {d : InitD} (e : fnY K d.at_ = d.val) (c : d.okE P K = true) (tp : (P.main.scope.names.lookup ("super" : Str)).isSome = false) :
    ∃ (fd : FuncData) (oc : Value) (od an : Option Addr) (kV doc pm ct : Value) (cda cc : Addr) (osl : Array (Option Value)), fd = PySem.W.fnX "__init__" d.qual d.params d.body d.scope [("__class__", cc)] .none kV doc pm an (.ref cda) ct ∧
      K.lookup (fAd K d.at_) = some ⟨oc, od, .func fd, osl⟩ ∧ PySem.W.codeIn K (.ref cda) d.qual = true ∧ SupV P K (ga K d.cls) cda cc := by
  obtain ⟨c1, c2⟩ := ba c
  obtain ⟨s1, s2⟩ := ba c1
  obtain ⟨s2, s3⟩ := ba s2
  obtain ⟨s3, s4⟩ := ba s3
  obtain ⟨s4, s5⟩ := ba s4
  obtain ⟨s5, s6⟩ := ba s5
  obtain ⟨s6, s7⟩ := ba s6
  unfold fnY at e
  cases q : K.lookup (fAd K d.at_) with
  | none =>
    rw [q] at c2
    cases c2
  | some o =>
    obtain ⟨oc, od, dt, osl⟩ := o
    rw [q] at c2 e
    cases dt with
    | func fd =>
      obtain ⟨n1, n2, n3, n4, n5, n6, n7, n8, n9, n10, n11, n12, n13, n14, n15⟩ := fd
      have e2 : (some (n1, n2, n3, n4, n5, n6, n15) : FnY) = (some (("__init__" : Str), d.qual, d.params, FuncBody.stmts d.body, d.scope, mainGlobals, builtinsNs) : FnY) := e
      simp only [Option.some.injEq, Prod.mk.injEq] at e2
      obtain ⟨h1, h2, h3, h4, h5, h6, h7⟩ := e2
      subst h1 h2 h3 h4 h5 h6 h7
      obtain ⟨k1, k2⟩ := ba (show (codeB P K n13 d.qual && (closB K (ga K d.cls) n7 && noneB n8)) = true from c2)
      obtain ⟨k2, k3⟩ := ba k2
      obtain ⟨cda, rfl, cI, cF⟩ := codeB_ok k1
      obtain ⟨cc, rfl, cC⟩ := closB_ok k2
      cases n8 with
      | none => exact ⟨_, oc, od, n12, n9, n10, n11, n14, cda, cc, osl, rfl, rfl, cI, ⟨cF, cC, Option.isSome_iff_exists.mp s1, of_decide_eq_true s2, of_decide_eq_true s3, eqO_ok s4, tp, eqO_ok s5, eqO_ok s6, oexB_ok s7⟩⟩
      | _ => cases k3
    | _ => cases c2
/-- isinstance of an exception that is held -/
def excCB (K : PySem.W.Frag) (D : Addr) : Bool := eqO (PySem.W.findIn K (.ref D) "__getattribute__") (some (some (.builtin "BaseException.__getattribute__"))) && (eqO (PySem.W.findIn K (.ref D) "__getattr__") (some none) && (decide (PySem.W.subIn K (.ref D) (.type "BaseException") = some true) && (PySem.W.hasDictIn K D &&
  (eqO (PySem.W.findIn K (.ref D) "__class__") (some (some (.builtin "object.__class__"))) && (eqO (PySem.W.specialIn K (.builtin "object.__class__") "__get__") (some (some (.builtin "getset_descriptor.__get__"))) && (decide (PySem.W.takesIn K (.builtin "object.__class__") = some true) && decide (PySem.W.mroIn K D (.type "object") = some true)))))))
theorem excCB_ok {K : PySem.W.Frag} {D : Addr} (h : excCB K D = true) : ExcC K D := by
  obtain ⟨h1, h⟩ := ba h
  obtain ⟨h2, h⟩ := ba h
  obtain ⟨h3, h⟩ := ba h
  obtain ⟨h4, h⟩ := ba h
  obtain ⟨h5, h⟩ := ba h
  obtain ⟨h6, h⟩ := ba h
  obtain ⟨h7, h8⟩ := ba h
  exact ⟨eqO_ok h1, eqO_ok h2, of_decide_eq_true h3, h4, eqO_ok h5, eqO_ok h6, of_decide_eq_true h7, of_decide_eq_true h8⟩
/-! the hook: facts, defs, __init__s of both kinds, own Bools, tables -/
structure HdD where
  fa : List Fa
  fn : List DefD
  fx : List InitD
  fe : List InitD
  xs : List (PySem.W.Frag → Bool)
  tf : List Defn
def obsY (P : Program) (d : HdD) (g : Addr → Option Obj) (K : PySem.W.Frag) : OwnL.AlX := (((d.fa.all fun f => f.ok K) && ((d.fn.all fun x => x.ok K) && ((d.fx.all fun x => x.ok P K) && ((d.fe.all fun x => x.okE P K) && d.xs.all fun x => x K)))) && tabsB g d.tf K, d.fn.map (fun x => fnW K x.at_), (d.fx ++ d.fe).map fun x => fnY K x.at_)
def valY (d : HdD) : OwnL.AlX := (true, d.fn.map DefD.val, (d.fx ++ d.fe).map InitD.val)
structure SaysY (P : Program) (d : HdD) (h : Heap) (K : PySem.W.Frag) : Prop where
  all : ((d.fa.all fun f => f.ok K) && ((d.fn.all fun x => x.ok K) && ((d.fx.all fun x => x.ok P K) && ((d.fe.all fun x => x.okE P K) && d.xs.all fun x => x K)))) = true
  defs : d.fn.map (fun x => fnW K x.at_) = d.fn.map DefD.val
  inis : (d.fx ++ d.fe).map (fun x => fnY K x.at_) = (d.fx ++ d.fe).map InitD.val
  hd : ∀ p ∈ d.tf, PySem.W.codeHdIn K (cT K p).1 (cT K p).2 = true
  out : ∀ p ∈ d.tf, K.lookup (cT K p).2 = none
  empty : ∀ p ∈ d.tf, h.get? (cT K p).2 = some { cls := .none, data := .fields #[] }
theorem saysY_of {n : Nat} {P : Program} {d : HdD} {h : Heap} (e : obsY P d h.get? (frT h.get? (asO h.get? n)) = valY d) : SaysY P d h (frT h.get? (asO h.get? n)) := by
  generalize hK : frT h.get? (asO h.get? n) = K at e
  have e1 := congrArg (fun z : OwnL.AlX => z.1) e
  obtain ⟨h1, h2⟩ := ba (show (((d.fa.all fun f => f.ok K) && ((d.fn.all fun x => x.ok K) && ((d.fx.all fun x => x.ok P K) && ((d.fe.all fun x => x.okE P K) && d.xs.all fun x => x K)))) && tabsB h.get? d.tf K) = true from e1)
  have key : ∀ p ∈ d.tf, PySem.W.codeHdIn K (cT K p).1 (cT K p).2 = true ∧ ∃ o, h.get? (cT K p).2 = some o ∧ emptyTab o = true := fun p hp => by
    obtain ⟨h3, h4⟩ := ba (List.all_eq_true.mp h2 p hp)
    refine ⟨h3, ?_⟩
    cases q : h.get? (cT K p).2 with
    | none =>
      rw [q] at h4
      cases h4
    | some o =>
      rw [q] at h4
      exact ⟨o, rfl, h4⟩
  refine ⟨h1, congrArg (fun z : OwnL.AlX => z.2.1) e, congrArg (fun z : OwnL.AlX => z.2.2) e, fun p hp => (key p hp).1, fun p hp => ?_, fun p hp => ?_⟩
  · obtain ⟨_, o, q, z⟩ := key p hp
    rw [← hK] at q ⊢
    exact frT_none q z
  · obtain ⟨_, o, q, z⟩ := key p hp
    rw [q, emptyTab_eq z]
def hookY (n : Nat) (P : Program) (d : HdD) : PySem.W.Hook where
  α := OwnL.AlX
  obs := fun s => obsY P d s.heap.get? (frT s.heap.get? (asO s.heap.get? n))
  val := fun _ => valY d
  says := fun _ h => ∃ K : PySem.W.Frag, K.In h ∧ SaysY P d h K
  of := fun _ _ e => ⟨_, frT_in, saysY_of e⟩
  keeps := fun _ _ _ ⟨K, hK, c⟩ k => ⟨K, PySem.W.Frag.In.keeps hK k, ⟨c.all, c.defs, c.inis, c.hd, c.out, fun p hp => k _ _ (c.empty p hp)⟩⟩
def obsYG (n : Nat) (P : Program) (d : HdD) (g : Addr → Option Obj) : OwnL.AlX := obsY P d g (frT g (asO g n))
theorem obsYG_eq {n : Nat} {P : Program} {d : HdD} {g : Addr → Option Obj} {s : Shared} (h : ∀ a, g a = s.heap.get? a) : obsYG n P d g = (hookY n P d).obs s := by
  have e : g = s.heap.get? := funext h
  rw [e] <;> rfl
section
variable {P : Program} {d : HdD} {h : Heap} {K : PySem.W.Frag}
theorem SaysY.parts (c : SaysY P d h K) : (d.fa.all fun f => f.ok K) = true ∧ (d.fn.all fun x => x.ok K) = true ∧ (d.fx.all fun x => x.ok P K) = true ∧ (d.fe.all fun x => x.okE P K) = true ∧ (d.xs.all fun x => x K) = true := by
  obtain ⟨h1, h⟩ := ba c.all
  obtain ⟨h2, h⟩ := ba h
  obtain ⟨h3, h⟩ := ba h
  obtain ⟨h4, h5⟩ := ba h
  exact ⟨h1, h2, h3, h4, h5⟩
theorem SaysY.at_ (c : SaysY P d h K) (i : Nat) {f : Fa} (hf : d.fa[i]? = some f := by rfl) : f.ok K = true := List.all_eq_true.mp c.parts.1 f (List.mem_of_getElem? hf)
theorem SaysY.own (c : SaysY P d h K) (i : Nat) {x : PySem.W.Frag → Bool} (hx : d.xs[i]? = some x := by rfl) : x K = true := List.all_eq_true.mp c.parts.2.2.2.2 x (List.mem_of_getElem? hx)
theorem SaysY.def_ (c : SaysY P d h K) (i : Nat) {x : DefD} (hx : d.fn[i]? = some x := by rfl) : ∃ fd, FunD K x.name x.qual x.params x.body x.scope (x.dvs K) (x.kws K) (fAd K x.at_) fd := by
  have e2 : (d.fn.map fun x => fnW K x.at_)[i]? = (d.fn.map DefD.val)[i]? := by rw [c.defs]
  rw [List.getElem?_map, List.getElem?_map, hx] at e2
  exact DefD.funD (Option.some.inj e2) (List.all_eq_true.mp c.parts.2.1 x (List.mem_of_getElem? hx))
theorem SaysY.exi (c : SaysY P d h K) (i : Nat) {x : InitD} (hx : d.fe[i]? = some x := by rfl) : fnY K x.at_ = x.val ∧ x.okE P K = true := by
  have e2 : ((d.fx ++ d.fe).map fun x => fnY K x.at_)[d.fx.length + i]? = ((d.fx ++ d.fe).map InitD.val)[d.fx.length + i]? := by rw [c.inis]
  have hx2 : (d.fx ++ d.fe)[d.fx.length + i]? = some x := by rw [List.getElem?_append_right (by omega), Nat.add_sub_cancel_left]; exact hx
  rw [List.getElem?_map, List.getElem?_map, hx2] at e2
  exact ⟨Option.some.inj e2, List.all_eq_true.mp c.parts.2.2.2.1 x (List.mem_of_getElem? hx)⟩
theorem SaysY.ini (c : SaysY P d h K) (i : Nat) {x : InitD} (hx : d.fx[i]? = some x := by rfl) : fnY K x.at_ = x.val ∧ x.ok P K = true := by
  have e2 : ((d.fx ++ d.fe).map fun x => fnY K x.at_)[i]? = ((d.fx ++ d.fe).map InitD.val)[i]? := by rw [c.inis]
  have hx2 : (d.fx ++ d.fe)[i]? = some x := by rw [List.getElem?_append_left (List.getElem?_eq_some_iff.mp hx).1]; exact hx
  rw [List.getElem?_map, List.getElem?_map, hx2] at e2
  exact ⟨Option.some.inj e2, List.all_eq_true.mp c.parts.2.2.1 x (List.mem_of_getElem? hx)⟩
end
end OwnL


namespace K31
open PySem PySem.Spec PyProof.Rows L2 OwnL Evl StX
/-! ### items, parts, lengths -/
inductive Im where
  | ev (x : Str)
  | at (i : Nat)
  deriving DecidableEq
def Im.v : Im → V
  | .ev x => .str x
  | .at i => .int (i : Nat)
def Im.d : Im → PyData
  | .ev x => .str x
  | .at i => .int (i : Nat)
def OkX (x : Str) : Prop := x.length ≤ 40000 ∧ PyData.strOk x = true ∧ nameB x = true
def Im.ok (m : Nat) : Im → Prop
  | .ev x => OkX x
  | .at i => i < m
def Im.evB : Im → Bool
  | .ev _ => true
  | .at _ => false
def okParts (ps : List (List Im)) : Prop := ∀ j p, ps[j]? = some p → ∀ it : Im, it ∈ p → it.ok j
/-- a row of values told from those before -/
def grow {α : Type} (f : List α → Nat → α) : Nat → List α
  | 0 => []
  | n + 1 => grow f n ++ [f (grow f n) n]
theorem grow_len {α : Type} (f : List α → Nat → α) : ∀ n, (grow f n).length = n
  | 0 => rfl
  | n + 1 => by simp [grow, grow_len f n]
theorem grow_get {α : Type} (f : List α → Nat → α) {i n : Nat} (h : i < n) : (grow f n)[i]? = some (f (grow f i) i) := by
  induction n with
  | zero => omega
  | succ n ih =>
    simp only [grow]
    by_cases hi : i < n
    · rw [List.getElem?_append_left (by rw [grow_len]; exact hi)]
      exact ih hi
    · have : i = n := by omega
      subst this
      rw [List.getElem?_append_right (by rw [grow_len]; omega), grow_len]
      simp
theorem range_map_getD {α β : Type} (l : List α) (d : α) (f : α → β) : (List.range l.length).map (fun j => f (l.getD j d)) = l.map f := by
  apply List.ext_getElem (by simp)
  intro n h1 h2
  have h : n < l.length := by simpa using h2
  simp [List.getD, h]
theorem int_sum {α : Type} (l : List α) (f : α → Nat) : (l.map fun x => ((f x : Nat) : Int)).sum = (((l.map f).sum : Nat) : Int) := by
  induction l with
  | nil => rfl
  | cons x l ih =>
    simp only [List.map_cons, List.sum_cons, ih]
    omega
def ilen (ls : List Nat) : Im → Nat
  | .ev _ => 1
  | .at i => ls.getD i 0
def plen (ls : List Nat) (p : List Im) : Nat := (p.map (ilen ls)).sum
def lensTo (ps : List (List Im)) (n : Nat) : List Nat := grow (fun ls j => plen ls (ps.getD j [])) n
def len1 (ps : List (List Im)) (j : Nat) : Nat := plen (lensTo ps j) (ps.getD j [])
def ilen1 (ps : List (List Im)) : Im → Nat
  | .ev _ => 1
  | .at i => len1 ps i
theorem lensTo_len (ps : List (List Im)) (n : Nat) : (lensTo ps n).length = n := grow_len _ n
theorem lensTo_get {ps : List (List Im)} {i n : Nat} (h : i < n) : (lensTo ps n)[i]? = some (len1 ps i) := grow_get _ h
theorem lensTo_succ (ps : List (List Im)) (n : Nat) : lensTo ps (n + 1) = lensTo ps n ++ [len1 ps n] := rfl
theorem ilen_eq {ps : List (List Im)} {n : Nat} {it : Im} (h : it.ok n) : ilen (lensTo ps n) it = ilen1 ps it := by
  cases it with
  | ev x => rfl
  | «at» i =>
    have h : i < n := h
    simp [ilen, ilen1, List.getD, lensTo_get h]
theorem sum_congr {α : Type} {f g : α → Nat} : ∀ {l : List α}, (∀ x ∈ l, f x = g x) → (l.map f).sum = (l.map g).sum
  | [], _ => rfl
  | x :: l, h => by
    simp only [List.map_cons, List.sum_cons]
    rw [h x (by simp), sum_congr fun y hy => h y (by simp [hy])]
theorem getD_some {α : Type} {l : List α} {i : Nat} {d x : α} (h : l[i]? = some x) : l.getD i d = x := by simp [List.getD, h]
theorem len1_eq {ps : List (List Im)} (ok : okParts ps) {j : Nat} {p : List Im} (h : ps[j]? = some p) : len1 ps j = (p.map (ilen1 ps)).sum := by
  unfold len1 plen
  rw [getD_some h]
  exact sum_congr fun it hi => ilen_eq (ok j p h it hi)
section
variable {P : Program} {w : World} {K : PySem.W.Frag} {mg : Str → Option Value} {base : Heap} {A : Ad}
theorem ixR_K {X : Cx} {K : PySem.W.Frag} (r : PySem.W.Frag → R2) (hK : X.K = K) (h : IxR X (r X.K)) : IxR X (r K) := by
  subst hK
  exact h
theorem ev_fld {σ : L2.St} {H : Hp} {ta : TE} {a C dx : Addr} {fs : List (Str × V)} {f : Str} {v : V} (h : Ev ta σ H (.ref a)) (ho : H a = some (.ins C dx fs)) (c : Cls K C) (n : NoAttr K C f) (hl : fs.lookup f = some v) : Ev (tFld K ta f) σ H v := fun H1 e Q q =>
  h H1 e _ fun H2 e2 => ⟨a, C, dx, fs, v, rfl, (e.trans e2) a _ ho, c, n, hl, q H2 e2⟩
/-- lists and tuples, by an index -/
def rIxB (K : PySem.W.Frag) : R2 := fun x y H Q => rIxL K x y H Q ∨ rIxT K x y H Q
theorem ix_both {X : Cx} : IxR X (rIxB X.K) := ix_list.or ix_tup
theorem rv_ixB {H : Hp} {p : Addr} {xs : List V} {i : Int} {v : V} (h : SqL K H p xs ∨ SqT K H p xs) (ha : atI xs i = some v) : RV (rIxB K) (.ref p) (.int i) H v := fun H1 e Q q =>
  h.elim (fun h => .inl (rv_ixL h ha H1 e Q q)) fun h => .inr (rv_ixT h ha H1 e Q q)
/-! names, of events and of indexes -/
theorem dp_im {H : Hp} (it : Im) : Dp K H it.v it.d := by
  cases it with
  | ev x => exact .str x
  | «at» i => exact .int _
def okD : Im → Prop
  | .ev x => x.length ≤ 40000 ∧ PyData.strOk x = true
  | .at _ => True
theorem Im.ok.d {m : Nat} {it : Im} (h : it.ok m) : okD it := by
  cases it with
  | ev x => exact ⟨h.1, h.2.1⟩
  | «at» i => trivial
theorem lay_im {it : Im} (h : okD it) : it.d.canLay0 = true := by
  cases it with
  | ev x => exact h.2
  | «at» i => rfl
def nameI : Im → Bool
  | .ev x => nameB x
  | .at _ => false
def spName2 (K : PySem.W.Frag) : Sp := fun vs H Q _ => ∃ it : Im, vs = [it.v] ∧ okD it ∧ RetV (.bl (nameI it)) H Q
theorem ok_isName2 (F : F10 K A) (T : T10 mg K A) : FnOk P w K mg base CX0 1 A.aIsName F.fIsName ["value"] (spName2 K) := by
  refine F.FIsName.ok scIsName (fun vs H Q E h => ?_) (fun cdv Ar outer s H vs Q E hr h => ?_)
  · obtain ⟨x, rfl, _⟩ := h
    rfl
  · obtain ⟨it, rfl, hd, k⟩ := h
    obtain ⟨tL, hLet⟩ := T.gLETTERS
    refine ⟨_, (pss_one (ps_ret (pe_and (pe_callB call_isi (by rfl) T.b_isinstance (by decide +kernel) (pa_cons (pv 0) (pa_cons (pe_bltn (v := .ty "str") (u := .type "str") rfl T.b_str (by decide +kernel) rfl) pa_nil))) (pe_and (pe_chain op_le op_le pe_int (pe_callB call_len (by rfl) T.b_len (by decide +kernel) (pa_cons (pv 0) pa_nil)) pe_int) (pe_one (pe_callB (cr_all rfl) (by rfl) T.b_all (by decide +kernel) (pa_cons (pe_lc (own := [("letter", 1)]) rfl scIsName.nd (pi_str (pv 0)) (blkOk_by (own := [("letter", 1)]) (N := ["value", "letter"]) (sc := defScope (top 5)) (by decide +kernel)) (fun _ _ _ _ _ => (pg_name (i := 1) scIsName.nd rfl (Or.inl rfl))) (fun _ _ _ _ _ => pts_nil) (fun _ _ _ _ _ => (pe_cmpR op_inS (pv 1) (pe_glob (v := .str "abcdefghijklmnopqrstuvwxyz") rfl hLet ⟨_, rfl⟩) (by rfl)))) pa_nil))))))), ?_⟩
    cases it with
    | «at» i =>
      exact s_ret (v := .bl false) (ev_is (ev_andV (a := false) (b := false) (ev_cb (ea_cons (ev_var rfl) (ea_cons ev_c ea_nil)) (rc_isi (.int _) (isi_str (.int (i : Nat)) rfl))) (fun h => by cases h)) rfl) k
    | ev x =>
      obtain ⟨hz, hk⟩ := hd
      have hz2 : x.cps.size ≤ 40000 := hz
      have len : ∀ H1, Ex H H1 → RC (fun (xs : List V) (H : Hp) (Q : VK) => ∃ x n, xs = [x] ∧ LenV K x H n ∧ Q (.int n) H) [.str x] H1 (.int (x.length : Nat)) := fun H1 _ H2 _ Q q => ⟨.str x, x.length, rfl, ⟨sz_of (by omega), rfl⟩, q H2 (Ex.refl H2)⟩
      have all : ∀ σ : L2.St, σ = [some (.str x), none] → EvL (tLc (iStr (tVar 0)) (gName 1) tYes (tOp rInS (tVar 1) (tC (.str "abcdefghijklmnopqrstuvwxyz"))) [1]) σ H (((List.range x.cps.size).map fun i => letterB (x.cps.getD i 0)).map V.bl) := fun σ hσ => by
        subst hσ
        have q := el_lcS (σ := [some (.str x), none]) (H := H) (x := x) (tl := tVar 0) (te := tOp rInS (tVar 1) (tC (.str "abcdefghijklmnopqrstuvwxyz"))) (t := tYes) (j := 1) (vs := [1]) (fun _ => true) (fun i => .bl (letterB (x.cps.getD i 0))) (ev_var rfl) hz2 (fun z => rfl) (fun i c H1 e hc => et_yes) (fun i c H1 e hc _ => by
          have hg : x.cps.getD i 0 = c := by rw [Array.getD_eq_getD_getElem?, hc]; rfl
          rw [hg]
          exact ev_op (ev_var rfl) ev_c rv_inS)
        rw [given_all] at q
        rw [List.map_map]
        exact q
      refine s_ret (v := .bl (nameB x)) (ev_is (ev_andV (a := true) (b := nameB x) (ev_cb (ea_cons (ev_var rfl) (ea_cons ev_c ea_nil)) (rc_isi (.str x) (isi_str (.str x) hk))) fun _ => ev_is (ev_andV (a := decide ((1 : Int) ≤ x.length) && decide ((x.length : Int) ≤ 8)) (b := (List.range x.cps.size).all fun i => letterB (x.cps.getD i 0)) (ev_chain ev_c (ev_cb (ea_cons (ev_var rfl) ea_nil) (len H (Ex.refl H))) rv_I0 fun _ => ⟨ev_c, rv_I0⟩) fun _ => ev_is (ev_all (all _ rfl)) (by rw [List.all_map]; rfl)) rfl) (by simp)) k
/-! items -/
def spItem (K : PySem.W.Frag) : Sp := fun vs H Q _ => ∃ (it : Im) (m : Nat), vs = [it.v, .int m] ∧ it.ok m ∧ RetV (.bl true) H Q
theorem ok_isItem (F : F10 K A) (T : T10 mg K A) : FnOk P w K mg base CX0 3 A.aIsItem F.fIsItem ["value", "many"] (spItem K) := by
  have bIsName : Binds K F.fIsName ["value"] [] := F.FIsName.binds (fun _ _ _ _ _ _ us hl => match us, hl with | [_], _ => rfl)
  have GIsName := (ok_isName2 (P := P) (w := w) (mg := mg) (base := base) F T).mono (show 1 ≤ 2 by omega)
  have bIsWithin : Binds K F.fIsWithin ["value", "least", "most"] [] := F.FIsWithin.binds (fun _ _ _ _ _ _ us hl => match us, hl with | [_, _, _], _ => rfl)
  have GIsWithin := ok_isWithin (P := P) (w := w) (mg := mg) (base := base) F T
  refine F.FIsItem.ok scIsItem (fun vs H Q E h => ?_) (fun cdv Ar outer s H vs Q E hr h => ?_)
  · obtain ⟨x, m, rfl, _⟩ := h
    rfl
  · obtain ⟨it, m, rfl, ho, k⟩ := h
    have hr1 := hr
    refine ⟨_, (pss_one (ps_ret (pe_or (pe_call GIsName hr1 rfl T.gIsName T.kIsName bIsName .nil pass0 (pa_cons (pv 0) pa_nil)) (pe_one (pe_call GIsWithin hr1 rfl T.gIsWithin T.kIsWithin bIsWithin .nil pass0 (pa_cons (pv 0) (pa_cons pe_int (pa_cons (pe_op op_sub (pv 1) pe_int) pa_nil)))))))), ?_⟩
    refine s_ret (v := .bl true) (ev_is (ev_orV (a := nameI it) (b := true) (ev_call (ea_cons (ev_var rfl) ea_nil) (fun H1 e Q q E => ⟨it, rfl, ho.d, fun H2 e2 => q H2 e2⟩)) fun hn => ?_) (by simp)) k
    cases it with
    | ev x => rw [show nameI (.ev x) = nameB x from rfl, ho.2.2] at hn; cases hn
    | «at» i =>
      have hi : i < m := ho
      refine ev_call (ea_cons (ev_var rfl) (ea_cons ev_c (ea_cons (ev_op (ev_var rfl) ev_c rv_I0) ea_nil))) (fun H1 e Q q E => ⟨.int (i : Nat), .int (i : Nat), 0, (m : Int) - 1, rfl, .int _, rfl, fun H2 e2 => ?_⟩)
      have : inB (.int ((i : Nat) : Int)) 0 ((m : Int) - 1) = true := by simp [inB]; omega
      rw [this]
      exact q H2 e2
def spIsEv (K : PySem.W.Frag) : Sp := fun vs H Q _ => ∃ it : Im, vs = [it.v] ∧ okD it ∧ RetV (.bl it.evB) H Q
theorem evB_eq (it : Im) : isStrD it.d = it.evB := by cases it <;> rfl
theorem ok_isEvent (F : F10 K A) (T : T10 mg K A) : FnOk P w K mg base CX0 1 A.aIsEvent F.fIsEvent ["item"] (spIsEv K) := by
  refine F.FIsEvent.ok scIsEvent (fun vs H Q E h => ?_) (fun cdv Ar outer s H vs Q E hr h => ?_)
  · obtain ⟨x, rfl, _⟩ := h
    rfl
  · obtain ⟨it, rfl, hd, k⟩ := h
    refine ⟨_, (pss_one (ps_ret (pe_callB call_isi (by rfl) T.b_isinstance (by decide +kernel) (pa_cons (pv 0) (pa_cons (pe_bltn (v := .ty "str") (u := .type "str") rfl T.b_str (by decide +kernel) rfl) pa_nil))))), ?_⟩
    refine s_ret (ev_cb (ea_cons (ev_var rfl) (ea_cons ev_c ea_nil)) (rc_isi (dp_im it) (isi_str it.d (lay_im hd)))) fun H1 e => ?_
    rw [evB_eq]
    exact k H1 e
/-! rows -/
structure C31 (K : PySem.W.Frag) (A : Ad) : Prop where
  clF : Cls K A.cFolded
  noF : ∀ f ∈ (["parts", "lengths", "length"] : List Str), NoAttr K A.cFolded f
def natV (ns : List Nat) : List V := ns.map fun n => .int (n : Nat)
def PtsAt (K : PySem.W.Frag) (H : Hp) (q : Addr) (ps : List (List Im)) : Prop := ∃ us, SqT K H q us ∧ us.length = ps.length ∧ ∀ (i : Nat) (p : List Im), ps[i]? = some p → ∃ a : Addr, us[i]? = some (V.ref a) ∧ SqT K H a (p.map Im.v)
structure OkRow (ps : List (List Im)) : Prop where
  ok : okParts ps
  ne : 0 < ps.length
  few : ps.length ≤ 2000
  tot : (ps.map List.length).sum ≤ 20000
theorem mem_sum {α : Type} {f : α → Nat} : ∀ {l : List α} {x : α}, x ∈ l → f x ≤ (l.map f).sum
  | [], _, h => by cases h
  | y :: l, x, h => by
    simp only [List.map_cons, List.sum_cons]
    rcases List.mem_cons.mp h with rfl | h
    · omega
    · have := mem_sum (f := f) h
      omega
theorem OkRow.thin {ps : List (List Im)} (h : OkRow ps) (p : List Im) (hp : p ∈ ps) : p.length ≤ 20000 := Nat.le_trans (mem_sum (f := List.length) hp) h.tot
def FolAt (K : PySem.W.Frag) (A : Ad) (H : Hp) (f : Addr) (ps : List (List Im)) : Prop := ∃ dx q l, H f = some (.ins A.cFolded dx [("parts", .ref q), ("lengths", .ref l), ("length", .int (len1 ps (ps.length - 1) : Nat))]) ∧ PtsAt K H q ps ∧ SqT K H l (natV (lensTo ps ps.length))
theorem PtsAt.up {H H' : Hp} {q : Addr} {ps : List (List Im)} (e : Ex H H') (h : PtsAt K H q ps) : PtsAt K H' q ps := by
  obtain ⟨us, h1, h2, h3⟩ := h
  refine ⟨us, ex_t e h1, h2, fun i p hi => ?_⟩
  obtain ⟨a, h4, h5⟩ := h3 i p hi
  exact ⟨a, h4, ex_t e h5⟩
theorem FolAt.up {H H' : Hp} {q : Addr} {ps : List (List Im)} (e : Ex H H') (h : FolAt K A H q ps) : FolAt K A H' q ps := by
  obtain ⟨dx, a, l, h1, h2, h3⟩ := h
  exact ⟨dx, a, l, e _ _ h1, h2.up e, ex_t e h3⟩
theorem ev_sum {σ : L2.St} {H : Hp} {te : TE} {ns : List Int} (h : EvL te σ H (ns.map V.int)) : Ev (tCB (rSum K) (tCons te tNil)) σ H (.int ns.sum) := fun H1 e Q q => h H1 e _ fun p H2 hp e2 h2 => ⟨p, ns, rfl, SqL.of h2, q H2 e2⟩
theorem el_lcT {σ : L2.St} {H : Hp} {t : TT} {te : TE} {a : Addr} {xs : List V} {tl : TE} {j : Nat} {vs : List Nat} (f : Nat → Bool) (v : Nat → V) (h : Ev tl σ H (.ref a)) (hx : SqT K H a xs) (hz : xs.length ≤ 40000) (hw : ∀ x, wipe ((wipe σ vs).set j (some x)) vs = wipe σ vs)
    (ht : ∀ (i : Nat) (x : V) H1, Ex H H1 → xs[i]? = some x → EvT t ((wipe σ vs).set j (some x)) H1 (f i)) (he : ∀ (i : Nat) (x : V) H1, Ex H H1 → xs[i]? = some x → f i = true → Ev te ((wipe σ vs).set j (some x)) H1 (v i)) :
    EvL (tLc (iTup K tl) (gName j) t te vs) σ H (Evl.given xs.length f v) := fun H0 e Q q => h H0 e _ fun H1 e1 => ⟨a, rfl, ⟨xs, ex_t (e.trans e1) hx⟩, fun Dl hD =>
  lc_it (walk_tup (K := K) (a := a) (xs := xs)) (Cw H1 f v Dl) ⟨hD, Ex.new hD, upd_same⟩ (fun i H' _ p => ex_t ((e.trans e1).trans p.2.1) hx) (fun i z H' H2 hi p y => by
    obtain ⟨rfl, hc⟩ := y
    exact ⟨hw _, cw_turn p (by omega) (ht i z H1 (e.trans e1) hc) fun hf => he i z H1 (e.trans e1) hc hf⟩) fun H' p => q Dl H' (fresh_back e1 p.1) (e1.trans p.2.1) p.2.2⟩
theorem natV_get {ns : List Nat} {i n : Nat} (h : ns[i]? = some n) : (natV ns)[i]? = some (.int (n : Nat)) := by simp [natV, h]
def spLens (K : PySem.W.Frag) : Sp := fun vs H Q _ => ∃ (q : Addr) (ps : List (List Im)), vs = [.ref q] ∧ PtsAt K H q ps ∧ OkRow ps ∧ ∀ t H', Ex H H' → H' t = some (.tup (natV (lensTo ps ps.length))) → Q (.ref t) H'
theorem im_get {p : List Im} {i : Nat} {x : V} (h : (p.map Im.v)[i]? = some x) : ∃ it, p[i]? = some it ∧ x = it.v := by
  rw [List.getElem?_map, Option.map_eq_some_iff] at h
  obtain ⟨it, h1, h2⟩ := h
  exact ⟨it, h1, h2.symm⟩
theorem ok_lengthsOf (F : F10 K A) (T : T10 mg K A) : FnOk P w K mg base CX0 1 A.aLengthsOf F.fLengthsOf ["parts"] (spLens K) := by
  refine F.FLengthsOf.ok scLengthsOf (fun vs H Q E h => ?_) (fun cdv Ar outer s H vs Q E hr h => ?_)
  · obtain ⟨x, ps, rfl, _⟩ := h
    rfl
  · obtain ⟨q, ps, rfl, hp, ho, k⟩ := h
    obtain ⟨us, hq, hl, hat⟩ := hp
    refine ⟨_, (pss_cons (ps_set (i := 1) scLengthsOf.nd rfl (Or.inr rfl) (pe_lst pa_nil))
  (pss_cons (ps_for PassesOwn.never rfl (pi_tup (pv 0)) (pg_name (i := 2) scLengthsOf.nd rfl (Or.inl rfl)) (pss_one (ps_expr (pe_bm PySem.F.plainAttrs_list PySem.F.slot_list_append PySem.F.type_list_append mt_append (pv 1) (pa_cons (pe_callB (cr_sum rfl) (by rfl) T.b_sum (by decide +kernel) (pa_cons (pe_lc (own := [("item", 3)]) rfl scLengthsOf.nd (pi_tup (pv 2)) (blkOk_by (own := [("item", 3)]) (N := ["parts", "found", "part", "item"]) (sc := defScope (top 23)) (by decide +kernel)) (fun _ _ _ _ _ => (pg_name (i := 3) scLengthsOf.nd rfl (Or.inl rfl))) (fun _ _ _ _ _ => pts_nil) (fun _ _ _ _ _ => (pe_ifExp (pt_val (pe_callB (callR_K (K := K) rIsi rfl call_isi) (by rfl) T.b_isinstance (by decide +kernel) (pa_cons (pv 3) (pa_cons (pe_bltn (v := .ty "str") (u := .type "str") rfl T.b_str (by decide +kernel) rfl) pa_nil)))) pe_int (pe_ix (ixR_K (K := K) rIxL rfl ix_list) (pv 1) (pv 3) (fun _ _ => rfl))))) pa_nil)) pa_nil)))))
  (pss_one (ps_ret (pe_callTy call_tuple_of (by rfl) T.b_tuple (by decide +kernel) (pa_cons (pv 1) pa_nil)))))), ?_⟩
    change tSeq _ _ _ [some (.ref q), none, none, none] _
    refine q_asgL (el_lst ea_nil (by simp)) fun D H1 hD e1 h1 => ?_
    change tSeq _ _ _ [some (.ref q), some (.ref D), none, none] _
    refine q_forT (ev_var rfl) (ex_t e1 hq) (fun i σ' H' => (∃ x, σ' = [some (.ref q), some (.ref D), x, none]) ∧ Ex H H' ∧ H' D = some (.lst (natV (lensTo ps i)))) (fun H2 e2 => ⟨⟨none, rfl⟩, e1.trans e2, e2 _ _ h1⟩) (fun i σ' H' _ p => ex_t p.2.1 hq) (fun i x σ' H' hx p => ?_) (fun σ' H' p => ?_)
    · obtain ⟨⟨z, rfl⟩, e2, h2⟩ := p
      have hi : i < ps.length := by rw [← hl]; exact (List.getElem?_eq_some_iff.mp hx).1
      have hpi : ps[i]? = some (ps[i]) := List.getElem?_eq_getElem hi
      generalize ps[i] = p at hpi
      obtain ⟨a, ha, hb⟩ := hat i p hpi
      rw [ha] at hx
      cases hx
      have thin := ho.thin p (List.mem_of_getElem? hpi)
      show tDrop _ _ _ _
      change tDrop _ _ [some (.ref q), some (.ref D), some (.ref a), none] _
      refine s_app (v := .int (len1 ps i : Nat)) h2 (ev_var rfl) ?_ (by rw [natV, List.length_map, lensTo_len]; have := ho.few; omega) (fun H3 e3 => ⟨⟨_, rfl⟩, Ex.mut (e2.trans e3) hD, ?_⟩)
      · have hs : ((List.range p.length).map fun j => ((ilen1 ps (p.getD j (.at 0)) : Nat) : Int)).sum = ((len1 ps i : Nat) : Int) := by
          rw [len1_eq ho.ok hpi]
          rw [range_map_getD p (.at 0) (fun it => ((ilen1 ps it : Nat) : Int)), int_sum]
        refine ev_is (ev_sum (ns := (List.range p.length).map fun j => ((ilen1 ps (p.getD j (.at 0)) : Nat) : Int)) ?_) (by rw [hs])
        have q := el_lcT (K := K) (H := H') (te := tIf (tB (tCB (rIsi K) (tCons (tVar 3) (tCons (tC (.ty "str")) tNil)))) (tC (.int 1)) (tOp (rIxL K) (tVar 1) (tVar 3))) (tl := tVar 2) (t := tYes) (j := 3) (vs := [3]) (σ := [some (.ref q), some (.ref D), some (.ref a), none]) (fun _ => true) (fun j => .int ((ilen1 ps (p.getD j (.at 0)) : Nat) : Int)) (ev_var rfl) (ex_t e2 hb) (by rw [List.length_map]; omega) (fun x => rfl) (fun j x H4 e4 hx => et_yes) (fun j x H4 e4 hx _ => ?_)
        · rw [given_all, List.length_map] at q
          rw [List.map_map]
          exact q
        · obtain ⟨it, hit, rfl⟩ := im_get hx
          rw [getD_some hit]
          have hok := ho.ok i p hpi it (List.mem_of_getElem? hit)
          refine ev_if (b := it.evB) (et_B (ev_is (ev_cb (ea_cons (ev_var rfl) (ea_cons ev_c ea_nil)) (rc_isi (dp_im it) (isi_str it.d (lay_im hok.d)))) (by rw [evB_eq]))) (fun hb => ?_) fun hb => ?_
          · cases it with
            | ev x => exact ev_c
            | «at» n => cases hb
          · cases it with
            | ev x => cases hb
            | «at» n =>
              have hn : n < i := hok
              exact ev_op (ev_var rfl) (ev_var rfl) (rv_ixL (sq_of (e4 _ _ h2)) (atI_nat (natV_get (lensTo_get hn))))
      · rw [lensTo_succ]
        simp [natV, upd_same]
    · obtain ⟨⟨z, rfl⟩, e2, h2⟩ := p
      rw [hl] at h2
      refine s_retU (xs := natV (lensTo ps ps.length)) ?_ (fun t H3 ht e3 h3 => k t H3 (e2.trans e3) h3)
      refine fun H3 e3 Q q => ?_
      refine ⟨_, rfl, D, _, rfl, .inl ⟨SqL.of (e3 _ _ h2), fun l hl => q l _ hl (Ex.new hl) upd_same⟩⟩
end

section
variable {P : Program} {w : World} {K : PySem.W.Frag} {mg : Str → Option Value} {base : Heap} {A : Ad}
theorem funD_ok0 {x qual : Str} {params : Arguments} {body : List Stmt} {scope : Scope} {dvs : List V} {kws : List (Str × V)} {f : Addr} {fd : FuncData} {N ps : List Str} {k : Nat} {sp : Sp} (F : FunD K x qual params body scope dvs kws f fd) (S : FnScope N ps scope) (len : ∀ vs H Q E, sp vs H Q E → vs.length = ps.length)
    (hbody : ∀ (cdv : Value) (A : Around) (outer : List Env) (s : Shared) (H : Hp) (vs : List V) (Q : VK) (E : XK), Room k (A.deeper (envOfC qual scope s.heap.objs.size f cdv)) → sp vs H Q E →
      ∃ t, PSs (cxOf CX0 P w K mg base N qual scope f cdv A outer s H E).nox body t ∧ t { nx := fun _ H' => Q .non H', rt := Q } (start N vs) H) : FnOk P w K mg base CX0 (k + 1) f fd ps sp :=
  F.ok S len fun cdv A outer s H vs Q E hr hsp => by
    obtain ⟨t, h, q⟩ := hbody cdv A outer s H vs Q E hr hsp
    exact ⟨t, h.nox, q⟩
theorem rc_isiI {H : Hp} {a C D dx : Addr} {fs : List (Str × V)} {nm : Str} {b : Bool} (ho : H a = some (.ins C dx fs)) (c : Cls K C) (N : ClsNm K C nm) (k : PySem.W.kitOne K (.ref C) (.ref D) = some b) : RC (rIsi K) [.ref a, .ref D] H (.bl b) := fun H1 e Q q =>
  ⟨.ref a, .ref D, .ref C, .ref D, b, rfl, .own D, .base (.ins (e a _ ho) c N.fc N.sg N.tk N.mo), k, q H1 (Ex.refl H1)⟩
structure CF (K : PySem.W.Frag) (A : Ad) : Prop extends C31 K A where
  nmF : ClsNm K A.cFolded "Folded"
  meF : PySem.W.kitOne K (.ref A.cFolded) (.ref A.cFolded) = some true
  mkF : Mk K A.cFolded A.aFInit
def spNeed (K : PySem.W.Frag) (A : Ad) : Sp := fun vs H Q _ => ∃ (f : Addr) (p : V) (dx : Addr) (fs : List (Str × V)), vs = [.ref f, p] ∧ H f = some (.ins A.cFolded dx fs) ∧ RetV .non H Q
theorem ok_needFolded (F : F10 K A) (T : T10 mg K A) (C : CF K A) : FnOk P w K mg base CX0 1 A.aNeedFolded F.fNeedFolded ["value", "part"] (spNeed K A) := by
  refine funD_ok0 F.FNeedFolded scNeedFolded (fun vs H Q E h => ?_) (fun cdv Ar outer s H vs Q E hr h => ?_)
  · obtain ⟨x, p, _, _, rfl, _⟩ := h
    rfl
  · obtain ⟨x, p, dx, fs, rfl, hx, k⟩ := h
    refine ⟨_, (pss_one (ps_if (pt_not (pt_val (pe_callB call_isi (by rfl) T.b_isinstance (by decide +kernel) (pa_cons (pv 0) (pa_cons (pe_glob (v := .ref A.cFolded) rfl T.gFolded rfl) pa_nil))))) (pss_one ps_never) pss_nil)), ?_⟩
    exact s_when (b := !true) (et_not (et_B (ev_cb (ea_cons (ev_var rfl) (ea_cons ev_c ea_nil)) (rc_isiI hx C.clF C.nmF C.meF)))) (fun h => by cases h) fun _ H1 e1 => k H1 e1
theorem b_need (F : F10 K A) : ∃ ds, Vals [V.str "row"] ds ∧ Binds K F.fNeedFolded ["value", "part"] ds :=
  F.FNeedFolded.binds1 1 0 (by simp) rfl (fun T kV doc pm an cdv ct us its l1 l2 => match us, its, l1, l2 with | [_], [_], _, _ => ⟨_, rfl, rfl⟩)
/-! how long an item is; in which item an event is -/
def spItemLen (K : PySem.W.Frag) (A : Ad) : Sp := fun vs H Q _ => ∃ (f : Addr) (it : Im) (ps : List (List Im)), vs = [.ref f, it.v] ∧ FolAt K A H f ps ∧ it.ok ps.length ∧ RetV (.int (ilen1 ps it : Nat)) H Q
theorem ok_itemLength (F : F10 K A) (T : T10 mg K A) (C : CF K A) : FnOk P w K mg base CX0 2 A.aItemLength F.fItemLength ["row", "item"] (spItemLen K A) := by
  have bIsEvent : Binds K F.fIsEvent ["item"] [] := F.FIsEvent.binds (fun _ _ _ _ _ _ us hl => match us, hl with | [_], _ => rfl)
  have GIsEvent := ok_isEvent (P := P) (w := w) (mg := mg) (base := base) F T
  refine F.FItemLength.ok scItemLength (fun vs H Q E h => ?_) (fun cdv Ar outer s H vs Q E hr h => ?_)
  · obtain ⟨x, it, _, rfl, _⟩ := h
    rfl
  · obtain ⟨f, it, ps, rfl, ⟨dx, q, l, hf, hq, hl⟩, ho, k⟩ := h
    have hr1 := hr
    refine ⟨_, (pss_one (ps_ret (pe_ifExp (pt_val (pe_call GIsEvent hr1 rfl T.gIsEvent T.kIsEvent bIsEvent .nil pass0 (pa_cons (pv 1) pa_nil))) pe_int (pe_ix ix_tup (pe_fld (pv 0) rfl) (pv 1) (fun _ _ => rfl))))), ?_⟩
    refine s_ret (ev_if (b := it.evB) (et_B (ev_call (ea_cons (ev_var rfl) ea_nil) (fun H1 e Q q E => ⟨it, rfl, ho.d, fun H2 e2 => q H2 e2⟩))) (fun hb => ?_) fun hb => ?_) k
    · cases it with
      | ev x => exact ev_c
      | «at» n => cases hb
    · cases it with
      | ev x => cases hb
      | «at» n =>
        have hn : n < ps.length := ho
        exact ev_op (ev_fld (ev_var rfl) hf C.clF (C.noF _ (by decide)) rfl) (ev_var rfl) (rv_ixT hl (atI_nat (natV_get (lensTo_get hn))))
/-- the item in which the event with a number is, and its number there -/
def inIt (ps : List (List Im)) : List Im → Nat → Option (Im × Nat)
  | [], _ => none
  | it :: r, n => if n < ilen1 ps it then some (it, n) else inIt ps r (n - ilen1 ps it)
def spWithinI (K : PySem.W.Frag) (A : Ad) : Sp := fun vs H Q _ => ∃ (f : Addr) (ps : List (List Im)) (j n : Nat) (p : List Im) (it : Im) (m : Nat), vs = [.ref f, .int (j : Nat), .int (n : Nat)] ∧ FolAt K A H f ps ∧ OkRow ps ∧ ps[j]? = some p ∧ inIt ps p n = some (it, m) ∧
  ∀ t H', Ex H H' → H' t = some (.tup [it.v, .int (m : Nat)]) → Q (.ref t) H'
theorem im_ok_mono {m n : Nat} {it : Im} (h : it.ok m) (l : m ≤ n) : it.ok n := by
  cases it with
  | ev x => exact h
  | «at» i => exact Nat.lt_of_lt_of_le h l
theorem ok_within (F : F10 K A) (T : T10 mg K A) (C : CF K A) : FnOk P w K mg base CX0 3 A.aWithin F.fWithin ["row", "part", "number"] (spWithinI K A) := by
  have bItemLength : Binds K F.fItemLength ["row", "item"] [] := F.FItemLength.binds (fun _ _ _ _ _ _ us hl => match us, hl with | [_, _], _ => rfl)
  have GItemLength := ok_itemLength (P := P) (w := w) (mg := mg) (base := base) F T C
  refine F.FWithin.ok scWithin (fun vs H Q E h => ?_) (fun cdv Ar outer s H vs Q E hr h => ?_)
  · obtain ⟨x, ps, _, _, _, _, _, rfl, _⟩ := h
    rfl
  · obtain ⟨f, ps, j, n, p, it, m, rfl, hF, ho, hj, hin, k⟩ := h
    have hF' := hF
    obtain ⟨dx, q, l, hf, ⟨us, hq, hul, hat⟩, hl⟩ := hF
    obtain ⟨a, ha, hb⟩ := hat j p hj
    have hr1 := hr
    refine ⟨_, (pss_cons (ps_for PassesOwn.never rfl (pi_tup (pe_ix ix_tup (pe_fld (pv 0) rfl) (pv 1) (fun _ _ => rfl))) (pg_name (i := 3) scWithin.nd rfl (Or.inl rfl)) (pss_cons (ps_if (pt_cmpR op_lt (pv 2) (pe_call GItemLength hr1 rfl T.gItemLength T.kItemLength bItemLength .nil pass0 (pa_cons (pv 0) (pa_cons (pv 3) pa_nil))) (nomark _)) (pss_one (ps_ret (pe_tup (pa_cons (pv 3) (pa_cons (pv 2) pa_nil))))) pss_nil)
  (pss_one (ps_set (i := 2) scWithin.nd rfl (Or.inl rfl) (pe_op op_sub (pv 2) (pe_call GItemLength hr1 rfl T.gItemLength T.kItemLength bItemLength .nil pass0 (pa_cons (pv 0) (pa_cons (pv 3) pa_nil))))))))
  (pss_one (ps_ret (pe_tup (pa_cons (pv 1) (pa_cons (pv 2) pa_nil)))))), ?_⟩
    change tSeq _ _ _ [some (.ref f), some (.int (j : Nat)), some (.int (n : Nat)), none] _
    refine q_forT (tl := tOp (rIxT K) (tFld K (tVar 0) "parts") (tVar 1)) (xs := p.map Im.v) (ev_op (ev_fld (ev_var rfl) hf C.clF (C.noF _ (by decide)) rfl) (ev_var rfl) (rv_ixT hq (atI_nat ha))) hb (fun i σ' H' => ∃ (x : Option V) (n' : Nat), σ' = [some (.ref f), some (.int (j : Nat)), some (.int (n' : Nat)), x] ∧ Ex H H' ∧ inIt ps (p.drop i) n' = some (it, m)) (fun H1 e1 => ⟨none, n, rfl, e1, hin⟩) (fun i σ' H' _ p => by obtain ⟨_, _, _, e, _⟩ := p; exact ex_t e hb) (fun i x σ' H' hx p => ?_) (fun σ' H' p => ?_)
    · obtain ⟨z, n', rfl, e1, hi⟩ := p
      obtain ⟨i2, hi2, rfl⟩ := im_get hx
      have hd : p.drop i = i2 :: p.drop (i + 1) := by
        have hlt := (List.getElem?_eq_some_iff.mp hi2)
        obtain ⟨h1, h2⟩ := hlt
        rw [List.drop_eq_getElem_cons h1, h2]
      rw [hd] at hi
      have hok : i2.ok ps.length := im_ok_mono (ho.ok j p hj i2 (List.mem_of_getElem? hi2)) (by have := (List.getElem?_eq_some_iff.mp hj).1; omega)
      have il : ∀ σ' : L2.St, σ'[0]? = some (some (.ref f)) → σ'[3]? = some (some i2.v) → ∀ E, Ev (tCall (spItemLen K A) [] E (tCons (tVar 0) (tCons (tVar 3) tNil))) σ' H' (.int (ilen1 ps i2 : Nat)) := fun σ' h0 h3 E =>
        ev_call (ea_cons (ev_var h0) (ea_cons (ev_var h3) ea_nil)) (fun H1 e Q q E => ⟨f, i2, ps, rfl, hF'.up (e1.trans e), hok, fun H2 e2 => q H2 e2⟩)
      show tSeq _ _ _ [some (.ref f), some (.int (j : Nat)), some (.int (n' : Nat)), some i2.v] _
      refine q_when (b := decide ((n' : Int) < (ilen1 ps i2 : Nat))) (et_test (ev_op (ev_var rfl) (il _ rfl rfl _) rv_I0)) (fun hb H2 e2 => ?_) fun hb H2 e2 => ?_
      · have hlt : n' < ilen1 ps i2 := by simpa using hb
        simp only [inIt, hlt, if_true, Option.some.injEq, Prod.mk.injEq] at hi
        obtain ⟨rfl, rfl⟩ := hi
        exact s_retU (eu_tup (ea_cons (ev_var rfl) (ea_cons (ev_var rfl) ea_nil)) (by simp)) fun t H3 ht e3 h3 => k t H3 (e1.trans (e2.trans e3)) h3
      · have hge : ¬ n' < ilen1 ps i2 := by simpa using hb
        simp only [inIt, hge, if_false] at hi
        refine s_asg (v := .int ((n' - ilen1 ps i2 : Nat) : Nat)) (ev_is (ev_op (ev_var rfl) (Ev.mono e2 (il _ rfl rfl _)) rv_I0) ?_) fun H3 e3 => ⟨_, _, rfl, e1.trans (e2.trans e3), hi⟩
        congr 1
        omega
    · obtain ⟨z, n', rfl, e1, hi⟩ := p
      rw [List.length_map, List.drop_length] at hi
      cases hi
end

/-! ### rows told out -/
def iunf (us : List (List Str)) : Im → List Str
  | .ev x => [x]
  | .at i => us.getD i []
def unfTo (ps : List (List Im)) (n : Nat) : List (List Str) := grow (fun us j => (ps.getD j []).flatMap (iunf us)) n
def unf1 (ps : List (List Im)) (j : Nat) : List Str := (ps.getD j []).flatMap (iunf (unfTo ps j))
def iunf1 (ps : List (List Im)) : Im → List Str
  | .ev x => [x]
  | .at i => unf1 ps i
theorem unfTo_get {ps : List (List Im)} {i n : Nat} (h : i < n) : (unfTo ps n)[i]? = some (unf1 ps i) := grow_get _ h
theorem iunf_eq {ps : List (List Im)} {n : Nat} {it : Im} (h : it.ok n) : iunf (unfTo ps n) it = iunf1 ps it := by
  cases it with
  | ev x => rfl
  | «at» i =>
    have h : i < n := h
    simp [iunf, iunf1, List.getD, unfTo_get h]
theorem flatMap_congr' {α β : Type} {f g : α → List β} : ∀ {l : List α}, (∀ x ∈ l, f x = g x) → l.flatMap f = l.flatMap g
  | [], _ => rfl
  | x :: l, h => by
    simp only [List.flatMap_cons]
    rw [h x (by simp), flatMap_congr' fun y hy => h y (by simp [hy])]
theorem unf1_eq {ps : List (List Im)} (ok : okParts ps) {j : Nat} {p : List Im} (h : ps[j]? = some p) : unf1 ps j = p.flatMap (iunf1 ps) := by
  unfold unf1
  rw [getD_some h]
  exact flatMap_congr' fun it hi => iunf_eq (ok j p h it hi)
theorem unf_len {ps : List (List Im)} (ok : okParts ps) : ∀ (n j : Nat), j < n → (unf1 ps j).length = len1 ps j := by
  intro n
  induction n with
  | zero => intro j h; omega
  | succ n ih =>
    intro j h
    cases hp : ps[j]? with
    | none =>
      have e : ps.getD j [] = [] := by simp [List.getD, hp]
      unfold unf1 len1 plen
      rw [e]
      rfl
    | some p =>
      rw [unf1_eq ok hp, len1_eq ok hp, List.length_flatMap]
      refine sum_congr fun it hi => ?_
      have := ok j p hp it hi
      cases it with
      | ev x => rfl
      | «at» i =>
        have hi : i < j := this
        exact ih i (by omega)
theorem iunf_len {ps : List (List Im)} (ok : okParts ps) (it : Im) : (iunf1 ps it).length = ilen1 ps it := by
  cases it with
  | ev x => rfl
  | «at» i => exact unf_len ok (i + 1) i (by omega)
theorem in_unf {ps : List (List Im)} (ok : okParts ps) : ∀ {p : List Im} {n : Nat} {x : Str}, (p.flatMap (iunf1 ps))[n]? = some x → ∃ it m, inIt ps p n = some (it, m) ∧ it ∈ p ∧ (iunf1 ps it)[m]? = some x
  | [], n, x, h => by simp at h
  | it :: r, n, x, h => by
    simp only [List.flatMap_cons] at h
    by_cases hn : n < ilen1 ps it
    · rw [List.getElem?_append_left (by rw [iunf_len ok]; exact hn)] at h
      exact ⟨it, n, by simp [inIt, hn], by simp, h⟩
    · rw [List.getElem?_append_right (by rw [iunf_len ok]; omega), iunf_len ok] at h
      obtain ⟨i2, m, h1, h2, h3⟩ := in_unf ok h
      exact ⟨i2, m, by simp [inIt, hn, h1], by simp [h2], h3⟩
section
variable {P : Program} {w : World} {K : PySem.W.Frag} {mg : Str → Option Value} {base : Heap} {A : Ad}
theorem q_par {i j : Nat} {ta : TA} {tz : TS} {D : Ends} {σ : L2.St} {H : Hp} {v u : V} (h : EvA ta σ H [v, u]) (k : ∀ H1, Ex H H1 → tz D ((σ.set i (some v)).set j (some u)) H1) : tSeq (tPar i j ta) tz D σ H := h H (Ex.refl H) _ fun H1 e => ⟨v, u, rfl, k H1 e⟩
theorem sp_asg {te : TE} {g : TG} {D : Ends} {σ : L2.St} {H : Hp} {P : V → Hp → Prop} (h : EvP te σ H P) (k : ∀ v H1, Ex H H1 → P v H1 → g v σ H1 D.nx) : tAsg te g D σ H := h H (Ex.refl H) _ k
def Im.rank : Im → Nat
  | .ev _ => 0
  | .at i => i + 1
def spEventAt (K : PySem.W.Frag) (A : Ad) : Sp := fun vs H Q _ => ∃ (f : Addr) (ps : List (List Im)) (n : Nat) (x : Str), vs = [.ref f, .int (n : Nat)] ∧ FolAt K A H f ps ∧ OkRow ps ∧ (unf1 ps (ps.length - 1))[n]? = some x ∧ RetV (.str x) H Q
theorem ev_lenTf {σ : L2.St} {H : Hp} {ta : TE} {p : Addr} {xs : List V} (ha : Ev ta σ H (.ref p)) (h : SqT K H p xs) : Ev (tCB (rLenS K) (tCons ta tNil)) σ H (.int (xs.length : Int)) := fun H1 e Q q =>
  ha H1 e _ fun H2 e2 => ⟨p, xs, rfl, .inr (ex_t (e.trans e2) h), q H2 e2⟩
theorem ok_eventAt (F : F10 K A) (T : T10 mg K A) (C : CF K A) : FnOk P w K mg base CX0 4 A.aEventAt F.fEventAt ["row", "number"] (spEventAt K A) := by
  obtain ⟨dn, vNeedFolded, bNeedFolded⟩ := b_need F
  have GNeedFolded := (ok_needFolded (P := P) (w := w) (mg := mg) (base := base) F T C).mono (show 1 ≤ 3 by omega)
  have bIsWithin : Binds K F.fIsWithin ["value", "least", "most"] [] := F.FIsWithin.binds (fun _ _ _ _ _ _ us hl => match us, hl with | [_, _, _], _ => rfl)
  have GIsWithin := (ok_isWithin (P := P) (w := w) (mg := mg) (base := base) F T).mono (show 2 ≤ 3 by omega)
  have bIsEvent : Binds K F.fIsEvent ["item"] [] := F.FIsEvent.binds (fun _ _ _ _ _ _ us hl => match us, hl with | [_], _ => rfl)
  have GIsEvent := (ok_isEvent (P := P) (w := w) (mg := mg) (base := base) F T).mono (show 1 ≤ 3 by omega)
  have bWithin : Binds K F.fWithin ["row", "part", "number"] [] := F.FWithin.binds (fun _ _ _ _ _ _ us hl => match us, hl with | [_, _, _], _ => rfl)
  have GWithin := ok_within (P := P) (w := w) (mg := mg) (base := base) F T C
  refine F.FEventAt.ok scEventAt (fun vs H Q E h => ?_) (fun cdv Ar outer s H vs Q E hr h => ?_)
  · obtain ⟨x, ps, _, _, rfl, _⟩ := h
    rfl
  · obtain ⟨f, ps, n, x, rfl, hF, ho, hx, k⟩ := h
    have hF' := hF
    obtain ⟨dx, q, l, hf, ⟨us, hq, hul, hat⟩, hl⟩ := hF
    have hn : n < len1 ps (ps.length - 1) := by
      have := (List.getElem?_eq_some_iff.mp hx).1
      rwa [unf_len ho.ok _ _ (Nat.lt_succ_self _)] at this
    have hr1 := hr
    refine ⟨_, (pss_cons (ps_expr (pe_call GNeedFolded hr1 rfl T.gNeedFolded T.kNeedFolded bNeedFolded vNeedFolded pass0 (pa_cons (pv 0) pa_nil)))
  (pss_cons (ps_if (pt_not (pt_val (pe_call GIsWithin hr1 rfl T.gIsWithin T.kIsWithin bIsWithin .nil pass0 (pa_cons (pv 1) (pa_cons pe_int (pa_cons (pe_op op_sub (pe_fld (pv 0) rfl) pe_int) pa_nil)))))) (pss_one ps_never) pss_nil)
  (pss_cons (ps_par (i := 2) (j := 3) (by rfl) scEventAt.nd rfl rfl (by decide) rfl rfl (pa_cons (pe_op op_sub (pe_callB call_len_seq (by rfl) T.b_len (by decide +kernel) (pa_cons (pe_fld (pv 0) rfl) pa_nil)) pe_int) (pa_cons (pv 1) pa_nil)) (by rfl))
  (pss_cons (ps_while PassesOwn.never (pt_not (pt_val (pe_call GIsEvent hr1 rfl T.gIsEvent T.kIsEvent bIsEvent .nil pass0 (pa_cons (pv 2) pa_nil)))) (pss_one (ps_asg (pe_call GWithin hr1 rfl T.gWithin T.kWithin bWithin .nil pass0 (pa_cons (pv 0) (pa_cons (pv 2) (pa_cons (pv 3) pa_nil)))) (pg_tup rfl (pgs_cons (pg_name (i := 2) scEventAt.nd rfl (Or.inl rfl)) (pgs_cons (pg_name (i := 3) scEventAt.nd rfl (Or.inl rfl)) pgs_nil))))))
  (pss_one (ps_ret (pv 2))))))), ?_⟩
    change tSeq _ _ _ [some (.ref f), some (.int (n : Nat)), none, none] _
    refine q_drop (v := .non) (ev_call (ea_cons (ev_var rfl) ea_nil) (fun H1 e Q q E => ⟨f, .str "row", _, _, rfl, e _ _ hf, fun H2 e2 => q H2 e2⟩)) fun H1 e1 => ?_
    refine q_when (b := !(inB (.int (n : Nat)) 0 ((len1 ps (ps.length - 1) : Nat) - 1))) (et_not (et_B (ev_call (ea_cons (ev_var rfl) (ea_cons ev_c (ea_cons (ev_op (ev_fld (ev_var rfl) (e1 _ _ hf) C.clF (C.noF _ (by decide)) rfl) ev_c rv_I0) ea_nil))) (fun H2 e2 Q q E => ⟨.int (n : Nat), .int (n : Nat), 0, _, rfl, .int _, rfl, fun H3 e3 => q H3 e3⟩)))) (fun hb H2 e2 => ?_) fun hb H2 e2 => ?_
    · exfalso
      simp [inB] at hb
      omega
    · refine q_par (v := .int (((us.length : Nat) : Int) - 1)) (u := .int (n : Nat)) (ea_cons (ev_op (ev_lenTf (ev_fld (ev_var rfl) (e2 _ _ (e1 _ _ hf)) C.clF (C.noF _ (by decide)) rfl) (ex_t (e1.trans e2) hq)) ev_c rv_I0) (ea_cons (ev_var rfl) ea_nil)) fun H3 e3 => ?_
      have h0 : ((us.length : Nat) : Int) - 1 = ((ps.length - 1 : Nat) : Int) := by have := ho.ne; omega
      rw [h0]
      show tSeq _ _ _ [some (.ref f), some (.int (n : Nat)), some (.int ((ps.length - 1 : Nat) : Int)), some (.int (n : Nat))] _
      refine q_while (fun m σ' H' => ∃ (it : Im) (n' : Nat), σ' = [some (.ref f), some (.int (n : Nat)), some it.v, some (.int (n' : Nat))] ∧ Ex H H' ∧ it.ok ps.length ∧ m = it.rank ∧ (iunf1 ps it)[n']? = some x) _ ⟨.at (ps.length - 1), n, rfl, e1.trans (e2.trans e3), by show ps.length - 1 < ps.length; have := ho.ne; omega, rfl, hx⟩ fun m σ' H' p => ?_
      obtain ⟨it, n', rfl, e4, hok, rfl, hx'⟩ := p
      refine ⟨!it.evB, et_not (et_B (ev_call (ea_cons (ev_var rfl) ea_nil) (fun H1 e Q q E => ⟨it, rfl, hok.d, fun H2 e2 => q H2 e2⟩))), fun hb H5 e5 => ?_, fun hb H5 e5 => ?_⟩
      · cases it with
        | ev y => cases hb
        | «at» j =>
          have hj : j < ps.length := hok
          have hpj : ps[j]? = some ps[j] := List.getElem?_eq_getElem hj
          have hx2 : (unf1 ps j)[n']? = some x := hx'
          rw [unf1_eq ho.ok hpj] at hx2
          obtain ⟨i2, m2, h1, h2, h3⟩ := in_unf ho.ok hx2
          have hi2 := ho.ok j _ hpj i2 h2
          refine ⟨_, fun σ2 H2 z => z, ?_⟩
          refine sp_asg (P := fun v H7 => ∃ t, v = .ref t ∧ H7 t = some (.tup [i2.v, .int (m2 : Nat)])) (ep_call (EvPs.of (ea_cons (ev_var rfl) (ea_cons (ev_var rfl) (ea_cons (ev_var rfl) ea_nil)))) (fun vs H6 e6 hvs Q q => ?_)) (fun v H7 e7 hv => ?_)
          · subst hvs
            exact ⟨f, ps, j, n', _, i2, m2, rfl, hF'.up (e4.trans (e5.trans e6)), ho, hpj, h1, fun t H7 e7 h7 => q _ H7 e7 ⟨t, rfl, h7⟩⟩
          · obtain ⟨t, rfl, h7⟩ := hv
            exact ⟨t, _, rfl, st_of h7, rfl, _, _, rfl, _, _, rfl, rfl, i2.rank, (by
              cases i2 with
              | ev y => exact Nat.succ_pos _
              | «at» i => exact Nat.succ_lt_succ hi2), i2, m2, rfl, e4.trans (e5.trans e7), im_ok_mono hi2 (Nat.le_of_lt hj), rfl, h3⟩
      · cases it with
        | «at» j => cases hb
        | ev y =>
          have : n' = 0 := by
            have := (List.getElem?_eq_some_iff.mp hx').1
            simp [iunf1] at this
            exact this
          subst this
          have hy : y = x := by simpa [iunf1] using hx'
          subst hy
          exact s_ret (ev_var rfl) fun H6 e6 => k H6 (e4.trans (e5.trans e6))
end

/-- the scope of a comprehension; the first argument of a call that is returned -/
def lcSc : Expr → Scope
  | .ListComp _ _ s _ => s
  | _ => defScope (top 0)
/-- names of the function that are cells, within its comprehensions -/
def relS (sc f : Scope) : Scope := { sc with names := sc.names.map fun (n, k) => if (k == NameKind.free && f.kind == .function && f.names.lookup n == some .cell) then (n, NameKind.cell) else (n, k) }
def asgVal : Stmt → Expr
  | .Assign _ e _ => e
  | _ => .Name "" ⟨0, 0, 0, 0⟩
def retArg : Stmt → Expr
  | .Return (some (.Call _ (e :: _) _ _)) _ => e
  | _ => .Name "" ⟨0, 0, 0, 0⟩
section
variable {P : Program} {w : World} {K : PySem.W.Frag} {mg : Str → Option Value} {base : Heap} {A : Ad}
theorem pi_listK {X : Cx} {K : PySem.W.Frag} {tg l : Expr} {tl : TE} (hK : X.K = K) (hl : PE X l tl) : PI X tg l (iList K tl) := by
  subst hK
  exact pi_list hl
theorem pi_tupK {X : Cx} {K : PySem.W.Frag} {tg l : Expr} {tl : TE} (hK : X.K = K) (hl : PE X l tl) : PI X tg l (iTup K tl) := by
  subst hK
  exact pi_tup hl
/-! ### lists of lists that are parts -/
def PinAt (K : PySem.W.Frag) (H : Hp) (q : Addr) (ps : List (List Im)) : Prop := ∃ us, SqL K H q us ∧ us.length = ps.length ∧ ∀ (i : Nat) (p : List Im), ps[i]? = some p → ∃ a : Addr, us[i]? = some (V.ref a) ∧ SqL K H a (p.map Im.v)
theorem PinAt.up {H H' : Hp} {q : Addr} {ps : List (List Im)} (e : Ex H H') (h : PinAt K H q ps) : PinAt K H' q ps := by
  obtain ⟨us, h1, h2, h3⟩ := h
  refine ⟨us, ex_l e h1, h2, fun i p hi => ?_⟩
  obtain ⟨a, h4, h5⟩ := h3 i p hi
  exact ⟨a, h4, ex_l e h5⟩
def partD (p : List Im) : PyData := .list (p.map Im.d)
def rowsD (ps : List (List Im)) : PyData := .list (ps.map partD)
theorem dpall_im {H : Hp} : ∀ p : List Im, DpAll K H (p.map Im.v) (p.map Im.d)
  | [] => .nil
  | it :: p => .cons (dp_im it) (dpall_im p)
theorem dp_part {H : Hp} {a : Addr} {p : List Im} (h : SqL K H a (p.map Im.v)) : Dp K H (.ref a) (partD p) := .lst h (dpall_im p)
theorem PinAt.dp {H : Hp} {q : Addr} {ps : List (List Im)} (h : PinAt K H q ps) : Dp K H (.ref q) (rowsD ps) := by
  obtain ⟨us, h1, h2, h3⟩ := h
  refine .lst h1 (dpall_of (by simp [h2]) fun j u d hu hd => ?_)
  rw [List.getElem?_map, Option.map_eq_some_iff] at hd
  obtain ⟨p, hp, rfl⟩ := hd
  obtain ⟨a, ha, hb⟩ := h3 j p hp
  rw [ha] at hu
  cases hu
  exact dp_part hb
theorem lay_all {α : Type} {f : α → PyData} : ∀ {l : List α}, (∀ x ∈ l, (f x).canLay0 = true) → PyData.canLayAll0 (l.map f) = true
  | [], _ => rfl
  | x :: l, h => by
    simp only [List.map_cons, PyData.canLayAll0, Bool.and_eq_true]
    exact ⟨h x (by simp), lay_all fun y hy => h y (by simp [hy])⟩
theorem lay_part {m : Nat} {p : List Im} (h : ∀ it ∈ p, Im.ok m it) : (partD p).canLay0 = true := by
  simp only [partD, PyData.canLay0]
  exact lay_all fun it hi => lay_im (h it hi).d
theorem lay_rows {ps : List (List Im)} (h : okParts ps) : (rowsD ps).canLay0 = true := by
  simp only [rowsD, PyData.canLay0]
  refine lay_all fun p hp => ?_
  obtain ⟨j, hj, e⟩ := List.getElem_of_mem hp
  exact lay_part (h j p (by rw [List.getElem?_eq_getElem hj, e]))
theorem Cw.up {H H' : Hp} {f : Nat → Bool} {v : Nat → V} {Dl : Addr} {i : Nat} (p : Cw H f v Dl i H') {H2 : Hp} (e : Ex H' H2) : Cw H f v Dl i H2 := ⟨p.1, p.2.1.trans e, e _ _ p.2.2⟩
theorem el_lcEn {σ : L2.St} {H : Hp} {te : TE} {a : Addr} {xs : List V} {ta : TA} {i j : Nat} {vs : List Nat} (v : Nat → V) (h : EvA ta σ H [.ref a]) (hx : SqL K H a xs) (hz : xs.length ≤ 40000) (hw : ∀ x y, wipe (((wipe σ vs).set i (some x)).set j (some y)) vs = wipe σ vs)
    (he : ∀ (n : Nat) (x : V) H1, Ex H H1 → xs[n]? = some x → Ev te (((wipe σ vs).set i (some (.int (n : Nat)))).set j (some x)) H1 (v n)) :
    EvL (tLc (iEnum K ta) (gTup K 2 (gCons (gName i) (gCons (gName j) gNil))) tYes te vs) σ H ((List.range xs.length).map v) := fun H0 e Q q => h H0 e _ fun H1 e1 => ⟨a, xs, rfl, ex_l (e.trans e1) hx, fun Dl hD =>
  lc_it (walk_enum (K := K) (a := a) (xs := xs)) (Cw H1 (fun _ => true) v Dl) ⟨hD, Ex.new hD, upd_same⟩ (fun i H' _ p => ex_l ((e.trans e1).trans p.2.1) hx) (fun n z H' H2 hi p y => by
    obtain ⟨T, x, y, rfl, hT, rfl, hx1, hy1⟩ := y
    have hx2 : x = .int (n : Nat) := by simpa using hx1.symm
    subst hx2
    have p2 : Cw H1 (fun _ => true) v Dl n (upd H' T (.tup [.int (n : Nat), y])) := Cw.up p (Ex.new hT)
    exact ⟨T, _, rfl, st_of upd_same, rfl, _, _, rfl, _, _, rfl, rfl, hw _ _, cw_turn p2 (by omega) et_yes fun _ => he n y H1 (e.trans e1) hy1⟩) fun H' p => q Dl H' (fresh_back e1 p.1) (e1.trans p.2.1) (by rw [← given_all]; exact p.2.2)⟩
def spAre (K : PySem.W.Frag) : Sp := fun vs H Q _ => ∃ (a : Addr) (ps : List (List Im)), vs = [.ref a] ∧ PinAt K H a ps ∧ OkRow ps ∧ RetV (.bl true) H Q
theorem spv_lst {H : Hp} {v : V} {d : PyData} (h : Dp K H v d) (hd : d.canLay0 = true) (hs : isSeqD d = true) : SpV (spChk K isSeqD) [v] H (.bl true) := by
  rw [← hs]
  exact spv_chk h hd
theorem all_true : ∀ n : Nat, ((List.range n).map fun _ => true).all id = true := fun n => by simp
theorem ok_areParts (F : F10 K A) (T : T10 mg K A) : FnOk P w K mg base CX0 4 A.aAreParts F.fAreParts ["value"] (spAre K) := by
  obtain ⟨tp, hMOSTPARTS⟩ := T.gMOSTPARTS
  obtain ⟨ti, hMOSTITEMS⟩ := T.gMOSTITEMS
  have bIsListed : Binds K F.fIsListed ["value"] [] := F.FIsListed.binds (fun _ _ _ _ _ _ us hl => match us, hl with | [_], _ => rfl)
  have GIsListed := (ok_isListed (P := P) (w := w) (mg := mg) (base := base) F T).mono (show 1 ≤ 3 by omega)
  have bIsItem : Binds K F.fIsItem ["value", "many"] [] := F.FIsItem.binds (fun _ _ _ _ _ _ us hl => match us, hl with | [_, _], _ => rfl)
  have GIsItem := ok_isItem (P := P) (w := w) (mg := mg) (base := base) F T
  refine F.FAreParts.ok scAreParts (fun vs H Q E h => ?_) (fun cdv Ar outer s H vs Q E hr h => ?_)
  · obtain ⟨x, ps, rfl, _⟩ := h
    rfl
  · obtain ⟨a, ps, rfl, hp, ho, k⟩ := h
    have hp' := hp
    obtain ⟨us, hq, hul, hat⟩ := hp
    have few := ho.few
    have ne := ho.ne
    have hr1 := hr
    refine ⟨_, (pss_cons (ps_if (PW.pt (pw_or (pt_not (pt_val (pe_call GIsListed hr1 rfl T.gIsListed T.kIsListed bIsListed .nil pass0 (pa_cons (pv 0) pa_nil)))) (pw_or (pt_not (pt_chain op_le op_le pe_int (pe_callB call_len_seq (by rfl) T.b_len (by decide +kernel) (pa_cons (pv 0) pa_nil)) (pe_glob (v := .int 2000) rfl hMOSTPARTS ⟨_, rfl⟩))) (pw_or1 (pt_not (pt_val (pe_callB (cr_all rfl) (by rfl) T.b_all (by decide +kernel) (pa_cons (pe_lc (own := [("part", 1)]) rfl scAreParts.nd (pi_list (pv 0)) (blkOk_by (own := [("part", 1)]) (N := ["value", "part", "item", "at"]) (sc := defScope (top 20)) (by decide +kernel)) (fun _ _ _ _ _ => (pg_name (i := 1) scAreParts.nd rfl (Or.inl rfl))) (fun _ _ _ _ _ => pts_nil) (fun _ _ _ _ _ => (pe_call GIsListed hr1 rfl T.gIsListed T.kIsListed bIsListed .nil pass0 (pa_cons (pv 1) pa_nil)))) pa_nil)))))))) (pss_one (ps_ret pe_bl)) pss_nil)
  (pss_cons (ps_if (pt_cmpR op_gt (pe_callB (cr_sum rfl) (by rfl) T.b_sum (by decide +kernel) (pa_cons (pe_lc (own := [("part", 1)]) rfl scAreParts.nd (pi_list (pv 0)) (blkOk_by (own := [("part", 1)]) (N := ["value", "part", "item", "at"]) (sc := defScope (top 20)) (by decide +kernel)) (fun _ _ _ _ _ => (pg_name (i := 1) scAreParts.nd rfl (Or.inl rfl))) (fun _ _ _ _ _ => pts_nil) (fun _ _ _ _ _ => (pe_callB (callR_K (K := K) rLenS rfl call_len_seq) (by rfl) T.b_len (by decide +kernel) (pa_cons (pv 1) pa_nil)))) pa_nil)) (pe_glob (v := .int 20000) rfl hMOSTITEMS ⟨_, rfl⟩) (nomark _)) (pss_one (ps_ret pe_bl)) pss_nil)
  (pss_one (ps_ret (pe_callB (cr_all rfl) (by rfl) T.b_all (by decide +kernel) (pa_cons (pe_lc (own := [("at", 3), ("part", 1)]) rfl scAreParts.nd (pi_enum (by rfl) T.b_enumerate (pa_cons (pv 0) pa_nil)) (blkOk_by (own := [("at", 3), ("part", 1)]) (N := ["value", "part", "item", "at"]) (sc := defScope (top 20)) (by decide +kernel)) (fun _ _ _ _ _ => (OwnL.pg_tupC (K := K) (n := 2) rfl rfl (pgs_cons (pg_name (i := 3) scAreParts.nd rfl (Or.inr rfl)) (pgs_cons (pg_name (i := 1) scAreParts.nd rfl (Or.inl rfl)) pgs_nil)))) (fun _ _ _ _ _ => pts_nil) (fun _ _ _ _ _ => by exact (pe_callB (callR_K (K := K) rAll rfl (cr_all rfl)) (by rfl) T.b_all (by decide +kernel) (pa_cons (pe_lc (own := [("item", 2)]) rfl scAreParts.nd (pi_listK (K := K) rfl (pv 1)) (by exact blkOk_by (own := [("item", 2)]) (N := ["value", "part", "item", "at"]) (sc := lcSc (retArg ((defBody sAreParts).getD 2 (.Pass ⟨0, 0, 0, 0⟩)))) (by decide +kernel)) (fun _ _ _ _ _ => (pg_name (i := 2) scAreParts.nd rfl (Or.inl rfl))) (fun _ _ _ _ _ => pts_nil) (fun _ _ _ _ _ => (pe_call GIsItem hr1 rfl T.gIsItem T.kIsItem bIsItem .nil pass0 (pa_cons (pv 2) (pa_cons (pv 3) pa_nil))))) pa_nil)))) pa_nil)))))), ?_⟩
    have at' : ∀ (i : Nat) (x : V), us[i]? = some x → ∃ b p, x = .ref b ∧ ps[i]? = some p ∧ SqL K H b (p.map Im.v) := fun i x hx => by
      have hi : i < ps.length := by rw [← hul]; exact (List.getElem?_eq_some_iff.mp hx).1
      obtain ⟨b, h1, h2⟩ := hat i ps[i] (List.getElem?_eq_getElem hi)
      rw [h1] at hx
      cases hx
      exact ⟨b, _, rfl, List.getElem?_eq_getElem hi, h2⟩
    change tSeq _ _ _ [some (.ref a), none, none, none] _
    refine q_when (b := false) (et_is (et_or (et_not (et_B (ev_call (ea_cons (ev_var rfl) ea_nil) (spv_lst hp'.dp (lay_rows ho.ok) rfl)))) fun _ => et_or (et_not (et_test (ev_chain (k := decide ((1 : Int) ≤ (us.length : Nat))) (k' := decide (((us.length : Nat) : Int) ≤ 2000)) ev_c (ev_len (ev_var rfl) hq) rv_I0 fun _ => ⟨ev_c, rv_I0⟩))) fun _ => et_not (et_B (ev_all (bs := (List.range us.length).map fun _ => true) ?_))) ?_) (fun hb => by cases hb) fun _ H1 e1 => ?_
    · have q := el_lcL (K := K) (σ := [some (.ref a), none, none, none]) (H := H) (te := tCall (spChk K isSeqD) [] E0 (tCons (tVar 1) tNil)) (tl := tVar 0) (t := tYes) (j := 1) (vs := [1]) (fun _ => true) (fun _ => .bl true) (ev_var rfl) hq (by omega) (fun x => rfl) (fun j x H4 e4 hx => et_yes) (fun j x H4 e4 hx _ => ?_)
      · rw [given_all] at q
        rw [List.map_map]
        exact q
      · obtain ⟨b, p, rfl, hpi, hb⟩ := at' j x hx
        exact ev_call (ea_cons (ev_var rfl) ea_nil) (spv_lst (dp_part (ex_l e4 hb)) (lay_part (ho.ok j p hpi)) rfl)
    · have h1 : decide ((1 : Int) ≤ (us.length : Nat)) = true := by simp; omega
      have h2 : decide (((us.length : Nat) : Int) ≤ 2000) = true := by simp; omega
      rw [h1, h2, all_true]
      rfl
    · refine q_when (b := decide ((((ps.map List.length).sum : Nat) : Int) > 20000)) (et_test (ev_op (ev_is (ev_sum (ns := ps.map fun p => ((p.length : Nat) : Int)) ?_) (by rw [int_sum])) ev_c rv_I0)) (fun hb => ?_) fun _ H2 e2 => ?_
      · have q := el_lcL (K := K) (σ := [some (.ref a), none, none, none]) (H := H1) (te := tCB (rLenS K) (tCons (tVar 1) tNil)) (tl := tVar 0) (t := tYes) (j := 1) (vs := [1]) (fun _ => true) (fun i => .int (((ps.getD i []).length : Nat) : Int)) (ev_var rfl) (ex_l e1 hq) (by omega) (fun x => rfl) (fun j x H4 e4 hx => et_yes) (fun j x H4 e4 hx _ => ?_)
        · rw [given_all, hul, range_map_getD ps [] (fun p => V.int ((p.length : Nat) : Int))] at q
          rw [List.map_map]
          exact q
        · obtain ⟨b, p, rfl, hpi, hb⟩ := at' j x hx
          rw [getD_some hpi]
          exact ev_is (ev_len (ev_var rfl) (ex_l (e1.trans e4) hb)) (by simp)
      · have := ho.tot
        simp at hb
        omega
      · refine s_ret (v := .bl true) (ev_is (ev_all (bs := (List.range us.length).map fun _ => true) ?_) (by rw [all_true])) fun H3 e3 => k H3 (e1.trans (e2.trans e3))
        have q := el_lcEn (K := K) (σ := [some (.ref a), none, none, none]) (H := H2) (te := tCB (rAll K) (tCons (tLc (iList K (tVar 1)) (gName 2) tYes (tCall (spItem K) [] E0 (tCons (tVar 2) (tCons (tVar 3) tNil))) [2]) tNil)) (ta := tCons (tVar 0) tNil) (i := 3) (j := 1) (vs := [3, 1]) (fun _ => .bl true) (ea_cons (ev_var rfl) ea_nil) (ex_l (e1.trans e2) hq) (by omega) (fun x y => rfl) (fun n x H4 e4 hx => ?_)
        · rw [List.map_map]
          exact q
        · obtain ⟨b, p, rfl, hpi, hb⟩ := at' n x hx
          have hb2 := ex_l (e1.trans (e2.trans e4)) hb
          have thin := ho.thin p (List.mem_of_getElem? hpi)
          refine ev_is (ev_all (bs := (List.range p.length).map fun _ => true) ?_) (by rw [all_true])
          have q := el_lcL (K := K) (σ := [some (.ref a), some (.ref b), none, some (.int (n : Nat))]) (H := H4) (te := tCall (spItem K) [] E0 (tCons (tVar 2) (tCons (tVar 3) tNil))) (tl := tVar 1) (t := tYes) (j := 2) (vs := [2]) (fun _ => true) (fun _ => .bl true) (ev_var rfl) hb2 (by rw [List.length_map]; omega) (fun x => rfl) (fun j x H5 e5 hx => et_yes) (fun j x H5 e5 hx _ => ?_)
          · rw [given_all, List.length_map] at q
            rw [List.map_map]
            exact q
          · obtain ⟨it, hit, rfl⟩ := im_get hx
            exact ev_call (ea_cons (ev_var rfl) (ea_cons (ev_var rfl) ea_nil)) fun H6 e6 Q q E => ⟨it, n, rfl, ho.ok n p hpi it (List.mem_of_getElem? hit), fun H7 e7 => q H7 e7⟩
end

section
variable {P : Program} {w : World} {K : PySem.W.Frag} {mg : Str → Option Value} {base : Heap} {A : Ad}
/-! ### making a row -/
theorem q_fld {σ : L2.St} {H : Hp} {i : Nat} {tv : TE} {f : Str} {tz : TS} {D : Ends} {x C dx : Addr} {fs : List (Str × V)} {P : V → Hp → Prop} (hs : σ[i]? = some (some (.ref x))) (h : EvP tv σ H P) (hx : H x = some (.ins C dx fs)) (c : Cls K C) (n : NoAttr K C f) (hl : fs.length < 1000)
    (k : ∀ v H1, Ex H H1 → P v H1 → tz D σ (upd H1 x (.ins C dx (putF f v fs)))) : tSeq (sFld K (tVar i) tv f) tz D σ H := h H (Ex.refl H) _ fun v H1 e p => ⟨_, hs, x, C, dx, fs, rfl, e x _ hx, c, n, hl, k v H1 e p⟩
theorem s_fld {σ : L2.St} {H : Hp} {i : Nat} {tv : TE} {f : Str} {D : Ends} {x C dx : Addr} {fs : List (Str × V)} {P : V → Hp → Prop} (hs : σ[i]? = some (some (.ref x))) (h : EvP tv σ H P) (hx : H x = some (.ins C dx fs)) (c : Cls K C) (n : NoAttr K C f) (hl : fs.length < 1000)
    (k : ∀ v H1, Ex H H1 → P v H1 → D.nx σ (upd H1 x (.ins C dx (putF f v fs)))) : sFld K (tVar i) tv f D σ H := h H (Ex.refl H) _ fun v H1 e p => ⟨_, hs, x, C, dx, fs, rfl, e x _ hx, c, n, hl, k v H1 e p⟩
theorem dp_tup_inv {H : Hp} {v : V} {ds : List PyData} (h : Dp K H v (.tuple ds)) : ∃ q us, v = .ref q ∧ SqT K H q us ∧ DpAll K H us ds := by
  cases h with
  | tup h1 h2 => exact ⟨_, _, rfl, h1, h2⟩
theorem tupd_im (it : Im) : tupd it.d = it.d := by cases it <;> rfl
theorem dp_im_inv {H : Hp} {v : V} {it : Im} (h : Dp K H v it.d) : v = it.v := by
  cases it with
  | ev x => cases h; rfl
  | «at» i => cases h; rfl
theorem dpall_im_inv {H : Hp} : ∀ {us : List V} {p : List Im}, DpAll K H us (p.map Im.d) → us = p.map Im.v
  | [], [], _ => rfl
  | u :: us, it :: p, h => by
    cases h with
    | cons h1 h2 => rw [dp_im_inv h1, dpall_im_inv h2]; rfl
  | [], _ :: _, h => by cases h
  | _ :: _, [], h => by cases h
theorem pts_of {H : Hp} {v : V} {ps : List (List Im)} (h : Dp K H v (tupd (rowsD ps))) : ∃ q, v = .ref q ∧ PtsAt K H q ps := by
  have h' : Dp K H v (.tuple (tupdAll (ps.map partD))) := h
  obtain ⟨q, us, rfl, hq, ha⟩ := dp_tup_inv h'
  have hl := DpAll.length ha
  rw [tupdAll_map, List.length_map, List.length_map] at hl
  refine ⟨q, rfl, us, hq, hl, fun i p hp => ?_⟩
  have hi : i < us.length := by rw [hl]; exact (List.getElem?_eq_some_iff.mp hp).1
  obtain ⟨d, hd, hdp⟩ := DpAll.get ha (List.getElem?_eq_getElem hi)
  rw [tupdAll_map, List.getElem?_map, List.getElem?_map, hp] at hd
  have hd2 : d = .tuple (tupdAll (p.map Im.d)) := by
    have : tupd (partD p) = d := by simpa using hd
    rw [← this]
    rfl
  subst hd2
  obtain ⟨b, us2, hu, hq2, ha2⟩ := dp_tup_inv hdp
  rw [tupdAll_map, List.map_map, show (tupd ∘ Im.d) = Im.d from funext tupd_im] at ha2
  rw [dpall_im_inv ha2] at hq2
  exact ⟨b, by rw [List.getElem?_eq_getElem hi, hu], hq2⟩
theorem depth_all {α : Type} {f : α → PyData} {n : Nat} : ∀ {l : List α}, (∀ x ∈ l, (f x).depth ≤ n) → PyData.depthAll (l.map f) ≤ n
  | [], _ => Nat.zero_le _
  | x :: l, h => by
    simp only [List.map_cons, PyData.depthAll]
    exact Nat.max_le.mpr ⟨h x (by simp), depth_all fun y hy => h y (by simp [hy])⟩
theorem wide_all {α : Type} {f : α → PyData} {n : Nat} : ∀ {l : List α}, (∀ x ∈ l, wide (f x) ≤ n) → wideAll (l.map f) ≤ n
  | [], _ => Nat.zero_le _
  | x :: l, h => by
    simp only [List.map_cons, wideAll]
    exact Nat.max_le.mpr ⟨h x (by simp), wide_all fun y hy => h y (by simp [hy])⟩
theorem depth_rows (ps : List (List Im)) : (rowsD ps).depth ≤ 3 := by
  have h1 : ∀ p : List Im, (partD p).depth ≤ 2 := fun p => by
    have : PyData.depthAll (p.map Im.d) ≤ 1 := depth_all fun it _ => by cases it <;> simp [Im.d, PyData.depth]
    simp only [partD, PyData.depth]
    omega
  have : PyData.depthAll (ps.map partD) ≤ 2 := depth_all fun p _ => h1 p
  simp only [rowsD, PyData.depth]
  omega
theorem wide_rows {ps : List (List Im)} (ho : OkRow ps) : wide (rowsD ps) ≤ 40000 := by
  have h1 : ∀ p ∈ ps, wide (partD p) ≤ 40000 := fun p hp => by
    have h2 : wideAll (p.map Im.d) ≤ 0 := wide_all fun it _ => by cases it <;> simp [Im.d, wide]
    have := ho.thin p hp
    simp only [partD, wide, List.length_map]
    omega
  have h3 := wide_all (f := partD) h1
  have := ho.few
  simp only [rowsD, wide, List.length_map]
  omega
/-- Folded(parts): x is the row that is made -/
def spFInit (K : PySem.W.Frag) (A : Ad) : Sp := fun vs H Q _ => ∃ (x a dx : Addr) (ps : List (List Im)), vs = [.ref x, .ref a] ∧ H x = some (.ins A.cFolded dx []) ∧ PinAt K (hid [x] H) a ps ∧ OkRow ps ∧
  ∀ H', Ex (hid [x] H) (hid [x] H') → FolAt K A H' x ps → Q .non H'
theorem natV_snoc (ns : List Nat) (n : Nat) : natV (ns ++ [n]) = natV ns ++ [.int (n : Nat)] := by simp [natV]
theorem SqT.hid {H : Hp} {S : List Addr} {a : Addr} {xs : List V} (h : H a = some (.tup xs)) (n : a ∉ S) : SqT K (hid S H) a xs := st_of (hid_at n h)
theorem ok_finit (F : F10 K A) (T : T10 mg K A) (C : CF K A) : FnOk P w K mg base CX0 5 A.aFInit F.fFInit ["self", "parts"] (spFInit K A) := by
  have bAreParts : Binds K F.fAreParts ["value"] [] := F.FAreParts.binds (fun _ _ _ _ _ _ us hl => match us, hl with | [_], _ => rfl)
  have GAreParts := ok_areParts (P := P) (w := w) (mg := mg) (base := base) F T
  have bFixed : Binds K F.fFixed ["value"] [] := F.FFixed.binds (fun _ _ _ _ _ _ us hl => match us, hl with | [_], _ => rfl)
  have GFixed := ok_fixed (P := P) (w := w) (mg := mg) (base := base) F T 3
  have bLengthsOf : Binds K F.fLengthsOf ["parts"] [] := F.FLengthsOf.binds (fun _ _ _ _ _ _ us hl => match us, hl with | [_], _ => rfl)
  have GLengthsOf := (ok_lengthsOf (P := P) (w := w) (mg := mg) (base := base) F T).mono (show 1 ≤ 4 by omega)
  refine F.FFInit.ok scFInit (fun vs H Q E h => ?_) (fun cdv Ar outer s H vs Q E hr h => ?_)
  · obtain ⟨x, a, _, ps, rfl, _⟩ := h
    rfl
  · obtain ⟨x, a, dx, ps, rfl, hx, hp, ho, k⟩ := h
    have hr1 := hr
    have hpo : PinAt K H a ps := hp.up (hid_out [x])
    refine ⟨_, (pss_cons (ps_if (pt_not (pt_val (pe_call GAreParts hr1 rfl T.gAreParts T.kAreParts bAreParts .nil pass0 (pa_cons (pv 1) pa_nil)))) (pss_one ps_never) pss_nil)
  (pss_cons (ps_fld (pv 0) (pe_call GFixed hr1 rfl T.gFixed T.kFixed bFixed .nil pass0 (pa_cons (pv 1) pa_nil)) rfl)
  (pss_cons (ps_fld (pv 0) (pe_call GLengthsOf hr1 rfl T.gLengthsOf T.kLengthsOf bLengthsOf .nil pass0 (pa_cons (pe_fld (pv 0) rfl) pa_nil)) rfl)
  (pss_one (ps_fld (pv 0) (pe_ix ix_tup (pe_fld (pv 0) rfl) (pe_un un_neg pe_int) (fun _ _ => rfl)) rfl))))), ?_⟩
    change tSeq _ _ _ [some (.ref x), some (.ref a)] _
    refine q_when (b := !true) (et_not (et_B (ev_call (ea_cons (ev_var rfl) ea_nil) (fun H1 e Q q E => ⟨a, ps, rfl, hpo.up e, ho, fun H2 e2 => q H2 e2⟩)))) (fun hb => by cases hb) fun _ H1 e1 => ?_
    refine q_fld (P := fun r H2 => Dp K (hid [x] H2) r (tupd (rowsD ps))) rfl (ep_call (EvPs.of (ea_cons (ev_var rfl) ea_nil)) fun vs H2 e2 hvs Q q => ?_) (e1 x _ hx) C.clF (C.noF _ (by decide)) (by simp) fun r H2 e2 hr => ?_
    · subst hvs
      exact ⟨_, rowsD ps, [x], rfl, fun b hb => by rw [List.mem_singleton.mp hb, e2 _ _ (e1 _ _ hx)]; simp, Dp.ext (hid_ex (e1.trans e2)) hp.dp, lay_rows ho.ok, depth_rows ps, wide_rows ho, fun r H' e3 hr => q r H' e3 hr⟩
    · obtain ⟨q, rfl, hq⟩ := pts_of hr
      have hq1 : PtsAt K (hid [x] (upd H2 x (.ins A.cFolded dx [("parts", .ref q)]))) q ps := by rw [hid_upd (by simp)]; exact hq
      have ex1 : Ex (hid [x] H) (hid [x] (upd H2 x (.ins A.cFolded dx [("parts", .ref q)]))) := by rw [hid_upd (by simp)]; exact hid_ex (e1.trans e2)
      have hx1 : (upd H2 x (.ins A.cFolded dx [("parts", .ref q)])) x = some (.ins A.cFolded dx [("parts", .ref q)]) := upd_same
      show tSeq _ _ _ [some (.ref x), some (.ref a)] (upd H2 x (.ins A.cFolded dx [("parts", .ref q)]))
      generalize upd H2 x (.ins A.cFolded dx [("parts", .ref q)]) = H3 at *
      refine q_fld (P := fun r H2 => ∃ l, r = .ref l ∧ H2 l = some (.tup (natV (lensTo ps ps.length)))) rfl (ep_call (EvPs.of (ea_cons (ev_fld (ev_var rfl) hx1 C.clF (C.noF _ (by decide)) rfl) ea_nil)) fun vs H4 e4 hvs Q qq => ?_) hx1 C.clF (C.noF _ (by decide)) (by simp) fun r H4 e4 hr => ?_
      · subst hvs
        exact ⟨q, ps, rfl, (hq1.up (hid_out [x])).up e4, ho, fun t H' e5 h5 => qq _ H' e5 ⟨t, rfl, h5⟩⟩
      · obtain ⟨l, rfl, hl⟩ := hr
        have nl : l ∉ [x] := fun h => by
          rw [List.mem_singleton.mp h, e4 _ _ hx1] at hl
          cases hl
        have hl2 : SqT K (hid [x] H4) l (natV (lensTo ps ps.length)) := SqT.hid hl nl
        have ex2 : Ex (hid [x] H3) (hid [x] H4) := hid_ex e4
        have hl3 : SqT K (hid [x] (upd H4 x (.ins A.cFolded dx [("parts", .ref q), ("lengths", .ref l)]))) l (natV (lensTo ps ps.length)) := by rw [hid_upd (by simp)]; exact hl2
        have ex3 : Ex (hid [x] H3) (hid [x] (upd H4 x (.ins A.cFolded dx [("parts", .ref q), ("lengths", .ref l)]))) := by rw [hid_upd (by simp)]; exact ex2
        have hx2 : (upd H4 x (.ins A.cFolded dx [("parts", .ref q), ("lengths", .ref l)])) x = some (.ins A.cFolded dx [("parts", .ref q), ("lengths", .ref l)]) := upd_same
        show sFld K (tVar 0) _ "length" _ [some (.ref x), some (.ref a)] (upd H4 x (.ins A.cFolded dx [("parts", .ref q), ("lengths", .ref l)]))
        generalize upd H4 x (.ins A.cFolded dx [("parts", .ref q), ("lengths", .ref l)]) = H5 at *
        have hlast : atI (natV (lensTo ps ps.length)) (-1) = some (.int (len1 ps (ps.length - 1) : Nat)) := by
          obtain ⟨n, hn⟩ : ∃ n, ps.length = n + 1 := ⟨ps.length - 1, by have := ho.ne; omega⟩
          rw [hn, lensTo_succ, natV_snoc]
          exact atI_last _ _
        refine s_fld (P := fun r _ => r = .int (len1 ps (ps.length - 1) : Nat)) rfl (EvP.of (ev_op (ev_fld (ev_var rfl) hx2 C.clF (C.noF _ (by decide)) rfl) (ev_un ev_c ru_neg) (rv_ixT (ex_t (hid_out [x]) hl3) hlast))) hx2 C.clF (C.noF _ (by decide)) (by simp) fun r H6 e6 hr => ?_
        subst hr
        refine k _ ?_ ⟨dx, q, l, upd_same, ?_, ?_⟩
        · rw [hid_upd (by simp)]
          exact ex1.trans (ex3.trans (hid_ex e6))
        · refine PtsAt.up (hid_out [x]) ?_
          rw [hid_upd (by simp)]
          exact (hq1.up ex3).up (hid_ex e6)
        · refine ex_t (hid_out [x]) ?_
          rw [hid_upd (by simp)]
          exact ex_t (hid_ex e6) hl3
end

/-! ### which parts are used -/
theorem sum_one {f g : Nat → Nat} {i : Nat} : ∀ {l : List Nat}, l.Nodup → i ∈ l → (∀ j ∈ l, j ≠ i → f j = g j) → (l.map f).sum + g i = (l.map g).sum + f i
  | [], _, h, _ => by cases h
  | j :: l, nd, hi, hs => by
    rw [List.nodup_cons] at nd
    simp only [List.map_cons, List.sum_cons]
    by_cases e : j = i
    · subst e
      have : (l.map f).sum = (l.map g).sum := sum_congr fun k hk => hs k (by simp [hk]) fun e => nd.1 (e ▸ hk)
      omega
    · have hi2 : i ∈ l := by
        rcases List.mem_cons.mp hi with h | h
        · exact absurd h.symm e
        · exact h
      have h1 := sum_one (f := f) (g := g) nd.2 hi2 fun k hk => hs k (by simp [hk])
      have h2 := hs j (by simp) e
      omega
def unv (ps : List (List Im)) (F : List Nat) : Nat := ((List.range ps.length).map fun j => if j ∈ F then 0 else (ps.getD j []).length).sum
theorem unv_add {ps : List (List Im)} {F : List Nat} {i : Nat} (hi : i < ps.length) (h : i ∉ F) : unv ps (F ++ [i]) + (ps.getD i []).length = unv ps F := by
  have q := sum_one (f := fun j => if j ∈ F ++ [i] then 0 else (ps.getD j []).length) (g := fun j => if j ∈ F then 0 else (ps.getD j []).length) (i := i) (l := List.range ps.length) List.nodup_range (List.mem_range.mpr hi) fun j _ hj => by simp [hj]
  simp only [h, if_false, List.mem_append, List.mem_singleton, or_true, if_true] at q
  unfold unv
  simp only [List.mem_append, List.mem_singleton]
  omega
theorem unv_nil (ps : List (List Im)) : unv ps [] = (ps.map List.length).sum := by
  unfold unv
  simp only [List.not_mem_nil, if_false]
  rw [range_map_getD ps [] List.length]
theorem nodup_len : ∀ (n : Nat) (F : List Nat), F.Nodup → (∀ i ∈ F, i < n) → F.length ≤ n
  | 0, [], _, _ => Nat.le_refl _
  | 0, i :: F, _, h => absurd (h i (by simp)) (by omega)
  | n + 1, F, nd, h => by
    by_cases hn : n ∈ F
    · have q := nodup_len n (F.erase n) (nd.erase n) fun i hi => by
        have h1 := h i (List.mem_of_mem_erase hi)
        have h2 : i ≠ n := fun e => by
          subst e
          exact (List.Nodup.not_mem_erase nd) hi
        omega
      rw [List.length_erase_of_mem hn] at q
      omega
    · have q := nodup_len n F nd fun i hi => by
        have h1 := h i hi
        have h2 : i ≠ n := fun e => hn (e ▸ hi)
        omega
      omega
structure Uses (ps : List (List Im)) (p : List Im) (U : List Nat) : Prop where
  asc : U.Pairwise (· < ·)
  low : ∀ i ∈ U, i < ps.length
  own : ∀ i, Im.at i ∈ p → i ∈ U
  cls : ∀ j ∈ U, ∀ q, ps[j]? = some q → ∀ i, Im.at i ∈ q → i ∈ U
def kvsOf (F : List Nat) : List (L2.Key × V) := F.map fun i => (Sum.inl ((i : Nat) : Int), V.bl true)
theorem kvs_val (F : List Nat) (i : Nat) : (valV (kvsOf F) (Sum.inl ((i : Nat) : Int))).isSome = decide (i ∈ F) := by
  rw [← valV_any]
  unfold kvsOf
  rw [List.any_map]
  by_cases h : i ∈ F
  · rw [decide_eq_true h, List.any_eq_true]
    exact ⟨i, h, by simp⟩
  · rw [decide_eq_false h, List.any_eq_false]
    intro j hj
    simp
    intro e
    have : j = i := by omega
    exact h (this ▸ hj)
theorem snoc_of {α : Type} {l : List α} (h : l ≠ []) : ∃ r x, l = r ++ [x] := ⟨l.dropLast, l.getLast h, (List.dropLast_concat_getLast h).symm⟩
theorem pair_lt_of {ns : List Nat} {zs : List Int} (nd : ns.Nodup) (h : zs.Perm (ns.map fun i => ((i : Nat) : Int))) (s : zs.Pairwise (· ≤ ·)) : ∃ U : List Nat, zs = U.map (fun i => ((i : Nat) : Int)) ∧ U.Perm ns ∧ U.Pairwise (· < ·) := by
  have e : ∀ z ∈ zs, (((z.toNat : Nat)) : Int) = z := fun z hz => by
    have := h.mem_iff.mp hz
    rw [List.mem_map] at this
    obtain ⟨i, _, rfl⟩ := this
    omega
  have e1 : zs = (zs.map Int.toNat).map (fun i => ((i : Nat) : Int)) := by
    rw [List.map_map]
    conv => lhs; rw [← List.map_id zs]
    exact List.map_congr_left fun z hz => (e z hz).symm
  have e2 : (zs.map Int.toNat).Perm ns := by
    have q := h.map Int.toNat
    rw [List.map_map] at q
    have : (Int.toNat ∘ fun i : Nat => ((i : Nat) : Int)) = id := funext fun i => by simp
    rwa [this, List.map_id] at q
  refine ⟨zs.map Int.toNat, e1, e2, ?_⟩
  have nd2 : (zs.map Int.toNat).Pairwise (· ≠ ·) := e2.symm.nodup nd
  have le : (zs.map Int.toNat).Pairwise (· ≤ ·) := by
    rw [List.pairwise_map]
    exact s.imp fun {a b} h => by omega
  have both := nd2.and le
  exact both.imp fun {a b} h => by
    obtain ⟨h1, h2⟩ := h
    omega
section
variable {P : Program} {w : World} {K : PySem.W.Frag} {mg : Str → Option Value} {base : Heap} {A : Ad}
theorem ev_dnotin {σ : L2.St} {H : Hp} {ty td : TE} {a : Addr} {kvs : List (L2.Key × V)} {k : L2.Key} (h1 : Ev ty σ H (kV k)) (h2 : Ev td σ H (.ref a)) (ha : H a = some (.dK kvs)) : Ev (tDNotIn ty td) σ H (.bl (!(valV kvs k).isSome)) := fun H1 e Q q =>
  h1 H1 e _ fun H2 e2 => h2 H2 (e.trans e2) _ fun H3 e3 => ⟨a, _, rfl, DGet.k ((e.trans (e2.trans e3)) a _ ha), q H3 (e2.trans e3)⟩
theorem eqv_nilD (ds : List PyData) : PyData.eqv (.list ds) (.list []) = decide (ds = []) := by
  cases ds with
  | nil => rfl
  | cons n r => rfl
theorem ev_neNil {σ : L2.St} {H : Hp} {te : TE} {l : Addr} {ln : List Im} (h : Ev te σ H (.ref l)) (hl : H l = some (.lst (ln.map Im.v))) (ok : ∀ it ∈ ln, okD it) : Ev (tOp (rNeD K) te (tLst tNil)) σ H (.bl (!decide (ln = []))) :=
  ev_opL (xs := []) h (el_lst ea_nil (by simp)) fun p H1 hp e H2 e2 Q q => ⟨partD ln, .list [], dp_part (sq_of (e2 _ _ (e _ _ hl))), .lst (sq_of (e2 _ _ hp)) .nil, by
    have h1 : (partD ln).canLay0 = true := by
      simp only [partD, PyData.canLay0]
      exact lay_all fun it hi => lay_im (ok it hi)
    have h2 : PyData.depthAll (ln.map Im.d) ≤ 1 := depth_all fun it _ => by cases it <;> simp [Im.d, PyData.depth]
    unfold SeqAt.shaped
    rw [h1, Bool.true_and]
    refine decide_eq_true ?_
    simp only [partD, PyData.depth]
    omega, by decide +kernel, by
    rw [show PyData.eqv (partD ln) (.list []) = decide (ln = []) from by
      unfold partD
      rw [eqv_nilD]
      simp]
    exact q H2 (Ex.refl H2)⟩
/-- parts in a list or in a tuple -/
def PtsG (K : PySem.W.Frag) (H : Hp) (q : Addr) (ps : List (List Im)) : Prop := ∃ us, (SqL K H q us ∨ SqT K H q us) ∧ us.length = ps.length ∧ ∀ (i : Nat) (p : List Im), ps[i]? = some p → ∃ a : Addr, us[i]? = some (V.ref a) ∧ SqT K H a (p.map Im.v)
theorem PtsG.up {H H' : Hp} {q : Addr} {ps : List (List Im)} (e : Ex H H') (h : PtsG K H q ps) : PtsG K H' q ps := by
  obtain ⟨us, h1, h2, h3⟩ := h
  refine ⟨us, h1.imp (ex_l e) (ex_t e), h2, fun i p hi => ?_⟩
  obtain ⟨a, h4, h5⟩ := h3 i p hi
  exact ⟨a, h4, ex_t e h5⟩
theorem PtsAt.g {H : Hp} {q : Addr} {ps : List (List Im)} (h : PtsAt K H q ps) : PtsG K H q ps := by
  obtain ⟨us, h1, h2, h3⟩ := h
  exact ⟨us, .inr h1, h2, h3⟩
def spUsed (K : PySem.W.Frag) : Sp := fun vs H Q _ => ∃ (q a : Addr) (ps : List (List Im)) (p : List Im), vs = [.ref q, .ref a] ∧ PtsG K H q ps ∧ SqT K H a (p.map Im.v) ∧ OkRow ps ∧ (∀ it ∈ p, Im.ok ps.length it) ∧ p.length ≤ 20000 ∧
  ∀ U t H', Ex H H' → H t = none → Uses ps p U → H' t = some (.lst (natV U)) → Q (.ref t) H'
theorem ok_usedIn (F : F10 K A) (T : T10 mg K A) : FnOk P w K mg base CX0 2 A.aUsedIn F.fUsedIn ["parts", "part"] (spUsed K) := by
  have bIsEvent : Binds K F.fIsEvent ["item"] [] := F.FIsEvent.binds (fun _ _ _ _ _ _ us hl => match us, hl with | [_], _ => rfl)
  have GIsEvent := ok_isEvent (P := P) (w := w) (mg := mg) (base := base) F T
  refine F.FUsedIn.ok scUsedIn (fun vs H Q E h => ?_) (fun cdv Ar outer s H vs Q E hr h => ?_)
  · obtain ⟨x, a, _, _, rfl, _⟩ := h
    rfl
  · obtain ⟨q, a, ps, p, rfl, hp, ha, ho, hok, hl, k⟩ := h
    have hr1 := hr
    have hu := hr.units
    have hu1 := Nat.lt_of_le_of_lt (Nat.add_le_add_left (show 1 ≤ 64 by omega) _) hu
    have few := ho.few
    have tot := ho.tot
    refine ⟨_, (pss_cons (ps_par (i := 2) (j := 3) (by rfl) scUsedIn.nd rfl rfl (by decide) rfl rfl (pa_cons pe_dnewK (pa_cons (pe_callTy call_list_of (by rfl) T.b_list (by decide +kernel) (pa_cons (pv 1) pa_nil)) pa_nil)) (by rfl))
  (pss_cons (ps_while PassesOwn.never (pt_cmpR (op_neD hu) (pv 3) (pe_lst pa_nil) (nomark _)) (pss_cons (ps_set (i := 4) scUsedIn.nd rfl (Or.inl rfl) (pe_bm0 PySem.F.plainAttrs_list PySem.F.slot_list_pop PySem.F.type_list_pop mt_pop (pv 3)))
  (pss_one (ps_if (PW.pt (pw_and (pt_not (pt_val (pe_call GIsEvent hr1 rfl T.gIsEvent T.kIsEvent bIsEvent .nil pass0 (pa_cons (pv 4) pa_nil)))) (pw_and1 (pt_cmp (pc_dnotin hu1 (pv 4) (pv 2)))))) (pss_cons (ps_asg pe_bl (pg_sub (pv 2) (pv 4) (set_dict hu1)))
  (pss_one (ps_expr (pe_bm PySem.F.plainAttrs_list PySem.F.slot_list_extend PySem.F.type_list_extend mt_extT (pv 3) (pa_cons (pe_ix ix_both (pv 0) (pv 4) (fun _ _ => rfl)) pa_nil))))) pss_nil))))
  (pss_one (ps_ret (pe_callB (cr_sortDI rfl) (by rfl) T.b_sorted (by decide +kernel) (pa_cons (pv 2) pa_nil)))))), ?_⟩
    change tSeq _ _ _ [some (.ref q), some (.ref a), none, none, none] _
    intro D hD
    refine ⟨_, rfl, a, _, rfl, .inr (ex_t (Ex.new hD) ha), fun L hL => ⟨_, _, rfl, ?_⟩⟩
    have nLD : L ≠ D := fun e => by rw [e, upd_same] at hL; cases hL
    have hL0 : H L = none := by rw [upd_ne nLD] at hL; exact hL
    show tSeq _ _ _ [some (.ref q), some (.ref a), some (.ref D), some (.ref L), none] _
    refine q_while (fun m σ' H' => ∃ (F : List Nat) (ln : List Im) (x : Option V), σ' = [some (.ref q), some (.ref a), some (.ref D), some (.ref L), x] ∧ Ex H H' ∧ H' D = some (.dK (kvsOf F)) ∧ H' L = some (.lst (ln.map Im.v)) ∧ (∀ it ∈ ln, Im.ok ps.length it) ∧ F.Nodup ∧ (∀ i ∈ F, i < ps.length) ∧
      (∀ i, Im.at i ∈ p → i ∈ F ∨ Im.at i ∈ ln) ∧ (∀ j ∈ F, ∀ q, ps[j]? = some q → ∀ i, Im.at i ∈ q → i ∈ F ∨ Im.at i ∈ ln) ∧ m = ln.length + unv ps F ∧ m ≤ 40000) (p.length + unv ps []) ⟨[], p, none, rfl, (Ex.new hD).trans (Ex.new hL), by rw [upd_ne nLD.symm, upd_same]; rfl, upd_same, hok, List.nodup_nil, by simp, fun i h => .inr h, by simp, rfl, by rw [unv_nil]; omega⟩ (fun m σ' H' pr => ?_)
    obtain ⟨F, ln, x, rfl, e1, hDk, hLl, okl, nd, low, own, cls, rfl, lim⟩ := pr
    refine ⟨!decide (ln = []), et_test (ev_neNil (ev_var rfl) hLl fun it hi => (okl it hi).d), fun hb H2 e2 => ?_, fun hb H2 e2 => ?_⟩
    · have ne : ln ≠ [] := by simpa using hb
      obtain ⟨ln, it, rfl⟩ := snoc_of ne
      have hit := okl it (by simp)
      have okl' : ∀ i ∈ ln, Im.ok ps.length i := fun i hi => okl i (by simp [hi])
      have hL2 := e2 _ _ hLl
      refine ⟨_, fun σ2 H2 z => z, ?_⟩
      refine ⟨_, rfl, Or.inl ⟨rfl, _, sq_of hL2⟩, L, _, it.v, rfl, rfl, hL2, by simp, ?_⟩
      have hdl : ((ln ++ [it]).map Im.v).dropLast = ln.map Im.v := by simp
      rw [hdl]
      have e3 : Ex H (upd H2 L (.lst (ln.map Im.v))) := Ex.mut (e1.trans e2) hL0
      have hL3 : (upd H2 L (.lst (ln.map Im.v))) L = some (.lst (ln.map Im.v)) := upd_same
      have hD3 : (upd H2 L (.lst (ln.map Im.v))) D = some (.dK (kvsOf F)) := by rw [upd_ne nLD.symm]; exact e2 _ _ hDk
      dsimp only [gName]
      show tIfS _ _ _ _ [some (.ref q), some (.ref a), some (.ref D), some (.ref L), some it.v] (upd H2 L (.lst (ln.map Im.v)))
      generalize upd H2 L (.lst (ln.map Im.v)) = H3 at *
      cases it with
      | ev y =>
        refine s_when (b := false) (et_is (et_and (a := !true) (b := false) (et_not (et_B (ev_call (ea_cons (ev_var rfl) ea_nil) (fun H1 e Q q E => ⟨.ev y, rfl, hit.d, fun H2 e2 => q H2 e2⟩)))) fun h => by cases h) rfl) (fun h => by cases h) fun _ H4 e4 => ⟨ln.length + unv ps F, by simp, F, ln, _, rfl, e3.trans e4, e4 _ _ hD3, e4 _ _ hL3, okl', nd, low, fun i h => ?_, fun j hj q hq i h => ?_, rfl, by simp at lim; omega⟩
        · rcases own i h with h | h
          · exact .inl h
          · exact .inr (by simpa using h)
        · rcases cls j hj q hq i h with h | h
          · exact .inl h
          · exact .inr (by simpa using h)
      | «at» n =>
        have hn : n < ps.length := hit
        refine s_when (b := !decide (n ∈ F)) (et_is (et_and (a := !false) (b := !decide (n ∈ F)) (et_not (et_B (ev_call (ea_cons (ev_var rfl) ea_nil) (fun H1 e Q q E => ⟨.at n, rfl, hit.d, fun H2 e2 => q H2 e2⟩)))) fun _ => et_B (ev_is (ev_dnotin (k := Sum.inl ((n : Nat) : Int)) (ev_var rfl) (ev_var rfl) hD3) (by rw [kvs_val]))) (by simp)) (fun hb H4 e4 => ?_) fun hb H4 e4 => ?_
        · have nF : n ∉ F := by simpa using hb
          have hnone : valV (kvsOf F) (Sum.inl ((n : Nat) : Int)) = none := by
            have q := kvs_val F n
            rw [decide_eq_false nF] at q
            exact Option.not_isSome_iff_eq_none.mp (by simp [q])
          have lenF : F.length ≤ ps.length := by
            exact nodup_len ps.length F nd low
          refine ⟨_, rfl, _, rfl, D, _, rfl, DPut.k (k := Sum.inl ((n : Nat) : Int)) (e4 _ _ hD3) (by unfold kvsOf; rw [List.length_map]; exact sz_lt (by omega)), ?_⟩
          rw [putK_new _ hnone]
          have hkv : kvsOf F ++ [(Sum.inl ((n : Nat) : Int), V.bl true)] = kvsOf (F ++ [n]) := by simp [kvsOf]
          rw [hkv]
          have e5 : Ex H (upd H4 D (.dK (kvsOf (F ++ [n])))) := Ex.mut (e3.trans e4) hD
          have hL5 : (upd H4 D (.dK (kvsOf (F ++ [n])))) L = some (.lst (ln.map Im.v)) := by rw [upd_ne nLD]; exact e4 _ _ hL3
          have hD5 : (upd H4 D (.dK (kvsOf (F ++ [n])))) D = some (.dK (kvsOf (F ++ [n]))) := upd_same
          generalize upd H4 D (.dK (kvsOf (F ++ [n]))) = H5 at *
          have hpn : ps[n]? = some ps[n] := List.getElem?_eq_getElem hn
          obtain ⟨us, hq, hul, hat⟩ := hp
          obtain ⟨b, hb1, hb2⟩ := hat n _ hpn
          have hqn : ps.getD n [] = ps[n] := getD_some hpn
          have hun := unv_add hn nF
          rw [hqn] at hun
          refine ⟨_, rfl, Or.inl ⟨rfl, _, sq_of hL5⟩, ?_⟩
          refine ea_cons (ev_op (ev_var rfl) (ev_var rfl) (rv_ixB (hq.imp (ex_l e5) (ex_t e5)) (atI_nat hb1))) ea_nil _ (Ex.refl _) _ fun H6 e6 => ⟨L, b, _, _, rfl, rfl, e6 _ _ hL5, ex_t (e5.trans e6) hb2, ?_, ?_⟩
          · simp at lim ⊢
            omega
          · rw [← List.map_append]
            refine ⟨(ln ++ ps[n]).length + unv ps (F ++ [n]), by simp; omega, F ++ [n], ln ++ ps[n], _, rfl, Ex.mut (e5.trans e6) hL0, by rw [upd_ne nLD.symm]; exact e6 _ _ hD5, upd_same, fun i hi => ?_, ?_, fun i hi => ?_, fun i h => ?_, fun j hj q hq i h => ?_, rfl, by simp at lim ⊢; omega⟩
            · rcases List.mem_append.mp hi with h | h
              · exact okl' i h
              · exact im_ok_mono (ho.ok n _ hpn i h) (Nat.le_of_lt hn)
            · rw [List.nodup_append]
              exact ⟨nd, by simp, fun a ha b hb => by
                have : b = n := by simpa using hb
                subst this
                exact fun e => nF (e ▸ ha)⟩
            · rcases List.mem_append.mp hi with h | h
              · exact low i h
              · have : i = n := by simpa using h
                exact this ▸ hn
            · rcases own i h with h | h
              · exact .inl (by simp [h])
              · rcases List.mem_append.mp h with h | h
                · exact .inr (by simp [h])
                · have : i = n := by simpa using h
                  exact .inl (by simp [this])
            · rcases List.mem_append.mp hj with hj | hj
              · rcases cls j hj q hq i h with h | h
                · exact .inl (by simp [h])
                · rcases List.mem_append.mp h with h | h
                  · exact .inr (by simp [h])
                  · have : i = n := by simpa using h
                    exact .inl (by simp [this])
              · have : j = n := by simpa using hj
                subst this
                rw [hpn] at hq
                cases hq
                exact .inr (by simp [h])
        · have hF : n ∈ F := by simpa using hb
          refine ⟨ln.length + unv ps F, by simp, F, ln, _, rfl, e3.trans e4, e4 _ _ hD3, e4 _ _ hL3, okl', nd, low, fun i h => ?_, fun j hj q hq i h => ?_, rfl, by simp at lim; omega⟩
          · rcases own i h with h | h
            · exact .inl h
            · rcases List.mem_append.mp h with h | h
              · exact .inr h
              · have : i = n := by simpa using h
                exact .inl (this ▸ hF)
          · rcases cls j hj q hq i h with h | h
            · exact .inl h
            · rcases List.mem_append.mp h with h | h
              · exact .inr h
              · have : i = n := by simpa using h
                exact .inl (this ▸ hF)
    · have e : ln = [] := by simpa using hb
      subst e
      have kn : (kvsOf F).map Prod.fst = (F.map fun i => ((i : Nat) : Int)).map Sum.inl := by
        unfold kvsOf
        rw [List.map_map, List.map_map]
        rfl
      refine sr_ret (P := fun v H3 => ∃ t U, v = .ref t ∧ H2 t = none ∧ H3 t = some (.lst (natV U)) ∧ Uses ps p U) (ep_cb (EvPs.of (ea_cons (ev_var rfl) ea_nil)) fun vs H3 e3 hvs Q qq => ?_) fun v H3 e3 hv => ?_
      · subst hvs
        refine ⟨D, kvsOf F, F.map fun i => ((i : Nat) : Int), rfl, .inl (e3 _ _ (e2 _ _ hDk)), kn, ?_, fun zs l hp hs hl => ?_⟩
        · rw [List.length_map]
          have := nodup_len ps.length F nd low
          omega
        · obtain ⟨U, rfl, h1, h2⟩ := pair_lt_of nd hp hs
          refine qq _ _ (Ex.new hl) ⟨l, U, rfl, fresh_back e3 hl, by rw [upd_same, List.map_map]; rfl, h2, fun i hi => low i (h1.mem_iff.mp hi), fun i hi => ?_, fun j hj q hq i hi => ?_⟩
          · rcases own i hi with h | h
            · exact h1.mem_iff.mpr h
            · cases h
          · rcases cls j (h1.mem_iff.mp hj) q hq i hi with h | h
            · exact h1.mem_iff.mpr h
            · cases h
      · obtain ⟨t, U, rfl, ht, h3, hU⟩ := hv
        exact k U t H3 (e1.trans (e2.trans e3)) (fresh_back (e1.trans e2) ht) hU h3
end

/-! ### the row of a part, with just those parts that it tells -/
def ren (U : List Nat) : Im → Im
  | .ev x => .ev x
  | .at i => .at (U.idxOf i)
def qsOf (ps : List (List Im)) (p : List Im) (U : List Nat) : List (List Im) := (U.map fun j => (ps.getD j []).map (ren U)) ++ [p.map (ren U)]
theorem asc_lt {U : List Nat} (h : U.Pairwise (· < ·)) {i j : Nat} (hi : i < U.length) (hj : j < U.length) (l : i < j) : U[i] < U[j] := List.pairwise_iff_getElem.mp h i j hi hj l
theorem asc_inj {U : List Nat} (h : U.Pairwise (· < ·)) {i j : Nat} (hi : i < U.length) (hj : j < U.length) (e : U[i] = U[j]) : i = j := by
  rcases Nat.lt_trichotomy i j with l | l | l
  · have := asc_lt h hi hj l; omega
  · exact l
  · have := asc_lt h hj hi l; omega
theorem idx_lt {U : List Nat} {i : Nat} (h : i ∈ U) : U.idxOf i < U.length := List.idxOf_lt_length_of_mem h
theorem idx_get {U : List Nat} {i : Nat} (h : i ∈ U) : U[U.idxOf i]'(idx_lt h) = i := List.getElem_idxOf (idx_lt h)
theorem idx_mono {U : List Nat} (asc : U.Pairwise (· < ·)) {i j : Nat} (hi : i ∈ U) (hj : j ∈ U) (l : i < j) : U.idxOf i < U.idxOf j := by
  rcases Nat.lt_trichotomy (U.idxOf i) (U.idxOf j) with h | h | h
  · exact h
  · have h1 := idx_get hi
    have h2 := idx_get hj
    simp only [h] at h1
    omega
  · have q := asc_lt asc (idx_lt hj) (idx_lt hi) h
    rw [idx_get hi, idx_get hj] at q
    omega
theorem qs_len (ps : List (List Im)) (p : List Im) (U : List Nat) : (qsOf ps p U).length = U.length + 1 := by simp [qsOf]
theorem qs_get {ps : List (List Im)} {p : List Im} {U : List Nat} {k : Nat} (h : k < U.length) : (qsOf ps p U)[k]? = some ((ps.getD U[k] []).map (ren U)) := by
  unfold qsOf
  rw [List.getElem?_append_left (by simpa using h)]
  simp [h]
theorem qs_last (ps : List (List Im)) (p : List Im) (U : List Nat) : (qsOf ps p U)[U.length]? = some (p.map (ren U)) := by
  unfold qsOf
  rw [List.getElem?_append_right (by simp)]
  simp
theorem asc_sum {n : Nat} {f : Nat → Nat} {U : List Nat} (nd : U.Nodup) (low : ∀ i ∈ U, i < n) : (U.map f).sum ≤ ((List.range n).map f).sum := by
  induction n generalizing U with
  | zero =>
    cases U with
    | nil => simp
    | cons i U => exact absurd (low i (by simp)) (by omega)
  | succ n ih =>
    rw [List.range_succ, List.map_append, List.sum_append]
    simp only [List.map_cons, List.map_nil, List.sum_cons, List.sum_nil]
    by_cases hn : n ∈ U
    · have q := ih (U := U.erase n) (nd.erase n) fun i hi => by
        have h1 := low i (List.mem_of_mem_erase hi)
        have h2 : i ≠ n := fun e => by
          subst e
          exact (List.Nodup.not_mem_erase nd) hi
        omega
      have hp := (List.perm_cons_erase hn).map f
      have hs := hp.sum_nat
      simp only [List.map_cons, List.sum_cons] at hs
      omega
    · have q := ih (U := U) nd fun i hi => by
        have h1 := low i hi
        have h2 : i ≠ n := fun e => hn (e ▸ hi)
        omega
      omega
theorem Uses.row {ps : List (List Im)} {p : List Im} {U : List Nat} (u : Uses ps p U) (ho : OkRow ps) (hp : ∀ it ∈ p, Im.ok ps.length it) (l1 : ps.length < 2000) (l2 : (ps.map List.length).sum + p.length ≤ 20000) : OkRow (qsOf ps p U) := by
  have nd : U.Nodup := u.asc.imp fun {a b} h => Nat.ne_of_lt h
  have lU : U.length ≤ ps.length := nodup_len _ _ nd u.low
  refine ⟨fun j q hj it hi => ?_, by rw [qs_len]; omega, by rw [qs_len]; omega, ?_⟩
  · by_cases hk : j < U.length
    · rw [qs_get hk] at hj
      have hU : U[j] < ps.length := u.low _ (List.getElem_mem hk)
      have hg : ps[U[j]]? = some ps[U[j]] := List.getElem?_eq_getElem hU
      rw [getD_some hg] at hj
      cases hj
      obtain ⟨i2, h2, rfl⟩ := List.mem_map.mp hi
      have h3 := ho.ok _ _ hg i2 h2
      cases i2 with
      | ev x => exact h3
      | «at» i =>
        have hi3 : i < U[j] := h3
        have m1 := u.cls U[j] (List.getElem_mem hk) _ hg i h2
        have m2 : U[j] ∈ U := List.getElem_mem hk
        have q := idx_mono u.asc m1 m2 hi3
        have e : U.idxOf U[j] = j := asc_inj u.asc (idx_lt m2) hk (idx_get m2)
        show U.idxOf i < j
        omega
    · have : j = U.length := by
        have := (List.getElem?_eq_some_iff.mp hj).1
        rw [qs_len] at this
        omega
      subst this
      rw [qs_last] at hj
      cases hj
      obtain ⟨i2, h2, rfl⟩ := List.mem_map.mp hi
      cases i2 with
      | ev x => exact hp _ h2
      | «at» i => exact idx_lt (u.own i h2)
  · have e : ((qsOf ps p U).map List.length).sum = (U.map fun j => (ps.getD j []).length).sum + p.length := by
      unfold qsOf
      rw [List.map_append, List.sum_append, List.map_map]
      simp [Function.comp_def]
    rw [e]
    have q := asc_sum (f := fun j => (ps.getD j []).length) nd u.low
    rw [range_map_getD ps [] List.length] at q
    omega
/-- what is told is what was told -/
theorem Uses.unf {ps : List (List Im)} {p : List Im} {U : List Nat} (u : Uses ps p U) (ho : OkRow ps) (ho2 : OkRow (qsOf ps p U)) (hp : ∀ it ∈ p, Im.ok ps.length it) : unf1 (qsOf ps p U) U.length = p.flatMap (iunf1 ps) := by
  have step : ∀ n j, j < n → j ∈ U → unf1 (qsOf ps p U) (U.idxOf j) = unf1 ps j := by
    intro n
    induction n with
    | zero => intro j h; omega
    | succ n ih =>
      intro j hj hU
      have hlt := u.low j hU
      have hg : ps[j]? = some ps[j] := List.getElem?_eq_getElem hlt
      have hq := qs_get (ps := ps) (p := p) (idx_lt hU)
      rw [idx_get hU, getD_some hg] at hq
      rw [unf1_eq ho2.ok hq, unf1_eq ho.ok hg, List.flatMap_map]
      refine flatMap_congr' fun it hi => ?_
      cases it with
      | ev x => rfl
      | «at» i =>
        have hij : i < j := ho.ok _ _ hg _ hi
        exact ih i (by omega) (u.cls j hU _ hg i hi)
  rw [unf1_eq ho2.ok (qs_last ps p U), List.flatMap_map]
  refine flatMap_congr' fun it hi => ?_
  cases it with
  | ev x => rfl
  | «at» i => exact step (i + 1) i (by omega) (u.own i hi)
/-! numbers by the indexes -/
def numKv (U : List Nat) (n : Nat) : List (L2.Key × V) := (List.range n).map fun k => (Sum.inl ((U.getD k 0 : Nat) : Int), V.int ((k : Nat) : Int))
theorem numKv_succ (U : List Nat) (n : Nat) : numKv U (n + 1) = numKv U n ++ [(Sum.inl ((U.getD n 0 : Nat) : Int), V.int ((n : Nat) : Int))] := by
  unfold numKv
  rw [List.range_succ, List.map_append]
  rfl
theorem num_none {U : List Nat} (asc : U.Pairwise (· < ·)) {n : Nat} (hn : n < U.length) : valV (numKv U n) (Sum.inl ((U.getD n 0 : Nat) : Int)) = none := by
  rw [← Option.not_isSome_iff_eq_none, ← valV_any]
  intro h
  unfold numKv at h
  rw [List.any_map, List.any_eq_true] at h
  obtain ⟨k, hk, e⟩ := h
  have hk2 : k < n := List.mem_range.mp hk
  have e2 : U.getD k 0 = U.getD n 0 := by
    have q := of_decide_eq_true e
    have q2 : ((U.getD k 0 : Nat) : Int) = ((U.getD n 0 : Nat) : Int) := Sum.inl.inj q
    omega
  rw [getD_some (List.getElem?_eq_getElem (Nat.lt_trans hk2 hn)), getD_some (List.getElem?_eq_getElem hn)] at e2
  have := asc_inj asc (Nat.lt_trans hk2 hn) hn e2
  omega
theorem num_val {U : List Nat} (asc : U.Pairwise (· < ·)) : ∀ {n : Nat}, n ≤ U.length → ∀ k, k < n → valV (numKv U n) (Sum.inl ((U.getD k 0 : Nat) : Int)) = some (.int ((k : Nat) : Int))
  | 0, _, k, h => by omega
  | n + 1, hn, k, h => by
    rw [numKv_succ, valV_snoc _ _ _ _ (num_none asc hn)]
    by_cases e : k = n
    · subst e
      rw [if_pos rfl]
    · have hk : k < n := by omega
      have ne : ¬ (Sum.inl ((U.getD k 0 : Nat) : Int) : L2.Key) = Sum.inl ((U.getD n 0 : Nat) : Int) := fun q => by
        have q2 : ((U.getD k 0 : Nat) : Int) = ((U.getD n 0 : Nat) : Int) := Sum.inl.inj q
        have q3 : U.getD k 0 = U.getD n 0 := by omega
        rw [getD_some (List.getElem?_eq_getElem (Nat.lt_trans hk hn)), getD_some (List.getElem?_eq_getElem hn)] at q3
        exact e (asc_inj asc (Nat.lt_trans hk hn) hn q3)
      rw [if_neg ne]
      exact num_val asc (Nat.le_of_succ_le hn) k hk
theorem num_at {U : List Nat} (asc : U.Pairwise (· < ·)) {i : Nat} (h : i ∈ U) : valV (numKv U U.length) (Sum.inl ((i : Nat) : Int)) = some (.int ((U.idxOf i : Nat) : Int)) := by
  have q := num_val asc (Nat.le_refl _) _ (idx_lt h)
  rwa [getD_some (List.getElem?_eq_getElem (idx_lt h)), idx_get h] at q

section
variable {P : Program} {w : World} {K : PySem.W.Frag} {mg : Str → Option Value} {base : Heap} {A : Ad}
theorem q_aspP {te : TE} {i : Nat} {tz : TS} {D : Ends} {σ : L2.St} {H : Hp} {P : V → Hp → Prop} (h : EvP te σ H P) (k : ∀ v H1, Ex H H1 → P v H1 → tz D (σ.set i (some v)) H1) : tSeq (tAsg te (gName i)) tz D σ H := h H (Ex.refl H) _ k
/-- {k: v for .. in ..}: the walk -/
theorem dc_it {J : It} {n : Nat} {G : Hp → Prop} {Y : Nat → Hp → V → Hp → Prop} (w : Walk J n G Y) {g : TG} {tt : TT} {tk tv : TE} {vs : List Nat} {σ : L2.St} {H1 : Hp} {D : Addr} {Qd : Hp → Prop} (Pv : Nat → Hp → Prop) (h0 : Pv 0 (upd H1 D (.dK []))) (hG : ∀ i H, i ≤ n → Pv i H → G H)
    (hs : ∀ i x H H', i < n → Pv i H → Y i H x H' → g x (wipe σ vs) H' fun σ2 H2 => wipe σ2 vs = wipe σ vs ∧ tt σ2 H2 fun b H3 =>
      if b = true then tk σ2 H3 fun y H4 => tv σ2 H4 fun z H5 => ∃ kvs k, y = kV k ∧ H5 D = some (.dK kvs) ∧ kvs.length < sizeLine ∧ Pv (i + 1) (upd H5 D (.dK (putK kvs k z))) else Pv (i + 1) H3) (hd : ∀ H, Pv n H → Qd H) :
    ∃ W : Nat → Nat → Hp → Prop, (∃ m, W 0 m (upd H1 D (.dK []))) ∧ ∀ i m H, W i m H →
      (J.stop i H ∧ Qd H) ∨ (J.go i H ∧ ∃ Nx : Hp → Prop, (∀ H', Nx H' → ∃ m', m' < m ∧ W (i + 1) m' H') ∧ ∀ x H', J.yld i H x H' → g x (wipe σ vs) H' fun σ2 H2 => wipe σ2 vs = wipe σ vs ∧ tt σ2 H2 fun b H3 =>
        if b = true then tk σ2 H3 fun y H4 => tv σ2 H4 fun z H5 => ∃ kvs k, y = kV k ∧ H5 D = some (.dK kvs) ∧ kvs.length < sizeLine ∧ Nx (upd H5 D (.dK (putK kvs k z))) else Nx H3) := by
  refine ⟨fun i m Hx => m = n - i ∧ i ≤ n ∧ Pv i Hx, ⟨n, by simp, Nat.zero_le _, h0⟩, ?_⟩
  rintro i m Hx ⟨rfl, hi, p⟩
  have q := hG i Hx hi p
  by_cases hlt : i < n
  · exact .inr ⟨w.goes i Hx hlt q, Pv (i + 1), fun Hy p' => ⟨n - (i + 1), by omega, rfl, hlt, p'⟩, fun x Hy y => hs i x Hx Hy hlt p (w.yields i Hx x Hy hlt q y)⟩
  · have e : i = n := by omega
    subst e
    exact .inl ⟨w.stops Hx q, hd Hx p⟩
theorem ep_numbers {σ : L2.St} {H : Hp} {a : Addr} {U : List Nat} {ta : TA} {i j : Nat} {vs : List Nat} (asc : U.Pairwise (· < ·)) (hU : U.length ≤ 40000) (h : EvA ta σ H [.ref a]) (hx : SqL K H a (natV U)) (hw : ∀ x y, wipe (((wipe σ vs).set i (some x)).set j (some y)) vs = wipe σ vs)
    (g1 : ∀ x y, (((wipe σ vs).set i (some x)).set j (some y))[i]? = some (some x)) (g2 : ∀ x y, (((wipe σ vs).set i (some x)).set j (some y))[j]? = some (some y)) :
    EvP (tDc (iEnum K ta) (gTup K 2 (gCons (gName i) (gCons (gName j) gNil))) tYes (tVar j) (tVar i) vs) σ H fun v H2 => ∃ D, v = .ref D ∧ H2 D = some (.dK (numKv U U.length)) := fun H0 e Q q => h H0 e _ fun H1 e1 => ⟨a, _, rfl, ex_l (e.trans e1) hx, fun D hD =>
  dc_it (walk_enum (K := K) (a := a) (xs := natV U)) (fun n H2 => H1 D = none ∧ Ex H1 H2 ∧ H2 D = some (.dK (numKv U n))) ⟨hD, Ex.new hD, upd_same⟩ (fun _ _ _ p => ex_l ((e.trans e1).trans p.2.1) hx) (fun n z H' H2 hi p y => by
    obtain ⟨p1, p2, p3⟩ := p
    obtain ⟨T, x, y, rfl, hT, rfl, hx1, hy1⟩ := y
    have hx2 : x = .int (n : Nat) := by simpa using hx1.symm
    subst hx2
    have hn : n < U.length := by simpa [natV] using hi
    have hy2 : y = .int ((U.getD n 0 : Nat) : Int) := by
      have q := natV_get (ns := U) (List.getElem?_eq_getElem hn)
      have hy1 : (natV U)[n]? = some y := hy1
      rw [q] at hy1
      rw [getD_some (List.getElem?_eq_getElem hn)]
      exact (Option.some.inj hy1).symm
    subst hy2
    have nT : D ≠ T := fun e => by rw [e, hT] at p3; cases p3
    have p3' : (upd H' T (.tup [.int (n : Nat), .int ((U.getD n 0 : Nat) : Int)])) D = some (.dK (numKv U n)) := by rw [upd_ne nT]; exact p3
    refine ⟨T, _, rfl, st_of upd_same, rfl, _, _, rfl, _, _, rfl, rfl, hw _ _, ?_⟩
    refine yes_if (A := fun H3 => tVar j _ H3 _) (B := fun H3 => _) ?_
    refine ⟨_, g2 _ _, _, g1 _ _, numKv U n, Sum.inl ((U.getD n 0 : Nat) : Int), rfl, p3', ?_, p1, Ex.mut (p2.trans (Ex.new hT)) p1, ?_⟩
    · unfold numKv
      rw [List.length_map, List.length_range]
      exact sz_lt (by omega)
    · rw [upd_same, putK_new _ (num_none asc hn), numKv_succ]) fun H2 p => q _ _ (e1.trans p.2.1) ⟨D, rfl, by
      have := p.2.2
      simpa [natV] using this⟩⟩
theorem ev_dget {σ : L2.St} {H : Hp} {td ty : TE} {a : Addr} {kvs : List (L2.Key × V)} {k : L2.Key} {v : V} (h1 : Ev td σ H (.ref a)) (h2 : Ev ty σ H (kV k)) (ha : H a = some (.dK kvs)) (hv : valV kvs k = some v) : Ev (tDGet td ty) σ H v := fun H1 e Q q =>
  h1 H1 e _ fun H2 e2 => h2 H2 (e.trans e2) _ fun H3 e3 => ⟨a, v, rfl, by rw [← hv]; exact DGet.k ((e.trans (e2.trans e3)) a _ ha), q H3 (e2.trans e3)⟩
/-- an item by its new number -/
theorem ev_ren {σ : L2.St} {H : Hp} {D : Addr} {U : List Nat} {it : Im} {i d : Nat} {E : XK} (asc : U.Pairwise (· < ·)) (hi : σ[i]? = some (some it.v)) (hd : σ[d]? = some (some (.ref D))) (hD : H D = some (.dK (numKv U U.length))) (ok : okD it) (hU : ∀ n, it = .at n → n ∈ U) :
    Ev (tIf (tB (tCall (spIsEv K) [] E (tCons (tVar i) tNil))) (tVar i) (tDGet (tVar d) (tVar i))) σ H (ren U it).v := by
  refine ev_if (b := it.evB) (et_B (ev_call (ea_cons (ev_var hi) ea_nil) (fun H1 e Q q E => ⟨it, rfl, ok, fun H2 e2 => q H2 e2⟩))) (fun hb => ?_) fun hb => ?_
  · cases it with
    | ev x => exact ev_var hi
    | «at» n => cases hb
  · cases it with
    | ev x => cases hb
    | «at» n => exact ev_dget (k := Sum.inl ((n : Nat) : Int)) (ev_var hd) (ev_var hi) hD (num_at asc (hU n rfl))
theorem el_ren {σ : L2.St} {H : Hp} {tl : TE} {a D : Addr} {U : List Nat} {p : List Im} {i d : Nat} {vs : List Nat} {E : XK} (asc : U.Pairwise (· < ·)) (h : Ev tl σ H (.ref a)) (ha : SqT K H a (p.map Im.v)) (hp : p.length ≤ 20000) (hw : ∀ x, wipe ((wipe σ vs).set i (some x)) vs = wipe σ vs)
    (hi : ∀ x, ((wipe σ vs).set i (some x))[i]? = some (some x)) (hd : ∀ x, ((wipe σ vs).set i (some x))[d]? = some (some (.ref D))) (hD : H D = some (.dK (numKv U U.length))) (ok : ∀ it ∈ p, okD it) (hU : ∀ n, Im.at n ∈ p → n ∈ U) :
    EvL (tLc (iTup K tl) (gName i) tYes (tIf (tB (tCall (spIsEv K) [] E (tCons (tVar i) tNil))) (tVar i) (tDGet (tVar d) (tVar i))) vs) σ H ((p.map (ren U)).map Im.v) := by
  have q := el_lcT (K := K) (H := H) (σ := σ) (te := tIf (tB (tCall (spIsEv K) [] E (tCons (tVar i) tNil))) (tVar i) (tDGet (tVar d) (tVar i))) (tl := tl) (t := tYes) (j := i) (vs := vs) (fun _ => true) (fun j => (ren U (p.getD j (.at 0))).v) h ha (by rw [List.length_map]; omega) hw (fun j x H4 e4 hx => et_yes) (fun j x H4 e4 hx _ => by
    obtain ⟨it, hit, rfl⟩ := im_get hx
    rw [getD_some hit]
    have m := List.mem_of_getElem? hit
    exact ev_ren asc (hi _) (hd _) (e4 _ _ hD) (ok it m) fun n e => hU n (e ▸ m))
  rw [given_all, List.length_map, range_map_getD p (.at 0) (fun it => (ren U it).v)] at q
  rw [List.map_map]
  exact q
end

section
variable {P : Program} {w : World} {K : PySem.W.Frag} {mg : Str → Option Value} {base : Heap} {A : Ad}
theorem ex_hid1 {H H3 : Hp} {x : Addr} (hx : H x = none) (e : Ex H H3) : Ex H (hid [x] H3) := fun b o h => hid_at (by
  intro z
  rw [List.mem_singleton.mp z, hx] at h
  cases h) (e b o h)
/-- Folded(..) -/
theorem ep_makeF {σ : L2.St} {H : Hp} {te : TE} {E : XK} {qs : List (List Im)} (h : EvP te σ H fun v H1 => ∃ a, v = .ref a ∧ PinAt K H1 a qs) (ho : OkRow qs) : EvP (tMake A.cFolded (spFInit K A) [] E (tCons te tNil)) σ H fun v H2 => ∃ f, v = .ref f ∧ FolAt K A H2 f qs := fun H1 e1 Q q =>
  h H1 e1 _ fun v H2 e2 ⟨a, hv, hp⟩ x dx hx hdx ndx => by
    subst hv
    have ex : Ex H2 (hid [x] (upd (upd H2 dx (.own x)) x (.ins A.cFolded dx []))) := by
      rw [hid_upd (by simp)]
      exact ex_hid1 hx (Ex.new hdx)
    exact ⟨x, a, dx, qs, rfl, upd_same, hp.up ex, ho, fun H' eh hf => ⟨rfl, q _ _ (e2.trans (ex.trans (eh.trans (hid_out [x])))) ⟨x, rfl, hf⟩⟩⟩
theorem q_lst1 {σ : L2.St} {H : Hp} {i : Nat} {te : TE} {T : Addr} {acc : List V} {qs : List (List Im)} {p : List Im} (hi : σ[i]? = some (some (.ref T))) (hT : H T = some (.lst acc)) (hl : acc.length = qs.length) (hz : acc.length ≤ 50000)
    (ha : ∀ (j : Nat) (q : List Im), qs[j]? = some q → ∃ b : Addr, acc[j]? = some (V.ref b) ∧ SqL K H b (q.map Im.v)) (h : EvL te σ H (p.map Im.v)) :
    EvP (tLst (tStar K (tVar i) (tCons te tNil))) σ H fun v H2 => ∃ a, v = .ref a ∧ PinAt K H2 a (qs ++ [p]) := fun H1 e1 Q q =>
  ⟨_, hi, T, acc, rfl, .inr (sq_of (e1 _ _ hT)), h H1 e1 _ fun r H2 hr e2 h2 => ⟨by
    rw [List.length_append]
    exact sz_of (by simp; omega), fun a hfa => q _ _ (e2.trans (Ex.new hfa)) ⟨a, rfl, acc ++ [.ref r], sq_of upd_same, by simp [hl], fun j q' hj => by
      by_cases hlt : j < qs.length
      · rw [List.getElem?_append_left hlt] at hj
        obtain ⟨b, h3, h4⟩ := ha j q' hj
        exact ⟨b, by rw [List.getElem?_append_left (by omega)]; exact h3, ex_l (e1.trans (e2.trans (Ex.new hfa))) h4⟩
      · rw [List.getElem?_append_right (by omega)] at hj
        have : j - qs.length = 0 := by
          have := (List.getElem?_eq_some_iff.mp hj).1
          simp at this
          omega
        rw [this] at hj
        have e : p = q' := by simpa using hj
        subst e
        have ej : j = acc.length := by omega
        subst ej
        exact ⟨r, by simp, sq_of (Ex.new hfa _ _ h2)⟩⟩⟩⟩
def inS (S : List Str) (ps : List (List Im)) : Prop := ∀ p ∈ ps, ∀ x, Im.ev x ∈ p → x ∈ S
theorem unf_in {S : List Str} {ps : List (List Im)} (ok : okParts ps) (hS : inS S ps) : ∀ (n j : Nat), j < n → ∀ x ∈ unf1 ps j, x ∈ S := by
  intro n
  induction n with
  | zero => intro j h; omega
  | succ n ih =>
    intro j h x hx
    cases hp : ps[j]? with
    | none =>
      have e : ps.getD j [] = [] := by simp [List.getD, hp]
      unfold unf1 at hx
      rw [e] at hx
      simp at hx
    | some p =>
      rw [unf1_eq ok hp] at hx
      obtain ⟨it, hi, hx⟩ := List.mem_flatMap.mp hx
      cases it with
      | ev y =>
        have : x = y := by simpa [iunf1] using hx
        subst this
        exact hS p (List.mem_of_getElem? hp) x hi
      | «at» i =>
        have hij : i < j := ok j p hp _ hi
        exact ih i (by omega) x hx
theorem qsOf_in {S : List Str} {ps : List (List Im)} {p : List Im} {U : List Nat} (hS : inS S ps) (hp : ∀ x, Im.ev x ∈ p → x ∈ S) : inS S (qsOf ps p U) := fun q hq x hx => by
  have back : ∀ r : List Im, Im.ev x ∈ r.map (ren U) → Im.ev x ∈ r := fun r h => by
    obtain ⟨it, hi, e⟩ := List.mem_map.mp h
    cases it with
    | ev y =>
      have : y = x := by simpa [ren] using e
      subst this
      exact hi
    | «at» i => simp [ren] at e
  rcases List.mem_append.mp hq with h | h
  · obtain ⟨k, _, rfl⟩ := List.mem_map.mp h
    have h2 := back _ hx
    cases e : ps[k]? with
    | none =>
      have : ps.getD k [] = [] := by simp [List.getD, e]
      rw [this] at h2
      cases h2
    | some r =>
      have : ps.getD k [] = r := by simp [List.getD, e]
      rw [this] at h2
      exact hS r (List.mem_of_getElem? e) x h2
  · rw [List.mem_singleton.mp h] at hx
    exact hp x (back _ hx)
def spNeeded (K : PySem.W.Frag) (A : Ad) : Sp := fun vs H Q _ => ∃ (q a : Addr) (ps : List (List Im)) (p : List Im), vs = [.ref q, .ref a] ∧ PtsG K H q ps ∧ SqT K H a (p.map Im.v) ∧ OkRow ps ∧ (∀ it ∈ p, Im.ok ps.length it) ∧ ps.length < 2000 ∧ (ps.map List.length).sum + p.length ≤ 20000 ∧
  ∀ f H' qs, Ex H H' → OkRow qs → FolAt K A H' f qs → unf1 qs (qs.length - 1) = p.flatMap (iunf1 ps) → (∀ S : List Str, inS S ps → (∀ x, Im.ev x ∈ p → x ∈ S) → inS S qs) → qs.length ≤ ps.length + 1 → (qs.map List.length).sum ≤ (ps.map List.length).sum + p.length → Q (.ref f) H'
theorem Uses.few {ps : List (List Im)} {p : List Im} {U : List Nat} (u : Uses ps p U) : U.length ≤ ps.length := nodup_len _ _ (u.asc.imp fun {a b} h => Nat.ne_of_lt h) u.low
theorem Uses.tot {ps : List (List Im)} {p : List Im} {U : List Nat} (u : Uses ps p U) : ((qsOf ps p U).map List.length).sum ≤ (ps.map List.length).sum + p.length := by
  have e : ((qsOf ps p U).map List.length).sum = (U.map fun j => (ps.getD j []).length).sum + p.length := by
    unfold qsOf
    rw [List.map_append, List.sum_append, List.map_map]
    simp [Function.comp_def]
  rw [e]
  have q := asc_sum (f := fun j => (ps.getD j []).length) (u.asc.imp fun {a b} h => Nat.ne_of_lt h) u.low
  rw [range_map_getD ps [] List.length] at q
  omega
theorem ok_needed (F : F10 K A) (T : T10 mg K A) (C : CF K A) : FnOk P w K mg base CX0 7 A.aNeeded F.fNeeded ["parts", "part"] (spNeeded K A) := by
  have bIsEvent : Binds K F.fIsEvent ["item"] [] := F.FIsEvent.binds (fun _ _ _ _ _ _ us hl => match us, hl with | [_], _ => rfl)
  have GIsEvent := (ok_isEvent (P := P) (w := w) (mg := mg) (base := base) F T).mono (show 1 ≤ 6 by omega)
  have bUsedIn : Binds K F.fUsedIn ["parts", "part"] [] := F.FUsedIn.binds (fun _ _ _ _ _ _ us hl => match us, hl with | [_, _], _ => rfl)
  have GUsedIn := (ok_usedIn (P := P) (w := w) (mg := mg) (base := base) F T).mono (show 2 ≤ 6 by omega)
  have bFInit : Binds K F.fFInit ["self", "parts"] [] := F.FFInit.binds (fun _ _ _ _ _ _ us hl => match us, hl with | [_, _], _ => rfl)
  have GFInit := ok_finit (P := P) (w := w) (mg := mg) (base := base) F T C
  refine F.FNeeded.ok scNeeded (fun vs H Q E h => ?_) (fun cdv Ar outer s H vs Q E hr h => ?_)
  · obtain ⟨x, a, _, _, rfl, _⟩ := h
    rfl
  · obtain ⟨q, a, ps, p, rfl, hp, ha, ho, hok, l1, l2, k⟩ := h
    have hr1 := hr
    have hrM := hr
    have hu := hr.units
    have hu1 := Nat.lt_of_le_of_lt (Nat.add_le_add_left (show 1 ≤ 64 by omega) _) hu
    refine ⟨_, (pss_cons (ps_set (i := 2) scNeeded.nd rfl (Or.inl rfl) (pe_call GUsedIn hr1 rfl T.gUsedIn T.kUsedIn bUsedIn .nil pass0 (pa_cons (pv 0) (pa_cons (pv 1) pa_nil))))
  (pss_cons (ps_set (i := 3) scNeeded.nd rfl (Or.inr rfl) (pe_dc (own := [("at", 4), ("old", 5)]) rfl scNeeded.nd (pi_enum (by rfl) T.b_enumerate (pa_cons (pv 2) pa_nil)) (blkOk_by (own := [("at", 4), ("old", 5)]) (N := ["parts", "part", "used", "numbers", "at", "old", "told", "item"]) (sc := defScope (top 29)) (by decide +kernel)) (fun _ _ _ _ _ => (OwnL.pg_tupC (K := K) (n := 2) rfl rfl (pgs_cons (pg_name (i := 4) scNeeded.nd rfl (Or.inl rfl)) (pgs_cons (pg_name (i := 5) scNeeded.nd rfl (Or.inl rfl)) pgs_nil)))) (fun _ _ _ _ _ => pts_nil) (fun _ _ _ _ _ => (pv 5)) (fun _ _ _ _ _ => (pv 4))))
  (pss_cons (ps_setLc (i := 6) (own := [("at", 4)]) rfl scNeeded.nd rfl rfl (sw_true rfl rfl rfl (by decide +kernel)) (pi_list (pv 2)) (blkOk_by (own := [("at", 4)]) (N := ["parts", "part", "used", "numbers", "at", "old", "told", "item"]) (sc := defScope (top 29)) (by decide +kernel)) (fun _ _ _ _ _ => (pg_name (i := 4) scNeeded.nd rfl (Or.inl rfl))) (fun _ _ _ _ _ => pts_nil) (fun _ _ _ _ _ => by exact (pe_lc (own := [("item", 7)]) rfl scNeeded.nd (pi_tupK (K := K) rfl (pe_ix (ixR_K (K := K) rIxB rfl ix_both) (pv 0) (pv 4) (fun _ _ => rfl))) (by exact blkOk_by (own := [("item", 7)]) (N := ["parts", "part", "used", "numbers", "at", "old", "told", "item"]) (sc := relS (lcSc (asgVal ((defBody sNeeded).getD 2 (.Pass ⟨0, 0, 0, 0⟩)))) (defScope sNeeded)) (by decide +kernel)) (fun _ _ _ _ _ => (pg_name (i := 7) scNeeded.nd rfl (Or.inl rfl))) (fun _ _ _ _ _ => pts_nil) (fun _ _ _ _ _ => (pe_ifExp (pt_val (pe_call GIsEvent hr1 rfl T.gIsEvent T.kIsEvent bIsEvent .nil pass0 (pa_cons (pv 7) pa_nil))) (pv 7) (pe_dget hu1 (pv 3) (pv 7) (fun _ _ => rfl)))))))
  (pss_one (ps_ret (pe_make C.mkF GFInit hrM rfl T.gFolded bFInit .nil pass0 (pa_cons (pe_lst (pa_star (pv 6) (pa_cons (pe_lc (own := [("item", 7)]) rfl scNeeded.nd (pi_tup (pv 1)) (blkOk_by (own := [("item", 7)]) (N := ["parts", "part", "used", "numbers", "at", "old", "told", "item"]) (sc := defScope (top 29)) (by decide +kernel)) (fun _ _ _ _ _ => (pg_name (i := 7) scNeeded.nd rfl (Or.inl rfl))) (fun _ _ _ _ _ => pts_nil) (fun _ _ _ _ _ => (pe_ifExp (pt_val (pe_call GIsEvent hr1 rfl T.gIsEvent T.kIsEvent bIsEvent .nil pass0 (pa_cons (pv 7) pa_nil))) (pv 7) (pe_dget hu1 (pv 3) (pv 7) (fun _ _ => rfl))))) pa_nil))) pa_nil))))))), ?_⟩
    change tSeq _ _ _ [some (.ref q), some (.ref a), none, none, none, none, none, none] _
    refine q_aspP (P := fun v H1 => ∃ t U, v = .ref t ∧ H1 t = some (.lst (natV U)) ∧ Uses ps p U) (ep_call (EvPs.of (ea_cons (ev_var rfl) (ea_cons (ev_var rfl) ea_nil))) fun vs H1 e1 hvs Q qq => ?_) fun v H1 e1 hv => ?_
    · subst hvs
      exact ⟨q, a, ps, p, rfl, hp.up e1, ex_t e1 ha, ho, hok, by omega, fun U t H2 e2 _ hU ht => qq _ H2 e2 ⟨t, U, rfl, ht, hU⟩⟩
    · obtain ⟨t, U, rfl, ht, hU⟩ := hv
      have few := hU.few
      change tSeq _ _ _ [some (.ref q), some (.ref a), some (.ref t), none, none, none, none, none] _
      refine q_aspP (ep_numbers (σ := [some (.ref q), some (.ref a), some (.ref t), none, none, none, none, none]) (a := t) hU.asc (by omega) (ea_cons (ev_var rfl) ea_nil) (sq_of ht) (fun x y => rfl) (fun x y => rfl) (fun x y => rfl)) fun v H2 e2 hv => ?_
      obtain ⟨D, rfl, hD⟩ := hv
      change tSeq _ _ _ [some (.ref q), some (.ref a), some (.ref t), some (.ref D), none, none, none, none] _
      obtain ⟨us, hq, hul, hat⟩ := hp
      refine q_aspP (ep_lcL (σ := [some (.ref q), some (.ref a), some (.ref t), some (.ref D), none, none, none, none]) (K := K) (a := t) (ls := natV U) (ev_var rfl) (sq_of (e2 _ _ ht)) (fun i => [some (.ref q), some (.ref a), some (.ref t), some (.ref D), some (.int ((U.getD i 0 : Nat) : Int)), none, none, none])
        (fun i u H3 => ∃ b, u = .ref b ∧ SqL K H3 b (((ps.getD (U.getD i 0) []).map (ren U)).map Im.v)) (by rw [natV, List.length_map]; omega) (fun i hi => rfl) (fun i H3 hi e3 Q qq => ?_) (fun i u Ha Hb e ⟨b, h1, h2⟩ => ⟨b, h1, ex_l e h2⟩) (fun i H3 D3 acc hi e3 hD0 hD3 => ?_)) fun v H3 e3 hv => ?_
      · have hi2 : i < U.length := by simpa [natV] using hi
        have hg : (natV U).getD i .non = .int ((U.getD i 0 : Nat) : Int) := by
          rw [getD_some (natV_get (List.getElem?_eq_getElem hi2)), getD_some (List.getElem?_eq_getElem hi2)]
        rw [hg]
        exact qq
      · have hi2 : i < U.length := by simpa [natV] using hi
        have hU2 : U.getD i 0 ∈ U := by rw [getD_some (List.getElem?_eq_getElem hi2)]; exact List.getElem_mem hi2
        have hlt := hU.low _ hU2
        generalize U.getD i 0 = j at hU2 hlt
        have hg : ps[j]? = some ps[j] := List.getElem?_eq_getElem hlt
        obtain ⟨b, hb1, hb2⟩ := hat j _ hg
        rw [getD_some hg]
        have m := ho.ok j _ hg
        refine EvP.imp (EvP.ofL (el_ren (K := K) (a := b) (D := D) (p := ps[j]) hU.asc (ev_op (ev_var rfl) (ev_var rfl) (rv_ixB (hq.imp (ex_l (e1.trans (e2.trans e3))) (ex_t (e1.trans (e2.trans e3)))) (atI_nat hb1))) (ex_t (e1.trans (e2.trans e3)) hb2) (ho.thin _ (List.mem_of_getElem? hg)) (fun x => rfl) (fun x => rfl) (fun x => rfl) (e3 _ _ hD) (fun it hi => (m it hi).d) fun n hn => hU.cls j hU2 _ hg n hn)) fun v H4 e4 hv => ?_
        obtain ⟨r, rfl, hr, h4⟩ := hv
        have nr : r ≠ D3 := fun e => by rw [e, hD3] at hr; cases hr
        exact ⟨r, rfl, sq_of (by rw [hide_get nr]; exact h4)⟩
      · obtain ⟨T3, acc, rfl, hT0, hT3, hlen, hall⟩ := hv
        rw [natV, List.length_map] at hlen
        change tRet _ _ [some (.ref q), some (.ref a), some (.ref t), some (.ref D), none, none, some (.ref T3), none] _
        refine sr_ret (ep_makeF (qs := qsOf ps p U) (q_lst1 (T := T3) (acc := acc) rfl hT3 (by simp [hlen]) (by omega) (fun j q' hj => ?_) (el_ren (K := K) (a := a) (D := D) (p := p) hU.asc (ev_var rfl) (ex_t (e1.trans (e2.trans e3)) ha) (by omega) (fun x => rfl) (fun x => rfl) (fun x => rfl) (e3 _ _ hD) (fun it hi => (hok it hi).d) hU.own)) (hU.row ho hok l1 l2)) fun v H4 e4 hv => ?_
        · have hj2 : j < U.length := by
            have := (List.getElem?_eq_some_iff.mp hj).1
            simpa using this
          have hacc : acc[j]? = some acc[j] := List.getElem?_eq_getElem (by omega)
          obtain ⟨b, hb1, hb2⟩ := hall j _ hacc
          refine ⟨b, by rw [hacc, hb1], ?_⟩
          have e : q' = (ps.getD (U.getD j 0) []).map (ren U) := by
            have hUj : U[j]? = some U[j] := List.getElem?_eq_getElem hj2
            rw [List.getElem?_map, hUj] at hj
            rw [getD_some hUj]
            exact (Option.some.inj hj).symm
          rw [e]
          exact ex_l (hide_ext T3 H3) hb2
        · obtain ⟨f, rfl, hf⟩ := hv
          have ho2 := hU.row ho hok l1 l2
          refine k f H4 _ (e1.trans (e2.trans (e3.trans e4))) ho2 hf ?_ (fun S h1 h2 => qsOf_in h1 h2) (by rw [qs_len]; omega) hU.tot
          rw [qs_len]
          exact hU.unf ho ho2 hok
end

section
variable {P : Program} {w : World} {K : PySem.W.Frag} {mg : Str → Option Value} {base : Heap} {A : Ad}
/-! ### the first events of a row -/
def fl (ps : List (List Im)) (p : List Im) : List Str := p.flatMap (iunf1 ps)
theorem fl_nil (ps : List (List Im)) : fl ps [] = [] := rfl
theorem fl_cons (ps : List (List Im)) (it : Im) (p : List Im) : fl ps (it :: p) = iunf1 ps it ++ fl ps p := by simp [fl]
theorem fl_app (ps : List (List Im)) (p q : List Im) : fl ps (p ++ q) = fl ps p ++ fl ps q := by simp [fl]
def flen (ps : List (List Im)) (p : List Im) : Nat := (p.map (ilen1 ps)).sum
theorem fl_len {ps : List (List Im)} (ok : okParts ps) (p : List Im) : (fl ps p).length = flen ps p := by
  unfold fl flen
  rw [List.length_flatMap]
  exact sum_congr fun it _ => iunf_len ok it
theorem flen_cons (ps : List (List Im)) (it : Im) (p : List Im) : flen ps (it :: p) = ilen1 ps it + flen ps p := by simp [flen]
theorem take_part {ps : List (List Im)} (ok : okParts ps) {it : Im} {p : List Im} {n : Nat} (h : ilen1 ps it ≤ n) : (fl ps (it :: p)).take n = iunf1 ps it ++ (fl ps p).take (n - ilen1 ps it) := by
  rw [fl_cons, List.take_append, iunf_len ok, List.take_of_length_le (by rw [iunf_len ok]; exact h)]
theorem take_in {ps : List (List Im)} (ok : okParts ps) {it : Im} {p : List Im} {n : Nat} (h : n ≤ ilen1 ps it) : (fl ps (it :: p)).take n = (iunf1 ps it).take n := by
  rw [fl_cons, List.take_append, iunf_len ok, show n - ilen1 ps it = 0 from by omega]
  simp
def sumTo (ps : List (List Im)) (j : Nat) : Nat := ((ps.take j).map List.length).sum
theorem sumTo_succ {ps : List (List Im)} {j : Nat} {p : List Im} (h : ps[j]? = some p) : sumTo ps (j + 1) = sumTo ps j + p.length := by
  unfold sumTo
  rw [List.take_succ, h]
  simp
theorem sumTo_mono (ps : List (List Im)) {i j : Nat} (h : i ≤ j) : sumTo ps i ≤ sumTo ps j := by
  unfold sumTo
  obtain ⟨k, rfl⟩ : ∃ k, j = i + k := ⟨j - i, by omega⟩
  rw [List.take_add, List.map_append, List.sum_append]
  omega
theorem sumTo_all (ps : List (List Im)) (j : Nat) : sumTo ps j ≤ (ps.map List.length).sum := by
  unfold sumTo
  conv => rhs; rw [← List.take_append_drop j ps, List.map_append, List.sum_append]
  omega
theorem tupNil_eq {H : Hp} {σ : L2.St} {te : TE} {a : Addr} {p : List Im} (h : Ev te σ H (.ref a)) (ha : SqT K H a (p.map Im.v)) (ok : ∀ it ∈ p, okD it) : Ev (tOp (rEqD K) te (tTup tNil)) σ H (.bl (decide (p = []))) :=
  ev_opU (xs := []) h (eu_tup ea_nil (by simp)) fun b H1 hb e H2 e2 Q q => ⟨.tuple (p.map Im.d), .tuple [], .tup (ex_t (e.trans e2) ha) (dpall_im p), .tup (st_of (e2 _ _ hb)) .nil, by
    have h1 : (PyData.tuple (p.map Im.d)).canLay0 = true := by
      simp only [PyData.canLay0]
      exact lay_all fun it hi => lay_im (ok it hi)
    have h2 : PyData.depthAll (p.map Im.d) ≤ 1 := depth_all fun it _ => by cases it <;> simp [Im.d, PyData.depth]
    unfold SeqAt.shaped
    rw [h1, Bool.true_and]
    refine decide_eq_true ?_
    simp only [PyData.depth]
    omega, by decide +kernel, by
    have e3 : PyData.eqv (.tuple (p.map Im.d)) (.tuple []) = decide (p = []) := by
      cases p with
      | nil => rfl
      | cons n r => rfl
    rw [e3]
    exact q H2 (Ex.refl H2)⟩
theorem q_par3 {i j l : Nat} {ta : TA} {tz : TS} {D : Ends} {σ : L2.St} {H : Hp} {P : List V → Hp → Prop} (h : EvPs ta σ H P) (k : ∀ vs H1, Ex H H1 → P vs H1 → ∃ u v w, vs = [u, v, w] ∧ tz D (((σ.set i (some u)).set j (some v)).set l (some w)) H1) : tSeq (tPar3 i j l ta) tz D σ H := h H (Ex.refl H) _ k
theorem eu_tupV {σ : L2.St} {H : Hp} {te : TE} {p : Addr} {xs : List V} (h : Ev te σ H (.ref p)) (hx : SqL K H p xs) : EvU (tCB (rTupS K) (tCons te tNil)) σ H xs := fun H1 e Q q =>
  h H1 e _ fun H2 e2 => ⟨p, xs, rfl, .inl ⟨ex_l (e.trans e2) hx, fun l hl => q l _ (fresh_back e2 hl) (e2.trans (Ex.new hl)) upd_same⟩⟩
theorem st_brk2 {D : Ends} {σ : L2.St} {H : Hp} (q : D.bk σ H) : tBreak D σ H := q
def spFirstOf (K : PySem.W.Frag) (A : Ad) : Sp := fun vs H Q _ => ∃ (f : Addr) (ps : List (List Im)) (n : Nat), vs = [.ref f, .int (n : Nat)] ∧ FolAt K A H f ps ∧ OkRow ps ∧ n ≤ len1 ps (ps.length - 1) ∧ ps.length < 2000 ∧ (ps.map List.length).sum ≤ 10000 ∧
  ∀ f' H' qs, Ex H H' → OkRow qs → FolAt K A H' f' qs → unf1 qs (qs.length - 1) = (unf1 ps (ps.length - 1)).take n → (∀ S : List Str, inS S ps → inS S qs) → Q (.ref f') H'
theorem ok_firstOf (F : F10 K A) (T : T10 mg K A) (C : CF K A) : FnOk P w K mg base CX0 8 A.aFirstOf F.fFirstOf ["row", "many"] (spFirstOf K A) := by
  obtain ⟨dn, vNeedFolded, bNeedFolded⟩ := b_need F
  have GNeedFolded := (ok_needFolded (P := P) (w := w) (mg := mg) (base := base) F T C).mono (show 1 ≤ 7 by omega)
  have bIsWithin : Binds K F.fIsWithin ["value", "least", "most"] [] := F.FIsWithin.binds (fun _ _ _ _ _ _ us hl => match us, hl with | [_, _, _], _ => rfl)
  have GIsWithin := (ok_isWithin (P := P) (w := w) (mg := mg) (base := base) F T).mono (show 2 ≤ 7 by omega)
  have bIsEvent : Binds K F.fIsEvent ["item"] [] := F.FIsEvent.binds (fun _ _ _ _ _ _ us hl => match us, hl with | [_], _ => rfl)
  have GIsEvent := (ok_isEvent (P := P) (w := w) (mg := mg) (base := base) F T).mono (show 1 ≤ 7 by omega)
  have bItemLength : Binds K F.fItemLength ["row", "item"] [] := F.FItemLength.binds (fun _ _ _ _ _ _ us hl => match us, hl with | [_, _], _ => rfl)
  have GItemLength := (ok_itemLength (P := P) (w := w) (mg := mg) (base := base) F T C).mono (show 2 ≤ 7 by omega)
  have bNeeded : Binds K F.fNeeded ["parts", "part"] [] := F.FNeeded.binds (fun _ _ _ _ _ _ us hl => match us, hl with | [_, _], _ => rfl)
  have GNeeded := ok_needed (P := P) (w := w) (mg := mg) (base := base) F T C
  refine F.FFirstOf.ok scFirstOf (fun vs H Q E h => ?_) (fun cdv Ar outer s H vs Q E hr h => ?_)
  · obtain ⟨x, ps, _, rfl, _⟩ := h
    rfl
  · obtain ⟨f, ps, n, rfl, hF, ho, hn, l1, l2, k⟩ := h
    have hF' := hF
    obtain ⟨dx, q, l, hf, ⟨us, hq, hul, hat⟩, hl⟩ := hF
    have hr1 := hr
    have hu := hr.units
    have ne := ho.ne
    have hz : ps[ps.length - 1]? = some ps[ps.length - 1] := List.getElem?_eq_getElem (by omega)
    obtain ⟨az, haz, hbz⟩ := hat _ _ hz
    have hlast : atI us (-1) = some (.ref az) := by
      obtain ⟨r, x, e⟩ := snoc_of (l := us) (fun e => by rw [e] at hul; simp at hul; omega)
      have : az = az := rfl
      rw [e] at haz ⊢
      rw [atI_last]
      have hlen : ps.length - 1 = r.length := by rw [← hul, e]; simp
      rw [hlen] at haz
      simpa using haz
    refine ⟨_, (pss_cons (ps_expr (pe_call GNeedFolded hr1 rfl T.gNeedFolded T.kNeedFolded bNeedFolded vNeedFolded pass0 (pa_cons (pv 0) pa_nil)))
  (pss_cons (ps_if (pt_not (pt_val (pe_call GIsWithin hr1 rfl T.gIsWithin T.kIsWithin bIsWithin .nil pass0 (pa_cons (pv 1) (pa_cons pe_int (pa_cons (pe_fld (pv 0) rfl) pa_nil)))))) (pss_one ps_never) pss_nil)
  (pss_cons (ps_par3 (i := 2) (j := 3) (l := 4) (by rfl) scFirstOf.nd rfl rfl rfl (by decide) (by decide) (by decide) rfl rfl rfl (pa_cons (pe_lst pa_nil) (pa_cons (pe_ix ix_tup (pe_fld (pv 0) rfl) (pe_un un_neg pe_int) (fun _ _ => rfl)) (pa_cons (pv 1) pa_nil))) (by rfl))
  (pss_cons (ps_while PassesOwn.never (pt_cmpR op_gt (pv 4) pe_int (nomark _)) (pss_cons (ps_set (i := 5) scFirstOf.nd rfl (Or.inl rfl) (pe_tup pa_nil))
  (C8.pss_cut (ps_for PassesOwn.never rfl (pi_tup (pv 3)) (pg_name (i := 6) scFirstOf.nd rfl (Or.inl rfl)) (pss_cons (ps_set (i := 7) scFirstOf.nd rfl (Or.inl rfl) (pe_call GItemLength hr1 rfl T.gItemLength T.kItemLength bItemLength .nil pass0 (pa_cons (pv 0) (pa_cons (pv 6) pa_nil))))
  (pss_cons (ps_if (pt_cmpR op_gt (pv 7) (pv 4) (nomark _)) (pss_cons (ps_set (i := 5) scFirstOf.nd rfl (Or.inl rfl) (pe_ifExp (pt_val (pe_call GIsEvent hr1 rfl T.gIsEvent T.kIsEvent bIsEvent .nil pass0 (pa_cons (pv 6) pa_nil))) (pe_tup pa_nil) (pe_ix ix_tup (pe_fld (pv 0) rfl) (pv 6) (fun _ _ => rfl))))
  (pss_one ps_break)) pss_nil)
  (pss_cons (ps_expr (pe_bm PySem.F.plainAttrs_list PySem.F.slot_list_append PySem.F.type_list_append mt_append (pv 2) (pa_cons (pv 6) pa_nil)))
  (pss_one (ps_set (i := 4) scFirstOf.nd rfl (Or.inl rfl) (pe_op op_sub (pv 4) (pv 7))))))))
  (pss_cons (ps_set (i := 3) scFirstOf.nd rfl (Or.inl rfl) (pv 5))
  (pss_one (ps_if (pt_cmpR (op_eqD hu) (pv 5) (pe_tup pa_nil) (nomark _)) (pss_one (ps_set (i := 4) scFirstOf.nd rfl (Or.inl rfl) pe_int)) pss_nil))))))
  (pss_one (ps_ret (pe_call GNeeded hr1 rfl T.gNeeded T.kNeeded bNeeded .nil pass0 (pa_cons (pe_fld (pv 0) rfl) (pa_cons (pe_callTy call_tuple_of (by rfl) T.b_tuple (by decide +kernel) (pa_cons (pv 2) pa_nil)) pa_nil))))))))), ?_⟩
    change tSeq _ _ _ [some (.ref f), some (.int (n : Nat)), none, none, none, none, none, none] _
    refine q_drop (v := .non) (ev_call (ea_cons (ev_var rfl) ea_nil) (fun H1 e Q q E => ⟨f, .str "row", _, _, rfl, e _ _ hf, fun H2 e2 => q H2 e2⟩)) fun H1 e1 => ?_
    refine q_when (b := !(inB (.int (n : Nat)) 0 (len1 ps (ps.length - 1) : Nat))) (et_not (et_B (ev_call (ea_cons (ev_var rfl) (ea_cons ev_c (ea_cons (ev_fld (ev_var rfl) (e1 _ _ hf) C.clF (C.noF _ (by decide)) rfl) ea_nil))) (fun H2 e2 Q q E => ⟨.int (n : Nat), .int (n : Nat), 0, _, rfl, .int _, rfl, fun H3 e3 => q H3 e3⟩)))) (fun hb H2 e2 => ?_) fun hb H2 e2 => ?_
    · exfalso
      simp [inB] at hb
      omega
    · refine q_par3 (ep_cons (P := fun v H3 => ∃ r, v = .ref r ∧ H2 r = none ∧ H3 r = some (.lst [])) (fun v Ha Hb e ⟨r, h1, h2, h3⟩ => ⟨r, h1, h2, e _ _ h3⟩) ((EvP.ofL (el_lst ea_nil (by simp))).imp fun v H3 e ⟨r, h1, h2, h3⟩ => ⟨r, h1, h2, h3⟩)
        (EvPs.of (ea_cons (ev_op (ev_fld (ev_var rfl) (e2 _ _ (e1 _ _ hf)) C.clF (C.noF _ (by decide)) rfl) (ev_un ev_c ru_neg) (rv_ixT (ex_t (e1.trans e2) hq) hlast)) (ea_cons (ev_var rfl) ea_nil)))) fun vs H3 e3 hv => ?_
      obtain ⟨u, us2, rfl, ⟨D, rfl, hD2, hD3⟩, rfl⟩ := hv
      refine ⟨_, _, _, rfl, ?_⟩
      have hD0 : H D = none := fresh_back (e1.trans e2) hD2
      have target : unf1 ps (ps.length - 1) = fl ps ps[ps.length - 1] := unf1_eq ho.ok hz
      generalize hT : (unf1 ps (ps.length - 1)).take n = tgt at *
      have hnlen : n ≤ flen ps ps[ps.length - 1] := by
        rw [len1_eq ho.ok hz] at hn
        exact hn
      show tSeq _ _ _ [some (.ref f), some (.int (n : Nat)), some (.ref D), some (.ref az), some (.int (n : Nat)), none, none, none] _
      refine q_while (fun m σ' H' => ∃ (acc : List Im) (left : Nat) (x3 x5 x6 x7 : Option V), σ' = [some (.ref f), some (.int (n : Nat)), some (.ref D), x3, some (.int (left : Nat)), x5, x6, x7] ∧ Ex H H' ∧ H' D = some (.lst (acc.map Im.v)) ∧ (∀ it ∈ acc, Im.ok ps.length it) ∧ acc.length ≤ 10000 ∧
        ((left = 0 ∧ fl ps acc = tgt) ∨ ∃ (a : Addr) (j : Nat) (p : List Im), x3 = some (.ref a) ∧ SqT K H' a (p.map Im.v) ∧ ps[j]? = some p ∧ m = j + 1 ∧ left ≤ flen ps p ∧ fl ps acc ++ (fl ps p).take left = tgt ∧ acc.length + sumTo ps (j + 1) ≤ 10000)) (ps.length - 1 + 1)
        ⟨[], n, _, _, _, _, rfl, e1.trans (e2.trans e3), hD3, by simp, by simp, .inr ⟨az, _, _, rfl, ex_t (e1.trans (e2.trans e3)) hbz, hz, rfl, hnlen, by rw [← target]; simpa [fl] using hT, by have := sumTo_all ps (ps.length - 1 + 1); simp; omega⟩⟩ (fun m σ' H' pr => ?_)
      obtain ⟨acc, left, x3, x5, x6, x7, rfl, e4, hD4, okA, lenA, cse⟩ := pr
      refine ⟨decide ((left : Int) > 0), et_test (ev_op (ev_var rfl) ev_c rv_I0), fun hb H5 e5 => ?_, fun hb H5 e5 => ?_⟩
      · have hpos : 0 < left := by simpa using hb
        rcases cse with ⟨z, _⟩ | ⟨a, j, p, rfl, hp, hj, rfl, hlf, htg, hac⟩
        · omega
        · refine ⟨fun σ2 H2 => ∃ m', m' < j + 1 ∧ ∃ (acc : List Im) (left : Nat) (x3 x5 x6 x7 : Option V), σ2 = [some (.ref f), some (.int (n : Nat)), some (.ref D), x3, some (.int (left : Nat)), x5, x6, x7] ∧ Ex H H2 ∧ H2 D = some (.lst (acc.map Im.v)) ∧ (∀ it ∈ acc, Im.ok ps.length it) ∧ acc.length ≤ 10000 ∧
            ((left = 0 ∧ fl ps acc = tgt) ∨ ∃ (a : Addr) (j : Nat) (p : List Im), x3 = some (.ref a) ∧ SqT K H2 a (p.map Im.v) ∧ ps[j]? = some p ∧ m' = j + 1 ∧ left ≤ flen ps p ∧ fl ps acc ++ (fl ps p).take left = tgt ∧ acc.length + sumTo ps (j + 1) ≤ 10000), fun σ2 H2 z => z, ?_⟩
          refine q_asgU (eu_tup ea_nil (by simp)) fun em H6 hem e6 h6 => ?_
          have hs1 := sumTo_succ hj
          have thin := ho.thin p (List.mem_of_getElem? hj)
          have jl : j < ps.length := (List.getElem?_eq_some_iff.mp hj).1
          -- what stands behind the for: the next part, or nothing
          refine q_cut (M := fun σ2 H2 => ∃ (acc2 : List Im) (left2 : Nat) (i : Addr) (p2 : List Im) (x6 x7 : Option V), σ2 = [some (.ref f), some (.int (n : Nat)), some (.ref D), some (.ref a), some (.int (left2 : Nat)), some (.ref i), x6, x7] ∧ Ex H H2 ∧ H2 D = some (.lst (acc2.map Im.v)) ∧ (∀ it ∈ acc2, Im.ok ps.length it) ∧ acc2.length ≤ 10000 ∧ SqT K H2 i (p2.map Im.v) ∧ (∀ it ∈ p2, okD it) ∧
            ((p2 = [] ∧ fl ps acc2 = tgt) ∨ ∃ j2, j2 < j ∧ ps[j2]? = some p2 ∧ p2 ≠ [] ∧ left2 ≤ flen ps p2 ∧ fl ps acc2 ++ (fl ps p2).take left2 = tgt ∧ acc2.length + sumTo ps (j2 + 1) ≤ 10000)) ?_ fun σ2 H7 hM => ?_
          · refine s_forT (xs := p.map Im.v) (ev_var rfl) (ex_t (e5.trans e6) hp) (fun i σ' H' => ∃ (left' : Nat) (x6 x7 : Option V), σ' = [some (.ref f), some (.int (n : Nat)), some (.ref D), some (.ref a), some (.int (left' : Nat)), some (.ref em), x6, x7] ∧ Ex H H' ∧ SqT K H' a (p.map Im.v) ∧ H' D = some (.lst ((acc ++ p.take i).map Im.v)) ∧ H' em = some (.tup []) ∧
              left' ≤ flen ps (p.drop i) ∧ fl ps (acc ++ p.take i) ++ (fl ps (p.drop i)).take left' = tgt) (fun H7 e7 => ⟨left, _, _, rfl, e4.trans (e5.trans (e6.trans e7)), ex_t (e5.trans (e6.trans e7)) hp, by rw [List.take_zero, List.append_nil]; exact e7 _ _ (e6 _ _ (e5 _ _ hD4)), e7 _ _ h6, by simpa using hlf, by simpa using htg⟩) (fun i σ' H' _ pr => by obtain ⟨_, _, _, _, _, q, _⟩ := pr; exact q) (fun i x σ' H' hx pr => ?_) (fun σ' H' pr => ?_)
            · obtain ⟨left', y6, y7, rfl, f1, f2, f3, f4, f5, f6⟩ := pr
              obtain ⟨it, hit, rfl⟩ := im_get hx
              have hil : i < p.length := (List.getElem?_eq_some_iff.mp hit).1
              have hdr : p.drop i = it :: p.drop (i + 1) := by
                obtain ⟨h1, h2⟩ := List.getElem?_eq_some_iff.mp hit
                rw [List.drop_eq_getElem_cons h1, h2]
              have htk : p.take (i + 1) = p.take i ++ [it] := by rw [List.take_succ, hit]; rfl
              have hok := ho.ok j p hj it (List.mem_of_getElem? hit)
              have hok2 : it.ok ps.length := im_ok_mono hok (Nat.le_of_lt jl)
              rw [hdr] at f5 f6
              rw [flen_cons] at f5
              have okA2 : ∀ z ∈ acc ++ p.take i, Im.ok ps.length z := fun z hz => by
                rcases List.mem_append.mp hz with h | h
                · exact okA z h
                · exact im_ok_mono (ho.ok j p hj z (List.mem_of_mem_take h)) (Nat.le_of_lt jl)
              have lenA2 : (acc ++ p.take i).length = acc.length + i := by
                rw [List.length_append, List.length_take]
                omega
              show tSeq _ _ _ [some (.ref f), some (.int (n : Nat)), some (.ref D), some (.ref a), some (.int (left' : Nat)), some (.ref em), some it.v, y7] _
              refine q_asg (v := .int (ilen1 ps it : Nat)) (ev_call (ea_cons (ev_var rfl) (ea_cons (ev_var rfl) ea_nil)) (fun H1 e Q q E => ⟨f, it, ps, rfl, hF'.up (f1.trans e), hok2, fun H2 e2 => q H2 e2⟩)) fun H8 e8 => ?_
              show tSeq _ _ _ [some (.ref f), some (.int (n : Nat)), some (.ref D), some (.ref a), some (.int (left' : Nat)), some (.ref em), some it.v, some (.int (ilen1 ps it : Nat))] _
              refine q_when (b := decide (((ilen1 ps it : Nat) : Int) > (left' : Nat))) (et_test (ev_op (ev_var rfl) (ev_var rfl) rv_I0)) (fun hb H9 e9 => ?_) fun hb H9 e9 => ?_
              · have hlt : left' < ilen1 ps it := by simpa using hb
                rw [take_in ho.ok (Nat.le_of_lt hlt)] at f6
                refine q_aspP (P := fun v H10 => ∃ (i2 : Addr) (p2 : List Im), v = .ref i2 ∧ SqT K H10 i2 (p2.map Im.v) ∧ (∀ z ∈ p2, okD z) ∧ ((p2 = [] ∧ fl ps (acc ++ p.take i) = tgt) ∨ ∃ j2, j2 < j ∧ ps[j2]? = some p2 ∧ p2 ≠ [] ∧ left' ≤ flen ps p2 ∧ fl ps (acc ++ p.take i) ++ (fl ps p2).take left' = tgt))
                  (ep_if (b := it.evB) (et_B (ev_call (ea_cons (ev_var rfl) ea_nil) (fun H1 e Q q E => ⟨it, rfl, hok.d, fun H2 e2 => q H2 e2⟩))) (fun hb => ?_) fun hb => ?_) fun v H10 e10 hv => ?_
                · cases it with
                  | «at» z => cases hb
                  | ev x =>
                    have z0 : left' = 0 := by
                      have : left' < 1 := hlt
                      omega
                    subst z0
                    exact (EvP.ofU (eu_tup ea_nil (by simp))).imp fun v H11 e11 ⟨r, h1, h2, h3⟩ => ⟨r, [], h1, st_of h3, by simp, .inl ⟨rfl, by simpa using f6⟩⟩
                · cases it with
                  | ev x => cases hb
                  | «at» z =>
                    have hzj : z < j := hok
                    have hzl : z < ps.length := Nat.lt_trans hzj jl
                    have hpz : ps[z]? = some ps[z] := List.getElem?_eq_getElem hzl
                    obtain ⟨b2, hb1, hb2⟩ := hat z _ hpz
                    have ez : iunf1 ps (.at z) = fl ps ps[z] := unf1_eq ho.ok hpz
                    have el : ilen1 ps (.at z) = flen ps ps[z] := len1_eq ho.ok hpz
                    refine EvP.is (ev_op (ev_fld (ev_var rfl) (e9 _ _ (e8 _ _ (f1 _ _ hf))) C.clF (C.noF _ (by decide)) rfl) (ev_var rfl) (rv_ixT (ex_t (f1.trans (e8.trans e9)) hq) (atI_nat hb1))) fun H11 e11 => ⟨b2, ps[z], rfl, ex_t (f1.trans (e8.trans (e9.trans e11))) hb2, fun w hw => (ho.ok z _ hpz w hw).d, .inr ⟨z, hzj, hpz, fun e => ?_, by rw [← el]; omega, by rw [← ez]; exact f6⟩⟩
                    rw [el, e] at hlt
                    simp [flen] at hlt
                · obtain ⟨i2, p2, rfl, hi2, okp, cs⟩ := hv
                  refine st_brk2 ⟨acc ++ p.take i, left', i2, p2, _, _, rfl, f1.trans (e8.trans (e9.trans e10)), e10 _ _ (e9 _ _ (e8 _ _ f3)), okA2, by rw [lenA2]; omega, hi2, okp, ?_⟩
                  rcases cs with cs | ⟨j2, g1, g2, g3, g4, g5⟩
                  · exact .inl cs
                  · refine .inr ⟨j2, g1, g2, g3, g4, g5, ?_⟩
                    have := sumTo_mono ps (show j2 + 1 ≤ j by omega)
                    rw [lenA2]
                    omega
              · have hge : ilen1 ps it ≤ left' := by
                  have : ¬ (left' : Int) < (ilen1 ps it : Nat) := by simpa using hb
                  omega
                rw [take_part ho.ok hge] at f6
                refine q_app (e9 _ _ (e8 _ _ f3)) (ev_var rfl) (ev_var rfl) (by rw [List.length_map, lenA2]; omega) fun H10 e10 => ?_
                refine s_asg (v := .int ((left' - ilen1 ps it : Nat) : Nat)) (ev_is (ev_op (ev_var rfl) (ev_var rfl) rv_I0) ?_) fun H11 e11 => ?_
                · congr 1
                  omega
                · have eu : Ex H (upd H10 D (.lst (List.map Im.v (acc ++ p.take i) ++ [it.v]))) := Ex.mut (f1.trans (e8.trans (e9.trans e10))) hD0
                  have nem : em ≠ D := fun e => by rw [e, f3] at f4; cases f4
                  refine ⟨left' - ilen1 ps it, _, _, rfl, eu.trans e11, ?_, ?_, ?_, by omega, ?_⟩
                  · refine ex_t e11 ?_
                    rcases f2 with g | g
                    · rcases g with g | ⟨o, g⟩
                      · have na : a ≠ D := fun e => by rw [e, f3] at g; cases g
                        exact st_of (by rw [upd_ne na]; exact e10 _ _ (e9 _ _ (e8 _ _ g)))
                      · have na : a ≠ D := fun e => by rw [e, f3] at g; cases g
                        exact .inl (.inr ⟨o, by rw [upd_ne na]; exact e10 _ _ (e9 _ _ (e8 _ _ g))⟩)
                    · exact .inr g
                  · rw [htk, ← List.append_assoc, List.map_append]
                    exact e11 _ _ upd_same
                  · exact e11 _ _ (by rw [upd_ne nem]; exact e10 _ _ (e9 _ _ (e8 _ _ f4)))
                  · rw [htk, ← List.append_assoc, fl_app, List.append_assoc, show fl ps [it] = iunf1 ps it from by simp [fl]]
                    exact f6
            · obtain ⟨left', y6, y7, rfl, f1, f2, f3, f4, f5, f6⟩ := pr
              rw [List.length_map, List.drop_length] at f5
              have z0 : left' = 0 := by
                simp [flen] at f5
                exact f5
              subst z0
              rw [List.length_map, List.take_length] at f3
              refine ⟨acc ++ p, 0, em, [], _, _, rfl, f1, f3, fun z hz => ?_, by rw [List.length_append]; omega, st_of f4, by simp, .inl ⟨rfl, by simpa using f6⟩⟩
              rcases List.mem_append.mp hz with h | h
              · exact okA z h
              · exact im_ok_mono (ho.ok j p hj z h) (Nat.le_of_lt jl)
          · obtain ⟨acc2, left2, i, p2, y6, y7, rfl, f1, f2, f3, f4, f5, f6, cs⟩ := hM
            show tSeq _ _ _ [some (.ref f), some (.int (n : Nat)), some (.ref D), some (.ref a), some (.int (left2 : Nat)), some (.ref i), y6, y7] _
            refine q_asg (ev_var rfl) fun H8 e8 => ?_
            show tIfS _ _ _ _ [some (.ref f), some (.int (n : Nat)), some (.ref D), some (.ref i), some (.int (left2 : Nat)), some (.ref i), y6, y7] _
            refine s_when (b := decide (p2 = [])) (et_test (tupNil_eq (ev_var rfl) (ex_t e8 f5) f6)) (fun hb H9 e9 => ?_) fun hb H9 e9 => ?_
            · have hp0 : p2 = [] := by simpa using hb
              have hfl : fl ps acc2 = tgt := by
                rcases cs with ⟨_, h⟩ | ⟨_, _, _, h, _⟩
                · exact h
                · exact absurd hp0 h
              exact s_asg ev_c fun H10 e10 => ⟨0, by omega, acc2, 0, _, _, _, _, rfl, f1.trans (e8.trans (e9.trans e10)), e10 _ _ (e9 _ _ (e8 _ _ f2)), f3, f4, .inl ⟨rfl, hfl⟩⟩
            · have hp0 : p2 ≠ [] := by simpa using hb
              rcases cs with ⟨h, _⟩ | ⟨j2, g1, g2, g3, g4, g5, g6⟩
              · exact absurd h hp0
              · exact ⟨j2 + 1, by omega, acc2, left2, _, _, _, _, rfl, f1.trans (e8.trans e9), e9 _ _ (e8 _ _ f2), f3, f4, .inr ⟨i, j2, p2, rfl, ex_t (e8.trans e9) f5, g2, rfl, g4, g5, g6⟩⟩
      · have hz0 : left = 0 := by simp at hb; omega
        subst hz0
        have hfl : fl ps acc = tgt := by
          rcases cse with ⟨_, h⟩ | ⟨a, j, p, _, _, _, _, _, h, _⟩
          · exact h
          · simpa using h
        refine sr_ret (P := fun v H6 => ∃ f' qs, v = .ref f' ∧ OkRow qs ∧ FolAt K A H6 f' qs ∧ unf1 qs (qs.length - 1) = tgt ∧ ∀ S : List Str, inS S ps → inS S qs) (ep_call (ep_cons (P := fun v _ => v = .ref q) (fun v Ha Hb e h => h) (EvP.of (ev_fld (ev_var rfl) (e5 _ _ (e4 _ _ hf)) C.clF (C.noF _ (by decide)) rfl))
          (ep_cons (P := fun v H6 => ∃ t, v = .ref t ∧ H6 t = some (.tup (acc.map Im.v))) (fun v Ha Hb e ⟨t, h1, h2⟩ => ⟨t, h1, e _ _ h2⟩) ((EvP.ofU (eu_tupV (K := K) (ev_var rfl) (sq_of (e5 _ _ hD4)))).imp fun v H6 e ⟨t, h1, h2, h3⟩ => ⟨t, h1, h3⟩) ep_nil)) fun vs H6 e6 hvs Q qq => ?_) fun v H6 e6 hv => ?_
        · obtain ⟨u, r, rfl, rfl, u2, r2, rfl, ⟨t, rfl, ht⟩, rfl⟩ := hvs
          exact ⟨q, t, ps, acc, rfl, PtsG.up (e4.trans (e5.trans e6)) (PtsAt.g ⟨us, hq, hul, hat⟩), st_of ht, ho, okA, l1, by omega, fun f' H7 qs e7 g1 g2 g3 gS _ _ => qq _ H7 e7 ⟨f', qs, rfl, g1, g2, g3.trans hfl, fun S hS => gS S hS fun x hx => unf_in ho.ok hS (ps.length - 1 + 1) (ps.length - 1) (by omega) x (by
            have m : x ∈ fl ps acc := List.mem_flatMap.mpr ⟨_, hx, by simp [iunf1]⟩
            rw [hfl, ← hT] at m
            exact List.mem_of_mem_take m)⟩⟩
        · obtain ⟨f', qs, rfl, g1, g2, g3, gS⟩ := hv
          exact k f' H6 qs (e4.trans (e5.trans e6)) g1 g2 g3 gS
end

/-! ### a row told out, event by event -/
def cst (ps : List (List Im)) (ws : List Nat) : Im → Nat
  | .ev _ => 1
  | .at i => 1 + if 0 < len1 ps i then ws.getD i 0 else 0
def wtTo (ps : List (List Im)) (n : Nat) : List Nat := grow (fun ws j => 1 + ((ps.getD j []).map (cst ps ws)).sum) n
def wt1 (ps : List (List Im)) (j : Nat) : Nat := 1 + ((ps.getD j []).map (cst ps (wtTo ps j))).sum
def cst1 (ps : List (List Im)) : Im → Nat
  | .ev _ => 1
  | .at i => 1 + if 0 < len1 ps i then wt1 ps i else 0
theorem wt1_eq {ps : List (List Im)} (ok : okParts ps) {j : Nat} {p : List Im} (h : ps[j]? = some p) : wt1 ps j = 1 + (p.map (cst1 ps)).sum := by
  unfold wt1
  rw [getD_some h]
  congr 1
  refine sum_congr fun it hi => ?_
  have := ok j p h it hi
  cases it with
  | ev x => rfl
  | «at» i =>
    have hi : i < j := this
    have q : (wtTo ps j)[i]? = some (wt1 ps i) := grow_get _ hi
    simp [cst, cst1, List.getD, q]
abbrev Sk := Addr × Nat × Nat
def pend (ps : List (List Im)) (sr : List Sk) : List Str := sr.reverse.flatMap fun z => fl ps ((ps.getD z.2.1 []).drop z.2.2)
def meas (ps : List (List Im)) (sr : List Sk) : Nat := (sr.map fun z => 1 + (((ps.getD z.2.1 []).drop z.2.2).map (cst1 ps)).sum).sum
theorem pend_snoc (ps : List (List Im)) (sr : List Sk) (z : Sk) : pend ps (sr ++ [z]) = fl ps ((ps.getD z.2.1 []).drop z.2.2) ++ pend ps sr := by simp [pend]
theorem meas_snoc (ps : List (List Im)) (sr : List Sk) (z : Sk) : meas ps (sr ++ [z]) = meas ps sr + (1 + (((ps.getD z.2.1 []).drop z.2.2).map (cst1 ps)).sum) := by simp [meas]
section
variable {P : Program} {w : World} {K : PySem.W.Frag} {mg : Str → Option Value} {base : Heap} {A : Ad}
def skD (z : Sk) : PyData := .tuple [.int (z.2.1 : Nat), .int (z.2.2 : Nat)]
theorem dp_sk {H : Hp} : ∀ {sr : List Sk}, (∀ z ∈ sr, H z.1 = some (.tup [.int (z.2.1 : Nat), .int (z.2.2 : Nat)])) → DpAll K H (sr.map fun z => V.ref z.1) (sr.map skD)
  | [], _ => .nil
  | z :: sr, h => .cons (.tup (st_of (h z (by simp))) (.cons (.int _) (.cons (.int _) .nil))) (dp_sk fun y hy => h y (by simp [hy]))
theorem ev_neSk {σ : L2.St} {H : Hp} {te : TE} {l : Addr} {sr : List Sk} (h : Ev te σ H (.ref l)) (hl : H l = some (.lst (sr.map fun z => V.ref z.1))) (hs : ∀ z ∈ sr, H z.1 = some (.tup [.int (z.2.1 : Nat), .int (z.2.2 : Nat)])) : Ev (tOp (rNeD K) te (tLst tNil)) σ H (.bl (!decide (sr = []))) :=
  ev_opL (xs := []) h (el_lst ea_nil (by simp)) fun p H1 hp e H2 e2 Q q => ⟨.list (sr.map skD), .list [], .lst (sq_of (e2 _ _ (e _ _ hl))) (dp_sk fun z hz => e2 _ _ (e _ _ (hs z hz))), .lst (sq_of (e2 _ _ hp)) .nil, by
    have h1 : (PyData.list (sr.map skD)).canLay0 = true := by
      simp only [PyData.canLay0]
      exact lay_all fun z _ => rfl
    have h2 : PyData.depthAll (sr.map skD) ≤ 2 := depth_all fun z _ => by simp [skD, PyData.depth, PyData.depthAll]
    unfold SeqAt.shaped
    rw [h1, Bool.true_and]
    refine decide_eq_true ?_
    simp only [PyData.depth]
    omega, by decide +kernel, by
    rw [eqv_nilD, show decide (sr.map skD = []) = decide (sr = []) from by simp]
    exact q H2 (Ex.refl H2)⟩
theorem q_parP {i j : Nat} {ta : TA} {tz : TS} {D : Ends} {σ : L2.St} {H : Hp} {P : List V → Hp → Prop} (h : EvPs ta σ H P) (k : ∀ vs H1, Ex H H1 → P vs H1 → ∃ u v, vs = [u, v] ∧ tz D ((σ.set i (some u)).set j (some v)) H1) : tSeq (tPar i j ta) tz D σ H := h H (Ex.refl H) _ k
def spUnfolded (K : PySem.W.Frag) (A : Ad) : Sp := fun vs H Q _ => ∃ (f : Addr) (ps : List (List Im)), vs = [.ref f] ∧ FolAt K A H f ps ∧ OkRow ps ∧ len1 ps (ps.length - 1) ≤ 10000 ∧
  ∀ t H', Ex H H' → H' t = some (.tup ((unf1 ps (ps.length - 1)).map V.str)) → Q (.ref t) H'
theorem ok_unfolded (F : F10 K A) (T : T10 mg K A) (C : CF K A) : FnOk P w K mg base CX0 2 A.aUnfolded F.fUnfolded ["row"] (spUnfolded K A) := by
  obtain ⟨te, hMOSTEVENTS⟩ := T.gMOSTEVENTS
  obtain ⟨dn, vNeedFolded, bNeedFolded⟩ := b_need F
  have GNeedFolded := ok_needFolded (P := P) (w := w) (mg := mg) (base := base) F T C
  have bIsEvent : Binds K F.fIsEvent ["item"] [] := F.FIsEvent.binds (fun _ _ _ _ _ _ us hl => match us, hl with | [_], _ => rfl)
  have GIsEvent := ok_isEvent (P := P) (w := w) (mg := mg) (base := base) F T
  refine F.FUnfolded.ok scUnfolded (fun vs H Q E h => ?_) (fun cdv Ar outer s H vs Q E hr h => ?_)
  · obtain ⟨x, ps, rfl, _⟩ := h
    rfl
  · obtain ⟨f, ps, rfl, hF, ho, hn, k⟩ := h
    have hF' := hF
    obtain ⟨dx, q, l, hf, ⟨us, hq, hul, hat⟩, hl⟩ := hF
    have hr1 := hr
    have hu := hr.units
    have ne := ho.ne
    have few := ho.few
    have hz : ps[ps.length - 1]? = some ps[ps.length - 1] := List.getElem?_eq_getElem (by omega)
    refine ⟨_, (pss_cons (ps_expr (pe_call GNeedFolded hr1 rfl T.gNeedFolded T.kNeedFolded bNeedFolded vNeedFolded pass0 (pa_cons (pv 0) pa_nil)))
  (pss_cons (ps_if (pt_cmpR op_gt (pe_fld (pv 0) rfl) (pe_glob (v := .int 10000) rfl hMOSTEVENTS ⟨_, rfl⟩) (nomark _)) (pss_one ps_never) pss_nil)
  (pss_cons (ps_par (i := 1) (j := 2) (by rfl) scUnfolded.nd rfl rfl (by decide) rfl rfl (pa_cons (pe_lst pa_nil) (pa_cons (pe_lst (pa_cons (pe_tup (pa_cons (pe_op op_sub (pe_callB call_len_seq (by rfl) T.b_len (by decide +kernel) (pa_cons (pe_fld (pv 0) rfl) pa_nil)) pe_int) (pa_cons pe_int pa_nil))) pa_nil)) pa_nil)) (by rfl))
  (pss_cons (ps_while PassesOwn.never (pt_cmpR (op_neD hu) (pv 2) (pe_lst pa_nil) (nomark _)) (pss_cons (ps_asg (pe_bm0 PySem.F.plainAttrs_list PySem.F.slot_list_pop PySem.F.type_list_pop mt_pop (pv 2)) (pg_tup rfl (pgs_cons (pg_name (i := 3) scUnfolded.nd rfl (Or.inl rfl)) (pgs_cons (pg_name (i := 4) scUnfolded.nd rfl (Or.inl rfl)) pgs_nil))))
  (pss_one (ps_if (pt_cmpR op_lt (pv 4) (pe_callB call_len_seq (by rfl) T.b_len (by decide +kernel) (pa_cons (pe_ix ix_tup (pe_fld (pv 0) rfl) (pv 3) (fun _ _ => rfl)) pa_nil)) (nomark _)) (pss_cons (ps_expr (pe_bm PySem.F.plainAttrs_list PySem.F.slot_list_append PySem.F.type_list_append mt_append (pv 2) (pa_cons (pe_tup (pa_cons (pv 3) (pa_cons (pe_op op_add (pv 4) pe_int) pa_nil))) pa_nil)))
  (pss_cons (ps_set (i := 5) scUnfolded.nd rfl (Or.inl rfl) (pe_ix ix_tup (pe_ix ix_tup (pe_fld (pv 0) rfl) (pv 3) (fun _ _ => rfl)) (pv 4) (fun _ _ => rfl)))
  (pss_one (ps_if (pt_val (pe_call GIsEvent hr1 rfl T.gIsEvent T.kIsEvent bIsEvent .nil pass0 (pa_cons (pv 5) pa_nil))) (pss_one (ps_expr (pe_bm PySem.F.plainAttrs_list PySem.F.slot_list_append PySem.F.type_list_append mt_append (pv 1) (pa_cons (pv 5) pa_nil)))) (pss_one (ps_if (pt_cmpR op_gt (pe_ix ix_tup (pe_fld (pv 0) rfl) (pv 5) (fun _ _ => rfl)) pe_int (nomark _)) (pss_one (ps_expr (pe_bm PySem.F.plainAttrs_list PySem.F.slot_list_append PySem.F.type_list_append mt_append (pv 2) (pa_cons (pe_tup (pa_cons (pv 5) (pa_cons pe_int pa_nil))) pa_nil)))) pss_nil)))))) pss_nil))))
  (pss_one (ps_ret (pe_callTy call_tuple_of (by rfl) T.b_tuple (by decide +kernel) (pa_cons (pv 1) pa_nil)))))))), ?_⟩
    change tSeq _ _ _ [some (.ref f), none, none, none, none, none] _
    refine q_drop (v := .non) (ev_call (ea_cons (ev_var rfl) ea_nil) (fun H1 e Q q E => ⟨f, .str "row", _, _, rfl, e _ _ hf, fun H2 e2 => q H2 e2⟩)) fun H1 e1 => ?_
    refine q_when (b := decide (((len1 ps (ps.length - 1) : Nat) : Int) > 10000)) (et_test (ev_op (ev_fld (ev_var rfl) (e1 _ _ hf) C.clF (C.noF _ (by decide)) rfl) ev_c rv_I0)) (fun hb => ?_) fun hb H2 e2 => ?_
    · exfalso
      simp at hb
      omega
    · have target : unf1 ps (ps.length - 1) = fl ps ps[ps.length - 1] := unf1_eq ho.ok hz
      have tlen : (unf1 ps (ps.length - 1)).length ≤ 10000 := by rw [unf_len ho.ok _ _ (Nat.lt_succ_self _)]; exact hn
      generalize unf1 ps (ps.length - 1) = tgt at *
      have h0 : ((us.length : Nat) : Int) - 1 = ((ps.length - 1 : Nat) : Int) := by omega
      refine q_parP (ep_cons (P := fun v H3 => ∃ r, v = .ref r ∧ H2 r = none ∧ H3 r = some (.lst [])) (fun v Ha Hb e ⟨r, h1, h2, h3⟩ => ⟨r, h1, h2, e _ _ h3⟩) (EvP.ofL (el_lst ea_nil (by simp)))
        (ep_cons (P := fun v H3 => ∃ L r, v = .ref L ∧ H2 L = none ∧ H3 L = some (.lst [.ref r]) ∧ H3 r = some (.tup [.int ((ps.length - 1 : Nat) : Int), .int 0])) (fun v Ha Hb e ⟨L, r, h1, h2, h3, h4⟩ => ⟨L, r, h1, h2, e _ _ h3, e _ _ h4⟩)
          ((ep_lst (ep_cons (P := fun v H3 => ∃ r, v = .ref r ∧ H3 r = some (.tup [.int ((ps.length - 1 : Nat) : Int), .int 0])) (fun v Ha Hb e ⟨r, h1, h3⟩ => ⟨r, h1, e _ _ h3⟩)
            ((EvP.ofU (eu_tup (vs := [.int ((ps.length - 1 : Nat) : Int), .int 0]) (ea_cons (ev_is (ev_op (ev_lenTf (ev_fld (ev_var rfl) (e2 _ _ (e1 _ _ hf)) C.clF (C.noF _ (by decide)) rfl) (ex_t (e1.trans e2) hq)) ev_c rv_I0) (by rw [h0])) (ea_cons ev_c ea_nil)) (by simp))).imp fun v H3 e ⟨r, h1, h2, h3⟩ => ⟨r, h1, h3⟩) ep_nil)
            (fun vs H3 ⟨u, r, h1, _, h2⟩ => by subst h2; subst h1; simp) (fun vs Ha Hb e ⟨u, r, h1, ⟨r2, h2, h3⟩, h4⟩ => ⟨u, r, h1, ⟨r2, h2, e _ _ h3⟩, h4⟩)).imp fun v H3 e ⟨L, vs, h1, h2, h3, u, r, h4, ⟨r2, h5, h6⟩, h7⟩ => ⟨L, r2, h1, h2, by subst h7; subst h5; subst h4; exact h3, h6⟩) ep_nil)) fun vs H3 e3 hv => ?_
      obtain ⟨u, v2, rfl, ⟨D, rfl, hD2, hD3⟩, u2, v3, rfl, ⟨L, r0, rfl, hL2, hL3, hr3⟩, rfl⟩ := hv
      refine ⟨_, _, rfl, ?_⟩
      have hD0 : H D = none := fresh_back (e1.trans e2) hD2
      have hL0 : H L = none := fresh_back (e1.trans e2) hL2
      have nLD : L ≠ D := fun e => by rw [e, hD3] at hL3; cases hL3
      show tSeq _ _ _ [some (.ref f), some (.ref D), some (.ref L), none, none, none] _
      refine q_while (fun m σ' H' => ∃ (acc : List Str) (sr : List Sk) (x3 x4 x5 : Option V), σ' = [some (.ref f), some (.ref D), some (.ref L), x3, x4, x5] ∧ Ex H H' ∧ H' D = some (.lst (acc.map V.str)) ∧ H' L = some (.lst (sr.map fun z => V.ref z.1)) ∧ (∀ z ∈ sr, H' z.1 = some (.tup [.int (z.2.1 : Nat), .int (z.2.2 : Nat)])) ∧ (∀ z ∈ sr, z.2.1 < ps.length) ∧ (sr.map fun z => z.2.1).Pairwise (· > ·) ∧
        acc ++ pend ps sr = tgt ∧ m = meas ps sr) _ ⟨[], [(r0, ps.length - 1, 0)], _, _, _, rfl, e1.trans (e2.trans e3), hD3, hL3, by simpa using hr3, by simp; omega, by simp, by
          have q := pend_snoc ps [] (r0, ps.length - 1, 0)
          simp only [List.nil_append, List.drop_zero] at q
          rw [getD_some hz] at q
          rw [List.nil_append, q, target]
          simp [pend], rfl⟩ (fun m σ' H' pr => ?_)
      obtain ⟨acc, sr, x3, x4, x5, rfl, e4, hDl, hLl, hSk, low, dsc, htg, rfl⟩ := pr
      refine ⟨!decide (sr = []), et_test (ev_neSk (ev_var rfl) hLl hSk), fun hb H5 e5 => ?_, fun hb H5 e5 => ?_⟩
      · have nes : sr ≠ [] := by simpa using hb
        obtain ⟨sr, ⟨r, p, at'⟩, rfl⟩ := snoc_of nes
        have hL5 := e5 _ _ hLl
        have hr5 := e5 _ _ (hSk (r, p, at') (by simp))
        have hpl : p < ps.length := low (r, p, at') (by simp)
        have hpp : ps[p]? = some ps[p] := List.getElem?_eq_getElem hpl
        generalize hP : ps[p] = pt at hpp
        obtain ⟨ap, hap, hbp⟩ := hat p pt hpp
        have lacc : acc.length ≤ 10000 := by
          have := congrArg List.length htg
          rw [List.length_append] at this
          omega
        have lsr : sr.length < ps.length := by
          have nd : ((sr ++ [(r, p, at')]).map fun z => z.2.1).Nodup := dsc.imp fun {a b} h => Nat.ne_of_gt h
          have q := nodup_len ps.length _ nd fun i hi => by
            obtain ⟨z, hz1, rfl⟩ := List.mem_map.mp hi
            exact low z hz1
          simp at q
          omega
        have low' : ∀ z ∈ sr, z.2.1 < ps.length := fun z hz => low z (by simp [hz])
        rw [List.map_append, List.pairwise_append] at dsc
        obtain ⟨dsc1, _, dsc2⟩ := dsc
        have top : ∀ z ∈ sr, z.2.1 > p := fun z hz => dsc2 z.2.1 (List.mem_map.mpr ⟨z, hz, rfl⟩) p (by simp)
        rw [pend_snoc, show (ps.getD (r, p, at').2.1 []) = pt from getD_some hpp] at htg
        have hm := meas_snoc ps sr (r, p, at')
        rw [show (ps.getD (r, p, at').2.1 []) = pt from getD_some hpp] at hm
        refine ⟨fun σ2 H2 => ∃ m', m' < meas ps (sr ++ [(r, p, at')]) ∧ ∃ (acc : List Str) (sr : List Sk) (x3 x4 x5 : Option V), σ2 = [some (.ref f), some (.ref D), some (.ref L), x3, x4, x5] ∧ Ex H H2 ∧ H2 D = some (.lst (acc.map V.str)) ∧ H2 L = some (.lst (sr.map fun z => V.ref z.1)) ∧ (∀ z ∈ sr, H2 z.1 = some (.tup [.int (z.2.1 : Nat), .int (z.2.2 : Nat)])) ∧ (∀ z ∈ sr, z.2.1 < ps.length) ∧ (sr.map fun z => z.2.1).Pairwise (· > ·) ∧
          acc ++ pend ps sr = tgt ∧ m' = meas ps sr, fun σ2 H2 z => z, ?_⟩
        refine ⟨_, rfl, Or.inl ⟨rfl, _, sq_of hL5⟩, L, _, .ref r, rfl, rfl, hL5, by simp, ?_⟩
        have hdl : ((sr ++ [(r, p, at')]).map fun z => V.ref z.1).dropLast = sr.map fun z => V.ref z.1 := by simp
        rw [hdl]
        have e6 : Ex H (upd H5 L (.lst (sr.map fun z => V.ref z.1))) := Ex.mut (e4.trans e5) hL0
        have hL6 : (upd H5 L (.lst (sr.map fun z => V.ref z.1))) L = some (.lst (sr.map fun z => V.ref z.1)) := upd_same
        have hD6 : (upd H5 L (.lst (sr.map fun z => V.ref z.1))) D = some (.lst (acc.map V.str)) := by rw [upd_ne nLD.symm]; exact e5 _ _ hDl
        have nrL : r ≠ L := fun e => by rw [e, hL5] at hr5; cases hr5
        have hr6 : (upd H5 L (.lst (sr.map fun z => V.ref z.1))) r = some (.tup [.int (p : Nat), .int (at' : Nat)]) := by rw [upd_ne nrL]; exact hr5
        have hS6 : ∀ z ∈ sr, (upd H5 L (.lst (sr.map fun z => V.ref z.1))) z.1 = some (.tup [.int (z.2.1 : Nat), .int (z.2.2 : Nat)]) := fun z hz => by
          have q := e5 _ _ (hSk z (by simp [hz]))
          have nz : z.1 ≠ L := fun e => by rw [e, hL5] at q; cases q
          rw [upd_ne nz]
          exact q
        refine ⟨r, _, rfl, st_of hr6, rfl, _, _, rfl, _, _, rfl, rfl, ?_⟩
        dsimp only [gName]
        show tIfS _ _ _ _ [some (.ref f), some (.ref D), some (.ref L), some (.int (p : Nat)), some (.int (at' : Nat)), x5] _
        generalize upd H5 L (.lst (sr.map fun z => V.ref z.1)) = H6 at *
        refine s_when (b := decide ((at' : Int) < (((pt.map Im.v).length : Nat) : Int))) (et_test (ev_op (ev_var rfl) (ev_lenTf (ev_op (ev_fld (ev_var rfl) (e6 _ _ hf) C.clF (C.noF _ (by decide)) rfl) (ev_var rfl) (rv_ixT (ex_t e6 hq) (atI_nat hap))) (ex_t e6 hbp)) rv_I0)) (fun hb H7 e7 => ?_) fun hb H7 e7 => ?_
        · have hlt : at' < pt.length := by simpa using hb
          have hit : pt[at']? = some pt[at'] := List.getElem?_eq_getElem hlt
          generalize pt[at'] = it at hit
          have hdr : pt.drop at' = it :: pt.drop (at' + 1) := by
            obtain ⟨h1, h2⟩ := List.getElem?_eq_some_iff.mp hit
            rw [List.drop_eq_getElem_cons h1, h2]
          have hok := ho.ok p pt hpp it (List.mem_of_getElem? hit)
          simp only [hdr] at htg hm
          rw [fl_cons] at htg
          refine q_appU (ys := [.int (p : Nat), .int ((at' + 1 : Nat) : Nat)]) (e7 _ _ hL6) (ev_var rfl) (eu_tup (ea_cons (ev_var rfl) (ea_cons (ev_is (ev_op (ev_var rfl) ev_c rv_I0) (by congr 1)) ea_nil)) (by simp)) (by rw [List.length_map]; omega) fun r2 H8 hr2 e8 h8 => ?_
          have hr2L : r2 ≠ L := fun e => by rw [e, e7 _ _ hL6] at hr2; cases hr2
          have hL8 : (upd H8 L (.lst (sr.map (fun z => V.ref z.1) ++ [.ref r2]))) L = some (.lst ((sr ++ [(r2, p, at' + 1)]).map fun z => V.ref z.1)) := by rw [upd_same, List.map_append]; rfl
          have e9 : Ex H (upd H8 L (.lst (sr.map (fun z => V.ref z.1) ++ [.ref r2]))) := Ex.mut (e6.trans (e7.trans e8)) hL0
          have hD9 : (upd H8 L (.lst (sr.map (fun z => V.ref z.1) ++ [.ref r2]))) D = some (.lst (acc.map V.str)) := by rw [upd_ne nLD.symm]; exact e8 _ _ (e7 _ _ hD6)
          have hS9 : ∀ z ∈ sr ++ [(r2, p, at' + 1)], (upd H8 L (.lst (sr.map (fun z => V.ref z.1) ++ [.ref r2]))) z.1 = some (.tup [.int (z.2.1 : Nat), .int (z.2.2 : Nat)]) := fun z hz => by
            rcases List.mem_append.mp hz with hz | hz
            · have q := e8 _ _ (e7 _ _ (hS6 z hz))
              have nz : z.1 ≠ L := fun e => by rw [e, e8 _ _ (e7 _ _ hL6)] at q; cases q
              rw [upd_ne nz]
              exact q
            · have : z = (r2, p, at' + 1) := by simpa using hz
              subst this
              rw [upd_ne hr2L]
              exact h8
          have low9 : ∀ z ∈ sr ++ [(r2, p, at' + 1)], z.2.1 < ps.length := fun z hz => by
            rcases List.mem_append.mp hz with hz | hz
            · exact low' z hz
            · have : z = (r2, p, at' + 1) := by simpa using hz
              subst this
              exact hpl
          have dsc9 : ((sr ++ [(r2, p, at' + 1)]).map fun z => z.2.1).Pairwise (· > ·) := by
            rw [List.map_append, List.pairwise_append]
            exact ⟨dsc1, by simp, fun a ha b hb => by
              have : b = p := by simpa using hb
              subst this
              obtain ⟨z, hz, rfl⟩ := List.mem_map.mp ha
              exact top z hz⟩
          have pe9 : pend ps (sr ++ [(r2, p, at' + 1)]) = fl ps (pt.drop (at' + 1)) ++ pend ps sr := by
            rw [pend_snoc]
            simp only [getD_some hpp]
          have me9 : meas ps (sr ++ [(r2, p, at' + 1)]) = meas ps sr + (1 + ((pt.drop (at' + 1)).map (cst1 ps)).sum) := by
            rw [meas_snoc]
            simp only [getD_some hpp]
          show tSeq _ _ _ [some (.ref f), some (.ref D), some (.ref L), some (.int (p : Nat)), some (.int (at' : Nat)), x5] _
          generalize upd H8 L (.lst (sr.map (fun z => V.ref z.1) ++ [.ref r2])) = H9 at *
          refine q_asg (v := it.v) (ev_op (ev_op (ev_fld (ev_var rfl) (e9 _ _ hf) C.clF (C.noF _ (by decide)) rfl) (ev_var rfl) (rv_ixT (ex_t e9 hq) (atI_nat hap))) (ev_var rfl) (rv_ixT (ex_t e9 hbp) (atI_nat (by rw [List.getElem?_map, hit]; rfl)))) fun H10 e10 => ?_
          show tIfS _ _ _ _ [some (.ref f), some (.ref D), some (.ref L), some (.int (p : Nat)), some (.int (at' : Nat)), some it.v] _
          rw [List.map_cons, List.sum_cons] at hm
          refine s_if (b := it.evB) (et_B (ev_call (ea_cons (ev_var rfl) ea_nil) (fun H1 e Q q E => ⟨it, rfl, hok.d, fun H2 e2 => q H2 e2⟩))) (fun hb H11 e11 => ?_) fun hb H11 e11 => ?_
          · cases it with
            | «at» z => cases hb
            | ev x =>
              refine s_app (e11 _ _ (e10 _ _ hD9)) (ev_var rfl) (v := .str x) (ev_var rfl) (by rw [List.length_map]; omega) fun H12 e12 => ?_
              refine ⟨meas ps (sr ++ [(r2, p, at' + 1)]), by rw [me9, hm]; show _ < _ + (1 + (1 + _)); omega, acc ++ [x], sr ++ [(r2, p, at' + 1)], _, _, _, rfl, Ex.mut (e9.trans (e10.trans (e11.trans e12))) hD0, by rw [upd_same, List.map_append]; rfl, ?_, fun z hz => ?_, low9, dsc9, ?_, rfl⟩
              · rw [upd_ne nLD]
                exact e12 _ _ (e11 _ _ (e10 _ _ hL8))
              · have q := e12 _ _ (e11 _ _ (e10 _ _ (hS9 z hz)))
                have nz : z.1 ≠ D := fun e => by rw [e, e12 _ _ (e11 _ _ (e10 _ _ hD9))] at q; cases q
                rw [upd_ne nz]
                exact q
              · rw [pe9]
                simpa [iunf1] using htg
          · cases it with
            | ev x => cases hb
            | «at» z =>
              have hzp : z < p := hok
              have hzl : z < ps.length := Nat.lt_trans hzp hpl
              have hpz : ps[z]? = some ps[z] := List.getElem?_eq_getElem hzl
              have uz : iunf1 ps (.at z) = fl ps ps[z] := unf1_eq ho.ok hpz
              rw [uz] at htg
              refine s_when (b := decide (((len1 ps z : Nat) : Int) > 0)) (et_test (ev_op (ev_op (ev_fld (ev_var rfl) (e11 _ _ (e10 _ _ (e9 _ _ hf))) C.clF (C.noF _ (by decide)) rfl) (ev_var rfl) (rv_ixT (ex_t (e9.trans (e10.trans e11)) hl) (atI_nat (natV_get (lensTo_get hzl))))) ev_c rv_I0)) (fun hb H12 e12 => ?_) fun hb H12 e12 => ?_
              · have hpos : 0 < len1 ps z := by simpa using hb
                have hL12 := e12 _ _ (e11 _ _ (e10 _ _ hL8))
                refine s_appU (ys := [.int (z : Nat), .int 0]) hL12 (ev_var rfl) (eu_tup (ea_cons (ev_var rfl) (ea_cons ev_c ea_nil)) (by simp)) (by rw [List.length_map, List.length_append]; simp; omega) fun r3 H13 hr3 e13 h13 => ?_
                have hr3L : r3 ≠ L := fun e => by rw [e, hL12] at hr3; cases hr3
                refine ⟨meas ps (sr ++ [(r2, p, at' + 1)] ++ [(r3, z, 0)]), ?_, acc, sr ++ [(r2, p, at' + 1)] ++ [(r3, z, 0)], _, _, _, rfl, Ex.mut (e9.trans (e10.trans (e11.trans (e12.trans e13)))) hL0, by rw [upd_ne nLD.symm]; exact e13 _ _ (e12 _ _ (e11 _ _ (e10 _ _ hD9))), by rw [upd_same]; simp, fun y hy => ?_, fun y hy => ?_, ?_, ?_, rfl⟩
                · rw [meas_snoc, me9, hm]
                  simp only [getD_some hpz, List.drop_zero]
                  have q := wt1_eq ho.ok hpz
                  show _ < _ + (1 + (cst1 ps (.at z) + _))
                  have q2 : cst1 ps (.at z) = 1 + wt1 ps z := by simp [cst1, hpos]
                  rw [q2]
                  omega
                · rcases List.mem_append.mp hy with hy | hy
                  · have q := e13 _ _ (e12 _ _ (e11 _ _ (e10 _ _ (hS9 y hy))))
                    have nz : y.1 ≠ L := fun e => by rw [e, e13 _ _ hL12] at q; cases q
                    rw [upd_ne nz]
                    exact q
                  · have : y = (r3, z, 0) := by simpa using hy
                    subst this
                    rw [upd_ne hr3L]
                    exact h13
                · rcases List.mem_append.mp hy with hy | hy
                  · exact low9 y hy
                  · have : y = (r3, z, 0) := by simpa using hy
                    subst this
                    exact hzl
                · rw [List.map_append, List.pairwise_append]
                  refine ⟨dsc9, by simp, fun a ha b hb => ?_⟩
                  have : b = z := by simpa using hb
                  subst this
                  obtain ⟨y, hy, rfl⟩ := List.mem_map.mp ha
                  rcases List.mem_append.mp hy with hy | hy
                  · have := top y hy
                    show y.2.1 > b
                    omega
                  · have : y = (r2, p, at' + 1) := by simpa using hy
                    subst this
                    exact hzp
                · rw [pend_snoc, pe9]
                  simp only [getD_some hpz, List.drop_zero]
                  simpa using htg
              · have hz0 : len1 ps z = 0 := by simp at hb; omega
                have ef : fl ps ps[z] = [] := by
                  have q := fl_len ho.ok ps[z]
                  have q2 := len1_eq ho.ok hpz
                  unfold flen at q
                  rw [← q2, hz0] at q
                  exact List.eq_nil_of_length_eq_zero q
                rw [ef] at htg
                refine ⟨meas ps (sr ++ [(r2, p, at' + 1)]), ?_, acc, sr ++ [(r2, p, at' + 1)], _, _, _, rfl, e9.trans (e10.trans (e11.trans e12)), e12 _ _ (e11 _ _ (e10 _ _ hD9)), e12 _ _ (e11 _ _ (e10 _ _ hL8)), fun y hy => e12 _ _ (e11 _ _ (e10 _ _ (hS9 y hy))), low9, dsc9, by rw [pe9]; simpa using htg, rfl⟩
                rw [me9, hm]
                show _ < _ + (1 + (cst1 ps (.at z) + _))
                have q2 : cst1 ps (.at z) = 1 := by simp [cst1, hz0]
                rw [q2]
                omega
        · have hge : pt.length ≤ at' := by
            have : ¬ (at' : Int) < ((pt.map Im.v).length : Nat) := by simpa using hb
            rw [List.length_map] at this
            omega
          rw [List.drop_eq_nil_of_le hge, fl_nil, List.nil_append] at htg
          exact ⟨meas ps sr, by omega, acc, sr, _, _, _, rfl, e6.trans e7, e7 _ _ hD6, e7 _ _ hL6, fun z hz => e7 _ _ (hS6 z hz), low', dsc1, htg, rfl⟩
      · have es : sr = [] := by simpa using hb
        subst es
        have hfin : acc = tgt := by simpa [pend] using htg
        subst hfin
        exact s_retU (eu_tupV (ev_var rfl) (sq_of (e5 _ _ hDl))) fun t H6 ht e6 h6 => k t H6 (e4.trans (e5.trans e6)) h6
end

/-! ### counts -/
def kvC (ws : List Str) (c : Str → Nat) : List (L2.Key × V) := ws.map fun w => (Sum.inr w, V.int ((c w : Nat) : Int))
theorem kvC_any (ws : List Str) (c : Str → Nat) (e : Str) : ((kvC ws c).any fun kv => decide (kv.1 = Sum.inr e)) = decide (e ∈ ws) := by
  unfold kvC
  rw [List.any_map]
  by_cases h : e ∈ ws
  · rw [decide_eq_true h, List.any_eq_true]
    exact ⟨e, h, by simp⟩
  · rw [decide_eq_false h, List.any_eq_false]
    intro j hj
    simp
    intro q
    exact h (q ▸ hj)
theorem kvC_put (ws : List Str) (c : Str → Nat) (e : Str) (n : Nat) : putK (kvC ws c) (Sum.inr e) (V.int ((n : Nat) : Int)) = kvC (if e ∈ ws then ws else ws ++ [e]) (fun w => if w = e then n else c w) := by
  unfold putK
  rw [kvC_any]
  by_cases h : e ∈ ws
  · rw [if_pos (decide_eq_true h), if_pos h]
    unfold kvC
    rw [List.map_map]
    refine List.map_congr_left fun w hw => ?_
    by_cases q : w = e
    · subst q
      simp
    · have : ¬ (Sum.inr w : L2.Key) = Sum.inr e := fun z => q (Sum.inr.inj z)
      simp [q, this]
  · rw [if_neg (by simp [h]), if_neg h]
    unfold kvC
    rw [List.map_append]
    congr 1
    · refine List.map_congr_left fun w hw => ?_
      have : ¬ w = e := fun z => h (z ▸ hw)
      simp [this]
    · simp
theorem kvC_val (ws : List Str) (c : Str → Nat) (e : Str) : valV (kvC ws c) (Sum.inr e) = if e ∈ ws then some (V.int ((c e : Nat) : Int)) else none := by
  induction ws with
  | nil => rfl
  | cons w ws ih =>
    by_cases q : w = e
    · subst q
      rw [show kvC (w :: ws) c = (Sum.inr w, V.int ((c w : Nat) : Int)) :: kvC ws c from rfl, valV_pos rfl]
      simp
    · rw [show kvC (w :: ws) c = (Sum.inr w, V.int ((c w : Nat) : Int)) :: kvC ws c from rfl, valV_neg (fun z => q (Sum.inr.inj z)), ih]
      have : ¬ e = w := fun z => q z.symm
      simp [this]
/-- a dict of counts of some events -/
structure Cnt (ws : List Str) (L : List Str) : Prop where
  nd : ws.Nodup
  mem : ∀ w, w ∈ ws ↔ w ∈ L
def kvL (ws L : List Str) : List (L2.Key × V) := kvC ws fun w => L.count w
theorem kvC_congr {ws : List Str} {c c' : Str → Nat} (h : ∀ w ∈ ws, c w = c' w) : kvC ws c = kvC ws c' := List.map_congr_left fun w hw => by rw [h w hw]

section
variable {P : Program} {w : World} {K : PySem.W.Frag} {mg : Str → Option Value} {base : Heap} {A : Ad}
def plusI : Int → Int → V := fun i j => .int (i + j)
/-- all counts of one dict put to those of another one -/
theorem lock_add {D : Ends} {H : Hp} {Dt Dc : Addr} {ws L ws2 L2 : List Str} {s0 s1 s2 s4 s6 : Option V} (nd : Dt ≠ Dc) (ht : H Dt = some (.dK (kvL ws L))) (hc : H Dc = some (.dK (kvL ws2 L2))) (c1 : Cnt ws L) (c2 : Cnt ws2 L2) (z : ws.length + ws2.length ≤ 50000)
    (k : ∀ x ws' H2, Cnt ws' (L ++ L2) → (∀ b, b ≠ Dt → H2 b = H b) → H2 Dt = some (.dK (kvL ws' (L ++ L2))) → ws'.length ≤ ws.length + ws2.length → D.nx [s0, s1, s2, some (.ref Dt), s4, some (.ref Dc), x] H2) :
    tLock (tFor (iKeys (tVar 5)) (gName 6) (tAsg (tOp (rI0 plusI) (tDGet2 (tVar 3) (tVar 6) (tC (.int 0))) (tDGet (tVar 5) (tVar 6))) (gSub (tVar 3) (tVar 6) rSetD))) D [s0, s1, s2, some (.ref Dt), s4, some (.ref Dc), s6] H := by
  refine ⟨Dc, _, hc, trivial, fun od => ?_⟩
  refine ⟨_, rfl, Dc, od, rfl, .inl ⟨_, upd_same, ?_⟩⟩
  refine for_it (walk_keys (d := Dc) (o := od) (kvs := kvL ws2 L2)) (fun i σ' H' => ∃ (x : Option V) (wsk : List Str) (ck : Str → Nat), σ' = [s0, s1, s2, some (.ref Dt), s4, some (.ref Dc), x] ∧ (∀ b, b ≠ Dt → H' b = (upd H Dc (.frz od (.dK (kvL ws2 L2)))) b) ∧ H' Dt = some (.dK (kvC wsk ck)) ∧ wsk.Nodup ∧
    (∀ w, w ∈ wsk ↔ w ∈ ws ∨ w ∈ ws2.take i) ∧ (∀ w ∈ wsk, ck w = L.count w + if w ∈ ws2.take i then L2.count w else 0) ∧ wsk.length ≤ ws.length + i) ⟨_, ws, fun w => L.count w, rfl, fun b hb => rfl, by rw [upd_ne nd]; exact ht, c1.nd, by simp, by simp, by simp⟩ (fun i σ' H' _ p => ?_) (fun i x σ' H' H2 hi p y => ?_) (fun σ' H' p => ?_)
  · obtain ⟨_, _, _, _, e, _⟩ := p
    rw [e Dc nd.symm, upd_same]
  · obtain ⟨y0, wsk, ck, rfl, e1, e2, e3, e4, e5, e6⟩ := p
    obtain ⟨rfl, kk, v, hk, rfl⟩ := y
    have hi2 : i < ws2.length := by simpa [kvL, kvC] using hi
    have hw : ws2[i]? = some ws2[i] := List.getElem?_eq_getElem hi2
    have hkk : kk = Sum.inr ws2[i] := by
      have hk : (kvL ws2 L2)[i]? = some (kk, v) := hk
      unfold kvL kvC at hk
      rw [List.getElem?_map, hw] at hk
      exact (congrArg Prod.fst (Option.some.inj hk)).symm
    subst hkk
    have hm2 : ws2[i] ∈ ws2 := List.getElem_mem hi2
    have nt : ws2[i] ∉ ws2.take i := fun h => by
      obtain ⟨j, hj, e⟩ := List.getElem_of_mem h
      have hji : j < i := by simp at hj; omega
      rw [List.getElem_take] at e
      have q := List.pairwise_iff_getElem.mp c2.nd j i (by omega) hi2 hji
      exact q e
    generalize ws2[i] = e at *
    have hDc : H2 Dc = some (.frz od (.dK (kvL ws2 L2))) := by rw [e1 Dc nd.symm, upd_same]
    have hval : (valV (kvC wsk ck) (Sum.inr e)).getD (V.int 0) = V.int ((L.count e : Nat) : Int) := by
      rw [kvC_val]
      by_cases h : e ∈ wsk
      · rw [if_pos h]
        have q := e5 e h
        rw [if_neg nt] at q
        rw [q]
        rfl
      · rw [if_neg h]
        have : e ∉ ws := fun h2 => h ((e4 e).mpr (.inl h2))
        have : L.count e = 0 := List.count_eq_zero.mpr fun h3 => this ((c1.mem e).mpr h3)
        rw [this]
        rfl
    show tAsg _ _ _ [s0, s1, s2, some (.ref Dt), s4, some (.ref Dc), some (.str e)] H2
    refine ⟨_, rfl, Dt, rfl, .inl ⟨_, .inl e2⟩, _, rfl, valV (kvC wsk ck) (Sum.inr e), DGet.k (k := Sum.inr e) e2, _, rfl, _, rfl, Dc, V.int ((L2.count e : Nat) : Int), rfl, .inl ⟨kvL ws2 L2, Sum.inr e, .inr ⟨od, hDc⟩, rfl, ?_⟩, _, _, hval, rfl, ?_⟩
    · unfold kvL
      rw [kvC_val, if_pos hm2]
    · refine ⟨_, rfl, _, rfl, Dt, _, rfl, DPut.k (k := Sum.inr e) e2 (by unfold kvC; rw [List.length_map]; exact sz_lt (by omega)), ?_⟩
      have hp := kvC_put wsk ck e (L.count e + L2.count e)
      rw [show ((L.count e + L2.count e : Nat) : Int) = ((L.count e : Nat) : Int) + ((L2.count e : Nat) : Int) from by omega] at hp
      have tk : ws2.take (i + 1) = ws2.take i ++ [e] := by rw [List.take_succ, hw]; rfl
      refine ⟨_, (if e ∈ wsk then wsk else wsk ++ [e]), (fun w => if w = e then L.count e + L2.count e else ck w), rfl, fun b hb => by rw [upd_ne hb]; exact e1 b hb, by rw [upd_same]; exact congrArg (fun z => some (HO.dK z)) hp, ?_, fun w => ?_, fun w hw2 => ?_, ?_⟩
      · by_cases h : e ∈ wsk
        · rw [if_pos h]; exact e3
        · rw [if_neg h, List.nodup_append]
          exact ⟨e3, by simp, fun a ha b hb => by
            have : b = e := by simpa using hb
            subst this
            exact fun q => h (q ▸ ha)⟩
      · rw [tk]
        by_cases h : e ∈ wsk
        · rw [if_pos h, e4 w]
          constructor
          · rintro (h1 | h1)
            · exact .inl h1
            · exact .inr (by simp [h1])
          · rintro (h1 | h1)
            · exact .inl h1
            · rcases List.mem_append.mp h1 with h1 | h1
              · exact .inr h1
              · have : w = e := by simpa using h1
                subst this
                exact (e4 w).mp h
        · rw [if_neg h]
          simp only [List.mem_append, List.mem_singleton, e4 w, or_assoc]
      · rw [tk]
        by_cases q : w = e
        · subst q
          have q2 : w ∈ ws2.take i ++ [w] := by simp
          show (if w = w then L.count w + L2.count w else ck w) = _
          rw [if_pos rfl, if_pos q2]
        · have hwk : w ∈ wsk := by
            by_cases h : e ∈ wsk
            · rwa [if_pos h] at hw2
            · rw [if_neg h] at hw2
              rcases List.mem_append.mp hw2 with h1 | h1
              · exact h1
              · exact absurd (by simpa using h1) q
          show (if w = e then L.count e + L2.count e else ck w) = _
          rw [if_neg q, e5 w hwk]
          simp [q]
      · by_cases h : e ∈ wsk
        · rw [if_pos h]; omega
        · rw [if_neg h, List.length_append]; simp; omega
  · obtain ⟨y0, wsk, ck, rfl, e1, e2, e3, e4, e5, e6⟩ := p
    have hlen : (kvL ws2 L2).length = ws2.length := by simp [kvL, kvC]
    rw [hlen, List.take_length] at e4 e5
    rw [hlen] at e6
    refine ⟨by rw [e1 Dc nd.symm, upd_same], k y0 wsk _ ⟨e3, fun w => ?_⟩ (fun b hb => ?_) ?_ e6⟩
    · rw [e4 w, c1.mem, c2.mem, List.mem_append]
    · by_cases hbc : b = Dc
      · subst hbc
        rw [upd_same, hc]
      · rw [upd_ne hbc, e1 b hb, upd_ne hbc]
    · rw [upd_ne nd, e2]
      refine congrArg (fun z => some (HO.dK z)) (kvC_congr fun w hw => ?_)
      rw [e5 w hw, List.count_append]
      by_cases h : w ∈ ws2
      · rw [if_pos h]
      · rw [if_neg h, List.count_eq_zero.mpr fun h3 => h ((c2.mem w).mpr h3)]
end

section
variable {P : Program} {w : World} {K : PySem.W.Frag} {mg : Str → Option Value} {base : Heap} {A : Ad}
theorem sub_len : ∀ {ws S : List Str}, ws.Nodup → (∀ x ∈ ws, x ∈ S) → ws.length ≤ S.length
  | [], _, _, _ => Nat.zero_le _
  | x :: ws, S, nd, h => by
    rw [List.nodup_cons] at nd
    have hx := h x (by simp)
    have q := sub_len (S := S.erase x) nd.2 fun y hy => (List.mem_erase_of_ne (fun e : y = x => nd.1 (by rw [← e]; exact hy))).mpr (h y (by simp [hy]))
    rw [List.length_erase_of_mem hx] at q
    have : 0 < S.length := List.length_pos_of_mem hx
    simp only [List.length_cons]
    omega
theorem fl_in {S : List Str} {ps : List (List Im)} (ok : okParts ps) (hS : inS S ps) {p : List Im} (hp : ∀ x, Im.ev x ∈ p → x ∈ S) : ∀ x ∈ fl ps p, x ∈ S := fun x hx => by
  obtain ⟨it, hi, hx⟩ := List.mem_flatMap.mp hx
  cases it with
  | ev y =>
    have : x = y := by simpa [iunf1] using hx
    subst this
    exact hp x hi
  | «at» i => exact unf_in ok hS (i + 1) i (by omega) x hx
theorem Cnt.len {ws L S : List Str} (c : Cnt ws L) (h : ∀ x ∈ L, x ∈ S) : ws.length ≤ S.length := sub_len c.nd fun x hx => h x ((c.mem x).mp hx)
/-- {item: 1}, or the counts of a part -/
theorem ep_counts {σ : L2.St} {H : Hp} {ps : List (List Im)} {it : Im} {F : Addr} {ds : List Addr} {E : XK} (ok : okD it) (h4 : σ[4]? = some (some it.v)) (h1 : σ[1]? = some (some (.ref F))) (hF : H F = some (.lst (ds.map V.ref))) (hi : ∀ n, it = .at n → n < ds.length)
    (hd : ∀ (i : Nat) (d : Addr), ds[i]? = some d → ∃ ws, H d = some (.dK (kvL ws (unf1 ps i))) ∧ Cnt ws (unf1 ps i)) :
    EvP (tIf (tB (tCall (spIsEv K) [] E (tCons (tVar 4) tNil))) (tDisp [(tVar 4, tC (.int 1))]) (tOp (rIxL K) (tVar 1) (tVar 4))) σ H fun v H1 => ∃ D ws, v = .ref D ∧ H1 D = some (.dK (kvL ws (iunf1 ps it))) ∧ Cnt ws (iunf1 ps it) ∧ (H D = none ∨ D ∈ ds) := by
  refine ep_if (b := it.evB) (et_B (ev_call (ea_cons (ev_var h4) ea_nil) (fun H1 e Q q E => ⟨it, rfl, ok, fun H2 e2 => q H2 e2⟩))) (fun hb => ?_) fun hb => ?_
  · cases it with
    | «at» n => cases hb
    | ev x =>
      intro H1 e1 Q q p hp
      refine ⟨_, h4, upd_same, [(Sum.inr x, V.int 1)], rfl, by simp, ?_⟩
      refine q _ _ (Ex.mut (Ex.new hp) hp) ⟨p, [x], rfl, ?_, ⟨by simp, fun w => Iff.rfl⟩, .inl (fresh_back e1 hp)⟩
      rw [upd_same]
      simp [kvL, kvC, iunf1, mergeK, putK]
  · cases it with
    | ev x => cases hb
    | «at» n =>
      have hn := hi n rfl
      have hg : ds[n]? = some ds[n] := List.getElem?_eq_getElem hn
      obtain ⟨ws, h2, h3⟩ := hd n _ hg
      exact EvP.is (ev_op (ev_var h1) (ev_var h4) (rv_ixL (sq_of hF) (atI_nat (by rw [List.getElem?_map, hg]; rfl)))) fun H1 e1 => ⟨ds[n], ws, rfl, e1 _ _ h2, h3, .inr (List.getElem_mem hn)⟩
def wdOf (H : Hp) : V → Str
  | .ref t => match H t with
    | some (.tup [.str x, _]) => x
    | _ => Str.empty
  | _ => Str.empty
def cnOf (H : Hp) : V → Int
  | .ref t => match H t with
    | some (.tup [_, .int i]) => i
    | _ => 0
  | _ => 0
def spCounted (K : PySem.W.Frag) (A : Ad) (S : List Str) (ρ : Str → Int) : Sp := fun vs H Q _ => ∃ (f : Addr) (ps : List (List Im)), vs = [.ref f] ∧ FolAt K A H f ps ∧ OkRow ps ∧ inS S ps ∧ S.length ≤ 100 ∧
  ∀ (t : Addr) (ys : List V) (ws : List Str) (H' : Hp), Ex H H' → ws.Nodup → (∀ x, x ∈ ws ↔ x ∈ unf1 ps (ps.length - 1)) → ws.Pairwise (fun x y => ρ x ≤ ρ y) → H' t = some (.tup ys) → ys.length = ws.length →
    (∀ (i : Nat) (x : Str), ws[i]? = some x → ∃ b, ys[i]? = some (V.ref b) ∧ H' b = some (.tup [.str x, .int (((unf1 ps (ps.length - 1)).count x : Nat) : Int)])) → Q (.ref t) H'
theorem ok_counted {S : List Str} {ρ : Str → Int} (R : Rank S ρ) (F : F10 K A) (T : T10 mg K A) (C : CF K A) : FnOk P w K mg base CX0 2 A.aCounted F.fCounted ["row"] (spCounted K A S ρ) := by
  obtain ⟨dn, vNeedFolded, bNeedFolded⟩ := b_need F
  have GNeedFolded := ok_needFolded (P := P) (w := w) (mg := mg) (base := base) F T C
  have bIsEvent : Binds K F.fIsEvent ["item"] [] := F.FIsEvent.binds (fun _ _ _ _ _ _ us hl => match us, hl with | [_], _ => rfl)
  have GIsEvent := ok_isEvent (P := P) (w := w) (mg := mg) (base := base) F T
  refine F.FCounted.ok scCounted (fun vs H Q E h => ?_) (fun cdv Ar outer s H vs Q E hr h => ?_)
  · obtain ⟨x, ps, rfl, _⟩ := h
    rfl
  · obtain ⟨f, ps, rfl, hF, ho, hS, hSl, k⟩ := h
    obtain ⟨dx, q, l, hf, ⟨us, hq, hul, hat⟩, hl⟩ := hF
    have hr1 := hr
    have hu := hr.units
    have hu1 := Nat.lt_of_le_of_lt (Nat.add_le_add_left (show 1 ≤ 64 by omega) _) hu
    have ne := ho.ne
    have few := ho.few
    refine ⟨_, (pss_cons (ps_expr (pe_call GNeedFolded hr1 rfl T.gNeedFolded T.kNeedFolded bNeedFolded vNeedFolded pass0 (pa_cons (pv 0) pa_nil)))
  (pss_cons (ps_set (i := 1) scCounted.nd rfl (Or.inl rfl) (pe_lst pa_nil))
  (pss_cons (ps_for PassesOwn.never rfl (pi_tup (pe_fld (pv 0) rfl)) (pg_name (i := 2) scCounted.nd rfl (Or.inl rfl)) (pss_cons (ps_set (i := 3) scCounted.nd rfl (Or.inl rfl) pe_dnewK)
  (pss_cons (ps_for PassesOwn.never rfl (pi_tup (pv 2)) (pg_name (i := 4) scCounted.nd rfl (Or.inl rfl)) (pss_cons (ps_set (i := 5) scCounted.nd rfl (Or.inl rfl) (pe_ifExp (pt_val (pe_call GIsEvent hr1 rfl T.gIsEvent T.kIsEvent bIsEvent .nil pass0 (pa_cons (pv 4) pa_nil))) (pe_disp (pps_cons (pv 4) pe_int pps_nil) rfl rfl (by simp) (by decide)) (pe_ix ix_list (pv 1) (pv 4) (fun _ _ => rfl))))
  (pss_one (ps_lock (ps_for PassesOwn.never rfl (pi_keys (pv 5)) (pg_name (i := 6) scCounted.nd rfl (Or.inl rfl)) (pss_one (ps_asg (pe_op op_add (pe_dget2 hu1 (pv 3) (pv 6) pe_int ⟨rfl, rfl, rfl, rfl⟩) (pe_dget hu1 (pv 5) (pv 6) (fun _ _ => rfl))) (pg_sub (pv 3) (pv 6) (set_dict hu1)))))))))
  (pss_one (ps_expr (pe_bm PySem.F.plainAttrs_list PySem.F.slot_list_append PySem.F.type_list_append mt_append (pv 1) (pa_cons (pv 3) pa_nil)))))))
  (pss_one (ps_ret (pe_callTy call_tuple_of (by rfl) T.b_tuple (by decide +kernel) (pa_cons (pe_callB (cr_sortTx R) (by rfl) T.b_sorted (by decide +kernel) (pa_cons (LiI.pe_listItems rfl (pe_ix ix_list (pv 1) (pe_un un_neg pe_int) (fun _ _ => rfl)) (by rfl) T.b_list (by decide +kernel)) pa_nil)) pa_nil))))))), ?_⟩
    change tSeq _ _ _ [some (.ref f), none, none, none, none, none, none] _
    refine q_drop (v := .non) (ev_call (ea_cons (ev_var rfl) ea_nil) (fun H1 e Q q E => ⟨f, .str "row", _, _, rfl, e _ _ hf, fun H2 e2 => q H2 e2⟩)) fun H1 e1 => ?_
    refine q_asgL (el_lst ea_nil (by simp)) fun Fa H2 hFa e2 h2 => ?_
    have hF0 : H Fa = none := fresh_back e1 hFa
    show tSeq _ _ _ [some (.ref f), some (.ref Fa), none, none, none, none, none] _
    refine q_forT (xs := us) (ev_fld (ev_var rfl) (e2 _ _ (e1 _ _ hf)) C.clF (C.noF _ (by decide)) rfl) (ex_t (e1.trans e2) hq) (fun j σ' H' => ∃ (x2 x3 x4 x5 x6 : Option V) (ds : List Addr), σ' = [some (.ref f), some (.ref Fa), x2, x3, x4, x5, x6] ∧ Ex H H' ∧ H' Fa = some (.lst (ds.map V.ref)) ∧ ds.length = j ∧
      ∀ (i : Nat) (d : Addr), ds[i]? = some d → ∃ ws, H' d = some (.dK (kvL ws (unf1 ps i))) ∧ Cnt ws (unf1 ps i)) (fun H3 e3 => ⟨_, _, _, _, _, [], rfl, e1.trans (e2.trans e3), e3 _ _ h2, rfl, by simp⟩) (fun j σ' H' _ p => by obtain ⟨_, _, _, _, _, _, _, e, _⟩ := p; exact ex_t e hq) (fun j x σ' H' hx p => ?_) (fun σ' H' p => ?_)
    · obtain ⟨x2, x3, x4, x5, x6, ds, rfl, e3, hFl, hdl, hds⟩ := p
      have hj : j < ps.length := by rw [← hul]; exact (List.getElem?_eq_some_iff.mp hx).1
      have hpj : ps[j]? = some ps[j] := List.getElem?_eq_getElem hj
      generalize hpt : ps[j] = pt at hpj
      obtain ⟨ap, hap, hbp⟩ := hat j pt hpj
      rw [hap] at hx
      cases hx
      have hptS : ∀ x, Im.ev x ∈ pt → x ∈ S := hS pt (List.mem_of_getElem? hpj)
      show tSeq _ _ _ [some (.ref f), some (.ref Fa), some (.ref ap), x3, x4, x5, x6] _
      intro Dt hDt
      have hDt0 : H Dt = none := fresh_back e3 hDt
      have ex4 : Ex H' (upd H' Dt (.dK [])) := Ex.new hDt
      have hT4 : (upd H' Dt (.dK [])) Dt = some (.dK []) := upd_same
      show tSeq _ _ _ [some (.ref f), some (.ref Fa), some (.ref ap), some (.ref Dt), x4, x5, x6] (upd H' Dt (.dK []))
      generalize upd H' Dt (.dK []) = H4 at *
      have nFD : Fa ≠ Dt := fun e => by rw [← e, hFl] at hDt; cases hDt
      have nds : ∀ d ∈ ds, d ≠ Dt := fun d hd e => by
        obtain ⟨i, hi, rfl⟩ := List.getElem_of_mem hd
        obtain ⟨ws, h1, _⟩ := hds i _ (List.getElem?_eq_getElem hi)
        rw [e, hDt] at h1
        cases h1
      refine q_forT (xs := pt.map Im.v) (ev_var rfl) (ex_t (e3.trans ex4) hbp) (fun i σ' H5 => ∃ (x4 x5 x6 : Option V) (ws : List Str), σ' = [some (.ref f), some (.ref Fa), some (.ref ap), some (.ref Dt), x4, x5, x6] ∧ (∀ b o, b ≠ Dt → H4 b = some o → H5 b = some o) ∧ H5 Dt = some (.dK (kvL ws (fl ps (pt.take i)))) ∧ Cnt ws (fl ps (pt.take i)))
        (fun H5 e5 => ⟨_, _, _, [], rfl, fun b o _ h => e5 b o h, by rw [List.take_zero]; exact e5 _ _ hT4, ⟨List.nodup_nil, fun w => by rw [List.take_zero]; exact Iff.rfl⟩⟩) (fun i σ' H5 _ p => ?_) (fun i x σ' H5 hx p => ?_) (fun σ' H5 p => ?_)
      · obtain ⟨_, _, _, _, _, e5, _⟩ := p
        have ee : Ex H H5 := fun b o hb => e5 b o (fun z => by rw [z, hDt0] at hb; cases hb) (ex4 _ _ (e3 _ _ hb))
        exact ex_t ee hbp
      · obtain ⟨y4, y5, y6, ws, rfl, e5, hT5, c5⟩ := p
        obtain ⟨it, hit, rfl⟩ := im_get hx
        have hok := ho.ok j pt hpj it (List.mem_of_getElem? hit)
        have htk : pt.take (i + 1) = pt.take i ++ [it] := by rw [List.take_succ, hit]; rfl
        have hfl1 : fl ps (pt.take (i + 1)) = fl ps (pt.take i) ++ iunf1 ps it := by rw [htk, fl_app]; simp [fl]
        have hF5 : H5 Fa = some (.lst (ds.map V.ref)) := e5 _ _ nFD (ex4 _ _ hFl)
        have hds5 : ∀ (i : Nat) (d : Addr), ds[i]? = some d → ∃ ws, H5 d = some (.dK (kvL ws (unf1 ps i))) ∧ Cnt ws (unf1 ps i) := fun i d hd => by
          obtain ⟨ws, h1, h2⟩ := hds i d hd
          exact ⟨ws, e5 _ _ (nds d (List.mem_of_getElem? hd)) (ex4 _ _ h1), h2⟩
        show tSeq _ _ _ [some (.ref f), some (.ref Fa), some (.ref ap), some (.ref Dt), some it.v, y5, y6] _
        refine q_aspP (ep_counts (σ := [some (.ref f), some (.ref Fa), some (.ref ap), some (.ref Dt), some it.v, y5, y6]) (ps := ps) (it := it) (F := Fa) (ds := ds) hok.d rfl rfl hF5 (fun n e => by subst e; rw [hdl]; exact hok) hds5) fun v H6 e6 hv => ?_
        obtain ⟨Dc, ws2, rfl, hC6, c6, hDc⟩ := hv
        have nd : Dt ≠ Dc := fun e => by
          rcases hDc with h | h
          · rw [← e, hT5] at h; cases h
          · exact nds _ h e.symm
        have hin1 : ∀ x ∈ fl ps (pt.take i), x ∈ S := fl_in ho.ok hS fun x hx => hptS x (List.mem_of_mem_take hx)
        have hin2 : ∀ x ∈ iunf1 ps it, x ∈ S := by
          have q := fl_in ho.ok hS (p := [it]) fun x hx => hptS x (by
            have : Im.ev x = it := by simpa using hx
            rw [this]
            exact List.mem_of_getElem? hit)
          simpa [fl] using q
        have z1 := c5.len hin1
        have z2 := c6.len hin2
        show tLock _ _ [some (.ref f), some (.ref Fa), some (.ref ap), some (.ref Dt), some it.v, some (.ref Dc), y6] _
        refine lock_add nd (e6 _ _ hT5) hC6 c5 c6 (by omega) fun x ws' H7 c7 hb7 hT7 _ => ?_
        rw [← hfl1] at hT7 c7
        exact ⟨_, _, _, ws', rfl, fun b o hb ho => by rw [hb7 b hb]; exact e6 _ _ (e5 b o hb ho), hT7, c7⟩
      · obtain ⟨y4, y5, y6, ws, rfl, e5, hT5, c5⟩ := p
        rw [List.length_map, List.take_length] at hT5 c5
        have hF5 : H5 Fa = some (.lst (ds.map V.ref)) := e5 _ _ nFD (ex4 _ _ hFl)
        have ee : Ex H H5 := fun b o hb => e5 b o (fun z => by rw [z, hDt0] at hb; cases hb) (ex4 _ _ (e3 _ _ hb))
        refine s_app (v := .ref Dt) hF5 (ev_var rfl) (ev_var rfl) (by rw [List.length_map]; omega) fun H6 e6 => ?_
        refine ⟨_, _, _, _, _, ds ++ [Dt], rfl, Ex.mut (ee.trans e6) hF0, by rw [upd_same, List.map_append]; rfl, by simp [hdl], fun i d hd => ?_⟩
        by_cases hlt : i < ds.length
        · rw [List.getElem?_append_left hlt] at hd
          obtain ⟨ws, h1, h2⟩ := hds i d hd
          have h3 := e6 _ _ (e5 _ _ (nds d (List.mem_of_getElem? hd)) (ex4 _ _ h1))
          have nF : d ≠ Fa := fun e => by rw [e, e6 _ _ hF5] at h3; cases h3
          exact ⟨ws, by rw [upd_ne nF]; exact h3, h2⟩
        · have hi : i = ds.length := by
            have := (List.getElem?_eq_some_iff.mp hd).1
            simp at this
            omega
          subst hi
          have hdD : d = Dt := by simpa using hd.symm
          subst hdD
          have uj : unf1 ps ds.length = fl ps pt := by rw [hdl]; exact unf1_eq ho.ok hpj
          rw [uj]
          exact ⟨ws, by rw [upd_ne nFD.symm]; exact e6 _ _ hT5, c5⟩
    · obtain ⟨x2, x3, x4, x5, x6, ds, rfl, e3, hFl, hdl, hds⟩ := p
      rw [hul] at hdl
      obtain ⟨dr, dz, hdr⟩ := snoc_of (l := ds) (fun e => by rw [e] at hdl; simp at hdl; omega)
      have hlast : atI (ds.map V.ref) (-1) = some (.ref dz) := by
        rw [hdr, List.map_append]
        exact atI_last _ _
      have hdz : ds[ps.length - 1]? = some dz := by
        have : ps.length - 1 = dr.length := by rw [← hdl, hdr]; simp
        rw [this, hdr]
        simp
      obtain ⟨ws, hz, cz⟩ := hds _ _ hdz
      have hinS : ∀ x ∈ unf1 ps (ps.length - 1), x ∈ S := unf_in ho.ok hS _ _ (Nat.lt_succ_self _)
      generalize unf1 ps (ps.length - 1) = L at *
      have zl := cz.len hinS
      refine sr_ret (P := fun v H4 => ∃ (t : Addr) (ys : List V) (ws' : List Str), v = .ref t ∧ ws'.Nodup ∧ (∀ x : Str, x ∈ ws' ↔ x ∈ L) ∧ ws'.Pairwise (fun x y => ρ x ≤ ρ y) ∧ H4 t = some (.tup ys) ∧ ys.length = ws'.length ∧ ∀ (i : Nat) (x : Str), ws'[i]? = some x → ∃ b, ys[i]? = some (V.ref b) ∧ H4 b = some (.tup [.str x, .int ((L.count x : Nat) : Int)])) ?_ fun v H4 e4 hv => ?_
      · intro H4 e4 Q qq
        refine ev_op (ev_var rfl) (ev_un ev_c ru_neg) (rv_ixL (sq_of (e4 _ _ hFl)) hlast) H4 (Ex.refl H4) _ fun H5 e5 => ?_
        refine ⟨dz, _, rfl, e5 _ _ (e4 _ _ hz), fun H6 p ts e6 hp hts npts h6 pr => ?_⟩
        have hlen : ts.length = ws.length := by
          have := Paired.length pr
          simpa [kvL, kvC] using this
        have at6 : ∀ (i : Nat) (t : Addr), ts[i]? = some t → ∃ x, ws[i]? = some x ∧ H6 t = some (.tup [.str x, .int ((L.count x : Nat) : Int)]) := fun i t ht => by
          obtain ⟨y, hy, hh⟩ := LiI.paired_get pr ht
          unfold kvL kvC at hy
          rw [List.getElem?_map, Option.map_eq_some_iff] at hy
          obtain ⟨x, hx, rfl⟩ := hy
          exact ⟨x, hx, hh⟩
        have wds : ts.map (fun t => wdOf H6 (.ref t)) = ws := by
          apply List.ext_getElem?
          intro i
          rw [List.getElem?_map]
          cases ht : ts[i]? with
          | none =>
            have : ws[i]? = none := by
              rw [List.getElem?_eq_none_iff] at ht ⊢
              omega
            rw [this]
            rfl
          | some t =>
            obtain ⟨x, hx, hh⟩ := at6 i t ht
            rw [hx]
            simp [wdOf, hh]
        have mem6 : ∀ t ∈ ts, H6 t = some (.tup [.str (wdOf H6 (.ref t)), .int ((L.count (wdOf H6 (.ref t)) : Nat) : Int)]) ∧ wdOf H6 (.ref t) ∈ ws := fun t ht => by
          obtain ⟨i, hi, rfl⟩ := List.getElem_of_mem ht
          obtain ⟨x, hx, hh⟩ := at6 i _ (List.getElem?_eq_getElem hi)
          have e : wdOf H6 (.ref ts[i]) = x := by simp [wdOf, hh]
          rw [e]
          exact ⟨hh, List.mem_of_getElem? hx⟩
        refine ⟨p, ts.map V.ref, wdOf H6, fun v => ((L.count (wdOf H6 v) : Nat) : Int), rfl, sq_of h6, fun x hx => ?_, fun ys r pm srt hr => ?_⟩
        · obtain ⟨t, ht, rfl⟩ := List.mem_map.mp hx
          obtain ⟨g1, g2⟩ := mem6 t ht
          exact ⟨hinS _ ((cz.mem _).mp g2), t, rfl, g1⟩
        · refine ⟨r, ys, rfl, .inl ⟨sq_of upd_same, fun t ht => ?_⟩⟩
          have pm2 : (ys.map (wdOf H6)).Perm ws := by
            have q := pm.map (wdOf H6)
            rw [List.map_map] at q
            rw [← wds]
            exact q
          refine qq _ _ (e5.trans (Ex.trans (H1 := H6) (fun b o h => e6 b o h) ((Ex.new hr).trans (Ex.new ht)))) ⟨t, ys, ys.map (wdOf H6), rfl, pm2.symm.nodup cz.nd, fun x => by rw [pm2.mem_iff, cz.mem], List.pairwise_map.mpr srt, upd_same, by simp, fun i x hx => ?_⟩
          rw [List.getElem?_map, Option.map_eq_some_iff] at hx
          obtain ⟨v, hv, rfl⟩ := hx
          have hm := pm.mem_iff.mp (List.mem_of_getElem? hv)
          obtain ⟨b, hb, rfl⟩ := List.mem_map.mp hm
          exact ⟨b, hv, Ex.new ht _ _ (Ex.new hr _ _ (mem6 b hb).1)⟩
      · obtain ⟨t, ys, ws', rfl, g1, g2, g3, g4, g5, g6⟩ := hv
        exact k t ys ws' H4 (e3.trans e4) g1 g2 g3 g4 g5 g6
end

/-! ### parts that are put in, each once -/
def Im.key : Im → L2.Key
  | .ev x => .inr x
  | .at i => .inl ((i : Nat) : Int)
theorem key_v (it : Im) : kV it.key = it.v := by cases it <;> rfl
theorem key_inj {a b : Im} (h : a.key = b.key) : a = b := by
  cases a with
  | ev x => cases b with
    | ev y => rw [Sum.inr.inj h]
    | «at» j => cases h
  | «at» i => cases b with
    | ev y => cases h
    | «at» j =>
      have : ((i : Nat) : Int) = ((j : Nat) : Int) := Sum.inl.inj h
      have : i = j := by omega
      rw [this]
def keyL (p : List Im) : List L2.Key := p.map Im.key
theorem keyL_v (p : List Im) : (keyL p).map kV = p.map Im.v := by
  unfold keyL
  rw [List.map_map]
  exact List.map_congr_left fun it _ => key_v it
theorem keyL_inj : ∀ {p q : List Im}, keyL p = keyL q → p = q
  | [], [], _ => rfl
  | a :: p, b :: q, h => by
    have h1 : a.key = b.key ∧ keyL p = keyL q := by simpa [keyL] using h
    rw [key_inj h1.1, keyL_inj h1.2]
  | [], _ :: _, h => by simp [keyL] at h
  | _ :: _, [], h => by simp [keyL] at h
def numT (qs : List (List Im)) (n : Nat) : List (List L2.Key × V) := (List.range n).map fun k => (keyL (qs.getD k []), V.int ((k : Nat) : Int))
theorem numT_succ (qs : List (List Im)) (n : Nat) : numT qs (n + 1) = numT qs n ++ [(keyL (qs.getD n []), V.int ((n : Nat) : Int))] := by
  unfold numT
  rw [List.range_succ, List.map_append]
  rfl
theorem numT_app (qs : List (List Im)) (p : List Im) : ∀ {n : Nat}, n ≤ qs.length → numT (qs ++ [p]) n = numT qs n := fun {n} hn => by
  unfold numT
  refine List.map_congr_left fun k hk => ?_
  have hk2 : k < n := List.mem_range.mp hk
  simp only [List.getD, List.getElem?_append_left (Nat.lt_of_lt_of_le hk2 hn)]
theorem numT_none {qs : List (List Im)} {n : Nat} {p : List Im} (h : ∀ k, k < n → qs.getD k [] ≠ p) : valV (numT qs n) (keyL p) = none := by
  rw [← Option.not_isSome_iff_eq_none, ← valV_any]
  intro z
  unfold numT at z
  rw [List.any_map, List.any_eq_true] at z
  obtain ⟨k, hk, e⟩ := z
  exact h k (List.mem_range.mp hk) (keyL_inj (of_decide_eq_true e))
theorem numT_val {qs : List (List Im)} (nd : qs.Nodup) : ∀ {n : Nat}, n ≤ qs.length → ∀ k, k < n → valV (numT qs n) (keyL (qs.getD k [])) = some (.int ((k : Nat) : Int))
  | 0, _, k, h => by omega
  | n + 1, hn, k, h => by
    have far : ∀ i j, i < j → j < qs.length → qs.getD i [] ≠ qs.getD j [] := fun i j hij hj => by
      rw [getD_some (List.getElem?_eq_getElem (Nat.lt_trans hij hj)), getD_some (List.getElem?_eq_getElem hj)]
      exact List.pairwise_iff_getElem.mp nd i j (Nat.lt_trans hij hj) hj hij
    rw [numT_succ, valV_snoc _ _ _ _ (numT_none fun i hi => far i n hi hn)]
    by_cases e : k = n
    · subst e
      rw [if_pos rfl]
    · have hk : k < n := by omega
      rw [if_neg fun q => far k n hk hn (keyL_inj q)]
      exact numT_val nd (Nat.le_of_succ_le hn) k hk
structure CS (K : PySem.W.Frag) (A : Ad) : Prop where
  clS : Cls K A.cSharing
  noS : ∀ f ∈ (["numbers", "parts"] : List Str), NoAttr K A.cSharing f
def ShAt (A : Ad) (H : Hp) (s nd pl : Addr) (qs : List (List Im)) : Prop := ∃ dx rs, H s = some (.ins A.cSharing dx [("numbers", .ref nd), ("parts", .ref pl)]) ∧ H nd = some (.dT (numT qs qs.length)) ∧ H pl = some (.lst rs) ∧ rs.length = qs.length ∧
  ∀ (i : Nat) (q : List Im), qs[i]? = some q → ∃ b : Addr, rs[i]? = some (V.ref b) ∧ H b = some (.tup (q.map Im.v))
section
variable {P : Program} {w : World} {K : PySem.W.Frag} {mg : Str → Option Value} {base : Heap} {A : Ad}
theorem ev_dnotinT {σ : L2.St} {H : Hp} {ty td : TE} {a b : Addr} {kvs : List (List L2.Key × V)} {k : List L2.Key} (h1 : Ev ty σ H (.ref b)) (h2 : Ev td σ H (.ref a)) (ha : H a = some (.dT kvs)) (hb : H b = some (.tup (k.map kV))) : Ev (tDNotIn ty td) σ H (.bl (!(valV kvs k).isSome)) := fun H1 e Q q =>
  h1 H1 e _ fun H2 e2 => h2 H2 (e.trans e2) _ fun H3 e3 => ⟨a, _, rfl, DGet.t ((e.trans (e2.trans e3)) a _ ha) ((e.trans (e2.trans e3)) b _ hb), q H3 (e2.trans e3)⟩
theorem ev_dgetT {σ : L2.St} {H : Hp} {td ty : TE} {a b : Addr} {kvs : List (List L2.Key × V)} {k : List L2.Key} {v : V} (h1 : Ev td σ H (.ref a)) (h2 : Ev ty σ H (.ref b)) (ha : H a = some (.dT kvs)) (hb : H b = some (.tup (k.map kV))) (hv : valV kvs k = some v) : Ev (tDGet td ty) σ H v := fun H1 e Q q =>
  h1 H1 e _ fun H2 e2 => h2 H2 (e.trans e2) _ fun H3 e3 => ⟨a, v, rfl, by rw [← hv]; exact DGet.t ((e.trans (e2.trans e3)) a _ ha) ((e.trans (e2.trans e3)) b _ hb), q H3 (e2.trans e3)⟩
theorem q_aspG {te : TE} {g : TG} {tz : TS} {D : Ends} {σ : L2.St} {H : Hp} {P : V → Hp → Prop} (h : EvP te σ H P) (k : ∀ v H1, Ex H H1 → P v H1 → g v σ H1 (tz D)) : tSeq (tAsg te g) tz D σ H := h H (Ex.refl H) _ k
/-- all but two things is as it was -/
def But (nd pl : Addr) (H H' : Hp) : Prop := ∀ b o, b ≠ nd → b ≠ pl → H b = some o → H' b = some o
def spPut (A : Ad) : Sp := fun vs H Q _ => ∃ (s b nd pl : Addr) (qs : List (List Im)) (p : List Im), vs = [.ref s, .ref b] ∧ ShAt A H s nd pl qs ∧ qs.Nodup ∧ H b = some (.tup (p.map Im.v)) ∧ qs.length ≤ 40000 ∧
  ∀ (n : Nat) (qs' : List (List Im)) (H' : Hp), qs'[n]? = some p → ((qs' = qs) ∨ (p ∉ qs ∧ qs' = qs ++ [p])) → ShAt A H' s nd pl qs' → But nd pl H H' → Q (.int (n : Nat)) H'
theorem ok_put (F : F10 K A) (T : T10 mg K A) (C : CS K A) : FnOk P w K mg base CX0 1 A.aSPut F.fSPut ["self", "part"] (spPut A) := by
  refine F.FSPut.ok scSPut (fun vs H Q E h => ?_) (fun cdv Ar outer s H vs Q E hr h => ?_)
  · obtain ⟨x, b, _, _, _, _, rfl, _⟩ := h
    rfl
  · obtain ⟨x, b, nd, pl, qs, p, rfl, ⟨dx, rs, hx, hn, hpl, hl, hat⟩, hnd, hb, z, k⟩ := h
    have hu := hr.units
    have hu1 := Nat.lt_of_le_of_lt (Nat.add_le_add_left (show 1 ≤ 64 by omega) _) hu
    have hb' : H b = some (.tup ((keyL p).map kV)) := by rw [keyL_v]; exact hb
    refine ⟨_, (pss_cons (ps_if (pt_cmp (pc_dnotin hu1 (pv 1) (pe_fld (pv 0) rfl))) (pss_cons (ps_asg (pe_callB call_len_seq (by rfl) T.b_len (by decide +kernel) (pa_cons (pe_fld (pv 0) rfl) pa_nil)) (pg_sub (pe_fld (pv 0) rfl) (pv 1) (set_dict hu1)))
  (pss_one (ps_expr (pe_bm PySem.F.plainAttrs_list PySem.F.slot_list_append PySem.F.type_list_append mt_append (pe_fld (pv 0) rfl) (pa_cons (pv 1) pa_nil))))) pss_nil)
  (pss_one (ps_ret (pe_dget hu1 (pe_fld (pv 0) rfl) (pv 1) (fun _ _ => rfl))))), ?_⟩
    change tSeq _ _ _ [some (.ref x), some (.ref b)] _
    by_cases hin : p ∈ qs
    · obtain ⟨i, hi, e⟩ := List.getElem_of_mem hin
      have hi2 : qs[i]? = some p := by rw [List.getElem?_eq_getElem hi, e]
      have hv : valV (numT qs qs.length) (keyL p) = some (.int ((i : Nat) : Int)) := by
        have q := numT_val hnd (Nat.le_refl _) i hi
        rwa [getD_some hi2] at q
      refine q_when (b := false) (et_B (ev_is (ev_dnotinT (ev_var rfl) (ev_fld (ev_var rfl) hx C.clS (C.noS _ (by decide)) rfl) hn hb') (by rw [hv]; rfl))) (fun h => by cases h) fun _ H1 e1 => ?_
      refine s_ret (ev_dgetT (ev_fld (ev_var rfl) (e1 _ _ hx) C.clS (C.noS _ (by decide)) rfl) (ev_var rfl) (e1 _ _ hn) (e1 _ _ hb') hv) fun H2 e2 => ?_
      have e := e1.trans e2
      refine k i qs H2 hi2 (.inl rfl) ⟨dx, rs, e _ _ hx, e _ _ hn, e _ _ hpl, hl, fun j q hj => ?_⟩ fun c o _ _ h => e c o h
      obtain ⟨c, h1, h2⟩ := hat j q hj
      exact ⟨c, h1, e _ _ h2⟩
    · have hno : valV (numT qs qs.length) (keyL p) = none := numT_none fun i hi e => hin (by
        rw [getD_some (List.getElem?_eq_getElem hi)] at e
        exact e ▸ List.getElem_mem hi)
      have nxn : x ≠ nd := fun e => by rw [e, hn] at hx; cases hx
      have nxp : x ≠ pl := fun e => by rw [e, hpl] at hx; cases hx
      have nbn : b ≠ nd := fun e => by rw [e, hn] at hb; cases hb
      have nbp : b ≠ pl := fun e => by rw [e, hpl] at hb; cases hb
      have npn : pl ≠ nd := fun e => by rw [e, hn] at hpl; cases hpl
      refine q_when (b := true) (et_B (ev_is (ev_dnotinT (ev_var rfl) (ev_fld (ev_var rfl) hx C.clS (C.noS _ (by decide)) rfl) hn hb') (by rw [hno]; rfl))) (fun _ H1 e1 => ?_) fun h => by cases h
      refine q_aspG (EvP.of (ev_len (ev_fld (ev_var rfl) (e1 _ _ hx) C.clS (C.noS _ (by decide)) rfl) (sq_of (e1 _ _ hpl)))) fun v H2 e2 hv => ?_
      subst hv
      have x2 := e2 _ _ (e1 _ _ hx)
      refine ev_fld (ev_var rfl) x2 C.clS (C.noS _ (by decide)) rfl H2 (Ex.refl H2) _ fun H3 e3 => ?_
      have e := e1.trans (e2.trans e3)
      refine ⟨_, rfl, nd, _, rfl, DPut.t (e _ _ hn) (e _ _ hb') (by unfold numT; rw [List.length_map, List.length_range]; exact sz_lt (by omega)), ?_⟩
      rw [putK_new _ hno]
      have hnum : numT qs qs.length ++ [(keyL p, V.int ((rs.length : Nat) : Int))] = numT (qs ++ [p]) (qs ++ [p]).length := by
        rw [show (qs ++ [p]).length = qs.length + 1 from by simp, numT_succ, numT_app qs p (Nat.le_refl _), hl]
        simp [List.getD]
      rw [hnum]
      have x4 : (upd H3 nd (.dT (numT (qs ++ [p]) (qs ++ [p]).length))) x = some (.ins A.cSharing dx [("numbers", .ref nd), ("parts", .ref pl)]) := by rw [upd_ne nxn]; exact e _ _ hx
      have p4 : (upd H3 nd (.dT (numT (qs ++ [p]) (qs ++ [p]).length))) pl = some (.lst rs) := by rw [upd_ne npn]; exact e _ _ hpl
      have n4 : (upd H3 nd (.dT (numT (qs ++ [p]) (qs ++ [p]).length))) nd = some (.dT (numT (qs ++ [p]) (qs ++ [p]).length)) := upd_same
      have b4 : But nd pl H (upd H3 nd (.dT (numT (qs ++ [p]) (qs ++ [p]).length))) := fun c o c1 _ h => by rw [upd_ne c1]; exact e c o h
      show tDrop _ _ [some (.ref x), some (.ref b)] (upd H3 nd (.dT (numT (qs ++ [p]) (qs ++ [p]).length)))
      generalize upd H3 nd (.dT (numT (qs ++ [p]) (qs ++ [p]).length)) = H4 at *
      refine s_app (v := .ref b) p4 (ev_fld (ev_var rfl) x4 C.clS (C.noS _ (by decide)) rfl) (ev_var rfl) (by omega) fun H5 e5 => ?_
      have x6 : (upd H5 pl (.lst (rs ++ [.ref b]))) x = some (.ins A.cSharing dx [("numbers", .ref nd), ("parts", .ref pl)]) := by rw [upd_ne nxp]; exact e5 _ _ x4
      have n6 : (upd H5 pl (.lst (rs ++ [.ref b]))) nd = some (.dT (numT (qs ++ [p]) (qs ++ [p]).length)) := by rw [upd_ne npn.symm]; exact e5 _ _ n4
      have p6 : (upd H5 pl (.lst (rs ++ [.ref b]))) pl = some (.lst (rs ++ [.ref b])) := upd_same
      have b6 : But nd pl H (upd H5 pl (.lst (rs ++ [.ref b]))) := fun c o c1 c2 h => by rw [upd_ne c2]; exact e5 _ _ (b4 c o c1 c2 h)
      dsimp only
      generalize upd H5 pl (.lst (rs ++ [.ref b])) = H6 at *
      have nd2 : (qs ++ [p]).Nodup := by
        rw [List.nodup_append]
        exact ⟨hnd, by simp, fun a ha c hc => by
          have : c = p := by simpa using hc
          subst this
          exact fun e => hin (e ▸ ha)⟩
      have hv : valV (numT (qs ++ [p]) (qs ++ [p]).length) (keyL p) = some (.int ((qs.length : Nat) : Int)) := by
        have q := numT_val nd2 (Nat.le_refl _) qs.length (by simp)
        rwa [getD_some (show (qs ++ [p])[qs.length]? = some p from by simp)] at q
      refine s_ret (ev_dgetT (ev_fld (ev_var rfl) x6 C.clS (C.noS _ (by decide)) rfl) (ev_var rfl) n6 (b6 _ _ nbn nbp hb') hv) fun H7 e7 => ?_
      refine k qs.length (qs ++ [p]) H7 (by simp) (.inr ⟨hin, rfl⟩) ⟨dx, rs ++ [.ref b], e7 _ _ x6, e7 _ _ n6, e7 _ _ p6, by simp [hl], fun j q hj => ?_⟩ fun c o c1 c2 h => e7 _ _ (b6 c o c1 c2 h)
      by_cases hlt : j < qs.length
      · rw [List.getElem?_append_left hlt] at hj
        obtain ⟨c, h1, h2⟩ := hat j q hj
        have nc1 : c ≠ nd := fun z => by rw [z, hn] at h2; cases h2
        have nc2 : c ≠ pl := fun z => by rw [z, hpl] at h2; cases h2
        exact ⟨c, by rw [List.getElem?_append_left (by omega)]; exact h1, e7 _ _ (b6 _ _ nc1 nc2 h2)⟩
      · have hj2 : j = qs.length := by
          have := (List.getElem?_eq_some_iff.mp hj).1
          simp at this
          omega
        subst hj2
        have : q = p := by simpa using hj.symm
        subst this
        exact ⟨b, by rw [← hl]; simp, e7 _ _ (b6 _ _ nbn nbp hb)⟩
end

/-! ### parts behind others stay what they are -/
theorem grow_congr {α : Type} {f g : List α → Nat → α} : ∀ n, (∀ l j, j < n → f l j = g l j) → grow f n = grow g n
  | 0, _ => rfl
  | n + 1, h => by
    simp only [grow]
    rw [grow_congr n fun l j hj => h l j (by omega), h _ n (by omega)]
theorem getD_app {α : Type} {l r : List α} {j : Nat} {d : α} (h : j < l.length) : (l ++ r).getD j d = l.getD j d := by simp [List.getD, List.getElem?_append_left h]
theorem unf_app (qs r : List (List Im)) {j : Nat} (h : j < qs.length) : unf1 (qs ++ r) j = unf1 qs j := by
  unfold unf1 unfTo
  rw [getD_app h, grow_congr (g := fun us k => (qs.getD k []).flatMap (iunf us)) j fun l k hk => by rw [getD_app (Nat.lt_trans hk h)]]
theorem iunf_app (qs r : List (List Im)) {it : Im} (h : it.ok qs.length) : iunf1 (qs ++ r) it = iunf1 qs it := by
  cases it with
  | ev x => rfl
  | «at» i => exact unf_app qs r h
def ren2 (ns : List Nat) : Im → Im
  | .ev x => .ev x
  | .at i => .at (ns.getD i 0)
structure CSh (K : PySem.W.Frag) (A : Ad) : Prop where
  cs : CS K A
  mPut : Meth K A.cSharing "put" A.aSPut
  mItems : Meth K A.cSharing "items" A.aSItems
  mkS : Mk K A.cSharing A.aSInit
/-- the parts of a row but the last one are held by a store, under these numbers -/
def Held (qs ps : List (List Im)) (ns : List Nat) : Prop := ∀ (j n : Nat), ns[j]? = some n → ∃ p, ps[j]? = some p ∧ qs[n]? = some (p.map (ren2 (ns.take j)))
theorem Held.app {qs ps : List (List Im)} {ns : List Nat} (r : List (List Im)) (h : Held qs ps ns) : Held (qs ++ r) ps ns := fun j n hj => by
  obtain ⟨p, h1, h2⟩ := h j n hj
  exact ⟨p, h1, by rw [List.getElem?_append_left (List.getElem?_eq_some_iff.mp h2).1]; exact h2⟩
def Has (qs ps : List (List Im)) : Prop := ∃ ns : List Nat, ns.length + 1 = ps.length ∧ Held qs ps ns
theorem Has.app {qs ps : List (List Im)} (r : List (List Im)) (h : Has qs ps) : Has (qs ++ r) ps := by
  obtain ⟨ns, h1, h2⟩ := h
  exact ⟨ns, h1, h2.app r⟩
theorem Held.snoc {qs ps : List (List Im)} {ns : List Nat} {n : Nat} {p : List Im} (h : Held qs ps ns) (hp : ps[ns.length]? = some p) (hn : qs[n]? = some (p.map (ren2 ns))) : Held qs ps (ns ++ [n]) := fun j m hj => by
  by_cases hlt : j < ns.length
  · rw [List.getElem?_append_left hlt] at hj
    rw [List.take_append_of_le_length (Nat.le_of_lt hlt)]
    exact h j m hj
  · have e : j = ns.length := by
      have := (List.getElem?_eq_some_iff.mp hj).1
      simp at this
      omega
    subst e
    have em : n = m := by simpa using hj
    subst em
    exact ⟨p, hp, by simpa using hn⟩
theorem nodup_at {α : Type} {l : List α} (nd : l.Nodup) {i j : Nat} {x : α} (h1 : l[i]? = some x) (h2 : l[j]? = some x) : i = j := by
  have a := (List.getElem?_eq_some_iff.mp h1)
  have b := (List.getElem?_eq_some_iff.mp h2)
  obtain ⟨a1, a2⟩ := a
  obtain ⟨b1, b2⟩ := b
  have q := List.pairwise_iff_getElem.mp (show l.Pairwise (· ≠ ·) from nd)
  rcases Nat.lt_trichotomy i j with h | h | h
  · exact absurd (a2.trans b2.symm) (q i j a1 b1 h)
  · exact h
  · exact absurd (b2.trans a2.symm) (q j i b1 a1 h)
section
variable {P : Program} {w : World} {K : PySem.W.Frag} {mg : Str → Option Value} {base : Heap} {A : Ad}
def total (qs : List (List Im)) : Nat := (qs.map List.length).sum
def spSItems (K : PySem.W.Frag) (A : Ad) : Sp := fun vs H Q _ => ∃ (s f nd pl : Addr) (qs ps : List (List Im)), vs = [.ref s, .ref f] ∧ ShAt A H s nd pl qs ∧ qs.Nodup ∧ okParts qs ∧ FolAt K A H f ps ∧ OkRow ps ∧ qs.length + ps.length ≤ 40000 ∧
  ∀ (t : Addr) (told : List Im) (r : List (List Im)) (H' : Hp), H' t = some (.tup (told.map Im.v)) → (qs ++ r).Nodup → okParts (qs ++ r) → ShAt A H' s nd pl (qs ++ r) → But nd pl H H' → (∀ it ∈ told, Im.ok (qs ++ r).length it) → told.flatMap (iunf1 (qs ++ r)) = unf1 ps (ps.length - 1) →
    r.length + 1 ≤ ps.length → total r + told.length ≤ total ps → (2 ≤ ps.length → 0 < (qs ++ r).length) → Has (qs ++ r) ps → (Has qs ps → r = []) → Q (.ref t) H'
theorem el_ren2 {σ : L2.St} {H : Hp} {tl : TE} {a N : Addr} {ns : List Nat} {p : List Im} {i d : Nat} {vs : List Nat} {E : XK} (h : Ev tl σ H (.ref a)) (ha : SqT K H a (p.map Im.v)) (hp : p.length ≤ 20000) (hw : ∀ x, wipe ((wipe σ vs).set i (some x)) vs = wipe σ vs)
    (hi : ∀ x, ((wipe σ vs).set i (some x))[i]? = some (some x)) (hd : ∀ x, ((wipe σ vs).set i (some x))[d]? = some (some (.ref N))) (hN : H N = some (.lst (natV ns))) (ok : ∀ it ∈ p, Im.ok ns.length it) :
    EvL (tLc (iTup K tl) (gName i) tYes (tIf (tB (tCall (spIsEv K) [] E (tCons (tVar i) tNil))) (tVar i) (tOp (rIxL K) (tVar d) (tVar i))) vs) σ H ((p.map (ren2 ns)).map Im.v) := by
  have q := el_lcT (K := K) (H := H) (σ := σ) (te := tIf (tB (tCall (spIsEv K) [] E (tCons (tVar i) tNil))) (tVar i) (tOp (rIxL K) (tVar d) (tVar i))) (tl := tl) (t := tYes) (j := i) (vs := vs) (fun _ => true) (fun j => (ren2 ns (p.getD j (.at 0))).v) h ha (by rw [List.length_map]; omega) hw (fun j x H4 e4 hx => et_yes) (fun j x H4 e4 hx _ => by
    obtain ⟨it, hit, rfl⟩ := im_get hx
    rw [getD_some hit]
    have m := ok it (List.mem_of_getElem? hit)
    refine ev_if (b := it.evB) (et_B (ev_call (ea_cons (ev_var (hi _)) ea_nil) (fun H1 e Q q E => ⟨it, rfl, m.d, fun H2 e2 => q H2 e2⟩))) (fun hb => ?_) fun hb => ?_
    · cases it with
      | ev x => exact ev_var (hi _)
      | «at» n => cases hb
    · cases it with
      | ev x => cases hb
      | «at» n =>
        have hn : n < ns.length := m
        have hg : ns[n]? = some (ns.getD n 0) := by rw [getD_some (List.getElem?_eq_getElem hn)]; exact List.getElem?_eq_getElem hn
        exact ev_op (ev_var (hd _)) (ev_var (hi _)) (rv_ixL (sq_of (e4 _ _ hN)) (atI_nat (natV_get hg))))
  rw [given_all, List.length_map, range_map_getD p (.at 0) (fun it => (ren2 ns it).v)] at q
  rw [List.map_map]
  exact q
end

section
variable {P : Program} {w : World} {K : PySem.W.Frag} {mg : Str → Option Value} {base : Heap} {A : Ad}
theorem ShAt.up {H H' : Hp} {s nd pl : Addr} {qs : List (List Im)} (h : ShAt A H s nd pl qs) (e : Ex H H') : ShAt A H' s nd pl qs := by
  obtain ⟨dx, rs, g1, g2, g3, g4, g5⟩ := h
  refine ⟨dx, rs, e _ _ g1, e _ _ g2, e _ _ g3, g4, fun i q hq => ?_⟩
  obtain ⟨b, h1, h2⟩ := g5 i q hq
  exact ⟨b, h1, e _ _ h2⟩
theorem ShAt.updN {H : Hp} {s nd pl N : Addr} {qs : List (List Im)} {ys : List V} {o : HO} (h : ShAt A H s nd pl qs) (hN : H N = some (.lst ys)) (n : N ≠ pl) : ShAt A (upd H N o) s nd pl qs := by
  obtain ⟨dx, rs, g1, g2, g3, g4, g5⟩ := h
  have n1 : s ≠ N := fun e => by rw [e, hN] at g1; cases g1
  have n2 : nd ≠ N := fun e => by rw [e, hN] at g2; cases g2
  refine ⟨dx, rs, by rw [upd_ne n1]; exact g1, by rw [upd_ne n2]; exact g2, by rw [upd_ne n.symm]; exact g3, g4, fun i q hq => ?_⟩
  obtain ⟨b, h1, h2⟩ := g5 i q hq
  have n3 : b ≠ N := fun e => by rw [e, hN] at h2; cases h2
  exact ⟨b, h1, by rw [upd_ne n3]; exact h2⟩
theorem ren2_unf {ps qs : List (List Im)} {ns : List Nat} {p : List Im} (ok : ∀ it ∈ p, Im.ok ns.length it) (h : ∀ i n, ns[i]? = some n → unf1 qs n = unf1 ps i) : (p.map (ren2 ns)).flatMap (iunf1 qs) = p.flatMap (iunf1 ps) := by
  rw [List.flatMap_map]
  refine flatMap_congr' fun it hi => ?_
  have m := ok it hi
  cases it with
  | ev x => rfl
  | «at» i =>
    have hn : i < ns.length := m
    have hg : ns[i]? = some (ns.getD i 0) := by rw [getD_some (List.getElem?_eq_getElem hn)]; exact List.getElem?_eq_getElem hn
    exact h i _ hg
theorem ok_sitems (F : F10 K A) (T : T10 mg K A) (C0 : CF K A) (C : CSh K A) : FnOk P w K mg base CX0 2 A.aSItems F.fSItems ["self", "row"] (spSItems K A) := by
  have bIsEvent : Binds K F.fIsEvent ["item"] [] := F.FIsEvent.binds (fun _ _ _ _ _ _ us hl => match us, hl with | [_], _ => rfl)
  have GIsEvent := ok_isEvent (P := P) (w := w) (mg := mg) (base := base) F T
  have bSPut : Binds K F.fSPut ["self", "part"] [] := F.FSPut.binds (fun _ _ _ _ _ _ us hl => match us, hl with | [_, _], _ => rfl)
  have GSPut := ok_put (P := P) (w := w) (mg := mg) (base := base) F T C.cs
  refine F.FSItems.ok scSItems (fun vs H Q E h => ?_) (fun cdv Ar outer s H vs Q E hr h => ?_)
  · obtain ⟨x, b, _, _, _, _, rfl, _⟩ := h
    rfl
  · obtain ⟨x, f, nd, pl, qs, ps, rfl, hS, hnd, hok, hF, ho, z, k⟩ := h
    obtain ⟨dx, q, l, hf, ⟨us, hq, hul, hat⟩, hl⟩ := hF
    have hr1 := hr
    have ne := ho.ne
    refine ⟨_, (pss_cons (ps_set (i := 2) scSItems.nd rfl (Or.inr rfl) (pe_lst pa_nil))
  (pss_cons (ps_for PassesOwn.never rfl (pi_tup (pe_fld (pv 1) rfl)) (pg_name (i := 3) scSItems.nd rfl (Or.inl rfl)) (pss_cons (ps_set (i := 4) scSItems.nd rfl (Or.inl rfl) (pe_callTy call_tuple_of (by rfl) T.b_tuple (by decide +kernel) (pa_cons (pe_lc (own := [("item", 5)]) rfl scSItems.nd (pi_tup (pv 3)) (blkOk_by (own := [("item", 5)]) (N := ["self", "row", "numbers", "part", "told", "item"]) (sc := defScope (inClass (top 26) 2)) (by decide +kernel)) (fun _ _ _ _ _ => (pg_name (i := 5) scSItems.nd rfl (Or.inl rfl))) (fun _ _ _ _ _ => pts_nil) (fun _ _ _ _ _ => (pe_ifExp (pt_val (pe_call GIsEvent hr1 rfl T.gIsEvent T.kIsEvent bIsEvent .nil pass0 (pa_cons (pv 5) pa_nil))) (pv 5) (pe_ix (ixR_K (K := K) rIxL rfl ix_list) (pv 2) (pv 5) (fun _ _ => rfl))))) pa_nil)))
  (pss_cons (ps_if (pt_cmpR op_eq (pe_callB call_len_seq (by rfl) T.b_len (by decide +kernel) (pa_cons (pv 2) pa_nil)) (pe_op op_sub (pe_callB call_len_seq (by rfl) T.b_len (by decide +kernel) (pa_cons (pe_fld (pv 1) rfl) pa_nil)) pe_int) (nomark _)) (pss_one (ps_ret (pv 4))) pss_nil)
  (pss_one (ps_expr (pe_bm PySem.F.plainAttrs_list PySem.F.slot_list_append PySem.F.type_list_append mt_append (pv 2) (pa_cons (pe_meth (pv 0) C.cs.clS C.mPut GSPut hr1 bSPut .nil pass0 (pa_cons (pv 4) pa_nil)) pa_nil)))))))
  (pss_one (ps_ret (pe_tup pa_nil))))), ?_⟩
    change tSeq _ _ _ [some (.ref x), some (.ref f), none, none, none, none] _
    refine q_asgL (el_lst ea_nil (by simp)) fun N H1 hN e1 h1 => ?_
    show tSeq _ _ _ [some (.ref x), some (.ref f), some (.ref N), none, none, none] _
    have notS : ∀ (b : Addr) (o : HO), H b = some o → b ≠ nd → b ≠ pl → True := fun _ _ _ _ _ => trivial
    obtain ⟨sdx, rs0, sx, snd, spl, _, _⟩ := id hS
    have hfn : f ≠ nd := fun e => by rw [e, snd] at hf; cases hf
    have hfp : f ≠ pl := fun e => by rw [e, spl] at hf; cases hf
    have sqt : ∀ {H' : Hp} {a : Addr} {xs : List V}, But nd pl H H' → SqT K H a xs → SqT K H' a xs := fun {H' a xs} bt h => by
      rcases h with (h | ⟨o, h⟩) | h
      · exact st_of (bt a _ (fun e => by rw [e, snd] at h; cases h) (fun e => by rw [e, spl] at h; cases h) h)
      · exact .inl (.inr ⟨o, bt a _ (fun e => by rw [e, snd] at h; cases h) (fun e => by rw [e, spl] at h; cases h) h⟩)
      · exact .inr h
    have nNn : N ≠ nd := fun e => by rw [e, snd] at hN; cases hN
    have nNp : N ≠ pl := fun e => by rw [e, spl] at hN; cases hN
    refine q_forT (xs := us) (ev_fld (ev_var rfl) (e1 _ _ hf) C0.clF (C0.noF _ (by decide)) rfl) (ex_t e1 hq) (fun j σ' H' => ∃ (x3 x4 x5 : Option V) (ns : List Nat) (r : List (List Im)), σ' = [some (.ref x), some (.ref f), some (.ref N), x3, x4, x5] ∧ But nd pl H H' ∧ H' N = some (.lst (natV ns)) ∧ ns.length = j ∧ j < ps.length ∧ ShAt A H' x nd pl (qs ++ r) ∧ (qs ++ r).Nodup ∧ okParts (qs ++ r) ∧
      (∀ (i n : Nat), ns[i]? = some n → n < (qs ++ r).length ∧ unf1 (qs ++ r) n = unf1 ps i) ∧ r.length ≤ j ∧ total r ≤ sumTo ps j ∧ (0 < j → 0 < (qs ++ r).length) ∧ Held (qs ++ r) ps ns ∧ (∀ ns0 : List Nat, ns0.length + 1 = ps.length → Held qs ps ns0 → r = [] ∧ ns = ns0.take j)) (fun H2 e2 => ⟨_, _, _, [], [], rfl, fun b o _ _ h => e2 _ _ (e1 _ _ h), e2 _ _ h1, rfl, ne, ?_, by simpa using hnd, by simpa using hok, by simp, by simp, by simp [total, sumTo], by simp, fun j n h => by simp at h, fun ns0 _ _ => ⟨rfl, by simp⟩⟩) (fun j σ' H' _ p => by obtain ⟨_, _, _, _, _, _, bt, _⟩ := p; exact sqt bt hq) (fun j x0 σ' H' hx p => ?_) (fun σ' H' p => ?_)
    · obtain ⟨dx2, rs, g1, g2, g3, g4, g5⟩ := hS
      refine ⟨dx2, rs, e2 _ _ (e1 _ _ g1), by simpa using e2 _ _ (e1 _ _ g2), e2 _ _ (e1 _ _ g3), by simpa using g4, fun i q hq => ?_⟩
      obtain ⟨b, h2, h3⟩ := g5 i q (by simpa using hq)
      exact ⟨b, h2, e2 _ _ (e1 _ _ h3)⟩
    · obtain ⟨x3, x4, x5, ns, r, rfl, bt, hNs, hnl, hjl, hSh, hnd2, hok2, huf, hrl, htot, hpos, hHeld, hSame⟩ := p
      have hpj : ps[j]? = some ps[j] := List.getElem?_eq_getElem hjl
      generalize hpt : ps[j] = pt at hpj
      obtain ⟨ap, hap, hbp⟩ := hat j pt hpj
      rw [hap] at hx
      cases hx
      have thin := ho.thin pt (List.mem_of_getElem? hpj)
      have okp : ∀ it ∈ pt, Im.ok ns.length it := fun it hi => by rw [hnl]; exact ho.ok j pt hpj it hi
      have okt : ∀ it ∈ pt.map (ren2 ns), Im.ok (qs ++ r).length it := fun it hi => by
        obtain ⟨i2, h2, rfl⟩ := List.mem_map.mp hi
        have m := okp i2 h2
        cases i2 with
        | ev y => exact m
        | «at» n =>
          have hn : n < ns.length := m
          have hg : ns[n]? = some (ns.getD n 0) := by rw [getD_some (List.getElem?_eq_getElem hn)]; exact List.getElem?_eq_getElem hn
          exact (huf n _ hg).1
      have unft : (pt.map (ren2 ns)).flatMap (iunf1 (qs ++ r)) = unf1 ps j := by
        rw [ren2_unf okp fun i n h => (huf i n h).2, unf1_eq ho.ok hpj]
      have hs1 := sumTo_succ hpj
      show tSeq _ _ _ [some (.ref x), some (.ref f), some (.ref N), some (.ref ap), x4, x5] _
      refine q_asgU (xs := (pt.map (ren2 ns)).map Im.v) (eu_tupOf (K := K) (el_ren2 (K := K) (a := ap) (N := N) (p := pt) (ev_var rfl) (sqt bt hbp) thin (fun y => rfl) (fun y => rfl) (fun y => rfl) hNs okp)) fun t H2 ht e2 h2 => ?_
      show tSeq _ _ _ [some (.ref x), some (.ref f), some (.ref N), some (.ref ap), some (.ref t), x5] _
      have b2 : But nd pl H H2 := fun b o c1 c2 h => e2 _ _ (bt b o c1 c2 h)
      have hN2 := e2 _ _ hNs
      have hSh2 : ShAt A H2 x nd pl (qs ++ r) := hSh.up e2
      have hf2 := b2 _ _ hfn hfp hf
      refine q_when (b := decide (V.int (((natV ns).length : Nat) : Int) = V.int (((us.length : Nat) : Int) - 1))) (et_test (ev_op (ev_len (ev_var rfl) (sq_of hN2)) (ev_op (ev_lenTf (ev_fld (ev_var rfl) hf2 C0.clF (C0.noF _ (by decide)) rfl) (sqt b2 hq)) ev_c rv_I0) (rv_eq rfl))) (fun hb H3 e3 => ?_) fun hb H3 e3 => ?_
      · have ej : j = ps.length - 1 := by
          have q := of_decide_eq_true hb
          have q2 : (((natV ns).length : Nat) : Int) = ((us.length : Nat) : Int) - 1 := V.int.inj q
          rw [natV, List.length_map] at q2
          omega
        refine s_ret (ev_var rfl) fun H4 e4 => ?_
        have e := e3.trans e4
        refine k t (pt.map (ren2 ns)) r H4 (e _ _ h2) hnd2 hok2 (hSh2.up e) (fun b o c1 c2 h => e _ _ (b2 b o c1 c2 h)) okt (by rw [unft, ej]) (by omega) ?_ (fun h2 => hpos (by omega)) ⟨ns, by omega, hHeld⟩ (fun ⟨ns0, g1, g2⟩ => (hSame ns0 g1 g2).1)
        have q := sumTo_all ps (j + 1)
        rw [List.length_map]
        unfold total at *
        omega
      · have nj : j ≠ ps.length - 1 := fun ej => by
          have q := of_decide_eq_false hb
          refine q (congrArg V.int ?_)
          rw [natV, List.length_map]
          omega
        have hSh3 := hSh2.up e3
        obtain ⟨dx3, rs3, gx, _⟩ := id hSh3
        refine ⟨_, rfl, Or.inl ⟨rfl, _, sq_of (e3 _ _ hN2)⟩, _, rfl, x, dx3, _, rfl, gx, rfl, _, rfl, ?_⟩
        refine ⟨x, t, nd, pl, qs ++ r, pt.map (ren2 ns), rfl, hSh3, hnd2, e3 _ _ h2, by rw [List.length_append]; omega, fun n qs' H4 hn hqs hSh4 b4 => ?_⟩
        have hN4 : H4 N = some (.lst (natV ns)) := b4 _ _ nNn nNp (e3 _ _ hN2)
        refine ⟨N, natV ns, .int (n : Nat), rfl, rfl, hN4, sz_lt (by rw [natV, List.length_map]; have := ho.few; omega), ?_⟩
        have bfin : But nd pl H (upd H4 N (.lst (natV ns ++ [.int (n : Nat)]))) := fun b o c1 c2 h => by
          have nb : b ≠ N := fun e => by rw [e, hN] at h; cases h
          rw [upd_ne nb]
          exact b4 _ _ c1 c2 (e3 _ _ (b2 b o c1 c2 h))
        have hN5 : (upd H4 N (.lst (natV ns ++ [.int (n : Nat)]))) N = some (.lst (natV (ns ++ [n]))) := by rw [upd_same, natV_snoc]
        have hSh5 : ShAt A (upd H4 N (.lst (natV ns ++ [.int (n : Nat)]))) x nd pl qs' := hSh4.updN hN4 nNp
        have key0 : ∀ ns0 : List Nat, ns0.length + 1 = ps.length → Held qs ps ns0 → qs' = qs ∧ ns ++ [n] = ns0.take (j + 1) := fun ns0 g1 g2 => by
          obtain ⟨s1, s2⟩ := hSame ns0 g1 g2
          have hj0 : ns0[j]? = some ns0[j] := List.getElem?_eq_getElem (by omega)
          obtain ⟨p0, g3, g4⟩ := g2 j _ hj0
          rw [hpj] at g3
          cases g3
          rw [← s2] at g4
          subst s1
          rw [List.append_nil] at hqs
          have e1 : qs' = qs := by
            rcases hqs with h | ⟨h, _⟩
            · exact h
            · exact absurd (List.mem_of_getElem? g4) h
          refine ⟨e1, ?_⟩
          rw [e1] at hn
          rw [List.append_nil] at hnd2
          have e2 := nodup_at hnd2 hn g4
          rw [List.take_succ, hj0, s2, ← e2]
          rfl
        have key1 : ∀ r' : List (List Im), qs' = qs ++ r' → qs'.Nodup → Held qs' ps (ns ++ [n]) := fun r' _ _ => by
          have h1 : Held qs' ps ns := by
            rcases hqs with h | ⟨_, h⟩
            · rw [h]; exact hHeld
            · rw [h]; exact hHeld.app _
          exact h1.snoc (by rw [hnl]; exact hpj) hn
        have key : ∃ r', qs' = qs ++ r' ∧ qs'.Nodup ∧ okParts qs' ∧ unf1 qs' n = unf1 ps j ∧ (∀ (i n : Nat), ns[i]? = some n → n < qs'.length ∧ unf1 qs' n = unf1 ps i) ∧ r'.length ≤ j + 1 ∧ total r' ≤ sumTo ps (j + 1) := by
          have hlt := (List.getElem?_eq_some_iff.mp hn).1
          rcases hqs with rfl | ⟨hnew, rfl⟩
          · refine ⟨r, rfl, hnd2, hok2, ?_, huf, by omega, by omega⟩
            rw [unf1_eq hok2 hn]
            exact unft
          · have ok3 : okParts (qs ++ r ++ [pt.map (ren2 ns)]) := fun i q hq it hi => by
              by_cases hlt2 : i < (qs ++ r).length
              · rw [List.getElem?_append_left hlt2] at hq
                exact hok2 i q hq it hi
              · have hi2 : i = (qs ++ r).length := by
                  have := (List.getElem?_eq_some_iff.mp hq).1
                  simp only [List.length_append, List.length_singleton] at this hlt2 ⊢
                  omega
                subst hi2
                have : q = pt.map (ren2 ns) := by simpa using hq.symm
                subst this
                exact okt it hi
            refine ⟨r ++ [pt.map (ren2 ns)], by rw [List.append_assoc], ?_, ok3, ?_, fun i n h => ?_, by simp; omega, by unfold total at *; simp; omega⟩
            · rw [List.nodup_append]
              exact ⟨hnd2, by simp, fun a ha c hc => by
                have : c = pt.map (ren2 ns) := by simpa using hc
                subst this
                exact fun e => hnew (e ▸ ha)⟩
            · rw [unf1_eq ok3 hn, ← unft]
              exact flatMap_congr' fun it hi => iunf_app _ _ (okt it hi)
            · obtain ⟨h1, h2⟩ := huf i n h
              exact ⟨by simp only [List.length_append, List.length_singleton] at h1 ⊢; omega, by rw [unf_app _ _ h1]; exact h2⟩
        obtain ⟨r', eq', k1, k2, k3, k4, k5, k6⟩ := key
        have k7 := key1 r' eq' k1
        have k8 : ∀ ns0 : List Nat, ns0.length + 1 = ps.length → Held qs ps ns0 → r' = [] ∧ ns ++ [n] = ns0.take (j + 1) := fun ns0 g1 g2 => by
          obtain ⟨z1, z2⟩ := key0 ns0 g1 g2
          refine ⟨?_, z2⟩
          have := eq'.symm.trans z1
          simpa using this
        subst eq'
        refine ⟨_, _, _, ns ++ [n], r', rfl, bfin, hN5, by simp [hnl], by omega, hSh5, k1, k2, fun i m h => ?_, k5, k6, fun _ => Nat.lt_of_le_of_lt (Nat.zero_le _) (List.getElem?_eq_some_iff.mp hn).1, k7, k8⟩
        by_cases hlt : i < ns.length
        · rw [List.getElem?_append_left hlt] at h
          exact k4 i m h
        · have hi : i = ns.length := by
            have := (List.getElem?_eq_some_iff.mp h).1
            simp at this
            omega
          subst hi
          have : m = n := by simpa using h.symm
          subst this
          exact ⟨(List.getElem?_eq_some_iff.mp hn).1, by rw [hnl]; exact k3⟩
    · obtain ⟨x3, x4, x5, ns, r, rfl, bt, hNs, hnl, hjl, _⟩ := p
      omega
end

section
variable {P : Program} {w : World} {K : PySem.W.Frag} {mg : Str → Option Value} {base : Heap} {A : Ad}
/-! ### rows one behind another -/
def spSInit (A : Ad) : Sp := fun vs H Q _ => ∃ (x dx : Addr), vs = [.ref x] ∧ H x = some (.ins A.cSharing dx []) ∧ ∀ (nd pl : Addr) (H' : Hp), Ex (hid [x] H) (hid [x] H') → H nd = none → H pl = none → ShAt A H' x nd pl [] → Q .non H'
theorem ok_sinit (F : F10 K A) (T : T10 mg K A) (C : CSh K A) : FnOk P w K mg base CX0 1 A.aSInit F.fSInit ["self"] (spSInit A) := by
  refine F.FSInit.ok scSInit (fun vs H Q E h => ?_) (fun cdv Ar outer s H vs Q E hr h => ?_)
  · obtain ⟨x, b, rfl, _⟩ := h
    rfl
  · obtain ⟨x, dx, rfl, hx, k⟩ := h
    refine ⟨_, (pss_cons (ps_fld (pv 0) pe_dnewT rfl)
  (pss_one (ps_fld (pv 0) (pe_lst pa_nil) rfl))), ?_⟩
    change tSeq _ _ _ [some (.ref x)] _
    refine q_fld (P := fun r H1 => ∃ nd, r = .ref nd ∧ H nd = none ∧ H1 nd = some (.dT [])) rfl (fun H1 e1 Q q nd hn => q _ _ (Ex.new hn) ⟨nd, rfl, fresh_back e1 hn, upd_same⟩) hx C.cs.clS (C.cs.noS _ (by decide)) (by simp) fun r H1 e1 hr => ?_
    obtain ⟨nd, rfl, hn0, hn1⟩ := hr
    have nnx : nd ≠ x := fun e => by rw [e, hx] at hn0; cases hn0
    have hx2 : (upd H1 x (.ins A.cSharing dx [("numbers", .ref nd)])) x = some (.ins A.cSharing dx [("numbers", .ref nd)]) := upd_same
    have hn2 : (upd H1 x (.ins A.cSharing dx [("numbers", .ref nd)])) nd = some (.dT []) := by rw [upd_ne nnx]; exact hn1
    have ex2 : Ex (hid [x] H) (hid [x] (upd H1 x (.ins A.cSharing dx [("numbers", .ref nd)]))) := by rw [hid_upd (by simp)]; exact hid_ex e1
    show sFld K (tVar 0) _ "parts" _ [some (.ref x)] (upd H1 x (.ins A.cSharing dx [("numbers", .ref nd)]))
    generalize hH2 : upd H1 x (.ins A.cSharing dx [("numbers", .ref nd)]) = H2 at *
    refine s_fld (P := fun r H3 => ∃ pl, r = .ref pl ∧ H2 pl = none ∧ H3 pl = some (.lst [])) rfl (EvP.ofL (el_lst ea_nil (by simp))) hx2 C.cs.clS (C.cs.noS _ (by decide)) (by simp) fun r H3 e3 hr => ?_
    obtain ⟨pl, rfl, hp2, hp3⟩ := hr
    have npx : pl ≠ x := fun e => by rw [e, hx2] at hp2; cases hp2
    have hp0 : H pl = none := by
      have : H1 pl = none := by
        rw [← hH2, upd_ne npx] at hp2
        exact hp2
      exact fresh_back e1 this
    refine k nd pl _ ?_ hn0 hp0 ⟨dx, [], upd_same, ?_, ?_, rfl, by simp⟩
    · rw [hid_upd (by simp)]
      exact ex2.trans (hid_ex e3)
    · rw [upd_ne nnx]
      exact e3 _ _ hn2
    · rw [upd_ne npx]
      exact hp3
def spListed2 (K : PySem.W.Frag) : Sp := fun vs H Q _ => ∃ (a : Addr) (xs : List V), vs = [.ref a] ∧ SqL K H a xs ∧ RetV (.bl true) H Q
theorem ev_isiL2 {σ : L2.St} {H : Hp} {a : Addr} {xs : List V} {te : TE} (h : Ev te σ H (.ref a)) (ha : SqL K H a xs) : Ev (tCB (rIsiT K) (tCons te (tCons (tTup (tCons (tC (.ty "list")) (tCons (tC (.ty "tuple")) tNil))) tNil))) σ H (.bl true) := fun H1 e Q q =>
  h H1 e _ fun H2 e2 => ⟨by show 2 ≤ sizeLine; decide, fun p hp => ⟨.ref a, p, [.ty "list", .ty "tuple"], .type "list", [.type "list", .type "tuple"], true, rfl, upd_same, .cons (.ty _) (.cons (.ty _) .nil), tyx_rd (ex_l (e.trans (e2.trans (Ex.new hp))) ha), isi_seq (.list []) rfl, q _ (e2.trans (Ex.new hp))⟩⟩
theorem ok_isListed2 (F : F10 K A) (T : T10 mg K A) : FnOk P w K mg base CX0 1 A.aIsListed F.fIsListed ["value"] (spListed2 K) := by
  refine F.FIsListed.ok scIsListed (fun vs H Q E h => ?_) (fun cdv Ar outer s H vs Q E hr h => ?_)
  · obtain ⟨v, d, rfl, _⟩ := h
    rfl
  · obtain ⟨a, xs, rfl, ha, k⟩ := h
    exact ⟨_, (pss_one (ps_ret (pe_callB call_isiT (by rfl) T.b_isinstance (by decide +kernel) (pa_cons (pv 0) (pa_cons (pe_tup (pa_cons (pe_bltn (v := .ty "list") (u := .type "list") rfl T.b_list (by decide +kernel) rfl) (pa_cons (pe_bltn (v := .ty "tuple") (u := .type "tuple") rfl T.b_tuple (by decide +kernel) rfl) pa_nil))) pa_nil))))), s_ret (ev_isiL2 (ev_var rfl) ha) k⟩
end

section
variable {P : Program} {w : World} {K : PySem.W.Frag} {mg : Str → Option Value} {base : Heap} {A : Ad}
theorem ep_makeS {σ : L2.St} {H : Hp} {E : XK} : EvP (tMake A.cSharing (spSInit A) [] E tNil) σ H fun v H1 => ∃ s nd pl, v = .ref s ∧ H s = none ∧ H nd = none ∧ H pl = none ∧ ShAt A H1 s nd pl [] := fun H1 e1 Q q x dx hx hdx ndx => by
  have hx2 : (upd H1 dx (.own x)) x = none := by rw [upd_ne ndx.symm]; exact hx
  have ex : Ex H1 (upd (upd H1 dx (.own x)) x (.ins A.cSharing dx [])) := (Ex.new hdx).trans (Ex.new hx2)
  have ex2 : Ex H1 (hid [x] (upd (upd H1 dx (.own x)) x (.ins A.cSharing dx []))) := by
    rw [hid_upd (by simp)]
    exact ex_hid1 hx (Ex.new hdx)
  exact ⟨x, dx, rfl, upd_same, fun nd pl H' eh hn hp hS => ⟨rfl, q _ _ (ex2.trans (eh.trans (hid_out [x]))) ⟨x, nd, pl, rfl, fresh_back e1 hx, fresh_back (e1.trans ex) hn, fresh_back (e1.trans ex) hp, hS⟩⟩⟩
theorem q_parRaw {i j : Nat} {ta tb : TE} {tz : TS} {D : Ends} {σ : L2.St} {H : Hp} {P : V → Hp → Prop} (h : EvP ta σ H P) (k : ∀ v H1, Ex H H1 → P v H1 → tb σ H1 fun u H2 => ∃ x y, [v, u] = [x, y] ∧ tz D ((σ.set i (some x)).set j (some y)) H2) : tSeq (tPar i j (tCons ta (tCons tb tNil))) tz D σ H := h H (Ex.refl H) _ k
theorem b_need2 (F : F10 K A) : ∃ ds, Vals ([] : List V) ds ∧ Binds K F.fNeedFolded ["value", "part"] ds :=
  F.FNeedFolded.binds1 2 1 (by simp) rfl (fun T kV doc pm an cdv ct us its l1 l2 => match us, its, l1, l2 with | [_, _], [_], _, _ => ⟨_, rfl, rfl⟩)
def lastUnf (ps : List (List Im)) : List Str := unf1 ps (ps.length - 1)
def spJoined (K : PySem.W.Frag) (A : Ad) : Sp := fun vs H Q _ => ∃ (a : Addr) (fs : List Addr) (pss : List (List (List Im))), vs = [.ref a] ∧ SqL K H a (fs.map V.ref) ∧ fs.length = pss.length ∧ (∀ (i : Nat) (ps : List (List Im)), pss[i]? = some ps → ∃ f : Addr, fs[i]? = some f ∧ FolAt K A H f ps ∧ OkRow ps ∧ 2 ≤ ps.length) ∧ 0 < pss.length ∧ pss.length ≤ 100 ∧
  (pss.map total).sum ≤ 20000 ∧ ∃ cst : Nat → Nat, (∀ i, i ≤ pss.length → cst i < 2000) ∧ (∀ (i : Nat) (ps : List (List Im)), pss[i]? = some ps → ((∃ k, k < i ∧ pss[k]? = some ps) ∧ cst i ≤ cst (i + 1)) ∨ cst i + ps.length ≤ cst (i + 1)) ∧
  ∀ f H' qs, Ex H H' → OkRow qs → FolAt K A H' f qs → unf1 qs (qs.length - 1) = pss.flatMap lastUnf → qs.length ≤ cst pss.length + 1 → total qs ≤ (pss.map total).sum → Q (.ref f) H'
theorem take_succ_sum {α : Type} {g : α → Nat} {l : List α} {i : Nat} {x : α} (h : l[i]? = some x) : ((l.take (i + 1)).map g).sum = ((l.take i).map g).sum + g x := by
  rw [List.take_succ, h]
  simp
theorem take_sum_le {α : Type} (g : α → Nat) (l : List α) (i : Nat) : ((l.take i).map g).sum ≤ (l.map g).sum := by
  conv => rhs; rw [← List.take_append_drop i l, List.map_append, List.sum_append]
  omega
theorem ok_joined (F : F10 K A) (T : T10 mg K A) (C0 : CF K A) (C : CSh K A) : FnOk P w K mg base CX0 8 A.aJoined F.fJoined ["rows"] (spJoined K A) := by
  obtain ⟨dn, vNeed2, bNeed2⟩ := b_need2 F
  have GNeedFolded := (ok_needFolded (P := P) (w := w) (mg := mg) (base := base) F T C0).mono (show 1 ≤ 7 by omega)
  have bIsListed : Binds K F.fIsListed ["value"] [] := F.FIsListed.binds (fun _ _ _ _ _ _ us hl => match us, hl with | [_], _ => rfl)
  have GIsListed := (ok_isListed2 (P := P) (w := w) (mg := mg) (base := base) F T).mono (show 1 ≤ 7 by omega)
  have bSInit : Binds K F.fSInit ["self"] [] := F.FSInit.binds (fun _ _ _ _ _ _ us hl => match us, hl with | [_], _ => rfl)
  have GSInit := (ok_sinit (P := P) (w := w) (mg := mg) (base := base) F T C).mono (show 1 ≤ 6 by omega)
  have bSItems : Binds K F.fSItems ["self", "row"] [] := F.FSItems.binds (fun _ _ _ _ _ _ us hl => match us, hl with | [_, _], _ => rfl)
  have GSItems := (ok_sitems (P := P) (w := w) (mg := mg) (base := base) F T C0 C).mono (show 2 ≤ 7 by omega)
  have bNeeded : Binds K F.fNeeded ["parts", "part"] [] := F.FNeeded.binds (fun _ _ _ _ _ _ us hl => match us, hl with | [_, _], _ => rfl)
  have GNeeded := ok_needed (P := P) (w := w) (mg := mg) (base := base) F T C0
  refine F.FJoined.ok scJoined (fun vs H Q E h => ?_) (fun cdv Ar outer s H vs Q E hr h => ?_)
  · obtain ⟨x, _, _, rfl, _⟩ := h
    rfl
  · obtain ⟨a, fs, pss, rfl, ha, hlen, hat, hpos, hfew, l2, cst, cst1, cst2, k⟩ := h
    have hr1 := hr
    have hrM := hr
    refine ⟨_, (pss_cons (ps_if (pt_not (pt_val (pe_call GIsListed hr1 rfl T.gIsListed T.kIsListed bIsListed .nil pass0 (pa_cons (pv 0) pa_nil)))) (pss_one ps_never) pss_nil)
  (pss_cons (ps_for PassesOwn.never rfl (pi_list (pv 0)) (pg_name (i := 1) scJoined.nd rfl (Or.inl rfl)) (pss_one (ps_expr (pe_call GNeedFolded hr1 rfl T.gNeedFolded T.kNeedFolded bNeed2 vNeed2 pass0 (pa_cons (pv 1) (pa_cons pe_str pa_nil))))))
  (pss_cons (ps_par (i := 2) (j := 3) (by rfl) scJoined.nd rfl rfl (by decide) rfl rfl (pa_cons (pe_make0 C.mkS GSInit hrM rfl T.gSharing bSInit .nil pass0) (pa_cons (pe_lst pa_nil) pa_nil)) (by rfl))
  (pss_cons (ps_for PassesOwn.never rfl (pi_list (pv 0)) (pg_name (i := 1) scJoined.nd rfl (Or.inl rfl)) (pss_one (ps_expr (pe_bm PySem.F.plainAttrs_list PySem.F.slot_list_extend PySem.F.type_list_extend mt_extT (pv 3) (pa_cons (pe_meth (pv 2) C.cs.clS C.mItems GSItems hr1 bSItems .nil pass0 (pa_cons (pv 1) pa_nil)) pa_nil)))))
  (pss_one (ps_ret (pe_call GNeeded hr1 rfl T.gNeeded T.kNeeded bNeeded .nil pass0 (pa_cons (pe_fld (pv 2) rfl) (pa_cons (pe_callTy call_tuple_of (by rfl) T.b_tuple (by decide +kernel) (pa_cons (pv 3) pa_nil)) pa_nil))))))))), ?_⟩
    change tSeq _ _ _ [some (.ref a), none, none, none] _
    refine q_when (b := !true) (et_not (et_B (ev_call (ea_cons (ev_var rfl) ea_nil) (fun H1 e Q q E => ⟨a, _, rfl, ex_l e ha, fun H2 e2 => q H2 e2⟩)))) (fun h => by cases h) fun _ H1 e1 => ?_
    have fat : ∀ (i : Nat) (v : V), (fs.map V.ref)[i]? = some v → ∃ f ps, v = .ref f ∧ pss[i]? = some ps ∧ FolAt K A H f ps ∧ OkRow ps ∧ 2 ≤ ps.length := fun i v hv => by
      have hi : i < pss.length := by
        have := (List.getElem?_eq_some_iff.mp hv).1
        simpa [hlen] using this
      obtain ⟨f, h1, h2⟩ := hat i _ (List.getElem?_eq_getElem hi)
      rw [List.getElem?_map, h1] at hv
      exact ⟨f, _, (Option.some.inj hv).symm, List.getElem?_eq_getElem hi, h2⟩
    refine q_forL (xs := fs.map V.ref) (ev_var rfl) (ex_l e1 ha) (fun i σ' H' => ∃ x, σ' = [some (.ref a), x, none, none] ∧ Ex H H') (fun H2 e2 => ⟨none, rfl, e1.trans e2⟩) (fun i σ' H' _ p => by obtain ⟨_, _, e⟩ := p; exact ex_l e ha) (fun i v σ' H' hv p => ?_) (fun σ' H' p => ?_)
    · obtain ⟨x, rfl, e⟩ := p
      obtain ⟨f, ps, rfl, _, ⟨dx, q, l, hf, _⟩, _⟩ := fat i v hv
      exact s_drop (v := .non) (ev_call (ea_cons (ev_var rfl) (ea_cons ev_c ea_nil)) (fun H1 e2 Q q E => ⟨f, .str "rows", _, _, rfl, e2 _ _ (e _ _ hf), fun H2 e2 => q H2 e2⟩)) fun H2 e2 => ⟨_, rfl, e.trans e2⟩
    · obtain ⟨x1, rfl, e2⟩ := p
      refine q_parRaw ep_makeS fun v H3 e3 hv => ?_
      obtain ⟨sh, nd, pl, rfl, hs0, hn0, hp0, hSh⟩ := hv
      refine ⟨Nat.zero_le _, fun I hI => ⟨_, _, rfl, ?_⟩⟩
      obtain ⟨sdx, srs, sx, snd, spl, srl, _⟩ := id hSh
      have nIn : I ≠ nd := fun e => by rw [e, snd] at hI; cases hI
      have nIp : I ≠ pl := fun e => by rw [e, spl] at hI; cases hI
      have hn0' := fresh_back e2 hn0
      have hp0' := fresh_back e2 hp0
      have hI0' := fresh_back (e2.trans e3) hI
      have e4 : Ex H' (upd H3 I (.lst [])) := e3.trans (Ex.new hI)
      have hSh4 : ShAt A (upd H3 I (.lst [])) sh nd pl [] := hSh.up (Ex.new hI)
      have hI4 : (upd H3 I (.lst [])) I = some (.lst []) := upd_same
      show tSeq _ _ _ [some (.ref a), x1, some (.ref sh), some (.ref I)] (upd H3 I (.lst []))
      generalize upd H3 I (.lst []) = H4 at *
      have exB : ∀ {Ha Hb : Hp}, Ex H Ha → But nd pl Ha Hb → Ex H Hb := fun {Ha Hb} e bt b o h => bt b o (fun z => by rw [z, hn0'] at h; cases h) (fun z => by rw [z, hp0'] at h; cases h) (e b o h)
      refine q_forL (xs := fs.map V.ref) (ev_var rfl) (ex_l (e2.trans e4) ha) (fun i σ' H5 => ∃ (x : Option V) (its : List Im) (qs : List (List Im)), σ' = [some (.ref a), x, some (.ref sh), some (.ref I)] ∧ Ex H H5 ∧ H5 I = some (.lst (its.map Im.v)) ∧ ShAt A H5 sh nd pl qs ∧ qs.Nodup ∧ okParts qs ∧ (∀ it ∈ its, Im.ok qs.length it) ∧ its.flatMap (iunf1 qs) = (pss.take i).flatMap lastUnf ∧
        qs.length ≤ cst i ∧ (∀ k, k < i → ∀ ps, pss[k]? = some ps → Has qs ps) ∧ total qs + its.length ≤ ((pss.take i).map total).sum ∧ (0 < i → 0 < qs.length)) (fun H5 e5 => ⟨_, [], [], rfl, e2.trans (e4.trans e5), e5 _ _ hI4, hSh4.up e5, by simp, fun j p h => by simp at h, by simp, by simp, by simp, (fun k hk => absurd hk (Nat.not_lt_zero k)), by simp [total], by simp⟩) (fun i σ' H5 _ p => by obtain ⟨_, _, _, _, e, _⟩ := p; exact ex_l e ha) (fun i v σ' H5 hv p => ?_) (fun σ' H5 p => ?_)
      · obtain ⟨x, its, qs, rfl, e5, hI5, hSh5, nd5, ok5, okI, unfI, len5, has5, tot5, pos5⟩ := p
        obtain ⟨f, ps, rfl, hps, hF, ho, h2p⟩ := fat i v hv
        have hi5 : i < pss.length := (List.getElem?_eq_some_iff.mp hps).1
        have c5 := cst1 i (by omega)
        have c6 := cst2 i ps hps
        have hs2 := take_succ_sum (g := total) hps
        have m2 := take_sum_le total pss (i + 1)
        obtain ⟨dx5, rs5, gx, gn, gp, _⟩ := id hSh5
        show tDrop _ _ [some (.ref a), some (.ref f), some (.ref sh), some (.ref I)] H5
        refine ⟨_, rfl, Or.inl ⟨rfl, _, sq_of hI5⟩, _, rfl, sh, dx5, _, rfl, gx, rfl, _, rfl, ?_⟩
        refine ⟨sh, f, nd, pl, qs, ps, rfl, hSh5, nd5, ok5, hF.up e5, ho, by have := ho.few; omega, fun t told r H6 ht nd6 ok6 hSh6 bt okt unft lr tr posr has6 rnil => ?_⟩
        have hI6 : H6 I = some (.lst (its.map Im.v)) := bt _ _ nIn nIp hI5
        refine ⟨I, t, _, _, rfl, rfl, hI6, st_of ht, by rw [List.length_map, List.length_map]; omega, ?_⟩
        refine ⟨_, its ++ told, qs ++ r, rfl, Ex.mut (exB e5 bt) hI0', by rw [upd_same, List.map_append], hSh6.updN hI6 nIp, nd6, ok6, fun it hi => ?_, ?_, ?_, fun k hk ps' hk' => ?_, by unfold total at *; rw [List.map_append, List.sum_append, List.length_append]; omega, fun _ => posr h2p⟩
        · rcases List.mem_append.mp hi with h | h
          · exact im_ok_mono (okI it h) (by rw [List.length_append]; omega)
          · exact okt it h
        · rw [List.flatMap_append, unft, List.take_succ, hps, flatMap_congr' (g := iunf1 qs) fun it hi => iunf_app qs r (okI it hi), unfI]
          simp [lastUnf]
        · rcases c6 with ⟨⟨k, hk, hk2⟩, h⟩ | h
          · rw [rnil (has5 k hk ps hk2), List.append_nil]
            omega
          · rw [List.length_append]
            omega
        · by_cases hki : k < i
          · exact (has5 k hki ps' hk').app r
          · have : k = i := by omega
            subst this
            rw [hps] at hk'
            cases hk'
            exact has6
      · obtain ⟨x, its, qs, rfl, e5, hI5, hSh5, nd5, ok5, okI, unfI, len5, has5, tot5, pos5⟩ := p
        have hle : (fs.map V.ref).length = pss.length := by rw [List.length_map, hlen]
        rw [hle, List.take_length] at unfI tot5
        rw [hle] at pos5 len5
        have c7 := cst1 pss.length (Nat.le_refl _)
        have hq0 := pos5 hpos
        obtain ⟨dx5, rs5, gx, gn, gp, grl, gat⟩ := id hSh5
        have hoq : OkRow qs := ⟨ok5, hq0, by omega, by unfold total at *; omega⟩
        have hG : PtsG K H5 pl qs := ⟨rs5, .inl (sq_of gp), grl, fun i q hq => by
          obtain ⟨b, h1, h2⟩ := gat i q hq
          exact ⟨b, h1, st_of h2⟩⟩
        show tRet _ _ [some (.ref a), x, some (.ref sh), some (.ref I)] H5
        refine sr_ret (P := fun v H6 => ∃ f' qs', v = .ref f' ∧ OkRow qs' ∧ FolAt K A H6 f' qs' ∧ unf1 qs' (qs'.length - 1) = its.flatMap (iunf1 qs) ∧ qs'.length ≤ qs.length + 1 ∧ total qs' ≤ total qs + its.length) (ep_call (ep_cons (P := fun v _ => v = .ref pl) (fun v Ha Hb e h => h) (EvP.of (ev_fld (ev_var rfl) gx C.cs.clS (C.cs.noS _ (by decide)) rfl))
          (ep_cons (P := fun v H6 => ∃ t, v = .ref t ∧ H6 t = some (.tup (its.map Im.v))) (fun v Ha Hb e ⟨t, h1, h2⟩ => ⟨t, h1, e _ _ h2⟩) ((EvP.ofU (eu_tupV (K := K) (ev_var rfl) (sq_of hI5))).imp fun v H6 e ⟨t, h1, h2, h3⟩ => ⟨t, h1, h3⟩) ep_nil)) fun vs H6 e6 hvs Q qq => ?_) fun v H6 e6 hv => ?_
        · obtain ⟨u, r, rfl, rfl, u2, r2, rfl, ⟨t, rfl, ht⟩, rfl⟩ := hvs
          exact ⟨pl, t, qs, its, rfl, hG.up e6, st_of ht, hoq, okI, by omega, by unfold total at *; omega, fun f' H7 qs' e7 g1 g2 g3 _ g4 g5 => qq _ H7 e7 ⟨f', qs', rfl, g1, g2, g3, g4, g5⟩⟩
        · obtain ⟨f', qs', rfl, g1, g2, g3, g4, g5⟩ := hv
          exact k f' H6 qs' (e5.trans e6) g1 g2 (g3.trans unfI) (by omega) (by omega)
end

section
variable {P : Program} {w : World} {K : PySem.W.Frag} {mg : Str → Option Value} {base : Heap} {A : Ad}
/-! ### what are no parts: too many, or too many items -/
def spAreF (K : PySem.W.Frag) : Sp := fun vs H Q _ => ∃ (a : Addr) (us : List V) (n : Nat → Nat), vs = [.ref a] ∧ SqL K H a us ∧ (∀ (i : Nat) (u : V), us[i]? = some u → ∃ b xs, u = .ref b ∧ SqL K H b xs ∧ xs.length = n i) ∧ us.length ≤ 40000 ∧
  (2000 < us.length ∨ (1 ≤ us.length ∧ 20000 < ((List.range us.length).map n).sum)) ∧ RetV (.bl false) H Q
theorem ok_arePartsF (F : F10 K A) (T : T10 mg K A) : FnOk P w K mg base CX0 4 A.aAreParts F.fAreParts ["value"] (spAreF K) := by
  obtain ⟨tp, hMOSTPARTS⟩ := T.gMOSTPARTS
  obtain ⟨ti, hMOSTITEMS⟩ := T.gMOSTITEMS
  have bIsListed : Binds K F.fIsListed ["value"] [] := F.FIsListed.binds (fun _ _ _ _ _ _ us hl => match us, hl with | [_], _ => rfl)
  have GIsListed := (ok_isListed2 (P := P) (w := w) (mg := mg) (base := base) F T).mono (show 1 ≤ 3 by omega)
  have bIsItem : Binds K F.fIsItem ["value", "many"] [] := F.FIsItem.binds (fun _ _ _ _ _ _ us hl => match us, hl with | [_, _], _ => rfl)
  have GIsItem := ok_isItem (P := P) (w := w) (mg := mg) (base := base) F T
  refine F.FAreParts.ok scAreParts (fun vs H Q E h => ?_) (fun cdv Ar outer s H vs Q E hr h => ?_)
  · obtain ⟨x, us, n, rfl, _⟩ := h
    rfl
  · obtain ⟨a, us, n, rfl, hq, hat, hz, cse, k⟩ := h
    have hr1 := hr
    refine ⟨_, (pss_cons (ps_if (PW.pt (pw_or (pt_not (pt_val (pe_call GIsListed hr1 rfl T.gIsListed T.kIsListed bIsListed .nil pass0 (pa_cons (pv 0) pa_nil)))) (pw_or (pt_not (pt_chain op_le op_le pe_int (pe_callB call_len_seq (by rfl) T.b_len (by decide +kernel) (pa_cons (pv 0) pa_nil)) (pe_glob (v := .int 2000) rfl hMOSTPARTS ⟨_, rfl⟩))) (pw_or1 (pt_not (pt_val (pe_callB (cr_all rfl) (by rfl) T.b_all (by decide +kernel) (pa_cons (pe_lc (own := [("part", 1)]) rfl scAreParts.nd (pi_list (pv 0)) (blkOk_by (own := [("part", 1)]) (N := ["value", "part", "item", "at"]) (sc := defScope (top 20)) (by decide +kernel)) (fun _ _ _ _ _ => (pg_name (i := 1) scAreParts.nd rfl (Or.inl rfl))) (fun _ _ _ _ _ => pts_nil) (fun _ _ _ _ _ => (pe_call GIsListed hr1 rfl T.gIsListed T.kIsListed bIsListed .nil pass0 (pa_cons (pv 1) pa_nil)))) pa_nil)))))))) (pss_one (ps_ret pe_bl)) pss_nil)
  (pss_cons (ps_if (pt_cmpR op_gt (pe_callB (cr_sum rfl) (by rfl) T.b_sum (by decide +kernel) (pa_cons (pe_lc (own := [("part", 1)]) rfl scAreParts.nd (pi_list (pv 0)) (blkOk_by (own := [("part", 1)]) (N := ["value", "part", "item", "at"]) (sc := defScope (top 20)) (by decide +kernel)) (fun _ _ _ _ _ => (pg_name (i := 1) scAreParts.nd rfl (Or.inl rfl))) (fun _ _ _ _ _ => pts_nil) (fun _ _ _ _ _ => (pe_callB (callR_K (K := K) rLenS rfl call_len_seq) (by rfl) T.b_len (by decide +kernel) (pa_cons (pv 1) pa_nil)))) pa_nil)) (pe_glob (v := .int 20000) rfl hMOSTITEMS ⟨_, rfl⟩) (nomark _)) (pss_one (ps_ret pe_bl)) pss_nil)
  (pss_one (ps_ret (pe_callB (cr_all rfl) (by rfl) T.b_all (by decide +kernel) (pa_cons (pe_lc (own := [("at", 3), ("part", 1)]) rfl scAreParts.nd (pi_enum (by rfl) T.b_enumerate (pa_cons (pv 0) pa_nil)) (blkOk_by (own := [("at", 3), ("part", 1)]) (N := ["value", "part", "item", "at"]) (sc := defScope (top 20)) (by decide +kernel)) (fun _ _ _ _ _ => (OwnL.pg_tupC (K := K) (n := 2) rfl rfl (pgs_cons (pg_name (i := 3) scAreParts.nd rfl (Or.inr rfl)) (pgs_cons (pg_name (i := 1) scAreParts.nd rfl (Or.inl rfl)) pgs_nil)))) (fun _ _ _ _ _ => pts_nil) (fun _ _ _ _ _ => by exact (pe_callB (callR_K (K := K) rAll rfl (cr_all rfl)) (by rfl) T.b_all (by decide +kernel) (pa_cons (pe_lc (own := [("item", 2)]) rfl scAreParts.nd (pi_listK (K := K) rfl (pv 1)) (by exact blkOk_by (own := [("item", 2)]) (N := ["value", "part", "item", "at"]) (sc := lcSc (retArg ((defBody sAreParts).getD 2 (.Pass ⟨0, 0, 0, 0⟩)))) (by decide +kernel)) (fun _ _ _ _ _ => (pg_name (i := 2) scAreParts.nd rfl (Or.inl rfl))) (fun _ _ _ _ _ => pts_nil) (fun _ _ _ _ _ => (pe_call GIsItem hr1 rfl T.gIsItem T.kIsItem bIsItem .nil pass0 (pa_cons (pv 2) (pa_cons (pv 3) pa_nil))))) pa_nil)))) pa_nil)))))), ?_⟩
    change tSeq _ _ _ [some (.ref a), none, none, none] _
    refine q_when (b := decide (2000 < us.length)) (et_is (et_or (a := !true) (b := decide (2000 < us.length)) (et_not (et_B (ev_call (ea_cons (ev_var rfl) ea_nil) (fun H1 e Q q E => ⟨a, us, rfl, ex_l e hq, fun H2 e2 => q H2 e2⟩)))) fun _ => et_is (et_or (et_not (et_test (ev_chain (k := decide ((1 : Int) ≤ (us.length : Nat))) (k' := decide (((us.length : Nat) : Int) ≤ 2000)) ev_c (ev_len (ev_var rfl) hq) rv_I0 fun _ => ⟨ev_c, rv_I0⟩))) fun _ => et_not (et_B (ev_all (bs := (List.range us.length).map fun _ => true) ?_))) ?_) (by simp)) (fun hb H1 e1 => s_ret ev_c fun H2 e2 => k _ (e1.trans e2)) fun hb H1 e1 => ?_
    · have q := el_lcL (K := K) (σ := [some (.ref a), none, none, none]) (H := H) (te := tCall (spListed2 K) [] E0 (tCons (tVar 1) tNil)) (tl := tVar 0) (t := tYes) (j := 1) (vs := [1]) (fun _ => true) (fun _ => .bl true) (ev_var rfl) hq (by omega) (fun x => rfl) (fun j x H4 e4 hx => et_yes) (fun j x H4 e4 hx _ => ?_)
      · rw [given_all] at q
        rw [List.map_map]
        exact q
      · obtain ⟨b, xs, rfl, hb, _⟩ := hat j x hx
        exact ev_call (ea_cons (ev_var rfl) ea_nil) (fun H1 e Q q E => ⟨b, xs, rfl, ex_l (e4.trans e) hb, fun H2 e2 => q H2 e2⟩)
    · have h1 : decide ((1 : Int) ≤ (us.length : Nat)) = true := by
        simp
        omega
      rw [h1, all_true]
      by_cases h : 2000 < us.length
      · have h2 : decide (((us.length : Nat) : Int) ≤ 2000) = false := by simp; omega
        rw [h2, decide_eq_true h]
        rfl
      · have h2 : decide (((us.length : Nat) : Int) ≤ 2000) = true := by simp; omega
        rw [h2, decide_eq_false h]
        rfl
    · have hle : ¬ 2000 < us.length := by simpa using hb
      have hsum : 20000 < ((List.range us.length).map n).sum := by
        rcases cse with h | h
        · exact absurd h hle
        · exact h.2
      refine q_when (b := true) (et_test (ev_is (ev_op (ev_is (ev_sum (ns := (List.range us.length).map fun i => ((n i : Nat) : Int)) ?_) (by rw [int_sum])) ev_c rv_I0) (congrArg V.bl (decide_eq_true (by omega))))) (fun _ H2 e2 => s_ret ev_c fun H3 e3 => k _ (e1.trans (e2.trans e3))) fun hb => by cases hb
      have q := el_lcL (K := K) (σ := [some (.ref a), none, none, none]) (H := H1) (te := tCB (rLenS K) (tCons (tVar 1) tNil)) (tl := tVar 0) (t := tYes) (j := 1) (vs := [1]) (fun _ => true) (fun i => .int ((n i : Nat) : Int)) (ev_var rfl) (ex_l e1 hq) (by omega) (fun x => rfl) (fun j x H4 e4 hx => et_yes) (fun j x H4 e4 hx _ => ?_)
      · rw [given_all] at q
        rw [List.map_map]
        exact q
      · obtain ⟨b, xs, rfl, hb, hn⟩ := hat j x hx
        exact ev_is (ev_len (ev_var rfl) (ex_l (e1.trans e4) hb)) (by rw [hn])
end

/-! ### the law's rows, by formula -/
abbrev wGo : Str := "go"
abbrev wUp : Str := "up"
abbrev wHit : Str := "hit"
def rowP (b d : Nat) : List (List Im) := [Im.ev wGo] :: (List.range d).map fun k => List.replicate b (Im.at k)
def goldP (n : Nat) : List (List Im) := [Im.ev wUp] :: [Im.ev wUp, Im.ev wHit] :: (List.range n).map fun k => [Im.at (k + 1), Im.at k]
def markP (n : Nat) : List (List Im) := [Im.ev wGo, Im.ev wGo] :: (List.range n).map fun k => [Im.at k, Im.at k, Im.ev wHit]
theorem okX_go : OkX wGo := ⟨by decide +kernel, by decide +kernel, by decide +kernel⟩
theorem okX_up : OkX wUp := ⟨by decide +kernel, by decide +kernel, by decide +kernel⟩
theorem okX_hit : OkX wHit := ⟨by decide +kernel, by decide +kernel, by decide +kernel⟩
theorem rowP_0 (b d : Nat) : (rowP b d)[0]? = some [Im.ev wGo] := rfl
theorem rowP_s (b d : Nat) {k : Nat} (h : k < d) : (rowP b d)[k + 1]? = some (List.replicate b (Im.at k)) := by simp [rowP, h]
theorem rowP_len (b d : Nat) : (rowP b d).length = d + 1 := by simp [rowP]
theorem goldP_len (n : Nat) : (goldP n).length = n + 2 := by simp [goldP]
theorem markP_len (n : Nat) : (markP n).length = n + 1 := by simp [markP]
theorem goldP_0 (n : Nat) : (goldP n)[0]? = some [Im.ev wUp] := rfl
theorem goldP_1 (n : Nat) : (goldP n)[1]? = some [Im.ev wUp, Im.ev wHit] := rfl
theorem goldP_s {n k : Nat} (h : k < n) : (goldP n)[k + 2]? = some [Im.at (k + 1), Im.at k] := by simp [goldP, h]
theorem markP_0 (n : Nat) : (markP n)[0]? = some [Im.ev wGo, Im.ev wGo] := rfl
theorem markP_s {n k : Nat} (h : k < n) : (markP n)[k + 1]? = some [Im.at k, Im.at k, Im.ev wHit] := by simp [markP, h]
theorem rowP_ok (b d : Nat) : okParts (rowP b d) := fun j p hj it hi => by
  cases j with
  | zero =>
    rw [rowP_0] at hj
    cases hj
    have : it = Im.ev wGo := by simpa using hi
    subst this
    exact okX_go
  | succ k =>
    have hk : k < d := by
      have := (List.getElem?_eq_some_iff.mp hj).1
      rw [rowP_len] at this
      omega
    rw [rowP_s b d hk] at hj
    cases hj
    have : it = Im.at k := (List.mem_replicate.mp hi).2
    subst this
    exact Nat.lt_succ_self k
theorem goldP_ok (n : Nat) : okParts (goldP n) := fun j p hj it hi => by
  match j with
  | 0 =>
    rw [goldP_0] at hj
    cases hj
    have : it = Im.ev wUp := by simpa using hi
    subst this
    exact okX_up
  | 1 =>
    rw [goldP_1] at hj
    cases hj
    have : it = Im.ev wUp ∨ it = Im.ev wHit := by simpa using hi
    rcases this with rfl | rfl
    · exact okX_up
    · exact okX_hit
  | k + 2 =>
    have hk : k < n := by
      have := (List.getElem?_eq_some_iff.mp hj).1
      rw [goldP_len] at this
      omega
    rw [goldP_s hk] at hj
    cases hj
    have : it = Im.at (k + 1) ∨ it = Im.at k := by simpa using hi
    rcases this with rfl | rfl
    · show k + 1 < k + 2; omega
    · show k < k + 2; omega
theorem markP_ok (n : Nat) : okParts (markP n) := fun j p hj it hi => by
  cases j with
  | zero =>
    rw [markP_0] at hj
    cases hj
    have : it = Im.ev wGo := by simpa using hi
    subst this
    exact okX_go
  | succ k =>
    have hk : k < n := by
      have := (List.getElem?_eq_some_iff.mp hj).1
      rw [markP_len] at this
      omega
    rw [markP_s hk] at hj
    cases hj
    have : it = Im.at k ∨ it = Im.ev wHit := by simpa using hi
    rcases this with rfl | rfl
    · exact Nat.lt_succ_self k
    · exact okX_hit
theorem const_sum {α : Type} {f : Nat → List α} {c : Nat} (h : ∀ k, (f k).length = c) (d : Nat) : (((List.range d).map f).map List.length).sum = d * c := by
  rw [List.map_map]
  induction d with
  | zero => simp
  | succ d ih => rw [List.range_succ, List.map_append, List.sum_append, ih]; simp [Nat.succ_mul, h]
theorem rowP_tot (b d : Nat) : ((rowP b d).map List.length).sum = 1 + d * b := by
  have := const_sum (f := fun k => List.replicate b (Im.at k)) (c := b) (fun _ => by simp) d
  simp only [rowP, List.map_cons, List.sum_cons, this, List.length_cons, List.length_nil]
theorem goldP_tot (n : Nat) : ((goldP n).map List.length).sum = 3 + n * 2 := by
  have := const_sum (f := fun k => [Im.at (k + 1), Im.at k]) (c := 2) (fun _ => rfl) n
  simp only [goldP, List.map_cons, List.sum_cons, this, List.length_cons, List.length_nil]
  omega
theorem markP_tot (n : Nat) : ((markP n).map List.length).sum = 2 + n * 3 := by
  have := const_sum (f := fun k => [Im.at k, Im.at k, Im.ev wHit]) (c := 3) (fun _ => rfl) n
  simp only [markP, List.map_cons, List.sum_cons, this, List.length_cons, List.length_nil]
theorem rowP_row {b d : Nat} (h1 : b ≤ 4) (h2 : d ≤ 1000) : OkRow (rowP b d) := ⟨rowP_ok b d, by rw [rowP_len]; omega, by rw [rowP_len]; omega, by
  rw [rowP_tot]
  have := Nat.mul_le_mul h2 h1
  omega⟩
theorem goldP_row {n : Nat} (h : n ≤ 1000) : OkRow (goldP n) := ⟨goldP_ok n, by rw [goldP_len]; omega, by rw [goldP_len]; omega, by rw [goldP_tot]; omega⟩
theorem markP_row {n : Nat} (h : n ≤ 1000) : OkRow (markP n) := ⟨markP_ok n, by rw [markP_len]; omega, by rw [markP_len]; omega, by rw [markP_tot]; omega⟩
theorem rep_flat {α β : Type} (f : α → List β) (x : α) {y : β} {n : Nat} (h : f x = List.replicate n y) : ∀ b, (List.replicate b x).flatMap f = List.replicate (b * n) y
  | 0 => by simp
  | b + 1 => by
    rw [List.replicate_succ, List.flatMap_cons, rep_flat f x h b, h, Nat.succ_mul, Nat.add_comm, List.replicate_append_replicate]
theorem rowP_unf (b d : Nat) : ∀ j, j ≤ d → unf1 (rowP b d) j = List.replicate (b ^ j) wGo
  | 0, _ => by
    rw [unf1_eq (rowP_ok b d) (rowP_0 b d)]
    rfl
  | k + 1, h => by
    rw [unf1_eq (rowP_ok b d) (rowP_s b d (by omega)), rep_flat (iunf1 (rowP b d)) (Im.at k) (n := b ^ k) (y := wGo) (rowP_unf b d k (by omega)) b, Nat.pow_succ, Nat.mul_comm]
theorem rowP_len1 (b d : Nat) {j : Nat} (h : j ≤ d) : len1 (rowP b d) j = b ^ j := by
  rw [← unf_len (rowP_ok b d) (j + 1) j (Nat.lt_succ_self j), rowP_unf b d j h, List.length_replicate]
theorem goldP_u0 (n : Nat) : unf1 (goldP n) 0 = [wUp] := by
  rw [unf1_eq (goldP_ok n) (goldP_0 n)]
  rfl
theorem goldP_u1 (n : Nat) : unf1 (goldP n) 1 = [wUp, wHit] := by
  rw [unf1_eq (goldP_ok n) (goldP_1 n)]
  rfl
theorem goldP_us {n k : Nat} (h : k < n) : unf1 (goldP n) (k + 2) = unf1 (goldP n) (k + 1) ++ unf1 (goldP n) k := by
  rw [unf1_eq (goldP_ok n) (goldP_s h)]
  simp [iunf1]
theorem markP_u0 (n : Nat) : unf1 (markP n) 0 = [wGo, wGo] := by
  rw [unf1_eq (markP_ok n) (markP_0 n)]
  rfl
theorem markP_us {n k : Nat} (h : k < n) : unf1 (markP n) (k + 1) = unf1 (markP n) k ++ (unf1 (markP n) k ++ [wHit]) := by
  rw [unf1_eq (markP_ok n) (markP_s h)]
  simp [iunf1]
/-- how many of each in the golden words -/
def goldC : Nat → Nat × Nat
  | 0 => (1, 0)
  | 1 => (1, 1)
  | k + 2 => ((goldC (k + 1)).1 + (goldC k).1, (goldC (k + 1)).2 + (goldC k).2)
theorem goldP_cnt (n : Nat) : ∀ j, j < n + 2 → (unf1 (goldP n) j).count wUp = (goldC j).1 ∧ (unf1 (goldP n) j).count wHit = (goldC j).2 ∧ (unf1 (goldP n) j).length = (goldC j).1 + (goldC j).2
  | 0, _ => by rw [goldP_u0]; decide +kernel
  | 1, _ => by rw [goldP_u1]; decide +kernel
  | k + 2, h => by
    obtain ⟨a1, a2, a3⟩ := goldP_cnt n (k + 1) (by omega)
    obtain ⟨b1, b2, b3⟩ := goldP_cnt n k (by omega)
    rw [goldP_us (by omega), List.count_append, List.count_append, List.length_append, a1, a2, a3, b1, b2, b3]
    refine ⟨rfl, rfl, ?_⟩
    simp only [goldC]
    omega
theorem markP_cnt (n : Nat) : ∀ j, j ≤ n → (unf1 (markP n) j).count wGo = 2 * 2 ^ j ∧ (unf1 (markP n) j).count wHit + 1 = 2 ^ j ∧ (unf1 (markP n) j).length + 1 = 3 * 2 ^ j
  | 0, _ => by rw [markP_u0]; decide +kernel
  | k + 1, h => by
    obtain ⟨a1, a2, a3⟩ := markP_cnt n k (by omega)
    rw [markP_us (by omega), List.count_append, List.count_append, List.count_append, List.count_append, List.length_append, List.length_append, a1, Nat.pow_succ]
    have h1 : ([wHit] : List Str).count wGo = 0 := by decide +kernel
    have h2 : ([wHit] : List Str).count wHit = 1 := by decide +kernel
    rw [h1, h2]
    simp only [List.length_singleton]
    omega
/-- the first twenty -/
theorem goldP_pre {n : Nat} : ∀ j, 6 ≤ j → j < n + 2 → ∃ r, unf1 (goldP n) j = unf1 (goldP n) 6 ++ r := by
  intro j
  induction j with
  | zero => intro h; omega
  | succ k ih =>
    intro h1 h2
    by_cases e : k + 1 = 6
    · rw [e]
      exact ⟨[], by simp⟩
    · obtain ⟨r, hr⟩ := ih (by omega) (by omega)
      obtain ⟨m, rfl⟩ : ∃ m, k = m + 1 := ⟨k - 1, by omega⟩
      exact ⟨r ++ unf1 (goldP n) m, by rw [goldP_us (by omega), hr, List.append_assoc]⟩
theorem goldP_u6 {n : Nat} (h : 5 ≤ n) : unf1 (goldP n) 6 = [wUp, wHit, wUp, wUp, wHit, wUp, wHit, wUp, wUp, wHit, wUp, wUp, wHit, wUp, wHit, wUp, wUp, wHit, wUp, wHit, wUp] := by
  rw [goldP_us (by omega), goldP_us (by omega), goldP_us (by omega), goldP_us (by omega), goldP_us (by omega), goldP_u1, goldP_u0]
  rfl

section
variable {P : Program} {w : World} {K : PySem.W.Frag} {mg : Str → Option Value} {base : Heap} {A : Ad}
/-! ### own exceptions are made -/
/-- an own exception's __init__, as the heap holds it -/
structure EI (P : Program) (K : PySem.W.Frag) (C aI : Addr) (st : Stmt) (qual : Str) (fd : FuncData) : Prop where
  ex : ∃ (oc : Value) (od an : Option Addr) (kV doc pm ct : Value) (cda cc : Addr) (osl : Array (Option Value)), fd = PySem.W.fnX "__init__" qual (defArgs st) (defBody st) (defScope st) [("__class__", cc)] .none kV doc pm an (.ref cda) ct ∧
    K.lookup aI = some ⟨oc, od, .func fd, osl⟩ ∧ PySem.W.codeIn K (.ref cda) qual = true ∧ SupV P K C cda cc
/-- one value is kept by a name -/
def spEI (C : Addr) (f : Str) : Sp := fun vs H Q _ => ∃ (x : Addr) (v : V), vs = [.ref x, v] ∧ H x = some (exo x C none) ∧
  ∀ (dx : Addr) (H' : Hp), H' x = some (exo x C (some dx)) → H' dx = some (exd dx [(f, v)]) → H dx = none → dx ≠ x → (∀ b o, b ≠ x → H b = some o → H' b = some o) → Q .non H'
theorem ok_bvInit {fd : FuncData} (h : EI P K A.cBadValue A.aBadValueI sBadValueI "BadValue.__init__" fd) (no : PySem.W.findIn K (.ref A.cBadValue) "part" = some none) : FnOk P w K mg base CX0 1 A.aBadValueI fd ["self", "part"] (spEI A.cBadValue "part") := by
  obtain ⟨oc, od, an, kV, doc, pm, ct, cda, cc, osl, rfl, lk, hcd, T⟩ := h.ex
  refine fn_superV (k := 0) rfl lk hcd scBadValueI T rfl rfl (by decide) (fun vs H Q E h => ?_) (fun env => rfl) (fun env => rfl) (fun env => rfl) (fun env => rfl) fun Ar outer s H vs Q E hr h => ?_
  · obtain ⟨x, v, rfl, _⟩ := h
    rfl
  · obtain ⟨x, v, rfl, hx, k⟩ := h
    refine ⟨x, _, _, rfl, hx, pa_cons (pv 1) pa_nil, pss_one (ps_ost (pv 0) (pv 1)), fun q φ hq => ?_⟩
    have nxq : x ≠ q := fun e => by rw [e, hq] at hx; cases hx
    have hx1 : (upd H q (.ext φ)) x = some (exo x A.cBadValue none) := by rw [upd_ne nxq]; exact hx
    refine ⟨_, rfl, upd_same, by simp, hx1, _, rfl, _, rfl, x, A.cBadValue, rfl, T.exc, no, .inl ⟨hx1, fun dx hdx ndx => ?_⟩⟩
    have hd0 : H dx = none := by
      by_cases e : dx = q
      · rw [e]; exact hq
      · rw [upd_ne e] at hdx; exact hdx
    refine k dx _ upd_same (by rw [upd_ne ndx]; exact upd_same) hd0 ndx fun b o hb ho => ?_
    rw [upd_ne hb, upd_ne (fun e => by rw [e, hd0] at ho; cases ho), upd_ne (fun e => by rw [e, hq] at ho; cases ho)]
    exact ho
end

section
variable {P : Program} {w : World} {K : PySem.W.Frag} {mg : Str → Option Value} {base : Heap} {A : Ad}
/-! ### what is raised -/
structure BV (P : Program) (K : PySem.W.Frag) (A : Ad) (fd : FuncData) : Prop where
  ei : EI P K A.cBadValue A.aBadValueI sBadValueI "BadValue.__init__" fd
  no : PySem.W.findIn K (.ref A.cBadValue) "part" = some none
  oex : OexC K A.cBadValue
  ini : PySem.W.findIn K (.ref A.cBadValue) "__init__" = some (some (.ref A.aBadValueI))
  fn : PySem.W.typeIn K (.ref A.aBadValueI) = some (.type "function")
theorem mk_ei {C : Addr} {f : Str} {v : V} {σ : L2.St} {H : Hp} {Q : XK} (k : ∀ d H', Ex H H' → H' d = some (.xd [(f, v)]) → Q (.ref C) (some d) H') : tMkO C (spEI C f) [] (tCons (tC v) tNil) σ H Q :=
  ⟨by simp, fun a ha => ⟨a, v, rfl, upd_same, fun d H' h1 h2 h3 nd bt => ⟨rfl, d, _, h1, h2, by rw [upd_ne nd] at h3; exact h3, k d _ (fun b o hb => by
    have nb : b ≠ a := fun e => by rw [e, ha] at hb; cases hb
    have nbd : b ≠ d := fun e => by rw [e] at hb; rw [upd_ne nd, hb] at h3; cases h3
    rw [upd_ne nbd, del_ne nb]
    exact bt b o nb (by rw [upd_ne nb]; exact hb)) upd_same⟩⟩⟩
theorem b_bv {fd : FuncData} (B : BV P K A fd) : Binds K fd ["self", "part"] [] := by
  obtain ⟨oc, od, an, kV, doc, pm, ct, cda, cc, osl, rfl, lk, hcd, T⟩ := B.ei.ex
  exact .all fun us hl => match us, hl with | [_, _], _ => rfl
def spFoldedX (K : PySem.W.Frag) (A : Ad) : Sp := fun vs H _ E => ∃ (a : Addr) (p : List Im), vs = [.ref a] ∧ SqL K H a (p.map Im.v) ∧ (∀ it ∈ p, ∃ x, it = .ev x ∧ OkX x) ∧ 20000 < p.length ∧ p.length ≤ 40000 ∧
  ∀ d H', Ex H H' → H' d = some (.xd [("part", .str "events")]) → E (.ref A.cBadValue) (some d) H'
theorem ok_foldedX {fd : FuncData} (F : F10 K A) (T : T10 mg K A) (TB : BV P K A fd) : FnOk P w K mg base (L2.CX P w) 3 A.aFoldedOf F.fFoldedOf ["events"] (spFoldedX K A) := by
  obtain ⟨ti, hMOSTITEMS⟩ := T.gMOSTITEMS
  have bIsListed : Binds K F.fIsListed ["value"] [] := F.FIsListed.binds (fun _ _ _ _ _ _ us hl => match us, hl with | [_], _ => rfl)
  have GIsListed := (ok_isListed2 (P := P) (w := w) (mg := mg) (base := base) F T).mono (show 1 ≤ 2 by omega)
  have bIsName : Binds K F.fIsName ["value"] [] := F.FIsName.binds (fun _ _ _ _ _ _ us hl => match us, hl with | [_], _ => rfl)
  have GIsName := (ok_isName2 (P := P) (w := w) (mg := mg) (base := base) F T).mono (show 1 ≤ 2 by omega)
  have bBad := b_bv TB
  have GBad := ok_bvInit (w := w) (mg := mg) (base := base) TB.ei TB.no
  refine F.FFoldedOf.okX scFoldedOf (fun vs H Q E h => ?_) (fun cdv Ar outer s H vs Q E hr h => ?_)
  · obtain ⟨a, p, rfl, _⟩ := h
    rfl
  · obtain ⟨a, p, rfl, ha, hp, l1, l2, k⟩ := h
    have hr1 := hr
    refine ⟨_, (pss_cons (ps_if (PW.pt (pw_or (pt_not (pt_val (pe_call GIsListed hr1 rfl T.gIsListed T.kIsListed bIsListed .nil pass0 (pa_cons (pv 0) pa_nil)))) (pw_or (pt_not (pt_val (pe_callB (cr_all rfl) (by rfl) T.b_all (by decide +kernel) (pa_cons (pe_lc (own := [("event", 1)]) rfl scFoldedOf.nd (pi_list (pv 0)) (blkOk_by (own := [("event", 1)]) (N := ["events", "event"]) (sc := defScope (top 30)) (by decide +kernel)) (fun _ _ _ _ _ => (pg_name (i := 1) scFoldedOf.nd rfl (Or.inl rfl))) (fun _ _ _ _ _ => pts_nil) (fun _ _ _ _ _ => (pe_call GIsName hr1 rfl T.gIsName T.kIsName bIsName .nil pass0 (pa_cons (pv 1) pa_nil)))) pa_nil)))) (pw_or1 (pt_cmpR op_gt (pe_callB call_len_seq (by rfl) T.b_len (by decide +kernel) (pa_cons (pv 0) pa_nil)) (pe_glob (v := .int 20000) rfl hMOSTITEMS ⟨_, rfl⟩) (nomark _)))))) (pss_one (ps_raise rfl (takes_of rfl rfl rfl rfl) (pmk_oex TB.oex TB.ini TB.fn GBad hr1 bBad .nil pass0 rfl T.gBadValue (pa_cons pe_str pa_nil)))) pss_nil)
  (pss_one ps_never)), ?_⟩
    change tSeq _ _ _ [some (.ref a), none] _
    refine q_when (b := true) (et_is (et_or (a := !true) (b := true) (et_not (et_B (ev_call (ea_cons (ev_var rfl) ea_nil) (fun H1 e Q q E => ⟨a, _, rfl, ex_l e ha, fun H2 e2 => q H2 e2⟩)))) fun _ => et_is (et_or (a := !true) (b := true) (et_not (et_B (ev_is (ev_all (bs := (List.range p.length).map fun _ => true) ?_) (by rw [all_true])))) fun _ => et_test (ev_is (ev_op (ev_len (ev_var rfl) ha) ev_c rv_I0) (congrArg V.bl (decide_eq_true (by rw [List.length_map]; omega))))) rfl) rfl) (fun _ H1 e1 => ?_) fun h => by cases h
    · have q := el_lcL (K := K) (σ := [some (.ref a), none]) (H := H) (te := tCall (spName2 K) [] E0 (tCons (tVar 1) tNil)) (tl := tVar 0) (t := tYes) (j := 1) (vs := [1]) (fun _ => true) (fun _ => .bl true) (ev_var rfl) ha (by rw [List.length_map]; omega) (fun x => rfl) (fun j x H4 e4 hx => et_yes) (fun j x H4 e4 hx _ => ?_)
      · rw [given_all, List.length_map] at q
        rw [List.map_map]
        exact q
      · obtain ⟨it, hit, rfl⟩ := im_get hx
        obtain ⟨y, rfl, oy⟩ := hp it (List.mem_of_getElem? hit)
        exact ev_call (ea_cons (ev_var rfl) ea_nil) (fun H1 e Q q E => ⟨.ev y, rfl, ⟨oy.1, oy.2.1⟩, fun H2 e2 => by
          have e3 : nameI (.ev y) = true := oy.2.2
          rw [e3]
          exact q H2 e2⟩)
    · exact mk_ei fun d H2 e2 h2 => k d H2 (e1.trans e2) h2
end

section
variable {P : Program} {w : World} {K : PySem.W.Frag} {mg : Str → Option Value} {base : Heap} {A : Ad}
/-- lists that are no parts: too many, or too many items -/
def NoPts (K : PySem.W.Frag) (H : Hp) (a : Addr) : Prop := ∃ (us : List V) (n : Nat → Nat), SqL K H a us ∧ (∀ (i : Nat) (u : V), us[i]? = some u → ∃ b xs, u = .ref b ∧ SqL K H b xs ∧ xs.length = n i) ∧ us.length ≤ 40000 ∧ (2000 < us.length ∨ (1 ≤ us.length ∧ 20000 < ((List.range us.length).map n).sum))
theorem NoPts.up {H H' : Hp} {a : Addr} (h : NoPts K H a) (e : Ex H H') : NoPts K H' a := by
  obtain ⟨us, n, h1, h2, h3, h4⟩ := h
  refine ⟨us, n, ex_l e h1, fun i u hu => ?_, h3, h4⟩
  obtain ⟨b, xs, g1, g2, g3⟩ := h2 i u hu
  exact ⟨b, xs, g1, ex_l e g2, g3⟩
def spFInitX (K : PySem.W.Frag) (A : Ad) : Sp := fun vs H _ E => ∃ (x a : Addr), vs = [.ref x, .ref a] ∧ NoPts K H a ∧ ∀ d H', Ex H H' → H' d = some (.xd [("part", .str "parts")]) → E (.ref A.cBadValue) (some d) H'
theorem ok_finitX {fd : FuncData} (F : F10 K A) (T : T10 mg K A) (TB : BV P K A fd) : FnOk P w K mg base (L2.CX P w) 5 A.aFInit F.fFInit ["self", "parts"] (spFInitX K A) := by
  have bAreParts : Binds K F.fAreParts ["value"] [] := F.FAreParts.binds (fun _ _ _ _ _ _ us hl => match us, hl with | [_], _ => rfl)
  have GAreParts := ok_arePartsF (P := P) (w := w) (mg := mg) (base := base) F T
  have bBad := b_bv TB
  have GBad := (ok_bvInit (w := w) (mg := mg) (base := base) TB.ei TB.no).mono (show 1 ≤ 3 by omega)
  refine F.FFInit.okX scFInit (fun vs H Q E h => ?_) (fun cdv Ar outer s H vs Q E hr h => ?_)
  · obtain ⟨x, a, rfl, _⟩ := h
    rfl
  · obtain ⟨x, a, rfl, ha, k⟩ := h
    have hr1 := hr
    refine ⟨_, (pss_cons (ps_if (pt_not (pt_val (pe_call GAreParts hr1 rfl T.gAreParts T.kAreParts bAreParts .nil pass0 (pa_cons (pv 1) pa_nil)))) (pss_one (ps_raise rfl (takes_of rfl rfl rfl rfl) (pmk_oex TB.oex TB.ini TB.fn GBad hr1 bBad .nil pass0 rfl T.gBadValue (pa_cons pe_str pa_nil)))) pss_nil)
  (pss_cons ps_never
  (pss_cons ps_never
  (pss_one ps_never)))), ?_⟩
    change tSeq _ _ _ [some (.ref x), some (.ref a)] _
    refine q_when (b := !false) (et_not (et_B (ev_call (ea_cons (ev_var rfl) ea_nil) (fun H1 e Q q E => by
      obtain ⟨us, n, h1, h2, h3, h4⟩ := ha.up e
      exact ⟨a, us, n, rfl, h1, h2, h3, h4, fun H2 e2 => q H2 e2⟩)))) (fun _ H1 e1 => ?_) fun h => by cases h
    exact mk_ei fun d H2 e2 h2 => k d H2 (e1.trans e2) h2
end

section
variable {P : Program} {w : World} {K : PySem.W.Frag} {mg : Str → Option Value} {base : Heap} {A : Ad}
def spEI2 (C : Addr) (f g : Str) : Sp := fun vs H Q _ => ∃ (x : Addr) (v u : V), vs = [.ref x, v, u] ∧ H x = some (exo x C none) ∧
  ∀ (dx : Addr) (H' : Hp), H' x = some (exo x C (some dx)) → H' dx = some (exd dx [(g, u), (f, v)]) → H dx = none → dx ≠ x → (∀ b o, b ≠ x → H b = some o → H' b = some o) → Q .non H'
theorem ok_tmInit {fd : FuncData} (h : EI P K A.cTooMany A.aTooManyI sTooManyI "TooMany.__init__" fd) (no1 : PySem.W.findIn K (.ref A.cTooMany) "what" = some none) (no2 : PySem.W.findIn K (.ref A.cTooMany) "most" = some none) : FnOk P w K mg base CX0 1 A.aTooManyI fd ["self", "what", "most"] (spEI2 A.cTooMany "what" "most") := by
  obtain ⟨oc, od, an, kV, doc, pm, ct, cda, cc, osl, rfl, lk, hcd, T⟩ := h.ex
  refine fn_superV (k := 0) rfl lk hcd scTooManyI T rfl rfl (by decide) (fun vs H Q E h => ?_) (fun env => rfl) (fun env => rfl) (fun env => rfl) (fun env => rfl) fun Ar outer s H vs Q E hr h => ?_
  · obtain ⟨x, v, u, rfl, _⟩ := h
    rfl
  · obtain ⟨x, v, u, rfl, hx, k⟩ := h
    refine ⟨x, _, _, rfl, hx, pa_cons (pv 1) (pa_cons (pv 2) pa_nil), pss_cons (ps_ost (pv 0) (pv 1)) (pss_one (ps_ost (pv 0) (pv 2))), fun q φ hq => ?_⟩
    have nxq : x ≠ q := fun e => by rw [e, hq] at hx; cases hx
    have hx1 : (upd H q (.ext φ)) x = some (exo x A.cTooMany none) := by rw [upd_ne nxq]; exact hx
    refine ⟨_, rfl, _, rfl, upd_same, by simp, hx1, _, rfl, _, rfl, x, A.cTooMany, rfl, T.exc, no1, .inl ⟨hx1, fun dx hdx ndx => ?_⟩⟩
    have hd0 : H dx = none := by
      by_cases e : dx = q
      · rw [e]; exact hq
      · rw [upd_ne e] at hdx; exact hdx
    have hx2 : (upd (upd (upd H q (.ext φ)) dx (exd dx [(("what" : Str), v)])) x (exo x A.cTooMany (some dx))) x = some (exo x A.cTooMany (some dx)) := upd_same
    have hd2 : (upd (upd (upd H q (.ext φ)) dx (exd dx [(("what" : Str), v)])) x (exo x A.cTooMany (some dx))) dx = some (exd dx [("what", v)]) := by rw [upd_ne ndx]; exact upd_same
    refine ⟨_, rfl, _, rfl, x, A.cTooMany, rfl, T.exc, no2, .inr ⟨dx, _, hx2, hd2, by simp, ?_⟩⟩
    refine k dx _ (by rw [upd_ne ndx.symm]; exact hx2) upd_same hd0 ndx fun b o hb ho => ?_
    have nbd : b ≠ dx := fun e => by rw [e, hd0] at ho; cases ho
    rw [upd_ne nbd, upd_ne hb, upd_ne nbd, upd_ne (fun e => by rw [e, hq] at ho; cases ho)]
    exact ho
theorem mk_ei2 {C : Addr} {f g : Str} {v u : V} {σ : L2.St} {H : Hp} {Q : XK} (k : ∀ d H', Ex H H' → H' d = some (.xd [(g, u), (f, v)]) → Q (.ref C) (some d) H') : tMkO C (spEI2 C f g) [] (tCons (tC v) (tCons (tC u) tNil)) σ H Q :=
  ⟨by simp, fun a ha => ⟨a, v, u, rfl, upd_same, fun d H' h1 h2 h3 nd bt => ⟨rfl, d, _, h1, h2, by rw [upd_ne nd] at h3; exact h3, k d _ (fun b o hb => by
    have nb : b ≠ a := fun e => by rw [e, ha] at hb; cases hb
    have nbd : b ≠ d := fun e => by rw [e] at hb; rw [upd_ne nd, hb] at h3; cases h3
    rw [upd_ne nbd, del_ne nb]
    exact bt b o nb (by rw [upd_ne nb]; exact hb)) upd_same⟩⟩⟩
structure TM (P : Program) (K : PySem.W.Frag) (A : Ad) (fd : FuncData) : Prop where
  ei : EI P K A.cTooMany A.aTooManyI sTooManyI "TooMany.__init__" fd
  no1 : PySem.W.findIn K (.ref A.cTooMany) "what" = some none
  no2 : PySem.W.findIn K (.ref A.cTooMany) "most" = some none
  oex : OexC K A.cTooMany
  ini : PySem.W.findIn K (.ref A.cTooMany) "__init__" = some (some (.ref A.aTooManyI))
  fn : PySem.W.typeIn K (.ref A.aTooManyI) = some (.type "function")
def spUnfoldedX (K : PySem.W.Frag) (A : Ad) : Sp := fun vs H _ E => ∃ (f : Addr) (ps : List (List Im)), vs = [.ref f] ∧ FolAt K A H f ps ∧ 10000 < len1 ps (ps.length - 1) ∧
  ∀ d H', Ex H H' → H' d = some (.xd [("most", .int 10000), ("what", .str "events")]) → E (.ref A.cTooMany) (some d) H'
theorem ok_unfoldedX {fd : FuncData} (F : F10 K A) (T : T10 mg K A) (C : CF K A) (TB : TM P K A fd) : FnOk P w K mg base (L2.CX P w) 3 A.aUnfolded F.fUnfolded ["row"] (spUnfoldedX K A) := by
  obtain ⟨te, hMOSTEVENTS⟩ := T.gMOSTEVENTS
  obtain ⟨dn, vNeedFolded, bNeedFolded⟩ := b_need F
  have GNeedFolded := (ok_needFolded (P := P) (w := w) (mg := mg) (base := base) F T C).mono (show 1 ≤ 2 by omega)
  have bBad : Binds K fd ["self", "what", "most"] [] := by
    obtain ⟨oc, od, an, kV, doc, pm, ct, cda, cc, osl, rfl, lk, hcd, T⟩ := TB.ei.ex
    exact .all fun us hl => match us, hl with | [_, _, _], _ => rfl
  have GBad := ok_tmInit (w := w) (mg := mg) (base := base) TB.ei TB.no1 TB.no2
  refine F.FUnfolded.okX scUnfolded (fun vs H Q E h => ?_) (fun cdv Ar outer s H vs Q E hr h => ?_)
  · obtain ⟨x, ps, rfl, _⟩ := h
    rfl
  · obtain ⟨f, ps, rfl, ⟨dx, q, l, hf, _⟩, hn, k⟩ := h
    have hr1 := hr
    refine ⟨_, (pss_cons (ps_expr (pe_call GNeedFolded hr1 rfl T.gNeedFolded T.kNeedFolded bNeedFolded vNeedFolded pass0 (pa_cons (pv 0) pa_nil)))
  (pss_cons (ps_if (pt_cmpR op_gt (pe_fld (pv 0) rfl) (pe_glob (v := .int 10000) rfl hMOSTEVENTS ⟨_, rfl⟩) (nomark _)) (pss_one (ps_raise rfl (takes_of rfl rfl rfl rfl) (pmk_oex TB.oex TB.ini TB.fn GBad hr1 bBad .nil pass0 rfl T.gTooMany (pa_cons pe_str (pa_cons (pe_glob (v := .int 10000) rfl hMOSTEVENTS ⟨_, rfl⟩) pa_nil))))) pss_nil)
  (pss_cons ps_never
  (pss_cons ps_never
  (pss_one ps_never))))), ?_⟩
    change tSeq _ _ _ [some (.ref f), none, none, none, none, none] _
    refine q_drop (v := .non) (ev_call (ea_cons (ev_var rfl) ea_nil) (fun H1 e Q q E => ⟨f, .str "row", _, _, rfl, e _ _ hf, fun H2 e2 => q H2 e2⟩)) fun H1 e1 => ?_
    refine q_when (b := true) (et_test (ev_is (ev_op (ev_fld (ev_var rfl) (e1 _ _ hf) C.clF (C.noF _ (by decide)) rfl) ev_c rv_I0) (congrArg V.bl (decide_eq_true (by omega))))) (fun _ H2 e2 => ?_) fun h => by cases h
    exact mk_ei2 fun d H3 e3 h3 => k d H3 (e1.trans (e2.trans e3)) h3
end

/-! ### the law's three words, in their order -/
def rkW (x : Str) : Int := if x = wGo then 0 else if x = wHit then 1 else 2
theorem rank_words : Rank [wGo, wHit, wUp] rkW := ⟨by decide +kernel, by decide +kernel⟩
theorem goldP_in (n : Nat) : inS [wGo, wHit, wUp] (goldP n) := fun p hp x hx => by
  have : p = [Im.ev wUp] ∨ p = [Im.ev wUp, Im.ev wHit] ∨ ∃ k, p = [Im.at (k + 1), Im.at k] := by
    simp only [goldP, List.mem_cons, List.mem_map] at hp
    rcases hp with h | h | ⟨k, _, h⟩
    · exact .inl h
    · exact .inr (.inl h)
    · exact .inr (.inr ⟨k, h.symm⟩)
  rcases this with rfl | rfl | ⟨k, rfl⟩
  · simp at hx; simp [hx]
  · simp at hx; rcases hx with rfl | rfl <;> simp
  · simp at hx
theorem rowP_in (b d : Nat) : inS [wGo, wHit, wUp] (rowP b d) := fun p hp x hx => by
  simp only [rowP, List.mem_cons, List.mem_map] at hp
  rcases hp with rfl | ⟨k, _, rfl⟩
  · simp at hx; simp [hx]
  · have := (List.mem_replicate.mp hx).2
    cases this
theorem markP_in (n : Nat) : inS [wGo, wHit, wUp] (markP n) := fun p hp x hx => by
  simp only [markP, List.mem_cons, List.mem_map] at hp
  rcases hp with rfl | ⟨k, _, rfl⟩
  · simp at hx; simp [hx]
  · simp at hx; simp [hx]
/-- two lists without copies, by their rank: they are one if they hold the same -/
theorem ranked_one {S : List Str} {ρ : Str → Int} (R : Rank S ρ) : ∀ {xs ys : List Str}, xs.Nodup → ys.Nodup → xs.Pairwise (fun x y => ρ x ≤ ρ y) → ys.Pairwise (fun x y => ρ x ≤ ρ y) → (∀ x ∈ xs, x ∈ S) → (∀ x ∈ ys, x ∈ S) → (∀ x, x ∈ xs ↔ x ∈ ys) → xs = ys
  | [], [], _, _, _, _, _, _, _ => rfl
  | [], y :: ys, _, _, _, _, _, _, h => by have := (h y).mpr (by simp); cases this
  | x :: xs, [], _, _, _, _, _, _, h => by have := (h x).mp (by simp); cases this
  | x :: xs, y :: ys, nx, ny, px, py, sx, sy, h => by
    rw [List.nodup_cons] at nx ny
    rw [List.pairwise_cons] at px py
    have e : x = y := by
      have h1 := (h x).mp (by simp)
      have h2 := (h y).mpr (by simp)
      rcases List.mem_cons.mp h1 with e | h1
      · exact e
      · rcases List.mem_cons.mp h2 with e | h2
        · exact e.symm
        · have a := px.1 y h2
          have b := py.1 x h1
          exact R.inj x (sx x (by simp)) y (sy y (by simp)) (Int.le_antisymm a b)
    subst e
    rw [ranked_one R nx.2 ny.2 px.2 py.2 (fun z hz => sx z (by simp [hz])) (fun z hz => sy z (by simp [hz])) fun z => ?_]
    have hz := h z
    simp only [List.mem_cons] at hz
    constructor
    · intro m
      rcases hz.mp (.inr m) with e | m2
      · subst e; exact absurd m nx.1
      · exact m2
    · intro m
      rcases hz.mpr (.inr m) with e | m2
      · subst e; exact absurd m ny.1
      · exact m2

section
variable {P : Program} {w : World} {K : PySem.W.Frag} {mg : Str → Option Value} {base : Heap} {A : Ad}
/-! ### data as it is told -/
def EvD (K : PySem.W.Frag) (te : TE) (σ : L2.St) (H : Hp) (d : PyData) : Prop := EvP te σ H fun v H' => Dp K H' v d
def EvDs (K : PySem.W.Frag) (ta : TA) (σ : L2.St) (H : Hp) (ds : List PyData) : Prop := EvPs ta σ H fun vs H' => DpAll K H' vs ds
theorem evd_of {σ : L2.St} {H : Hp} {te : TE} {v : V} {d : PyData} (h : Ev te σ H v) (hd : Dp K H v d) : EvD K te σ H d := EvP.is h fun H1 e => Dp.ext e hd
theorem evd_int {σ : L2.St} {H : Hp} {te : TE} {i : Int} (h : Ev te σ H (.int i)) : EvD K te σ H (.int i) := evd_of h (.int i)
theorem evd_str {σ : L2.St} {H : Hp} {te : TE} {x : Str} (h : Ev te σ H (.str x)) : EvD K te σ H (.str x) := evd_of h (.str x)
theorem evds_nil {σ : L2.St} {H : Hp} : EvDs K tNil σ H [] := ep_nil.imp fun vs H1 _ h => by rw [h]; exact .nil
theorem evds_cons {σ : L2.St} {H : Hp} {te : TE} {ta : TA} {d : PyData} {ds : List PyData} (h : EvD K te σ H d) (hr : EvDs K ta σ H ds) : EvDs K (tCons te ta) σ H (d :: ds) := (ep_cons (P := fun v H' => Dp K H' v d) (Ps := fun vs H' => DpAll K H' vs ds) (fun v H1 H2 e p => Dp.ext e p) h hr).imp fun vs H1 _ ⟨u, us, h1, h2, h3⟩ => by
  rw [h1]
  exact .cons h2 h3
theorem evd_tup {σ : L2.St} {H : Hp} {ta : TA} {ds : List PyData} (h : EvDs K ta σ H ds) (hl : ds.length ≤ 100000) : EvD K (tTup ta) σ H (.tuple ds) := (ep_tup (Ps := fun vs H' => DpAll K H' vs ds) h (fun vs H1 p => by rw [DpAll.length p]; exact hl) fun vs H1 H2 e p => DpAll.ext e p).imp fun v H1 _ ⟨p, vs, h1, _, h2, h3⟩ => by
  rw [h1]
  exact .tup (st_of h2) h3
/-- one != other, of the same data -/
theorem et_sameD {σ : L2.St} {H : Hp} {ta tb : TE} {d : PyData} (h : EvD K ta σ H d) (k : EvD K tb σ H d) (sd : SeqAt.shaped d = true) : EvT (tTest (tOp (rNeD K) ta tb)) σ H false := fun H1 e Q q =>
  h H1 e _ fun u H2 e2 pu => k H2 (e.trans e2) _ fun v H3 e3 pv => ⟨d, d, Dp.ext e3 pu, pv, sd, sd, false, by
    have sl : d.canLay0 = true := (Bool.and_eq_true _ _ ▸ (show (d.canLay0 && decide (d.depth ≤ 64)) = true from sd) : d.canLay0 = true ∧ _).1
    rw [SeqAt.eqv_refl _ sl]
    rfl, q H3 (e2.trans e3)⟩
/-! ### lists of parts, made anew -/
def PinN (H : Hp) (a : Addr) (ps : List (List Im)) : Prop := ∃ us, H a = some (.lst us) ∧ us.length = ps.length ∧ ∀ (i : Nat) (p : List Im), ps[i]? = some p → ∃ b : Addr, us[i]? = some (V.ref b) ∧ H b = some (.lst (p.map Im.v))
theorem PinN.up {H H' : Hp} {a : Addr} {ps : List (List Im)} (e : Ex H H') (h : PinN H a ps) : PinN H' a ps := by
  obtain ⟨us, h1, h2, h3⟩ := h
  refine ⟨us, e _ _ h1, h2, fun i p hi => ?_⟩
  obtain ⟨b, h4, h5⟩ := h3 i p hi
  exact ⟨b, h4, e _ _ h5⟩
theorem PinN.pin {H : Hp} {a : Addr} {ps : List (List Im)} (h : PinN H a ps) : PinAt K H a ps := by
  obtain ⟨us, h1, h2, h3⟩ := h
  refine ⟨us, sq_of h1, h2, fun i p hi => ?_⟩
  obtain ⟨b, h4, h5⟩ := h3 i p hi
  exact ⟨b, h4, sq_of h5⟩
def NewPin (ps : List (List Im)) : V → Hp → Prop := fun v H => ∃ a, v = .ref a ∧ PinN H a ps
theorem NewPin.up {ps : List (List Im)} : Up (NewPin ps) := fun v H H' e ⟨a, h1, h2⟩ => ⟨a, h1, h2.up e⟩
/-- a written list of lists -/
def Rws (ps : List (List Im)) : List V → Hp → Prop := fun us H => us.length = ps.length ∧ ∀ (i : Nat) (p : List Im), ps[i]? = some p → ∃ b : Addr, us[i]? = some (V.ref b) ∧ H b = some (.lst (p.map Im.v))
theorem Rws.up {ps : List (List Im)} : Up (Rws ps) := fun us H H' e ⟨h1, h2⟩ => ⟨h1, fun i p hi => by
  obtain ⟨b, h4, h5⟩ := h2 i p hi
  exact ⟨b, h4, e _ _ h5⟩⟩
theorem rws_nil {σ : L2.St} {H : Hp} : EvPs tNil σ H (Rws []) := ep_nil.imp fun vs H1 _ h => by
  subst h
  exact ⟨rfl, fun i p hi => by simp at hi⟩
theorem rws_cons {σ : L2.St} {H : Hp} {te : TE} {ta : TA} {p : List Im} {ps : List (List Im)} (h : EvL te σ H (p.map Im.v)) (hr : EvPs ta σ H (Rws ps)) : EvPs (tCons te ta) σ H (Rws (p :: ps)) :=
  (ep_cons (P := fun v H' => ∃ b, v = .ref b ∧ H' b = some (.lst (p.map Im.v))) (fun v H1 H2 e ⟨b, h1, h2⟩ => ⟨b, h1, e _ _ h2⟩) ((EvP.ofL h).imp fun v H1 _ ⟨b, h1, _, h2⟩ => ⟨b, h1, h2⟩) hr).imp fun vs H1 _ ⟨u, us, h1, ⟨b, h2, h3⟩, h4, h5⟩ => by
    subst h1 h2
    refine ⟨by simp [h4], fun i q hi => ?_⟩
    cases i with
    | zero =>
      cases hi
      exact ⟨b, rfl, h3⟩
    | succ i => exact h5 i q hi
theorem rws_lst {σ : L2.St} {H : Hp} {ta : TA} {ps : List (List Im)} (h : EvPs ta σ H (Rws ps)) (hl : ps.length ≤ 100000) : EvP (tLst ta) σ H (NewPin ps) :=
  (ep_lst h (fun vs H1 p => by rw [p.1]; exact hl) Rws.up).imp fun v H1 _ ⟨p, vs, h1, _, h2, h3, h4⟩ => ⟨p, h1, vs, h2, h3, h4⟩
theorem pin_cat {σ : L2.St} {H : Hp} {ta tb : TE} {ps qs : List (List Im)} (h : EvP ta σ H (NewPin ps)) (k : EvP tb σ H (NewPin qs)) (hl : ps.length + qs.length ≤ 100000) : EvP (tOp rCat ta tb) σ H (NewPin (ps ++ qs)) :=
  ep_op NewPin.up h k fun x y H1 e ⟨a, h1, us, h2, h3, h4⟩ ⟨b, k1, vs, k2, k3, k4⟩ Q q => ⟨a, b, us, vs, h1, k1, h2, k2, sz_of (by rw [h3, k3]; exact hl), fun p hn => q (.ref p) _ (Ex.new hn) ⟨p, rfl, us ++ vs, upd_same, by simp [h3, k3], fun i r hi => by
    by_cases hlt : i < ps.length
    · rw [List.getElem?_append_left hlt] at hi
      obtain ⟨c, g1, g2⟩ := h4 i r hi
      exact ⟨c, by rw [List.getElem?_append_left (by omega)]; exact g1, Ex.new hn _ _ g2⟩
    · rw [List.getElem?_append_right (by omega)] at hi
      obtain ⟨c, g1, g2⟩ := k4 _ r hi
      exact ⟨c, by rw [List.getElem?_append_right (by omega), h3]; exact g1, Ex.new hn _ _ g2⟩⟩⟩
/-- [.. for at in range(n)] -/
theorem pin_rng {σ : L2.St} {H : Hp} {ta : TA} {te : TE} {n : Int} {j : Nat} {vs : List Nat} (f : Nat → List Im) (h : EvA ta σ H [.int n]) (hn : 0 ≤ n ∧ n ≤ 40000) (hw : ∀ x, wipe ((wipe σ vs).set j (some x)) vs = wipe σ vs)
    (he : ∀ (i : Nat) H1, Ex H H1 → (i : Int) < n → EvL te ((wipe σ vs).set j (some (.int (i : Int)))) H1 ((f i).map Im.v)) : EvP (tLc (iRng1 ta) (gName j) tYes te vs) σ H (NewPin ((List.range n.toNat).map f)) := fun H0 e0 Q q =>
  h H0 e0 _ fun H1 e1 => ⟨n, rfl, by omega, by omega, ep_lc (H := H1) (walk_range (lo := 0) (n := n.toNat)) (fun i => .int ((i : Nat) : Int)) (fun i u H2 => ∃ b, u = .ref b ∧ H2 b = some (.lst ((f i).map Im.v))) (fun _ _ => trivial)
    (fun i H2 x H3 hi e y => by
      obtain ⟨y1, y2⟩ := y
      exact ⟨y1, by rw [y2]; simp⟩) (by omega) hw (fun i u Ha Hb e ⟨b, g1, g2⟩ => ⟨b, g1, e _ _ g2⟩)
    (fun i H2 D acc hi e2 hD hD2 H3 e3 Q3 q3 => he i H2 ((e0.trans e1).trans e2) (by omega) H3 e3 _ fun p H4 hp e4 h4 => q3 (.ref p) H4 e4 ⟨p, rfl, by
      have hne : p ≠ D := fun z => by rw [z, e3 _ _ hD2] at hp; cases hp
      rw [hide_get hne]
      exact h4⟩) Q fun D H2 hD e2 ⟨acc, h1, h2, h3⟩ => q (.ref D) H2 (e1.trans e2) ⟨D, rfl, acc, h1, by rw [h2]; simp, fun i p hi => by
        have hi2 : i < n.toNat := by
          have := (List.getElem?_eq_some_iff.mp hi).1
          simpa using this
        have hp : f i = p := by simpa [hi2] using hi
        have hlt : i < acc.length := by omega
        obtain ⟨b, g1, g2⟩ := h3 i _ (List.getElem?_eq_getElem hlt)
        subst hp
        exact ⟨b, by rw [List.getElem?_eq_getElem hlt, g1], hide_ext D H2 _ _ g2⟩⟩⟩
/-- [x] * n -/
theorem el_rep1 {σ : L2.St} {H : Hp} {te tn : TE} {v : V} {n : Int} (h : Ev te σ H v) (hn : Ev tn σ H (.int n)) (h0 : 0 ≤ n ∧ n ≤ 100000) : EvL (tOp rRep (tLst (tCons te tNil)) tn) σ H (List.replicate n.toNat v) := fun H1 e Q q =>
  el_lst (vs := [v]) (ea_cons h ea_nil) (by simp) H1 e _ fun p H2 hp e2 h2 => hn H2 (e.trans e2) _ fun H3 e3 => ⟨p, n, [v], rfl, rfl, e3 _ _ h2, by omega, by omega, by
    have : n.toNat ≤ 100000 := by omega
    exact sz_of (by simpa using this), fun r hr => q r _ (fresh_back (e2.trans e3) hr) ((e2.trans e3).trans (Ex.new hr)) (by
    rw [upd_same]
    congr 2
    generalize n.toNat = m
    induction m with
    | zero => rfl
    | succ m ih => rw [List.replicate_succ, List.replicate_succ, List.flatten_cons, ih]; rfl)⟩
theorem map_rep {p : List Im} {n : Nat} {it : Im} (h : p = List.replicate n it) : p.map Im.v = List.replicate n it.v := by rw [h, List.map_replicate]
end

section
variable {P : Program} {w : World} {K : PySem.W.Frag} {mg : Str → Option Value} {base : Heap} {A : Ad}
/-! ### what the law asks of a row -/
abbrev W3 : List Str := [wGo, wHit, wUp]
def FolV (K : PySem.W.Frag) (A : Ad) (ps : List (List Im)) : V → Hp → Prop := fun v H => ∃ f, v = .ref f ∧ FolAt K A H f ps
theorem FolV.up {ps : List (List Im)} : Up (FolV K A ps) := fun v H H' e ⟨f, h1, h2⟩ => ⟨f, h1, h2.up e⟩
/-- a row that tells these events -/
def FolU (K : PySem.W.Frag) (A : Ad) (L : List Str) : V → Hp → Prop := fun v H => ∃ f ps, v = .ref f ∧ FolAt K A H f ps ∧ OkRow ps ∧ unf1 ps (ps.length - 1) = L ∧ inS W3 ps
theorem FolU.up {L : List Str} : Up (FolU K A L) := fun v H H' e ⟨f, ps, h1, h2, h3⟩ => ⟨f, ps, h1, h2.up e, h3⟩
def FolW (K : PySem.W.Frag) (A : Ad) (L : List Str) : V → Hp → Prop := fun v H => ∃ f ps, v = .ref f ∧ FolAt K A H f ps ∧ OkRow ps ∧ unf1 ps (ps.length - 1) = L
theorem FolW.up {L : List Str} : Up (FolW K A L) := fun v H H' e ⟨f, ps, h1, h2, h3⟩ => ⟨f, ps, h1, h2.up e, h3⟩
theorem ep_w {σ : L2.St} {H : Hp} {te : TE} {L : List Str} (h : EvP te σ H (FolU K A L)) : EvP te σ H (FolW K A L) := h.imp fun v H1 _ ⟨f, ps, h1, h2, h3, h4, _⟩ => ⟨f, ps, h1, h2, h3, h4⟩
theorem FolV.u {ps : List (List Im)} {L : List Str} {v : V} {H : Hp} (h : FolV K A ps v H) (ho : OkRow ps) (hl : unf1 ps (ps.length - 1) = L) (hs : inS W3 ps) : FolU K A L v H := by
  obtain ⟨f, h1, h2⟩ := h
  exact ⟨f, ps, h1, h2, ho, hl, hs⟩
theorem ep_call1 {σ : L2.St} {H : Hp} {te : TE} {sp : Sp} {dvs : List V} {E : XK} {P0 R : V → Hp → Prop} (h : EvP te σ H P0) (hs : ∀ v H1, Ex H H1 → P0 v H1 → ∀ Q : VK, (∀ r H2, Ex H1 H2 → R r H2 → Q r H2) → sp ([v] ++ dvs) H1 Q E) : EvP (tCall sp dvs E (tCons te tNil)) σ H R := fun H1 e Q q =>
  h H1 e _ fun v H2 e2 p => hs v H2 (e.trans e2) p Q fun r H3 e3 => q r H3 (e2.trans e3)
theorem ep_call2 {σ : L2.St} {H : Hp} {te tn : TE} {sp : Sp} {dvs : List V} {E : XK} {x : V} {P0 R : V → Hp → Prop} (up : Up P0) (h : EvP te σ H P0) (hn : Ev tn σ H x) (hs : ∀ v H1, Ex H H1 → P0 v H1 → ∀ Q : VK, (∀ r H2, Ex H1 H2 → R r H2 → Q r H2) → sp ([v, x] ++ dvs) H1 Q E) : EvP (tCall sp dvs E (tCons te (tCons tn tNil))) σ H R := fun H1 e Q q =>
  h H1 e _ fun v H2 e2 p => hn H2 (e.trans e2) _ fun H3 e3 => hs v H3 (e.trans (e2.trans e3)) (up v H2 H3 e3 p) Q fun r H4 e4 => q r H4 (e2.trans (e3.trans e4))
theorem fol_make {σ : L2.St} {H : Hp} {te : TE} {E : XK} {ps : List (List Im)} (h : EvP te σ H (NewPin ps)) (ho : OkRow ps) : EvP (tMake A.cFolded (spFInit K A) [] E (tCons te tNil)) σ H (FolV K A ps) :=
  ep_makeF (h.imp fun v H1 _ ⟨a, h1, h2⟩ => ⟨a, h1, h2.pin⟩) ho
theorem ev_lenF {σ : L2.St} {H : Hp} {te : TE} {L : List Str} (C : CF K A) (h : EvP te σ H (FolW K A L)) : Ev (tFld K te "length") σ H (.int ((L.length : Nat) : Int)) := fun H1 e Q q =>
  h H1 e _ fun v H2 e2 ⟨f, ps, hv, ⟨dx, qa, l, hf, _⟩, ho, hl⟩ => by
    have e3 : len1 ps (ps.length - 1) = L.length := by
      rw [← unf_len ho.ok (ps.length - 1 + 1) (ps.length - 1) (Nat.lt_succ_self _), hl]
    rw [e3] at hf
    exact ⟨f, A.cFolded, dx, _, _, hv, hf, C.clF, C.noF _ (by decide), rfl, q H2 e2⟩
theorem evd_counted {σ : L2.St} {H : Hp} {te : TE} {E : XK} {L zs : List Str} (h : EvP te σ H (FolU K A L)) (nz : zs.Nodup) (mz : ∀ x, x ∈ zs ↔ x ∈ L) (pz : zs.Pairwise (fun x y => rkW x ≤ rkW y)) (sz : ∀ x ∈ zs, x ∈ W3) :
    EvD K (tCall (spCounted K A W3 rkW) [] E (tCons te tNil)) σ H (.tuple (zs.map fun x => .tuple [.str x, .int ((L.count x : Nat) : Int)])) :=
  ep_call1 h fun v H1 e1 ⟨f, ps, hv, hf, ho, hl, hin⟩ Q q => ⟨f, ps, by rw [hv]; rfl, hf, ho, hin, by decide, fun t ys ws H2 e2 nw mw pw ht hy hat => by
    rw [hl] at mw hat
    have e : ws = zs := ranked_one rank_words nw nz pw pz (fun x hx => sz x ((mz x).mpr ((mw x).mp hx))) sz fun x => (mw x).trans (mz x).symm
    subst e
    refine q (.ref t) H2 e2 (.tup (st_of ht) (dpall_of (by rw [List.length_map]; exact hy) fun j u d h1 h2 => ?_))
    rw [List.getElem?_map, Option.map_eq_some_iff] at h2
    obtain ⟨x, h3, rfl⟩ := h2
    obtain ⟨b, h4, h5⟩ := hat j x h3
    rw [h4] at h1
    cases h1
    exact .tup (st_of h5) (.cons (.str x) (.cons (.int _) .nil))⟩
theorem ev_eventAt {σ : L2.St} {H : Hp} {te tn : TE} {E : XK} {L : List Str} {n : Nat} {x : Str} (h : EvP te σ H (FolW K A L)) (hn : Ev tn σ H (.int ((n : Nat) : Int))) (hx : L[n]? = some x) : Ev (tCall (spEventAt K A) [] E (tCons te (tCons tn tNil))) σ H (.str x) :=
  EvP.ev (ep_call2 FolW.up h hn fun v H1 e1 ⟨f, ps, hv, hf, ho, hl⟩ Q q => ⟨f, ps, n, x, by rw [hv]; rfl, hf, ho, by rw [hl]; exact hx, fun H2 e2 => q _ H2 e2 rfl⟩)
theorem fol_first {σ : L2.St} {H : Hp} {te tn : TE} {E : XK} {L : List Str} {n : Nat} (h : EvP te σ H fun v H1 => ∃ ps, FolV K A ps v H1 ∧ OkRow ps ∧ unf1 ps (ps.length - 1) = L ∧ inS W3 ps ∧ ps.length < 2000 ∧ (ps.map List.length).sum ≤ 10000) (hn : Ev tn σ H (.int ((n : Nat) : Int))) (hl : n ≤ L.length) :
    EvP (tCall (spFirstOf K A) [] E (tCons te (tCons tn tNil))) σ H (FolU K A (L.take n)) :=
  ep_call2 (fun v H H' e ⟨ps, h1, h2⟩ => ⟨ps, FolV.up v H H' e h1, h2⟩) h hn fun v H1 e1 ⟨ps, ⟨f, hv, hf⟩, ho, hu, hin, l1, l2⟩ Q q => ⟨f, ps, n, by rw [hv]; rfl, hf, ho, by rw [← unf_len ho.ok (ps.length - 1 + 1) (ps.length - 1) (Nat.lt_succ_self _), hu]; exact hl, l1, l2, fun f' H2 qs e2 ho2 hf2 hu2 hS => q _ H2 e2 ⟨f', qs, rfl, hf2, ho2, by rw [hu2, hu], hS W3 hin⟩⟩
theorem fol_firstW {σ : L2.St} {H : Hp} {te tn : TE} {E : XK} {L : List Str} {n : Nat} (h : EvP te σ H fun v H1 => ∃ ps, FolV K A ps v H1 ∧ OkRow ps ∧ unf1 ps (ps.length - 1) = L ∧ ps.length < 2000 ∧ (ps.map List.length).sum ≤ 10000) (hn : Ev tn σ H (.int ((n : Nat) : Int))) (hl : n ≤ L.length) :
    EvP (tCall (spFirstOf K A) [] E (tCons te (tCons tn tNil))) σ H (FolW K A (L.take n)) :=
  ep_call2 (fun v H H' e ⟨ps, h1, h2⟩ => ⟨ps, FolV.up v H H' e h1, h2⟩) h hn fun v H1 e1 ⟨ps, ⟨f, hv, hf⟩, ho, hu, l1, l2⟩ Q q => ⟨f, ps, n, by rw [hv]; rfl, hf, ho, by rw [← unf_len ho.ok (ps.length - 1 + 1) (ps.length - 1) (Nat.lt_succ_self _), hu]; exact hl, l1, l2, fun f' H2 qs e2 ho2 hf2 hu2 hS => q _ H2 e2 ⟨f', qs, rfl, hf2, ho2, by rw [hu2, hu]⟩⟩
theorem fol_unfolded {σ : L2.St} {H : Hp} {te : TE} {E : XK} {L : List Str} (h : EvP te σ H (FolW K A L)) (hl : L.length ≤ 10000) : EvP (tCall (spUnfolded K A) [] E (tCons te tNil)) σ H fun v H1 => ∃ t, v = .ref t ∧ H1 t = some (.tup (L.map V.str)) :=
  ep_call1 h fun v H1 e1 ⟨f, ps, hv, hf, ho, hu⟩ Q q => ⟨f, ps, by rw [hv]; rfl, hf, ho, by rw [← unf_len ho.ok (ps.length - 1 + 1) (ps.length - 1) (Nat.lt_succ_self _), hu]; exact hl, fun t H2 e2 ht => q _ H2 e2 ⟨t, rfl, by rw [← hu]; exact ht⟩⟩
/-! a draw leaves rows as they are -/
theorem SameP.sqt {p a : Addr} {H H' : Hp} {ls xs : List V} (sm : SameP p H H') (hp : H p = some (.lst ls)) (h : SqT K H a xs) : SqT K H' a xs := by
  rcases h with (h | ⟨o, h⟩) | h
  · exact st_of (sm.ob a _ (fun e => by rw [e, hp] at h; cases h) h)
  · exact .inl (.inr ⟨o, sm.ob a _ (fun e => by rw [e, hp] at h; cases h) h⟩)
  · exact .inr h
theorem SameP.fol {p f : Addr} {H H' : Hp} {ls : List V} {ps : List (List Im)} (sm : SameP p H H') (hp : H p = some (.lst ls)) (h : FolAt K A H f ps) : FolAt K A H' f ps := by
  obtain ⟨dx, q, l, hf, ⟨us, hq, hul, hat⟩, hl⟩ := h
  refine ⟨dx, q, l, sm.ob f _ (fun e => by rw [e, hp] at hf; cases hf) hf, ⟨us, sm.sqt hp hq, hul, fun i p hi => ?_⟩, sm.sqt hp hl⟩
  obtain ⟨a, h1, h2⟩ := hat i p hi
  exact ⟨a, h1, sm.sqt hp h2⟩
theorem PenOk.lst {H : Hp} {p : Addr} {b : Nat} (h : PenOk H p b) : ∃ ls, H p = some (.lst ls) := by
  obtain ⟨c, ns, lap, g, h1, _⟩ := h
  exact ⟨_, h1⟩
/-- a number and what is drawn -/
theorem draw_in {σ : L2.St} {H : Hp} {E : XK} {p : Addr} {i : Nat} {m : Int} {b : Nat} {Q : VK} (hs : σ[i]? = some (some (.ref p))) (hp : PenOk H p (b + 1)) (hm : 0 < m ∧ m < 1073741824) (k : ∀ (r : Int) H1, 0 ≤ r → r < m → SameP p H H1 → PenOk H1 p b → Q (.int r) H1) : tCall spDraw [] E (tCons (tVar i) (tCons (tC (.int m)) tNil)) σ H Q :=
  ⟨_, hs, p, m, b, rfl, hm.1, hm.2, hp, fun r H1 h0 h1 sm hp1 => k r H1 h0 h1 sm hp1⟩
end

section
variable {A : Ad}
/-! ### what a call answers, or the kind of its error -/
structure HX (K : PySem.W.Frag) (A : Ad) : Prop where
  ex1 : PySem.W.exmOne K (.ref A.cBadValue) (.ref A.cChartError) = some true
  ex2 : PySem.W.exmOne K (.ref A.cTooMany) (.ref A.cChartError) = some true
  eB : ExcC K A.cBadValue
  eT : ExcC K A.cTooMany
  xB : XfC K A.cBadValue
  xT : XfC K A.cTooMany
  noP : PySem.W.findIn K (.ref A.cBadValue) "part" = some none
  noW : PySem.W.findIn K (.ref A.cTooMany) "what" = some none
  noM : PySem.W.findIn K (.ref A.cTooMany) "most" = some none
  kBT : PySem.W.kitOne K (.ref A.cBadValue) (.ref A.cTooMany) = some false
  kBN : PySem.W.kitOne K (.ref A.cBadValue) (.ref A.cNoName) = some false
  kBB : PySem.W.kitOne K (.ref A.cBadValue) (.ref A.cBadValue) = some true
  kTT : PySem.W.kitOne K (.ref A.cTooMany) (.ref A.cTooMany) = some true
  ne : A.cBadValue ≠ A.cTooMany
/-- what is kept of what is raised, and what is answered then -/
def Eh (A : Ad) (Q : VK) : XK := fun cls d H =>
  (cls = .ref A.cBadValue ∧ ∃ dd v, d = some dd ∧ H dd = some (.xd [("part", v)]) ∧ ∀ t H2, Ex H H2 → H2 t = some (.tup [.str "value", v]) → Q (.ref t) H2) ∨
  (cls = .ref A.cTooMany ∧ ∃ dd u v, d = some dd ∧ H dd = some (.xd [("most", u), ("what", v)]) ∧ ∀ t H2, Ex H H2 → H2 t = some (.tup [.str "many", v, u]) → Q (.ref t) H2)
theorem ev_xf {σ : L2.St} {H : Hp} {te : TE} {a C dd : Addr} {fs : List (Str × V)} {n : Str} {v : V} (h : Ev te σ H (.ref a)) (hd : H dd = some (.xd fs)) (hl : fs.lookup n = some v) : Ev (tXf a (.ref C) (some dd) C n te) σ H v := fun H1 e Q q =>
  h H1 e _ fun H2 e2 => ⟨rfl, rfl, dd, fs, v, rfl, (e.trans e2) _ _ hd, hl, q H2 e2⟩
theorem ev_isK {K : PySem.W.Frag} {σ : L2.St} {H : Hp} {a C C' dd : Addr} {fs : List (Str × V)} {b : Bool} {i : Nat} (h : σ[i]? = some (some (.ref a))) (hd : H dd = some (.xd fs)) (x : ExcC K C) (k : PySem.W.kitOne K (.ref C) (.ref C') = some b) : Ev (tCB (rIsK K a C (some dd)) (tCons (tVar i) (tCons (tC (.ref C')) tNil))) σ H (.bl b) :=
  ev_cb (ea_cons (ev_var h) (ea_cons ev_c ea_nil)) fun H1 e Q q => ⟨C', b, rfl, fun d2 e2 => by cases e2; exact ⟨fs, e _ _ hd⟩, x, k, q H1 (Ex.refl H1)⟩
abbrev ZH (X : Cx) (g : Addr) (cdg : Value) (s : Shared) (H : Hp) : Cx := (cxOf C8.CX0 X.prog X.w X.K X.mg X.base ["ask", "caught", "found", "error"] "_law_dp_heard" (defScope sHeard) g cdg X.A X.stack s H C8.E0).nox
theorem rest_B {X : Cx} {g : Addr} {cdg : Value} {s : Shared} {H : Hp} (T : T10 X.mg X.K A) (C : HX X.K A) : ∃ tB : Addr → Option Addr → TS, (∀ (a : Addr) (oe : Obj) (d : Option Addr) (pn : List (Addr × Obj)), Zc (.ref A.cBadValue) d oe → (∃ vs, oe.data = .fields vs) → PSs ((ZH X g cdg s H).tr ((a, oe) :: pn) (ZH X g cdg s H).xe) ((defBody sHeard).drop 2) (tB a d)) ∧
    ∀ (a dd : Addr) (v : V) (s0 s2 s3 : Option V) (H1 : Hp) (D : Ends), H1 dd = some (.xd [("part", v)]) → (∀ t H2, Ex H1 H2 → H2 t = some (.tup [.str "value", v]) → D.rt (.ref t) H2) → tB a (some dd) D [s0, some (.ref a), s2, s3] H1 := by
  refine ⟨fun a d => _, fun a oe d pn hz hf => (pss_cons (ps_if (pt_cmpR op_isN (pv 1) pe_non (nomark _)) (pss_one ps_never) pss_nil) (pss_cons (ps_if (pt_val (pe_callB (call_isK hz rfl hf) (by rfl) T.b_isinstance (by decide +kernel) (pa_cons (pv 1) (pa_cons (pe_glob (v := .ref A.cTooMany) rfl T.gTooMany rfl) pa_nil)))) (pss_one ps_never) pss_nil) (pss_cons (ps_if (pt_val (pe_callB (call_isK hz rfl hf) (by rfl) T.b_isinstance (by decide +kernel) (pa_cons (pv 1) (pa_cons (pe_glob (v := .ref A.cNoName) rfl T.gNoName rfl) pa_nil)))) (pss_one ps_never) pss_nil) (pss_cons (ps_if (pt_val (pe_callB (call_isK hz rfl hf) (by rfl) T.b_isinstance (by decide +kernel) (pa_cons (pv 1) (pa_cons (pe_glob (v := .ref A.cBadValue) rfl T.gBadValue rfl) pa_nil)))) (pss_one (ps_ret (pe_tup (pa_cons pe_str (pa_cons (pe_xfK C.xB C.noP hz hf (pv 1)) pa_nil))))) pss_nil) (pss_cons ps_never (pss_one ps_never)))))), fun a dd v s0 s2 s3 H1 D hd k => ?_⟩
  refine q_when (b := false) (et_test (ev_is (ev_op (ev_var rfl) ev_c rv_isN) (by simp))) (fun h => by cases h) fun _ H2 e2 => ?_
  refine q_when (b := false) (et_B (ev_isK rfl (e2 _ _ hd) C.eB C.kBT)) (fun h => by cases h) fun _ H3 e3 => ?_
  refine q_when (b := false) (et_B (ev_isK rfl (e3 _ _ (e2 _ _ hd)) C.eB C.kBN)) (fun h => by cases h) fun _ H4 e4 => ?_
  refine q_when (b := true) (et_B (ev_isK rfl (e4 _ _ (e3 _ _ (e2 _ _ hd))) C.eB C.kBB)) (fun _ H5 e5 => ?_) fun h => by cases h
  exact s_retU (eu_tup (ea_cons ev_c (ea_cons (ev_xf (ev_var rfl) (e5 _ _ (e4 _ _ (e3 _ _ (e2 _ _ hd)))) rfl) ea_nil)) (by simp)) fun t H6 ht e6 h6 => k t H6 (e2.trans (e3.trans (e4.trans (e5.trans e6)))) h6
theorem rest_T {X : Cx} {g : Addr} {cdg : Value} {s : Shared} {H : Hp} (T : T10 X.mg X.K A) (C : HX X.K A) : ∃ tB : Addr → Option Addr → TS, (∀ (a : Addr) (oe : Obj) (d : Option Addr) (pn : List (Addr × Obj)), Zc (.ref A.cTooMany) d oe → (∃ vs, oe.data = .fields vs) → PSs ((ZH X g cdg s H).tr ((a, oe) :: pn) (ZH X g cdg s H).xe) ((defBody sHeard).drop 2) (tB a d)) ∧
    ∀ (a dd : Addr) (u v : V) (s0 s2 s3 : Option V) (H1 : Hp) (D : Ends), H1 dd = some (.xd [("most", u), ("what", v)]) → (∀ t H2, Ex H1 H2 → H2 t = some (.tup [.str "many", v, u]) → D.rt (.ref t) H2) → tB a (some dd) D [s0, some (.ref a), s2, s3] H1 := by
  refine ⟨fun a d => _, fun a oe d pn hz hf => (pss_cons (ps_if (pt_cmpR op_isN (pv 1) pe_non (nomark _)) (pss_one ps_never) pss_nil) (pss_cons (ps_if (pt_val (pe_callB (call_isK hz rfl hf) (by rfl) T.b_isinstance (by decide +kernel) (pa_cons (pv 1) (pa_cons (pe_glob (v := .ref A.cTooMany) rfl T.gTooMany rfl) pa_nil)))) (pss_one (ps_ret (pe_tup (pa_cons pe_str (pa_cons (pe_xfK C.xT C.noW hz hf (pv 1)) (pa_cons (pe_xfK C.xT C.noM hz hf (pv 1)) pa_nil)))))) pss_nil) (pss_cons ps_never (pss_cons ps_never (pss_cons ps_never (pss_one ps_never)))))), fun a dd u v s0 s2 s3 H1 D hd k => ?_⟩
  refine q_when (b := false) (et_test (ev_is (ev_op (ev_var rfl) ev_c rv_isN) (by simp))) (fun h => by cases h) fun _ H2 e2 => ?_
  refine q_when (b := true) (et_B (ev_isK rfl (e2 _ _ hd) C.eT C.kTT)) (fun _ H5 e5 => ?_) fun h => by cases h
  exact s_retU (eu_tup (ea_cons ev_c (ea_cons (ev_xf (ev_var rfl) (e5 _ _ (e2 _ _ hd)) rfl) (ea_cons (ev_xf (ev_var rfl) (e5 _ _ (e2 _ _ hd)) rfl) ea_nil))) (by simp)) fun t H6 ht e6 h6 => k t H6 (e2.trans (e5.trans e6)) h6
open Classical in
theorem gives_heard {X : Cx} {g : Addr} {cdg : Value} (T : T10 X.mg X.K A) (C : HX X.K A) : GivesW X ["ask", "caught", "found", "error"] "_law_dp_heard" (defScope sHeard) g cdg (defBody sHeard) "ask" (fun tl H Q => ∀ H2, Ex H H2 → ∀ Q', tl (Eh A Q) H2 Q') := by
  intro f φ s H Q tl hPE hup hφ htl
  obtain ⟨tB, b1, b2⟩ := rest_B (g := g) (cdg := cdg) (s := s) (H := H) T C
  obtain ⟨tT, t1, t2⟩ := rest_T (g := g) (cdg := cdg) (s := s) (H := H) T C
  refine ⟨_, pss_cons (ps_asg (pe_tup (pa_cons pe_non (pa_cons pe_non pa_nil))) (pg_tup rfl (pgs_cons (pg_name (i := 1) scHeard.nd rfl (Or.inl rfl)) (pgs_cons (pg_name (i := 2) scHeard.nd rfl (Or.inl rfl)) pgs_nil))))
    (pss_tryK (i := 3) (c := .ref A.cChartError) (Wout := fun _ _ _ _ => False) (t2 := fun a cls d => if cls = .ref A.cBadValue then tB a d else if cls = .ref A.cTooMany then tT a d else (fun _ _ _ => False)) rfl rfl scHeard.nd rfl rfl ⟨rfl, rfl, .inl T.gChartError⟩ (fun u s' x => by obtain ⟨_, _, _, _, _, _, _, _, _, _, _, _, _, _, _, _, w⟩ := x; exact w.elim)
      (fun W pn xe tk _ => pss_one (ps_set (i := 2) scHeard.nd rfl (Or.inl rfl) (hPE W pn xe (Eh A Q) _ _ tk)))
      (fun a oe cls d pn hz hf => pss_one (ps_set (i := 1) scHeard.nd rfl (Or.inl rfl) (pv 3)))
      (pss_cons ps_never (pss_cons ps_never (pss_cons ps_never (pss_cons ps_never (pss_cons ps_never (pss_one ps_never))))))
      (fun a oe cls d pn hz hf => by
        by_cases hB : cls = .ref A.cBadValue
        · subst hB
          rw [if_pos rfl]
          exact b1 a oe d pn hz hf
        · rw [if_neg hB]
          by_cases hT : cls = .ref A.cTooMany
          · subst hT
            rw [if_pos rfl]
            exact t1 a oe d pn hz hf
          · rw [if_neg hT]
            exact pss_cons ps_never (pss_cons ps_never (pss_cons ps_never (pss_cons ps_never (pss_cons ps_never (pss_one ps_never)))))
        )), ?_⟩
  refine q_aspG (EvP.ofU (eu_tup (vs := [.non, .non]) (ea_cons ev_c (ea_cons ev_c ea_nil)) (by simp))) fun v H2 e2 hv => ?_
  obtain ⟨p, rfl, hp, h2⟩ := hv
  refine ⟨p, _, rfl, st_of h2, rfl, _, _, rfl, _, _, rfl, rfl, ?_⟩
  refine ⟨rfl, hup H H2 e2 hφ, fun cls d H3 he => ?_, htl H2 e2 _⟩
  rcases he with ⟨rfl, dd, v, rfl, hd, k⟩ | ⟨rfl, dd, u, v, rfl, hd, k⟩
  · refine ⟨true, C.ex1, fun _ a ha => ?_, fun h => by cases h⟩
    refine ⟨_, rfl, fun ha2 => ?_⟩
    dsimp only
    rw [if_pos rfl]
    exact b2 a dd v _ _ _ H3 _ hd k
  · refine ⟨true, C.ex2, fun _ a ha => ?_, fun h => by cases h⟩
    refine ⟨_, rfl, fun ha2 => ?_⟩
    dsimp only
    rw [if_neg (fun e => C.ne (Value.ref.inj e).symm), if_pos rfl]
    exact t2 a dd u v _ _ _ H3 _ hd k
end

section
variable {P : Program} {w : World} {K : PySem.W.Frag} {mg : Str → Option Value} {base : Heap} {A : Ad}
/-! ### the law's four lambdas -/
open LamX
abbrev Nlaw : List Str := ["script", "pen", "base", "deep", "row", "at", "size", "turn", "many", "steps", "golden", "counts", "word", "spot", "marked", "whole", "heard"]
abbrev ZL (P : Program) (w : World) (K : PySem.W.Frag) (mg : Str → Option Value) (base : Heap) (f c : Addr) (Ar : Around) (outer : List Env) (s : Shared) (H : Hp) (E : XK) : Cx := (cxOf CX0 P w K mg base Nlaw "law" (defScope sLaw) f (.ref c) Ar outer s H E).nox
def lstAt (i : Nat) : Expr → Expr
  | .List es _ => es.getD i (.Constant .none 0 ⟨0, 0, 0, 0⟩)
  | .BinOp _ _ (.List es _) _ => es.getD i (.Constant .none 0 ⟨0, 0, 0, 0⟩)
  | _ => .Constant .none 0 ⟨0, 0, 0, 0⟩
def lawSt (i : Nat) : Stmt := (defBody sLaw).getD i (.Pass ⟨0, 0, 0, 0⟩)
abbrev lamNm : Str := (envOfC "law" (defScope sLaw) 0 0 .none).qual ++ "<lambda>"
abbrev LT (Pt : Addr) : List (Addr × Str) := [(Pt, lamNm)]
abbrev TTh (A : Ad) : (XK → Hp → VK → Prop) → Hp → VK → Prop := fun tl H Q => ∀ H2, Ex H H2 → ∀ Q', tl (Eh A Q) H2 Q'
theorem lt_only {Pt : Addr} : ∀ p ∈ LT Pt, p.1 = Pt → p.2 = lamNm := fun p hp _ => by rw [List.mem_singleton.mp hp]
theorem na_of {a : Str} (h : a ∉ Nlaw) : ∀ i : Nat, Nlaw[i]? ≠ some a := fun i e => h (List.mem_of_getElem? e)
abbrev t1 (K : PySem.W.Frag) (A : Ad) : XK → TE := fun E => tMake A.cFolded (spFInitX K A) [] E (tCons (tOp rRep (tLst (tCons (tLst (tCons (tC (.str "go")) tNil)) tNil)) (tC (.int 2001))) tNil)
theorem pl1 {fB : FuncData} {f c Pt : Addr} {Ar : Around} {outer : List Env} {s : Shared} {H : Hp} {E : XK} (F : F10 K A) (T : T10 mg K A) (C : CF K A) (X : HX K A) (TB : BV P K A fB) (tb : TabB base mg c Pt) (hr : Room 12 (ZL P w K mg base f c Ar outer s H E).A) :
    PE (ZL P w K mg base f c Ar outer s H E) (lstAt 0 (asgVal (lawSt 21))) (tLam (LT Pt) (TTh A) (t1 K A)) := by
  have bFInit : Binds K F.fFInit ["self", "parts"] [] := F.FFInit.binds (fun _ _ _ _ _ _ us hl => match us, hl with | [_, _], _ => rfl)
  have GFInitX := (ok_finitX (P := P) (w := w) (mg := mg) (base := base) F T TB).mono (show 5 ≤ 9 by omega)
  obtain ⟨oc, od, kV, doc, pm, an, cdv, ct, osl, e, lk, hcd⟩ := F.FHeard.ex
  have bH : Binds K F.fHeard ["ask"] [] := F.FHeard.binds (fun _ _ _ _ _ _ us hl => match us, hl with | [_], _ => rfl)
  rw [e] at lk bH
  exact pe_lam0W (k := 10) rfl T.gHeard T.kHeard lk hcd bH scHeard rfl (Or.inl rfl) (gives_heard T X) tb rfl (List.mem_singleton.mpr rfl) lt_only hr (lamS_by (sc := defScope sLaw) (by decide +kernel)) rfl (fun _ _ _ _ _ => rfl)
    (fun A outer s H E f c' hr2 => pe_make C.mkF GFInitX hr2 rfl T.gFolded bFInit .nil (passes_call (takes_of rfl rfl rfl rfl) fun _ _ _ _ h => h) (pa_cons (pe_op op_rep (pe_lst (pa_cons (pe_lst (pa_cons pe_str pa_nil)) pa_nil)) pe_int) pa_nil))
abbrev t2 (K : PySem.W.Frag) (A : Ad) : XK → TE := fun E => tMake A.cFolded (spFInitX K A) [] E (tCons (tLst (tCons (tOp rRep (tLst (tCons (tC (.str "go")) tNil)) (tC (.int 20001))) tNil)) tNil)
theorem pl2 {fB : FuncData} {f c Pt : Addr} {Ar : Around} {outer : List Env} {s : Shared} {H : Hp} {E : XK} (F : F10 K A) (T : T10 mg K A) (C : CF K A) (X : HX K A) (TB : BV P K A fB) (tb : TabB base mg c Pt) (hr : Room 12 (ZL P w K mg base f c Ar outer s H E).A) :
    PE (ZL P w K mg base f c Ar outer s H E) (lstAt 1 (asgVal (lawSt 21))) (tLam (LT Pt) (TTh A) (t2 K A)) := by
  have bFInit : Binds K F.fFInit ["self", "parts"] [] := F.FFInit.binds (fun _ _ _ _ _ _ us hl => match us, hl with | [_, _], _ => rfl)
  have GFInitX := (ok_finitX (P := P) (w := w) (mg := mg) (base := base) F T TB).mono (show 5 ≤ 9 by omega)
  obtain ⟨oc, od, kV, doc, pm, an, cdv, ct, osl, e, lk, hcd⟩ := F.FHeard.ex
  have bH : Binds K F.fHeard ["ask"] [] := F.FHeard.binds (fun _ _ _ _ _ _ us hl => match us, hl with | [_], _ => rfl)
  rw [e] at lk bH
  exact pe_lamDW (k := 10) (a0 := "a1") (iv := 0) rfl T.gHeard T.kHeard lk hcd bH scHeard rfl (Or.inl rfl) (gives_heard T X) tb rfl (List.mem_singleton.mpr rfl) lt_only hr (lamD_by (sc := defScope sLaw) (by decide +kernel)) (na_of (by decide +kernel)) rfl (fun h => wpAny_Constant_int (h _ _)) (fun _ _ _ _ _ _ _ => ⟨_, rfl, rfl⟩)
    (fun A outer s H E f c' hr2 => pe_make C.mkF GFInitX hr2 rfl T.gFolded bFInit .nil (passes_call (takes_of rfl rfl rfl rfl) fun _ _ _ _ h => h) (pa_cons (pe_lst (pa_cons (pe_op op_rep (pe_lst (pa_cons pe_str pa_nil)) pe_int) pa_nil)) pa_nil))
abbrev t3 (K : PySem.W.Frag) (A : Ad) : XK → TE := fun E => tCall (spUnfoldedX K A) [] E (tCons (tMake A.cFolded (spFInit K A) [] E0 (tCons (tLst (tCons (tOp rRep (tLst (tCons (tC (.str "go")) tNil)) (tC (.int 100))) (tCons (tOp rCat (tOp rRep (tLst (tCons (tC (.int 0)) tNil)) (tC (.int 100))) (tLst (tCons (tC (.str "go")) tNil))) tNil))) tNil)) tNil)
theorem pl3 {fT : FuncData} {fB : FuncData} {f c Pt : Addr} {Ar : Around} {outer : List Env} {s : Shared} {H : Hp} {E : XK} (F : F10 K A) (T : T10 mg K A) (C : CF K A) (X : HX K A) (TB : BV P K A fB) (tb : TabB base mg c Pt) (hr : Room 12 (ZL P w K mg base f c Ar outer s H E).A) (TM1 : TM P K A fT) :
    PE (ZL P w K mg base f c Ar outer s H E) (lstAt 2 (asgVal (lawSt 21))) (tLam (LT Pt) (TTh A) (t3 K A)) := by
  have bFInit : Binds K F.fFInit ["self", "parts"] [] := F.FFInit.binds (fun _ _ _ _ _ _ us hl => match us, hl with | [_, _], _ => rfl)
  have GFInit := (ok_finit (P := P) (w := w) (mg := mg) (base := base) F T C).mono (show 5 ≤ 9 by omega)
  have bUnfolded : Binds K F.fUnfolded ["row"] [] := F.FUnfolded.binds (fun _ _ _ _ _ _ us hl => match us, hl with | [_], _ => rfl)
  have GUnfoldedX := (ok_unfoldedX (P := P) (w := w) (mg := mg) (base := base) F T C TM1).mono (show 3 ≤ 10 by omega)
  obtain ⟨oc, od, kV, doc, pm, an, cdv, ct, osl, e, lk, hcd⟩ := F.FHeard.ex
  have bH : Binds K F.fHeard ["ask"] [] := F.FHeard.binds (fun _ _ _ _ _ _ us hl => match us, hl with | [_], _ => rfl)
  rw [e] at lk bH
  exact pe_lamDW (k := 10) (a0 := "a2") (iv := 0) rfl T.gHeard T.kHeard lk hcd bH scHeard rfl (Or.inl rfl) (gives_heard T X) tb rfl (List.mem_singleton.mpr rfl) lt_only hr (lamD_by (sc := defScope sLaw) (by decide +kernel)) (na_of (by decide +kernel)) rfl (fun h => wpAny_Constant_int (h _ _)) (fun _ _ _ _ _ _ _ => ⟨_, rfl, rfl⟩)
    (fun A outer s H E f c' hr2 => pe_call GUnfoldedX hr2 rfl T.gUnfolded T.kUnfolded bUnfolded .nil (passes_call (takes_of rfl rfl rfl rfl) fun _ _ _ _ h => h) (pa_cons (pe_make C.mkF GFInit hr2 rfl T.gFolded bFInit .nil pass0 (pa_cons (pe_lst (pa_cons (pe_op op_rep (pe_lst (pa_cons pe_str pa_nil)) pe_int) (pa_cons (pe_op op_cat (pe_op op_rep (pe_lst (pa_cons pe_int pa_nil)) pe_int) (pe_lst (pa_cons pe_str pa_nil))) pa_nil))) pa_nil)) pa_nil))
abbrev t4 (K : PySem.W.Frag) (A : Ad) : XK → TE := fun E => tCall (spFoldedX K A) [] E (tCons (tOp rRep (tLst (tCons (tC (.str "go")) tNil)) (tC (.int 20001))) tNil)
theorem pl4 {fB : FuncData} {f c Pt : Addr} {Ar : Around} {outer : List Env} {s : Shared} {H : Hp} {E : XK} (F : F10 K A) (T : T10 mg K A) (C : CF K A) (X : HX K A) (TB : BV P K A fB) (tb : TabB base mg c Pt) (hr : Room 12 (ZL P w K mg base f c Ar outer s H E).A) :
    PE (ZL P w K mg base f c Ar outer s H E) (lstAt 0 (asgVal (lawSt 22))) (tLam (LT Pt) (TTh A) (t4 K A)) := by
  have bFoldedOf : Binds K F.fFoldedOf ["events"] [] := F.FFoldedOf.binds (fun _ _ _ _ _ _ us hl => match us, hl with | [_], _ => rfl)
  have GFoldedX := (ok_foldedX (P := P) (w := w) (mg := mg) (base := base) F T TB).mono (show 3 ≤ 10 by omega)
  obtain ⟨oc, od, kV, doc, pm, an, cdv, ct, osl, e, lk, hcd⟩ := F.FHeard.ex
  have bH : Binds K F.fHeard ["ask"] [] := F.FHeard.binds (fun _ _ _ _ _ _ us hl => match us, hl with | [_], _ => rfl)
  rw [e] at lk bH
  exact pe_lam0W (k := 10) rfl T.gHeard T.kHeard lk hcd bH scHeard rfl (Or.inl rfl) (gives_heard T X) tb rfl (List.mem_singleton.mpr rfl) lt_only hr (lamS_by (sc := defScope sLaw) (by decide +kernel)) rfl (fun _ _ _ _ _ => rfl)
    (fun A outer s H E f c' hr2 => pe_call GFoldedX hr2 rfl T.gFoldedOf T.kFoldedOf bFoldedOf .nil (passes_call (takes_of rfl rfl rfl rfl) fun _ _ _ _ h => h) (pa_cons (pe_op op_rep (pe_lst (pa_cons pe_str pa_nil)) pe_int) pa_nil))
end

section
variable {P : Program} {w : World} {K : PySem.W.Frag} {mg : Str → Option Value} {base : Heap} {A : Ad}
/-! ### what the four lambdas come to -/
theorem make_noX {σ : L2.St} {H : Hp} {te : TE} {Q : VK} {Q' : VK} (h : EvP te σ H fun v H1 => ∃ a, v = .ref a ∧ NoPts K H1 a) (k : ∀ t H', Ex H H' → H' t = some (.tup [.str "value", .str "parts"]) → Q (.ref t) H') : tMake A.cFolded (spFInitX K A) [] (Eh A Q) (tCons te tNil) σ H Q' :=
  h H (Ex.refl H) _ fun v H1 e1 ⟨a, hv, hn⟩ x dx hx hdx ndx => by
    subst hv
    have e2 : Ex H1 (upd (upd H1 dx (.own x)) x (.ins A.cFolded dx [])) := (Ex.new hdx).trans (Ex.new (by rw [upd_ne ndx.symm]; exact hx))
    exact ⟨x, a, rfl, hn.up e2, fun d H' e hd => .inl ⟨rfl, d, _, rfl, hd, fun t H2 e3 ht => k t H2 (e1.trans (e2.trans (e.trans e3))) ht⟩⟩
theorem go_rep (n : Nat) : List.replicate n (V.str "go") = (List.replicate n (Im.ev wGo)).map Im.v := by rw [List.map_replicate]; rfl
theorem pin_rep {σ : L2.St} {H : Hp} {ta tn : TE} {p : List Im} {n : Int} (h : EvP ta σ H (NewPin [p])) (hn : Ev tn σ H (.int n)) (h0 : 0 ≤ n ∧ n ≤ 100000) : EvP (tOp rRep ta tn) σ H (NewPin (List.replicate n.toNat p)) := fun H1 e Q q =>
  h H1 e _ fun v H2 e2 ⟨a, hv, us, h2, h3, h4⟩ => hn H2 (e.trans e2) _ fun H3 e3 => by
    subst hv
    obtain ⟨b, h5, h6⟩ := h4 0 p rfl
    obtain ⟨u, rfl⟩ : ∃ u, us = [u] := by
      match us, h3 with
      | [u], _ => exact ⟨u, rfl⟩
    have hu : u = V.ref b := by simpa using h5
    subst hu
    refine ⟨a, n, [V.ref b], rfl, rfl, e3 _ _ h2, by omega, by omega, ?_, fun r hr => ?_⟩
    · have : n.toNat ≤ 100000 := by omega
      exact sz_of (by simpa using this)
    · have hf : (List.replicate n.toNat [V.ref b]).flatten = List.replicate n.toNat (V.ref b) := by
        generalize n.toNat = m
        induction m with
        | zero => rfl
        | succ m ih => rw [List.replicate_succ, List.replicate_succ, List.flatten_cons, ih]; rfl
      rw [hf]
      refine q (.ref r) _ ((e2.trans e3).trans (Ex.new hr)) ⟨r, rfl, _, upd_same, by simp, fun i q hi => ?_⟩
      have hq : q = p := (List.mem_replicate.mp (List.mem_of_getElem? hi)).2
      have hlt : i < n.toNat := by
        have := (List.getElem?_eq_some_iff.mp hi).1
        simpa using this
      subst hq
      exact ⟨b, by rw [List.getElem?_replicate, if_pos hlt], Ex.new hr _ _ (e3 _ _ h6)⟩
theorem newpin_no {v : V} {H : Hp} {ps : List (List Im)} (h : NewPin ps v H) (h1 : ps.length ≤ 40000) (h2 : 2000 < ps.length ∨ (1 ≤ ps.length ∧ 20000 < (ps.map List.length).sum)) : ∃ a, v = .ref a ∧ NoPts K H a := by
  obtain ⟨a, hv, us, h3, h4, h5⟩ := h
  refine ⟨a, hv, us, fun i => (ps.getD i []).length, sq_of h3, fun i u hu => ?_, by omega, ?_⟩
  · have hi : i < ps.length := by
      have := (List.getElem?_eq_some_iff.mp hu).1
      omega
    have hg : ps[i]? = some ps[i] := List.getElem?_eq_getElem hi
    obtain ⟨b, h6, h7⟩ := h5 i _ hg
    rw [h6] at hu
    exact ⟨b, _, (Option.some.inj hu).symm, sq_of h7, by rw [List.length_map]; simp [List.getD, hg]⟩
  · rw [h4, range_map_getD ps [] List.length]
    exact h2
theorem heard1 {σ : L2.St} {H : Hp} {Q Q' : VK} (k : ∀ t H', Ex H H' → H' t = some (.tup [.str "value", .str "parts"]) → Q (.ref t) H') : t1 K A (Eh A Q) σ H Q' :=
  make_noX ((pin_rep (p := [Im.ev wGo]) (n := 2001) (rws_lst (rws_cons (el_lst (ea_cons ev_c ea_nil) (by simp)) rws_nil) (by simp)) ev_c (by decide)).imp fun v H1 _ h => newpin_no h (by simp) (.inl (by simp))) k
theorem heard2 {σ : L2.St} {H : Hp} {Q Q' : VK} (k : ∀ t H', Ex H H' → H' t = some (.tup [.str "value", .str "parts"]) → Q (.ref t) H') : t2 K A (Eh A Q) σ H Q' :=
  make_noX ((rws_lst (ps := [List.replicate 20001 (Im.ev wGo)]) (rws_cons (by
    rw [← go_rep]
    exact el_rep1 (n := 20001) ev_c ev_c (by decide)) rws_nil) (by simp)).imp fun v H1 _ h => newpin_no h (by simp) (.inr ⟨by simp, by simp⟩)) k
theorem call_noX {σ : L2.St} {H : Hp} {te : TE} {sp : Sp} {dvs : List V} {E : XK} {Q' : VK} {P0 : V → Hp → Prop} (h : EvP te σ H P0) (hs : ∀ v H1, Ex H H1 → P0 v H1 → sp ([v] ++ dvs) H1 Q' E) : tCall sp dvs E (tCons te tNil) σ H Q' := h H (Ex.refl H) _ fun v H1 e p => hs v H1 e p
def parts3 : List (List Im) := [List.replicate 100 (Im.ev wGo), List.replicate 100 (Im.at 0) ++ [Im.ev wGo]]
def parts4 : List (List Im) := [List.replicate 100 (Im.ev wGo), List.replicate 100 (Im.at 0)]
theorem okIm_go (n : Nat) : Im.ok n (Im.ev wGo) := okX_go
theorem parts3_okP : okParts parts3 := fun j p hj it hi => by
  match j, hj with
  | 0, hj =>
    cases hj
    rw [(List.mem_replicate.mp hi).2]
    exact okIm_go _
  | 1, hj =>
    cases hj
    rcases List.mem_append.mp hi with h | h
    · rw [(List.mem_replicate.mp h).2]
      exact Nat.lt_succ_self 0
    · rw [List.mem_singleton.mp h]
      exact okIm_go _
  | j + 2, hj => cases hj
theorem parts4_okP : okParts parts4 := fun j p hj it hi => by
  match j, hj with
  | 0, hj =>
    cases hj
    rw [(List.mem_replicate.mp hi).2]
    exact okIm_go _
  | 1, hj =>
    cases hj
    rw [(List.mem_replicate.mp hi).2]
    exact Nat.lt_succ_self 0
  | j + 2, hj => cases hj
theorem parts3_ok : OkRow parts3 := ⟨parts3_okP, by decide, by decide, by simp [parts3]⟩
theorem parts4_ok : OkRow parts4 := ⟨parts4_okP, by decide, by decide, by simp [parts4]⟩
theorem ev_rep (x : Str) : ∀ (n : Nat) (ps : List (List Im)), (List.replicate n (Im.ev x)).flatMap (iunf1 ps) = List.replicate n x
  | 0, _ => rfl
  | n + 1, ps => by
    rw [List.replicate_succ, List.flatMap_cons, ev_rep x n ps]
    rfl
theorem parts3_unf : unf1 parts3 1 = List.replicate 10001 wGo := by
  have h0 : unf1 parts3 0 = List.replicate 100 wGo := by
    rw [unf1_eq parts3_ok.ok (show parts3[0]? = some (List.replicate 100 (Im.ev wGo)) from rfl), ev_rep]
  rw [unf1_eq parts3_ok.ok (show parts3[1]? = some (List.replicate 100 (Im.at 0) ++ [Im.ev wGo]) from rfl), List.flatMap_append, rep_flat (iunf1 parts3) (Im.at 0) (n := 100) (y := wGo) h0 100]
  rw [show [Im.ev wGo].flatMap (iunf1 parts3) = List.replicate 1 wGo from rfl, List.replicate_append_replicate]
theorem parts4_unf : unf1 parts4 1 = List.replicate 10000 wGo := by
  have h0 : unf1 parts4 0 = List.replicate 100 wGo := by
    rw [unf1_eq parts4_ok.ok (show parts4[0]? = some (List.replicate 100 (Im.ev wGo)) from rfl), ev_rep]
  rw [unf1_eq parts4_ok.ok (show parts4[1]? = some (List.replicate 100 (Im.at 0)) from rfl), rep_flat (iunf1 parts4) (Im.at 0) (n := 100) (y := wGo) h0 100]
theorem el_cat {σ : L2.St} {H : Hp} {ta tb : TE} {xs ys : List V} (h : EvL ta σ H xs) (k : EvL tb σ H ys) (hl : xs.length + ys.length ≤ 100000) : EvL (tOp rCat ta tb) σ H (xs ++ ys) := fun H1 e Q q =>
  h H1 e _ fun a H2 ha e2 h2 => k H2 (e.trans e2) _ fun b H3 hb e3 h3 => ⟨a, b, xs, ys, rfl, rfl, e3 _ _ h2, h3, sz_of hl, fun p hp => q p _ (fresh_back (e2.trans e3) hp) ((e2.trans e3).trans (Ex.new hp)) upd_same⟩
theorem heard3 {σ : L2.St} {H : Hp} {Q Q' : VK} (k : ∀ t H', Ex H H' → H' t = some (.tup [.str "many", .str "events", .int 10000]) → Q (.ref t) H') : t3 K A (Eh A Q) σ H Q' :=
  call_noX (fol_make (ps := parts3) (rws_lst (rws_cons (by
    rw [← go_rep]
    exact el_rep1 (n := 100) ev_c ev_c (by decide)) (rws_cons (by
    have e : (List.replicate 100 (Im.at 0) ++ [Im.ev wGo]).map Im.v = List.replicate (100 : Int).toNat (V.int 0) ++ [V.str "go"] := by rw [List.map_append, List.map_replicate]; rfl
    rw [e]
    exact el_cat (el_rep1 (n := 100) ev_c ev_c (by decide)) (el_lst (ea_cons ev_c ea_nil) (by simp)) (by simp)) rws_nil)) (by decide)) parts3_ok) fun v H1 e1 ⟨f, hv, hf⟩ => ⟨f, parts3, by rw [hv]; rfl, hf, by
    have := unf_len parts3_ok.ok 2 1 (by decide)
    rw [parts3_unf, List.length_replicate] at this
    show 10000 < len1 parts3 1
    omega, fun d H' e hd => .inr ⟨rfl, d, _, _, rfl, hd, fun t H2 e2 ht => k t H2 (e1.trans (e.trans e2)) ht⟩⟩
theorem heard4 {σ : L2.St} {H : Hp} {Q Q' : VK} (k : ∀ t H', Ex H H' → H' t = some (.tup [.str "value", .str "events"]) → Q (.ref t) H') : t4 K A (Eh A Q) σ H Q' :=
  call_noX (P0 := fun v H1 => ∃ b, v = .ref b ∧ H1 b = some (.lst ((List.replicate 20001 (Im.ev wGo)).map Im.v))) ((EvP.ofL (el_rep1 (n := 20001) ev_c ev_c (by decide))).imp fun v H1 _ ⟨b, h1, _, h2⟩ => ⟨b, h1, by rw [← go_rep]; exact h2⟩) fun v H1 e1 ⟨b, hv, h1⟩ => ⟨b, List.replicate 20001 (Im.ev wGo), by rw [hv]; rfl, sq_of h1, fun it hi => ⟨wGo, (List.mem_replicate.mp hi).2, okX_go⟩, by rw [List.length_replicate]; decide, by rw [List.length_replicate]; decide,
    fun d H' e hd => .inl ⟨rfl, d, _, rfl, hd, fun t H2 e2 ht => k t H2 (e1.trans (e.trans e2)) ht⟩⟩
end

section
variable {P : Program} {w : World} {K : PySem.W.Frag} {mg : Str → Option Value} {base : Heap} {A : Ad}
/-! ### steps of the law -/
theorem et_or0 {t u : TT} {σ : L2.St} {H : Hp} (h1 : EvT t σ H false) (h2 : EvT u σ H false) : EvT (tOr t u) σ H false := et_is (et_or (b := false) h1 fun _ => h2) rfl
theorem et_ne0 {ta tb : TE} {σ : L2.St} {H : Hp} {v : V} (h1 : Ev ta σ H v) (h2 : Ev tb σ H v) (hs : scal v v = true) : EvT (tTest (tOp rNe ta tb)) σ H false := et_is (et_test (ev_op h1 h2 (rv_ne hs))) (by simp)
theorem et_neI {ta tb : TE} {σ : L2.St} {H : Hp} {i j : Int} (h1 : Ev ta σ H (.int i)) (h2 : Ev tb σ H (.int j)) (e : i = j) : EvT (tTest (tOp rNe ta tb)) σ H false := by
  subst e
  exact et_ne0 h1 h2 rfl
theorem et_neS {ta tb : TE} {σ : L2.St} {H : Hp} {x : Str} (h1 : Ev ta σ H (.str x)) (h2 : Ev tb σ H (.str x)) : EvT (tTest (tOp rNe ta tb)) σ H false := et_ne0 h1 h2 rfl
theorem evU_var {σ : L2.St} {H : Hp} {i : Nat} {v : V} {R : V → Hp → Prop} (up : Up R) (h : σ[i]? = some (some v)) (r : R v H) : EvP (tVar i) σ H R := EvP.is (ev_var h) fun H1 e => up v H H1 e r
theorem pow_small {b i : Nat} (hb : b ≤ 4) (hi : i ≤ 1000) : b ^ i < 2 ^ 2001 := by
  have h1 : b ^ i ≤ 4 ^ i := Nat.pow_le_pow_left hb i
  have h2 : (4 : Nat) ^ i ≤ 4 ^ 1000 := Nat.pow_le_pow_right (by decide) hi
  have h3 : (4 : Nat) ^ 1000 = 2 ^ 2000 := by rw [show (4 : Nat) = 2 ^ 2 from rfl, ← Nat.pow_mul]
  have h4 : (2 : Nat) ^ 2000 < 2 ^ 2001 := Nat.pow_lt_pow_right (by decide) (by decide)
  exact Nat.lt_of_le_of_lt (Nat.le_trans h1 (h3 ▸ h2)) h4
/-- base and depth -/
theorem base_deep {σ : L2.St} {H : Hp} {p : Addr} {n : Nat} {tz : TS} {D : Ends} (hs : σ[1]? = some (some (.ref p))) (hp : PenOk H p (n + 2)) (k : ∀ (b d : Nat) H1, 2 ≤ b → b ≤ 4 → 3 ≤ d → d ≤ 1000 → SameP p H H1 → PenOk H1 p n → tz D ((σ.set 2 (some (.int (b : Int)))).set 3 (some (.int (d : Int)))) H1) :
    tSeq (tAsg (tTup (tCons (tOp (rI0 fun i j => V.int (i + j)) (tC (V.int 2)) (tCall spDraw [] E0 (tCons (tVar 1) (tCons (tC (V.int 3)) tNil)))) (tCons (tCall (spPick K) [] E0 (tCons (tVar 1) (tCons (tLst (tCons (tC (V.int 3)) (tCons (tC (V.int 60)) (tCons (tC (V.int 400)) (tCons (tC (V.int 1000)) tNil))))) tNil))) tNil)))
      (gTup K 2 (gCons (gName 2) (gCons (gName 3) gNil)))) tz D σ H := by
  refine ⟨_, hs, p, 3, n + 1, rfl, by decide, by decide, hp, fun r H1 h0 h1 sm pen1 => ?_⟩
  refine ⟨2, r, rfl, rfl, ?_⟩
  refine ⟨_, hs, ⟨by show 4 ≤ sizeLine; decide, fun l hl => ?_⟩⟩
  obtain ⟨ls, hls⟩ := pen1.lst
  have nl : l ≠ p := fun e => by rw [e, hls] at hl; cases hl
  have ex : Ex H1 (upd H1 l (.lst [V.int 3, V.int 60, V.int 400, V.int 1000])) := Ex.new hl
  refine ⟨p, l, [V.int 3, V.int 60, V.int 400, V.int 1000], n, rfl, .inl (sq_of (by rw [hide_get nl]; exact upd_same)), by simp, by simp, pen1.ext ex, fun i v H2 hv sm2 pen2 => ?_⟩
  obtain ⟨d, hd1, hd2, hd3⟩ : ∃ d : Nat, v = .int (d : Int) ∧ 3 ≤ d ∧ d ≤ 1000 := by
    have hm := List.mem_of_getElem? hv
    simp only [List.mem_cons, List.not_mem_nil, or_false] at hm
    rcases hm with rfl | rfl | rfl | rfl
    · exact ⟨3, rfl, by decide, by decide⟩
    · exact ⟨60, rfl, by decide, by decide⟩
    · exact ⟨400, rfl, by decide, by decide⟩
    · exact ⟨1000, rfl, by decide, by decide⟩
  subst hd1
  refine ⟨by show 2 ≤ sizeLine; decide, fun t ht => ?_⟩
  refine ⟨t, _, rfl, st_of upd_same, rfl, _, _, rfl, _, _, rfl, rfl, ?_⟩
  obtain ⟨q, rfl⟩ : ∃ q : Nat, r = (q : Int) := ⟨r.toNat, by omega⟩
  have e : (2 : Int) + (q : Int) = ((2 + q : Nat) : Int) := by omega
  show tz D ((σ.set 2 (some (.int ((2 : Int) + (q : Int))))).set 3 (some (.int (d : Int)))) _
  rw [e]
  exact k (2 + q) d _ (by omega) (by omega) hd2 hd3 ((sm.trans (SameP.of ex)).trans (sm2.trans (SameP.of (Ex.new ht)))) (pen2.ext (Ex.new ht))
/-! the golden words -/
theorem goldP_in2 (n : Nat) : inS [wUp, wHit] (goldP n) := fun p hp x hx => by
  have : p = [Im.ev wUp] ∨ p = [Im.ev wUp, Im.ev wHit] ∨ ∃ k, p = [Im.at (k + 1), Im.at k] := by
    simp only [goldP, List.mem_cons, List.mem_map] at hp
    rcases hp with h | h | ⟨k, _, h⟩
    · exact .inl h
    · exact .inr (.inl h)
    · exact .inr (.inr ⟨k, h.symm⟩)
  rcases this with rfl | rfl | ⟨k, rfl⟩
  · simp at hx; simp [hx]
  · simp at hx; rcases hx with rfl | rfl <;> simp
  · simp at hx
theorem markP_in2 (n : Nat) : inS [wGo, wHit] (markP n) := fun p hp x hx => by
  simp only [markP, List.mem_cons, List.mem_map] at hp
  rcases hp with rfl | ⟨k, _, rfl⟩
  · simp at hx; simp [hx]
  · simp at hx; simp [hx]
theorem goldC_pos : ∀ j, 0 < (goldC j).1 ∧ (0 < j → 0 < (goldC j).2)
  | 0 => ⟨by decide, fun h => absurd h (by decide)⟩
  | 1 => ⟨by decide, fun _ => by decide⟩
  | k + 2 => by
    obtain ⟨a1, a2⟩ := goldC_pos (k + 1)
    obtain ⟨b1, b2⟩ := goldC_pos k
    simp only [goldC]
    exact ⟨by omega, fun _ => by have := a2 (by omega); omega⟩
/-- the golden row's events -/
def LG (n : Nat) : List Str := unf1 (goldP n) (n + 1)
theorem LG_len (n : Nat) : (LG n).length = (goldC (n + 1)).1 + (goldC (n + 1)).2 := (goldP_cnt n (n + 1) (by omega)).2.2
theorem LG_up (n : Nat) : (LG n).count wUp = (goldC (n + 1)).1 := (goldP_cnt n (n + 1) (by omega)).1
theorem LG_hit (n : Nat) : (LG n).count wHit = (goldC (n + 1)).2 := (goldP_cnt n (n + 1) (by omega)).2.1
theorem LG_mem (n : Nat) (x : Str) : x ∈ [wHit, wUp] ↔ x ∈ LG n := by
  constructor
  · intro h
    have h1 : wUp ∈ LG n := List.count_pos_iff.mp (by rw [LG_up]; exact (goldC_pos (n + 1)).1)
    have h2 : wHit ∈ LG n := List.count_pos_iff.mp (by rw [LG_hit]; exact (goldC_pos (n + 1)).2 (by omega))
    simp only [List.mem_cons, List.not_mem_nil, or_false] at h
    rcases h with rfl | rfl
    · exact h2
    · exact h1
  · intro h
    have := unf_in (goldP_ok n) (goldP_in2 n) (n + 2) (n + 1) (by omega) x h
    simp only [List.mem_cons, List.not_mem_nil, or_false] at this ⊢
    exact this.symm
abbrev w21 : List Str := [wUp, wHit, wUp, wUp, wHit, wUp, wHit, wUp, wUp, wHit, wUp, wUp, wHit, wUp, wHit, wUp, wUp, wHit, wUp, wHit, wUp]
theorem LG_pre {n : Nat} (h : 5 ≤ n) : ∃ r, LG n = w21 ++ r := by
  obtain ⟨r, hr⟩ := goldP_pre (n := n) (n + 1) (by omega) (by omega)
  exact ⟨r, by unfold LG; rw [hr, goldP_u6 h]⟩
/-- the marked row's events -/
def LM (n : Nat) : List Str := unf1 (markP n) n
theorem LM_cnt (n : Nat) : (LM n).count wGo = 2 * 2 ^ n ∧ (LM n).count wHit + 1 = 2 ^ n ∧ (LM n).length + 1 = 3 * 2 ^ n := markP_cnt n n (Nat.le_refl _)
theorem LM_mem {n : Nat} (hn : 0 < n) (x : Str) : x ∈ [wGo, wHit] ↔ x ∈ LM n := by
  obtain ⟨a1, a2, a3⟩ := LM_cnt n
  have hp : 2 ≤ 2 ^ n := by
    have := Nat.pow_le_pow_right (show 0 < 2 by decide) (show 1 ≤ n from hn)
    simpa using this
  constructor
  · intro h
    have h1 : wGo ∈ LM n := List.count_pos_iff.mp (by rw [a1]; omega)
    have h2 : wHit ∈ LM n := List.count_pos_iff.mp (by omega)
    simp only [List.mem_cons, List.not_mem_nil, or_false] at h
    rcases h with rfl | rfl
    · exact h1
    · exact h2
  · intro h
    exact unf_in (markP_ok n) (markP_in2 n) (n + 1) n (by omega) x h
/-- the word that grows -/
def wdG : Nat → List Str
  | 0 => [wUp, wHit]
  | 1 => [wUp, wHit, wUp]
  | 2 => [wUp, wHit, wUp, wUp, wHit]
  | 3 => [wUp, wHit, wUp, wUp, wHit, wUp, wHit, wUp]
  | 4 => [wUp, wHit, wUp, wUp, wHit, wUp, wHit, wUp, wUp, wHit, wUp, wUp, wHit]
  | 5 => w21
  | _ => w21 ++ w21.take 13
def wdN : List Nat := [1, 2, 3, 5, 8, 13]
theorem wdG_step : ∀ i, i < 6 → wdG (i + 1) = (if 0 < i then wdG i ++ (wdG i).take (wdN.getD i 0) else wdG i ++ [wUp]) ∧ (0 < i → wdN.getD i 0 ≤ (wdG i).length) ∧ (wdG i).length ≤ 21 := by decide +kernel
theorem wdG_6 : wdG 6 = w21 ++ w21.take 13 := rfl
end

section
variable {P : Program} {w : World} {K : PySem.W.Frag} {mg : Str → Option Value} {base : Heap} {A : Ad}
/-! ### the law's three rows are made -/
section
variable {x0 x1 x2 x3 x4 x5 x6 x7 x8 x9 x10 x11 x12 x13 x14 x15 x16 : Option V} {H : Hp}
theorem mk_row {b d : Nat} (hb : b ≤ 4) (hd : d ≤ 1000) : EvP (tMake A.cFolded (spFInit K A) [] E0 (tCons (tOp rCat (tLst (tCons (tLst (tCons (tC (.str "go")) tNil)) tNil)) (tLc (iRng1 (tCons (tVar 3) tNil)) (gName 5) tYes (tOp rRep (tLst (tCons (tVar 5) tNil)) (tVar 2)) [5])) tNil))
    [x0, x1, some (.int (b : Int)), some (.int (d : Int)), x4, x5, x6, x7, x8, x9, x10, x11, x12, x13, x14, x15, x16] H (FolV K A (rowP b d)) :=
  fol_make (ps := rowP b d) (pin_cat (ps := [[Im.ev wGo]]) (qs := (List.range d).map fun k => List.replicate b (Im.at k)) (rws_lst (rws_cons (el_lst (ea_cons ev_c ea_nil) (by simp)) rws_nil) (by simp))
    (pin_rng (n := (d : Int)) (fun k => List.replicate b (Im.at k)) (ea_cons (ev_var rfl) ea_nil) (by omega) (fun x => rfl) fun i H1 e hi => by
      rw [List.map_replicate]
      exact el_rep1 (n := (b : Int)) (ev_var rfl) (ev_var rfl) (by omega)) (by simp; omega)) (rowP_row hb hd)
theorem mk_gold {n : Nat} (hn : n ≤ 1000) : EvP (tMake A.cFolded (spFInit K A) [] E0 (tCons (tOp rCat (tLst (tCons (tLst (tCons (tC (.str "up")) tNil)) (tCons (tLst (tCons (tC (.str "up")) (tCons (tC (.str "hit")) tNil))) tNil)))
      (tLc (iRng1 (tCons (tVar 9) tNil)) (gName 5) tYes (tLst (tCons (tOp (rI0 fun i j => V.int (i + j)) (tVar 5) (tC (.int 1))) (tCons (tVar 5) tNil))) [5])) tNil))
    [x0, x1, x2, x3, x4, x5, x6, x7, x8, some (.int (n : Int)), x10, x11, x12, x13, x14, x15, x16] H (FolV K A (goldP n)) :=
  fol_make (ps := goldP n) (pin_cat (ps := [[Im.ev wUp], [Im.ev wUp, Im.ev wHit]]) (qs := (List.range n).map fun k => [Im.at (k + 1), Im.at k]) (rws_lst (rws_cons (el_lst (ea_cons ev_c ea_nil) (by simp)) (rws_cons (el_lst (ea_cons ev_c (ea_cons ev_c ea_nil)) (by simp)) rws_nil)) (by simp))
    (pin_rng (n := (n : Int)) (fun k => [Im.at (k + 1), Im.at k]) (ea_cons (ev_var rfl) ea_nil) (by omega) (fun x => rfl) fun i H1 e hi => el_lst (ea_cons (ev_op (ev_var rfl) ev_c rv_I0) (ea_cons (ev_var rfl) ea_nil)) (by simp)) (by simp; omega)) (goldP_row hn)
theorem mk_mark : EvP (tMake A.cFolded (spFInit K A) [] E0 (tCons (tOp rCat (tLst (tCons (tLst (tCons (tC (.str "go")) (tCons (tC (.str "go")) tNil))) tNil))
      (tLc (iRng1 (tCons (tC (.int 80)) tNil)) (gName 5) tYes (tLst (tCons (tVar 5) (tCons (tVar 5) (tCons (tC (.str "hit")) tNil)))) [5])) tNil))
    [x0, x1, x2, x3, x4, x5, x6, x7, x8, x9, x10, x11, x12, x13, x14, x15, x16] H (FolV K A (markP 80)) :=
  fol_make (ps := markP 80) (pin_cat (ps := [[Im.ev wGo, Im.ev wGo]]) (qs := (List.range 80).map fun k => [Im.at k, Im.at k, Im.ev wHit]) (rws_lst (rws_cons (el_lst (ea_cons ev_c (ea_cons ev_c ea_nil)) (by simp)) rws_nil) (by simp))
    (pin_rng (n := 80) (fun k => [Im.at k, Im.at k, Im.ev wHit]) (ea_cons ev_c ea_nil) (by decide) (fun x => rfl) fun i H1 e hi => el_lst (ea_cons (ev_var rfl) (ea_cons (ev_var rfl) (ea_cons ev_c ea_nil))) (by simp)) (by simp)) (markP_row (by decide))
end
theorem rowU {b d : Nat} {v : V} {H : Hp} (h : FolV K A (rowP b d) v H) (hb : b ≤ 4) (hd : d ≤ 1000) : FolU K A (List.replicate (b ^ d) wGo) v H := h.u (rowP_row hb hd) (by rw [rowP_len]; exact rowP_unf b d d (Nat.le_refl _)) (rowP_in b d)
theorem goldU {n : Nat} {v : V} {H : Hp} (h : FolV K A (goldP n) v H) (hn : n ≤ 1000) : FolU K A (LG n) v H := h.u (goldP_row hn) (by rw [goldP_len]; rfl) (goldP_in n)
theorem markU {n : Nat} {v : V} {H : Hp} (h : FolV K A (markP n) v H) (hn : n ≤ 1000) : FolU K A (LM n) v H := h.u (markP_row hn) (by rw [markP_len]; rfl) (markP_in n)
/-! ### the law's tests -/
/-- one word alone -/
theorem ev_go {σ : L2.St} {H : Hp} {te : TE} {E : XK} {N : Nat} (h : EvP te σ H (FolU K A (List.replicate N wGo))) (hN : 0 < N) : EvD K (tCall (spCounted K A W3 rkW) [] E (tCons te tNil)) σ H (.tuple [.tuple [.str wGo, .int ((N : Nat) : Int)]]) := by
  have q := evd_counted (E := E) (zs := [wGo]) h (by simp) (fun x => by
    constructor
    · intro hx
      rw [List.mem_singleton.mp hx]
      exact List.mem_replicate.mpr ⟨by omega, rfl⟩
    · intro hx
      rw [(List.mem_replicate.mp hx).2]
      simp) (by simp) (by simp)
  rw [show ([wGo].map fun x => PyData.tuple [.str x, .int (((List.replicate N wGo).count x : Nat) : Int)]) = [.tuple [.str wGo, .int ((N : Nat) : Int)]] from by rw [List.map_cons, List.map_nil, List.count_replicate_self]] at q
  exact q
theorem ev_none {σ : L2.St} {H : Hp} {te : TE} {E : XK} (h : EvP te σ H (FolU K A [])) : EvD K (tCall (spCounted K A W3 rkW) [] E (tCons te tNil)) σ H (.tuple []) :=
  evd_counted (E := E) (zs := []) h (by simp) (fun x => Iff.rfl) (by simp) (by simp)
theorem ev_gold {σ : L2.St} {H : Hp} {te : TE} {E : XK} {n : Nat} (h : EvP te σ H (FolU K A (LG n))) : EvD K (tCall (spCounted K A W3 rkW) [] E (tCons te tNil)) σ H (.tuple [.tuple [.str wHit, .int (((goldC (n + 1)).2 : Nat) : Int)], .tuple [.str wUp, .int (((goldC (n + 1)).1 : Nat) : Int)]]) := by
  have q := evd_counted (E := E) (zs := [wHit, wUp]) h (by decide +kernel) (LG_mem n) (by decide +kernel) (by decide +kernel)
  rw [show ([wHit, wUp].map fun x => PyData.tuple [.str x, .int (((LG n).count x : Nat) : Int)]) = [.tuple [.str wHit, .int (((goldC (n + 1)).2 : Nat) : Int)], .tuple [.str wUp, .int (((goldC (n + 1)).1 : Nat) : Int)]] from by rw [List.map_cons, List.map_cons, List.map_nil, LG_hit, LG_up]] at q
  exact q
theorem ev_mark {σ : L2.St} {H : Hp} {te : TE} {E : XK} {n : Nat} (hn : 0 < n) (h : EvP te σ H (FolU K A (LM n))) : EvD K (tCall (spCounted K A W3 rkW) [] E (tCons te tNil)) σ H (.tuple [.tuple [.str wGo, .int ((2 * 2 ^ n : Nat) : Int)], .tuple [.str wHit, .int ((2 ^ n - 1 : Nat) : Int)]]) := by
  have q := evd_counted (E := E) (zs := [wGo, wHit]) h (by decide +kernel) (LM_mem hn) (by decide +kernel) (by decide +kernel)
  obtain ⟨a1, a2, _⟩ := LM_cnt n
  have a3 : (LM n).count wHit = 2 ^ n - 1 := by omega
  rw [show ([wGo, wHit].map fun x => PyData.tuple [.str x, .int (((LM n).count x : Nat) : Int)]) = [.tuple [.str wGo, .int ((2 * 2 ^ n : Nat) : Int)], .tuple [.str wHit, .int ((2 ^ n - 1 : Nat) : Int)]] from by rw [List.map_cons, List.map_cons, List.map_nil, a1, a3]] at q
  exact q
/-- a pair that is told -/
theorem evd_pair {σ : L2.St} {H : Hp} {te : TE} {x : Str} {i : Int} (h : Ev te σ H (.int i)) : EvD K (tTup (tCons (tC (.str x)) (tCons te tNil))) σ H (.tuple [.str x, .int i]) := evd_tup (evds_cons (evd_str ev_c) (evds_cons (evd_int h) evds_nil)) (by simp)
theorem evd_tup1 {σ : L2.St} {H : Hp} {te : TE} {d : PyData} (h : EvD K te σ H d) : EvD K (tTup (tCons te tNil)) σ H (.tuple [d]) := evd_tup (evds_cons h evds_nil) (by simp)
theorem evd_tup2 {σ : L2.St} {H : Hp} {te tf : TE} {d e : PyData} (h : EvD K te σ H d) (k : EvD K tf σ H e) : EvD K (tTup (tCons te (tCons tf tNil))) σ H (.tuple [d, e]) := evd_tup (evds_cons h (evds_cons k evds_nil)) (by simp)
theorem evd_is {σ : L2.St} {H : Hp} {te : TE} {d e : PyData} (h : EvD K te σ H d) (q : d = e) : EvD K te σ H e := q ▸ h
theorem dp_strs (K : PySem.W.Frag) (H : Hp) : ∀ ns : List Str, DpAll K H (ns.map V.str) (ns.map PyData.str)
  | [] => .nil
  | n :: ns => .cons (.str n) (dp_strs K H ns)
theorem evd_ls {σ : L2.St} {H : Hp} {te : TE} {xs : List Str} (h : EvL te σ H (xs.map V.str)) : EvD K te σ H (.list (xs.map PyData.str)) := (EvP.ofL h).imp fun v H1 _ ⟨p, h1, _, h2⟩ => by
  subst h1
  exact .lst (sq_of h2) (dp_strs K H1 xs)
theorem evd_ts {σ : L2.St} {H : Hp} {te : TE} {xs : List Str} (h : EvP te σ H fun v H1 => ∃ t, v = .ref t ∧ H1 t = some (.tup (xs.map V.str))) : EvD K te σ H (.tuple (xs.map PyData.str)) := h.imp fun v H1 _ ⟨p, h1, h2⟩ => by
  subst h1
  exact .tup (st_of h2) (dp_strs K H1 xs)
theorem shaped_ls (xs : List Str) (h : ∀ x ∈ xs, PyData.strOk x = true) : SeqAt.shaped (.list (xs.map PyData.str)) = true ∧ SeqAt.shaped (.tuple (xs.map PyData.str)) = true := by
  have h1 : PyData.canLayAll0 (xs.map PyData.str) = true ∧ PyData.depthAll (xs.map PyData.str) ≤ 1 := by
    induction xs with
    | nil => exact ⟨rfl, by decide⟩
    | cons x xs ih =>
      obtain ⟨a, b⟩ := ih fun y hy => h y (by simp [hy])
      refine ⟨?_, ?_⟩
      · simp only [List.map_cons, PyData.canLayAll0, PyData.canLay0, a, Bool.and_true]
        exact h x (by simp)
      · simp only [List.map_cons, PyData.depthAll, PyData.depth]
        omega
  refine ⟨?_, ?_⟩
  · show (PyData.canLayAll0 (xs.map PyData.str) && decide (PyData.depthAll (xs.map PyData.str) + 1 ≤ 64)) = true
    rw [h1.1, Bool.true_and]
    exact decide_eq_true (by have := h1.2; omega)
  · show (PyData.canLayAll0 (xs.map PyData.str) && decide (PyData.depthAll (xs.map PyData.str) + 1 ≤ 64)) = true
    rw [h1.1, Bool.true_and]
    exact decide_eq_true (by have := h1.2; omega)
theorem cut_take (xs : List Str) (n : Nat) (hn : n ≤ xs.length) : cutV (xs.map V.str) none (some (n : Int)) = (xs.take n).map V.str := by
  unfold cutV
  have h0 : HT.sIx (xs.map V.str).length 0 none = 0 := rfl
  have h1 : HT.sIx (xs.map V.str).length (xs.map V.str).length (some (n : Int)) = n := by
    rw [HT.sIx_nat, List.length_map]
    omega
  rw [h0, h1, List.drop_zero, Nat.sub_zero, List.map_take]
end

section
variable {P : Program} {w : World} {K : PySem.W.Frag} {mg : Str → Option Value} {base : Heap} {A : Ad}
/-! ### the law runs -/
open LamX
theorem atI_neg {α : Type} {xs : List α} {k : Nat} {v : α} (h0 : 0 < k) (h1 : k ≤ xs.length) (h : xs[xs.length - k]? = some v) : atI xs (-(k : Int)) = some v := by
  have e : ixN xs.length (-(k : Int)) = some (xs.length - k) := by
    unfold ixN
    rw [if_neg (by omega), if_pos (by omega)]
    congr 1
    omega
  unfold atI
  rw [e]
  exact h
/-- the counts so far -/
def CtAt (H : Hp) (cl : Addr) (n : Nat) : Prop := ∃ ys : List V, H cl = some (.lst ys) ∧ ys.length = n + 2 ∧ ∀ i, i < n + 2 → ∃ t : Addr, ys[i]? = some (V.ref t) ∧ H t = some (.tup [.int (((goldC i).1 : Nat) : Int), .int (((goldC i).2 : Nat) : Int)])
theorem CtAt.up {H H' : Hp} {cl : Addr} {n : Nat} (h : CtAt H cl n) (e : Ex H H') : CtAt H' cl n := by
  obtain ⟨ys, h1, h2, h3⟩ := h
  refine ⟨ys, e _ _ h1, h2, fun i hi => ?_⟩
  obtain ⟨t, h4, h5⟩ := h3 i hi
  exact ⟨t, h4, e _ _ h5⟩
/-- counts[-k] -/
theorem ep_ct {σ : L2.St} {H : Hp} {cl : Addr} {n k : Nat} {ti : TE} (hs : σ[11]? = some (some (.ref cl))) (h : CtAt H cl n) (hk : 0 < k ∧ k ≤ n + 2) (hi : Ev ti σ H (.int (-(k : Int)))) : EvP (tOp (rIxL K) (tVar 11) ti) σ H fun v H1 => ∃ t, v = .ref t ∧ H1 t = some (.tup [.int (((goldC (n + 2 - k)).1 : Nat) : Int), .int (((goldC (n + 2 - k)).2 : Nat) : Int)]) := by
  obtain ⟨ys, h1, h2, h3⟩ := h
  obtain ⟨t, h4, h5⟩ := h3 (n + 2 - k) (by omega)
  exact EvP.is (ev_op (ev_var hs) hi (rv_ixL (sq_of h1) (atI_neg hk.1 (by omega) (by rw [h2]; exact h4)))) fun H1 e => ⟨t, rfl, e _ _ h5⟩
theorem ev_ct {σ : L2.St} {H : Hp} {te tj : TE} {j : Nat} {xs : List V} {v : V} (h : EvP te σ H fun v H1 => ∃ t, v = .ref t ∧ H1 t = some (.tup xs)) (hj : ∀ H', Ev tj σ H' (.int (j : Int))) (hv : xs[j]? = some v) : Ev (tOp (rIxT K) te tj) σ H v := fun H1 e Q q =>
  h H1 e _ fun u H2 e2 ⟨t, hu, ht⟩ => hj H2 H2 (Ex.refl H2) _ fun H3 e3 => ⟨t, xs, j, v, hu, rfl, st_of (e3 _ _ ht), atI_nat hv, q H3 (e2.trans e3)⟩
theorem ev_neg {σ : L2.St} {H : Hp} {k : Nat} : Ev (tUn (rU fun i => V.int (-i)) (tC (.int (k : Int)))) σ H (.int (-(k : Int))) := ev_un ev_c ru_neg
theorem ev_intI {σ : L2.St} {H : Hp} {te : TE} {i : Int} (h : Ev te σ H (.int i)) : Ev (tCB (fun xs H Q => (∃ i, xs = [V.int i] ∧ Q (V.int i) H) ∨ ∃ k, xs = [V.bl k] ∧ Q (V.int (if k = true then 1 else 0)) H) (tCons te tNil)) σ H (.int i) := ev_cb (ea_cons h ea_nil) fun H1 e Q q => .inl ⟨_, rfl, q H1 (Ex.refl H1)⟩
theorem ev_sumT {σ : L2.St} {H : Hp} {te : TE} {ns : List Int} (h : EvP te σ H fun v H1 => ∃ t, v = .ref t ∧ H1 t = some (.tup (ns.map V.int))) : Ev (tCB (rSumT K) (tCons te tNil)) σ H (.int ns.sum) := fun H1 e Q q => h H1 e _ fun v H2 e2 ⟨t, hv, ht⟩ => ⟨t, ns, by rw [hv], st_of ht, q H2 e2⟩
theorem el_if {σ : L2.St} {H : Hp} {t : TT} {ta tb : TE} {b : Bool} {xs : List V} (h : EvT t σ H b) (h1 : b = true → EvL ta σ H xs) (h2 : b = false → EvL tb σ H xs) : EvL (tIf t ta tb) σ H xs := fun H1 e Q q => h H1 e _ fun H2 e2 => by
  cases b with
  | true => exact iteT (h1 rfl H2 (e.trans e2) Q fun p H3 hp e3 h3 => q p H3 (fresh_back e2 hp) (e2.trans e3) h3)
  | false => exact iteF (h2 rfl H2 (e.trans e2) Q fun p H3 hp e3 h3 => q p H3 (fresh_back e2 hp) (e2.trans e3) h3)
theorem el_catV {σ : L2.St} {H : Hp} {ta tb : TE} {a : Addr} {xs ys : List V} (h : Ev ta σ H (.ref a)) (ha : H a = some (.lst xs)) (k : EvL tb σ H ys) (hl : xs.length + ys.length ≤ 100000) : EvL (tOp rCat ta tb) σ H (xs ++ ys) := fun H1 e Q q =>
  h H1 e _ fun H2 e2 => k H2 (e.trans e2) _ fun b H3 hb e3 h3 => ⟨a, b, xs, ys, rfl, rfl, (e.trans (e2.trans e3)) _ _ ha, h3, sz_of hl, fun p hp => q p _ (fresh_back (e2.trans e3) hp) ((e2.trans e3).trans (Ex.new hp)) upd_same⟩
theorem ep_two {σ : L2.St} {H : Hp} {ta tb : TE} {xs ys : List V} (h : EvU ta σ H xs) (k : EvU tb σ H ys) : EvP (tLst (tCons ta (tCons tb tNil))) σ H fun v H1 => ∃ l t u, v = .ref l ∧ H l = none ∧ H1 l = some (.lst [V.ref t, V.ref u]) ∧ H1 t = some (.tup xs) ∧ H1 u = some (.tup ys) := fun H1 e Q q =>
  h H1 e _ fun t H2 ht e2 h2 => k H2 (e.trans e2) _ fun u H3 hu e3 h3 => ⟨by show 2 ≤ sizeLine; decide, fun l hl => q (.ref l) _ ((e2.trans e3).trans (Ex.new hl)) ⟨l, t, u, rfl, fresh_back (e.trans (e2.trans e3)) hl, upd_same, Ex.new hl _ _ (e3 _ _ h2), Ex.new hl _ _ h3⟩⟩
theorem et_lt1 {σ : L2.St} {H : Hp} {ta tb : TE} {i j : Int} (h1 : Ev ta σ H (.int i)) (h2 : Ev tb σ H (.int j)) (e : i < j) : EvT (tTest (tOp (rI0 fun i j => V.bl (decide (i < j))) ta tb)) σ H true := et_is (et_test (ev_op h1 h2 rv_I0)) (decide_eq_true e)
theorem shaped1 (i : Int) : SeqAt.shaped (.tuple [.tuple [.str wGo, .int i]]) = true := by
  have := okX_go.2.1
  simp [SeqAt.shaped, PyData.canLay0, PyData.canLayAll0, PyData.depth, PyData.depthAll, this]
theorem shaped2 {x y : Str} (hx : OkX x) (hy : OkX y) (i j : Int) : SeqAt.shaped (.tuple [.tuple [.str x, .int i], .tuple [.str y, .int j]]) = true := by
  have h1 := hx.2.1
  have h2 := hy.2.1
  simp [SeqAt.shaped, PyData.canLay0, PyData.canLayAll0, PyData.depth, PyData.depthAll, h1, h2]
theorem rep_at {N j : Nat} (h : j < N) : (List.replicate N wGo)[j]? = some wGo := by rw [List.getElem?_replicate, if_pos h]
/-- lists of data, made anew -/
def LstD (K : PySem.W.Frag) (ds : List PyData) : V → Hp → Prop := fun v H => ∃ a xs, v = .ref a ∧ H a = some (.lst xs) ∧ DpAll K H xs ds
theorem LstD.up {ds : List PyData} : Up (LstD K ds) := fun v H H' e ⟨a, xs, h1, h2, h3⟩ => ⟨a, xs, h1, e _ _ h2, DpAll.ext e h3⟩
theorem ld_lst {σ : L2.St} {H : Hp} {ta : TA} {ds : List PyData} (h : EvDs K ta σ H ds) (hl : ds.length ≤ 100000) : EvP (tLst ta) σ H (LstD K ds) := (ep_lst (Ps := fun vs H' => DpAll K H' vs ds) h (fun vs H1 p => by rw [DpAll.length p]; exact hl) fun vs H1 H2 e p => DpAll.ext e p).imp fun v H1 _ ⟨p, vs, h1, _, h2, h3⟩ => ⟨p, vs, h1, h2, h3⟩
theorem dpall_app {H : Hp} {xs ys : List V} {ds es : List PyData} (h : DpAll K H xs ds) (k : DpAll K H ys es) : DpAll K H (xs ++ ys) (ds ++ es) := by
  induction xs generalizing ds with
  | nil =>
    cases h
    exact k
  | cons x xs ih =>
    cases h with
    | cons h1 h2 => exact .cons h1 (ih h2)
theorem ld_cat {σ : L2.St} {H : Hp} {ta tb : TE} {ds es : List PyData} (h : EvP ta σ H (LstD K ds)) (k : EvP tb σ H (LstD K es)) (hl : ds.length + es.length ≤ 100000) : EvP (tOp rCat ta tb) σ H (LstD K (ds ++ es)) :=
  ep_op LstD.up h k fun x y H1 e ⟨a, xs, h1, h2, h3⟩ ⟨b, ys, k1, k2, k3⟩ Q q => ⟨a, b, xs, ys, h1, k1, h2, k2, sz_of (by rw [DpAll.length h3, DpAll.length k3]; exact hl), fun p hn => q (.ref p) _ (Ex.new hn) ⟨p, _, rfl, upd_same, dpall_app (DpAll.ext (Ex.new hn) h3) (DpAll.ext (Ex.new hn) k3)⟩⟩
theorem ld_rep2 {σ : L2.St} {H : Hp} {ta tn : TE} {d : PyData} (h : EvP ta σ H (LstD K [d])) (hn : Ev tn σ H (.int 2)) : EvP (tOp rRep ta tn) σ H (LstD K [d, d]) := fun H1 e Q q =>
  h H1 e _ fun v H2 e2 ⟨a, xs, hv, h2, h3⟩ => hn H2 (e.trans e2) _ fun H3 e3 => by
    subst hv
    cases h3 with
    | cons g1 g2 =>
      rename_i x xs'
      cases g2
      exact ⟨a, 2, [x], rfl, rfl, e3 _ _ h2, by decide, by decide, by show 1 * 2 ≤ sizeLine; decide, fun p hp => q (.ref p) _ ((e2.trans e3).trans (Ex.new hp)) ⟨p, [x, x], rfl, upd_same, .cons (Dp.ext (e3.trans (Ex.new hp)) g1) (.cons (Dp.ext (e3.trans (Ex.new hp)) g1) .nil)⟩⟩
theorem ld_d {σ : L2.St} {H : Hp} {te : TE} {ds : List PyData} (h : EvP te σ H (LstD K ds)) : EvD K te σ H (.list ds) := h.imp fun v H1 _ ⟨a, xs, h1, h2, h3⟩ => by
  subst h1
  exact .lst (sq_of h2) h3
/-! the last three rows -/
theorem one_row (n : Nat) (h0 : 0 < n) (h1 : n ≤ 2000) : OkRow (List.replicate n [Im.ev wGo]) := ⟨fun j p hj it hi => by
  have : p = [Im.ev wGo] := (List.mem_replicate.mp (List.mem_of_getElem? hj)).2
  subst this
  rw [List.mem_singleton.mp hi]
  exact okIm_go _, by rw [List.length_replicate]; exact h0, by rw [List.length_replicate]; exact h1, by
  rw [List.map_replicate]
  simp
  omega⟩
theorem end1 {σ : L2.St} {H : Hp} : EvP (tMake A.cFolded (spFInit K A) [] E0 (tCons (tOp rRep (tLst (tCons (tLst (tCons (tC (.str "go")) tNil)) tNil)) (tC (.int 2000))) tNil)) σ H (FolW K A [wGo]) :=
  (fol_make (pin_rep (p := [Im.ev wGo]) (n := 2000) (rws_lst (rws_cons (el_lst (ea_cons ev_c ea_nil) (by simp)) rws_nil) (by simp)) ev_c (by decide)) (one_row 2000 (by decide) (by decide))).imp fun v H1 _ ⟨f, h1, h2⟩ => ⟨f, _, h1, h2, one_row 2000 (by decide) (by decide), by
    have hl : (List.replicate (2000 : Int).toNat [Im.ev wGo]).length = 2000 := by rw [List.length_replicate]; rfl
    rw [hl]
    exact unf1_eq (j := 1999) (one_row 2000 (by decide) (by decide)).ok (show (List.replicate 2000 [Im.ev wGo])[1999]? = some [Im.ev wGo] by rw [List.getElem?_replicate, if_pos (by decide)])⟩
theorem wide_okP (n : Nat) : okParts [List.replicate n (Im.ev wGo)] := fun j p hj it hi => by
  match j, hj with
  | 0, hj =>
    cases hj
    rw [(List.mem_replicate.mp hi).2]
    exact okIm_go _
  | j + 1, hj => cases hj
theorem wide_row (n : Nat) (h1 : n ≤ 20000) : OkRow [List.replicate n (Im.ev wGo)] := ⟨wide_okP n, by simp, by simp, by simpa using h1⟩
theorem end2 {σ : L2.St} {H : Hp} : EvP (tMake A.cFolded (spFInit K A) [] E0 (tCons (tLst (tCons (tOp rRep (tLst (tCons (tC (.str "go")) tNil)) (tC (.int 20000))) tNil)) tNil)) σ H (FolW K A (List.replicate 20000 wGo)) :=
  (fol_make (ps := [List.replicate 20000 (Im.ev wGo)]) (rws_lst (rws_cons (by
    rw [← go_rep]
    exact el_rep1 (n := 20000) ev_c ev_c (by decide)) rws_nil) (by simp)) (wide_row 20000 (by decide))).imp fun v H1 _ ⟨f, h1, h2⟩ => ⟨f, _, h1, h2, wide_row 20000 (by decide), by
    show unf1 [List.replicate 20000 (Im.ev wGo)] 0 = _
    rw [unf1_eq (wide_row 20000 (by decide)).ok (show ([List.replicate 20000 (Im.ev wGo)] : List (List Im))[0]? = some (List.replicate 20000 (Im.ev wGo)) from rfl), ev_rep]⟩
theorem end3 {σ : L2.St} {H : Hp} : EvP (tMake A.cFolded (spFInit K A) [] E0 (tCons (tLst (tCons (tOp rRep (tLst (tCons (tC (.str "go")) tNil)) (tC (.int 100))) (tCons (tOp rRep (tLst (tCons (tC (.int 0)) tNil)) (tC (.int 100))) tNil))) tNil)) σ H (FolW K A (List.replicate 10000 wGo)) :=
  (fol_make (ps := parts4) (rws_lst (rws_cons (by
    rw [← go_rep]
    exact el_rep1 (n := 100) ev_c ev_c (by decide)) (rws_cons (by
    have e : (List.replicate 100 (Im.at 0)).map Im.v = List.replicate (100 : Int).toNat (V.int 0) := by rw [List.map_replicate]; rfl
    rw [e]
    exact el_rep1 (n := 100) ev_c ev_c (by decide)) rws_nil)) (by decide)) parts4_ok).imp fun v H1 _ ⟨f, h1, h2⟩ => ⟨f, _, h1, h2, parts4_ok, parts4_unf⟩
theorem ev_lenTu {σ : L2.St} {H : Hp} {te : TE} {xs : List V} (h : EvP te σ H fun v H1 => ∃ t, v = .ref t ∧ H1 t = some (.tup xs)) : Ev (tCB (rLenS K) (tCons te tNil)) σ H (.int ((xs.length : Nat) : Int)) := fun H1 e Q q =>
  h H1 e _ fun v H2 e2 ⟨t, hv, ht⟩ => ⟨t, xs, by rw [hv], .inr (st_of ht), q H2 e2⟩
theorem wdN_at : ∀ i, i < 6 → ([V.int 1, V.int 2, V.int 3, V.int 5, V.int 8, V.int 13])[i]? = some (V.int ((wdN.getD i 0 : Nat) : Int))
  | 0, _ => rfl
  | 1, _ => rfl
  | 2, _ => rfl
  | 3, _ => rfl
  | 4, _ => rfl
  | 5, _ => rfl
  | i + 6, h => by omega
def spLaw (K : PySem.W.Frag) (Pt : Addr) : Sp := fun vs H Q _ => ∃ (s : Addr) (ns : List Int), vs = [.ref s] ∧ SqL K H s (ns.map V.int) ∧ H Pt = some (.tbl #[]) ∧ ∀ H', Q (.bl true) H'
theorem ok_law {fB fT : FuncData} {c Pt : Addr} (F : F10 K A) (T : T10 mg K A) (C : CF K A) (CS2 : CSh K A) (XH : HX K A) (TB : BV P K A fB) (TM1 : TM P K A fT) (hc : F.fLaw.code = Value.ref c) (tb : TabB base mg c Pt) :
    FnOk P w K mg base CX0 13 A.aLaw F.fLaw ["script"] (spLaw K Pt) := by
  have bPen : Binds K F.fPen ["script"] [] := F.FPen.binds (fun _ _ _ _ _ _ us hl => match us, hl with | [_], _ => rfl)
  have bDraw : Binds K F.fDraw ["pen", "many"] [] := F.FDraw.binds (fun _ _ _ _ _ _ us hl => match us, hl with | [_, _], _ => rfl)
  have bPick : Binds K F.fPick ["pen", "some"] [] := F.FPick.binds (fun _ _ _ _ _ _ us hl => match us, hl with | [_, _], _ => rfl)
  have bFInit : Binds K F.fFInit ["self", "parts"] [] := F.FFInit.binds (fun _ _ _ _ _ _ us hl => match us, hl with | [_, _], _ => rfl)
  have bCounted : Binds K F.fCounted ["row"] [] := F.FCounted.binds (fun _ _ _ _ _ _ us hl => match us, hl with | [_], _ => rfl)
  have bEventAt : Binds K F.fEventAt ["row", "number"] [] := F.FEventAt.binds (fun _ _ _ _ _ _ us hl => match us, hl with | [_, _], _ => rfl)
  have bFirstOf : Binds K F.fFirstOf ["row", "many"] [] := F.FFirstOf.binds (fun _ _ _ _ _ _ us hl => match us, hl with | [_, _], _ => rfl)
  have bUnfolded : Binds K F.fUnfolded ["row"] [] := F.FUnfolded.binds (fun _ _ _ _ _ _ us hl => match us, hl with | [_], _ => rfl)
  have bJoined : Binds K F.fJoined ["rows"] [] := F.FJoined.binds (fun _ _ _ _ _ _ us hl => match us, hl with | [_], _ => rfl)
  have GPen := (ok_pen (P := P) (w := w) (mg := mg) (base := base) F T).mono (show 1 ≤ 12 by omega)
  have GDraw := (ok_draw (P := P) (w := w) (mg := mg) (base := base) F T).mono (show 1 ≤ 12 by omega)
  have GPick := (ok_pick (P := P) (w := w) (mg := mg) (base := base) F T).mono (show 2 ≤ 12 by omega)
  have GFInit := (ok_finit (P := P) (w := w) (mg := mg) (base := base) F T C).mono (show 5 ≤ 11 by omega)
  have GCounted := (ok_counted (P := P) (w := w) (mg := mg) (base := base) rank_words F T C).mono (show 2 ≤ 12 by omega)
  have GEventAt := (ok_eventAt (P := P) (w := w) (mg := mg) (base := base) F T C).mono (show 4 ≤ 12 by omega)
  have GFirstOf := (ok_firstOf (P := P) (w := w) (mg := mg) (base := base) F T C).mono (show 8 ≤ 12 by omega)
  have GUnfolded := (ok_unfolded (P := P) (w := w) (mg := mg) (base := base) F T C).mono (show 2 ≤ 12 by omega)
  have GJoined := (ok_joined (P := P) (w := w) (mg := mg) (base := base) F T C CS2).mono (show 8 ≤ 12 by omega)
  obtain ⟨oc, od, kV, doc, pm, an, cdv, ct, osl, e, lk, hcd⟩ := F.FLaw.ex
  have ec : cdv = .ref c := by
    rw [e] at hc
    exact hc
  subst ec
  rw [e] at lk ⊢
  refine fn_of lk hcd scLaw (fun vs H Q E h => ?_) fun Ar outer s H vs Q E hr h => ?_
  · obtain ⟨x, ns, rfl, _⟩ := h
    rfl
  · obtain ⟨sa, ns, rfl, hs, hPt, k⟩ := h
    have key : ∃ t, PSs (ZL P w K mg base A.aLaw c Ar outer s H E) (defBody sLaw) t ∧ t { nx := fun _ H' => Q .non H', rt := Q } (start Nlaw [.ref sa]) H := by
      have hr1 := hr
      have hrM := hr
      have hu := hr.units
      have pL1 := pl1 (w := w) (outer := outer) (H := H) (E := E) F T C XH TB tb hr
      have pL2 := pl2 (w := w) (outer := outer) (H := H) (E := E) F T C XH TB tb hr
      have pL3 := pl3 (w := w) (outer := outer) (H := H) (E := E) F T C XH TB tb hr TM1
      have pL4 := pl4 (w := w) (outer := outer) (H := H) (E := E) F T C XH TB tb hr
      refine ⟨_, (pss_cons (ps_set (i := 1) scLaw.nd rfl (Or.inl rfl) (pe_call GPen hr1 rfl T.gPen T.kPen bPen .nil pass0 (pa_cons (pv 0) pa_nil)))
  (pss_cons (ps_asg (pe_tup (pa_cons (pe_op op_add pe_int (pe_call GDraw hr1 rfl T.gDraw T.kDraw bDraw .nil pass0 (pa_cons (pv 1) (pa_cons pe_int pa_nil)))) (pa_cons (pe_call GPick hr1 rfl T.gPick T.kPick bPick .nil pass0 (pa_cons (pv 1) (pa_cons (pe_lst (pa_cons pe_int (pa_cons pe_int (pa_cons pe_int (pa_cons pe_int pa_nil))))) pa_nil))) pa_nil))) (pg_tup rfl (pgs_cons (pg_name (i := 2) scLaw.nd rfl (Or.inr rfl)) (pgs_cons (pg_name (i := 3) scLaw.nd rfl (Or.inl rfl)) pgs_nil))))
  (pss_cons (ps_set (i := 4) scLaw.nd rfl (Or.inl rfl) (pe_make C.mkF GFInit hrM rfl T.gFolded bFInit .nil pass0 (pa_cons (pe_op op_cat (pe_lst (pa_cons (pe_lst (pa_cons pe_str pa_nil)) pa_nil)) (pe_lc (own := [("at", 5)]) rfl scLaw.nd (pi_range1 rfl T.b_range (pa_cons (pv 3) pa_nil)) (blkOk_by (own := [("at", 5)]) (N := ["script", "pen", "base", "deep", "row", "at", "size", "turn", "many", "steps", "golden", "counts", "word", "spot", "marked", "whole", "heard"]) (sc := defScope (top 41)) (by decide +kernel)) (fun _ _ _ _ _ => (pg_name (i := 5) scLaw.nd rfl (Or.inl rfl))) (fun _ _ _ _ _ => pts_nil) (fun _ _ _ _ _ => (pe_op op_rep (pe_lst (pa_cons (pv 5) pa_nil)) (pv 2))))) pa_nil)))
  (pss_cons (ps_set (i := 6) scLaw.nd rfl (Or.inl rfl) pe_int)
  (pss_cons (ps_for PassesOwn.never rfl (pi_range1 rfl T.b_range (pa_cons (pv 3) pa_nil)) (pg_name (i := 7) scLaw.nd rfl (Or.inl rfl)) (pss_one (ps_set (i := 6) scLaw.nd rfl (Or.inl rfl) (pe_op op_mulW (pv 6) (pv 2)))))
  (pss_cons (ps_if (PW.pt (pw_or (pt_cmpR op_ne (pe_fld (pv 4) rfl) (pv 6) (nomark _)) (pw_or (pt_cmpR (op_neD hu) (pe_call GCounted hr1 rfl T.gCounted T.kCounted bCounted .nil pass0 (pa_cons (pv 4) pa_nil)) (pe_tup (pa_cons (pe_tup (pa_cons pe_str (pa_cons (pv 6) pa_nil))) pa_nil)) (nomark _)) (pw_or (pt_cmpR op_ne (pe_call GEventAt hr1 rfl T.gEventAt T.kEventAt bEventAt .nil pass0 (pa_cons (pv 4) (pa_cons (pe_op op_sub (pv 6) pe_int) pa_nil))) pe_str (nomark _)) (pw_or1 (pt_cmpR op_ne (pe_call GEventAt hr1 rfl T.gEventAt T.kEventAt bEventAt .nil pass0 (pa_cons (pv 4) (pa_cons (pe_callTy call_int1 (by rfl) T.b_int (by decide +kernel) (pa_cons (pe_op op_fdivW (pv 6) pe_int) pa_nil)) pa_nil))) pe_str (nomark _))))))) (pss_one (ps_ret pe_bl)) pss_nil)
  (pss_cons (ps_set (i := 8) scLaw.nd rfl (Or.inl rfl) (pe_callTy call_int1 (by rfl) T.b_int (by decide +kernel) (pa_cons (pe_op op_fdivW (pv 6) (pe_op op_add pe_int (pe_call GDraw hr1 rfl T.gDraw T.kDraw bDraw .nil pass0 (pa_cons (pv 1) (pa_cons pe_int pa_nil))))) pa_nil)))
  (pss_cons (ps_if (PW.pt (pw_or (pt_cmpR op_ne (pe_fld (pe_call GFirstOf hr1 rfl T.gFirstOf T.kFirstOf bFirstOf .nil pass0 (pa_cons (pv 4) (pa_cons (pv 8) pa_nil))) rfl) (pv 8) (nomark _)) (pw_or1 (pt_cmpR (op_neD hu) (pe_call GCounted hr1 rfl T.gCounted T.kCounted bCounted .nil pass0 (pa_cons (pe_call GFirstOf hr1 rfl T.gFirstOf T.kFirstOf bFirstOf .nil pass0 (pa_cons (pv 4) (pa_cons (pv 8) pa_nil))) pa_nil)) (pe_ifExp (pt_cmpR op_gt (pv 8) pe_int (nomark _)) (pe_tup (pa_cons (pe_tup (pa_cons pe_str (pa_cons (pv 8) pa_nil))) pa_nil)) (pe_tup pa_nil)) (nomark _))))) (pss_one (ps_ret pe_bl)) pss_nil)
  (pss_cons (ps_set (i := 9) scLaw.nd rfl (Or.inl rfl) (pe_op op_add pe_int (pe_call GDraw hr1 rfl T.gDraw T.kDraw bDraw .nil pass0 (pa_cons (pv 1) (pa_cons pe_int pa_nil)))))
  (pss_cons (ps_set (i := 10) scLaw.nd rfl (Or.inr rfl) (pe_make C.mkF GFInit hrM rfl T.gFolded bFInit .nil pass0 (pa_cons (pe_op op_cat (pe_lst (pa_cons (pe_lst (pa_cons pe_str pa_nil)) (pa_cons (pe_lst (pa_cons pe_str (pa_cons pe_str pa_nil))) pa_nil))) (pe_lc (own := [("at", 5)]) rfl scLaw.nd (pi_range1 rfl T.b_range (pa_cons (pv 9) pa_nil)) (blkOk_by (own := [("at", 5)]) (N := ["script", "pen", "base", "deep", "row", "at", "size", "turn", "many", "steps", "golden", "counts", "word", "spot", "marked", "whole", "heard"]) (sc := defScope (top 41)) (by decide +kernel)) (fun _ _ _ _ _ => (pg_name (i := 5) scLaw.nd rfl (Or.inl rfl))) (fun _ _ _ _ _ => pts_nil) (fun _ _ _ _ _ => (pe_lst (pa_cons (pe_op op_add (pv 5) pe_int) (pa_cons (pv 5) pa_nil)))))) pa_nil)))
  (pss_cons (ps_set (i := 11) scLaw.nd rfl (Or.inl rfl) (pe_lst (pa_cons (pe_tup (pa_cons pe_int (pa_cons pe_int pa_nil))) (pa_cons (pe_tup (pa_cons pe_int (pa_cons pe_int pa_nil))) pa_nil))))
  (pss_cons (ps_for PassesOwn.never rfl (pi_range1 rfl T.b_range (pa_cons (pv 9) pa_nil)) (pg_name (i := 7) scLaw.nd rfl (Or.inl rfl)) (pss_one (ps_expr (pe_bm PySem.F.plainAttrs_list PySem.F.slot_list_append PySem.F.type_list_append mt_append (pv 11) (pa_cons (pe_tup (pa_cons (pe_op op_add (pe_ix ix_tup (pe_ix ix_list (pv 11) (pe_un un_neg pe_int) (fun _ _ => rfl)) pe_int (fun _ _ => rfl)) (pe_ix ix_tup (pe_ix ix_list (pv 11) (pe_un un_neg pe_int) (fun _ _ => rfl)) pe_int (fun _ _ => rfl))) (pa_cons (pe_op op_add (pe_ix ix_tup (pe_ix ix_list (pv 11) (pe_un un_neg pe_int) (fun _ _ => rfl)) pe_int (fun _ _ => rfl)) (pe_ix ix_tup (pe_ix ix_list (pv 11) (pe_un un_neg pe_int) (fun _ _ => rfl)) pe_int (fun _ _ => rfl))) pa_nil))) pa_nil)))))
  (pss_cons (ps_if (PW.pt (pw_or (pt_cmpR op_ne (pe_fld (pv 10) rfl) (pe_callB (cr_sumT rfl) (by rfl) T.b_sum (by decide +kernel) (pa_cons (pe_ix ix_list (pv 11) (pe_un un_neg pe_int) (fun _ _ => rfl)) pa_nil)) (nomark _)) (pw_or1 (pt_cmpR (op_neD hu) (pe_call GCounted hr1 rfl T.gCounted T.kCounted bCounted .nil pass0 (pa_cons (pv 10) pa_nil)) (pe_tup (pa_cons (pe_tup (pa_cons pe_str (pa_cons (pe_ix ix_tup (pe_ix ix_list (pv 11) (pe_un un_neg pe_int) (fun _ _ => rfl)) pe_int (fun _ _ => rfl)) pa_nil))) (pa_cons (pe_tup (pa_cons pe_str (pa_cons (pe_ix ix_tup (pe_ix ix_list (pv 11) (pe_un un_neg pe_int) (fun _ _ => rfl)) pe_int (fun _ _ => rfl)) pa_nil))) pa_nil))) (nomark _))))) (pss_one (ps_ret pe_bl)) pss_nil)
  (pss_cons (ps_set (i := 12) scLaw.nd rfl (Or.inl rfl) (pe_lst (pa_cons pe_str (pa_cons pe_str pa_nil))))
  (pss_cons (ps_for PassesOwn.never rfl (pi_range1 rfl T.b_range (pa_cons pe_int pa_nil)) (pg_name (i := 7) scLaw.nd rfl (Or.inl rfl)) (pss_one (ps_set (i := 12) scLaw.nd rfl (Or.inl rfl) (pe_ifExp (pt_cmpR op_gt (pv 7) pe_int (nomark _)) (pe_op op_cat (pv 12) (pe_slice sl_list (pv 12) po_none (po_some (pe_ix ix_list (pe_lst (pa_cons pe_int (pa_cons pe_int (pa_cons pe_int (pa_cons pe_int (pa_cons pe_int (pa_cons pe_int pa_nil))))))) (pv 7) (fun _ _ => rfl))))) (pe_op op_cat (pv 12) (pe_lst (pa_cons pe_str pa_nil)))))))
  (pss_cons (ps_set (i := 13) scLaw.nd rfl (Or.inl rfl) (pe_call GDraw hr1 rfl T.gDraw T.kDraw bDraw .nil pass0 (pa_cons (pv 1) (pa_cons pe_int pa_nil))))
  (pss_cons (ps_if (PW.pt (pw_or (pt_cmpR (op_neD hu) (pe_lc (own := [("at", 5)]) rfl scLaw.nd (pi_range1 rfl T.b_range (pa_cons (pe_callB (call_min2 rfl) (by rfl) T.b_min (by decide +kernel) (pa_cons pe_int (pa_cons (pe_fld (pv 10) rfl) pa_nil))) pa_nil)) (blkOk_by (own := [("at", 5)]) (N := ["script", "pen", "base", "deep", "row", "at", "size", "turn", "many", "steps", "golden", "counts", "word", "spot", "marked", "whole", "heard"]) (sc := defScope (top 41)) (by decide +kernel)) (fun _ _ _ _ _ => (pg_name (i := 5) scLaw.nd rfl (Or.inl rfl))) (fun _ _ _ _ _ => pts_nil) (fun _ _ _ _ _ => (pe_call GEventAt hr1 rfl T.gEventAt T.kEventAt bEventAt .nil pass0 (pa_cons (pv 10) (pa_cons (pv 5) pa_nil))))) (pe_slice sl_list (pv 12) po_none (po_some (pe_callB (call_min2 rfl) (by rfl) T.b_min (by decide +kernel) (pa_cons pe_int (pa_cons (pe_fld (pv 10) rfl) pa_nil))))) (nomark _)) (pw_or1 (PW.pt (pw_and (pt_cmpR op_lt (pv 13) (pe_fld (pv 10) rfl) (nomark _)) (pw_and1 (pt_cmpR (op_neD hu) (pe_call GUnfolded hr1 rfl T.gUnfolded T.kUnfolded bUnfolded .nil pass0 (pa_cons (pe_call GFirstOf hr1 rfl T.gFirstOf T.kFirstOf bFirstOf .nil pass0 (pa_cons (pv 10) (pa_cons (pv 13) pa_nil))) pa_nil)) (pe_callTy call_tuple_of (by rfl) T.b_tuple (by decide +kernel) (pa_cons (pe_slice sl_list (pv 12) po_none (po_some (pv 13))) pa_nil)) (nomark _)))))))) (pss_one (ps_ret pe_bl)) pss_nil)
  (pss_cons (ps_set (i := 14) scLaw.nd rfl (Or.inl rfl) (pe_make C.mkF GFInit hrM rfl T.gFolded bFInit .nil pass0 (pa_cons (pe_op op_cat (pe_lst (pa_cons (pe_lst (pa_cons pe_str (pa_cons pe_str pa_nil))) pa_nil)) (pe_lc (own := [("at", 5)]) rfl scLaw.nd (pi_range1 rfl T.b_range (pa_cons pe_int pa_nil)) (blkOk_by (own := [("at", 5)]) (N := ["script", "pen", "base", "deep", "row", "at", "size", "turn", "many", "steps", "golden", "counts", "word", "spot", "marked", "whole", "heard"]) (sc := defScope (top 41)) (by decide +kernel)) (fun _ _ _ _ _ => (pg_name (i := 5) scLaw.nd rfl (Or.inl rfl))) (fun _ _ _ _ _ => pts_nil) (fun _ _ _ _ _ => (pe_lst (pa_cons (pv 5) (pa_cons (pv 5) (pa_cons pe_str pa_nil))))))) pa_nil)))
  (pss_cons (ps_if (PW.pt (pw_or (pt_cmpR op_ne (pe_fld (pv 14) rfl) (pe_op op_sub (pe_op op_mul (pe_op op_mul pe_int (pe_op op_pow pe_int pe_int)) (pe_op op_pow pe_int pe_int)) pe_int) (nomark _)) (pw_or1 (pt_cmpR (op_neD hu) (pe_call GCounted hr1 rfl T.gCounted T.kCounted bCounted .nil pass0 (pa_cons (pv 14) pa_nil)) (pe_tup (pa_cons (pe_tup (pa_cons pe_str (pa_cons (pe_op op_mul (pe_op op_mul pe_int (pe_op op_pow pe_int pe_int)) (pe_op op_pow pe_int pe_int)) pa_nil))) (pa_cons (pe_tup (pa_cons pe_str (pa_cons (pe_op op_sub (pe_op op_mul (pe_op op_pow pe_int pe_int) (pe_op op_pow pe_int pe_int)) pe_int) pa_nil))) pa_nil))) (nomark _))))) (pss_one (ps_ret pe_bl)) pss_nil)
  (pss_cons (ps_set (i := 15) scLaw.nd rfl (Or.inl rfl) (pe_call GJoined hr1 rfl T.gJoined T.kJoined bJoined .nil pass0 (pa_cons (pe_lst (pa_cons (pv 4) (pa_cons (pv 10) (pa_cons (pv 4) pa_nil)))) pa_nil)))
  (pss_cons (ps_if (PW.pt (pw_or (pt_cmpR op_ne (pe_fld (pv 15) rfl) (pe_op op_add (pe_op op_mul pe_int (pv 6)) (pe_fld (pv 10) rfl)) (nomark _)) (pw_or (pt_cmpR op_ne (pe_call GEventAt hr1 rfl T.gEventAt T.kEventAt bEventAt .nil pass0 (pa_cons (pv 15) (pa_cons (pv 6) pa_nil))) pe_str (nomark _)) (pw_or (pt_cmpR op_ne (pe_call GEventAt hr1 rfl T.gEventAt T.kEventAt bEventAt .nil pass0 (pa_cons (pv 15) (pa_cons (pe_op op_add (pv 6) (pe_fld (pv 10) rfl)) pa_nil))) pe_str (nomark _)) (pw_or1 (pt_cmpR op_ne (pe_fld (pe_call GFirstOf hr1 rfl T.gFirstOf T.kFirstOf bFirstOf .nil pass0 (pa_cons (pv 15) (pa_cons (pe_op op_add (pv 6) pe_int) pa_nil))) rfl) (pe_op op_add (pv 6) pe_int) (nomark _))))))) (pss_one (ps_ret pe_bl)) pss_nil)
  (pss_cons (ps_set (i := 16) scLaw.nd rfl (Or.inl rfl) (pe_lst (pa_cons pL1 (pa_cons pL2 (pa_cons pL3 pa_nil)))))
  (pss_cons (ps_set (i := 16) scLaw.nd rfl (Or.inl rfl) (pe_op op_cat (pv 16) (pe_lst (pa_cons pL4 pa_nil))))
  (pss_cons (ps_if (pt_cmpR (op_neD hu) (pv 16) (pe_op op_cat (pe_op op_rep (pe_lst (pa_cons (pe_tup (pa_cons pe_str (pa_cons pe_str pa_nil))) pa_nil)) pe_int) (pe_lst (pa_cons (pe_tup (pa_cons pe_str (pa_cons pe_str (pa_cons pe_int pa_nil)))) (pa_cons (pe_tup (pa_cons pe_str (pa_cons pe_str pa_nil))) pa_nil)))) (nomark _)) (pss_one (ps_ret pe_bl)) pss_nil)
  (pss_one (ps_ret (pe_and (pe_cmpR op_eq (pe_fld (pe_make C.mkF GFInit hrM rfl T.gFolded bFInit .nil pass0 (pa_cons (pe_op op_rep (pe_lst (pa_cons (pe_lst (pa_cons pe_str pa_nil)) pa_nil)) pe_int) pa_nil)) rfl) pe_int (nomark _)) (pe_and (pe_cmpR op_eq (pe_fld (pe_make C.mkF GFInit hrM rfl T.gFolded bFInit .nil pass0 (pa_cons (pe_lst (pa_cons (pe_op op_rep (pe_lst (pa_cons pe_str pa_nil)) pe_int) pa_nil)) pa_nil)) rfl) pe_int (nomark _)) (pe_one (pe_cmpR op_eq (pe_callB call_len_seq (by rfl) T.b_len (by decide +kernel) (pa_cons (pe_call GUnfolded hr1 rfl T.gUnfolded T.kUnfolded bUnfolded .nil pass0 (pa_cons (pe_make C.mkF GFInit hrM rfl T.gFolded bFInit .nil pass0 (pa_cons (pe_lst (pa_cons (pe_op op_rep (pe_lst (pa_cons pe_str pa_nil)) pe_int) (pa_cons (pe_op op_rep (pe_lst (pa_cons pe_int pa_nil)) pe_int) pa_nil))) pa_nil)) pa_nil)) pa_nil)) pe_int (nomark _))))))))))))))))))))))))))))))), ?_⟩
      change tSeq _ _ _ [some (.ref sa), none, none, none, none, none, none, none, none, none, none, none, none, none, none, none, none] _
      refine ⟨_, rfl, sa, ns, rfl, hs, fun p H1 e1 np pen1 => ?_⟩
      have tb1 := e1 _ _ hPt
      clear hs hPt np e1
      show tSeq _ _ _ [some (.ref sa), some (.ref p), none, none, none, none, none, none, none, none, none, none, none, none, none, none, none] H1
      refine base_deep (K := K) (n := 999998) rfl pen1 fun b d H2 hb2 hb4 hd3 hd sm2 pen2 => ?_
      have ptp : ∀ {Ha Hb : Hp} {m : Nat}, PenOk Ha p m → SameP p Ha Hb → Ha Pt = some (.tbl #[]) → Hb Pt = some (.tbl #[]) := fun {Ha Hb m} pen sm h => sm.ob Pt _ (fun e => by
        obtain ⟨ls, hl⟩ := pen.lst
        rw [e, hl] at h
        cases h) h
      have tb2 := ptp pen1 sm2 tb1
      clear sm2 tb1 pen1
      show tSeq _ _ _ [some (.ref sa), some (.ref p), some (.int ((b : Nat) : Int)), some (.int ((d : Nat) : Int)), none, none, none, none, none, none, none, none, none, none, none, none, none] H2
      refine q_aspP (mk_row hb4 hd) fun v H3 e3 hv => ?_
      obtain ⟨f, rfl, hf⟩ := hv
      have pen3 := pen2.ext e3
      have tb3 := e3 _ _ tb2
      clear pen2 tb2 e3
      show tSeq _ _ _ [some (.ref sa), some (.ref p), some (.int ((b : Nat) : Int)), some (.int ((d : Nat) : Int)), some (.ref f), none, none, none, none, none, none, none, none, none, none, none, none] H3
      refine q_asg (v := .int 1) ev_c fun H4 e4 => ?_
      show tSeq _ _ _ [some (.ref sa), some (.ref p), some (.int ((b : Nat) : Int)), some (.int ((d : Nat) : Int)), some (.ref f), none, some (.int 1), none, none, none, none, none, none, none, none, none, none] H4
      have ed : ((d : Nat) : Int).toNat = d := Int.toNat_natCast d
      refine q_forR1 (n := ((d : Nat) : Int)) (ea_cons (ev_var rfl) ea_nil) (by omega) (fun i σ' H' => ∃ x7 : Option V, σ' = [some (.ref sa), some (.ref p), some (.int ((b : Nat) : Int)), some (.int ((d : Nat) : Int)), some (.ref f), none, some (.int ((b ^ i : Nat) : Int)), x7, none, none, none, none, none, none, none, none, none] ∧ Ex H4 H') (fun H5 e5 => ⟨none, rfl, e5⟩) (fun i σ' H' hi h => ?_) (fun σ' H' h => ?_)
      · obtain ⟨x7, rfl, ex⟩ := h
        refine s_asg (v := .int ((b ^ (i + 1) : Nat) : Int)) (ev_is (ev_op (ev_var rfl) (ev_var rfl) (rv_I (wide_mul (a := 2001) (b := 3) ?_ ?_ (by decide) (by decide) (by decide)))) ?_) fun H6 e6 => ⟨_, rfl, ex.trans e6⟩
        · rw [Int.natAbs_natCast]
          exact pow_small hb4 (by omega)
        · rw [Int.natAbs_natCast]
          exact Nat.lt_of_le_of_lt hb4 (by decide)
        · rw [Nat.pow_succ, Int.natCast_mul]
      rw [ed] at h
      obtain ⟨N, hN⟩ : ∃ N, N = b ^ d := ⟨_, rfl⟩
      rw [← hN] at h
      obtain ⟨x7, rfl, e5⟩ := h
      have N0 : 0 < N := by
        rw [hN]
        exact Nat.pow_pos (by omega)
      have rowE : ∀ {Hx : Hp}, FolAt K A Hx f (rowP b d) → FolU K A (List.replicate N wGo) (.ref f) Hx := fun {Hx} h => by
        rw [hN]
        exact rowU ⟨f, rfl, h⟩ hb4 hd
      have ex4 := e4.trans e5
      have hf4 := hf.up ex4
      have pen4 := pen3.ext ex4
      have tb4 := ex4 _ _ tb3
      clear hf pen3 tb3 e4 e5 ex4 ed
      show tSeq _ _ _ [some (.ref sa), some (.ref p), some (.int ((b : Nat) : Int)), some (.int ((d : Nat) : Int)), some (.ref f), none, some (.int ((N : Nat) : Int)), x7, none, none, none, none, none, none, none, none, none] H'
      refine q_when (b := false) (et_or0 (et_neI (ev_lenF C (ep_w (evU_var FolU.up rfl (rowE hf4)))) (ev_var rfl) (by rw [List.length_replicate])) (et_or0 (et_sameD (ev_go (evU_var FolU.up rfl (rowE hf4)) N0) (evd_tup1 (evd_pair (ev_var rfl))) (shaped1 _)) (et_or0 (et_neS (ev_eventAt (n := N - 1) (ep_w (evU_var FolU.up rfl (rowE hf4))) (ev_is (ev_op (ev_var rfl) ev_c rv_I0) (congrArg V.int (by omega))) (rep_at (by omega))) ev_c)
        (et_neS (ev_eventAt (n := N / 3) (ep_w (evU_var FolU.up rfl (rowE hf4))) (ev_intI (ev_is (ev_op (ev_var rfl) ev_c (rv_I (wide_div (b := 2) (by decide) (by decide) (by decide) (by decide)))) (congrArg V.int (by omega)))) (rep_at (by omega))) ev_c)))) (fun h => by cases h) fun _ H5 e5 => ?_
      have hf5 := hf4.up e5
      have pen5 := pen4.ext e5
      have tb5 := e5 _ _ tb4
      clear hf4 pen4 tb4 e5
      show tSeq _ _ _ [some (.ref sa), some (.ref p), some (.int ((b : Nat) : Int)), some (.int ((d : Nat) : Int)), some (.ref f), none, some (.int ((N : Nat) : Int)), x7, none, none, none, none, none, none, none, none, none] H5
      obtain ⟨l5, hl5⟩ := pen5.lst
      refine ⟨_, rfl, _, rfl, p, 9, 999997, rfl, by decide, by decide, pen5, fun r H6 r0 r1 sm6 pen6 => ⟨2, r, rfl, rfl, ⟨_, _, rfl, rfl, wide_div (b := 4) (by omega) (by omega) (by decide) (by decide), .inl ⟨_, rfl, ?_⟩⟩⟩⟩
      obtain ⟨q, rfl⟩ : ∃ q : Nat, r = (q : Int) := ⟨r.toNat, by omega⟩
      have em : ((N : Nat) : Int) / (2 + (q : Int)) = ((N / (2 + q) : Nat) : Int) := by
        rw [Int.natCast_ediv, Int.natCast_add]
        rfl
      have hmN : N / (2 + q) ≤ N := Nat.div_le_self _ _
      have hf6 := sm6.fol hl5 hf5
      have tb6 := ptp pen5 sm6 tb5
      show tSeq _ _ _ [some (.ref sa), some (.ref p), some (.int ((b : Nat) : Int)), some (.int ((d : Nat) : Int)), some (.ref f), none, some (.int ((N : Nat) : Int)), x7, some (.int (((N : Nat) : Int) / (2 + (q : Int)))), none, none, none, none, none, none, none, none] H6
      rw [em]
      generalize N / (2 + q) = m at hmN
      clear hf5 pen5 tb5 hl5 sm6 em r0 r1
      have firE : ∀ {Hx : Hp} {σ : L2.St} {te tn : TE}, FolAt K A Hx f (rowP b d) → Ev te σ Hx (.ref f) → Ev tn σ Hx (.int ((m : Nat) : Int)) → EvP (tCall (spFirstOf K A) [] E0 (tCons te (tCons tn tNil))) σ Hx (FolU K A (List.replicate m wGo)) := fun {Hx σ te tn} h h1 h2 => by
        have q := fol_first (A := A) (K := K) (E := E0) (L := List.replicate N wGo) (EvP.is h1 fun H1 e => ⟨rowP b d, ⟨f, rfl, h.up e⟩, rowP_row hb4 hd, by rw [rowP_len, hN]; exact rowP_unf b d d (Nat.le_refl _), rowP_in b d, by rw [rowP_len]; omega, by
          rw [rowP_tot]
          have := Nat.mul_le_mul hd hb4
          omega⟩) h2 (by rw [List.length_replicate]; exact hmN)
        rw [List.take_replicate, Nat.min_eq_left hmN] at q
        exact q
      refine q_when (b := false) (et_or0 (et_neI (ev_lenF C (ep_w (firE hf6 (ev_var rfl) (ev_var rfl)))) (ev_var rfl) (by rw [List.length_replicate])) ?_) (fun h => by cases h) fun _ H7 e7 => ?_
      · by_cases hm0 : m = 0
        · have z := firE (σ := [some (.ref sa), some (.ref p), some (.int ((b : Nat) : Int)), some (.int ((d : Nat) : Int)), some (.ref f), none, some (.int ((N : Nat) : Int)), x7, some (.int ((m : Nat) : Int)), none, none, none, none, none, none, none, none]) hf6 (ev_var (i := 4) rfl) (ev_var (i := 8) rfl)
          subst hm0
          refine et_sameD (d := .tuple []) (ev_none z) (ep_if (b := false) (et_test (ev_is (ev_op (ev_var rfl) ev_c rv_I0) rfl)) (fun h => by cases h) fun _ => evd_tup evds_nil (by simp)) rfl
        · refine et_sameD (ev_go (firE hf6 (ev_var rfl) (ev_var rfl)) (by omega)) (ep_if (b := true) (et_test (ev_is (ev_op (ev_var rfl) ev_c rv_I0) (congrArg V.bl (decide_eq_true (by omega))))) (fun _ => evd_tup1 (evd_pair (ev_var rfl))) fun h => by cases h) (shaped1 _)
      have hf7 := hf6.up e7
      have pen7 := pen6.ext e7
      have tb7 := e7 _ _ tb6
      clear hf6 pen6 tb6 e7 firE
      show tSeq _ _ _ [some (.ref sa), some (.ref p), some (.int ((b : Nat) : Int)), some (.int ((d : Nat) : Int)), some (.ref f), none, some (.int ((N : Nat) : Int)), x7, some (.int ((m : Nat) : Int)), none, none, none, none, none, none, none, none] H7
      obtain ⟨l7, hl7⟩ := pen7.lst
      refine ⟨_, rfl, p, 300, 999996, rfl, by decide, by decide, pen7, fun r H8 r0 r1 sm8 pen8 => ⟨5, r, rfl, rfl, ?_⟩⟩
      obtain ⟨q2, rfl⟩ : ∃ q2 : Nat, r = (q2 : Int) := ⟨r.toNat, by omega⟩
      have en : (5 : Int) + (q2 : Int) = ((5 + q2 : Nat) : Int) := by omega
      have hf8 := sm8.fol hl7 hf7
      have tb8 := ptp pen7 sm8 tb7
      show tSeq _ _ _ [some (.ref sa), some (.ref p), some (.int ((b : Nat) : Int)), some (.int ((d : Nat) : Int)), some (.ref f), none, some (.int ((N : Nat) : Int)), x7, some (.int ((m : Nat) : Int)), some (.int ((5 : Int) + (q2 : Int))), none, none, none, none, none, none, none] H8
      rw [en]
      obtain ⟨n, hn⟩ : ∃ n, n = 5 + q2 := ⟨_, rfl⟩
      rw [← hn]
      have n5 : 5 ≤ n := by omega
      have n9 : n ≤ 305 := by omega
      clear hf7 pen7 tb7 hl7 sm8 en r0 r1 hn
      refine q_aspP (mk_gold (by omega)) fun v H9 e9 hv => ?_
      obtain ⟨g, rfl, hg9⟩ := hv
      have gU : ∀ {Hx : Hp}, FolAt K A Hx g (goldP n) → FolU K A (LG n) (.ref g) Hx := fun {Hx} h => goldU ⟨g, rfl, h⟩ (by omega)
      have hf9 := hf8.up e9
      have pen9 := pen8.ext e9
      have tb9 := e9 _ _ tb8
      clear hf8 pen8 tb8 e9
      show tSeq _ _ _ [some (.ref sa), some (.ref p), some (.int ((b : Nat) : Int)), some (.int ((d : Nat) : Int)), some (.ref f), none, some (.int ((N : Nat) : Int)), x7, some (.int ((m : Nat) : Int)), some (.int ((n : Nat) : Int)), some (.ref g), none, none, none, none, none, none] H9
      refine q_aspP (ep_two (xs := [.int 1, .int 0]) (ys := [.int 1, .int 1]) (eu_tup (ea_cons ev_c (ea_cons ev_c ea_nil)) (by simp)) (eu_tup (ea_cons ev_c (ea_cons ev_c ea_nil)) (by simp))) fun v H10 e10 hv => ?_
      obtain ⟨cl, ta, tb', rfl, hcl, hl10, hta, htb⟩ := hv
      have ct10 : CtAt H10 cl 0 := ⟨_, hl10, rfl, fun i hi => by
        match i, hi with
        | 0, _ => exact ⟨ta, rfl, hta⟩
        | 1, _ => exact ⟨tb', rfl, htb⟩
        | i + 2, hi => omega⟩
      clear hta htb hl10
      show tSeq _ _ _ [some (.ref sa), some (.ref p), some (.int ((b : Nat) : Int)), some (.int ((d : Nat) : Int)), some (.ref f), none, some (.int ((N : Nat) : Int)), x7, some (.int ((m : Nat) : Int)), some (.int ((n : Nat) : Int)), some (.ref g), some (.ref cl), none, none, none, none, none] H10
      have en : ((n : Nat) : Int).toNat = n := Int.toNat_natCast n
      refine q_forR1 (n := ((n : Nat) : Int)) (ea_cons (ev_var rfl) ea_nil) (by omega) (fun i σ' H' => ∃ x7 : Option V, σ' = [some (.ref sa), some (.ref p), some (.int ((b : Nat) : Int)), some (.int ((d : Nat) : Int)), some (.ref f), none, some (.int ((N : Nat) : Int)), x7, some (.int ((m : Nat) : Int)), some (.int ((n : Nat) : Int)), some (.ref g), some (.ref cl), none, none, none, none, none] ∧ Ex H9 H' ∧ CtAt H' cl i) (fun H11 e11 => ⟨_, rfl, e10.trans e11, ct10.up e11⟩) (fun i σ' H' hi h => ?_) (fun σ' H' h => ?_)
      · obtain ⟨x7, rfl, ex, ct⟩ := h
        obtain ⟨ys, c1, c2, c3⟩ := id ct
        refine s_appU (ys := [.int (((goldC (i + 2)).1 : Nat) : Int), .int (((goldC (i + 2)).2 : Nat) : Int)]) c1 (ev_var rfl) (eu_tup (ea_cons (ev_is (ev_op (ev_ct (j := 0) (ep_ct (k := 1) rfl ct ⟨by omega, by omega⟩ (ev_is (ev_un ev_c ru_neg) rfl)) (fun _ => ev_is ev_c rfl) rfl) (ev_ct (j := 0) (ep_ct (k := 2) rfl ct ⟨by omega, by omega⟩ (ev_is (ev_un ev_c ru_neg) rfl)) (fun _ => ev_is ev_c rfl) rfl) rv_I0) ?_)
          (ea_cons (ev_is (ev_op (ev_ct (j := 1) (ep_ct (k := 1) rfl ct ⟨by omega, by omega⟩ (ev_is (ev_un ev_c ru_neg) rfl)) (fun _ => ev_is ev_c rfl) rfl) (ev_ct (j := 1) (ep_ct (k := 2) rfl ct ⟨by omega, by omega⟩ (ev_is (ev_un ev_c ru_neg) rfl)) (fun _ => ev_is ev_c rfl) rfl) rv_I0) ?_) ea_nil)) (by simp)) (by omega) fun t H12 ht e12 h12 => ⟨_, rfl, Ex.mut (ex.trans e12) hcl, ?_⟩
        · show V.int ((((goldC (i + 1)).1 : Nat) : Int) + (((goldC i).1 : Nat) : Int)) = V.int (((goldC (i + 1)).1 + (goldC i).1 : Nat) : Int)
          rw [Int.natCast_add]
        · show V.int ((((goldC (i + 1)).2 : Nat) : Int) + (((goldC i).2 : Nat) : Int)) = V.int (((goldC (i + 1)).2 + (goldC i).2 : Nat) : Int)
          rw [Int.natCast_add]
        · have c12 := e12 _ _ c1
          refine ⟨ys ++ [.ref t], upd_same, by simp [c2], fun j hj => ?_⟩
          by_cases hlt : j < i + 2
          · obtain ⟨t', h1, h2⟩ := c3 j hlt
            have h3 := e12 _ _ h2
            have ne : t' ≠ cl := fun e => by rw [e, c12] at h3; cases h3
            exact ⟨t', by rw [List.getElem?_append_left (by omega)]; exact h1, by rw [upd_ne ne]; exact h3⟩
          · have ej : j = i + 2 := by omega
            subst ej
            have ne : t ≠ cl := fun e => by rw [e, c12] at h12; cases h12
            exact ⟨t, by rw [← c2]; simp, by rw [upd_ne ne]; exact h12⟩
      rw [en] at h
      obtain ⟨y7, rfl, ex, ct⟩ := h
      have hf10 := hf9.up ex
      have hg10 := hg9.up ex
      have pen10 := pen9.ext ex
      have tb10 := ex _ _ tb9
      clear hf9 hg9 pen9 tb9 ex ct10 e10 hcl en
      show tSeq _ _ _ [some (.ref sa), some (.ref p), some (.int ((b : Nat) : Int)), some (.int ((d : Nat) : Int)), some (.ref f), none, some (.int ((N : Nat) : Int)), y7, some (.int ((m : Nat) : Int)), some (.int ((n : Nat) : Int)), some (.ref g), some (.ref cl), none, none, none, none, none] H'
      refine q_when (b := false) (et_or0 (et_neI (ev_lenF C (ep_w (evU_var FolU.up rfl (gU hg10)))) (ev_sumT (ns := [(((goldC (n + 1)).1 : Nat) : Int), (((goldC (n + 1)).2 : Nat) : Int)]) (ep_ct (k := 1) rfl ct ⟨by omega, by omega⟩ (ev_is (ev_un ev_c ru_neg) rfl))) (by rw [LG_len, List.sum_cons, List.sum_cons, List.sum_nil]; omega))
        (et_sameD (ev_gold (evU_var FolU.up rfl (gU hg10))) (evd_tup2 (evd_pair (ev_ct (j := 1) (ep_ct (k := 1) rfl ct ⟨by omega, by omega⟩ (ev_is (ev_un ev_c ru_neg) rfl)) (fun _ => ev_is ev_c rfl) rfl)) (evd_pair (ev_ct (j := 0) (ep_ct (k := 1) rfl ct ⟨by omega, by omega⟩ (ev_is (ev_un ev_c ru_neg) rfl)) (fun _ => ev_is ev_c rfl) rfl))) (shaped2 okX_hit okX_up _ _))) (fun h => by cases h) fun _ H11 e11 => ?_
      have hf11 := hf10.up e11
      have hg11 := hg10.up e11
      have pen11 := pen10.ext e11
      have tb11 := e11 _ _ tb10
      clear hf10 hg10 pen10 tb10 ct e11
      show tSeq _ _ _ [some (.ref sa), some (.ref p), some (.int ((b : Nat) : Int)), some (.int ((d : Nat) : Int)), some (.ref f), none, some (.int ((N : Nat) : Int)), y7, some (.int ((m : Nat) : Int)), some (.int ((n : Nat) : Int)), some (.ref g), some (.ref cl), none, none, none, none, none] H11
      refine q_asgL (xs := (wdG 0).map V.str) (el_lst (ea_cons ev_c (ea_cons ev_c ea_nil)) (by show 2 ≤ 100000; decide)) fun wd0 H12 hwd0 e12 h12 => ?_
      have nwp : wd0 ≠ p := fun e => by
        obtain ⟨ls, hl⟩ := pen11.lst
        rw [e, hl] at hwd0
        cases hwd0
      have hf12 := hf11.up e12
      have hg12 := hg11.up e12
      have pen12 := pen11.ext e12
      have tb12 := e12 _ _ tb11
      clear hf11 hg11 pen11 tb11 e12 hwd0
      show tSeq _ _ _ [some (.ref sa), some (.ref p), some (.int ((b : Nat) : Int)), some (.int ((d : Nat) : Int)), some (.ref f), none, some (.int ((N : Nat) : Int)), y7, some (.int ((m : Nat) : Int)), some (.int ((n : Nat) : Int)), some (.ref g), some (.ref cl), some (.ref wd0), none, none, none, none] H12
      refine q_forR1 (n := 6) (ea_cons ev_c ea_nil) (by decide) (fun i σ' H' => ∃ (x7 : Option V) (wd : Addr), σ' = [some (.ref sa), some (.ref p), some (.int ((b : Nat) : Int)), some (.int ((d : Nat) : Int)), some (.ref f), none, some (.int ((N : Nat) : Int)), x7, some (.int ((m : Nat) : Int)), some (.int ((n : Nat) : Int)), some (.ref g), some (.ref cl), some (.ref wd), none, none, none, none] ∧ Ex H12 H' ∧ H' wd = some (.lst ((wdG i).map V.str)) ∧ wd ≠ p) (fun H13 e13 => ⟨_, wd0, rfl, e13, e13 _ _ h12, nwp⟩) (fun i σ' H' hi h => ?_) (fun σ' H' h => ?_)
      · obtain ⟨x7, wd, rfl, ex, hwd, nw⟩ := h
        have hi6 : i < 6 := by omega
        obtain ⟨s1, s2, s3⟩ := wdG_step i hi6
        refine s_asgL (xs := (wdG (i + 1)).map V.str) (el_if (b := decide (0 < i)) (et_test (ev_is (ev_op (ev_var rfl) ev_c rv_I0) (congrArg V.bl (decide_eq_decide.mpr (by omega))))) (fun hb => ?_) fun hb => ?_) fun q H13 hq e13 h13 => ⟨_, q, rfl, ex.trans e13, h13, fun e => ?_⟩
        · have h0 : 0 < i := of_decide_eq_true hb
          have s4 := s2 h0
          rw [s1, if_pos h0, List.map_append]
          refine el_catV (ev_var rfl) hwd ?_ (by rw [List.length_map, List.length_map, List.length_take]; omega)
          rw [← cut_take _ _ s4]
          exact el_sl (ev_var rfl) eo_none (eo_some (ev_opL1 (xs := [V.int 1, V.int 2, V.int 3, V.int 5, V.int 8, V.int 13]) (el_lst (ea_cons ev_c (ea_cons ev_c (ea_cons ev_c (ea_cons ev_c (ea_cons ev_c (ea_cons ev_c ea_nil)))))) (by simp)) (fun H1 _ => ev_var rfl) fun p' H1 hp' _ => rv_ixL (sq_of hp') (atI_nat (wdN_at i hi6)))) (sq_of hwd)
        · have h0 : ¬ 0 < i := of_decide_eq_false hb
          rw [s1, if_neg h0, List.map_append]
          exact el_catV (ev_var rfl) hwd (el_lst (ea_cons ev_c ea_nil) (by simp)) (by rw [List.length_map]; simp; omega)
        · obtain ⟨ls, hl⟩ := (pen12.ext ex).lst
          rw [e, hl] at hq
          cases hq
      obtain ⟨z7, wd, rfl, ex, hwd, nw⟩ := h
      have hwd13 : H' wd = some (.lst ((w21 ++ w21.take 13).map V.str)) := hwd
      have hf13 := hf12.up ex
      have hg13 := hg12.up ex
      have pen13 := pen12.ext ex
      have tb13 := ex _ _ tb12
      clear hf12 hg12 pen12 tb12 ex hwd h12 nwp
      show tSeq _ _ _ [some (.ref sa), some (.ref p), some (.int ((b : Nat) : Int)), some (.int ((d : Nat) : Int)), some (.ref f), none, some (.int ((N : Nat) : Int)), z7, some (.int ((m : Nat) : Int)), some (.int ((n : Nat) : Int)), some (.ref g), some (.ref cl), some (.ref wd), none, none, none, none] H'
      obtain ⟨l13, hl13⟩ := pen13.lst
      refine ⟨_, rfl, p, 20, 999995, rfl, by decide, by decide, pen13, fun r H14 r0 r1 sm14 pen14 => ?_⟩
      obtain ⟨spot, rfl⟩ : ∃ q2 : Nat, r = (q2 : Int) := ⟨r.toNat, by omega⟩
      have sp20 : spot < 20 := by omega
      have hf14 := sm14.fol hl13 hf13
      have hg14 := sm14.fol hl13 hg13
      have tb14 := ptp pen13 sm14 tb13
      have hwd14 := sm14.ob wd _ nw hwd13
      clear hf13 hg13 pen13 tb13 hwd13 hl13 sm14 r0 r1 pen14
      dsimp only [gName]
      show tSeq (tIfS _ _ tNext) _ _ [some (.ref sa), some (.ref p), some (.int ((b : Nat) : Int)), some (.int ((d : Nat) : Int)), some (.ref f), none, some (.int ((N : Nat) : Int)), z7, some (.int ((m : Nat) : Int)), some (.int ((n : Nat) : Int)), some (.ref g), some (.ref cl), some (.ref wd), some (.int ((spot : Nat) : Int)), none, none, none] H14
      obtain ⟨lr, hlr⟩ := LG_pre n5
      have len21 : 21 ≤ (LG n).length := by rw [hlr, List.length_append]; simp
      have lt20 : ((spot : Nat) : Int) < (((LG n).length : Nat) : Int) := by omega
      have ok21 : ∀ x ∈ w21, PyData.strOk x = true := by decide +kernel
      have pre21 : ∀ j, j ≤ 21 → (LG n).take j = w21.take j := fun j hj => by rw [hlr, List.take_append_of_le_length (by simpa using hj)]
      have gE : ∀ {Hx : Hp} {σ : L2.St}, FolAt K A Hx g (goldP n) → σ[10]? = some (some (.ref g)) → EvP (tVar 10) σ Hx (FolU K A (LG n)) := fun {Hx σ} h hs => evU_var FolU.up hs (gU h)
      have min20 : ∀ {Hx : Hp} {σ : L2.St}, FolAt K A Hx g (goldP n) → σ[10]? = some (some (.ref g)) → Ev (tCB (fun xs H Q => ∃ i j, xs = [V.int i, V.int j] ∧ Q (V.int (if j < i then j else i)) H) (tCons (tC (V.int 20)) (tCons (tFld K (tVar 10) "length") tNil))) σ Hx (.int ((20 : Nat) : Int)) := fun {Hx σ} h hs =>
        ev_cb (ea_cons ev_c (ea_cons (ev_lenF C (ep_w (gE h hs))) ea_nil)) fun H1 e Q q => ⟨20, _, rfl, by
          rw [if_neg (by omega)]
          exact q H1 (Ex.refl H1)⟩
      refine q_when (b := false) (et_or0 (et_sameD (d := .list ((w21.take 20).map PyData.str)) (evd_ls ?_) (evd_ls ?_) (shaped_ls _ fun x hx => ok21 x (List.mem_of_mem_take hx)).1) (et_is (et_and (a := true) (b := false) (et_lt1 (ev_var rfl) (ev_lenF C (ep_w (gE hg14 rfl))) lt20) fun _ =>
        et_sameD (d := .tuple ((w21.take spot).map PyData.str)) (evd_ts (fol_unfolded (ep_w ?_) ?_)) (evd_ts ((EvP.ofU (eu_tupOf (xs := (w21.take spot).map V.str) ?_)).imp fun v H1 _ ⟨t, h1, _, h2⟩ => ⟨t, h1, h2⟩)) (shaped_ls _ fun x hx => ok21 x (List.mem_of_mem_take hx)).2) rfl)) (fun h => by cases h) fun _ H15 e15 => ?_
      · have q := el_lcR1 (σ := [some (.ref sa), some (.ref p), some (.int ((b : Nat) : Int)), some (.int ((d : Nat) : Int)), some (.ref f), none, some (.int ((N : Nat) : Int)), z7, some (.int ((m : Nat) : Int)), some (.int ((n : Nat) : Int)), some (.ref g), some (.ref cl), some (.ref wd), some (.int ((spot : Nat) : Int)), none, none, none]) (H := H14) (ta := tCons (tCB (fun xs H Q => ∃ i j, xs = [V.int i, V.int j] ∧ Q (V.int (if j < i then j else i)) H) (tCons (tC (V.int 20)) (tCons (tFld K (tVar 10) "length") tNil))) tNil) (te := tCall (spEventAt K A) [] E0 (tCons (tVar 10) (tCons (tVar 5) tNil))) (t := tYes) (j := 5) (vs := [5]) (n := ((20 : Nat) : Int)) (fun _ => true) (fun i => V.str (w21.getD i wUp)) (ea_cons (min20 hg14 rfl) ea_nil) (by decide) (fun x => rfl) (fun _ _ _ _ => et_yes)
          (fun i H1 e hi _ => ev_eventAt (n := i) (ep_w (gE (hg14.up e) rfl)) (ev_var rfl) (by
            rw [hlr, List.getElem?_append_left (by simp; omega)]
            have hi21 : i < w21.length := by simp; omega
            rw [List.getD_eq_getElem?_getD, List.getElem?_eq_getElem hi21]
            rfl))
        rw [given_all] at q
        exact q
      · have q := el_sl (K := K) (σ := [some (.ref sa), some (.ref p), some (.int ((b : Nat) : Int)), some (.int ((d : Nat) : Int)), some (.ref f), none, some (.int ((N : Nat) : Int)), z7, some (.int ((m : Nat) : Int)), some (.int ((n : Nat) : Int)), some (.ref g), some (.ref cl), some (.ref wd), some (.int ((spot : Nat) : Int)), none, none, none]) (H := H14) (te := tVar 12) (tl := tNoPart) (ev_var rfl) eo_none (eo_some (min20 hg14 rfl)) (sq_of hwd14)
        rw [cut_take _ 20 (by simp)] at q
        exact q
      · have q := fol_first (A := A) (K := K) (σ := [some (.ref sa), some (.ref p), some (.int ((b : Nat) : Int)), some (.int ((d : Nat) : Int)), some (.ref f), none, some (.int ((N : Nat) : Int)), z7, some (.int ((m : Nat) : Int)), some (.int ((n : Nat) : Int)), some (.ref g), some (.ref cl), some (.ref wd), some (.int ((spot : Nat) : Int)), none, none, none]) (te := tVar 10) (tn := tVar 13) (E := E0) (n := spot) (L := LG n) (H := H14) (EvP.is (ev_var rfl) fun H1 e => ⟨goldP n, ⟨g, rfl, hg14.up e⟩, goldP_row (by omega), by rw [goldP_len]; rfl, goldP_in n, by rw [goldP_len]; omega, by rw [goldP_tot]; omega⟩) (ev_var rfl) (by omega)
        rw [pre21 spot (by omega)] at q
        exact q
      · rw [List.length_take]
        omega
      · have q := el_sl (K := K) (σ := [some (.ref sa), some (.ref p), some (.int ((b : Nat) : Int)), some (.int ((d : Nat) : Int)), some (.ref f), none, some (.int ((N : Nat) : Int)), z7, some (.int ((m : Nat) : Int)), some (.int ((n : Nat) : Int)), some (.ref g), some (.ref cl), some (.ref wd), some (.int ((spot : Nat) : Int)), none, none, none]) (H := H14) (te := tVar 12) (tl := tNoPart) (ev_var rfl) eo_none (eo_some (i := ((spot : Nat) : Int)) (ev_var (i := 13) rfl)) (sq_of hwd14)
        rw [cut_take _ spot (by simp; omega), List.take_append_of_le_length (by simp; omega)] at q
        exact q
      have hf15 := hf14.up e15
      have hg15 := hg14.up e15
      have tb15 := e15 _ _ tb14
      clear hf14 hg14 tb14 hwd14 e15 min20
      show tSeq _ _ _ [some (.ref sa), some (.ref p), some (.int ((b : Nat) : Int)), some (.int ((d : Nat) : Int)), some (.ref f), none, some (.int ((N : Nat) : Int)), z7, some (.int ((m : Nat) : Int)), some (.int ((n : Nat) : Int)), some (.ref g), some (.ref cl), some (.ref wd), some (.int ((spot : Nat) : Int)), none, none, none] H15
      refine q_aspP mk_mark fun v H16 e16 hv => ?_
      obtain ⟨mk, rfl, hmk⟩ := hv
      have hf16 := hf15.up e16
      have hg16 := hg15.up e16
      have tb16 := e16 _ _ tb15
      clear hf15 hg15 tb15 e16
      obtain ⟨m80, h80⟩ : ∃ m80, m80 = 80 := ⟨_, rfl⟩
      have markE : FolU K A (LM m80) (.ref mk) H16 := by
        subst h80
        exact markU ⟨mk, rfl, hmk⟩ (by decide)
      have e80 : (2 : Nat) ^ m80 = 1208925819614629174706176 := by
        rw [h80]
      obtain ⟨c1, c2, c3⟩ := LM_cnt m80
      rw [e80] at c3
      have m80p : 0 < m80 := by omega
      show tSeq _ _ _ [some (.ref sa), some (.ref p), some (.int ((b : Nat) : Int)), some (.int ((d : Nat) : Int)), some (.ref f), none, some (.int ((N : Nat) : Int)), z7, some (.int ((m : Nat) : Int)), some (.int ((n : Nat) : Int)), some (.ref g), some (.ref cl), some (.ref wd), some (.int ((spot : Nat) : Int)), some (.ref mk), none, none] H16
      refine q_when (b := false) (et_or0 (et_neI (j := 3626777458843887524118527) (ev_lenF C (ep_w (evU_var FolU.up rfl markE))) (ev_is (ev_op (ev_op (ev_op ev_c (ev_op ev_c ev_c (rv_I ⟨by decide, by decide, by decide⟩)) (rv_I (.inl ⟨by decide, by decide⟩))) (ev_op ev_c ev_c (rv_I ⟨by decide, by decide, by decide⟩)) (rv_I (.inl ⟨by decide, by decide⟩))) ev_c rv_I0) (congrArg V.int (by decide))) (by omega))
        (et_sameD (ev_mark m80p (evU_var FolU.up rfl markE)) (evd_tup2 (evd_pair (ev_is (ev_op (ev_op ev_c (ev_op ev_c ev_c (rv_I ⟨by decide, by decide, by decide⟩)) (rv_I (.inl ⟨by decide, by decide⟩))) (ev_op ev_c ev_c (rv_I ⟨by decide, by decide, by decide⟩)) (rv_I (.inl ⟨by decide, by decide⟩))) (congrArg V.int (by rw [e80]; decide))))
          (evd_pair (ev_is (ev_op (ev_op (ev_op ev_c ev_c (rv_I ⟨by decide, by decide, by decide⟩)) (ev_op ev_c ev_c (rv_I ⟨by decide, by decide, by decide⟩)) (rv_I (.inl ⟨by decide, by decide⟩))) ev_c rv_I0) (congrArg V.int (by rw [e80]; decide))))) (shaped2 okX_go okX_hit _ _))) (fun h => by cases h) fun _ H17 e17 => ?_
      have hf17 := hf16.up e17
      have hg17 := hg16.up e17
      have tb17 := e17 _ _ tb16
      clear hf16 hg16 tb16 e17 markE hmk c1 c2 c3 e80 m80p h80
      show tSeq _ _ _ [some (.ref sa), some (.ref p), some (.int ((b : Nat) : Int)), some (.int ((d : Nat) : Int)), some (.ref f), none, some (.int ((N : Nat) : Int)), z7, some (.int ((m : Nat) : Int)), some (.int ((n : Nat) : Int)), some (.ref g), some (.ref cl), some (.ref wd), some (.int ((spot : Nat) : Int)), some (.ref mk), none, none] H17
      refine q_aspP (P := fun v H1 => ∃ wh qs, v = .ref wh ∧ FolAt K A H1 wh qs ∧ OkRow qs ∧ unf1 qs (qs.length - 1) = (List.replicate N wGo ++ (LG n ++ List.replicate N wGo)) ∧ qs.length < 2000 ∧ (qs.map List.length).sum ≤ 10000) (ep_call1 (P0 := fun v H1 => ∃ a, v = .ref a ∧ H1 a = some (.lst [V.ref f, V.ref g, V.ref f])) ((EvP.ofL (el_lst (ea_cons (ev_var rfl) (ea_cons (ev_var rfl) (ea_cons (ev_var rfl) ea_nil))) (by simp))).imp fun v H1 _ ⟨a, h1, _, h2⟩ => ⟨a, h1, h2⟩) fun v H1 e1 ⟨a, hv, ha⟩ Q qq => ?_) fun v H18 e18 hv => ?_
      · refine ⟨a, [f, g, f], [rowP b d, goldP n, rowP b d], by rw [hv]; rfl, sq_of ha, rfl, fun i ps hi => ?_, by simp, by simp, ?_, fun i => match i with | 0 => 0 | 1 => d + 1 | _ => d + 1 + (n + 2), fun i hi => ?_, fun i ps hi => ?_, fun f' H2 qs e2 ho hf' hu hl ht => qq _ H2 e2 ⟨f', qs, rfl, hf', ho, ?_, ?_, ?_⟩⟩
        · match i, hi with
          | 0, hi =>
            cases hi
            exact ⟨f, rfl, hf17.up e1, rowP_row hb4 hd, by rw [rowP_len]; omega⟩
          | 1, hi =>
            cases hi
            exact ⟨g, rfl, hg17.up e1, goldP_row (by omega), by rw [goldP_len]; omega⟩
          | 2, hi =>
            cases hi
            exact ⟨f, rfl, hf17.up e1, rowP_row hb4 hd, by rw [rowP_len]; omega⟩
          | i + 3, hi => cases hi
        · have := Nat.mul_le_mul hd hb4
          simp only [List.map_cons, List.map_nil, List.sum_cons, List.sum_nil, total, rowP_tot, goldP_tot]
          omega
        · match i, hi with
          | 0, _ => show 0 < 2000; omega
          | 1, _ => show d + 1 < 2000; omega
          | i + 2, _ => show d + 1 + (n + 2) < 2000; omega
        · match i, hi with
          | 0, hi =>
            cases hi
            right
            show 0 + (rowP b d).length ≤ d + 1
            rw [rowP_len]
            omega
          | 1, hi =>
            cases hi
            right
            show d + 1 + (goldP n).length ≤ d + 1 + (n + 2)
            rw [goldP_len]
            omega
          | 2, hi =>
            cases hi
            left
            exact ⟨⟨0, by omega, rfl⟩, Nat.le_refl _⟩
          | i + 3, hi => cases hi
        · rw [hu]
          have u1 : lastUnf (rowP b d) = List.replicate N wGo := by
            unfold lastUnf
            rw [rowP_len, hN]
            exact rowP_unf b d d (Nat.le_refl _)
          have u2 : lastUnf (goldP n) = LG n := by
            unfold lastUnf
            rw [goldP_len]
            rfl
          rw [List.flatMap_cons, List.flatMap_cons, List.flatMap_cons, List.flatMap_nil, List.append_nil, u1, u2]
        · have hl2 : qs.length ≤ d + 1 + (n + 2) + 1 := hl
          omega
        · have := Nat.mul_le_mul hd hb4
          have ht2 : (qs.map List.length).sum ≤ ([rowP b d, goldP n, rowP b d].map total).sum := ht
          simp only [List.map_cons, List.map_nil, List.sum_cons, List.sum_nil, total, rowP_tot, goldP_tot] at ht2
          omega
      obtain ⟨wh, qs, rfl, hwh, hoq, huq, lq, tq⟩ := hv
      have hg18 := hg17.up e18
      have tb18 := e18 _ _ tb17
      clear hf17 hg17 tb17 e18
      show tSeq _ _ _ [some (.ref sa), some (.ref p), some (.int ((b : Nat) : Int)), some (.int ((d : Nat) : Int)), some (.ref f), none, some (.int ((N : Nat) : Int)), z7, some (.int ((m : Nat) : Int)), some (.int ((n : Nat) : Int)), some (.ref g), some (.ref cl), some (.ref wd), some (.int ((spot : Nat) : Int)), some (.ref mk), some (.ref wh), none] H18
      have lenL : (List.replicate N wGo ++ (LG n ++ List.replicate N wGo)).length = 2 * N + (LG n).length := by
        rw [List.length_append, List.length_append, List.length_replicate]
        omega
      have wE : ∀ {σ : L2.St}, σ[15]? = some (some (.ref wh)) → EvP (tVar 15) σ H18 (FolW K A (List.replicate N wGo ++ (LG n ++ List.replicate N wGo))) := fun {σ} hs => evU_var FolW.up hs ⟨wh, qs, rfl, hwh, hoq, huq⟩
      have gW : ∀ {σ : L2.St}, σ[10]? = some (some (.ref g)) → Ev (tFld K (tVar 10) "length") σ H18 (.int (((LG n).length : Nat) : Int)) := fun {σ} hs => ev_lenF C (ep_w (gE hg18 hs))
      refine q_when (b := false) (et_or0 (et_neI (ev_lenF C (wE rfl)) (ev_op (ev_op ev_c (ev_var rfl) (rv_I (.inl ⟨by decide, by decide⟩))) (gW rfl) rv_I0) (by rw [lenL]; omega)) (et_or0 (et_neS (x := wUp) (ev_eventAt (n := N) (wE rfl) (ev_var rfl) ?_) ev_c) (et_or0 (et_neS (x := wGo) (ev_eventAt (n := N + (LG n).length) (wE rfl) (ev_is (ev_op (ev_var rfl) (gW rfl) rv_I0) (congrArg V.int (by omega))) ?_) ev_c)
        (et_neI (ev_lenF C (fol_firstW (n := N + 2) (L := (List.replicate N wGo ++ (LG n ++ List.replicate N wGo))) (EvP.is (ev_var rfl) fun H1 e => ⟨qs, ⟨wh, rfl, hwh.up e⟩, hoq, huq, lq, tq⟩) (ev_is (ev_op (ev_var rfl) ev_c rv_I0) (congrArg V.int (by omega))) (by rw [lenL]; omega))) (ev_op (ev_var rfl) ev_c rv_I0) (by rw [List.length_take, lenL]; omega))))) (fun h => by cases h) fun _ H19 e19 => ?_
      · rw [List.getElem?_append_right (by rw [List.length_replicate]; omega), List.length_replicate, Nat.sub_self, hlr]
        rfl
      · rw [List.getElem?_append_right (by rw [List.length_replicate]; omega), List.length_replicate, Nat.add_sub_cancel_left, List.getElem?_append_right (Nat.le_refl _), Nat.sub_self]
        exact rep_at N0
      have tb19 := e19 _ _ tb18
      clear tb18 e19 wE gW hwh hg18
      show tSeq _ _ _ [some (.ref sa), some (.ref p), some (.int ((b : Nat) : Int)), some (.int ((d : Nat) : Int)), some (.ref f), none, some (.int ((N : Nat) : Int)), z7, some (.int ((m : Nat) : Int)), some (.int ((n : Nat) : Int)), some (.ref g), some (.ref cl), some (.ref wd), some (.int ((spot : Nat) : Int)), some (.ref mk), some (.ref wh), none] H19
      have tabs : ∀ {Hx : Hp}, Hx Pt = some (.tbl #[]) → Tabs (LT Pt) Hx := fun {Hx} h q hq => by
        rw [List.mem_singleton.mp hq]
        exact TabS.nil h
      refine ⟨tabs tb19, fun Ha ea ta Hb eb _ => heard1 fun t1' Hc ec h1 => ?_⟩
      have taC := ta.ext (eb.trans ec)
      refine ⟨taC, fun Hd ed td He ee _ => heard2 fun t2' Hf ef h2 => ?_⟩
      have tdF := td.ext (ee.trans ef)
      have h1F := (ee.trans ef) _ _ (ed _ _ h1 (fun _ z => by cases z))
      refine ⟨tdF, fun Hg eg tg Hh eh _ => heard3 fun t3' Hi ei h3 => ?_⟩
      have tgI := tg.ext (eh.trans ei)
      have h1I := (eh.trans ei) _ _ (eg _ _ h1F (fun _ z => by cases z))
      have h2I := (eh.trans ei) _ _ (eg _ _ h2 (fun _ z => by cases z))
      refine ⟨by show 3 ≤ sizeLine; decide, fun he0 hhe0 => ?_⟩
      have exJ : Ex Hi (upd Hi he0 (.lst [V.ref t1', V.ref t2', V.ref t3'])) := Ex.new hhe0
      have hheJ : (upd Hi he0 (.lst [V.ref t1', V.ref t2', V.ref t3'])) he0 = some (.lst [V.ref t1', V.ref t2', V.ref t3']) := upd_same
      dsimp only [gName]
      show tSeq (tAsg _ (gName 16)) _ _ [some (.ref sa), some (.ref p), some (.int ((b : Nat) : Int)), some (.int ((d : Nat) : Int)), some (.ref f), none, some (.int ((N : Nat) : Int)), z7, some (.int ((m : Nat) : Int)), some (.int ((n : Nat) : Int)), some (.ref g), some (.ref cl), some (.ref wd), some (.int ((spot : Nat) : Int)), some (.ref mk), some (.ref wh), some (.ref he0)] (upd Hi he0 (.lst [V.ref t1', V.ref t2', V.ref t3']))
      generalize upd Hi he0 (.lst [V.ref t1', V.ref t2', V.ref t3']) = Hj at exJ hheJ
      have taJ := tgI.ext exJ
      have h1J := exJ _ _ h1I
      have h2J := exJ _ _ h2I
      have h3J := exJ _ _ h3
      clear tgI h1I h2I h3 exJ hhe0 h1F tdF taC ea eb ec ed ee ef eg eh ei
      refine ⟨_, rfl, taJ, fun Hk ek tk' Hl el _ => heard4 fun t4' Hm em h4 => ?_⟩
      have up5 : ∀ {q : Addr} {o : HO}, (∀ ps, o ≠ .tbl ps) → Hj q = some o → Hm q = some o := fun {q o} no h => (el.trans em) _ _ (ek _ _ h no)
      refine ⟨by show 1 ≤ sizeLine; decide, fun l4 hl4 => ?_⟩
      have ex6 : Ex Hm (upd Hm l4 (.lst [V.ref t4'])) := Ex.new hl4
      refine ⟨he0, l4, _, _, rfl, rfl, ex6 _ _ (up5 (fun _ z => by cases z) hheJ), upd_same, by show 3 + 1 ≤ sizeLine; decide, fun he hhe => ?_⟩
      have ex7 := ex6.trans (Ex.new (o := .lst ([V.ref t1', V.ref t2', V.ref t3'] ++ [V.ref t4'])) hhe)
      have heF : (upd (upd Hm l4 (.lst [V.ref t4'])) he (.lst ([V.ref t1', V.ref t2', V.ref t3'] ++ [V.ref t4']))) he = some (.lst [V.ref t1', V.ref t2', V.ref t3', V.ref t4']) := upd_same
      dsimp only [gName]
      show tSeq (tIfS _ _ tNext) _ _ [some (.ref sa), some (.ref p), some (.int ((b : Nat) : Int)), some (.int ((d : Nat) : Int)), some (.ref f), none, some (.int ((N : Nat) : Int)), z7, some (.int ((m : Nat) : Int)), some (.int ((n : Nat) : Int)), some (.ref g), some (.ref cl), some (.ref wd), some (.int ((spot : Nat) : Int)), some (.ref mk), some (.ref wh), some (.ref he)] (upd (upd Hm l4 (.lst [V.ref t4'])) he (.lst ([V.ref t1', V.ref t2', V.ref t3'] ++ [V.ref t4'])))
      have h1N := ex7 _ _ (up5 (fun _ z => by cases z) h1J)
      have h2N := ex7 _ _ (up5 (fun _ z => by cases z) h2J)
      have h3N := ex7 _ _ (up5 (fun _ z => by cases z) h3J)
      have h4N := ex7 _ _ h4
      generalize upd (upd Hm l4 (.lst [V.ref t4'])) he (.lst ([V.ref t1', V.ref t2', V.ref t3'] ++ [V.ref t4'])) = Hn at heF h1N h2N h3N h4N
      clear ex6 ex7 up5 hhe hl4 h4 h1J h2J h3J taJ hheJ ek el em tb19 ptp
      have left : EvD K (tVar 16) [some (.ref sa), some (.ref p), some (.int ((b : Nat) : Int)), some (.int ((d : Nat) : Int)), some (.ref f), none, some (.int ((N : Nat) : Int)), z7, some (.int ((m : Nat) : Int)), some (.int ((n : Nat) : Int)), some (.ref g), some (.ref cl), some (.ref wd), some (.int ((spot : Nat) : Int)), some (.ref mk), some (.ref wh), some (.ref he)] Hn (.list [.tuple [.str "value", .str "parts"], .tuple [.str "value", .str "parts"], .tuple [.str "many", .str "events", .int 10000], .tuple [.str "value", .str "events"]]) :=
        evd_of (ev_var rfl) (.lst (sq_of heF) (.cons (.tup (st_of h1N) (.cons (.str _) (.cons (.str _) .nil))) (.cons (.tup (st_of h2N) (.cons (.str _) (.cons (.str _) .nil))) (.cons (.tup (st_of h3N) (.cons (.str _) (.cons (.str _) (.cons (.int _) .nil)))) (.cons (.tup (st_of h4N) (.cons (.str _) (.cons (.str _) .nil))) .nil)))))
      refine q_when (b := false) (et_sameD left (ld_d (ld_cat (ld_rep2 (ld_lst (evds_cons (evd_tup (evds_cons (evd_str ev_c) (evds_cons (evd_str ev_c) evds_nil)) (by simp)) evds_nil) (by simp)) ev_c) (ld_lst (evds_cons (evd_tup (evds_cons (evd_str ev_c) (evds_cons (evd_str ev_c) (evds_cons (evd_int ev_c) evds_nil))) (by simp)) (evds_cons (evd_tup (evds_cons (evd_str ev_c) (evds_cons (evd_str ev_c) evds_nil)) (by simp)) evds_nil)) (by simp)) (by simp))) (by decide +kernel)) (fun h => by cases h) fun _ Ho eo => ?_
      clear left heF h1N h2N h3N h4N eo
      show tRet _ _ [some (.ref sa), some (.ref p), some (.int ((b : Nat) : Int)), some (.int ((d : Nat) : Int)), some (.ref f), none, some (.int ((N : Nat) : Int)), z7, some (.int ((m : Nat) : Int)), some (.int ((n : Nat) : Int)), some (.ref g), some (.ref cl), some (.ref wd), some (.int ((spot : Nat) : Int)), some (.ref mk), some (.ref wh), some (.ref he)] Ho
      exact s_ret (ev_is (ev_andV (a := true) (b := true && true) (ev_is (ev_op (ev_lenF C end1) ev_c (rv_eq rfl)) (by simp)) fun _ => ev_andV (a := true) (b := true) (ev_is (ev_op (ev_lenF C end2) ev_c (rv_eq rfl)) (by simp)) fun _ => ev_is (ev_op (ev_lenTu (fol_unfolded end3 (by simp))) ev_c (rv_eq rfl)) (by simp)) rfl) fun Hz ez => k Hz
    obtain ⟨t, h1, h2⟩ := key
    exact ⟨t, h1.nox, h2⟩
end

/-! ### the head -/
open LamX
def ad (K : PySem.W.Frag) : Ad where
  aIsInteger := He.ga K "is_integer"
  aIsWithin := He.ga K "is_within"
  aIsListed := He.ga K "is_listed"
  aIsName := He.ga K "is_name"
  aFixed := He.ga K "fixed"
  aIsItem := He.ga K "is_item"
  aAreParts := He.ga K "are_parts"
  aNeedFolded := He.ga K "need_folded"
  aLengthsOf := He.ga K "lengths_of"
  aIsEvent := He.ga K "is_event"
  aItemLength := He.ga K "item_length"
  aWithin := He.ga K "within"
  aUsedIn := He.ga K "used_in"
  aNeeded := He.ga K "needed"
  aFoldedOf := He.ga K "folded_of"
  aUnfolded := He.ga K "unfolded"
  aJoined := He.ga K "joined"
  aEventAt := He.ga K "event_at"
  aFirstOf := He.ga K "first_of"
  aCounted := He.ga K "counted"
  aPen := He.ga K "_law_pen"
  aDraw := He.ga K "_law_draw"
  aPick := He.ga K "_law_pick"
  aHeard := He.ga K "_law_dp_heard"
  aLaw := He.ga K "law"
  aFInit := He.ma K (He.ga K "Folded") "__init__"
  aFEq := He.ma K (He.ga K "Folded") "__eq__"
  aSInit := He.ma K (He.ga K "Sharing") "__init__"
  aSPut := He.ma K (He.ga K "Sharing") "put"
  aSItems := He.ma K (He.ga K "Sharing") "items"
  aBadValueI := He.ma K (He.ga K "BadValue") "__init__"
  aBadNumberI := He.ma K (He.ga K "BadNumber") "__init__"
  aMisfitI := He.ma K (He.ga K "Misfit") "__init__"
  aTooManyI := He.ma K (He.ga K "TooMany") "__init__"
  aNoNameI := He.ma K (He.ga K "NoName") "__init__"
  cChartError := He.ga K "ChartError"
  cBadValue := He.ga K "BadValue"
  cBadNumber := He.ga K "BadNumber"
  cMisfit := He.ga K "Misfit"
  cTooMany := He.ga K "TooMany"
  cNoName := He.ga K "NoName"
  cFolded := He.ga K "Folded"
  cSharing := He.ga K "Sharing"
def hfa : List He.Fa := [.glo "is_integer", .glo "is_within", .glo "is_listed", .glo "is_name", .glo "fixed", .glo "is_item", .glo "are_parts", .glo "need_folded", .glo "lengths_of", .glo "is_event", .glo "item_length", .glo "within", .glo "used_in", .glo "needed", .glo "folded_of", .glo "unfolded", .glo "joined", .glo "event_at", .glo "first_of", .glo "counted", .glo "_law_pen", .glo "_law_draw", .glo "_law_pick", .glo "_law_dp_heard", .glo "law", .free "int", .free "len", .free "abs", .free "list", .free "tuple", .free "isinstance", .free "bool", .free "str", .free "all", .free "any", .free "repr", .free "set", .free "range", .free "sum", .free "sorted"] ++ ([.free "enumerate", .free "min", .glo "ChartError", .glo "BadValue", .glo "BadNumber", .glo "Misfit", .glo "TooMany", .glo "NoName", .glo "Folded", .glo "Sharing", .keep "ChartError", .keep "BadValue", .keep "BadNumber", .keep "Misfit", .keep "TooMany", .keep "NoName", .keep "Folded", .keep "Sharing", .cls "Folded", .mkr "Folded", .noat "Folded" "parts", .noat "Folded" "lengths", .noat "Folded" "length", .cls "Sharing", .mkr "Sharing", .noat "Sharing" "numbers", .noat "Sharing" "parts", .noat "BadValue" "part", .exm "BadValue" "ChartError" true, .noat "TooMany" "what", .noat "TooMany" "most", .exm "TooMany" "ChartError" true, .meth "Sharing" "put", .meth "Sharing" "items", .str "LETTERS" "abcdefghijklmnopqrstuvwxyz", .int "MOST_PARTS" 2000, .int "MOST_ITEMS" 20000, .int "MOST_EVENTS" 10000] : List He.Fa)
def hfn : List He.DefD := [⟨("is_integer", none), "is_integer", "is_integer", defArgs sIsInteger, defBody sIsInteger, defScope sIsInteger, [], []⟩, ⟨("is_within", none), "is_within", "is_within", defArgs sIsWithin, defBody sIsWithin, defScope sIsWithin, [], []⟩, ⟨("is_listed", none), "is_listed", "is_listed", defArgs sIsListed, defBody sIsListed, defScope sIsListed, [], []⟩, ⟨("is_name", none), "is_name", "is_name", defArgs sIsName, defBody sIsName, defScope sIsName, [], []⟩, ⟨("fixed", none), "fixed", "fixed", defArgs sFixed, defBody sFixed, defScope sFixed, [], []⟩, ⟨("is_item", none), "is_item", "is_item", defArgs sIsItem, defBody sIsItem, defScope sIsItem, [], []⟩, ⟨("are_parts", none), "are_parts", "are_parts", defArgs sAreParts, defBody sAreParts, defScope sAreParts, [], []⟩, ⟨("need_folded", none), "need_folded", "need_folded", defArgs sNeedFolded, defBody sNeedFolded, defScope sNeedFolded, [.str "row"], []⟩, ⟨("lengths_of", none), "lengths_of", "lengths_of", defArgs sLengthsOf, defBody sLengthsOf, defScope sLengthsOf, [], []⟩, ⟨("is_event", none), "is_event", "is_event", defArgs sIsEvent, defBody sIsEvent, defScope sIsEvent, [], []⟩, ⟨("item_length", none), "item_length", "item_length", defArgs sItemLength, defBody sItemLength, defScope sItemLength, [], []⟩, ⟨("within", none), "within", "within", defArgs sWithin, defBody sWithin, defScope sWithin, [], []⟩, ⟨("used_in", none), "used_in", "used_in", defArgs sUsedIn, defBody sUsedIn, defScope sUsedIn, [], []⟩, ⟨("needed", none), "needed", "needed", defArgs sNeeded, defBody sNeeded, defScope sNeeded, [], []⟩, ⟨("folded_of", none), "folded_of", "folded_of", defArgs sFoldedOf, defBody sFoldedOf, defScope sFoldedOf, [], []⟩, ⟨("unfolded", none), "unfolded", "unfolded", defArgs sUnfolded, defBody sUnfolded, defScope sUnfolded, [], []⟩, ⟨("joined", none), "joined", "joined", defArgs sJoined, defBody sJoined, defScope sJoined, [], []⟩, ⟨("event_at", none), "event_at", "event_at", defArgs sEventAt, defBody sEventAt, defScope sEventAt, [], []⟩, ⟨("first_of", none), "first_of", "first_of", defArgs sFirstOf, defBody sFirstOf, defScope sFirstOf, [], []⟩, ⟨("counted", none), "counted", "counted", defArgs sCounted, defBody sCounted, defScope sCounted, [], []⟩, ⟨("_law_pen", none), "_law_pen", "_law_pen", defArgs sPen, defBody sPen, defScope sPen, [], []⟩, ⟨("_law_draw", none), "_law_draw", "_law_draw", defArgs sDraw, defBody sDraw, defScope sDraw, [], []⟩, ⟨("_law_pick", none), "_law_pick", "_law_pick", defArgs sPick, defBody sPick, defScope sPick, [], []⟩, ⟨("_law_dp_heard", none), "_law_dp_heard", "_law_dp_heard", defArgs sHeard, defBody sHeard, defScope sHeard, [], []⟩, ⟨("law", none), "law", "law", defArgs sLaw, defBody sLaw, defScope sLaw, [], []⟩, ⟨("Folded", some "__init__"), "__init__", "Folded.__init__", defArgs sFInit, defBody sFInit, defScope sFInit, [], []⟩, ⟨("Folded", some "__eq__"), "__eq__", "Folded.__eq__", defArgs sFEq, defBody sFEq, defScope sFEq, [], []⟩, ⟨("Sharing", some "__init__"), "__init__", "Sharing.__init__", defArgs sSInit, defBody sSInit, defScope sSInit, [], []⟩, ⟨("Sharing", some "put"), "put", "Sharing.put", defArgs sSPut, defBody sSPut, defScope sSPut, [], []⟩, ⟨("Sharing", some "items"), "items", "Sharing.items", defArgs sSItems, defBody sSItems, defScope sSItems, [], []⟩]
def hfe : List InitD := [⟨"BadValue", "", "BadValue.__init__", defArgs sBadValueI, defBody sBadValueI, defScope sBadValueI⟩, ⟨"TooMany", "", "TooMany.__init__", defArgs sTooManyI, defBody sTooManyI, defScope sTooManyI⟩]
def hxs : List (PySem.W.Frag → Bool) := [(fun K => clsNmB K (He.ga K "Folded") "Folded"), (fun K => decide (PySem.W.kitOne K (.ref (He.ga K "Folded")) (.ref (He.ga K "Folded")) = some true)), (fun K => excCB K (He.ga K "BadValue")), (fun K => xfB K (He.ga K "BadValue")), (fun K => He.eqO (PySem.W.findIn K (.ref (He.ga K "BadValue")) "__init__") (some (some (.ref (He.ma K (He.ga K "BadValue") "__init__"))))), (fun K => decide (PySem.W.typeIn K (.ref (He.ma K (He.ga K "BadValue") "__init__")) = some (.type "function"))), (fun K => excCB K (He.ga K "TooMany")), (fun K => xfB K (He.ga K "TooMany")), (fun K => He.eqO (PySem.W.findIn K (.ref (He.ga K "TooMany")) "__init__") (some (some (.ref (He.ma K (He.ga K "TooMany") "__init__"))))), (fun K => decide (PySem.W.typeIn K (.ref (He.ma K (He.ga K "TooMany") "__init__")) = some (.type "function"))), (fun K => decide (PySem.W.kitOne K (.ref (He.ga K "BadValue")) (.ref (He.ga K "TooMany")) = some false)), (fun K => decide (PySem.W.kitOne K (.ref (He.ga K "BadValue")) (.ref (He.ga K "NoName")) = some false)), (fun K => decide (PySem.W.kitOne K (.ref (He.ga K "BadValue")) (.ref (He.ga K "BadValue")) = some true)), (fun K => decide (PySem.W.kitOne K (.ref (He.ga K "TooMany")) (.ref (He.ga K "TooMany")) = some true)), (fun K => !decide (He.ga K "BadValue" = He.ga K "TooMany"))]
def hd31 : HdD := ⟨hfa, hfn, [], hfe, hxs, [("law", none)]⟩
abbrev R : PySem.W.OpenRow := PySem.W.OpenLaw.row PySem.Challenge.rw_deepasdrawn_k31_great_folded_rows_by_for
abbrev hk : PySem.W.Hook := hookY 6 R.prog hd31
def ob (s : PySem.W.SharedT) : OwnL.AlX := obsYG 6 R.prog hd31 (HandSHeadRun.getT s)
theorem ob_eq (s : PySem.W.SharedT) : ob s = hk.obs s.abs := obsYG_eq (HandSHeadRun.getT_eq s)
def loose : List PySem.Str := (["LETTERS", "is_integer", "is_within", "is_listed", "is_name", "ChartError", "BadValue", "BadNumber", "Misfit", "TooMany", "NoName", "fixed", "MOST_PARTS", "MOST_ITEMS", "MOST_EVENTS"] : List PySem.Str) ++ (["is_item", "are_parts", "Folded", "need_folded", "lengths_of", "is_event", "item_length", "Sharing", "within", "used_in", "needed", "folded_of", "unfolded", "joined", "event_at"] : List PySem.Str) ++ (["first_of", "counted", "_law_pen", "_law_draw", "_law_pick", "_law_dp_heard"] : List PySem.Str)
theorem run (w : World) : HandSHeadRun.RunEq R (PySem.W.view R.prog [41]) hk ob 6000 loose w := by
  intro os
  kernel_rfl
theorem facts {K : PySem.W.Frag} {h : Heap} {mg : Str → Option Value} (X : K.In h) (G : h.Ns mainGlobals mg) (c : SaysY R.prog hd31 h K) : ∃ (F : F10 K (ad K)) (fB fT : FuncData), T10 mg K (ad K) ∧ CF K (ad K) ∧ CSh K (ad K) ∧ HX K (ad K) ∧ BV R.prog K (ad K) fB ∧ TM R.prog K (ad K) fT ∧ F.fLaw.code = Value.ref (He.codeOf K ("law", none)) := by
  obtain ⟨fIsInteger, FIsInteger⟩ := c.def_ 0 rfl
  obtain ⟨fIsWithin, FIsWithin⟩ := c.def_ 1 rfl
  obtain ⟨fIsListed, FIsListed⟩ := c.def_ 2 rfl
  obtain ⟨fIsName, FIsName⟩ := c.def_ 3 rfl
  obtain ⟨fFixed, FFixed⟩ := c.def_ 4 rfl
  obtain ⟨fIsItem, FIsItem⟩ := c.def_ 5 rfl
  obtain ⟨fAreParts, FAreParts⟩ := c.def_ 6 rfl
  obtain ⟨fNeedFolded, FNeedFolded⟩ := c.def_ 7 rfl
  obtain ⟨fLengthsOf, FLengthsOf⟩ := c.def_ 8 rfl
  obtain ⟨fIsEvent, FIsEvent⟩ := c.def_ 9 rfl
  obtain ⟨fItemLength, FItemLength⟩ := c.def_ 10 rfl
  obtain ⟨fWithin, FWithin⟩ := c.def_ 11 rfl
  obtain ⟨fUsedIn, FUsedIn⟩ := c.def_ 12 rfl
  obtain ⟨fNeeded, FNeeded⟩ := c.def_ 13 rfl
  obtain ⟨fFoldedOf, FFoldedOf⟩ := c.def_ 14 rfl
  obtain ⟨fUnfolded, FUnfolded⟩ := c.def_ 15 rfl
  obtain ⟨fJoined, FJoined⟩ := c.def_ 16 rfl
  obtain ⟨fEventAt, FEventAt⟩ := c.def_ 17 rfl
  obtain ⟨fFirstOf, FFirstOf⟩ := c.def_ 18 rfl
  obtain ⟨fCounted, FCounted⟩ := c.def_ 19 rfl
  obtain ⟨fPen, FPen⟩ := c.def_ 20 rfl
  obtain ⟨fDraw, FDraw⟩ := c.def_ 21 rfl
  obtain ⟨fPick, FPick⟩ := c.def_ 22 rfl
  obtain ⟨fHeard, FHeard⟩ := c.def_ 23 rfl
  obtain ⟨fLaw, FLaw⟩ := c.def_ 24 rfl
  obtain ⟨fFInit, FFInit⟩ := c.def_ 25 rfl
  obtain ⟨fFEq, FFEq⟩ := c.def_ 26 rfl
  obtain ⟨fSInit, FSInit⟩ := c.def_ 27 rfl
  obtain ⟨fSPut, FSPut⟩ := c.def_ 28 rfl
  obtain ⟨fSItems, FSItems⟩ := c.def_ 29 rfl
  have clFolded := He.cls_ok (c.at_ 58 (f := .cls "Folded") rfl)
  have mkFolded := He.mkr_ok (c.at_ 59 (f := .mkr "Folded") rfl)
  have noFolded : ∀ f ∈ (["parts", "lengths", "length"] : List Str), NoAttr K (He.ga K "Folded") f := fun f hf => by
    simp only [List.mem_cons, List.not_mem_nil, or_false] at hf
    rcases hf with rfl | rfl | rfl
    · exact He.noat_ok (c.at_ 60 (f := .noat "Folded" "parts") rfl)
    · exact He.noat_ok (c.at_ 61 (f := .noat "Folded" "lengths") rfl)
    · exact He.noat_ok (c.at_ 62 (f := .noat "Folded" "length") rfl)
  have clSharing := He.cls_ok (c.at_ 63 (f := .cls "Sharing") rfl)
  have mkSharing := He.mkr_ok (c.at_ 64 (f := .mkr "Sharing") rfl)
  have noSharing : ∀ f ∈ (["numbers", "parts"] : List Str), NoAttr K (He.ga K "Sharing") f := fun f hf => by
    simp only [List.mem_cons, List.not_mem_nil, or_false] at hf
    rcases hf with rfl | rfl
    · exact He.noat_ok (c.at_ 65 (f := .noat "Sharing" "numbers") rfl)
    · exact He.noat_ok (c.at_ 66 (f := .noat "Sharing" "parts") rfl)
  obtain ⟨eBadValue, kBadValue⟩ := c.exi 0 rfl
  obtain ⟨fBadValueI, xBadValue⟩ := InitD.fnE eBadValue kBadValue (by decide +kernel)
  have oeBadValue : OexC K (He.ga K "BadValue") := by
    obtain ⟨_, _, _, _, _, _, _, _, _, _, _, _, _, z⟩ := xBadValue
    exact z.exc
  obtain ⟨eTooMany, kTooMany⟩ := c.exi 1 rfl
  obtain ⟨fTooManyI, xTooMany⟩ := InitD.fnE eTooMany kTooMany (by decide +kernel)
  have oeTooMany : OexC K (He.ga K "TooMany") := by
    obtain ⟨_, _, _, _, _, _, _, _, _, _, _, _, _, z⟩ := xTooMany
    exact z.exc
  obtain ⟨⟨oc, od, dV, kV, doc, pm, an, cdv, ct, osl, h1, h2, h3, h4, h5⟩, kpL⟩ := id FLaw
  obtain ⟨cd, ecd⟩ := He.codeIn_ref h3
  have eL : fLaw.code = Value.ref (He.codeOf K ("law", none)) := by
    have e1 : fLaw.code = .ref cd := by
      rw [h1]
      exact ecd
    rw [He.codeOf_eq (p := ("law", none)) h2 e1]
    exact e1
  refine ⟨⟨fIsInteger, fun_of FIsInteger, fIsWithin, fun_of FIsWithin, fIsListed, fun_of FIsListed, fIsName, fun_of FIsName, fFixed, fun_of FFixed, fIsItem, fun_of FIsItem, fAreParts, fun_of FAreParts, fNeedFolded, FNeedFolded, fLengthsOf, fun_of FLengthsOf, fIsEvent, fun_of FIsEvent, fItemLength, fun_of FItemLength, fWithin, fun_of FWithin, fUsedIn, fun_of FUsedIn, fNeeded, fun_of FNeeded, fFoldedOf, fun_of FFoldedOf, fUnfolded, fun_of FUnfolded, fJoined, fun_of FJoined, fEventAt, fun_of FEventAt, fFirstOf, fun_of FFirstOf, fCounted, fun_of FCounted, fPen, fun_of FPen, fDraw, fun_of FDraw, fPick, fun_of FPick, fHeard, fun_of FHeard, fLaw, fun_of FLaw, fFInit, fun_of FFInit, fFEq, fun_of FFEq, fSInit, fun_of FSInit, fSPut, fun_of FSPut, fSItems, fun_of FSItems⟩, fBadValueI, fTooManyI, ⟨He.free_ok X G (c.at_ 25 (f := .free "int") rfl), He.free_ok X G (c.at_ 26 (f := .free "len") rfl), He.free_ok X G (c.at_ 27 (f := .free "abs") rfl), He.free_ok X G (c.at_ 28 (f := .free "list") rfl), He.free_ok X G (c.at_ 29 (f := .free "tuple") rfl), He.free_ok X G (c.at_ 30 (f := .free "isinstance") rfl), He.free_ok X G (c.at_ 31 (f := .free "bool") rfl), He.free_ok X G (c.at_ 32 (f := .free "str") rfl), He.free_ok X G (c.at_ 33 (f := .free "all") rfl), He.free_ok X G (c.at_ 34 (f := .free "any") rfl), He.free_ok X G (c.at_ 35 (f := .free "repr") rfl), He.free_ok X G (c.at_ 36 (f := .free "set") rfl), He.free_ok X G (c.at_ 37 (f := .free "range") rfl), He.free_ok X G (c.at_ 38 (f := .free "sum") rfl), He.free_ok X G (c.at_ 39 (f := .free "sorted") rfl), He.free_ok X G (c.at_ 40 (f := .free "enumerate") rfl), He.free_ok X G (c.at_ 41 (f := .free "min") rfl), He.glo_ok X G (c.at_ 0 (f := .glo "is_integer") rfl), FIsInteger.kp, He.glo_ok X G (c.at_ 1 (f := .glo "is_within") rfl), FIsWithin.kp, He.glo_ok X G (c.at_ 2 (f := .glo "is_listed") rfl), FIsListed.kp, He.glo_ok X G (c.at_ 3 (f := .glo "is_name") rfl), FIsName.kp, He.glo_ok X G (c.at_ 4 (f := .glo "fixed") rfl), FFixed.kp, He.glo_ok X G (c.at_ 5 (f := .glo "is_item") rfl), FIsItem.kp, He.glo_ok X G (c.at_ 6 (f := .glo "are_parts") rfl), FAreParts.kp, He.glo_ok X G (c.at_ 7 (f := .glo "need_folded") rfl), FNeedFolded.kp, He.glo_ok X G (c.at_ 8 (f := .glo "lengths_of") rfl), FLengthsOf.kp, He.glo_ok X G (c.at_ 9 (f := .glo "is_event") rfl), FIsEvent.kp, He.glo_ok X G (c.at_ 10 (f := .glo "item_length") rfl), FItemLength.kp, He.glo_ok X G (c.at_ 11 (f := .glo "within") rfl), FWithin.kp, He.glo_ok X G (c.at_ 12 (f := .glo "used_in") rfl), FUsedIn.kp, He.glo_ok X G (c.at_ 13 (f := .glo "needed") rfl), FNeeded.kp, He.glo_ok X G (c.at_ 14 (f := .glo "folded_of") rfl), FFoldedOf.kp, He.glo_ok X G (c.at_ 15 (f := .glo "unfolded") rfl), FUnfolded.kp, He.glo_ok X G (c.at_ 16 (f := .glo "joined") rfl), FJoined.kp, He.glo_ok X G (c.at_ 17 (f := .glo "event_at") rfl), FEventAt.kp, He.glo_ok X G (c.at_ 18 (f := .glo "first_of") rfl), FFirstOf.kp, He.glo_ok X G (c.at_ 19 (f := .glo "counted") rfl), FCounted.kp, He.glo_ok X G (c.at_ 20 (f := .glo "_law_pen") rfl), FPen.kp, He.glo_ok X G (c.at_ 21 (f := .glo "_law_draw") rfl), FDraw.kp, He.glo_ok X G (c.at_ 22 (f := .glo "_law_pick") rfl), FPick.kp, He.glo_ok X G (c.at_ 23 (f := .glo "_law_dp_heard") rfl), FHeard.kp, He.glo_ok X G (c.at_ 24 (f := .glo "law") rfl), FLaw.kp, He.glo_ok X G (c.at_ 42 (f := .glo "ChartError") rfl), He.keep_ok (c.at_ 50 (f := .keep "ChartError") rfl), He.glo_ok X G (c.at_ 43 (f := .glo "BadValue") rfl), He.keep_ok (c.at_ 51 (f := .keep "BadValue") rfl), He.glo_ok X G (c.at_ 44 (f := .glo "BadNumber") rfl), He.keep_ok (c.at_ 52 (f := .keep "BadNumber") rfl), He.glo_ok X G (c.at_ 45 (f := .glo "Misfit") rfl), He.keep_ok (c.at_ 53 (f := .keep "Misfit") rfl), He.glo_ok X G (c.at_ 46 (f := .glo "TooMany") rfl), He.keep_ok (c.at_ 54 (f := .keep "TooMany") rfl), He.glo_ok X G (c.at_ 47 (f := .glo "NoName") rfl), He.keep_ok (c.at_ 55 (f := .keep "NoName") rfl), He.glo_ok X G (c.at_ 48 (f := .glo "Folded") rfl), He.keep_ok (c.at_ 56 (f := .keep "Folded") rfl), He.glo_ok X G (c.at_ 49 (f := .glo "Sharing") rfl), He.keep_ok (c.at_ 57 (f := .keep "Sharing") rfl), He.str_ok X G (c.at_ 74 (f := .str "LETTERS" "abcdefghijklmnopqrstuvwxyz") rfl), He.int_ok X G (c.at_ 75 (f := .int "MOST_PARTS" 2000) rfl), He.int_ok X G (c.at_ 76 (f := .int "MOST_ITEMS" 20000) rfl), He.int_ok X G (c.at_ 77 (f := .int "MOST_EVENTS" 10000) rfl)⟩, ⟨⟨clFolded, noFolded⟩, clsNmB_ok (c.own 0 rfl), of_decide_eq_true (c.own 1 rfl), mkFolded⟩, ⟨⟨clSharing, noSharing⟩, He.meth_ok (c.at_ 72 (f := .meth "Sharing" "put") rfl), He.meth_ok (c.at_ 73 (f := .meth "Sharing" "items") rfl), mkSharing⟩,
    ⟨He.exm_ok (c.at_ 68 (f := .exm "BadValue" "ChartError" true) rfl), He.exm_ok (c.at_ 71 (f := .exm "TooMany" "ChartError" true) rfl), excCB_ok (c.own 2 rfl), excCB_ok (c.own 6 rfl), xfB_ok (c.own 3 rfl), xfB_ok (c.own 7 rfl), He.eqO_ok (c.at_ 67 (f := .noat "BadValue" "part") rfl), He.eqO_ok (c.at_ 69 (f := .noat "TooMany" "what") rfl), He.eqO_ok (c.at_ 70 (f := .noat "TooMany" "most") rfl), of_decide_eq_true (c.own 10 rfl), of_decide_eq_true (c.own 11 rfl), of_decide_eq_true (c.own 12 rfl), of_decide_eq_true (c.own 13 rfl), by
      have z : (!decide (He.ga K "BadValue" = He.ga K "TooMany")) = true := c.own 14 rfl
      intro e
      have e2 : He.ga K "BadValue" = He.ga K "TooMany" := e
      rw [decide_eq_true e2] at z
      cases z⟩,
    ⟨⟨xBadValue⟩, He.eqO_ok (c.at_ 67 (f := .noat "BadValue" "part") rfl), oeBadValue, He.eqO_ok (c.own 4 rfl), of_decide_eq_true (c.own 5 rfl)⟩,
    ⟨⟨xTooMany⟩, He.eqO_ok (c.at_ 69 (f := .noat "TooMany" "what") rfl), He.eqO_ok (c.at_ 70 (f := .noat "TooMany" "most") rfl), oeTooMany, He.eqO_ok (c.own 8 rfl), of_decide_eq_true (c.own 9 rfl)⟩,
    eL⟩
theorem main_facts {w : World} {K : PySem.W.Frag} {h : Heap} {mg : Str → Option Value} {f : Addr} (X : K.In h) (G : h.Ns mainGlobals mg) (hfa : mg ("law" : Str) = some (.ref f)) (c : SaysY R.prog hd31 h K) : LamX.LawAtS PySem.Challenge.rw_deepasdrawn_k31_great_folded_rows_by_for w K CX0 13 63 "script" mg f h := by
  obtain ⟨F, fB, fT, T, C, CS2, XH, TB, TM1, hc⟩ := facts X G c
  have e := hfa.symm.trans T.gLaw
  cases e
  have hm : (("law", none) : He.Defn) ∈ hd31.tf := List.mem_singleton.mpr rfl
  refine ⟨F.fLaw, [He.cT K ("law", none)], spLaw K (He.cT K ("law", none)).2, fun p hp => ?_, fun p hp => ?_, fun p hp => ?_, fun s v => ?_, fun H a ns _ _ hT hS => ⟨a, ns, rfl, hS, hT _ (List.mem_singleton.mpr rfl), fun _ => rfl⟩, fun base _ _ tb => ok_law F T C CS2 XH TB TM1 hc (tb _ (List.mem_singleton.mpr rfl))⟩
  · rw [List.mem_singleton.mp hp]
    exact c.empty _ hm
  · rw [List.mem_singleton.mp hp]
    exact c.out _ hm
  · rw [List.mem_singleton.mp hp]
    exact PySem.W.codeHd_of_K X (c.hd _ hm)
  · obtain ⟨_, _, _, _, _, _, _, _, _, h, _, _⟩ := F.FLaw.ex
    rw [h]
    exact .of_eq rfl

end K31

open PySem PySem.W PySem.Calls PyProof.Rows
set_option maxRecDepth 100000 in
set_option maxHeartbeats 8000000 in
theorem PySem.Challenge.cw_deepasdrawn_k31_great_folded_rows_by_for_holds : PySem.Challenge.rw_deepasdrawn_k31_great_folded_rows_by_for.Holds := by
  w_on; o_law
  refine HandSHeadRun.head_any (r := K31.R) (q := view K31.R.prog [41]) (H := K31.hk) (ob := K31.ob) (M := 6000) (loose := K31.loose) (d := HandSHeadRun.topDef K31.R.prog 41) (kwd := []) K31.ob_eq
    (by kernel_rfl) (fun s => by kernel_rfl) K31.run (by kernel_rfl) (by kernel_rfl) (by kernel_rfl) (by rfl) (by first | assumption | decide +kernel) (by decide +kernel) ⟨rfl, rfl, rfl, rfl, rfl, by decide +kernel⟩ ?hw ?hc
  case hw => w_witness2
  case hc =>
    refine LamX.walk_ofTsE (l := PySem.Challenge.rw_deepasdrawn_k31_great_folded_rows_by_for) (n := 63) (k := 13) (x := "script") (CX := fun _ => L2.CX0) rfl (by decide) (by kernel_rfl) ⟨rfl, by decide, by decide⟩ ?F (fun _ _ _ _ _ z => z)
    intro w mg fa h Y G hmg0
    obtain ⟨K, KX, c⟩ := Y
    have hmg : mg ("law" : PySem.Str) = some (.ref fa) := by
      have e : (HandSHeadRun.topDef K31.R.prog 41).name = ("law" : PySem.Str) := by kernel_rfl
      rw [← e]
      exact hmg0
    exact ⟨K, KX, K31.main_facts KX G hmg c⟩
