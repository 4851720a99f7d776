import PyProof.Rows.All
import Wide.All
import OpenK.AllK
import Wide.FinOn
import PyProof.EqAt
import PyProof.EqKinds
import PyProof.TupleCall
import HandS.ForMost
import HandS.Exc
import HandS.TryOnly
import HandS.ExcOwn
import HandS.ExcIs
import HandS.WordsExc
import HandS.Deep
import HandS.More
import HandS.Style
import HandS.IsInst
import HandS.SortOrd
import HandS.Flow
import HandS.Conv
import HandS.TupSets
import HandS.DictTup
import KE.LtData
import KE.DataCmp
import KE.Datum
import KE.DatumMore
import KE.SortData
import KE.KDictCopyH
import KE.GoesComp
import HandS.StrMore
import HandS.HotCalls
import HandS.SortKw
import KE.DatumOrd
import PySem.Challenge.RW_meldhouse_k10_texts_read
set_option Elab.async false
set_option linter.all false
set_option maxRecDepth 100000
set_option maxHeartbeats 4000000
/-! T0: data on the heap (Dp) carried along; rules of our own over it. -/
namespace MH
open PySem L2

/-! ### data all of whose parts are tracked -/
mutual
inductive Dp (K : PySem.W.Frag) (H : Hp) : V → PyData → Prop
  | non : Dp K H .non .none
  | bl (b : Bool) : Dp K H (.bl b) (.bool b)
  | int (i : Int) : Dp K H (.int i) (.int i)
  | str (x : Str) : Dp K H (.str x) (.str x)
  | lst {a : Addr} {xs : List V} {ds : List PyData} (h : H a = some (.lst xs)) (g : DpAll K H xs ds) : Dp K H (.ref a) (.list ds)
  | tup {a : Addr} {xs : List V} {ds : List PyData} (h : H a = some (.tup xs)) (g : DpAll K H xs ds) : Dp K H (.ref a) (.tuple ds)
inductive DpAll (K : PySem.W.Frag) (H : Hp) : List V → List PyData → Prop
  | nil : DpAll K H [] []
  | cons {v : V} {vs : List V} {d : PyData} {ds : List PyData} (h : Dp K H v d) (g : DpAll K H vs ds) : DpAll K H (v :: vs) (d :: ds)
end
mutual
theorem Dp.old {K : PySem.W.Frag} {H : Hp} : ∀ (d : PyData) (v : V), Dp K H v d → L2.Dp K H v d
  | .none, _, h => by cases h; exact .non
  | .bool _, _, h => by cases h; exact .bl _
  | .int _, _, h => by cases h; exact .int _
  | .str _, _, h => by cases h; exact .str _
  | .list ds, _, h => by
    cases h with
    | lst h1 h2 => exact .lst (SqL.of h1) (DpAll.old ds _ h2)
  | .tuple ds, _, h => by
    cases h with
    | tup h1 h2 => exact .tup (SqT.of h1) (DpAll.old ds _ h2)
  | .dict _, _, h => by cases h
theorem DpAll.old {K : PySem.W.Frag} {H : Hp} : ∀ (ds : List PyData) (vs : List V), DpAll K H vs ds → L2.DpAll K H vs ds
  | [], _, h => by cases h; exact .nil
  | d :: ds, _, h => by
    cases h with
    | cons h1 h2 => exact .cons (Dp.old d _ h1) (DpAll.old ds _ h2)
end
theorem Dp.reads {X : Cx} {pins : List (Addr × Obj)} {σ : St} {H : Hp} {s : Shared} (I : Inv X pins σ H s) (d : PyData) (v : V) (u : Value) (h : Dp X.K H v d) (r : RelV v u) : ∃ as, Reads s.heap u d as := L2.Dp.reads I d v u (Dp.old d v h) r
theorem Dp.readsAll {X : Cx} {pins : List (Addr × Obj)} {σ : St} {H : Hp} {s : Shared} (I : Inv X pins σ H s) (ds : List PyData) (vs : List V) (us : List Value) (h : DpAll X.K H vs ds) (r : Vals vs us) : ∃ as, ReadsAll s.heap us ds as := L2.Dp.readsAll I ds vs us (DpAll.old ds vs h) r

/-! ### data carried from heap to heap -/
mutual
theorem dp_mono {K : PySem.W.Frag} {H H' : Hp} (S : ∀ a xs, H a = some (.lst xs) → H' a = some (.lst xs)) (T : ∀ a xs, H a = some (.tup xs) → H' a = some (.tup xs)) : ∀ (d : PyData) (v : V), Dp K H v d → Dp K H' v d
  | .none, _, h => by cases h; exact .non
  | .bool _, _, h => by cases h; exact .bl _
  | .int _, _, h => by cases h; exact .int _
  | .str _, _, h => by cases h; exact .str _
  | .list ds, _, h => by
    cases h with
    | lst h1 h2 => exact .lst (S _ _ h1) (dpAll_mono S T ds _ h2)
  | .tuple ds, _, h => by
    cases h with
    | tup h1 h2 => exact .tup (T _ _ h1) (dpAll_mono S T ds _ h2)
  | .dict _, _, h => by cases h
theorem dpAll_mono {K : PySem.W.Frag} {H H' : Hp} (S : ∀ a xs, H a = some (.lst xs) → H' a = some (.lst xs)) (T : ∀ a xs, H a = some (.tup xs) → H' a = some (.tup xs)) : ∀ (ds : List PyData) (vs : List V), DpAll K H vs ds → DpAll K H' vs ds
  | [], _, h => by cases h; exact .nil
  | d :: ds, _, h => by
    cases h with
    | cons h1 h2 => exact .cons (dp_mono S T d _ h1) (dpAll_mono S T ds _ h2)
end
mutual
/-- no list and no dict within -/
def frz : PyData → Bool
  | .list _ => false
  | .dict _ => false
  | .tuple xs => frzAll xs
  | .none => true
  | .bool _ => true
  | .int _ => true
  | .str _ => true
def frzAll : List PyData → Bool
  | [] => true
  | d :: ds => frz d && frzAll ds
end
mutual
theorem dp_frz {K : PySem.W.Frag} {H H' : Hp} (T : ∀ a xs, H a = some (.tup xs) → H' a = some (.tup xs)) : ∀ (d : PyData) (v : V), frz d = true → Dp K H v d → Dp K H' v d
  | .none, _, _, h => by cases h; exact .non
  | .bool _, _, _, h => by cases h; exact .bl _
  | .int _, _, _, h => by cases h; exact .int _
  | .str _, _, _, h => by cases h; exact .str _
  | .list ds, _, z, h => by simp [frz] at z
  | .tuple ds, _, z, h => by
    cases h with
    | tup h1 h2 => exact .tup (T _ _ h1) (dpAll_frz T ds _ (by simpa [frz] using z) h2)
  | .dict _, _, _, h => by cases h
theorem dpAll_frz {K : PySem.W.Frag} {H H' : Hp} (T : ∀ a xs, H a = some (.tup xs) → H' a = some (.tup xs)) : ∀ (ds : List PyData) (vs : List V), frzAll ds = true → DpAll K H vs ds → DpAll K H' vs ds
  | [], _, _, h => by cases h; exact .nil
  | d :: ds, _, z, h => by
    cases h with
    | cons h1 h2 =>
      rw [frzAll, Bool.and_eq_true] at z
      exact .cons (dp_frz T d _ z.1 h1) (dpAll_frz T ds _ z.2 h2)
end
/-- every tuple that stands is kept -/
def TupK (H H' : Hp) : Prop := ∀ (b : Addr) (xs : List V), H b = some (.tup xs) → H' b = some (.tup xs)
theorem TupK.refl (H : Hp) : TupK H H := fun _ _ h => h
theorem TupK.trans {H H1 H2 : Hp} (a : TupK H H1) (b : TupK H1 H2) : TupK H H2 := fun c xs h => b c xs (a c xs h)
theorem TupK.of {H H' : Hp} (e : Same H H') : TupK H H' := fun _ _ h => e _ _ h
theorem rd_same {H H' : Hp} {a : Addr} {u : HO} (e : Same H H') (h : Rd H a u) : Rd H' a u := by
  rcases h with h | ⟨o, h⟩
  · exact .inl (e _ _ h)
  · exact .inr ⟨o, e _ _ h⟩
theorem sqT_same {K : PySem.W.Frag} {H H' : Hp} {a : Addr} {xs : List V} (e : Same H H') (h : SqT K H a xs) : SqT K H' a xs := by
  rcases h with h | h
  · exact .inl (rd_same e h)
  · exact .inr h
/-- a store at an object that is no tuple keeps the tuples -/
theorem TupK.upd {H : Hp} {p : Addr} {o : HO} (h : ∀ xs, H p ≠ some (.tup xs)) : TupK H (upd H p o) := fun b xs r => by
  have hb : b ≠ p := fun z => by subst z; exact h xs r
  rw [upd_ne hb]
  exact r
theorem no_tup {H : Hp} {p : Addr} {o : HO} (h : H p = some o) (n : ∀ xs, o ≠ .tup xs := by intro _ z; cases z) : ∀ xs, H p ≠ some (.tup xs) := fun xs r => by
  rw [h] at r
  exact n xs (Option.some.inj r)
theorem no_tup_free {H : Hp} {p : Addr} (h : H p = none) : ∀ xs, H p ≠ some (.tup xs) := fun xs r => by
  rw [h] at r
  cases r
theorem TupK.lst {H : Hp} {p : Addr} {xs : List V} {o : HO} (h : H p = some (.lst xs)) : TupK H (L2.upd H p o) := TupK.upd (no_tup h)
theorem TupK.dT {H : Hp} {p : Addr} {kvs : List (List Key × V)} {o : HO} (h : H p = some (.dT kvs)) : TupK H (L2.upd H p o) := TupK.upd (no_tup h)
theorem TupK.new {H : Hp} {p : Addr} {o : HO} (h : H p = none) : TupK H (L2.upd H p o) := TupK.upd (no_tup_free h)
theorem Same.new {H : Hp} {p : Addr} {o : HO} (h : H p = none) : Same H (upd H p o) := fun b u q => by rw [upd_ne (ne_of_none q h)]; exact q
/-- an object that the elder heap does not know may change -/
theorem Same.mut {H H' : Hp} {p : Addr} {o : HO} (e : Same H H') (h : H p = none) : Same H (upd H' p o) := fun a u ha => by
  rw [upd_ne (ne_of_none ha h)]
  exact e a u ha
section
variable {K : PySem.W.Frag} {H H' : Hp} {v : V} {vs : List V} {d : PyData} {ds : List PyData}
theorem dp_same (e : Same H H') (h : Dp K H v d) : Dp K H' v d := dp_mono (fun _ _ q => e _ _ q) (fun _ _ q => e _ _ q) d v h
theorem dpAll_same (e : Same H H') (h : DpAll K H vs ds) : DpAll K H' vs ds := dpAll_mono (fun _ _ q => e _ _ q) (fun _ _ q => e _ _ q) ds vs h
theorem dp_tup (e : TupK H H') (z : frz d = true) (h : Dp K H v d) : Dp K H' v d := dp_frz e d v z h
theorem dpAll_tup (e : TupK H H') (z : frzAll ds = true) (h : DpAll K H vs ds) : DpAll K H' vs ds := dpAll_frz e ds vs z h
theorem dpAll_length (h : DpAll K H vs ds) : vs.length = ds.length := by
  induction ds generalizing vs with
  | nil => cases h; rfl
  | cons d ds ih =>
    cases h with
    | cons h1 h2 => simp [ih h2]
theorem dpAll_get {i : Nat} (h : DpAll K H vs ds) (hd : ds[i]? = some d) : ∃ v, vs[i]? = some v ∧ Dp K H v d := by
  induction ds generalizing vs i with
  | nil => simp at hd
  | cons e ds ih =>
    cases h with
    | cons h1 h2 =>
      cases i with
      | zero =>
        simp at hd
        subst hd
        exact ⟨_, rfl, h1⟩
      | succ i =>
        obtain ⟨w, e1, e2⟩ := ih (i := i) h2 (by simpa using hd)
        exact ⟨w, by simpa using e1, e2⟩
theorem dpAll_getV {i : Nat} (h : DpAll K H vs ds) (hv : vs[i]? = some v) : ∃ d, ds[i]? = some d ∧ Dp K H v d := by
  induction ds generalizing vs i with
  | nil => cases h; simp at hv
  | cons e ds ih =>
    cases h with
    | cons h1 h2 =>
      cases i with
      | zero =>
        simp at hv
        subst hv
        exact ⟨_, rfl, h1⟩
      | succ i =>
        obtain ⟨w, e1, e2⟩ := ih (i := i) h2 (by simpa using hv)
        exact ⟨w, by simpa using e1, e2⟩
theorem dpAll_app {ws : List V} {es : List PyData} (h : DpAll K H vs ds) (h' : DpAll K H ws es) : DpAll K H (vs ++ ws) (ds ++ es) := by
  induction ds generalizing vs with
  | nil => cases h; exact h'
  | cons d ds ih =>
    cases h with
    | cons h1 h2 => exact .cons h1 (ih h2)
theorem dpAll_one (h : Dp K H v d) : DpAll K H [v] [d] := .cons h .nil
theorem dpAll_push (h : DpAll K H vs ds) (h' : Dp K H v d) : DpAll K H (vs ++ [v]) (ds ++ [d]) := dpAll_app h (dpAll_one h')
theorem dpAll_take (n : Nat) (h : DpAll K H vs ds) : DpAll K H (vs.take n) (ds.take n) := by
  induction ds generalizing vs n with
  | nil => cases h; simp; exact .nil
  | cons d ds ih =>
    cases h with
    | cons h1 h2 =>
      cases n with
      | zero => exact .nil
      | succ n => exact .cons h1 (ih n h2)
theorem dpAll_drop (n : Nat) (h : DpAll K H vs ds) : DpAll K H (vs.drop n) (ds.drop n) := by
  induction ds generalizing vs n with
  | nil => cases h; simp; exact .nil
  | cons d ds ih =>
    cases h with
    | cons h1 h2 =>
      cases n with
      | zero => exact .cons h1 h2
      | succ n => exact ih n h2
theorem dpAll_int : ∀ ns : List Int, DpAll K H (ns.map V.int) (ns.map PyData.int)
  | [] => .nil
  | n :: ns => .cons (.int n) (dpAll_int ns)
theorem dpAll_int_eq : ∀ {ns : List Int} {vs : List V}, DpAll K H vs (ns.map PyData.int) → vs = ns.map V.int
  | [], _, h => by cases h; rfl
  | n :: ns, _, h => by
    cases h with
    | cons h1 h2 =>
      cases h1
      rw [dpAll_int_eq h2]
      rfl
/-- a datum's list, as the rules want it -/
theorem dp_list {a : Addr} (h : Dp K H (.ref a) (.list ds)) : ∃ vs, H a = some (.lst vs) ∧ DpAll K H vs ds := by
  cases h with
  | lst h1 h2 => exact ⟨_, h1, h2⟩
theorem dp_tuple {a : Addr} (h : Dp K H (.ref a) (.tuple ds)) : ∃ vs, H a = some (.tup vs) ∧ DpAll K H vs ds := by
  cases h with
  | tup h1 h2 => exact ⟨_, h1, h2⟩
theorem dp_listV (h : Dp K H v (.list ds)) : ∃ a vs, v = .ref a ∧ H a = some (.lst vs) ∧ DpAll K H vs ds := by
  cases h with
  | lst h1 h2 => exact ⟨_, _, rfl, h1, h2⟩
theorem dp_tupleV (h : Dp K H v (.tuple ds)) : ∃ a vs, v = .ref a ∧ H a = some (.tup vs) ∧ DpAll K H vs ds := by
  cases h with
  | tup h1 h2 => exact ⟨_, _, rfl, h1, h2⟩
theorem dp_int {n : Int} (h : Dp K H v (.int n)) : v = .int n := by cases h; rfl
theorem dp_str {n : Str} (h : Dp K H v (.str n)) : v = .str n := by cases h; rfl
end
end MH
/-! T1: a < b, a > b of data that can be compared up to the first place that differs (melds: a text, then unlike things). -/
namespace MH
open PySem PySem.SeqAt PySem.W PyProof.Rows
open AutoSeq1 (wpAny_loadPart')
open MeetsSeq MeetsSeq2 MeetsSeq3 SeqRoads2

/-- what the pairs of two tuples say of op: equal ones are passed, the first unequal pair decides by op; fin at the end -/
inductive OpW (op : CmpOp) (A : Around) (s : Shared) (fin : Bool) : List (Value × Value) → Bool → Prop
  | done : OpW op A s fin [] fin
  | pass {p q : Value} {r : List (Value × Value)} {k : Bool} : EqAt A s p q true → OpW op A s fin r k → OpW op A s fin ((p, q) :: r) k
  | stop {p q : Value} {r : List (Value × Value)} {k : Bool} : EqAt A s p q false → RcOp op A s p q k → OpW op A s fin ((p, q) :: r) k

theorem tup_lt_W (ta tb : Addr) (us vs : Array Value) (nu nv : Nat) (du dv : Option Addr) (lu lv : Array (Option Value)) (k : Bool) :
    Meets (Builtin.«tuple.__lt__» ⟨[.ref ta, .ref tb], []⟩)
      (fun A R s => s.heap.get? ta = some { cls := .type "tuple", dict := du, data := .seq us nu, slots := lu } ∧ s.heap.get? tb = some { cls := .type "tuple", dict := dv, data := .seq vs nv, slots := lv } ∧
        OpW .Lt A.in1 s (decide (us.size < vs.size)) (us.toList.zip vs.toList) k ∧ R (.ok (.ret (.bool k))) s) :=
  .of_wp fun prog w A R s hyp => by
    obtain ⟨hh, gg, dr, tk, osx⟩ := s
    obtain ⟨ga, gb, ow, hR⟩ := hyp
    have isT := AutoSeq1.sub_tuple_tuple
    wp_walk using wpAny_loadPart' ga, wpAny_loadPart' gb, wpAny_forIn_list _ (fun todo acc st => acc.1 = none ∧ st = ⟨hh, gg, dr, tk, osx⟩ ∧ OpW .Lt A.in1 ⟨hh, gg, dr, tk, osx⟩ (decide (us.size < vs.size)) todo k) _
    case turn =>
      rintro ⟨p, q⟩ todo acc st ⟨ha, rfl, o⟩
      cases o with
      | pass e o =>
        refine wpAny_bind (e prog w _ _ ?_)
        wp_walk
        exact ⟨rfl, rfl, o⟩
      | stop e r =>
        have ee := e prog w
        have rr := r prog w
        wp_walk using ee, rr
        exact ⟨_, rfl, hR⟩
    case fin =>
      rintro ⟨a1, a2⟩ st ⟨ha, rfl, o⟩
      simp only at ha
      subst ha
      cases o
      wp_walk
      exact ⟨_, rfl, by simpa [Builtin.Tuple.tupleCompareSizes] using hR⟩
    case h => exact ⟨rfl, rfl, ow⟩

theorem tup_gt_W (ta tb : Addr) (us vs : Array Value) (nu nv : Nat) (du dv : Option Addr) (lu lv : Array (Option Value)) (k : Bool) :
    Meets (Builtin.«tuple.__gt__» ⟨[.ref ta, .ref tb], []⟩)
      (fun A R s => s.heap.get? ta = some { cls := .type "tuple", dict := du, data := .seq us nu, slots := lu } ∧ s.heap.get? tb = some { cls := .type "tuple", dict := dv, data := .seq vs nv, slots := lv } ∧
        OpW .Gt A.in1 s (decide (us.size > vs.size)) (us.toList.zip vs.toList) k ∧ R (.ok (.ret (.bool k))) s) :=
  .of_wp fun prog w A R s hyp => by
    obtain ⟨hh, gg, dr, tk, osx⟩ := s
    obtain ⟨ga, gb, ow, hR⟩ := hyp
    have isT := AutoSeq1.sub_tuple_tuple
    wp_walk using wpAny_loadPart' ga, wpAny_loadPart' gb, wpAny_forIn_list _ (fun todo acc st => acc.1 = none ∧ st = ⟨hh, gg, dr, tk, osx⟩ ∧ OpW .Gt A.in1 ⟨hh, gg, dr, tk, osx⟩ (decide (us.size > vs.size)) todo k) _
    case turn =>
      rintro ⟨p, q⟩ todo acc st ⟨ha, rfl, o⟩
      cases o with
      | pass e o =>
        refine wpAny_bind (e prog w _ _ ?_)
        wp_walk
        exact ⟨rfl, rfl, o⟩
      | stop e r =>
        have ee := e prog w
        have rr := r prog w
        wp_walk using ee, rr
        exact ⟨_, rfl, hR⟩
    case fin =>
      rintro ⟨a1, a2⟩ st ⟨ha, rfl, o⟩
      simp only at ha
      subst ha
      cases o
      wp_walk
      exact ⟨_, rfl, by simpa [Builtin.Tuple.tupleCompareSizes] using hR⟩
    case h => exact ⟨rfl, rfl, ow⟩

theorem rc_tup_lt {A : Around} {s : Shared} {ta tb : Addr} {us vs : Array Value} {k : Bool} (hu : s.heap.IsTuple ta us) (hv : s.heap.IsTuple tb vs) (room : A.units < cLine)
    (ow : OpW .Lt A.in1 s (decide (us.size < vs.size)) (us.toList.zip vs.toList) k) : RcOp .Lt A s (.ref ta) (.ref tb) k := fun prog w E Q hq => by
  obtain ⟨⟨cu, du, xu, lu⟩, gu, eu, nu, fu⟩ := id hu
  obtain ⟨⟨cv, dv, xv, lv⟩, gv, ev, nv, fv⟩ := id hv
  dsimp only at eu fu ev fv
  subst eu fu ev fv
  have fin : Value.bool k ≠ Value.notImplemented ∧ Q (.bool k) s := ⟨(fun z => nomatch z), hq⟩
  exact richCompare_meets_room (op := .Lt) ⟨_, gu, rfl⟩ ⟨_, gv, rfl⟩ F.slot_tuple_lt F.entry_tuple_lt (F.args_tuple_lt_2 _ _) (tup_lt_W ta tb us vs nu nv du dv lu lv k) ⟨gu, gv, ow, fin⟩ room
theorem rc_tup_gt {A : Around} {s : Shared} {ta tb : Addr} {us vs : Array Value} {k : Bool} (hu : s.heap.IsTuple ta us) (hv : s.heap.IsTuple tb vs) (room : A.units < cLine)
    (ow : OpW .Gt A.in1 s (decide (us.size > vs.size)) (us.toList.zip vs.toList) k) : RcOp .Gt A s (.ref ta) (.ref tb) k := fun prog w E Q hq => by
  obtain ⟨⟨cu, du, xu, lu⟩, gu, eu, nu, fu⟩ := id hu
  obtain ⟨⟨cv, dv, xv, lv⟩, gv, ev, nv, fv⟩ := id hv
  dsimp only at eu fu ev fv
  subst eu fu ev fv
  have fin : Value.bool k ≠ Value.notImplemented ∧ Q (.bool k) s := ⟨(fun z => nomatch z), hq⟩
  exact richCompare_meets_room (op := .Gt) ⟨_, gu, rfl⟩ ⟨_, gv, rfl⟩ F.slot_tuple_gt F.entry_tuple_gt (F.args_tuple_gt_2 _ _) (tup_gt_W ta tb us vs nu nv du dv lu lv k) ⟨gu, gv, ow, fin⟩ room

/-! ### data that can be compared -/
mutual
def cmpO : PyData → PyData → Bool
  | .int _, .int _ => true
  | .str _, .str _ => true
  | .tuple xs, .tuple ys => cmpOs xs ys
  | _, _ => false
def cmpOs : List PyData → List PyData → Bool
  | x :: xs, y :: ys => cmpO x y && (!(PyData.eqv x y) || cmpOs xs ys)
  | [], _ => true
  | _ :: _, [] => true
end
theorem cmpOs_cons {x y : PyData} {xs ys : List PyData} (h : cmpOs (x :: xs) (y :: ys) = true) : cmpO x y = true ∧ (PyData.eqv x y = true → cmpOs xs ys = true) := by
  rw [cmpOs, Bool.and_eq_true] at h
  refine ⟨h.1, fun e => ?_⟩
  have := h.2
  rw [e] at this
  simpa using this
mutual
theorem toksO : ∀ (x y : PyData), cmpO x y = true → (PyData.eqv x y = true → keyToks x = keyToks y) ∧
    (PyData.eqv x y = false → ∀ l m, PyProof.Rows.lexLt itemOrd (keyToks x ++ l) (keyToks y ++ m) = PyProof.Rows.lexLt itemOrd (keyToks x) (keyToks y))
  | .none, y, h => by cases y <;> simp [cmpO] at h
  | .bool _, y, h => by cases y <;> simp [cmpO] at h
  | .list _, y, h => by cases y <;> simp [cmpO] at h
  | .dict _, y, h => by cases y <;> simp [cmpO] at h
  | .int a, y, h => by
    cases y with
    | int b => exact toks_eqv (.int a) (.int b) (by simp [alike])
    | _ => simp [cmpO] at h
  | .str a, y, h => by
    cases y with
    | str b => exact toks_eqv (.str a) (.str b) (by simp [alike])
    | _ => simp [cmpO] at h
  | .tuple xs, y, h => by
    cases y with
    | tuple ys =>
      have q := toksOs xs ys (by simpa [cmpO] using h)
      simpa only [keyToks, PyData.eqv] using q
    | _ => simp [cmpO] at h
theorem toksOs : ∀ (xs ys : List PyData), cmpOs xs ys = true → (PyData.eqvAll xs ys = true → keyToksAll xs = keyToksAll ys) ∧
    (PyData.eqvAll xs ys = false → ∀ l m, PyProof.Rows.lexLt itemOrd (keyToksAll xs ++ l) (keyToksAll ys ++ m) = PyProof.Rows.lexLt itemOrd (keyToksAll xs) (keyToksAll ys))
  | [], ys, _ => toksAll_eqv [] ys (by cases ys <;> simp [alikeAll])
  | x :: xs, [], _ => toksAll_eqv (x :: xs) [] (by simp [alikeAll])
  | x :: xs, y :: ys, h => by
    have ⟨c1, c2⟩ := cmpOs_cons h
    have ⟨t1, t2⟩ := toksO x y c1
    rw [eqv_all_cons, toks_all_cons, toks_all_cons]
    by_cases e : PyData.eqv x y = true
    · have ⟨u1, u2⟩ := toksOs xs ys (c2 e)
      rw [t1 e, e, Bool.true_and]
      refine ⟨fun z => by rw [u1 z], fun z l m => ?_⟩
      have key : ∀ (A B : List (Int ⊕ List Nat)), PyProof.Rows.lexLt itemOrd (Sum.inl 1 :: (keyToks y ++ A)) (Sum.inl 1 :: (keyToks y ++ B)) = PyProof.Rows.lexLt itemOrd A B := fun A B =>
        (lex_self (O := itemOrd) _ _ _).trans (lex_pre _ _ _)
      simp only [List.cons_append, List.append_assoc]
      rw [key, key, u2 z l m]
    · have e' : PyData.eqv x y = false := by simpa using e
      rw [e', Bool.false_and]
      refine ⟨fun z => by simp at z, fun _ l m => ?_⟩
      have key : ∀ (A B : List (Int ⊕ List Nat)), PyProof.Rows.lexLt itemOrd (Sum.inl 1 :: (keyToks x ++ A)) (Sum.inl 1 :: (keyToks y ++ B)) = PyProof.Rows.lexLt itemOrd (keyToks x) (keyToks y) := fun A B =>
        (lex_self (O := itemOrd) _ _ _).trans (t2 e' A B)
      simp only [List.cons_append, List.append_assoc]
      rw [key, key]
end
theorem dataLt_pass {x y : PyData} {xs ys : List PyData} (h : cmpO x y = true) (e : PyData.eqv x y = true) : dataLt (.tuple (x :: xs)) (.tuple (y :: ys)) = dataLt (.tuple xs) (.tuple ys) := by
  rw [dataLt_tuple, dataLt_tuple, toks_all_cons, toks_all_cons, (toksO x y h).1 e]
  exact (lex_self (O := itemOrd) _ _ _).trans (lex_pre _ _ _)
theorem dataLt_stop {x y : PyData} {xs ys : List PyData} (h : cmpO x y = true) (e : PyData.eqv x y = false) : dataLt (.tuple (x :: xs)) (.tuple (y :: ys)) = dataLt x y := by
  rw [dataLt_tuple, toks_all_cons, toks_all_cons]
  exact (lex_self (O := itemOrd) _ _ _).trans ((toksO x y h).2 e _ _)
theorem dataLt_nil_nil : dataLt (.tuple []) (.tuple []) = false := lex_irrefl _
theorem dataLt_nil_cons (y : PyData) (ys : List PyData) : dataLt (.tuple []) (.tuple (y :: ys)) = true := by
  rw [dataLt_tuple, toks_all_cons]
  simp only [keyToksAll]
  rw [lex_diff (O := itemOrd) (by simp)]
  rfl
theorem dataLt_cons_nil (x : PyData) (xs : List PyData) : dataLt (.tuple (x :: xs)) (.tuple []) = false := by
  rw [dataLt_tuple, toks_all_cons]
  simp only [keyToksAll]
  rw [lex_diff (O := itemOrd) (by simp)]
  rfl
mutual
theorem cmpO_plain : ∀ x y, cmpO x y = true → cmpO y x = true
  | .none, y, h => by cases y <;> simp [cmpO] at h
  | .bool _, y, h => by cases y <;> simp [cmpO] at h
  | .list _, y, h => by cases y <;> simp [cmpO] at h
  | .dict _, y, h => by cases y <;> simp [cmpO] at h
  | .int a, y, h => by
    cases y with
    | int b => rfl
    | _ => simp [cmpO] at h
  | .str a, y, h => by
    cases y with
    | str b => rfl
    | _ => simp [cmpO] at h
  | .tuple xs, y, h => by
    cases y with
    | tuple ys =>
      have q := cmpOs_comm xs ys (by simpa [cmpO] using h)
      simpa [cmpO] using q
    | _ => simp [cmpO] at h
theorem cmpOs_comm : ∀ xs ys, cmpOs xs ys = true → cmpOs ys xs = true
  | [], [], _ => rfl
  | [], _ :: _, _ => rfl
  | _ :: _, [], _ => rfl
  | x :: xs, y :: ys, h => by
    have ⟨c1, c2⟩ := cmpOs_cons h
    rw [cmpOs, cmpO_plain x y c1, Bool.true_and, eqv_comm y x]
    by_cases e : PyData.eqv x y = true
    · rw [cmpOs_comm xs ys (c2 e), Bool.or_true]
    · simp [e]
end
mutual
/-- a < b -/
theorem rcO_lt : ∀ (d e : PyData) (A : Around) (s : Shared) (a b : Value) (as bs : List Addr), Reads s.heap a d as → Reads s.heap b e bs → d.plain = true → e.plain = true → cmpO d e = true → A.units + min d.depth e.depth < cLine → RcOp .Lt A s a b (dataLt d e)
  | .none, e, _, _, _, _, _, _, _, _, _, _, h, _ => by cases e <;> simp [cmpO] at h
  | .bool _, e, _, _, _, _, _, _, _, _, _, _, h, _ => by cases e <;> simp [cmpO] at h
  | .list _, e, _, _, _, _, _, _, _, _, _, _, h, _ => by cases e <;> simp [cmpO] at h
  | .dict _, e, _, _, _, _, _, _, _, _, _, _, h, _ => by cases e <;> simp [cmpO] at h
  | .int x, e, A, s, a, b, as, bs, ra, rb, _, _, h, hu => by
    cases e with
    | int y => exact rcLt_alike (.int x) (.int y) A s a b as bs ra rb (by simp [alike]) (fun z => nomatch z) hu
    | _ => simp [cmpO] at h
  | .str x, e, A, s, a, b, as, bs, ra, rb, _, _, h, hu => by
    cases e with
    | str y => exact rcLt_alike (.str x) (.str y) A s a b as bs ra rb (by simp [alike]) (fun z => nomatch z) hu
    | _ => simp [cmpO] at h
  | .tuple xs, e, A, s, a, b, as, bs, ra, rb, p1, p2, h, hu => by
    cases e with
    | tuple ys =>
      cases ra with
      | @tuple l o vs n _ as₁ h1 h2 h3 h4 =>
        cases rb with
        | @tuple l' o' ws n' _ bs₁ k1 k2 k3 k4 =>
          have n1 : vs.size = xs.length := by simpa using ReadsAll.length _ _ _ h4
          have n2 : ws.size = ys.length := by simpa using ReadsAll.length _ _ _ k4
          refine rc_tup_lt ⟨_, h1, h2, _, h3⟩ ⟨_, k1, k2, _, k3⟩ (room_here hu) ?_
          rw [n1, n2]
          exact rcOs_lt xs ys A.in1 s vs.toList ws.toList _ _ h4 k4 (by simpa [PyData.plain] using p1) (by simpa [PyData.plain] using p2) (by simpa [cmpO] using h) (room_in hu)
    | _ => simp [cmpO] at h
theorem rcOs_lt : ∀ (xs ys : List PyData) (A : Around) (s : Shared) (vs ws : List Value) (as bs : List Addr), ReadsAll s.heap vs xs as → ReadsAll s.heap ws ys bs → PyData.plainAll xs = true → PyData.plainAll ys = true → cmpOs xs ys = true →
    A.units + min (PyData.depthAll xs) (PyData.depthAll ys) < cLine → OpW .Lt A s (decide (xs.length < ys.length)) (vs.zip ws) (dataLt (.tuple xs) (.tuple ys))
  | [], [], _, _, _, _, _, _, ra, rb, _, _, _, _ => by
    cases ra; cases rb
    rw [dataLt_nil_nil]
    exact .done
  | [], y :: ys, _, _, _, _, _, _, ra, rb, _, _, _, _ => by
    cases ra
    rw [dataLt_nil_cons, List.zip_nil_left]
    have e : decide (([] : List PyData).length < (y :: ys).length) = true := decide_eq_true (Nat.succ_pos _)
    rw [e]
    exact .done
  | x :: xs, [], _, _, _, _, _, _, ra, rb, _, _, _, _ => by
    cases rb
    rw [dataLt_cons_nil, List.zip_nil_right]
    have e : decide ((x :: xs).length < ([] : List PyData).length) = false := decide_eq_false (Nat.not_lt_zero _)
    rw [e]
    exact .done
  | x :: xs, y :: ys, A, s, _, _, _, _, ra, rb, p1, p2, h, hu => by
    cases ra with
    | cons r rs =>
      cases rb with
      | cons r' rs' =>
        have ⟨c1, c2⟩ := cmpOs_cons h
        rw [PyData.plainAll, Bool.and_eq_true] at p1 p2
        have eq := eqAt_plain x y A s _ _ _ _ r r' p1.1 p2.1 (room_head hu)
        rw [List.zip_cons_cons]
        by_cases e : PyData.eqv x y = true
        · rw [e] at eq
          rw [dataLt_pass c1 e]
          have l : decide ((x :: xs).length < (y :: ys).length) = decide (xs.length < ys.length) := by
            rw [List.length_cons, List.length_cons]
            exact decide_eq_decide.mpr (by omega)
          rw [l]
          exact .pass eq (rcOs_lt xs ys A s _ _ _ _ rs rs' p1.2 p2.2 (c2 e) (room_tail hu))
        · have e' : PyData.eqv x y = false := by simpa using e
          rw [e'] at eq
          rw [dataLt_stop c1 e']
          exact .stop eq (rcO_lt x y A s _ _ _ _ r r' p1.1 p2.1 c1 (room_head hu))
end
mutual
/-- a > b -/
theorem rcO_gt : ∀ (d e : PyData) (A : Around) (s : Shared) (a b : Value) (as bs : List Addr), Reads s.heap a d as → Reads s.heap b e bs → d.plain = true → e.plain = true → cmpO d e = true → A.units + min d.depth e.depth < cLine → RcOp .Gt A s a b (dataLt e d)
  | .none, e, _, _, _, _, _, _, _, _, _, _, h, _ => by cases e <;> simp [cmpO] at h
  | .bool _, e, _, _, _, _, _, _, _, _, _, _, h, _ => by cases e <;> simp [cmpO] at h
  | .list _, e, _, _, _, _, _, _, _, _, _, _, h, _ => by cases e <;> simp [cmpO] at h
  | .dict _, e, _, _, _, _, _, _, _, _, _, _, h, _ => by cases e <;> simp [cmpO] at h
  | .int x, e, A, s, a, b, as, bs, ra, rb, _, _, h, hu => by
    cases e with
    | int y => exact rcGt_alike (.int x) (.int y) A s a b as bs ra rb (by simp [alike]) (fun z => nomatch z) hu
    | _ => simp [cmpO] at h
  | .str x, e, A, s, a, b, as, bs, ra, rb, _, _, h, hu => by
    cases e with
    | str y => exact rcGt_alike (.str x) (.str y) A s a b as bs ra rb (by simp [alike]) (fun z => nomatch z) hu
    | _ => simp [cmpO] at h
  | .tuple xs, e, A, s, a, b, as, bs, ra, rb, p1, p2, h, hu => by
    cases e with
    | tuple ys =>
      cases ra with
      | @tuple l o vs n _ as₁ h1 h2 h3 h4 =>
        cases rb with
        | @tuple l' o' ws n' _ bs₁ k1 k2 k3 k4 =>
          have n1 : vs.size = xs.length := by simpa using ReadsAll.length _ _ _ h4
          have n2 : ws.size = ys.length := by simpa using ReadsAll.length _ _ _ k4
          refine rc_tup_gt ⟨_, h1, h2, _, h3⟩ ⟨_, k1, k2, _, k3⟩ (room_here hu) ?_
          rw [n1, n2]
          exact rcOs_gt xs ys A.in1 s vs.toList ws.toList _ _ h4 k4 (by simpa [PyData.plain] using p1) (by simpa [PyData.plain] using p2) (by simpa [cmpO] using h) (room_in hu)
    | _ => simp [cmpO] at h
theorem rcOs_gt : ∀ (xs ys : List PyData) (A : Around) (s : Shared) (vs ws : List Value) (as bs : List Addr), ReadsAll s.heap vs xs as → ReadsAll s.heap ws ys bs → PyData.plainAll xs = true → PyData.plainAll ys = true → cmpOs xs ys = true →
    A.units + min (PyData.depthAll xs) (PyData.depthAll ys) < cLine → OpW .Gt A s (decide (xs.length > ys.length)) (vs.zip ws) (dataLt (.tuple ys) (.tuple xs))
  | [], [], _, _, _, _, _, _, ra, rb, _, _, _, _ => by
    cases ra; cases rb
    rw [dataLt_nil_nil]
    exact .done
  | [], y :: ys, _, _, _, _, _, _, ra, rb, _, _, _, _ => by
    cases ra
    rw [dataLt_cons_nil, List.zip_nil_left]
    have e : decide (([] : List PyData).length > (y :: ys).length) = false := decide_eq_false (Nat.not_lt_zero _)
    rw [e]
    exact .done
  | x :: xs, [], _, _, _, _, _, _, ra, rb, _, _, _, _ => by
    cases rb
    rw [dataLt_nil_cons, List.zip_nil_right]
    have e : decide ((x :: xs).length > ([] : List PyData).length) = true := decide_eq_true (Nat.succ_pos _)
    rw [e]
    exact .done
  | x :: xs, y :: ys, A, s, _, _, _, _, ra, rb, p1, p2, h, hu => by
    cases ra with
    | cons r rs =>
      cases rb with
      | cons r' rs' =>
        have ⟨c1, c2⟩ := cmpOs_cons h
        rw [PyData.plainAll, Bool.and_eq_true] at p1 p2
        have eq := eqAt_plain x y A s _ _ _ _ r r' p1.1 p2.1 (room_head hu)
        rw [List.zip_cons_cons]
        by_cases e : PyData.eqv x y = true
        · rw [e] at eq
          rw [dataLt_pass (cmpO_plain _ _ c1) ((eqv_comm y x).trans e)]
          have l : decide ((x :: xs).length > (y :: ys).length) = decide (xs.length > ys.length) := by
            rw [List.length_cons, List.length_cons]
            exact decide_eq_decide.mpr (by omega)
          rw [l]
          exact .pass eq (rcOs_gt xs ys A s _ _ _ _ rs rs' p1.2 p2.2 (c2 e) (room_tail hu))
        · have e' : PyData.eqv x y = false := by simpa using e
          rw [e'] at eq
          rw [dataLt_stop (cmpO_plain _ _ c1) ((eqv_comm y x).trans e')]
          exact .stop eq (rcO_gt x y A s _ _ _ _ r r' p1.1 p2.1 c1 (room_head hu))
end
end MH
/-! T2: rules by values over typed data (PySem.W.Datum) on the abstract heap: ==, in, <, >, count, remove, sorted. -/
namespace MH
open PySem L2
section
variable {α : Type} [DecidableEq α] [PySem.W.Datum α]
/-- v holds the datum x -/
def Hd (K : PySem.W.Frag) (H : Hp) (v : V) (x : α) : Prop := Dp K H v (PySem.W.Datum.toD x)
/-- item by item -/
def Hds (K : PySem.W.Frag) (H : Hp) (vs : List V) (xs : List α) : Prop := DpAll K H vs (xs.map PySem.W.Datum.toD)
theorem Hd.same {K : PySem.W.Frag} {H H' : Hp} {v : V} {x : α} (e : Same H H') (h : Hd K H v x) : Hd K H' v x := dp_same e h
theorem Hds.same {K : PySem.W.Frag} {H H' : Hp} {vs : List V} {xs : List α} (e : Same H H') (h : Hds K H vs xs) : Hds K H' vs xs := dpAll_same e h
end
/-- no list within -/
class Fz (α : Type) [DecidableEq α] [PySem.W.Datum α] : Prop where
  fz : ∀ x : α, frz (PySem.W.Datum.toD x) = true
instance : Fz Int := ⟨fun _ => rfl⟩
instance : Fz Str := ⟨fun _ => rfl⟩
instance : Fz Bool := ⟨fun _ => rfl⟩
section
variable {α β : Type} [DecidableEq α] [PySem.W.Datum α] [DecidableEq β] [PySem.W.Datum β]
theorem frz_map [Fz α] : ∀ xs : List α, frzAll (xs.map PySem.W.Datum.toD) = true
  | [] => rfl
  | x :: xs => by rw [List.map_cons, frzAll, Fz.fz x, frz_map xs]; rfl
instance [Fz α] [Fz β] : Fz (α × β) := ⟨fun p => by
  show frz (.tuple [PySem.W.Datum.toD p.1, PySem.W.Datum.toD p.2]) = true
  simp only [frz, frzAll, Fz.fz, Bool.and_self]⟩
instance [Fz α] : Fz (PySem.W.Tup α) := ⟨fun t => by
  show frz (.tuple (t.items.map PySem.W.Datum.toD)) = true
  simp only [frz]
  exact frz_map t.items⟩
variable {K : PySem.W.Frag} {H H' : Hp} {v : V} {vs ws : List V} {x : α} {xs ys : List α}
theorem Hd.tup [Fz α] (e : TupK H H') (h : Hd K H v x) : Hd K H' v x := dp_tup e (Fz.fz x) h
theorem Hds.tup [Fz α] (e : TupK H H') (h : Hds K H vs xs) : Hds K H' vs xs := dpAll_tup e (frz_map xs) h
theorem Hds.nil : Hds K H [] ([] : List α) := DpAll.nil
theorem Hds.cons (h : Hd K H v x) (t : Hds K H vs xs) : Hds K H (v :: vs) (x :: xs) := DpAll.cons h t
theorem Hds.length (h : Hds K H vs xs) : vs.length = xs.length := by
  have := dpAll_length h
  rw [List.length_map] at this
  exact this
theorem Hds.app (h : Hds K H vs xs) (t : Hds K H ws ys) : Hds K H (vs ++ ws) (xs ++ ys) := by
  show DpAll K H _ ((xs ++ ys).map _)
  rw [List.map_append]
  exact dpAll_app h t
theorem Hds.push (h : Hds K H vs xs) (t : Hd K H v x) : Hds K H (vs ++ [v]) (xs ++ [x]) := Hds.app h (Hds.cons t Hds.nil)
theorem Hds.get {i : Nat} (h : Hds K H vs xs) (hx : xs[i]? = some x) : ∃ v, vs[i]? = some v ∧ Hd K H v x := dpAll_get h (by rw [List.getElem?_map, hx]; rfl)
theorem Hds.getV {i : Nat} (h : Hds K H vs xs) (hv : vs[i]? = some v) : ∃ x, xs[i]? = some x ∧ Hd K H v x := by
  obtain ⟨d, e, q⟩ := dpAll_getV h hv
  rw [List.getElem?_map] at e
  cases z : xs[i]? with
  | none => rw [z] at e; cases e
  | some y =>
    rw [z] at e
    cases e
    exact ⟨y, rfl, q⟩
theorem Hds.take (n : Nat) (h : Hds K H vs xs) : Hds K H (vs.take n) (xs.take n) := by
  show DpAll K H _ ((xs.take n).map _)
  rw [List.map_take]
  exact dpAll_take n h
theorem Hds.drop (n : Nat) (h : Hds K H vs xs) : Hds K H (vs.drop n) (xs.drop n) := by
  show DpAll K H _ ((xs.drop n).map _)
  rw [List.map_drop]
  exact dpAll_drop n h
theorem hds_int (ns : List Int) : Hds K H (ns.map V.int) ns := dpAll_int ns
theorem hds_int_eq {ns : List Int} (h : Hds K H vs ns) : vs = ns.map V.int := dpAll_int_eq h
theorem hd_int (n : Int) : Hd K H (.int n) n := Dp.int n
theorem hd_bl (n : Bool) : Hd K H (.bl n) n := Dp.bl n
theorem hd_str (n : Str) : Hd K H (.str n) n := Dp.str n
theorem hd_list {a : Addr} (hl : H a = some (.lst vs)) (h : Hds K H vs xs) : Hd K H (.ref a) xs := Dp.lst hl h
theorem hd_listV (h : Hd K H v xs) : ∃ a vs, v = .ref a ∧ H a = some (.lst vs) ∧ Hds K H vs xs := dp_listV h
theorem hd_pair {y : β} {a : Addr} {u : V} (ht : H a = some (.tup [v, u])) (hv : Hd K H v x) (hu : Hd K H u y) : Hd K H (.ref a) (x, y) := Dp.tup ht (DpAll.cons hv (DpAll.cons hu DpAll.nil))
theorem hd_pairV {p : α × β} (h : Hd K H v p) : ∃ a u w, v = .ref a ∧ H a = some (.tup [u, w]) ∧ Hd K H u p.1 ∧ Hd K H w p.2 := by
  cases h with
  | tup h1 h2 =>
    cases h2 with
    | cons q1 q2 =>
      cases q2 with
      | cons q2 q3 =>
        cases q3
        exact ⟨_, _, _, rfl, h1, q1, q2⟩
theorem hd_intV {n : Int} (h : Hd K H v n) : v = .int n := dp_int h
theorem hd_strV {n : Str} (h : Hd K H v n) : v = .str n := dp_str h
/-- a tile -/
abbrev Tile := Int × Int
theorem tile_at {t : Tile} (h : Hd K H v t) : ∃ a, v = .ref a ∧ H a = some (.tup [.int t.1, .int t.2]) := by
  obtain ⟨a, u, w, e, q, h1, h2⟩ := hd_pairV h
  rw [hd_intV h1, hd_intV h2] at q
  exact ⟨a, e, q⟩
theorem tile_of {t : Tile} (h : Hd K H v t) : ∃ a, v = .ref a ∧ SqT K H a [.int t.1, .int t.2] := by
  obtain ⟨a, e, q⟩ := tile_at h
  exact ⟨a, e, SqT.of q⟩
theorem tile_mk {a : Addr} {i j : Int} (h : H a = some (.tup [.int i, .int j])) : Hd K H (.ref a) ((i, j) : Tile) := hd_pair h (hd_int i) (hd_int j)
end
section
variable {X : Cx} {pins : List (Addr × Obj)} {σ : St} {H : Hp} {s : Shared} {α : Type} [DecidableEq α] [PySem.W.Datum α]
theorem Hd.holds {v : V} {u : Value} {x : α} (I : Inv X pins σ H s) (h : Hd X.K H v x) (r : RelV v u) : PySem.W.Holds s.heap u x := Dp.reads I _ _ _ h r
theorem Hds.holds {vs : List V} {us : List Value} {xs : List α} (I : Inv X pins σ H s) (h : Hds X.K H vs xs) (r : Vals vs us) : PySem.W.HoldAll s.heap us xs := Dp.readsAll I _ _ _ h r
end

/-! ### rules -/
/-- typed data of a depth that the stack bears -/
def TwoD (K : PySem.W.Frag) (H : Hp) (x y : V) (Q : Bool → Prop) : Prop := ∃ (α : Type) (_ : DecidableEq α) (_ : PySem.W.Datum α) (a b : α), PySem.W.Datum.depth α ≤ 60 ∧ Hd K H x a ∧ Hd K H y b ∧ Q (decide (a = b))
def rEqA (K : PySem.W.Frag) : R2 := fun x y H Q => (scal x y = true ∧ Q (.bl (decide (x = y))) H) ∨ TwoD K H x y fun c => Q (.bl c) H
def rNeA (K : PySem.W.Frag) : R2 := fun x y H Q => (scal x y = true ∧ Q (.bl (!decide (x = y))) H) ∨ TwoD K H x y fun c => Q (.bl (!c)) H
def InD (K : PySem.W.Frag) (H : Hp) (x y : V) (Q : Bool → Prop) : Prop := ∃ (α : Type) (_ : DecidableEq α) (_ : PySem.W.Datum α) (a : α) (as : List α) (p : Addr) (vs : List V), PySem.W.Datum.depth α ≤ 60 ∧ y = .ref p ∧ (SqL K H p vs ∨ SqT K H p vs) ∧ Hds K H vs as ∧ Hd K H x a ∧ Q (decide (a ∈ as))
def rInA (K : PySem.W.Frag) : R2 := fun x y H Q => InD K H x y (fun c => Q (.bl c) H) ∨ ∃ (c : Nat) (z : Str), x = .str ⟨#[c]⟩ ∧ y = .str z ∧ Q (.bl (decide (c ∈ z.cps.toList))) H
def rNotInA (K : PySem.W.Frag) : R2 := fun x y H Q => InD K H x y (fun c => Q (.bl (!c)) H) ∨ ∃ (c : Nat) (z : Str), x = .str ⟨#[c]⟩ ∧ y = .str z ∧ Q (.bl (!decide (c ∈ z.cps.toList))) H
/-- data that can be compared -/
def CmpD (K : PySem.W.Frag) (H : Hp) (x y : V) (Q : PyData → PyData → Prop) : Prop := ∃ d e, Dp K H x d ∧ Dp K H y e ∧ d.plain = true ∧ e.plain = true ∧ cmpO d e = true ∧ d.depth ≤ 60 ∧ Q d e
def rLtA (K : PySem.W.Frag) : R2 := fun x y H Q => (∃ i j, x = .int i ∧ y = .int j ∧ Q (.bl (decide (i < j))) H) ∨ CmpD K H x y fun d e => Q (.bl (PySem.W.dataLt d e)) H
def rGtA (K : PySem.W.Frag) : R2 := fun x y H Q => (∃ i j, x = .int i ∧ y = .int j ∧ Q (.bl (decide (j < i))) H) ∨ CmpD K H x y fun d e => Q (.bl (PySem.W.dataLt e d)) H
def rCountA (K : PySem.W.Frag) : V → List V → Hp → VK → Prop := fun x xs H Q => ∃ (α : Type) (_ : DecidableEq α) (_ : PySem.W.Datum α) (p : Addr) (y : V) (vs : List V) (as : List α) (a : α), PySem.W.Datum.depth α ≤ 60 ∧ x = .ref p ∧ xs = [y] ∧ SqL K H p vs ∧ Hds K H vs as ∧ Hd K H y a ∧
  Q (.int ((as.countP (fun y => decide (y = a)) : Nat) : Int)) H
section
variable {X : Cx}
theorem room61 {A : Around} {k n : Nat} (hr : Room k A) (h : n ≤ 60) : A.units + 1 + n < cLine := by have := hr.units; omega
theorem room60 {A : Around} {k n : Nat} (hr : Room k A) (h : n ≤ 60) : A.units + n < cLine := by have := hr.units; omega
theorem op_eqA {K : PySem.W.Frag} {k : Nat} (hr : Room k X.A) (hK : X.K = K := by rfl) : OpR X (compareOp .Eq) (rEqA K) := by
  subst hK
  intro pins s σ H x y v u Q I rx ry h
  rcases h with h | ⟨α, _, _, a, b, hd, h1, h2, q⟩
  · exact op_eq pins s σ H x y v u Q I rx ry h
  · exact PySem.W.eq_datum (h1.holds I rx) (h2.holds I ry) (room60 hr hd) ⟨.bl _, H, I, rfl, q⟩
theorem op_neA {K : PySem.W.Frag} {k : Nat} (hr : Room k X.A) (hK : X.K = K := by rfl) : OpR X (compareOp .NotEq) (rNeA K) := by
  subst hK
  intro pins s σ H x y v u Q I rx ry h
  rcases h with h | ⟨α, _, _, a, b, hd, h1, h2, q⟩
  · exact op_ne pins s σ H x y v u Q I rx ry h
  · refine PySem.W.ne_datum (h1.holds I rx) (h2.holds I ry) (room60 hr hd) ⟨.bl (decide (a ≠ b)), H, I, rfl, ?_⟩
    rw [decide_not]
    exact q
theorem op_inA {K : PySem.W.Frag} {k : Nat} (hr : Room k X.A) (hK : X.K = K := by rfl) : OpR X (compareOp .In) (rInA K) := by
  subst hK
  intro pins s σ H x y v u Q I rx ry h
  rcases h with ⟨α, _, _, a, as, p, vs, hd, rfl, hl, hs, h1, q⟩ | h
  · cases ry
    rcases hl with hl | hl
    · obtain ⟨its, rv, pl, _⟩ := I.list hl
      exact PySem.W.in_list_datum pl.isList (hs.holds I rv) (h1.holds I rx) (room61 hr hd) ⟨.bl _, H, I, rfl, q⟩
    · obtain ⟨its, rv, pl, _⟩ := I.tuple hl
      exact PySem.W.in_tuple_datum pl (hs.holds I rv) (h1.holds I rx) (room61 hr hd) ⟨.bl _, H, I, rfl, q⟩
  · exact op_in_sign pins s σ H x y v u Q I rx ry h
theorem op_notInA {K : PySem.W.Frag} {k : Nat} (hr : Room k X.A) (hK : X.K = K := by rfl) : OpR X (compareOp .NotIn) (rNotInA K) := by
  subst hK
  intro pins s σ H x y v u Q I rx ry h
  rcases h with ⟨α, _, _, a, as, p, vs, hd, rfl, hl, hs, h1, q⟩ | h
  · cases ry
    rw [← decide_not] at q
    rcases hl with hl | hl
    · obtain ⟨its, rv, pl, _⟩ := I.list hl
      exact PySem.W.notIn_list_datum pl.isList (hs.holds I rv) (h1.holds I rx) (room61 hr hd) ⟨.bl _, H, I, rfl, q⟩
    · obtain ⟨its, rv, pl, _⟩ := I.tuple hl
      exact PySem.W.notIn_tuple_datum pl (hs.holds I rv) (h1.holds I rx) (room61 hr hd) ⟨.bl _, H, I, rfl, q⟩
  · exact op_notIn_sign pins s σ H x y v u Q I rx ry h
theorem op_ltA {K : PySem.W.Frag} {k : Nat} (hr : Room k X.A) (hK : X.K = K := by rfl) : OpR X (compareOp .Lt) (rLtA K) := by
  subst hK
  intro pins s σ H x y v u Q I rx ry h
  rcases h with h | ⟨d, e, h1, h2, p1, p2, c, hd, q⟩
  · exact op_lt pins s σ H x y v u Q I rx ry h
  · obtain ⟨as, r1⟩ := Dp.reads I d x v h1 rx
    obtain ⟨bs, r2⟩ := Dp.reads I e y u h2 ry
    exact rcO_lt d e X.A s v u as bs r1 r2 p1 p2 c (PySem.W.room_datum hd (room60 hr (Nat.le_refl 60))) X.prog X.w _ _ ⟨.bl _, H, I, rfl, q⟩
theorem op_gtA {K : PySem.W.Frag} {k : Nat} (hr : Room k X.A) (hK : X.K = K := by rfl) : OpR X (compareOp .Gt) (rGtA K) := by
  subst hK
  intro pins s σ H x y v u Q I rx ry h
  rcases h with h | ⟨d, e, h1, h2, p1, p2, c, hd, q⟩
  · exact op_gt pins s σ H x y v u Q I rx ry h
  · obtain ⟨as, r1⟩ := Dp.reads I d x v h1 rx
    obtain ⟨bs, r2⟩ := Dp.reads I e y u h2 ry
    exact rcO_gt d e X.A s v u as bs r1 r2 p1 p2 c (PySem.W.room_datum hd (room60 hr (Nat.le_refl 60))) X.prog X.w _ _ ⟨.bl _, H, I, rfl, q⟩
theorem mt_countA {K : PySem.W.Frag} {k : Nat} (hr : Room k X.A) (hK : X.K = K := by rfl) : MtR X "list.count" (rCountA K) := by
  subst hK
  intro pins s σ H x xs v us Q I rx rxs h
  obtain ⟨α, _, _, p, y, vs, as, a, hd, rfl, rfl, hl, hs, ha, q⟩ := h
  cases rx
  obtain ⟨uy, rfl, ry⟩ := vals1 rxs
  obtain ⟨its, rv, pl, _⟩ := I.list hl
  exact PySem.W.count_list_datum pl.isList (hs.holds I rv) (ha.holds I ry) (room61 hr hd) ⟨.int _, H, I.tok _, ⟨_, rfl⟩, q⟩
end
end MH
/-! T3: sorted(xs) of tuples that can be compared (tiles, melds), any length: some arrangement that rises. -/
namespace MH
open PySem L2
theorem swo_key {β : Type} (O : PyProof.Rows.KeyOrd) (k : β → O.α) : SrtO.Swo fun v u => O.blt (k v) (k u) := by
  refine ⟨fun x y h => ?_, fun x y z h1 h2 => ?_⟩
  · cases e : O.blt (k y) (k x) with
    | false => rfl
    | true =>
      have := O.trans _ _ _ h e
      rw [O.irrefl] at this
      exact this.symm
  · cases e : O.blt (k z) (k x) with
    | false => rfl
    | true =>
      rcases O.negTrans _ (k y) _ e with q | q
      · rw [h2] at q; exact q.symm
      · rw [h1] at q; exact q.symm
/-- the order of data -/
abbrev dataO : PyProof.Rows.KeyOrd := PyProof.Rows.listOrd PyProof.Rows.itemOrd
theorem dataLt_blt (d e : PyData) : PySem.W.dataLt d e = dataO.blt (PySem.W.keyToks d) (PySem.W.keyToks e) := rfl
theorem dataLt_irr (d : PyData) : PySem.W.dataLt d d = false := dataO.irrefl _
theorem dataLt_tr {d e f : PyData} (h1 : PySem.W.dataLt e d = false) (h2 : PySem.W.dataLt f e = false) : PySem.W.dataLt f d = false := (swo_key dataO PySem.W.keyToks).tr d e f h1 h2
theorem dataLt_asym {d e : PyData} (h : PySem.W.dataLt d e = true) : PySem.W.dataLt e d = false := (swo_key dataO PySem.W.keyToks).asym d e h
/-- what the first items of the tuples are -/
def FirstIs (T : String) : PyData → Prop
  | .int _ => T = "int"
  | .str _ => T = "str"
  | _ => False
def FirstOf (T : String) (ds : List PyData) : Prop := ∀ d ∈ ds, ∃ x r, d = .tuple (x :: r) ∧ FirstIs T x
def rSortedA (K : PySem.W.Frag) : List V → Hp → VK → Prop := fun xs H Q => ∃ (p : Addr) (vs : List V) (ds : List PyData) (T : String), xs = [.ref p] ∧ SqL K H p vs ∧ DpAll K H vs ds ∧ PyData.canLayAll0 ds = true ∧ PyData.plainAll ds = true ∧ PyData.depthAll ds ≤ 50 ∧ FirstOf T ds ∧
  (∀ d ∈ ds, ∀ e ∈ ds, cmpO d e = true) ∧
  ∀ q ws es, H q = none → es.Perm ds → es.Pairwise (fun a b => PySem.W.dataLt b a = false) → DpAll K H ws es → Q (.ref q) (upd H q (.lst ws))

/-! the comparison of a sort -/
theorem kat_ow {prog : Program} {w : World} {A : Around} {s : Shared} {fin k : Bool} {Q : Bool → Shared → Prop} (hq : Q k s) : ∀ (ps : List (Value × Value)) (i : Nat), OpW .Lt A s fin ps k → PySem.W.KatLex prog w A true fin Q ps (i + 1) s
  | [], _, o => by
    cases o
    exact PySem.W.kat_nil hq
  | (a, b) :: ps, i, o => by
    cases o with
    | pass e o => exact PySem.W.kat_cons (e prog w _ _ (PySem.W.kat_yes (kat_ow hq ps (i + 1) o)))
    | stop e r => exact PySem.W.kat_cons (e prog w _ _ (PySem.W.kat_no (PySem.W.kat_one a b (r prog w _ _ hq))))
/-- two tuples, their first items both whole numbers or both texts -/
theorem key_lt {prog : Program} {w : World} {A : Around} {s : Shared} {E : Value → Shared → Prop} {Q : Bool → Shared → Prop} {T : String} {x y : PyData} {xs ys : List PyData} {a b : Value} {as bs : List Addr} (ra : Reads s.heap a (.tuple (x :: xs)) as) (rb : Reads s.heap b (.tuple (y :: ys)) bs)
    (p1 : (PyData.tuple (x :: xs)).plain = true) (p2 : (PyData.tuple (y :: ys)).plain = true) (c : cmpO (.tuple (x :: xs)) (.tuple (y :: ys)) = true) (hu : A.units + (PyData.tuple (x :: xs)).depth < cLine)
    (fx : FirstIs T x) (fy : FirstIs T y)
    (hq : Q (PySem.W.dataLt (.tuple (x :: xs)) (.tuple (y :: ys))) s) : wpAny (model prog w) A (PyProof.Rows.keyLt' (PyProof.Rows.tuples' true) a b) Q E s := by
  cases ra with
  | @tuple l o vs n _ as₁ h1 h2 h3 h4 =>
    cases rb with
    | @tuple l' o' ws n' _ bs₁ k1 k2 k3 k4 =>
      refine PySem.W.kat_lt h1 h3 k1 k3 ?_
      have n1 : vs.size = (x :: xs).length := by simpa using SeqAt.ReadsAll.length _ _ _ h4
      have n2 : ws.size = (y :: ys).length := by simpa using SeqAt.ReadsAll.length _ _ _ k4
      rw [n1, n2]
      obtain ⟨vs⟩ := vs
      obtain ⟨ws⟩ := ws
      change ReadsAll s.heap vs _ _ at h4
      change ReadsAll s.heap ws _ _ at k4
      cases h4 with
      | @cons v vr _ _ _ _ r rs =>
        cases k4 with
        | @cons u ur _ _ _ _ r' rs' =>
          show PySem.W.KatLex prog w A true _ Q ((v, u) :: vr.zip ur) 0 s
          have cc := cmpOs_cons (by simpa [cmpO] using c)
          have q1 : PyData.plainAll (x :: xs) = true := by simpa [PyData.plain] using p1
          have q2 : PyData.plainAll (y :: ys) = true := by simpa [PyData.plain] using p2
          rw [PyData.plainAll, Bool.and_eq_true] at q1 q2
          have dep : A.units + (PyData.depthAll (x :: xs)) < cLine := by
            simp only [PyData.depth] at hu
            omega
          rw [PyData.depthAll] at dep
          have dx : A.units + x.depth < cLine := Nat.lt_of_le_of_lt (Nat.add_le_add_left (Nat.le_max_left _ _) _) dep
          have dxs : A.units + PyData.depthAll xs < cLine := Nat.lt_of_le_of_lt (Nat.add_le_add_left (Nat.le_max_right _ _) _) dep
          have eqx := PySem.SeqAt.eqAt_plain x y A s _ _ _ _ r r' q1.1 q2.1 (PySem.W.room_datum (Nat.le_refl _) dx)
          have len : decide ((x :: xs).length < (y :: ys).length) = decide (xs.length < ys.length) := by
            rw [List.length_cons, List.length_cons]
            exact decide_eq_decide.mpr (by omega)
          rw [len]
          refine PySem.W.kat_cons (eqx prog w _ _ ?_)
          by_cases e : PyData.eqv x y = true
          · rw [e]
            rw [dataLt_pass cc.1 e] at hq
            have m : A.units + min (PyData.depthAll xs) (PyData.depthAll ys) < cLine := Nat.lt_of_le_of_lt (Nat.add_le_add_left (Nat.min_le_left _ _) _) dxs
            exact PySem.W.kat_yes (kat_ow hq _ 0 (rcOs_lt xs ys A s _ _ _ _ rs rs' q1.2 q2.2 (cc.2 e) m))
          · have e' : PyData.eqv x y = false := by simpa using e
            rw [e']
            rw [dataLt_stop cc.1 e'] at hq
            refine PySem.W.kat_no ?_
            show wpAny (model prog w) A (PyProof.Rows.oneLt' true v u) Q _ s
            cases x with
            | int i =>
              cases y with
              | int j =>
                cases r
                cases r'
                rw [PySem.W.dataLt_int] at hq
                exact PyProof.Rows.oneLt_int hq
              | _ => simp [cmpO] at cc
            | str i =>
              cases y with
              | str j =>
                cases r
                cases r'
                rw [PySem.W.dataLt_str] at hq
                exact PyProof.Rows.oneLt_str hq
              | _ => simp [cmpO] at cc
            | _ => exact fx.elim
theorem depth_of_all {ds : List PyData} {d : PyData} {n : Nat} (h : PyData.depthAll ds ≤ n) (hd : d ∈ ds) : d.depth ≤ n := by
  induction ds with
  | nil => cases hd
  | cons e ds ih =>
    rw [PyData.depthAll] at h
    rcases List.mem_cons.mp hd with rfl | hd
    · exact Nat.le_trans (Nat.le_max_left _ _) h
    · exact ih (Nat.le_trans (Nat.le_max_right _ _) h) hd
theorem plain_of_all {ds : List PyData} {d : PyData} (h : PyData.plainAll ds = true) (hd : d ∈ ds) : d.plain = true := by
  induction ds with
  | nil => cases hd
  | cons e ds ih =>
    rw [PyData.plainAll, Bool.and_eq_true] at h
    rcases List.mem_cons.mp hd with rfl | hd
    · exact h.1
    · exact ih h.2 hd
theorem lay_of_all {ds : List PyData} {d : PyData} (h : PyData.canLayAll0 ds = true) (hd : d ∈ ds) : d.canLay0 = true := by
  induction ds with
  | nil => cases hd
  | cons e ds ih =>
    rw [PyData.canLayAll0, Bool.and_eq_true] at h
    rcases List.mem_cons.mp hd with rfl | hd
    · exact h.1
    · exact ih h.2 hd
theorem readsAll_mem {h : Heap} : ∀ {vs : List Value} {ds : List PyData} {as : List Addr} {v : Value}, ReadsAll h vs ds as → v ∈ vs → ∃ d as, d ∈ ds ∧ Reads h v d as
  | _, _, _, _, .nil, hv => by cases hv
  | _, _, _, _, .cons r rs, hv => by
    rcases List.mem_cons.mp hv with rfl | hv
    · exact ⟨_, _, List.mem_cons_self, r⟩
    · obtain ⟨d, as, hd, q⟩ := readsAll_mem rs hv
      exact ⟨d, as, List.mem_cons_of_mem _ hd, q⟩
theorem dp_refs {K : PySem.W.Frag} {H : Hp} : ∀ {vs : List V} {ds : List PyData}, DpAll K H vs ds → (∀ d ∈ ds, ∃ xs, d = .tuple xs) → ∀ x ∈ vs, ∃ a, x = V.ref a
  | _, _, .nil, _, _, hx => by cases hx
  | _, _, .cons h t, f, x, hx => by
    rcases List.mem_cons.mp hx with rfl | hx
    · obtain ⟨xs, rfl⟩ := f _ List.mem_cons_self
      cases h
      exact ⟨_, rfl⟩
    · exact dp_refs t (fun d hd => f d (List.mem_cons_of_mem _ hd)) x hx
theorem dp_zip {K : PySem.W.Frag} {H : Hp} {vs : List V} {ds : List PyData} (h : DpAll K H vs ds) : ∀ {us : List Value} {f : Value → V} {g : Value → PyData}, vs = us.map f → ds = us.map g → ∀ u ∈ us, Dp K H (f u) (g u) := by
  induction ds generalizing vs with
  | nil =>
    intro us f g e1 e2 u hu
    cases us with
    | nil => cases hu
    | cons _ _ => simp at e2
  | cons d ds ih =>
    intro us f g e1 e2 u hu
    cases us with
    | nil => simp at e2
    | cons w us =>
      rw [List.map_cons] at e1 e2
      cases h with
      | cons h1 h2 =>
        injection e1 with a1 a2
        injection e2 with b1 b2
        rcases List.mem_cons.mp hu with rfl | hu
        · rw [← a1, ← b1]; exact h1
        · exact ih h2 a2 b2 u hu
theorem dp_of_map {K : PySem.W.Frag} {H : Hp} {f : Value → V} {g : Value → PyData} : ∀ {us : List Value}, (∀ u ∈ us, Dp K H (f u) (g u)) → DpAll K H (us.map f) (us.map g)
  | [], _ => .nil
  | u :: us, h => .cons (h u List.mem_cons_self) (dp_of_map fun w hw => h w (List.mem_cons_of_mem _ hw))
section
variable {X : Cx}
theorem cr_sortedA {K : PySem.W.Frag} {k : Nat} (hr : Room k X.A) (hK : X.K = K := by rfl) : CallR X (.builtin "sorted") (rSortedA K) := by
  subst hK
  intro pins s σ H vs us Q I r h
  obtain ⟨p, xs, ds, T, rfl, hl, hds, lay, pl, dep, fo, cmp, q⟩ := h
  obtain ⟨u, rfl, ru⟩ := vals1 r
  obtain rfl : u = Value.ref p := ru
  obtain ⟨its, rv, lp, hz⟩ := I.list hl
  obtain ⟨as, rd⟩ := Dp.readsAll I ds xs its hds rv
  have isTup : ∀ d ∈ ds, ∃ xs, d = PyData.tuple xs := fun d hd => by
    obtain ⟨x, r, e, _⟩ := fo d hd
    exact ⟨_, e⟩
  obtain ⟨e1, e2⟩ := refs_back rv (dp_refs hds isTup)
  have em : its.map (SeqAt.readOf s.heap) = ds := SeqAt.readsAll_map ds its as lay rd
  have each : ∀ v ∈ its, SeqAt.readOf s.heap v ∈ ds ∧ ∃ as, Reads s.heap v (SeqAt.readOf s.heap v) as := fun v hv => by
    obtain ⟨d, bs, hd, rr⟩ := readsAll_mem rd hv
    rw [SeqAt.readOf_eq (lay_of_all lay hd) rr]
    exact ⟨hd, bs, rr⟩
  have dpe := dp_zip hds e1 em.symm
  have hz' : its.length ≤ sizeLine := by rw [← rv.length]; exact hz
  have un : X.A.in1.in1.units + 50 < cLine := by
    have := hr.units
    show X.A.units + 1 + 1 + 50 < cLine
    omega
  refine SrtO.sorted_ord (ltv := fun v u => dataO.blt (PySem.W.keyToks (SeqAt.readOf s.heap v)) (PySem.W.keyToks (SeqAt.readOf s.heap u))) (swo_key dataO fun v => PySem.W.keyToks (SeqAt.readOf s.heap v)) lp.isList hz' (fun h2 hp a ha kk => ?_) fun out hs hb => ?_
  · intro h' keep
    have old : ∀ v ∈ its, ∃ as, Reads h' v (SeqAt.readOf s.heap v) as := fun v hv => by
      obtain ⟨_, as, rr⟩ := each v hv
      exact ⟨as, PyProof.Rows.Reads.keeps (fun b o e => keep b o (kk b o e).1 (kk b o e).2) rr⟩
    have kat : ∀ ws : List Value, (∀ v ∈ ws, v ∈ its) → ∃ fs, PySem.W.KatTups h' ws fs ∧ fs.length = ws.length ∧ ∀ f ∈ fs, PySem.W.Looks (model X.prog X.w) h' (typeOf f) (.type T) := by
      intro ws
      induction ws with
      | nil => exact fun _ => ⟨[], PySem.W.KatTups.nil, rfl, fun f hf => nomatch hf⟩
      | cons v ws ih =>
        intro hw
        obtain ⟨fs, k1, k2, k3⟩ := ih fun u hu => hw u (List.mem_cons_of_mem _ hu)
        have hv := hw v List.mem_cons_self
        obtain ⟨x, rr, ed, fx⟩ := fo _ (each v hv).1
        obtain ⟨bs, rr'⟩ := old v hv
        rw [ed] at rr'
        cases rr' with
        | @tuple l o zs n _ as₁ h1 h2 h3 h4 =>
          obtain ⟨zs⟩ := zs
          change ReadsAll h' zs _ _ at h4
          cases h4 with
          | @cons z zr _ _ _ _ r1 r2 =>
            refine ⟨z :: fs, PySem.W.KatTups.cons h1 h2 h3 (by rfl) k1, by simp [k2], fun f hf => ?_⟩
            rcases List.mem_cons.mp hf with rfl | hf
            · cases x with
              | int i =>
                cases r1
                have e : T = "int" := fx
                subst e
                exact PySem.W.Looks.now
              | str i =>
                cases r1
                have e : T = "str" := fx
                subst e
                exact PySem.W.Looks.now
              | _ => exact fx.elim
            · exact k3 f hf
    obtain ⟨fs, k1, k2, k3⟩ := kat its fun _ h => h
    have nt : (Value.type T != Value.type "tuple") = true := by
      have hi : 0 < its.length := by omega
      have hm : its[0] ∈ its := List.getElem_mem hi
      obtain ⟨x, rr, ed, fx⟩ := fo _ (each _ hm).1
      cases x with
      | int i =>
        have e : T = "int" := fx
        subst e
        rfl
      | str i =>
        have e : T = "str" := fx
        subst e
        rfl
      | _ => exact fx.elim
    refine ⟨PyProof.Rows.tuples' true, fun Q' E' hq' => ?_, fun x y hx hy => ?_⟩
    · refine PySem.W.kat_kind k1 (by omega) k3 (by simp) ?_
      rw [nt]
      exact hq'
    · obtain ⟨x1, xr, ex, fx⟩ := fo _ (each _ hx).1
      obtain ⟨y1, yr, ey, fy⟩ := fo _ (each _ hy).1
      obtain ⟨as, ra⟩ := old _ hx
      obtain ⟨bs, rb⟩ := old _ hy
      have mx := (each _ hx).1
      have my := (each _ hy).1
      rw [ex] at ra mx
      rw [ey] at rb my
      refine key_lt (T := T) ra rb (plain_of_all pl mx) (plain_of_all pl my) (cmp _ mx _ my) ?_ fx fy ?_
      · have := depth_of_all dep mx
        show X.A.in1.in1.units + _ < cLine
        omega
      · refine ⟨rfl, ?_⟩
        show _ = PySem.W.dataLt (SeqAt.readOf s.heap x.1) (SeqAt.readOf s.heap y.1)
        rw [ex, ey]
  · have mem : ∀ u ∈ out, u ∈ its := fun u hu => hb.perm.mem_iff.mp hu
    have refs : ∀ u ∈ out, ∃ a, u = Value.ref a := fun u hu => e2 u (mem u hu)
    obtain ⟨n, hn⟩ := PyProof.Rows.sortedAll_at s.heap its out.toArray
    have hd : s.heap.objs.size ≤ s.heap.objs.size + 1 := Nat.le_succ _
    have pd : DpAll X.K H (out.map backV) (out.map (SeqAt.readOf s.heap)) := dp_of_map fun u hu => dpe u (mem u hu)
    have len : (out.map backV).length = xs.length := by rw [List.length_map, hb.perm.length_eq, rv.length]
    refine ⟨.ref (s.heap.objs.size + 1), upd H (s.heap.objs.size + 1) (.lst (out.map backV)), I.laid (t' := s.toks) (fun b o e => PyProof.Rows.sortedAll_old e) hd ⟨?_, out, n, vals_back refs, hn⟩, rfl, q _ _ _ (I.hok.fresh hd) ?_ ?_ pd⟩
    · rw [len]
      exact hz
    · rw [← em]
      exact hb.perm.map _
    · exact List.pairwise_map.mpr hs
end
/-- a permutation of an image is an image of a permutation -/
theorem perm_map {α β : Type} {f : α → β} {l : List α} {m : List β} (h : m.Perm (l.map f)) : ∃ k : List α, k.Perm l ∧ m = k.map f := by
  have aux : ∀ (a b : List β), a.Perm b → ∀ l : List α, b = l.map f → ∃ k : List α, k.Perm l ∧ a = k.map f := by
    intro a b p
    induction p with
    | nil =>
      intro l e
      have : l = [] := by simpa using e.symm
      exact ⟨[], by rw [this], rfl⟩
    | cons x p ih =>
      intro l e
      cases l with
      | nil => simp at e
      | cons y l =>
        rw [List.map_cons] at e
        injection e with e1 e2
        obtain ⟨k, pk, ek⟩ := ih l e2
        exact ⟨y :: k, pk.cons y, by rw [List.map_cons, ek, e1]⟩
    | swap x y p =>
      intro l e
      cases l with
      | nil => simp at e
      | cons u l =>
        cases l with
        | nil => simp at e
        | cons v l =>
          simp only [List.map_cons] at e
          injection e with e1 e2
          injection e2 with e2 e3
          exact ⟨v :: u :: l, List.Perm.swap u v l, by simp [e1, e2, e3]⟩
    | trans p q ih1 ih2 =>
      intro l e
      obtain ⟨k, pk, ek⟩ := ih2 l e
      obtain ⟨j, pj, ej⟩ := ih1 k ek
      exact ⟨j, pj.trans pk, ej⟩
  exact aux m (l.map f) h l rfl
end MH
/-! T4: defs as their callers meet them; the class House; short rules and the steps of a reading. -/
namespace MH
open PySem L2

/-! ### defs, methods, the class -/
structure Fn (P : Program) (w : World) (K : PySem.W.Frag) (mg : Str → Option Value) (base : Heap) (CX : CXT) (k : Nat) (x : Str) (ps : List Str) (sp : Sp) : Prop where
  ex : ∃ (f : Addr) (fd : FuncData), FnOk P w K mg base CX k f fd ps sp ∧ mg x = some (.ref f) ∧ PySem.W.keepIn K (.ref f) = true ∧ Binds K fd ps []
structure Mth (P : Program) (w : World) (K : PySem.W.Frag) (mg : Str → Option Value) (base : Heap) (C : Addr) (k : Nat) (m : Str) (ps : List Str) (sp : Sp) : Prop where
  ex : ∃ (f : Addr) (fd : FuncData), FnOk P w K mg base CX0 k f fd ps sp ∧ Meth K C m f ∧ Binds K fd ps []
structure Maker (P : Program) (w : World) (K : PySem.W.Frag) (mg : Str → Option Value) (base : Heap) (C : Addr) (k : Nat) (x : Str) (ps : List Str) (sp : Sp) : Prop where
  ex : ∃ (f : Addr) (fd : FuncData), FnOk P w K mg base (L2.CX P w) k f fd ps sp ∧ Mk K C f ∧ mg x = some (.ref C) ∧ Binds K fd ps []
section
variable {X : Cx} {k : Nat} {x m : Str} {ps : List Str} {sp : Sp} {E : XK} {e o : Expr} {es : List Expr} {t : TA} {ta : TE} {p pos apos : Pos}
theorem pe_fn {CX : CXT} (F : Fn X.prog X.w X.K X.mg X.base CX k x ps sp) (hr : Room k X.A) (hx : Passes CX X E) (ha : PA X (e :: es) t) (hg : Gl X x := by rfl) (hdb : (x == ("__debug__" : Str)) = false := by decide)
    (he : starEach (e :: es) X.env = (false, eval e X.env) :: starEach es X.env := by rfl) (hpl : (backTo pos (starEach es X.env)).any (·.1) = false := by rfl) :
    PE X (.Call (.Name x p) (e :: es) [] pos) (tCall sp [] E t) := by
  obtain ⟨f, fd, G, hm, kp, b⟩ := F.ex
  exact pe_call G hr hg hm kp b .nil hx ha hdb he hpl
/-- a def that raises nothing -/
theorem pe_fn0 (F : Fn X.prog X.w X.K X.mg X.base CX0 k x ps sp) (hr : Room k X.A) (ha : PA X (e :: es) t) (hg : Gl X x := by rfl) (hdb : (x == ("__debug__" : Str)) = false := by decide)
    (he : starEach (e :: es) X.env = (false, eval e X.env) :: starEach es X.env := by rfl) (hpl : (backTo pos (starEach es X.env)).any (·.1) = false := by rfl) :
    PE X (.Call (.Name x p) (e :: es) [] pos) (tCall sp [] E0 t) := pe_fn F hr pass0 ha hg hdb he hpl
/-- a def that may raise, where it is known not to -/
theorem pe_fnL (F : Fn X.prog X.w X.K X.mg X.base (L2.CX X.prog X.w) k x ps sp) (hr : Room k X.A) (ha : PA X (e :: es) t) (hg : Gl X x := by rfl) (hdb : (x == ("__debug__" : Str)) = false := by decide)
    (he : starEach (e :: es) X.env = (false, eval e X.env) :: starEach es X.env := by rfl) (hpl : (backTo pos (starEach es X.env)).any (·.1) = false := by rfl) :
    PE X (.Call (.Name x p) (e :: es) [] pos) (tCall sp [] E0 t) := pe_fn F hr passL ha hg hdb he hpl
/-- a def that may raise, within a def that may -/
theorem pe_fnX (tk : Takes X (fun cls d _ H => E cls d H)) (F : Fn X.prog X.w X.K X.mg X.base (L2.CX X.prog X.w) k x ps sp) (hr : Room k X.A) (ha : PA X (e :: es) t) (hg : Gl X x := by rfl) (hdb : (x == ("__debug__" : Str)) = false := by decide)
    (he : starEach (e :: es) X.env = (false, eval e X.env) :: starEach es X.env := by rfl) (hpl : (backTo pos (starEach es X.env)).any (·.1) = false := by rfl) :
    PE X (.Call (.Name x p) (e :: es) [] pos) (tCall sp [] E t) := pe_fn F hr (passes_call tk fun _ _ _ _ h => h) ha hg hdb he hpl
/-- .. within a try -/
theorem pe_fnT {W : WX} (tk : Takes X W) (F : Fn X.prog X.w X.K X.mg X.base (L2.CX X.prog X.w) k x ps sp) (hr : Room k X.A) (ha : PA X (e :: es) t) (hg : Gl X x := by rfl) (hdb : (x == ("__debug__" : Str)) = false := by decide)
    (he : starEach (e :: es) X.env = (false, eval e X.env) :: starEach es X.env := by rfl) (hpl : (backTo pos (starEach es X.env)).any (·.1) = false := by rfl) :
    PE X (.Call (.Name x p) (e :: es) [] pos) (tCallS sp (WE W) t) := by
  obtain ⟨f, fd, G, hm, kp, b⟩ := F.ex
  exact pe_callS G hr hg hm kp b (fun σ => passAt tk σ) ha hdb he hpl
theorem pe_mth {C : Addr} {pl : Sem Bool} (he : PE X o ta) (c : Cls X.K C) (F : Mth X.prog X.w X.K X.mg X.base C k m ps sp) (hr : Room k X.A) (ha : PA X (e :: es) t)
    (hst : starEach (e :: es) X.env = (false, eval e X.env) :: starEach es X.env := by rfl) (hpl : (backTo pos (starEach es X.env)).any (·.1) = false := by rfl)
    (ht : eval (.Call (.Attribute o m apos) (e :: es) [] pos) X.env = (do
      let ov ← eval o X.env
      standAt apos.atName
      let (f, first) ← holding [ov] (getMethod ov m pl)
      callWith pos f first (backTo pos (starEach (e :: es) X.env)) (backToKw pos (keywordEach [] X.env))) := by rfl) :
    PE X (.Call (.Attribute o m apos) (e :: es) [] pos) (tMeth C m sp [] E0 ta t) := by
  obtain ⟨f, fd, G, hm, b⟩ := F.ex
  exact pe_meth (pl := pl) he c hm G hr b .nil pass0 ha hst hpl ht
/-- House(..) where it is a house -/
theorem pe_mkL {C : Addr} (F : Maker X.prog X.w X.K X.mg X.base C k x ps sp) (hr : Room (k + 1) X.A) (ha : PA X (e :: es) t) (hg : Gl X x := by rfl) (hdb : (x == ("__debug__" : Str)) = false := by decide)
    (he : starEach (e :: es) X.env = (false, eval e X.env) :: starEach es X.env := by rfl) (hpl : (backTo pos (starEach es X.env)).any (·.1) = false := by rfl) :
    PE X (.Call (.Name x p) (e :: es) [] pos) (tMake C sp [] E0 t) := by
  obtain ⟨f, fd, G, M, hm, b⟩ := F.ex
  exact pe_make M G hr hg hm b .nil passL ha hdb he hpl
/-- .. within a try: what is raised is wished for at the slots as they stand -/
def tMakeS (C : Addr) (sp : Sp) (E : St → XK) (t : TA) : TE := fun σ H Q => t σ H fun vs H1 => ∀ y dy, H1 y = none → H1 dy = none → dy ≠ y →
  sp (.ref y :: vs) (upd (upd H1 dy (.own y)) y (.ins C dy [])) (fun v H2 => v = .non ∧ Q (.ref y) H2) (E σ)
theorem pe_mkT {W : WX} {C : Addr} (tk : Takes X W) (F : Maker X.prog X.w X.K X.mg X.base C k x ps sp) (hr : Room (k + 1) X.A) (ha : PA X (e :: es) t) (hg : Gl X x := by rfl) (hdb : (x == ("__debug__" : Str)) = false := by decide)
    (he : starEach (e :: es) X.env = (false, eval e X.env) :: starEach es X.env := by rfl) (hpl : (backTo pos (starEach es X.env)).any (·.1) = false := by rfl) :
    PE X (.Call (.Name x p) (e :: es) [] pos) (tMakeS C sp (WE W) t) := by
  obtain ⟨f, fd, G, M, hm, b⟩ := F.ex
  refine ⟨fun pins s σ H Q I hq => ?_⟩
  refine wpAny_Call_Name_kw (ld_glob I hg hm ?_ hdb)
  refine PySem.W.callWith_K (h₀ := X.base) I.ok.mod.kin M.kp (thn (ha.run pos pins s σ H _ I hq) fun us s1 done => ?_) he hpl
  obtain ⟨vs, H1, I1, r1, q1⟩ := done
  refine ⟨I1.kIn, ?_⟩
  have n1 : H1 (s1.heap.objs.size + 1) = none := I1.hok.fresh (Nat.le_succ _)
  have n2 : H1 s1.heap.objs.size = none := I1.hok.fresh (Nat.le_refl _)
  have q2 := (q1 (s1.heap.objs.size + 1) s1.heap.objs.size n1 n2 (Nat.ne_of_lt (Nat.lt_succ_self _)))
  have J := Inv.made (C := C) I1
  have rr : Vals (V.ref (s1.heap.objs.size + 1) :: vs) (Value.ref (s1.heap.objs.size + 1) :: us) := .cons rfl r1
  have len : (Value.ref (s1.heap.objs.size + 1) :: us).length = ps.length := by
    rw [← rr.length]
    exact G.len _ _ _ _ q2
  have bt := b { s1 with heap := (s1.heap.push _).push _, toks := _ } (Value.ref (s1.heap.objs.size + 1) :: us) J.kIn (by rw [List.append_nil]; exact len)
  rw [List.append_nil] at bt
  refine wpAny_call (make_map (f := f) I1.kIn M.makes M.init (beq_iff_eq.mp M.fn) (codeAny_mono (G.run _ X.stack _ _ ⟨Value.ref (s1.heap.objs.size + 1) :: us, []⟩ _ _ _ (WE W σ) (hr.make C us []) (J.env0.make C us []) bt rr q2) fun res s2 hres => ?_))
  cases res with
  | error er => exact passAt tk σ pins _ _ er s2 J hres
  | ok fl =>
    cases fl with
    | ret u =>
      obtain ⟨v, H3, I3, rv, ev, q3⟩ := J.after hres
      subst ev
      exact ⟨rv, ⟨V.ref (s1.heap.objs.size + 1), H3, I3, rfl, q3⟩⟩
    | next => exact False.elim hres
    | brk => exact False.elim hres
    | cont => exact False.elim hres
end
end MH
/-! T5: the built-ins' names, the house, the steps of a reading. -/
namespace MH
open PySem L2

structure Bl (mg : Str → Option Value) : Prop where
  len : mg "len" = none
  range : mg "range" = none
  enumerate : mg "enumerate" = none
  sorted : mg "sorted" = none
  isinstance : mg "isinstance" = none
  int : mg "int" = none
  bool : mg "bool" = none
  list : mg "list" = none
  str : mg "str" = none
  min : mg "min" = none
  max : mg "max" = none
  sum : mg "sum" = none
  all : mg "all" = none
  set : mg "set" = none
  dict : mg "dict" = none
  tuple : mg "tuple" = none
  ve : mg "ValueError" = none
/-- the class House -/
structure Hs (K : PySem.W.Frag) (C : Addr) : Prop where
  cl : Cls K C
  nM : NoAttr K C "most"
  nC : NoAttr K C "colours"
def flds (m c : Int) : List (Str × V) := [("most", V.int m), ("colours", V.int c)]
theorem neMC : ¬ (("most" : Str) = "colours") := by decide +kernel
theorem flds_most (m c : Int) : (flds m c).lookup ("most" : Str) = some (.int m) := by simp [flds, List.lookup]
theorem flds_colours (m c : Int) : (flds m c).lookup ("colours" : Str) = some (.int c) := by
  have h : (("colours" : Str) == "most") = false := by decide +kernel
  simp [flds, List.lookup, h]
theorem flds_no (m c : Int) {f : Str} (h1 : (f == ("most" : Str)) = false) (h2 : (f == ("colours" : Str)) = false) : (flds m c).lookup f = none := by simp [flds, List.lookup, h1, h2]
/-- a House stands at p -/
def HouseAt (C : Addr) (H : Hp) (p : Addr) (m c : Int) : Prop := ∃ dx, H p = some (.ins C dx (flds m c))
theorem HouseAt.same {C : Addr} {H H' : Hp} {p : Addr} {m c : Int} (e : Same H H') (h : HouseAt C H p m c) : HouseAt C H' p m c := by
  obtain ⟨dx, h⟩ := h
  exact ⟨dx, e _ _ h⟩
theorem HouseAt.upd {C : Addr} {H : Hp} {p q : Addr} {m c : Int} {o : HO} (h : HouseAt C H p m c) (n : p ≠ q) : HouseAt C (upd H q o) p m c := by
  obtain ⟨dx, h⟩ := h
  exact ⟨dx, by rw [upd_ne n]; exact h⟩

/-! ### steps -/
/-- what is wanted of a new object, at any free place -/
def NewO (o : HO) (H : Hp) (Q : VK) : Prop := ∀ p, H p = none → Q (.ref p) (upd H p o)
section
variable {σ : St} {H : Hp} {Q : VK} {QT : Bool → Hp → Prop} {QA : List V → Hp → Prop} {D : Ends} {i : Nat} {v x y : V} {ta tb tc te : TE} {tt uu : TT} {ts us : TS} {r r' : R2} {al bl : TA} {a b n m : Int}
theorem rd_var (h : σ[i]? = some (some v)) (q : Q v H) : tVar i σ H Q := ⟨v, h, q⟩
theorem rd_c (q : Q v H) : tC v σ H Q := q
theorem rd_op (q : ta σ H fun x H1 => tb σ H1 fun y H2 => r x y H2 Q) : tOp r ta tb σ H Q := q
theorem rd_un {r : V → Hp → VK → Prop} (q : ta σ H fun x H1 => r x H1 Q) : tUn r ta σ H Q := q
theorem rd_I0 {g : Int → Int → V} (q : Q (g a b) H) : rI0 g (.int a) (.int b) H Q := ⟨a, b, rfl, rfl, q⟩
theorem rd_I {C : Int → Int → Prop} {g : Int → Int → V} (hc : C a b) (q : Q (g a b) H) : rI C g (.int a) (.int b) H Q := ⟨a, b, rfl, rfl, hc, q⟩
theorem rd_U {g : Int → V} (q : Q (g a) H) : rU g (.int a) H Q := ⟨a, rfl, q⟩
theorem rd_chain (q : ta σ H fun x H1 => tb σ H1 fun y H2 => r x y H2 fun z H3 => ∃ k, z = .bl k ∧ (if k = true then tc σ H3 fun w H4 => r' y w H4 Q else Q (.bl false) H3)) : tChain r r' ta tb tc σ H Q := q
theorem rd_bl {k : Bool} {P : Bool → Prop} (q : P k) : ∃ k', V.bl k = .bl k' ∧ P k' := ⟨k, rfl, q⟩
theorem rd_test (q : ta σ H fun x H1 => ∃ k, x = .bl k ∧ QT k H1) : tTest ta σ H QT := q
theorem rd_B (q : ta σ H fun x H1 => ∃ k, x = .bl k ∧ QT k H1) : tB ta σ H QT := q
theorem rd_and (q : tt σ H fun c H1 => if c = true then uu σ H1 QT else QT false H1) : tAnd tt uu σ H QT := q
theorem rd_or (q : tt σ H fun c H1 => if c = true then QT true H1 else uu σ H1 QT) : tOr tt uu σ H QT := q
theorem rd_not (q : tt σ H fun c H1 => QT (!c) H1) : tNot tt σ H QT := q
theorem rd_andV (q : ta σ H fun x H1 => ∃ c, x = .bl c ∧ if c = true then tb σ H1 Q else Q (.bl false) H1) : tAndV ta tb σ H Q := q
theorem rd_orV (q : ta σ H fun x H1 => ∃ c, x = .bl c ∧ if c = true then Q (.bl true) H1 else tb σ H1 Q) : tOrV ta tb σ H Q := q
theorem rd_notV (q : ta σ H fun x H1 => ∃ c, x = .bl c ∧ Q (.bl (!c)) H1) : tNotV ta σ H Q := q
theorem rd_ifE (q : tt σ H fun c H1 => if c = true then ta σ H1 Q else tb σ H1 Q) : tIf tt ta tb σ H Q := q
theorem rd_nil (q : QA [] H) : tNil σ H QA := q
theorem rd_cons (q : ta σ H fun x H1 => al σ H1 fun xs H2 => QA (x :: xs) H2) : tCons ta al σ H QA := q
theorem rd_tup (q : al σ H fun xs H1 => xs.length ≤ sizeLine ∧ NewO (.tup xs) H1 Q) : tTup al σ H Q := q
theorem rd_lst (q : al σ H fun xs H1 => xs.length ≤ sizeLine ∧ NewO (.lst xs) H1 Q) : tLst al σ H Q := q
theorem rd_call {sp : Sp} {E : XK} (q : al σ H fun vs H1 => sp (vs ++ []) H1 Q E) : tCall sp [] E al σ H Q := q
theorem rd_CB {rb : List V → Hp → VK → Prop} (q : al σ H fun vs H1 => rb vs H1 Q) : tCB rb al σ H Q := q
theorem rd_BM {K : PySem.W.Frag} {T : String} {rm : V → List V → Hp → VK → Prop} (q : te σ H fun x H1 => tyV K T x H1 ∧ al σ H1 fun xs H2 => rm x xs H2 Q) : tBM K T rm te al σ H Q := q
theorem rd_BM0 {K : PySem.W.Frag} {T : String} {rm : V → List V → Hp → VK → Prop} (q : te σ H fun x H1 => tyV K T x H1 ∧ rm x [] H1 Q) : tBM0 K T rm te σ H Q := q
theorem rd_len {l : Nat} {A : Prop} (h : l ≤ 1000) (q : A) : l ≤ sizeLine ∧ A := ⟨Nat.le_of_lt (small1000 h), q⟩
theorem rd_list {K : PySem.W.Frag} {p : Addr} {xs : List V} {A : Prop} (h : H p = some (.lst xs)) (q : A) : tyV K "list" (.ref p) H ∧ A := ⟨.inl ⟨rfl, _, .inl (.inl h)⟩, q⟩
theorem tyV_list {K : PySem.W.Frag} {p : Addr} {xs : List V} (h : SqL K H p xs) : tyV K "list" (.ref p) H := .inl ⟨rfl, _, h⟩
theorem rd_append {p : Addr} {xs : List V} (h : H p = some (.lst xs)) (hz : xs.length < 1000000) (q : Q .non (upd H p (.lst (xs ++ [x])))) : rAppend (.ref p) [x] H Q :=
  ⟨p, xs, x, rfl, rfl, h, Nat.lt_of_lt_of_le hz (by decide), q⟩
theorem rd_seq (q : ts { D with nx := us D } σ H) : tSeq ts us D σ H := q
theorem rd_set (q : te σ H fun x H1 => D.nx (σ.set i (some x)) H1) : tAsg te (gName i) D σ H := q
theorem rd_asg {g : TG} (q : te σ H fun x H1 => g x σ H1 D.nx) : tAsg te g D σ H := q
theorem rd_ret (q : te σ H D.rt) : tRet te D σ H := q
theorem rd_if (q : tt σ H fun b H1 => if b = true then ts D σ H1 else us D σ H1) : tIfS tt ts us D σ H := q
theorem rd_drop (q : te σ H fun _ H1 => D.nx σ H1) : tDrop te D σ H := q
theorem rd_next (q : D.nx σ H) : tNext D σ H := q
theorem ite_b {c : Bool} {A B : Prop} (h1 : c = true → A) (h2 : c = false → B) : if c = true then A else B := by
  cases c with
  | true => rw [if_pos rfl]; exact h1 rfl
  | false => rw [if_neg Bool.false_ne_true]; exact h2 rfl
theorem ite_d {p : Prop} [Decidable p] {A B : Prop} (h1 : p → A) (h2 : ¬ p → B) : if decide p = true then A else B := ite_b (fun e => h1 (of_decide_eq_true e)) fun e => h2 (of_decide_eq_false e)
theorem ite_nf {A B : Prop} (h : A) : if (!false) = true then A else B := by rw [if_pos (show (!false) = true from rfl)]; exact h
theorem ite_nt {A B : Prop} (h : B) : if (!true) = true then A else B := by rw [if_neg (by decide)]; exact h
theorem ite_nd {p : Prop} [Decidable p] {A B : Prop} (h1 : p → B) (h2 : ¬ p → A) : if (!decide p) = true then A else B := by
  by_cases h : p
  · rw [decide_eq_true h]; exact ite_nt (h1 h)
  · rw [decide_eq_false h]; exact ite_nf (h2 h)
theorem ite_n {p : Bool} {A B : Prop} (h1 : p = false → A) (h2 : p = true → B) : if (!p) = true then A else B := ite_b (fun e => h1 (by simpa using e)) fun e => h2 (by simpa using e)
theorem rd_newO {o : HO} (q : ∀ p H', H p = none → Same H H' → H' p = some o → (∀ b, b ≠ p → H' b = H b) → Q (.ref p) H') : NewO o H Q :=
  fun p hp => q p _ hp (Same.new hp) upd_same fun _ hb => upd_ne hb
theorem rd_fld {K : PySem.W.Frag} {f : Str} (q : ta σ H fun x H1 => ∃ a C dx fs v, x = .ref a ∧ H1 a = some (.ins C dx fs) ∧ Cls K C ∧ NoAttr K C f ∧ fs.lookup f = some v ∧ Q v H1) : tFld K ta f σ H Q := q
/-- the house's fields -/
theorem rd_most {K : PySem.W.Frag} {C p : Addr} {m c : Int} {P : V → Prop} (hs : Hs K C) (hh : HouseAt C H p m c) (q : P (.int m)) : ∃ a C dx fs v, V.ref p = .ref a ∧ H a = some (.ins C dx fs) ∧ Cls K C ∧ NoAttr K C "most" ∧ fs.lookup ("most" : Str) = some v ∧ P v := by
  obtain ⟨dx, hh⟩ := hh
  exact ⟨p, C, dx, _, _, rfl, hh, hs.cl, hs.nM, flds_most _ _, q⟩
theorem rd_cols {K : PySem.W.Frag} {C p : Addr} {m c : Int} {P : V → Prop} (hs : Hs K C) (hh : HouseAt C H p m c) (q : P (.int c)) : ∃ a C dx fs v, V.ref p = .ref a ∧ H a = some (.ins C dx fs) ∧ Cls K C ∧ NoAttr K C "colours" ∧ fs.lookup ("colours" : Str) = some v ∧ P v := by
  obtain ⟨dx, hh⟩ := hh
  exact ⟨p, C, dx, _, _, rfl, hh, hs.cl, hs.nC, flds_colours _ _, q⟩
end
end MH
/-! T6: operators and built-ins that serve values of several kinds; constants; exception classes. -/
namespace MH
open PySem L2
def rAddS : R2 := fun x y H Q => ∃ i j, x = .str i ∧ y = .str j ∧ i.length + j.length ≤ sizeLine ∧ Q (.str (i ++ j)) H
def rAddA : R2 := fun x y H Q => rI0 (fun i j => .int (i + j)) x y H Q ∨ rCat x y H Q ∨ rAddS x y H Q
def rMulS : R2 := fun x y H Q => ∃ (z : Str) (n : Int), x = .str z ∧ y = .int n ∧ 0 ≤ n ∧ n ≤ 1000 ∧ z.length * n.toNat ≤ 1000000 ∧ ∀ w : Str, w.cps.toList = (List.replicate n.toNat z.cps.toList).flatten → Q (.str w) H
def rMulA : R2 := fun x y H Q => rI CMul (fun i j => .int (i * j)) x y H Q ∨ rRep x y H Q
def rLenA (K : PySem.W.Frag) : List V → Hp → VK → Prop := fun xs H Q => (∃ p ys, xs = [.ref p] ∧ (SqL K H p ys ∨ SqT K H p ys) ∧ Q (.int ys.length) H) ∨ (∃ z, xs = [.str z] ∧ z.length ≤ sizeLine ∧ Q (.int z.length) H)
def rMin2 : List V → Hp → VK → Prop := fun xs H Q => ∃ i j : Int, xs = [.int i, .int j] ∧ Q (.int (min i j)) H
def rMax2 : List V → Hp → VK → Prop := fun xs H Q => ∃ i j : Int, xs = [.int i, .int j] ∧ Q (.int (max i j)) H
def rSlA (K : PySem.W.Frag) : V → Option Int → Option Int → Hp → VK → Prop := fun x lo hi H Q => rSlL K x lo hi H Q ∨ rSlS x lo hi H Q
def rListA (K : PySem.W.Frag) : List V → Hp → VK → Prop := fun xs H Q => ∃ p ys, xs = [.ref p] ∧ (SqL K H p ys ∨ SqT K H p ys) ∧ ∀ l, H l = none → Q (.ref l) (upd H l (.lst ys))
def rIntA : List V → Hp → VK → Prop := fun xs H Q => (∃ k, xs = [.bl k] ∧ Q (.int (if k then 1 else 0)) H) ∨ (∃ (a : Str) (n : Int), xs = [.str a] ∧ PySem.intText? a = some n ∧ a.length ≤ 640 ∧ Q (.int n) H)
def rIsA : R2 := fun x y H Q => (y = .non ∧ Q (.bl (decide (x = .non))) H) ∨ rIsB x y H Q
def rIsNotA : R2 := fun x y H Q => (y = .non ∧ Q (.bl (!decide (x = .non))) H) ∨ rNotB x y H Q
section
variable {X : Cx}
theorem op_addA : OpR X (binaryOp .Add) rAddA := op_add.or (op_cat.or op_add_str)
theorem op_mulA : OpR X (binaryOp .Mult) rMulA := op_mul.or op_rep
theorem op_isA : OpR X (compareOp .Is) rIsA := op_isN.or op_isBl
theorem op_isNotA : OpR X (compareOp .IsNot) rIsNotA := op_notN.or op_notBl
theorem sl_any {K : PySem.W.Frag} (hK : X.K = K := by rfl) : SlR X (rSlA K) := by
  subst hK
  exact sl_list.or sl_str
theorem call_lenA {K : PySem.W.Frag} (hK : X.K = K := by rfl) : CallR X (.builtin "len") (rLenA K) := by
  subst hK
  exact call_len_seq.or call_len_str
theorem ix_any {K : PySem.W.Frag} (hK : X.K = K := by rfl) : IxR X (rIx K) := by
  subst hK
  exact ix_seq
theorem call_listA {K : PySem.W.Frag} (hK : X.K = K := by rfl) : CallR X (.type "list") (rListA K) := by
  subst hK
  exact call_list_of
theorem cr_sumA {K : PySem.W.Frag} (hc : X.calm = true) (hK : X.K = K := by rfl) : CallR X (.builtin "sum") (rSum K) := by
  subst hK
  exact cr_sum hc
theorem cr_allA {K : PySem.W.Frag} (hc : X.calm = true) (hK : X.K = K := by rfl) : CallR X (.builtin "all") (rAll K) := by
  subst hK
  exact cr_all hc
theorem pe_fldK {K : PySem.W.Frag} {e : Expr} {ta : TE} {f : Str} {pos : Pos} (he : PE X e ta) (hb : attributeBase e f X.env (eval e X.env) = eval e X.env) (hK : X.K = K := by rfl) : PE X (.Attribute e f pos) (tFld K ta f) := by
  subst hK
  exact pe_fld he hb
theorem pi_listK {K : PySem.W.Frag} {tg l : Expr} {tl : TE} (hl : PE X l tl) (hK : X.K = K := by rfl) : PI X tg l (iList K tl) := by
  subst hK
  exact pi_list hl
theorem pi_tupK {K : PySem.W.Frag} {tg l : Expr} {tl : TE} (hl : PE X l tl) (hK : X.K = K := by rfl) : PI X tg l (iTup K tl) := by
  subst hK
  exact pi_tup hl
theorem pi_enumK {K : PySem.W.Frag} {e : Expr} {ta : TA} {p pos tpos : Pos} {elts : List Expr} {kk : Nat} (hg : Gl X "enumerate") (hm : X.mg "enumerate" = none) (ha : PA X [e] ta) (hK : X.K = K := by rfl) (hs : starEach [e] X.env = [(false, eval e X.env)] := by rfl) :
    PI X (.Tuple elts kk tpos) (.Call (.Name "enumerate" p) [e] [] pos) (iEnum K ta) := by
  subst hK
  exact pi_enum hg hm ha hs
theorem pg_tupK {K : PySem.W.Frag} {es : List Expr} {k : Nat} {t : TGs} {n : Nat} {pos : Pos} (hc : X.calm = true) (h : PGs X es t) (hK : X.K = K := by rfl)
    (hn : (assignEach es X.env).length = n := by rfl) (hst : (assignEach es X.env).findIdx? (·.1) = none := by rfl) : PG X (.Tuple es k pos) (gTup K n t) := by
  subst hK
  exact pg_tup hc h hn hst
section
variable {K : PySem.W.Frag} {o e : Expr} {es : List Expr} {name : Str} {apos cpos : Pos} {T id : String} {r : V → List V → Hp → VK → Prop} {to : TE} {t : TA}
theorem pe_bm0K (pa : PlainAttrs T) (slot : Slot T name id) (hty : typeOf (.builtin id) = pure (.type "method_descriptor")) (hm : MtR X id r) (ho : PE X o to) (hK : X.K = K := by rfl)
    (hbase : attributeBase o name X.env (eval o X.env) = eval o X.env := by rfl) (hline : (apos.endLine == cpos.line) = true := by rfl) : PE X (.Call (.Attribute o name apos) [] [] cpos) (tBM0 K T r to) := by
  subst hK
  exact pe_bm0 pa slot hty hm ho hbase hline
theorem pe_bmK (pa : PlainAttrs T) (slot : Slot T name id) (hty : typeOf (.builtin id) = pure (.type "method_descriptor")) (hm : MtR X id r) (ho : PE X o to) (ha : PA X (e :: es) t) (hK : X.K = K := by rfl)
    (b1 : attributeBase o name X.env (eval o X.env) = eval o X.env := by rfl)
    (b2 : ((backTo cpos (starEach (e :: es) X.env)).all (fun x => !x.1) && (backToKw cpos (keywordEach [] X.env)).all (fun x => x.1.isSome)
      && decide ((e :: es).length + ([] : List Keyword).length + (if ([] : List Keyword).isEmpty then 0 else 1) < 30)) = true := by rfl)
    (b3 : (apos.endLine == cpos.line) = true := by rfl) (b4 : starEach (e :: es) X.env = (false, eval e X.env) :: starEach es X.env := by rfl) (b5 : (backTo cpos (starEach es X.env)).any (·.1) = false := by rfl) :
    PE X (.Call (.Attribute o name apos) (e :: es) [] cpos) (tBM K T r to t) := by
  subst hK
  exact pe_bm pa slot hty hm ho ha b1 b2 b3 b4 b5
end
theorem call_intB : CallR X (.type "int") (fun xs H Q => ∃ k, xs = [.bl k] ∧ Q (.int (if k then 1 else 0)) H) := fun pins s σ H xs us Q I r h => call_int1 pins s σ H xs us Q I r (.inr h)
theorem call_intA : CallR X (.type "int") rIntA := call_intB.or call_int_str
theorem call_minA (hc : X.calm = true) : CallR X (.builtin "min") rMin2 := fun pins s σ H xs us Q I r h => by
  obtain ⟨i, j, rfl, q⟩ := h
  refine call_min2 hc pins s σ H _ us Q I r ⟨i, j, rfl, ?_⟩
  have e : (if j < i then j else i) = min i j := by
    by_cases c : j < i
    · rw [if_pos c]; omega
    · rw [if_neg c]; omega
  rw [e]
  exact q
theorem call_maxA (hc : X.calm = true) : CallR X (.builtin "max") rMax2 := fun pins s σ H xs us Q I r h => by
  obtain ⟨i, j, rfl, q⟩ := h
  refine call_max2 hc pins s σ H _ us Q I r ⟨i, j, rfl, ?_⟩
  have e : (if j > i then j else i) = max i j := by
    by_cases c : j > i
    · rw [if_pos c]; omega
    · rw [if_neg c]; omega
  rw [e]
  exact q
theorem call_isiA {K : PySem.W.Frag} (hK : X.K = K := by rfl) : CallR X (.builtin "isinstance") (rIsi K) := by
  subst hK
  exact call_isi
theorem pe_constI {x : Str} {n : Int} {pos : Pos} (hm : ∃ t, X.mg x = some (.int n t)) (hg : Gl X x := by rfl) (hd : (x == ("__debug__" : Str)) = false := by decide) : PE X (.Name x pos) (tC (.int n)) := by
  obtain ⟨t, hm⟩ := hm
  exact pe_glob hg hm ⟨t, rfl⟩ hd
theorem pe_constS {x n : Str} {pos : Pos} (hm : ∃ t, X.mg x = some (.str n t)) (hg : Gl X x := by rfl) (hd : (x == ("__debug__" : Str)) = false := by decide) : PE X (.Name x pos) (tC (.str n)) := by
  obtain ⟨t, hm⟩ := hm
  exact pe_glob hg hm ⟨t, rfl⟩ hd
end
section
variable {K : PySem.W.Frag} {H : Hp} {Q : VK} {a b : Int} {p q : Addr} {xs ys : List V} {s t : Str}
theorem rd_addI (h : Q (.int (a + b)) H) : rAddA (.int a) (.int b) H Q := .inl ⟨a, b, rfl, rfl, h⟩
theorem rd_addL (h1 : H p = some (.lst xs)) (h2 : H q = some (.lst ys)) (hz : xs.length + ys.length ≤ sizeLine) (h : ∀ r H', H r = none → Same H H' → H' r = some (.lst (xs ++ ys)) → (∀ b, b ≠ r → H' b = H b) → Q (.ref r) H') : rAddA (.ref p) (.ref q) H Q :=
  .inr (.inl ⟨p, q, xs, ys, rfl, rfl, h1, h2, hz, rd_newO h⟩)
theorem rd_addS (hz : s.length + t.length ≤ sizeLine) (h : Q (.str (s ++ t)) H) : rAddA (.str s) (.str t) H Q := .inr (.inr ⟨s, t, rfl, rfl, hz, h⟩)
theorem rd_min2 (h : Q (.int (min a b)) H) : rMin2 [.int a, .int b] H Q := ⟨a, b, rfl, h⟩
theorem rd_max2 (h : Q (.int (max a b)) H) : rMax2 [.int a, .int b] H Q := ⟨a, b, rfl, h⟩
theorem rd_mulI (hc : CMul a b) (h : Q (.int (a * b)) H) : rMulA (.int a) (.int b) H Q := .inl ⟨a, b, rfl, rfl, hc, h⟩
theorem rd_ltI (h : Q (.bl (decide (a < b))) H) : rLtA K (.int a) (.int b) H Q := .inl ⟨a, b, rfl, rfl, h⟩
theorem rd_gtI (h : Q (.bl (decide (b < a))) H) : rGtA K (.int a) (.int b) H Q := .inl ⟨a, b, rfl, rfl, h⟩
theorem rd_eqI (h : Q (.bl (decide (a = b))) H) : rEqA K (.int a) (.int b) H Q := .inl ⟨rfl, by
  have e : decide (V.int a = V.int b) = decide (a = b) := decide_eq_decide.mpr ⟨fun e => V.int.inj e, fun e => by rw [e]⟩
  rw [e]; exact h⟩
theorem rd_neI (h : Q (.bl (!decide (a = b))) H) : rNeA K (.int a) (.int b) H Q := .inl ⟨rfl, by
  have e : decide (V.int a = V.int b) = decide (a = b) := decide_eq_decide.mpr ⟨fun e => V.int.inj e, fun e => by rw [e]⟩
  rw [e]; exact h⟩
theorem rd_eqB {a b : Bool} (h : Q (.bl (decide (a = b))) H) : rEqA K (.bl a) (.bl b) H Q := .inl ⟨rfl, by
  have e : decide (V.bl a = V.bl b) = decide (a = b) := decide_eq_decide.mpr ⟨fun e => V.bl.inj e, fun e => by rw [e]⟩
  rw [e]; exact h⟩
theorem rd_eqS (h : Q (.bl (decide (s = t))) H) : rEqA K (.str s) (.str t) H Q := .inl ⟨rfl, by
  have e : decide (V.str s = V.str t) = decide (s = t) := decide_eq_decide.mpr ⟨fun e => V.str.inj e, fun e => by rw [e]⟩
  rw [e]; exact h⟩
theorem rd_neS (h : Q (.bl (!decide (s = t))) H) : rNeA K (.str s) (.str t) H Q := .inl ⟨rfl, by
  have e : decide (V.str s = V.str t) = decide (s = t) := decide_eq_decide.mpr ⟨fun e => V.str.inj e, fun e => by rw [e]⟩
  rw [e]; exact h⟩
theorem rd_lenL (hl : SqL K H p xs) (h : Q (.int (xs.length : Int)) H) : rLenA K [.ref p] H Q := .inl ⟨p, xs, rfl, .inl hl, h⟩
theorem rd_lenT (hl : SqT K H p xs) (h : Q (.int (xs.length : Int)) H) : rLenA K [.ref p] H Q := .inl ⟨p, xs, rfl, .inr hl, h⟩
theorem rd_lenS (hz : s.length ≤ sizeLine) (h : Q (.int (s.length : Int)) H) : rLenA K [.str s] H Q := .inr ⟨s, rfl, hz, h⟩
theorem rd_ixL {v : V} {i : Int} (hl : SqL K H p xs) (hv : atI xs i = some v) (h : Q v H) : rIx K (.ref p) (.int i) H Q := .inl ⟨p, xs, i, v, rfl, rfl, hl, hv, h⟩
theorem rd_ixT {v : V} {i : Int} (hl : SqT K H p xs) (hv : atI xs i = some v) (h : Q v H) : rIx K (.ref p) (.int i) H Q := .inr (.inl ⟨p, xs, i, v, rfl, rfl, hl, hv, h⟩)
theorem rd_ixS {i : Int} {c : Nat} (hz : s.length ≤ sizeLine) (hv : atI s.cps.toList i = some c) (h : Q (.str ⟨#[c]⟩) H) : rIx K (.str s) (.int i) H Q := .inr (.inr ⟨s, i, c, rfl, rfl, hz, hv, h⟩)
theorem rd_isi {x : V} {n : String} {ty : Value} {r : Bool} (h1 : TyX K H x ty) (h2 : PySem.W.kitOne K ty (.type n) = some r) (h : Q (.bl r) H) : rIsi K [x, .ty n] H Q := ⟨x, .ty n, ty, .type n, r, rfl, .ty n, h1, h2, h⟩
theorem rd_isN {x : V} (h : Q (.bl (decide (x = .non))) H) : rIsA x .non H Q := .inl ⟨rfl, h⟩
theorem rd_isNotN {x : V} (h : Q (.bl (!decide (x = .non))) H) : rIsNotA x .non H Q := .inl ⟨rfl, h⟩
theorem rd_isNotB {a b : Bool} (h : Q (.bl (!decide (a = b))) H) : rIsNotA (.bl a) (.bl b) H Q := .inr ⟨a, b, rfl, rfl, h⟩
theorem rd_isB {a b : Bool} (h : Q (.bl (decide (a = b))) H) : rIsA (.bl a) (.bl b) H Q := .inr ⟨a, b, rfl, rfl, h⟩
end
theorem pe_gref {X : Cx} {x : Str} {C : Addr} {pos : Pos} (hm : X.mg x = some (.ref C)) (hg : Gl X x := by rfl) (hd : (x == ("__debug__" : Str)) = false := by decide) : PE X (.Name x pos) (tC (.ref C)) := pe_glob hg hm rfl hd
/-- an own exception class by its name -/
structure Xc (K : PySem.W.Frag) (mg : Str → Option Value) (x : Str) (C : Addr) : Prop where
  g : mg x = some (.ref C)
  x : PySem.W.excIn K C [.type "ValueError", .type "Exception", .type "BaseException", .type "object"] "ValueError.__new__" = true
  k : PySem.W.keepIn K (.ref C) = true
  b : PySem.W.subIn K (.ref C) (.type "BaseException") = some true
  t : PySem.W.typeIn K (.ref C) = some (.type "type")
  i : PySem.W.isClsIn K C = true
  hd : PySem.W.hasDictIn K C = true
  ga : PySem.W.findIn K (.ref C) "__getattribute__" = some (some (.builtin "BaseException.__getattribute__"))
  gg : PySem.W.findIn K (.ref C) "__getattr__" = some none
  ha : PySem.W.findIn K (.ref C) "__class__" = some (some (.builtin "object.__class__"))
  hm : PySem.W.mroIn K C (.type "object") = some true
  self : PySem.W.subIn K (.ref C) (.ref C) = some true
/-- the descriptor of __class__ -/
structure Xd (K : PySem.W.Frag) : Prop where
  hn : PySem.W.specialIn K (.builtin "object.__class__") "__get__" = some (some (.builtin "getset_descriptor.__get__"))
  ht : PySem.W.takesIn K (.builtin "object.__class__") = some true
theorem Xc.exc {K : PySem.W.Frag} {mg : Str → Option Value} {x : Str} {C : Addr} (h : Xc K mg x C) (d : Xd K) : ExcC K C := ⟨h.ga, h.gg, h.b, h.hd, h.ha, d.hn, d.ht, h.hm⟩
theorem Xc.exm {K : PySem.W.Frag} {mg : Str → Option Value} {x : Str} {C : Addr} {cls : Value} {b : Bool} (h : Xc K mg x C) (hs : PySem.W.subIn K cls (.ref C) = some b) : PySem.W.exmOne K cls (.ref C) = some b := PySem.W.exm_ref h.b h.hd h.t hs
/-- isinstance(e, c) of the exception that the suite holds -/
def rIsEC (K : PySem.W.Frag) (cls : Value) (d : Option Addr) (a : Addr) : List V → Hp → VK → Prop := fun xs H Q => ∃ (D : Addr) (c : V) (cv : Value) (b : Bool), cls = .ref D ∧ d = none ∧ ExcC K D ∧ xs = [.ref a, c] ∧ (∀ u, RelV c u → u = cv) ∧ PySem.W.kitOne K (.ref D) cv = some b ∧ Q (.bl b) H
theorem call_isEC {X : Cx} {K : PySem.W.Frag} {a : Addr} {oe : Obj} {cls : Value} {d : Option Addr} {pn : List (Addr × Obj)} (hz : Zc cls d oe) (hf : ∃ vs, oe.data = .fields vs) (hK : X.K = K := by rfl) : CallR (X.suite a ((a, oe) :: pn)) (.builtin "isinstance") (rIsEC K cls d a) := by
  subst hK
  intro pins s σ H xs us Q I r hq
  obtain ⟨D, c, cv, b, rfl, rfl, E, rfl, hc, e, q⟩ := hq
  exact call_isE E hz hf pins s σ H _ us Q I r ⟨c, cv, b, rfl, hc, e, q⟩
section
variable {K : PySem.W.Frag} {H : Hp} {Q : VK}
theorem rd_isEC {D a : Addr} {M : Addr} {b : Bool} (E : ExcC K D) (e : PySem.W.kitOne K (.ref D) (.ref M) = some b) (q : Q (.bl b) H) : rIsEC K (.ref D) none a [.ref a, .ref M] H Q := ⟨D, .ref M, .ref M, b, rfl, rfl, E, rfl, fun _ h => h, e, q⟩
theorem rd_isET {D a : Addr} {n : String} {b : Bool} (E : ExcC K D) (e : PySem.W.kitOne K (.ref D) (.type n) = some b) (q : Q (.bl b) H) : rIsEC K (.ref D) none a [.ref a, .ty n] H Q := ⟨D, .ty n, .type n, b, rfl, rfl, E, rfl, fun _ h => h, e, q⟩
end
structure Ks (mg : Str → Option Value) : Prop where
  MOST_TILES : ∃ t, mg "MOST_TILES" = some (.int 12 t)
  MOST_JOKERS : ∃ t, mg "MOST_JOKERS" = some (.int 2 t)
structure Kl (mg : Str → Option Value) : Prop where
  LETTERS : ∃ t, mg "LETTERS" = some (.str "abcd" t)
end MH
/-! T7: tiles, hands: plain facts; sorted lists of tiles by the rule. -/
namespace MH
open PySem L2
/-- a comes ahead of b -/
def tlt (a b : Tile) : Bool := decide (a.1 < b.1 ∨ (a.1 = b.1 ∧ a.2 < b.2))
theorem tlt_iff {a b : Tile} : tlt a b = true ↔ a.1 < b.1 ∨ (a.1 = b.1 ∧ a.2 < b.2) := by simp [tlt]
theorem tlt_no {a b : Tile} : tlt a b = false ↔ ¬ (a.1 < b.1 ∨ (a.1 = b.1 ∧ a.2 < b.2)) := by rw [← tlt_iff]; simp
theorem tlt_irr (a : Tile) : tlt a a = false := tlt_no.mpr (by omega)
theorem tlt_trans {a b c : Tile} (h1 : tlt b a = false) (h2 : tlt c b = false) : tlt c a = false := by
  rw [tlt_no] at h1 h2 ⊢
  omega
theorem tlt_anti {a b : Tile} (h1 : tlt b a = false) (h2 : tlt a b = false) : a = b := by
  rw [tlt_no] at h1 h2
  exact Prod.ext (by omega) (by omega)
def SortedT (ts : List Tile) : Prop := ts.Pairwise fun a b => tlt b a = false
instance (ts : List Tile) : Decidable (SortedT ts) := by unfold SortedT; infer_instance
/-- two sorted lists with the same tiles are one -/
theorem sorted_perm : ∀ {a b : List Tile}, SortedT a → SortedT b → a.Perm b → a = b
  | [], b, _, _, p => by rw [List.nil_perm.mp p]
  | x :: a, [], _, _, p => by simp at p
  | x :: a, y :: b, ha, hb, p => by
    have hx : tlt x y = false := by
      rcases List.mem_cons.mp (p.mem_iff.mp (List.mem_cons_self (a := x))) with e | m
      · rw [e]; exact tlt_irr _
      · exact (List.pairwise_cons.mp hb).1 x m
    have hy : tlt y x = false := by
      rcases List.mem_cons.mp (p.mem_iff.mpr (List.mem_cons_self (a := y))) with e | m
      · rw [e]; exact tlt_irr _
      · exact (List.pairwise_cons.mp ha).1 y m
    have e := tlt_anti hy hx
    subst e
    rw [sorted_perm (List.pairwise_cons.mp ha).2 (List.pairwise_cons.mp hb).2 (List.Perm.cons_inv p)]
theorem sorted_of_adj : ∀ {ts : List Tile}, (∀ i (h : i + 1 < ts.length), tlt ts[i + 1] (ts[i]'(by omega)) = false) → SortedT ts
  | [], _ => List.Pairwise.nil
  | [x], _ => List.pairwise_singleton _ _
  | x :: y :: ts, h => by
    have ih := sorted_of_adj (ts := y :: ts) fun i hi => h (i + 1) (by simpa using hi)
    refine List.pairwise_cons.mpr ⟨fun z hz => ?_, ih⟩
    have h0 : tlt y x = false := h 0 (by simp)
    rcases List.mem_cons.mp hz with rfl | hz
    · exact h0
    · exact tlt_trans h0 ((List.pairwise_cons.mp ih).1 z hz)
theorem adj_of_sorted {ts : List Tile} (h : SortedT ts) {i j : Nat} (hij : i < j) (hj : j < ts.length) : tlt ts[j] (ts[i]'(by omega)) = false :=
  List.pairwise_iff_getElem.mp h i j (by omega) hj hij
def InHouse (m c : Int) (t : Tile) : Prop := 1 ≤ t.1 ∧ t.1 ≤ m ∧ 0 ≤ t.2 ∧ t.2 < c
instance (m c : Int) (t : Tile) : Decidable (InHouse m c t) := by unfold InHouse; infer_instance
def IsHand (m c : Int) (ts : List Tile) (j : Int) : Prop := ts.length ≤ 12 ∧ 0 ≤ j ∧ j ≤ 2 ∧ (∀ t ∈ ts, InHouse m c t ∧ ts.count t ≤ 2) ∧ SortedT ts
instance (m c : Int) (ts : List Tile) (j : Int) : Decidable (IsHand m c ts j) := by unfold IsHand; infer_instance
/-- what a drawn hand is -/
structure Drawn (m c : Int) (l : Nat) (ts : List Tile) : Prop where
  len : ts.length ≤ l
  good : ∀ t ∈ ts, InHouse m c t ∧ ts.count t ≤ 2
  sorted : SortedT ts
theorem Drawn.isHand {m c : Int} {l : Nat} {ts : List Tile} {j : Int} (h : Drawn m c l ts) (hl : l ≤ 12) (h0 : 0 ≤ j) (h2 : j ≤ 2) : IsHand m c ts j := ⟨Nat.le_trans h.len hl, h0, h2, h.good, h.sorted⟩
theorem countP_eq {α : Type} [BEq α] [LawfulBEq α] [DecidableEq α] (ts : List α) (a : α) : (ts.countP fun y => decide (y = a)) = ts.count a := by
  unfold List.count
  refine congrArg (fun p => List.countP p ts) (funext fun y => ?_)
  rw [Bool.eq_iff_iff, decide_eq_true_eq, beq_iff_eq]
/-! data of tiles -/
theorem toD_tile (t : Tile) : PySem.W.Datum.toD t = .tuple [.int t.1, .int t.2] := rfl
theorem dataLt_tile (a b : Tile) : PySem.W.dataLt (PySem.W.Datum.toD a) (PySem.W.Datum.toD b) = tlt a b := PySem.W.dataLt_ii a.1 a.2 b.1 b.2
theorem cmpO_tile (a b : Tile) : cmpO (PySem.W.Datum.toD a) (PySem.W.Datum.toD b) = true := by
  show cmpO (.tuple [.int a.1, .int a.2]) (.tuple [.int b.1, .int b.2]) = true
  simp [cmpO, cmpOs]
theorem lay_tiles : ∀ ts : List Tile, PyData.canLayAll0 (ts.map PySem.W.Datum.toD) = true
  | [] => by simp [PyData.canLayAll0]
  | t :: ts => by
    show PyData.canLayAll0 (.tuple [.int t.1, .int t.2] :: ts.map PySem.W.Datum.toD) = true
    simp [PyData.canLayAll0, PyData.canLay0, lay_tiles ts]
theorem first_tiles (ts : List Tile) : FirstOf "int" (ts.map PySem.W.Datum.toD) := fun d hd => by
  obtain ⟨t, _, rfl⟩ := List.mem_map.mp hd
  exact ⟨.int t.1, [.int t.2], rfl, rfl⟩
section
variable {K : PySem.W.Frag} {H : Hp} {Q : VK} {p : Addr} {vs : List V} {ts : List Tile}
/-- sorted(xs) of tiles -/
theorem rd_sortT (hl : SqL K H p vs) (hd : Hds K H vs ts)
    (q : ∀ r H' ws us, H r = none → Same H H' → H' r = some (.lst ws) → us.Perm ts → SortedT us → Hds K H ws us → Q (.ref r) H') : rSortedA K [.ref p] H Q := by
  refine ⟨p, vs, ts.map PySem.W.Datum.toD, "int", rfl, hl, hd, lay_tiles ts, PySem.W.plainAll_map ts, Nat.le_trans (PySem.W.depthAll_map ts) (by decide), first_tiles ts, fun d h1 e h2 => ?_, fun r ws es nr pm sr hw => ?_⟩
  · obtain ⟨a, _, rfl⟩ := List.mem_map.mp h1
    obtain ⟨b, _, rfl⟩ := List.mem_map.mp h2
    exact cmpO_tile a b
  · obtain ⟨us, pu, rfl⟩ := perm_map pm
    refine q r _ ws us nr (Same.new nr) upd_same pu ?_ hw
    have := List.pairwise_map.mp sr
    exact this.imp fun h => by rw [dataLt_tile] at h; exact h
theorem rd_gtT {v u : V} {a b : Tile} (h1 : Hd K H v a) (h2 : Hd K H u b) (q : Q (.bl (tlt b a)) H) : rGtA K v u H Q :=
  .inr ⟨_, _, h1, h2, PySem.W.Datum.plain a, PySem.W.Datum.plain b, cmpO_tile a b, Nat.le_trans (PySem.W.Datum.depth_le a) (by decide), by show Q (.bl (PySem.W.dataLt (PySem.W.Datum.toD b) (PySem.W.Datum.toD a))) H; rw [dataLt_tile]; exact q⟩
theorem rd_countT {v : V} {a : Tile} (hl : SqL K H p vs) (hd : Hds K H vs ts) (h1 : Hd K H v a) (q : Q (.int ((ts.count a : Nat) : Int)) H) : rCountA K (.ref p) [v] H Q :=
  ⟨Tile, inferInstance, inferInstance, p, v, vs, ts, a, by decide, rfl, rfl, hl, hd, h1, by rw [countP_eq]; exact q⟩
theorem rd_eqD {α : Type} [DecidableEq α] [PySem.W.Datum α] {v u : V} {a b : α} (hd : PySem.W.Datum.depth α ≤ 60) (h1 : Hd K H v a) (h2 : Hd K H u b) (q : Q (.bl (decide (a = b))) H) : rEqA K v u H Q :=
  .inr ⟨α, inferInstance, inferInstance, a, b, hd, h1, h2, q⟩
theorem rd_neD {α : Type} [DecidableEq α] [PySem.W.Datum α] {v u : V} {a b : α} (hd : PySem.W.Datum.depth α ≤ 60) (h1 : Hd K H v a) (h2 : Hd K H u b) (q : Q (.bl (!decide (a = b))) H) : rNeA K v u H Q :=
  .inr ⟨α, inferInstance, inferInstance, a, b, hd, h1, h2, q⟩
theorem rd_inD {α : Type} [DecidableEq α] [PySem.W.Datum α] {v : V} {as : List α} {a : α} (hd : PySem.W.Datum.depth α ≤ 60) (hl : SqL K H p vs) (h2 : Hds K H vs as) (h1 : Hd K H v a) (q : Q (.bl (decide (a ∈ as))) H) : rInA K v (.ref p) H Q :=
  .inl ⟨α, inferInstance, inferInstance, a, as, p, vs, hd, rfl, .inl hl, h2, h1, q⟩
theorem rd_notInD {α : Type} [DecidableEq α] [PySem.W.Datum α] {v : V} {as : List α} {a : α} (hd : PySem.W.Datum.depth α ≤ 60) (hl : SqL K H p vs) (h2 : Hds K H vs as) (h1 : Hd K H v a) (q : Q (.bl (!decide (a ∈ as))) H) : rNotInA K v (.ref p) H Q :=
  .inl ⟨α, inferInstance, inferInstance, a, as, p, vs, hd, rfl, .inl hl, h2, h1, q⟩
end
end MH
/-! T8: loops and comprehensions. -/
namespace MH
open PySem L2
def LoopG (J : It) (g : TG) (tb : TS) (D : Ends) (σ : St) (H1 : Hp) : Prop := ∃ W : Nat → Nat → St → Hp → Prop, (∃ m, W 0 m σ H1) ∧ ∀ i m σ H, W i m σ H →
  (J.stop i H ∧ D.nx σ H) ∨ (J.go i H ∧ ∃ N : St → Hp → Prop, (∀ σ' H', N σ' H' → ∃ m', m' < m ∧ W (i + 1) m' σ' H') ∧ ∀ x H', J.yld i H x H' → g x σ H' fun σ2 H2 => tb { D with nx := N, ct := N, bk := D.nx } σ2 H2)
def CompG (J : It) (g : TG) (tt : TT) (te : TE) (vs : List Nat) (D : Addr) (σ : St) (H1 : Hp) (Q : VK) : Prop := ∃ W : Nat → Nat → Hp → Prop, (∃ m, W 0 m (upd H1 D (.lst []))) ∧ ∀ i m H, W i m H →
  (J.stop i H ∧ Q (.ref D) H) ∨ (J.go i H ∧ ∃ Nx : Hp → Prop, (∀ H', Nx H' → ∃ m', m' < m ∧ W (i + 1) m' H') ∧ ∀ x H', J.yld i H x H' → g x (wipe σ vs) H' fun σ2 H2 => wipe σ2 vs = wipe σ vs ∧ tt σ2 H2 fun b H3 =>
    if b = true then te σ2 H3 fun y H4 => ∃ acc, H4 D = some (.lst acc) ∧ acc.length < sizeLine ∧ Nx (upd H4 D (.lst (acc ++ [y]))) else Nx H3)
/-- what is wanted of a comprehension over J -/
def CompN (J : It) (g : TG) (tt : TT) (te : TE) (vs : List Nat) (σ : St) (H1 : Hp) (Q : VK) : Prop := ∀ D, H1 D = none → CompG J g tt te vs D σ H1 Q
section
variable {K : PySem.W.Frag} {σ : St} {H : Hp} {Q : VK} {D : Ends} {g : TG} {tb : TS} {wi : TI} {tt : TT} {te tl : TE} {al : TA} {vs : List Nat} {R : It → Hp → Prop} {a : Addr} {xs : List V}
theorem rd_for (q : wi σ H fun J H1 => LoopG J g tb D σ H1) : tFor wi g tb D σ H := q
theorem rd_yes {QT : Bool → Hp → Prop} (q : QT true H) : tYes σ H QT := q
theorem rd_lc (q : wi σ H fun J H1 => CompN J g tt te vs σ H1 Q) : tLc wi g tt te vs σ H Q := q
theorem rd_iList (q : tl σ H fun x H1 => ∃ a, x = .ref a ∧ (∃ xs, SqL K H1 a xs) ∧ R (Itl K a) H1) : iList K tl σ H R := q
theorem rd_iTup (q : tl σ H fun x H1 => ∃ a, x = .ref a ∧ (∃ xs, SqT K H1 a xs) ∧ R (Itt K a) H1) : iTup K tl σ H R := q
theorem rd_iEnum (q : al σ H fun vs H1 => ∃ a xs, vs = [.ref a] ∧ SqL K H1 a xs ∧ R (Ite K a) H1) : iEnum K al σ H R := q
theorem rd_iRng1 (q : al σ H fun vs H1 => ∃ j : Int, vs = [.int j] ∧ -(2 ^ 62) ≤ j ∧ j < 2 ^ 62 ∧ R (Itr 0 j.toNat) H1) : iRng1 al σ H R := q
theorem rd_iRng2 (q : al σ H fun vs H1 => ∃ i j : Int, vs = [.int i, .int j] ∧ (-(2 ^ 62) ≤ i ∧ i < 2 ^ 62 ∧ -(2 ^ 62) ≤ j ∧ j < 2 ^ 62) ∧ R (Itr i (j - i).toNat) H1) : iRng2 al σ H R := q
theorem rd_itl {P : Addr → Prop} (h : SqL K H a xs) (q : P a) : ∃ a', V.ref a = .ref a' ∧ (∃ xs, SqL K H a' xs) ∧ P a' := ⟨a, rfl, ⟨xs, h⟩, q⟩
theorem rd_itt {P : Addr → Prop} (h : SqT K H a xs) (q : P a) : ∃ a', V.ref a = .ref a' ∧ (∃ xs, SqT K H a' xs) ∧ P a' := ⟨a, rfl, ⟨xs, h⟩, q⟩
theorem rd_ite {P : Addr → Prop} (h : SqL K H a xs) (q : P a) : ∃ a' ys, [V.ref a] = [.ref a'] ∧ SqL K H a' ys ∧ P a' := ⟨a, xs, rfl, h, q⟩
theorem rd_itr1 {j : Int} {P : Int → Prop} (h0 : -1000000 ≤ j) (h1 : j ≤ 1000000) (q : P j) : ∃ j' : Int, [V.int j] = [.int j'] ∧ -(2 ^ 62) ≤ j' ∧ j' < 2 ^ 62 ∧ P j' := ⟨j, rfl, by omega, by omega, q⟩
theorem rd_itr2 {i j : Int} {P : Int → Int → Prop} (h0 : -1000000 ≤ i) (h1 : i ≤ 1000000) (h2 : -1000000 ≤ j) (h3 : j ≤ 1000000) (q : P i j) : ∃ i' j' : Int, [V.int i, V.int j] = [.int i', .int j'] ∧ (-(2 ^ 62) ≤ i' ∧ i' < 2 ^ 62 ∧ -(2 ^ 62) ≤ j' ∧ j' < 2 ^ 62) ∧ P i' j' :=
  ⟨i, j, rfl, ⟨by omega, by omega, by omega, by omega⟩, q⟩

theorem rd_gname {i : Nat} {v : V} {QS : St → Hp → Prop} (q : QS (σ.set i (some v)) H) : gName i v σ H QS := q
theorem rd_gtup2 {n i j : Nat} {x y : V} {QS : St → Hp → Prop} (h : SqT K H a [x, y]) (hn : 2 = n) (q : QS ((σ.set i (some x)).set j (some y)) H) : gTup K n (gCons (gName i) (gCons (gName j) gNil)) (.ref a) σ H QS :=
  ⟨a, _, rfl, h, hn, x, [y], rfl, y, [], rfl, rfl, q⟩
theorem rd_gtup3 {n i j k : Nat} {x y z : V} {QS : St → Hp → Prop} (h : SqT K H a [x, y, z]) (hn : 3 = n) (q : QS (((σ.set i (some x)).set j (some y)).set k (some z)) H) : gTup K n (gCons (gName i) (gCons (gName j) (gCons (gName k) gNil))) (.ref a) σ H QS :=
  ⟨a, _, rfl, h, hn, x, _, rfl, y, _, rfl, z, [], rfl, rfl, q⟩
theorem rd_gtup4 {n i j k l : Nat} {x y z u : V} {QS : St → Hp → Prop} (h : SqT K H a [x, y, z, u]) (hn : 4 = n) (q : QS ((((σ.set i (some x)).set j (some y)).set k (some z)).set l (some u)) H) : gTup K n (gCons (gName i) (gCons (gName j) (gCons (gName k) (gCons (gName l) gNil)))) (.ref a) σ H QS :=
  ⟨a, _, rfl, h, hn, x, _, rfl, y, _, rfl, z, _, rfl, u, [], rfl, rfl, q⟩
theorem rd_meth {C : Addr} {m : Str} {sp : Sp} {E : XK} {ta : TE} (q : ta σ H fun x H1 => ∃ a dx fs, x = .ref a ∧ H1 a = some (.ins C dx fs) ∧ fs.lookup m = none ∧ al σ H1 fun vs H2 => sp (x :: (vs ++ [])) H2 Q E) : tMeth C m sp [] E ta al σ H Q := q
theorem rd_has {C p : Addr} {m c : Int} {P : Prop} (hh : HouseAt C H p m c) (q : P) : ∃ a dx fs, V.ref p = .ref a ∧ H a = some (.ins C dx fs) ∧ fs.lookup ("has" : Str) = none ∧ P := by
  obtain ⟨dx, hh⟩ := hh
  exact ⟨p, dx, _, rfl, hh, flds_no _ _ (by decide +kernel) (by decide +kernel), q⟩
theorem rd_make {C : Addr} {sp : Sp} {E : XK} (q : al σ H fun vs H1 => ∀ x dx, H1 x = none → H1 dx = none → dx ≠ x → sp (.ref x :: (vs ++ [])) (upd (upd H1 dx (.own x)) x (.ins C dx [])) (fun v H2 => v = .non ∧ Q (.ref x) H2) E) : tMake C sp [] E al σ H Q := q
theorem rd_makeS {C : Addr} {sp : Sp} {E : St → XK} (q : al σ H fun vs H1 => ∀ y dy, H1 y = none → H1 dy = none → dy ≠ y → sp (.ref y :: vs) (upd (upd H1 dy (.own y)) y (.ins C dy [])) (fun v H2 => v = .non ∧ Q (.ref y) H2) (E σ)) : tMakeS C sp E al σ H Q := q
theorem rd_callS {sp : Sp} {E : St → XK} (q : al σ H fun vs H1 => sp vs H1 Q (E σ)) : tCallS sp E al σ H Q := q
/-! ### loops by an invariant -/
theorem loop_list (Pv : Nat → St → Hp → Prop) (h0 : Pv 0 σ H) (hl : ∀ i σ H, i ≤ xs.length → Pv i σ H → SqL K H a xs)
    (hs : ∀ i x σ H, xs[i]? = some x → Pv i σ H → g x σ H fun σ2 H2 => tb { D with nx := Pv (i + 1), ct := Pv (i + 1), bk := D.nx } σ2 H2) (hd : ∀ σ H, Pv xs.length σ H → D.nx σ H) : LoopG (Itl K a) g tb D σ H := for_list Pv h0 hl hs hd
theorem loop_tup (Pv : Nat → St → Hp → Prop) (h0 : Pv 0 σ H) (hl : ∀ i σ H, i ≤ xs.length → Pv i σ H → SqT K H a xs)
    (hs : ∀ i x σ H, xs[i]? = some x → Pv i σ H → g x σ H fun σ2 H2 => tb { D with nx := Pv (i + 1), ct := Pv (i + 1), bk := D.nx } σ2 H2) (hd : ∀ σ H, Pv xs.length σ H → D.nx σ H) : LoopG (Itt K a) g tb D σ H := for_tup Pv h0 hl hs hd
theorem loop_range {lo : Int} {n : Nat} (Pv : Nat → St → Hp → Prop) (h0 : Pv 0 σ H)
    (hs : ∀ i σ H, i < n → Pv i σ H → g (.int (lo + i)) σ H fun σ2 H2 => tb { D with nx := Pv (i + 1), ct := Pv (i + 1), bk := D.nx } σ2 H2) (hd : ∀ σ H, Pv n σ H → D.nx σ H) : LoopG (Itr lo n) g tb D σ H := for_range Pv h0 hs hd
theorem loop_enum (Pv : Nat → St → Hp → Prop) (h0 : Pv 0 σ H) (hl : ∀ i σ H, i ≤ xs.length → Pv i σ H → SqL K H a xs)
    (hs : ∀ i x σ H T H', xs[i]? = some x → Pv i σ H → H T = none → Same H H' → H' T = some (.tup [.int (i : Nat), x]) → (∀ b, b ≠ T → H' b = H b) → g (.ref T) σ H' fun σ2 H2 => tb { D with nx := Pv (i + 1), ct := Pv (i + 1), bk := D.nx } σ2 H2)
    (hd : ∀ σ H, Pv xs.length σ H → D.nx σ H) : LoopG (Ite K a) g tb D σ H := by
  refine ⟨fun i m σ H => m = xs.length - i ∧ i ≤ xs.length ∧ Pv i σ H, ⟨xs.length, by simp, Nat.zero_le _, h0⟩, ?_⟩
  rintro i m σ H ⟨rfl, hi, p⟩
  have q := hl i σ H hi p
  by_cases c : i < xs.length
  · refine .inr ⟨⟨xs, xs[i], q, by simp [c]⟩, Pv (i + 1), fun σ' H' p' => ⟨xs.length - (i + 1), by omega, rfl, c, p'⟩, fun y H' hy => ?_⟩
    obtain ⟨T, x, rfl, hT, rfl, hx⟩ := hy
    exact hs i x σ H T _ (hx xs q) p hT (Same.new hT) upd_same fun b hb => upd_ne hb
  · have e : i = xs.length := by omega
    subst e
    exact .inl ⟨⟨xs, q, Nat.le_refl _⟩, hd σ H p⟩

/-! ### comprehensions, each item on its own -/
/-- one item x of the source, of which f says b's: what it gives or that it is left out -/
def EltOk (K : PySem.W.Frag) {α : Type} [DecidableEq α] [PySem.W.Datum α] (g : TG) (tt : TT) (te : TE) (vs : List Nat) (σ : St) (x : V) (o : Option α) (H' : Hp) : Prop :=
  ∀ (Rk : VK) (Rn : Hp → Prop), (∀ y H4 z, o = some z → Same H' H4 → Hd K H4 y z → Rk y H4) → (∀ H3, o = none → Same H' H3 → Rn H3) →
    g x (wipe σ vs) H' fun σ2 H2 => wipe σ2 vs = wipe σ vs ∧ tt σ2 H2 fun c H3 => if c = true then te σ2 H3 Rk else Rn H3
theorem filterMap_take {β α : Type} {f : β → Option α} {bs : List β} {i : Nat} {b : β} (h : bs[i]? = some b) : (bs.take (i + 1)).filterMap f = (bs.take i).filterMap f ++ (match f b with | some z => [z] | none => []) := by
  have e : bs.take (i + 1) = bs.take i ++ [b] := by
    rw [List.take_add_one, h]
    rfl
  rw [e, List.filterMap_append]
  cases z : f b with
  | none => simp [z]
  | some y => simp [z]
section
variable {α β : Type} [DecidableEq α] [PySem.W.Datum α] [Fz α] {bs : List β} {f : β → Option α}
/-- the state between two items -/
def CompAt (K : PySem.W.Frag) (H : Hp) (Dd : Addr) (bs : List β) (f : β → Option α) (i : Nat) (H' : Hp) : Prop := ∃ ws, H' Dd = some (.lst ws) ∧ Same H H' ∧ Hds K H' ws ((bs.take i).filterMap f)
theorem comp_start {Dd : Addr} (n : H Dd = none) : CompAt K H Dd bs f 0 (upd H Dd (.lst [])) := ⟨[], upd_same, Same.new n, Hds.nil⟩
theorem comp_more {Dd : Addr} {i : Nat} {H' H4 : Hp} {b : β} {y : V} {z : α} (n : H Dd = none) (hb : bs[i]? = some b) (ho : f b = some z) (hz : bs.length ≤ 1000000) (p : CompAt K H Dd bs f i H') (s : Same H' H4) (hy : Hd K H4 y z) :
    ∃ acc, H4 Dd = some (.lst acc) ∧ acc.length < sizeLine ∧ CompAt K H Dd bs f (i + 1) (upd H4 Dd (.lst (acc ++ [y]))) := by
  obtain ⟨ws, e, s1, hw⟩ := p
  have e4 := s _ _ e
  have hi : i < bs.length := (List.getElem?_eq_some_iff.mp hb).1
  refine ⟨ws, e4, ?_, ws ++ [y], upd_same, Same.mut (s1.trans s) n, ?_⟩
  · rw [hw.length]
    have h1 := List.length_filterMap_le f (bs.take i)
    rw [List.length_take] at h1
    exact Nat.lt_of_lt_of_le (show _ < 1000000 by omega) (by decide)
  · rw [filterMap_take hb, ho]
    exact ((hw.same s).push hy).tup (TupK.lst e4)
theorem comp_less {Dd : Addr} {i : Nat} {H' H3 : Hp} {b : β} (hb : bs[i]? = some b) (ho : f b = none) (p : CompAt K H Dd bs f i H') (s : Same H' H3) : CompAt K H Dd bs f (i + 1) H3 := by
  obtain ⟨ws, e, s1, hw⟩ := p
  refine ⟨ws, s _ _ e, s1.trans s, ?_⟩
  rw [filterMap_take hb, ho, List.append_nil]
  exact hw.same s
theorem comp_done {Dd : Addr} {H' : Hp} (p : CompAt K H Dd bs f bs.length H') : ∃ ws, H' Dd = some (.lst ws) ∧ Same H H' ∧ Hds K H' ws (bs.filterMap f) := by
  obtain ⟨ws, e, s, hw⟩ := p
  rw [List.take_length] at hw
  exact ⟨ws, e, s, hw⟩
/-- over a list -/
theorem comp_list (hl : SqL K H a xs) (hn : xs.length = bs.length) (hz : bs.length ≤ 1000000)
    (hs : ∀ (i : Nat) (x : V) (b : β) (H' : Hp), xs[i]? = some x → bs[i]? = some b → Same H H' → EltOk K g tt te vs σ x (f b) H')
    (q : ∀ Dd H' ws, H Dd = none → Same H H' → H' Dd = some (.lst ws) → Hds K H' ws (bs.filterMap f) → Q (.ref Dd) H') : CompN (Itl K a) g tt te vs σ H Q := by
  intro Dd n
  refine lc_list (K := K) (a := a) (xs := xs) (CompAt K H Dd bs f) (comp_start n) (fun i H' _ ⟨_, _, s, _⟩ => s.seq hl) (fun i x H' hx p => ?_) (fun H' p => ?_)
  · have hi : i < bs.length := by rw [← hn]; exact (List.getElem?_eq_some_iff.mp hx).1
    have hb : bs[i]? = some bs[i] := List.getElem?_eq_getElem hi
    exact hs i x bs[i] H' hx hb p.choose_spec.2.1 _ _ (fun y H4 z ho s hy => comp_more n hb ho hz p s hy) fun H3 ho s => comp_less hb ho p s
  · rw [hn] at p
    obtain ⟨ws, e, s, hw⟩ := comp_done p
    exact q Dd H' ws n s e hw
theorem comp_tup (hl : SqT K H a xs) (hn : xs.length = bs.length) (hz : bs.length ≤ 1000000)
    (hs : ∀ (i : Nat) (x : V) (b : β) (H' : Hp), xs[i]? = some x → bs[i]? = some b → Same H H' → EltOk K g tt te vs σ x (f b) H')
    (q : ∀ Dd H' ws, H Dd = none → Same H H' → H' Dd = some (.lst ws) → Hds K H' ws (bs.filterMap f) → Q (.ref Dd) H') : CompN (Itt K a) g tt te vs σ H Q := by
  intro Dd n
  refine lc_tup (K := K) (a := a) (xs := xs) (CompAt K H Dd bs f) (comp_start n) (fun i H' _ ⟨_, _, s, _⟩ => sqT_same s hl) (fun i x H' hx p => ?_) (fun H' p => ?_)
  · have hi : i < bs.length := by rw [← hn]; exact (List.getElem?_eq_some_iff.mp hx).1
    have hb : bs[i]? = some bs[i] := List.getElem?_eq_getElem hi
    exact hs i x bs[i] H' hx hb p.choose_spec.2.1 _ _ (fun y H4 z ho s hy => comp_more n hb ho hz p s hy) fun H3 ho s => comp_less hb ho p s
  · rw [hn] at p
    obtain ⟨ws, e, s, hw⟩ := comp_done p
    exact q Dd H' ws n s e hw
end
/-- over lo, lo + 1, .. -/
theorem comp_range {α : Type} [DecidableEq α] [PySem.W.Datum α] [Fz α] {f : Nat → Option α} {lo : Int} {n : Nat} (hz : n ≤ 1000000)
    (hs : ∀ i H', i < n → Same H H' → EltOk K g tt te vs σ (.int (lo + (i : Int))) (f i) H')
    (q : ∀ Dd H' ws, H Dd = none → Same H H' → H' Dd = some (.lst ws) → Hds K H' ws ((List.range n).filterMap f) → Q (.ref Dd) H') : CompN (Itr lo n) g tt te vs σ H Q := by
  intro Dd nn
  have hlen : (List.range n).length = n := List.length_range
  refine lc_range (lo := lo) (n := n) (CompAt K H Dd (List.range n) f) (comp_start nn) (fun i H' hi p => ?_) (fun H' p => ?_)
  · have hb : (List.range n)[i]? = some i := by rw [List.getElem?_range hi]
    exact hs i H' hi p.choose_spec.2.1 _ _ (fun y H4 z ho s hy => comp_more nn hb ho (by rw [hlen]; exact hz) p s hy) fun H3 ho s => comp_less hb ho p s
  · have p' : CompAt K H Dd (List.range n) f (List.range n).length H' := by rw [hlen]; exact p
    obtain ⟨ws, e, s, hw⟩ := comp_done p'
    exact q Dd H' ws nn s e hw
end
end MH
/-! T9: slices and copies of typed lists. -/
namespace MH
open PySem L2
theorem emod_box (x : Int) {m : Int} (h : 0 < m) : 0 ≤ x % m ∧ x % m < m := ⟨Int.emod_nonneg _ (by omega), Int.emod_lt_of_pos _ h⟩
theorem at_mod {α : Type} (xs : List α) (x : Int) (h : 0 < xs.length) : ∃ i : Nat, x % (xs.length : Int) = (i : Int) ∧ i < xs.length := by
  have b := emod_box x (m := (xs.length : Int)) (by omega)
  exact ⟨(x % (xs.length : Int)).toNat, by omega, by omega⟩
theorem get_some {α : Type} (xs : List α) {i : Nat} (h : i < xs.length) : ∃ v, xs[i]? = some v := ⟨xs[i], List.getElem?_eq_getElem h⟩
theorem rd_nx {n b c : St → Hp → Prop} {r : VK} {σ : St} {H : Hp} (q : n σ H) : (Ends.mk n r b c).nx σ H := q
/-- several ways that meet: behind the statement -/
theorem rd_seqJ {ts us : TS} {D : Ends} {σ : St} {H : Hp} (Mid : St → Hp → Prop) (q3 : ∀ σ H, Mid σ H → us D σ H) (q : ∀ N : St → Hp → Prop, (∀ σ H, Mid σ H → N σ H) → ts { D with nx := N } σ H) : tSeq ts us D σ H := q _ q3
/-- .. behind the test -/
theorem rd_ifJ {tt : TT} {ts us : TS} {D : Ends} {σ : St} {H : Hp} (M : Bool → Hp → Prop) (q : ∀ QT : Bool → Hp → Prop, (∀ b H, M b H → QT b H) → tt σ H QT) (q1 : ∀ H, M true H → ts D σ H) (q2 : ∀ H, M false H → us D σ H) : tIfS tt ts us D σ H :=
  q _ fun b H h => ite_b (fun e => q1 H (e ▸ h)) fun e => q2 H (e ▸ h)
/-- .. behind a value -/
theorem rd_opJ {r : R2} {ta tb : TE} {σ : St} {H : Hp} {Q : VK} (M : V → Hp → Prop) (q : ∀ R : VK, (∀ v H, M v H → R v H) → ta σ H R) (q1 : ∀ v H, M v H → tb σ H fun y H2 => r v y H2 Q) : tOp r ta tb σ H Q := q _ q1
def cutT {α : Type} (xs : List α) (lo hi : Option Int) : List α := (xs.drop (HT.sIx xs.length 0 lo)).take (HT.sIx xs.length xs.length hi - HT.sIx xs.length 0 lo)
theorem sIx_pos {n d : Nat} {i : Int} (h : 0 ≤ i) : HT.sIx n d (some i) = min i.toNat n := by
  show (if i < 0 then (i + (n : Int)).toNat else min i.toNat n) = min i.toNat n
  rw [if_neg (by omega)]
theorem cutT_from {α : Type} (xs : List α) (i : Int) (h : 0 ≤ i) : cutT xs (some i) none = xs.drop i.toNat := by
  unfold cutT
  rw [sIx_pos h, show HT.sIx xs.length xs.length none = xs.length from rfl]
  by_cases c : i.toNat ≤ xs.length
  · rw [Nat.min_eq_left c, List.take_of_length_le (by rw [List.length_drop]; exact Nat.le_refl _)]
  · rw [Nat.min_eq_right (by omega), List.drop_of_length_le (Nat.le_refl _), List.drop_of_length_le (by omega)]
    simp
theorem cutT_to {α : Type} (xs : List α) (i : Int) (h : 0 ≤ i) : cutT xs none (some i) = xs.take i.toNat := by
  unfold cutT
  rw [sIx_pos h, show HT.sIx xs.length 0 none = 0 from rfl, List.drop_zero, Nat.sub_zero]
  by_cases c : i.toNat ≤ xs.length
  · rw [Nat.min_eq_left c]
  · rw [Nat.min_eq_right (by omega), List.take_of_length_le (Nat.le_refl _), List.take_of_length_le (by omega)]
section
variable {K : PySem.W.Frag} {σ : St} {H : Hp} {Q : VK} {a : Addr} {vs : List V} {te : TE} {tl th : TO} {lo hi : Option Int}
theorem rd_sl {r : V → Option Int → Option Int → Hp → VK → Prop} (q : te σ H fun x H1 => tl σ H1 fun l H2 => th σ H2 fun u H3 => r x l u H3 Q) : tSl r te tl th σ H Q := q
theorem rd_part {QO : Option Int → Hp → Prop} (q : te σ H fun x H1 => ∃ i, x = .int i ∧ QO (some i) H1) : tPart te σ H QO := q
theorem rd_partI {i : Int} {P : Int → Prop} (q : P i) : ∃ i', V.int i = .int i' ∧ P i' := ⟨i, rfl, q⟩
theorem rd_noPart {QO : Option Int → Hp → Prop} (q : QO none H) : tNoPart σ H QO := q
theorem rd_slD {α : Type} [DecidableEq α] [PySem.W.Datum α] {xs : List α} (hl : SqL K H a vs) (hd : Hds K H vs xs) (q : ∀ r H' ws, H r = none → Same H H' → H' r = some (.lst ws) → Hds K H' ws (cutT xs lo hi) → Q (.ref r) H') : rSlA K (.ref a) lo hi H Q := by
  refine .inl ⟨a, vs, rfl, hl, fun p hp => q p _ _ hp (Same.new hp) upd_same ?_⟩
  unfold cutV cutT
  rw [hd.length]
  exact ((hd.drop _).take _).same (Same.new hp)
theorem rd_listL (hl : SqL K H a vs) (q : ∀ r H', H r = none → Same H H' → H' r = some (.lst vs) → Q (.ref r) H') : rListA K [.ref a] H Q := ⟨a, vs, rfl, .inl hl, fun l hn => q l _ hn (Same.new hn) upd_same⟩
theorem rd_listT (hl : SqT K H a vs) (q : ∀ r H', H r = none → Same H H' → H' r = some (.lst vs) → Q (.ref r) H') : rListA K [.ref a] H Q := ⟨a, vs, rfl, .inr hl, fun l hn => q l _ hn (Same.new hn) upd_same⟩
theorem rd_rep {k : Int} (h1 : H a = some (.lst vs)) (h2 : k ≤ 1000) (h0 : -1000 ≤ k) (hz : vs.length * k.toNat ≤ 1000000) (q : ∀ r H', H r = none → Same H H' → H' r = some (.lst (List.replicate k.toNat vs).flatten) → Q (.ref r) H') : rMulA (.ref a) (.int k) H Q :=
  .inr ⟨a, k, vs, rfl, rfl, h1, by omega, by omega, Nat.le_trans hz (by decide), fun p hn => q p _ hn (Same.new hn) upd_same⟩
theorem rd_repB {b : Bool} (h1 : H a = some (.lst vs)) (hz : vs.length ≤ 1000) (q : ∀ r H' ws, H r = none → Same H H' → H' r = some (.lst ws) → (b = false ∧ ws = [] ∨ b = true ∧ ws = vs) → Q (.ref r) H') : rMulA (.ref a) (.int (if b = true then 1 else 0)) H Q := by
  cases b with
  | true => exact rd_rep (k := 1) h1 (by decide) (by decide) (by show vs.length * 1 ≤ _; omega) fun r H' n s e => q r H' _ n s e (.inr ⟨rfl, by simp⟩)
  | false => exact rd_rep (k := 0) h1 (by decide) (by decide) (by show vs.length * 0 ≤ _; omega) fun r H' n s e => q r H' _ n s e (.inl ⟨rfl, by simp⟩)
theorem rd_par {i j : Nat} {ta : TA} {D : Ends} (q : ta σ H fun vs H1 => ∃ v w, vs = [v, w] ∧ D.nx ((σ.set i (some v)).set j (some w)) H1) : tPar i j ta D σ H := q
theorem rd_two {v w : V} {P : V → V → Prop} (q : P v w) : ∃ v' w', [v, w] = [v', w'] ∧ P v' w' := ⟨v, w, rfl, q⟩
theorem rd_par3 {i j l : Nat} {ta : TA} {D : Ends} (q : ta σ H fun vs H1 => ∃ u v w, vs = [u, v, w] ∧ D.nx (((σ.set i (some u)).set j (some v)).set l (some w)) H1) : tPar3 i j l ta D σ H := q
theorem rd_three {u v w : V} {P : V → V → V → Prop} (q : P u v w) : ∃ u' v' w', [u, v, w] = [u', v', w'] ∧ P u' v' w' := ⟨u, v, w, rfl, q⟩
def rTupleA (K : PySem.W.Frag) : List V → Hp → VK → Prop := fun xs H Q => ∃ p ys, xs = [.ref p] ∧ ((SqL K H p ys ∧ ∀ l, H l = none → Q (.ref l) (upd H l (.tup ys))) ∨ (SqT K H p ys ∧ Q (.ref p) H))
theorem call_tupleA {X : Cx} {K : PySem.W.Frag} (hK : X.K = K := by rfl) : CallR X (.type "tuple") (rTupleA K) := by
  subst hK
  exact call_tuple_of
theorem rd_tupleL (hl : SqL K H a vs) (q : ∀ l H', H l = none → Same H H' → H' l = some (.tup vs) → Q (.ref l) H') : rTupleA K [.ref a] H Q := ⟨a, vs, rfl, .inl ⟨hl, fun l n => q l _ n (Same.new n) upd_same⟩⟩
theorem map_some_length {α β : Type} (f : α → β) (xs : List α) : (xs.filterMap fun i => some (f i)).length = xs.length := by
  induction xs with
  | nil => rfl
  | cons x xs ih => simp [ih]
theorem rd_intB {b : Bool} (q : Q (.int (if b = true then 1 else 0)) H) : rIntA [.bl b] H Q := .inl ⟨b, rfl, q⟩
end
end MH
/-! T10: what the program's top has written, by parts. -/
namespace MH
open PySem L2
/-- a def at the top -/
def DefAt (K : PySem.W.Frag) (x : Str) (st : Stmt) (f : Addr) : Prop := PySem.W.nsIn K mainGlobals x = some (some (.ref f)) ∧ ∃ (oc : Value) (od : Option Addr) (kV dc pm : Value) (an : Option Addr) (cd ct : Value) (sl : Array (Option Value)),
  K.lookup f = some ⟨oc, od, .func (PySem.W.fnOf x x (defArgs st) (defBody st) (defScope st) .none kV dc pm an cd ct), sl⟩ ∧ PySem.W.codeIn K cd x = true ∧ PySem.W.keepIn K (.ref f) = true
theorem def_at {K : PySem.W.Frag} {x : Str} {st : Stmt} {f : Addr} {oc : Value} {od : Option Addr} {kV dc pm : Value} {an : Option Addr} {cd ct : Value} {sl : Array (Option Value)} (a : PySem.W.nsIn K mainGlobals x = some (some (.ref f)))
    (l : K.lookup f = some ⟨oc, od, .func (PySem.W.fnOf x x (defArgs st) (defBody st) (defScope st) .none kV dc pm an cd ct), sl⟩) (c : PySem.W.codeIn K cd x = true) (k : PySem.W.keepIn K (.ref f) = true) : DefAt K x st f := ⟨a, _, _, _, _, _, _, _, _, _, l, c, k⟩
/-- a method of the class C -/
def MethAt (K : PySem.W.Frag) (C : Addr) (m q : Str) (st : Stmt) (f : Addr) : Prop := PySem.W.findIn K (.ref C) m = some (some (.ref f)) ∧ PySem.W.isFn K (.ref f) = true ∧ ∃ (oc : Value) (od : Option Addr) (kV dc pm : Value) (an : Option Addr) (cd ct : Value) (sl : Array (Option Value)),
  K.lookup f = some ⟨oc, od, .func (PySem.W.fnOf m q (defArgs st) (defBody st) (defScope st) .none kV dc pm an cd ct), sl⟩ ∧ PySem.W.codeIn K cd q = true ∧ PySem.W.keepIn K (.ref f) = true
theorem meth_at {K : PySem.W.Frag} {C : Addr} {m q : Str} {st : Stmt} {f : Addr} {oc : Value} {od : Option Addr} {kV dc pm : Value} {an : Option Addr} {cd ct : Value} {sl : Array (Option Value)} (a : PySem.W.findIn K (.ref C) m = some (some (.ref f))) (i : PySem.W.isFn K (.ref f) = true)
    (l : K.lookup f = some ⟨oc, od, .func (PySem.W.fnOf m q (defArgs st) (defBody st) (defScope st) .none kV dc pm an cd ct), sl⟩) (c : PySem.W.codeIn K cd q = true) (k : PySem.W.keepIn K (.ref f) = true) : MethAt K C m q st f := ⟨a, i, _, _, _, _, _, _, _, _, _, l, c, k⟩
/-- the class House -/
structure HouseCls (K : PySem.W.Frag) (C : Addr) : Prop where
  a : PySem.W.nsIn K mainGlobals "House" = some (some (.ref C))
  pg : PySem.W.plainGet K C Str.empty = true
  hd : PySem.W.hasDictIn K C = true
  po : PySem.W.plainOver K C = true
  sa : PySem.W.findIn K (.ref C) "__setattr__" = some (some (.builtin "object.__setattr__"))
  mks : PySem.W.makesIn K C = true
  kc : PySem.W.keepIn K (.ref C) = true
  nM : PySem.W.findIn K (.ref C) "most" = some none
  nC : PySem.W.findIn K (.ref C) "colours" = some none
/-- an exception class -/
structure XcAt (K : PySem.W.Frag) (x : Str) (C : Addr) : Prop where
  a : PySem.W.nsIn K mainGlobals x = some (some (.ref C))
  x : PySem.W.excIn K C [.type "ValueError", .type "Exception", .type "BaseException", .type "object"] "ValueError.__new__" = true
  k : PySem.W.keepIn K (.ref C) = true
  b : PySem.W.subIn K (.ref C) (.type "BaseException") = some true
  t : PySem.W.typeIn K (.ref C) = some (.type "type")
  i : PySem.W.isClsIn K C = true
  hd : PySem.W.hasDictIn K C = true
  ga : PySem.W.findIn K (.ref C) "__getattribute__" = some (some (.builtin "BaseException.__getattribute__"))
  gg : PySem.W.findIn K (.ref C) "__getattr__" = some none
  ha : PySem.W.findIn K (.ref C) "__class__" = some (some (.builtin "object.__class__"))
  hm : PySem.W.mroIn K C (.type "object") = some true
  self : PySem.W.subIn K (.ref C) (.ref C) = some true
section
variable {h : Heap} {K : PySem.W.Frag} {mg : Str → Option Value}
theorem XcAt.xc {x : Str} {C : Addr} (X : K.In h) (G : h.Ns mainGlobals mg) (z : XcAt K x C) : Xc K mg x C := ⟨PySem.W.mg_of X G z.a, z.x, z.k, z.b, z.t, z.i, z.hd, z.ga, z.gg, z.ha, z.hm, z.self⟩
theorem HouseCls.hs {C : Addr} (z : HouseCls K C) : Hs K C := ⟨⟨z.pg, z.hd, z.po, z.sa⟩, z.nM, z.nC⟩
theorem kit_ref {D M : Addr} {b : Bool} (i : PySem.W.isClsIn K M = true) (t : PySem.W.typeIn K (.ref M) = some (.type "type")) (self : PySem.W.subIn K (.ref M) (.ref M) = some true) (s : PySem.W.subIn K (.ref D) (.ref M) = some b) : PySem.W.kitOne K (.ref D) (.ref M) = some b := by
  unfold PySem.W.kitOne
  split
  · rename_i e
    have e2 : D = M := by
      have := beq_iff_eq.mp e
      cases this
      rfl
    subst e2
    rw [self] at s
    exact s
  · have e2 : (PySem.W.isClsIn K M && PySem.W.typeIn K (.ref M) == some (.type "type")) = true := by rw [i, t] <;> rfl
    show (if (PySem.W.isClsIn K M && PySem.W.typeIn K (.ref M) == some (.type "type")) = true then PySem.W.subIn K (.ref D) (.ref M) else none) = some b
    rw [if_pos e2]
    exact s
theorem kit_ve {D : Addr} {b : Bool} (s : PySem.W.subIn K (.ref D) (.type "ValueError") = some b) : PySem.W.kitOne K (.ref D) (.type "ValueError") = some b := by
  unfold PySem.W.kitOne
  rw [if_neg (by intro e; have := beq_iff_eq.mp e; cases this)]
  show (if PySem.W.kitMeta "ValueError" = true then PySem.W.subIn K (.ref D) (.type "ValueError") else none) = some b
  rw [if_pos (by decide +kernel)]
  exact s
/-- no name of a built-in is taken -/
structure BlAt (K : PySem.W.Frag) : Prop where
  len : PySem.W.nsIn K mainGlobals "len" = some none
  range : PySem.W.nsIn K mainGlobals "range" = some none
  enumerate : PySem.W.nsIn K mainGlobals "enumerate" = some none
  sorted : PySem.W.nsIn K mainGlobals "sorted" = some none
  isinstance : PySem.W.nsIn K mainGlobals "isinstance" = some none
  int : PySem.W.nsIn K mainGlobals "int" = some none
  bool : PySem.W.nsIn K mainGlobals "bool" = some none
  list : PySem.W.nsIn K mainGlobals "list" = some none
  str : PySem.W.nsIn K mainGlobals "str" = some none
  min : PySem.W.nsIn K mainGlobals "min" = some none
  max : PySem.W.nsIn K mainGlobals "max" = some none
  sum : PySem.W.nsIn K mainGlobals "sum" = some none
  all : PySem.W.nsIn K mainGlobals "all" = some none
  set : PySem.W.nsIn K mainGlobals "set" = some none
  dict : PySem.W.nsIn K mainGlobals "dict" = some none
  tuple : PySem.W.nsIn K mainGlobals "tuple" = some none
  ve : PySem.W.nsIn K mainGlobals "ValueError" = some none
theorem BlAt.bl (X : K.In h) (G : h.Ns mainGlobals mg) (z : BlAt K) : Bl mg :=
  ⟨PySem.W.mg_none_of X G z.len, PySem.W.mg_none_of X G z.range, PySem.W.mg_none_of X G z.enumerate, PySem.W.mg_none_of X G z.sorted, PySem.W.mg_none_of X G z.isinstance, PySem.W.mg_none_of X G z.int, PySem.W.mg_none_of X G z.bool, PySem.W.mg_none_of X G z.list, PySem.W.mg_none_of X G z.str,
    PySem.W.mg_none_of X G z.min, PySem.W.mg_none_of X G z.max, PySem.W.mg_none_of X G z.sum, PySem.W.mg_none_of X G z.all, PySem.W.mg_none_of X G z.set, PySem.W.mg_none_of X G z.dict, PySem.W.mg_none_of X G z.tuple, PySem.W.mg_none_of X G z.ve⟩
/-- the two bounds -/
def KsAt (K : PySem.W.Frag) : Prop := (∃ t, PySem.W.nsIn K mainGlobals "MOST_TILES" = some (some (.int 12 t))) ∧ ∃ t, PySem.W.nsIn K mainGlobals "MOST_JOKERS" = some (some (.int 2 t))
theorem ks_at {t u : Tok} (a : PySem.W.nsIn K mainGlobals "MOST_TILES" = some (some (.int 12 t))) (b : PySem.W.nsIn K mainGlobals "MOST_JOKERS" = some (some (.int 2 u))) : KsAt K := ⟨⟨_, a⟩, _, b⟩
theorem ks_of (X : K.In h) (G : h.Ns mainGlobals mg) (z : KsAt K) : Ks mg := by
  obtain ⟨⟨t, a⟩, u, b⟩ := z
  exact ⟨⟨_, PySem.W.mg_of X G a⟩, _, PySem.W.mg_of X G b⟩
def KlAt (K : PySem.W.Frag) : Prop := ∃ t, PySem.W.nsIn K mainGlobals "LETTERS" = some (some (.str "abcd" t))
theorem kl_at {t : Tok} (a : PySem.W.nsIn K mainGlobals "LETTERS" = some (some (.str "abcd" t))) : KlAt K := ⟨_, a⟩
theorem kl_of (X : K.In h) (G : h.Ns mainGlobals mg) (z : KlAt K) : Kl mg := by
  obtain ⟨t, a⟩ := z
  exact ⟨⟨_, PySem.W.mg_of X G a⟩⟩
end
end MH
/-! T11: melds as data. -/
namespace MH
open PySem L2
inductive Meld where
  | grp (n : Int) (cs : List Int)
  | run (c f s : Int)
deriving DecidableEq
def toDM : Meld → PyData
  | .grp n cs => .tuple [.str "group", .int n, .tuple (cs.map .int)]
  | .run c f s => .tuple [.str "run", .int c, .int f, .int s]
theorem plain_ints : ∀ cs : List Int, PyData.plainAll (cs.map .int) = true
  | [] => rfl
  | c :: cs => by simp only [List.map_cons, PyData.plainAll, PyData.plain, plain_ints cs, Bool.and_self]
theorem depth_ints : ∀ cs : List Int, PyData.depthAll (cs.map .int) = 0
  | [] => rfl
  | c :: cs => by simp only [List.map_cons, PyData.depthAll, PyData.depth, depth_ints cs, Nat.max_self]
theorem lay_ints : ∀ cs : List Int, PyData.canLayAll0 (cs.map .int) = true
  | [] => by simp [PyData.canLayAll0]
  | c :: cs => by simp [PyData.canLayAll0, PyData.canLay0, lay_ints cs]
theorem frz_ints : ∀ cs : List Int, frzAll (cs.map .int) = true
  | [] => rfl
  | c :: cs => by simp only [List.map_cons, frzAll, frz, frz_ints cs, Bool.and_self]
theorem cmp_ints : ∀ cs ds : List Int, cmpOs (cs.map .int) (ds.map .int) = true
  | [], [] => by simp [cmpOs]
  | [], _ :: _ => by simp [cmpOs]
  | _ :: _, [] => by simp [cmpOs]
  | c :: cs, d :: ds => by simp [cmpOs, cmpO, cmp_ints cs ds]
theorem eqv_ints : ∀ cs ds : List Int, PyData.eqvAll (cs.map .int) (ds.map .int) = decide (cs = ds)
  | [], [] => by simp [PyData.eqvAll]
  | [], _ :: _ => by simp [PyData.eqvAll]
  | _ :: _, [] => by simp [PyData.eqvAll]
  | c :: cs, d :: ds => by
    simp only [List.map_cons, PyData.eqvAll, eqv_ints cs ds, PyData.eqv]
    by_cases h : c = d
    · simp [h]
    · simp [h]
theorem eqv_gr : PyData.eqv (.str "group") (.str "run") = false := by decide +kernel
theorem eqv_rg : PyData.eqv (.str "run") (.str "group") = false := by decide +kernel
theorem eqv_gg : PyData.eqv (.str "group") (.str "group") = true := by decide +kernel
theorem eqv_rr : PyData.eqv (.str "run") (.str "run") = true := by decide +kernel
theorem eqv_i (a b : Int) : PyData.eqv (.int a) (.int b) = decide (a = b) := PySem.W.Datum.eqv a b
instance : PySem.W.Datum Meld where
  toD := toDM
  plain x := by cases x <;> simp [toDM, PyData.plain, PyData.plainAll, plain_ints]
  eqv x y := by
    cases x <;> cases y
    · simp only [toDM, PyData.eqv, PyData.eqvAll, eqv_ints]
      simp [PySem.W.beq_decide]
    · simp only [toDM, PyData.eqv, PyData.eqvAll]
      have : ((("group" : Str) == "run") = false) := by decide +kernel
      simp [this]
    · simp only [toDM, PyData.eqv, PyData.eqvAll]
      have : ((("run" : Str) == "group") = false) := by decide +kernel
      simp [this]
    · simp only [toDM, PyData.eqv, PyData.eqvAll]
      simp [PySem.W.beq_decide]
  depth := 2
  depth_le x := by cases x <;> simp [toDM, PyData.depth, PyData.depthAll, depth_ints]
instance : Fz Meld := ⟨fun x => by
  show frz (toDM x) = true
  cases x <;> simp [toDM, frz, frzAll, frz_ints]⟩
/-- a comes ahead of b -/
def lexI : List Int → List Int → Bool
  | [], [] => false
  | [], _ :: _ => true
  | _ :: _, [] => false
  | a :: as, b :: bs => if a = b then lexI as bs else decide (a < b)
def mlt : Meld → Meld → Bool
  | .grp n cs, .grp k ds => if n = k then lexI cs ds else decide (n < k)
  | .grp _ _, .run _ _ _ => true
  | .run _ _ _, .grp _ _ => false
  | .run c f s, .run d g t => if c = d then (if f = g then decide (s < t) else decide (f < g)) else decide (c < d)
theorem dataLt_e : PySem.W.dataLt (.tuple []) (.tuple []) = false := by decide +kernel
theorem dataLt_en (x : PyData) (xs : List PyData) : PySem.W.dataLt (.tuple []) (.tuple (.int n :: xs)) = true := by
  rw [PySem.W.dataLt_tuple]
  rfl
theorem dataLt_ne (n : Int) (xs : List PyData) : PySem.W.dataLt (.tuple (.int n :: xs)) (.tuple []) = false := by
  rw [PySem.W.dataLt_tuple]
  rfl
theorem dataLt_is : ∀ cs ds : List Int, PySem.W.dataLt (.tuple (cs.map .int)) (.tuple (ds.map .int)) = lexI cs ds
  | [], [] => dataLt_e
  | [], d :: ds => by rw [PySem.W.dataLt_tuple]; rfl
  | c :: cs, [] => dataLt_ne c _
  | c :: cs, d :: ds => by
    simp only [List.map_cons, lexI]
    by_cases h : c = d
    · rw [if_pos h, dataLt_pass (by simp [cmpO]) (by rw [eqv_i]; exact decide_eq_true h), dataLt_is cs ds]
    · rw [if_neg h, dataLt_stop (by simp [cmpO]) (by rw [eqv_i]; exact decide_eq_false h), PySem.W.dataLt_int]
theorem dataLt_one {x y : PyData} (h : cmpO x y = true) : PySem.W.dataLt (.tuple [x]) (.tuple [y]) = if PyData.eqv x y = true then false else PySem.W.dataLt x y := by
  cases e : PyData.eqv x y with
  | true => rw [dataLt_pass h e, dataLt_e]; rfl
  | false => rw [dataLt_stop h e]; rfl
theorem cmpO_ii (a b : Int) : cmpO (.int a) (.int b) = true := by simp [cmpO]
theorem cmpO_ss (a b : Str) : cmpO (.str a) (.str b) = true := by simp [cmpO]
theorem dataLt_meld (a b : Meld) : PySem.W.dataLt (PySem.W.Datum.toD a) (PySem.W.Datum.toD b) = mlt a b := by
  show PySem.W.dataLt (toDM a) (toDM b) = mlt a b
  cases a with
  | grp n cs =>
    cases b with
    | grp k ds =>
      simp only [toDM, mlt]
      rw [dataLt_pass (cmpO_ss _ _) eqv_gg]
      by_cases h : n = k
      · rw [if_pos h, dataLt_pass (cmpO_ii _ _) (by rw [eqv_i]; exact decide_eq_true h), dataLt_one (by simp [cmpO, cmp_ints]), dataLt_is]
        simp only [PyData.eqv, eqv_ints]
        by_cases g : cs = ds
        · subst g
          rw [if_pos (decide_eq_true rfl), ← dataLt_is, dataLt_irr]
        · rw [if_neg (by simpa using g)]
      · rw [if_neg h, dataLt_stop (cmpO_ii _ _) (by rw [eqv_i]; exact decide_eq_false h), PySem.W.dataLt_int]
    | run d g t =>
      simp only [toDM, mlt]
      rw [dataLt_stop (cmpO_ss _ _) eqv_gr]
      decide +kernel
  | run c f s =>
    cases b with
    | grp k ds =>
      simp only [toDM, mlt]
      rw [dataLt_stop (cmpO_ss _ _) eqv_rg]
      decide +kernel
    | run d g t =>
      simp only [toDM, mlt]
      rw [dataLt_pass (cmpO_ss _ _) eqv_rr]
      by_cases h : c = d
      · rw [if_pos h, dataLt_pass (cmpO_ii _ _) (by rw [eqv_i]; exact decide_eq_true h)]
        by_cases h2 : f = g
        · rw [if_pos h2, dataLt_pass (cmpO_ii _ _) (by rw [eqv_i]; exact decide_eq_true h2), dataLt_one (cmpO_ii _ _), eqv_i, PySem.W.dataLt_int]
          by_cases h3 : s = t
          · rw [if_pos (decide_eq_true h3)]
            simp [h3]
          · rw [if_neg (by simpa using h3)]
        · rw [if_neg h2, dataLt_stop (cmpO_ii _ _) (by rw [eqv_i]; exact decide_eq_false h2), PySem.W.dataLt_int]
      · rw [if_neg h, dataLt_stop (cmpO_ii _ _) (by rw [eqv_i]; exact decide_eq_false h), PySem.W.dataLt_int]
theorem cmpO_meld (a b : Meld) : cmpO (PySem.W.Datum.toD a) (PySem.W.Datum.toD b) = true := by
  show cmpO (toDM a) (toDM b) = true
  cases a <;> cases b
  · simp [toDM, cmpO, cmpOs, cmp_ints]
  · simp [toDM, cmpO, cmpOs, eqv_gr]
  · simp [toDM, cmpO, cmpOs, eqv_rg]
  · simp [toDM, cmpO, cmpOs]
theorem lay_melds : ∀ ts : List Meld, PyData.canLayAll0 (ts.map PySem.W.Datum.toD) = true
  | [] => by simp [PyData.canLayAll0]
  | t :: ts => by
    have h : PyData.canLay0 (toDM t) = true := by
      have g1 : PyData.canLay0 (.str "group") = true := by decide +kernel
      have g2 : PyData.canLay0 (.str "run") = true := by decide +kernel
      cases t <;> simp [toDM, PyData.canLay0, PyData.canLayAll0, lay_ints] <;> assumption
    show (PyData.canLay0 (toDM t) && PyData.canLayAll0 (ts.map PySem.W.Datum.toD)) = true
    rw [h, lay_melds ts]
    rfl
theorem first_melds (ts : List Meld) : FirstOf "str" (ts.map PySem.W.Datum.toD) := fun d hd => by
  obtain ⟨t, _, rfl⟩ := List.mem_map.mp hd
  cases t
  · exact ⟨.str "group", _, rfl, rfl⟩
  · exact ⟨.str "run", _, rfl, rfl⟩
theorem mlt_irr (a : Meld) : mlt a a = false := by rw [← dataLt_meld]; exact dataLt_irr _
theorem mlt_tr {a b c : Meld} (h1 : mlt b a = false) (h2 : mlt c b = false) : mlt c a = false := by
  rw [← dataLt_meld] at h1 h2 ⊢
  exact dataLt_tr h1 h2
theorem mlt_asym {a b : Meld} (h : mlt a b = true) : mlt b a = false := by
  rw [← dataLt_meld] at h ⊢
  exact dataLt_asym h
theorem lexI_anti : ∀ {a b : List Int}, lexI a b = false → lexI b a = false → a = b
  | [], [], _, _ => rfl
  | [], _ :: _, h, _ => by simp [lexI] at h
  | _ :: _, [], _, h => by simp [lexI] at h
  | x :: a, y :: b, h1, h2 => by
    simp only [lexI] at h1 h2
    by_cases e : x = y
    · subst e
      rw [if_pos rfl] at h1 h2
      rw [lexI_anti h1 h2]
    · rw [if_neg e] at h1
      rw [if_neg (Ne.symm e)] at h2
      have := of_decide_eq_false h1
      have := of_decide_eq_false h2
      omega
theorem mlt_anti {a b : Meld} (h1 : mlt b a = false) (h2 : mlt a b = false) : a = b := by
  cases a <;> cases b <;> simp only [mlt] at h1 h2
  · rename_i n cs k ds
    by_cases e : n = k
    · subst e
      rw [if_pos rfl] at h1 h2
      rw [lexI_anti h2 h1]
    · rw [if_neg e] at h2
      rw [if_neg (Ne.symm e)] at h1
      have := of_decide_eq_false h1
      have := of_decide_eq_false h2
      omega
  · cases h2
  · cases h1
  · rename_i c f s d g t
    by_cases e : c = d
    · subst e
      rw [if_pos rfl] at h1 h2
      by_cases e2 : f = g
      · subst e2
        rw [if_pos rfl] at h1 h2
        have := of_decide_eq_false h1
        have := of_decide_eq_false h2
        have : s = t := by omega
        rw [this]
      · rw [if_neg e2] at h2
        rw [if_neg (Ne.symm e2)] at h1
        have := of_decide_eq_false h1
        have := of_decide_eq_false h2
        omega
    · rw [if_neg e] at h2
      rw [if_neg (Ne.symm e)] at h1
      have := of_decide_eq_false h1
      have := of_decide_eq_false h2
      omega
def SortedM (ts : List Meld) : Prop := ts.Pairwise fun a b => mlt b a = false
instance (ts : List Meld) : Decidable (SortedM ts) := by unfold SortedM; infer_instance
theorem sortedM_perm : ∀ {a b : List Meld}, SortedM a → SortedM b → a.Perm b → a = b
  | [], b, _, _, p => by rw [List.nil_perm.mp p]
  | x :: a, [], _, _, p => by simp at p
  | x :: a, y :: b, ha, hb, p => by
    have hx : mlt x y = false := by
      rcases List.mem_cons.mp (p.mem_iff.mp (List.mem_cons_self (a := x))) with e | m
      · rw [e]; exact mlt_irr _
      · exact (List.pairwise_cons.mp hb).1 x m
    have hy : mlt y x = false := by
      rcases List.mem_cons.mp (p.mem_iff.mpr (List.mem_cons_self (a := y))) with e | m
      · rw [e]; exact mlt_irr _
      · exact (List.pairwise_cons.mp ha).1 y m
    have e := mlt_anti hy hx
    subst e
    rw [sortedM_perm (List.pairwise_cons.mp ha).2 (List.pairwise_cons.mp hb).2 (List.Perm.cons_inv p)]
theorem sortedM_of_adj : ∀ {ts : List Meld}, (∀ i (h : i + 1 < ts.length), mlt ts[i + 1] (ts[i]'(by omega)) = false) → SortedM ts
  | [], _ => List.Pairwise.nil
  | [x], _ => List.pairwise_singleton _ _
  | x :: y :: ts, h => by
    have ih := sortedM_of_adj (ts := y :: ts) fun i hi => h (i + 1) (by simpa using hi)
    refine List.pairwise_cons.mpr ⟨fun z hz => ?_, ih⟩
    have h0 : mlt y x = false := h 0 (by simp)
    rcases List.mem_cons.mp hz with rfl | hz
    · exact h0
    · exact mlt_tr h0 ((List.pairwise_cons.mp ih).1 z hz)
section
variable {K : PySem.W.Frag} {H : Hp} {Q : VK} {p : Addr} {vs : List V} {ts : List Meld} {v : V}
/-- sorted(xs) of melds -/
theorem rd_sortM (hl : SqL K H p vs) (hd : Hds K H vs ts)
    (q : ∀ r H' ws us, H r = none → Same H H' → H' r = some (.lst ws) → us.Perm ts → SortedM us → Hds K H ws us → Q (.ref r) H') : rSortedA K [.ref p] H Q := by
  refine ⟨p, vs, ts.map PySem.W.Datum.toD, "str", rfl, hl, hd, lay_melds ts, PySem.W.plainAll_map ts, Nat.le_trans (PySem.W.depthAll_map ts) (by decide), first_melds ts, fun d h1 e h2 => ?_, fun r ws es nr pm sr hw => ?_⟩
  · obtain ⟨a, _, rfl⟩ := List.mem_map.mp h1
    obtain ⟨b, _, rfl⟩ := List.mem_map.mp h2
    exact cmpO_meld a b
  · obtain ⟨us, pu, rfl⟩ := perm_map pm
    refine q r _ ws us nr (Same.new nr) upd_same pu ?_ hw
    have := List.pairwise_map.mp sr
    exact this.imp fun h => by rw [dataLt_meld] at h; exact h
theorem rd_gtM {v u : V} {a b : Meld} (h1 : Hd K H v a) (h2 : Hd K H u b) (q : Q (.bl (mlt b a)) H) : rGtA K v u H Q :=
  .inr ⟨_, _, h1, h2, PySem.W.Datum.plain a, PySem.W.Datum.plain b, cmpO_meld a b, Nat.le_trans (PySem.W.Datum.depth_le a) (by decide), by show Q (.bl (PySem.W.dataLt (PySem.W.Datum.toD b) (PySem.W.Datum.toD a))) H; rw [dataLt_meld]; exact q⟩
theorem run_of {c f s : Int} (h : Hd K H v (Meld.run c f s)) : ∃ a, v = .ref a ∧ SqT K H a [.str "run", .int c, .int f, .int s] := by
  cases h with
  | tup h1 h2 =>
    cases h2 with
    | cons q1 q2 =>
      cases q2 with
      | cons q2 q3 =>
        cases q3 with
        | cons q3 q4 =>
          cases q4 with
          | cons q4 q5 =>
            cases q5
            rw [dp_str q1, dp_int q2, dp_int q3, dp_int q4] at h1
            exact ⟨_, rfl, SqT.of h1⟩
theorem grp_of {n : Int} {cs : List Int} (h : Hd K H v (Meld.grp n cs)) : ∃ a b, v = .ref a ∧ SqT K H a [.str "group", .int n, .ref b] ∧ SqT K H b (cs.map V.int) := by
  cases h with
  | tup h1 h2 =>
    cases h2 with
    | cons q1 q2 =>
      cases q2 with
      | cons q2 q3 =>
        cases q3 with
        | cons q3 q4 =>
          cases q4
          cases q3 with
          | tup g1 g2 =>
            rw [dpAll_int_eq g2] at g1
            rw [dp_str q1, dp_int q2] at h1
            exact ⟨_, _, rfl, SqT.of h1, SqT.of g1⟩
theorem run_mk {a : Addr} {c f s : Int} (h : H a = some (.tup [.str "run", .int c, .int f, .int s])) : Hd K H (.ref a) (Meld.run c f s) :=
  Dp.tup h (DpAll.cons (Dp.str _) (DpAll.cons (Dp.int _) (DpAll.cons (Dp.int _) (DpAll.cons (Dp.int _) DpAll.nil))))
theorem grp_mk {a b : Addr} {n : Int} {cs : List Int} (h : H a = some (.tup [.str "group", .int n, .ref b])) (g : H b = some (.tup (cs.map V.int))) : Hd K H (.ref a) (Meld.grp n cs) :=
  Dp.tup h (DpAll.cons (Dp.str _) (DpAll.cons (Dp.int _) (DpAll.cons (Dp.tup g (dpAll_int cs)) DpAll.nil)))
end
end MH
/-! T12: the melds of a house. -/
namespace MH
open PySem L2
def tilesIn : Meld → List Tile
  | .run c f s => (List.range s.toNat).map fun (i : Nat) => (f + (i : Int), c)
  | .grp n cs => cs.map fun c => (n, c)
def has1 (m c n k : Int) : Bool := decide (1 ≤ n) && decide (n ≤ m) && (decide (0 ≤ k) && decide (k < c))
def rises (cs : List Int) : Bool := (List.range (cs.length - 1)).all fun i => decide (cs.getD i 0 < cs.getD (i + 1) 0)
def isMeld (m c : Int) : Meld → Bool
  | .run k f s => decide (3 ≤ s) && (has1 m c f k && has1 m c (f + s - 1) k)
  | .grp n cs => (decide (3 ≤ cs.length) && decide (cs.length ≤ 4) && cs.all fun k => has1 m c n k) && rises cs
def five : List (List Int) := [[0, 1, 2], [0, 1, 2, 3], [0, 1, 3], [0, 2, 3], [1, 2, 3]]
def lastI (cs : List Int) : Int := cs.getLastD 0
def grpsAt (c : Int) (n : Nat) : List Meld := five.filterMap fun cs => if lastI cs < c then some (.grp (1 + (n : Int)) cs) else none
def runsAt (m : Int) (k f : Nat) : List Meld := (List.range (m - (1 + (f : Int)) + 2 - 3).toNat).map fun (s : Nat) => .run k (1 + (f : Int)) (3 + (s : Int))
def runsCol (m : Int) (k : Nat) : List Meld := (List.range (m - 1 - 1).toNat).flatMap fun f => runsAt m k f
def groupsOf (m c : Int) : List Meld := (List.range m.toNat).flatMap fun n => grpsAt c n
def runsOf (m c : Int) : List Meld := (List.range c.toNat).flatMap fun k => runsCol m k
def meldsOf (m c : Int) : List Meld := groupsOf m c ++ runsOf m c
/-! the law's own list -/
def kindsOf : Nat → List (List Int)
  | 0 => [[]]
  | k + 1 => kindsOf k ++ (kindsOf k).map fun kind => kind ++ [(k : Int)]
def runsFAt (m : Int) (k f : Nat) : List Meld := (List.range (m + 1 - (1 + (f : Int) + 2)).toNat).map fun (l : Nat) => .run k (1 + (f : Int)) (1 + (f : Int) + 2 + (l : Int) - (1 + (f : Int)) + 1)
def grpsFAt (c : Int) (n : Nat) : List Meld := (kindsOf c.toNat).filterMap fun cs => if 2 < cs.length then some (.grp (1 + (n : Int)) cs) else none
def meldsF (m c : Int) : List Meld := ((List.range c.toNat).flatMap fun k => (List.range m.toNat).flatMap fun f => runsFAt m k f) ++ (List.range m.toNat).flatMap fun n => grpsFAt c n
def adjM : List Meld → Bool
  | a :: b :: r => !mlt b a && adjM (b :: r)
  | _ => true
theorem adjM_sorted : ∀ {ts : List Meld}, adjM ts = true → SortedM ts
  | [], _ => List.Pairwise.nil
  | [x], _ => List.pairwise_singleton _ _
  | x :: y :: ts, h => by
    simp only [adjM, Bool.and_eq_true, Bool.not_eq_true'] at h
    have ih := adjM_sorted h.2
    refine List.pairwise_cons.mpr ⟨fun z hz => ?_, ih⟩
    rcases List.mem_cons.mp hz with rfl | hz
    · exact h.1
    · exact mlt_tr h.1 ((List.pairwise_cons.mp ih).1 z hz)
def runsFOf (m c : Int) : List Meld := (List.range c.toNat).flatMap fun k => (List.range m.toNat).flatMap fun f => runsFAt m k f
def chkM (m c : Int) : Bool := adjM (meldsOf m c) && decide (runsFOf m c = runsOf m c)
def chkG (c : Int) : Bool := (grpsFAt c 0).isPerm (grpsAt c 0)
theorem chkM_all : (List.range 11).all (fun m => (List.range 4).all fun c => chkM (3 + (m : Int)) (1 + (c : Int))) = true := by decide +kernel
theorem chkK_all : (List.range 4).all (fun c => ((kindsOf (1 + (c : Int)).toNat).filter fun cs => decide (2 < cs.length)).isPerm (five.filter fun cs => decide (lastI cs < 1 + (c : Int)))) = true := by decide +kernel
theorem chkM_of {m c : Int} (h : 3 ≤ m ∧ m ≤ 13 ∧ 1 ≤ c ∧ c ≤ 4) : SortedM (meldsOf m c) ∧ runsFOf m c = runsOf m c := by
  have a := List.all_eq_true.mp chkM_all (m - 3).toNat (List.mem_range.mpr (by omega))
  have b := List.all_eq_true.mp a (c - 1).toNat (List.mem_range.mpr (by omega))
  have e1 : (3 + (((m - 3).toNat : Nat) : Int)) = m := by omega
  have e2 : (1 + (((c - 1).toNat : Nat) : Int)) = c := by omega
  rw [e1, e2] at b
  simp only [chkM, Bool.and_eq_true, decide_eq_true_eq] at b
  exact ⟨adjM_sorted b.1, b.2⟩
theorem filterMap_if {α β : Type} (p : α → Prop) [DecidablePred p] (g : α → β) (xs : List α) : (xs.filterMap fun x => if p x then some (g x) else none) = (xs.filter fun x => decide (p x)).map g := by
  induction xs with
  | nil => rfl
  | cons x xs ih =>
    by_cases h : p x
    · simp [h, ih]
    · simp [h, ih]
theorem perm_flatMap {α β : Type} {f g : α → List β} (h : ∀ x, (f x).Perm (g x)) : ∀ xs : List α, (xs.flatMap f).Perm (xs.flatMap g)
  | [] => .refl _
  | x :: xs => by
    rw [List.flatMap_cons, List.flatMap_cons]
    exact (h x).append (perm_flatMap h xs)
theorem melds_perm {m c : Int} (h : 3 ≤ m ∧ m ≤ 13 ∧ 1 ≤ c ∧ c ≤ 4) : (meldsF m c).Perm (meldsOf m c) := by
  have b := List.all_eq_true.mp chkK_all (c - 1).toNat (List.mem_range.mpr (by omega))
  have e2 : (1 + (((c - 1).toNat : Nat) : Int)) = c := by omega
  rw [e2] at b
  have kp := List.isPerm_iff.mp b
  have gp : ((List.range m.toNat).flatMap fun n => grpsFAt c n).Perm (groupsOf m c) := perm_flatMap (fun n => by
    unfold grpsFAt grpsAt
    rw [filterMap_if (fun cs : List Int => 2 < cs.length), filterMap_if (fun cs : List Int => lastI cs < c)]
    exact kp.map _) _
  show (runsFOf m c ++ _).Perm _
  rw [(chkM_of h).2]
  exact (gp.append_left _).trans List.perm_append_comm
theorem hds_bl_eq {K : PySem.W.Frag} {H : Hp} : ∀ {bs : List Bool} {vs : List V}, Hds K H vs bs → vs = bs.map V.bl
  | [], vs, h => by cases h; rfl
  | b :: bs, vs, h => by
    cases h with
    | cons h1 h2 =>
      cases h1
      rw [hds_bl_eq (bs := bs) h2]
      rfl
theorem map_some {α β : Type} (f : α → β) (xs : List α) : (xs.filterMap fun i => some (f i)) = xs.map f := by
  induction xs with
  | nil => rfl
  | cons x xs ih => simp [ih]
theorem rd_allL {K : PySem.W.Frag} {H : Hp} {Q : VK} {p : Addr} {ws : List V} {bs : List Bool} (h : H p = some (.lst ws)) (hb : Hds K H ws bs) (q : Q (.bl (bs.all id)) H) : rAll K [.ref p] H Q := by
  rw [hds_bl_eq hb] at h
  exact ⟨p, bs, rfl, SqL.of h, q⟩
theorem rd_sumL {K : PySem.W.Frag} {H : Hp} {Q : VK} {p : Addr} {ws : List V} {ns : List Int} (h : H p = some (.lst ws)) (hb : Hds K H ws ns) (q : Q (.int ns.sum) H) : rSum K [.ref p] H Q := by
  rw [hds_int_eq hb] at h
  exact ⟨p, ns, rfl, SqL.of h, q⟩
theorem flatMap_succ {α : Type} (f : Nat → List α) (i : Nat) : (List.range (i + 1)).flatMap f = (List.range i).flatMap f ++ f i := by
  rw [List.range_succ, List.flatMap_append]
  simp
theorem filterMap_bound {α β : Type} (f : α → Option β) (xs : List α) {n : Nat} (h : xs.length ≤ n) : (xs.filterMap f).length ≤ n := Nat.le_trans (List.length_filterMap_le f xs) h
theorem flatMap_bound {α : Type} (f : Nat → List α) {n : Nat} (h : ∀ i, (f i).length ≤ n) : ∀ i, ((List.range i).flatMap f).length ≤ n * i
  | 0 => by simp
  | i + 1 => by
    rw [flatMap_succ, List.length_append, Nat.mul_add, Nat.mul_one]
    exact Nat.add_le_add (flatMap_bound f h i) (h i)
theorem grpsAt_len (c : Int) (n : Nat) : (grpsAt c n).length ≤ 5 := filterMap_bound _ five (Nat.le_refl _)
theorem runsAt_len {m : Int} (hm : m ≤ 13) (k f : Nat) : (runsAt m k f).length ≤ 13 := by
  unfold runsAt
  rw [List.length_map, List.length_range]
  omega
/-! what a meld is, is listed -/
theorem mem_runs {m c k f s : Int} : Meld.run k f s ∈ runsOf m c ↔ isMeld m c (.run k f s) = true := by
  simp only [runsOf, runsCol, runsAt, List.mem_flatMap, List.mem_map, List.mem_range, isMeld, has1, Bool.and_eq_true, decide_eq_true_eq, Meld.run.injEq]
  constructor
  · rintro ⟨a, ha, b, hb, d, hd, rfl, rfl, rfl⟩
    omega
  · rintro h
    refine ⟨k.toNat, by omega, (f - 1).toNat, by omega, (s - 3).toNat, by omega, by omega, by omega, by omega⟩
theorem mem_grps {m c n : Int} {cs : List Int} : Meld.grp n cs ∈ groupsOf m c ↔ (1 ≤ n ∧ n ≤ m) ∧ cs ∈ five ∧ lastI cs < c := by
  simp only [groupsOf, grpsAt, List.mem_flatMap, List.mem_range, List.mem_filterMap]
  constructor
  · rintro ⟨a, ha, ds, hd, e⟩
    by_cases z : lastI ds < c
    · rw [if_pos z] at e
      cases e
      exact ⟨by omega, hd, z⟩
    · rw [if_neg z] at e
      cases e
  · rintro ⟨h1, h2, h3⟩
    refine ⟨(n - 1).toNat, by omega, cs, h2, ?_⟩
    rw [if_pos h3]
    have : 1 + (((n - 1).toNat : Nat) : Int) = n := by omega
    rw [this]
theorem mem_melds {m c : Int} (hc : c ≤ 4) (x : Meld) : x ∈ meldsOf m c ↔ isMeld m c x = true := by
  unfold meldsOf
  rw [List.mem_append]
  cases x with
  | run k f s =>
    rw [mem_runs]
    refine ⟨fun h => h.elim (fun h => ?_) id, .inr⟩
    simp only [groupsOf, grpsAt, List.mem_flatMap, List.mem_filterMap] at h
    obtain ⟨a, _, ds, _, e⟩ := h
    split at e <;> cases e
  | grp n cs =>
    rw [mem_grps]
    have nr : Meld.grp n cs ∉ runsOf m c := fun h => by
      simp only [runsOf, runsCol, runsAt, List.mem_flatMap, List.mem_map] at h
      obtain ⟨_, _, _, _, _, _, e⟩ := h
      cases e
    rw [or_iff_left nr]
    simp only [isMeld, has1, rises, Bool.and_eq_true, decide_eq_true_eq]
    constructor
    · rintro ⟨hn, hf, hl⟩
      simp only [five, List.mem_cons, List.not_mem_nil, or_false] at hf
      rcases hf with rfl | rfl | rfl | rfl | rfl <;> simp [lastI] at hl <;> simp [List.range, List.range.loop] <;> omega
    · rintro ⟨⟨⟨h3, h4⟩, ha⟩, hr⟩
      match cs, h3, h4 with
      | [x, y, z], _, _ =>
        simp [List.range, List.range.loop] at ha hr
        have : (x = 0 ∧ y = 1 ∧ z = 2) ∨ (x = 0 ∧ y = 1 ∧ z = 3) ∨ (x = 0 ∧ y = 2 ∧ z = 3) ∨ (x = 1 ∧ y = 2 ∧ z = 3) := by omega
        rcases this with ⟨rfl, rfl, rfl⟩ | ⟨rfl, rfl, rfl⟩ | ⟨rfl, rfl, rfl⟩ | ⟨rfl, rfl, rfl⟩ <;> exact ⟨by omega, by decide, by simp [lastI]; omega⟩
      | [x, y, z, w], _, _ =>
        simp [List.range, List.range.loop] at ha hr
        have : x = 0 ∧ y = 1 ∧ z = 2 ∧ w = 3 := by omega
        obtain ⟨rfl, rfl, rfl, rfl⟩ := this
        exact ⟨by omega, by decide, by simp [lastI]; omega⟩
theorem meld_small {m c : Int} (hm : m ≤ 13) {x : Meld} (h : isMeld m c x = true) : match x with | .run _ _ s => s ≤ 13 | .grp _ cs => cs.length ≤ 4 := by
  cases x with
  | run k f s =>
    simp only [isMeld, has1, Bool.and_eq_true, decide_eq_true_eq] at h
    show s ≤ 13
    omega
  | grp n cs =>
    simp only [isMeld, Bool.and_eq_true, decide_eq_true_eq] at h
    exact h.1.1.2
def SmallM : Meld → Prop
  | .run _ _ z => z ≤ 1000 ∧ -1000 ≤ z
  | .grp _ cs => cs.length ≤ 1000
end MH
/-! T13: comprehensions whose items are promised, not known; kinds of objects. -/
namespace MH
open PySem L2
section
variable {K : PySem.W.Frag} {σ : St} {H : Hp} {Q : VK} {g : TG} {tt : TT} {te : TE} {vs : List Nat} {a : Addr} {xs : List V}
/-- one item of the source: what it gives, or that it is left out -/
def EltR (K : PySem.W.Frag) {α : Type} [DecidableEq α] [PySem.W.Datum α] (g : TG) (tt : TT) (te : TE) (vs : List Nat) (σ : St) (x : V) (Yes : α → Prop) (No : Prop) (H' : Hp) : Prop :=
  ∀ (Rk : VK) (Rn : Hp → Prop), (∀ y H4 z, Yes z → Same H' H4 → Hd K H4 y z → Rk y H4) → (∀ H3, No → Same H' H3 → Rn H3) →
    g x (wipe σ vs) H' fun σ2 H2 => wipe σ2 vs = wipe σ vs ∧ tt σ2 H2 fun c H3 => if c = true then te σ2 H3 Rk else Rn H3
section
variable {α : Type} [DecidableEq α] [PySem.W.Datum α] [Fz α] {R : Nat → List α → Prop}
def CompAtR (K : PySem.W.Frag) (H : Hp) (Dd : Addr) (R : Nat → List α → Prop) (i : Nat) (H' : Hp) : Prop := ∃ ws ys, H' Dd = some (.lst ws) ∧ Same H H' ∧ Hds K H' ws ys ∧ ys.length ≤ i ∧ R i ys
theorem compR_start {Dd : Addr} (n : H Dd = none) (r0 : R 0 []) : CompAtR K H Dd R 0 (upd H Dd (.lst [])) := ⟨[], [], upd_same, Same.new n, Hds.nil, Nat.le_refl _, r0⟩
theorem compR_more {Dd : Addr} {i : Nat} {H' H4 : Hp} {y : V} {z : α} {ws : List V} {ys : List α} (n : H Dd = none) (hi : i < 1000000) (e : H' Dd = some (.lst ws)) (s1 : Same H H') (hw : Hds K H' ws ys) (ly : ys.length ≤ i) (r : R (i + 1) (ys ++ [z])) (s : Same H' H4) (hy : Hd K H4 y z) :
    ∃ acc, H4 Dd = some (.lst acc) ∧ acc.length < sizeLine ∧ CompAtR K H Dd R (i + 1) (upd H4 Dd (.lst (acc ++ [y]))) := by
  have e4 := s _ _ e
  refine ⟨ws, e4, ?_, ws ++ [y], ys ++ [z], upd_same, Same.mut (s1.trans s) n, ((hw.same s).push hy).tup (TupK.lst e4), ?_, r⟩
  · rw [hw.length]
    exact Nat.lt_of_lt_of_le (show _ < 1000000 by omega) (by decide)
  · rw [List.length_append, List.length_singleton]
    omega
theorem comp_rangeR {lo : Int} {n : Nat} (hz : n ≤ 1000000) (r0 : R 0 [])
    (hs : ∀ i H' ys, i < n → Same H H' → R i ys → EltR K g tt te vs σ (.int (lo + (i : Int))) (fun z => R (i + 1) (ys ++ [z])) (R (i + 1) ys) H')
    (q : ∀ Dd H' ws ys, H Dd = none → Same H H' → H' Dd = some (.lst ws) → Hds K H' ws ys → ys.length ≤ n → R n ys → Q (.ref Dd) H') : CompN (Itr lo n) g tt te vs σ H Q := by
  intro Dd nn
  refine lc_range (lo := lo) (n := n) (CompAtR K H Dd R) (compR_start nn r0) (fun i H' hi p => ?_) (fun H' p => ?_)
  · obtain ⟨ws, ys, e, s1, hw, ly, r⟩ := p
    exact hs i H' ys hi s1 r _ _ (fun y H4 z hr s hy => compR_more nn (by omega) e s1 hw ly hr s hy) fun H3 hr s => ⟨ws, ys, s _ _ e, s1.trans s, hw.same s, by omega, hr⟩
  · obtain ⟨ws, ys, e, s1, hw, ly, r⟩ := p
    exact q Dd H' ws ys nn s1 e hw ly r
theorem comp_listR (hl : SqL K H a xs) (hz : xs.length ≤ 1000000) (r0 : R 0 [])
    (hs : ∀ (i : Nat) (x : V) (H' : Hp) (ys : List α), xs[i]? = some x → Same H H' → R i ys → EltR K g tt te vs σ x (fun z => R (i + 1) (ys ++ [z])) (R (i + 1) ys) H')
    (q : ∀ Dd H' ws ys, H Dd = none → Same H H' → H' Dd = some (.lst ws) → Hds K H' ws ys → ys.length ≤ xs.length → R xs.length ys → Q (.ref Dd) H') : CompN (Itl K a) g tt te vs σ H Q := by
  intro Dd nn
  refine lc_list (K := K) (a := a) (xs := xs) (CompAtR K H Dd R) (compR_start nn r0) (fun i H' _ ⟨_, _, _, s, _⟩ => s.seq hl) (fun i x H' hx p => ?_) (fun H' p => ?_)
  · obtain ⟨ws, ys, e, s1, hw, ly, r⟩ := p
    have hi : i < xs.length := (List.getElem?_eq_some_iff.mp hx).1
    exact hs i x H' ys hx s1 r _ _ (fun y H4 z hr s hy => compR_more nn (by omega) e s1 hw ly hr s hy) fun H3 hr s => ⟨ws, ys, s _ _ e, s1.trans s, hw.same s, by omega, hr⟩
  · obtain ⟨ws, ys, e, s1, hw, ly, r⟩ := p
    exact q Dd H' ws ys nn s1 e hw ly r
end
theorem tyx_lst (h : H a = some (.lst xs)) : TyX K H (.ref a) (.type "list") := .base (.lst h)
theorem tyx_tup (h : SqT K H a xs) : TyX K H (.ref a) (.type "tuple") := by
  rcases h with h | ⟨o, its, n, h1, h2, _⟩
  · rcases h with h | ⟨o, h⟩
    · exact .base (.tup h)
    · exact .fTuple h
  · exact .kTuple h1 h2
theorem tyx_meld {v : V} {x : Meld} (h : Hd K H v x) : TyX K H v (.type "tuple") := by
  cases x with
  | run c f s =>
    obtain ⟨a, rfl, ha⟩ := run_of h
    exact tyx_tup ha
  | grp n cs =>
    obtain ⟨a, b, rfl, ha, _⟩ := grp_of h
    exact tyx_tup ha
theorem tyx_tile {v : V} {x : Tile} (h : Hd K H v x) : TyX K H v (.type "tuple") := by
  obtain ⟨a, rfl, ha⟩ := tile_of h
  exact tyx_tup ha
theorem rd_isiL {Q : VK} (h : H a = some (.lst xs)) (q : Q (.bl true) H) : rIsi K [.ref a, .ty "list"] H Q := rd_isi (tyx_lst h) (kit_ty (r := true) (by decide +kernel)) q
theorem rd_isiT {v : V} {Q : VK} (h : TyX K H v (.type "tuple")) (q : Q (.bl true) H) : rIsi K [v, .ty "tuple"] H Q := rd_isi h (kit_ty (r := true) (by decide +kernel)) q
end
end MH
/-! T14: sorted(d), set(xs), sorted(set(xs)), d[k] over tiles. -/
namespace MH
open PySem L2
theorem sortable_data {X : Cx} {pins : List (Addr × Obj)} {σ : St} {H : Hp} {s : Shared} {T : String} {xs : List V} {its : List Value} {ds : List PyData} (I : Inv X pins σ H s) (rv : Vals xs its) (hds : DpAll X.K H xs ds) (lay : PyData.canLayAll0 ds = true) (pl : PyData.plainAll ds = true)
    (dep : PyData.depthAll ds ≤ 50) (fo : FirstOf T ds) (cmp : ∀ d ∈ ds, ∀ e ∈ ds, cmpO d e = true) (un : X.A.in1.in1.units + 50 < cLine) (h2 : 2 ≤ its.length) (hp : Heap) (a : Addr) (kk : ∀ b o, s.heap.get? b = some o → b ≠ a ∧ hp.get? b = some o) :
    SrtO.SortableO X.prog X.w X.A.in1.in1 { s with heap := hp } a its fun v u => dataO.blt (PySem.W.keyToks (SeqAt.readOf s.heap v)) (PySem.W.keyToks (SeqAt.readOf s.heap u)) := by
  obtain ⟨as, rd⟩ := Dp.readsAll I ds xs its hds rv
  have each : ∀ v ∈ its, SeqAt.readOf s.heap v ∈ ds ∧ ∃ as, Reads s.heap v (SeqAt.readOf s.heap v) as := fun v hv => by
    obtain ⟨d, bs, hd, rr⟩ := readsAll_mem rd hv
    rw [SeqAt.readOf_eq (lay_of_all lay hd) rr]
    exact ⟨hd, bs, rr⟩
  intro h' keep
  have old : ∀ v ∈ its, ∃ as, Reads h' v (SeqAt.readOf s.heap v) as := fun v hv => by
    obtain ⟨_, as, rr⟩ := each v hv
    exact ⟨as, PyProof.Rows.Reads.keeps (fun b o e => keep b o (kk b o e).1 (kk b o e).2) rr⟩
  have kat : ∀ ws : List Value, (∀ v ∈ ws, v ∈ its) → ∃ fs, PySem.W.KatTups h' ws fs ∧ fs.length = ws.length ∧ ∀ f ∈ fs, PySem.W.Looks (model X.prog X.w) h' (typeOf f) (.type T) := by
    intro ws
    induction ws with
    | nil => exact fun _ => ⟨[], PySem.W.KatTups.nil, rfl, fun f hf => nomatch hf⟩
    | cons v ws ih =>
      intro hw
      obtain ⟨fs, k1, k2, k3⟩ := ih fun u hu => hw u (List.mem_cons_of_mem _ hu)
      have hv := hw v List.mem_cons_self
      obtain ⟨x, rr, ed, fx⟩ := fo _ (each v hv).1
      obtain ⟨bs, rr'⟩ := old v hv
      rw [ed] at rr'
      cases rr' with
      | @tuple l o zs n _ as₁ h1 h2 h3 h4 =>
        obtain ⟨zs⟩ := zs
        change ReadsAll h' zs _ _ at h4
        cases h4 with
        | @cons z zr _ _ _ _ r1 r2 =>
          refine ⟨z :: fs, PySem.W.KatTups.cons h1 h2 h3 (by rfl) k1, by simp [k2], fun f hf => ?_⟩
          rcases List.mem_cons.mp hf with rfl | hf
          · cases x with
            | int i =>
              cases r1
              have e : T = "int" := fx
              subst e
              exact PySem.W.Looks.now
            | str i =>
              cases r1
              have e : T = "str" := fx
              subst e
              exact PySem.W.Looks.now
            | _ => exact fx.elim
          · exact k3 f hf
  obtain ⟨fs, k1, k2, k3⟩ := kat its fun _ h => h
  have nt : (Value.type T != Value.type "tuple") = true := by
    have hi : 0 < its.length := by omega
    have hm : its[0] ∈ its := List.getElem_mem hi
    obtain ⟨x, rr, ed, fx⟩ := fo _ (each _ hm).1
    cases x with
    | int i =>
      have e : T = "int" := fx
      subst e
      rfl
    | str i =>
      have e : T = "str" := fx
      subst e
      rfl
    | _ => exact fx.elim
  refine ⟨PyProof.Rows.tuples' true, fun Q' E' hq' => ?_, fun x y hx hy => ?_⟩
  · refine PySem.W.kat_kind k1 (by omega) k3 (by simp) ?_
    rw [nt]
    exact hq'
  · obtain ⟨x1, xr, ex, fx⟩ := fo _ (each _ hx).1
    obtain ⟨y1, yr, ey, fy⟩ := fo _ (each _ hy).1
    obtain ⟨as, ra⟩ := old _ hx
    obtain ⟨bs, rb⟩ := old _ hy
    have mx := (each _ hx).1
    have my := (each _ hy).1
    rw [ex] at ra mx
    rw [ey] at rb my
    refine key_lt (T := T) ra rb (plain_of_all pl mx) (plain_of_all pl my) (cmp _ mx _ my) ?_ fx fy ?_
    · have := depth_of_all dep mx
      show X.A.in1.in1.units + _ < cLine
      omega
    · refine ⟨rfl, ?_⟩
      show _ = PySem.W.dataLt (SeqAt.readOf s.heap x.1) (SeqAt.readOf s.heap y.1)
      rw [ex, ey]

def keyT (t : Tile) : List Key := [.inl t.1, .inl t.2]
theorem keyT_inj {t u : Tile} (h : keyT t = keyT u) : t = u := by
  have h1 : t.1 = u.1 := by
    injection h with a _
    exact Sum.inl.inj a
  have h2 : t.2 = u.2 := by
    injection h with _ b
    injection b with b _
    exact Sum.inl.inj b
  exact Prod.ext h1 h2
/-- a dict of tiles with their counts -/
def ofD (ks : List (Tile × Nat)) : List (List Key × V) := ks.map fun p => (keyT p.1, V.int (p.2 : Int))
theorem keys_tiles {K : PySem.W.Frag} {H : Hp} : ∀ {ks : List (Tile × Nat)} {bs : List Addr}, IsKeys H (ofD ks) bs → Hds K H (bs.map V.ref) (ks.map (·.1))
  | [], _, h => by
    cases h
    exact Hds.nil
  | p :: ks, _, h => by
    cases h with
    | cons h1 h2 => exact Hds.cons (tile_mk (i := p.1.1) (j := p.1.2) h1) (keys_tiles h2)
/-- sorted(d) -/
def rSortedDT (K : PySem.W.Frag) : List V → Hp → VK → Prop := fun xs H Q => ∃ (d : Addr) (ks : List (Tile × Nat)), xs = [.ref d] ∧ H d = some (.dT (ofD ks)) ∧
  ∀ r H' ws us, H r = none → Same H H' → H' r = some (.lst ws) → us.Perm (ks.map (·.1)) → SortedT us → Hds K H' ws us → Q (.ref r) H'
theorem cr_sortedDT {X : Cx} {K : PySem.W.Frag} {k : Nat} (hc : X.calm = true) (hr : Room k X.A) (hK : X.K = K := by rfl) : CallR X (.builtin "sorted") (rSortedDT K) := by
  subst hK
  intro pins s σ H vs us Q I r h
  obtain ⟨d, kt, rfl, hd, q⟩ := h
  obtain ⟨u, rfl, rx⟩ := r.one
  cases rx
  obtain ⟨z, hs, ks, pr, o, es, ep, ho, hx, hdt, he, hn⟩ := (show ObjOk X.prog X.w H s.heap d (.dT (ofD kt)) from (show Rd H d (.dT (ofD kt)) from .inl hd).ok I.hok)
  have l1 : es.size = ks.length := size_of_entries he
  have l2 : (ofD kt).length = ks.length := Paired.length pr
  have l3 : es.size ≤ sizeLine := by omega
  refine Calls.call_function_entry PyProof.Rows.kind_sorted PyProof.Rows.plain_sorted PyProof.Rows.entry_sorted (PyProof.Rows.args_sorted1 _) ?_
  unfold Builtin.«sorted»
  refine wpAny_bind (m := checkCount "sorted" 1 1 _) (wpAny_pure ?_)
  refine wpAny_bind (PySem.W.kdu_collect (A := X.A.in1) (kdl_raw hs hx hdt) (I.ok.hd hc) ho l3 fun h' tk acc' kp it => ?_)
  have ea : acc'.toList = ks.map fun x => Value.ref x.2.1 := by
    have hl : acc'.toList.length = ks.length := by rw [Array.length_toList, it.1]; exact l1
    apply List.ext_getElem?
    intro j
    rw [List.getElem?_map]
    cases hj : acc'.toList[j]? with
    | none =>
      have h1 := List.getElem?_eq_none_iff.mp hj
      rw [List.getElem?_eq_none (by omega)]
      all_goals rfl
    | some v =>
      obtain ⟨en, hen, hv⟩ := it.2 j v (by rw [← Array.getElem?_toList]; exact hj)
      have qe := entry_at he j
      rw [hen] at qe
      cases hb : ks[j]? with
      | none =>
        rw [hb] at qe
        exact nomatch (show some en = none from qe)
      | some b =>
        rw [hb] at qe
        have e2 : en = entryOfKey (tupleKind (mixKind X.prog X.w)) b := Option.some.inj qe
        rw [hv, e2]
        all_goals rfl
  have eb : acc'.toList = (ks.map fun x => x.2.1).map Value.ref := by rw [ea, List.map_map]; all_goals rfl
  have rv : Vals ((ks.map fun x => x.2.1).map V.ref) acc'.toList := by rw [eb]; exact vals_refs _
  have hk : Hds X.K H ((ks.map fun x => x.2.1).map V.ref) (kt.map (·.1)) := keys_tiles (isKeys_of pr)
  have I1 : Inv X pins σ H { s with heap := h', toks := tk } := I.kept kp
  have hz : acc'.toList.length ≤ sizeLine := by rw [Array.length_toList, it.1]; exact l3
  have isTup : ∀ d ∈ (kt.map (·.1)).map PySem.W.Datum.toD, ∃ xs, d = PyData.tuple xs := fun d hd => by
    obtain ⟨t, _, rfl⟩ := List.mem_map.mp hd
    exact ⟨_, rfl⟩
  obtain ⟨e1, e2⟩ := refs_back rv (dp_refs hk isTup)
  obtain ⟨as, rd⟩ := Dp.readsAll I1 _ _ acc'.toList hk rv
  have em : acc'.toList.map (SeqAt.readOf h') = (kt.map (·.1)).map PySem.W.Datum.toD := SeqAt.readsAll_map _ _ as (lay_tiles _) rd
  have dpe := dp_zip hk e1 em.symm
  have un : X.A.in1.in1.units + 50 < cLine := by
    have := hr.units
    show X.A.units + 1 + 1 + 50 < cLine
    omega
  refine wpAny_bind (wpAny_newList ?_ hz)
  have hoL : (h'.push (PyProof.Rows.seqObj "list" acc'.toList.toArray 0)).get? h'.objs.size = some (PyProof.Rows.seqObj "list" acc'.toList.toArray 0) := Heap.get?_push_size _ rfl
  have keep : ∀ b o, h'.get? b = some o → b ≠ h'.objs.size ∧ (h'.push (PyProof.Rows.seqObj "list" acc'.toList.toArray 0)).get? b = some o := fun b o e => ⟨Nat.ne_of_lt (Heap.lt_size e), Heap.get?_push_of_some _ e⟩
  show wpAny _ _ _ _ _ { s with heap := h'.push (PyProof.Rows.seqObj "list" acc'.toList.toArray 0), toks := tk }
  refine wpAny_bind (wpAny_holding (wpAny_call_entry PyProof.Rows.slot_list_sort ⟨_, hoL, rfl⟩ PyProof.Rows.entry_list_sort
    (SrtO.list_sort_ord (s := { s with heap := h'.push (PyProof.Rows.seqObj "list" acc'.toList.toArray 0), toks := tk }) (swo_key dataO fun v => PySem.W.keyToks (SeqAt.readOf h' v)) hoL hz (fun h2 => sortable_data (T := "int") I1 rv hk (lay_tiles _) (PySem.W.plainAll_map _) (Nat.le_trans (PySem.W.depthAll_map _) (by decide)) (first_tiles _) (fun d h1 e h2 => by
      obtain ⟨a, _, rfl⟩ := List.mem_map.mp h1
      obtain ⟨b, _, rfl⟩ := List.mem_map.mp h2
      exact cmpO_tile a b) un h2 _ _ keep) fun out hs hb => ⟨_, rfl, ?_⟩)
    (PyProof.Rows.args_list_sort _)))
  have mem : ∀ u ∈ out, u ∈ acc'.toList := fun u hu => hb.perm.mem_iff.mp hu
  have refs : ∀ u ∈ out, ∃ a, u = Value.ref a := fun u hu => e2 u (mem u hu)
  obtain ⟨n, hn2⟩ := PyProof.Rows.sortedHeap_at (vs := acc'.toList) (out := out.toArray) hoL
  have pd : DpAll X.K H (out.map backV) (out.map (SeqAt.readOf h')) := dp_of_map fun u hu => dpe u (mem u hu)
  obtain ⟨us, pu, eus⟩ := perm_map (f := PySem.W.Datum.toD) (l := kt.map (·.1)) (m := out.map (SeqAt.readOf h')) (by rw [← em]; exact hb.perm.map _)
  have len : (out.map backV).length ≤ sizeLine := by rw [List.length_map, hb.perm.length_eq]; exact hz
  have np : H h'.objs.size = none := I1.hok.fresh (Nat.le_refl _)
  refine wpAny_pure ⟨_, rfl, .ref h'.objs.size, upd H h'.objs.size (.lst (out.map backV)), I1.laid (t' := tk) (fun b u e => ?_) (Nat.le_refl _)
    (show ObjOk X.prog X.w _ _ _ (.lst (out.map backV)) from ⟨len, out, n, vals_back refs, hn2⟩), rfl, q _ _ (out.map backV) us np (Same.new np) upd_same pu ?_ ?_⟩
  · have hbz : b < h'.objs.size := Heap.lt_size e
    rw [PyProof.Rows.sortedHeap_old (Nat.ne_of_lt hbz) (by rw [PyProof.Rows.size_push']; exact Nat.lt_succ_of_lt hbz)]
    exact Heap.get?_push_of_some _ e
  · have h3 : (out.map (SeqAt.readOf h')).Pairwise fun a b => PySem.W.dataLt b a = false := List.pairwise_map.mpr hs
    rw [eus] at h3
    exact (List.pairwise_map.mp h3).imp fun h => by rw [dataLt_tile] at h; exact h
  · have h4 : DpAll X.K H (out.map backV) (us.map PySem.W.Datum.toD) := by rw [← eus]; exact pd
    exact dpAll_same (Same.new np) h4

/-! ### counts by tile -/
def getC (ks : List (Tile × Nat)) (t : Tile) : Option Nat := (ks.find? fun p => decide (p.1 = t)).map (·.2)
def putC (ks : List (Tile × Nat)) (t : Tile) (n : Nat) : List (Tile × Nat) := if (ks.any fun p => decide (p.1 = t)) = true then ks.map (fun p => if p.1 = t then (p.1, n) else p) else ks ++ [(t, n)]
theorem keyT_dec (t u : Tile) : decide (keyT t = keyT u) = decide (t = u) := decide_eq_decide.mpr ⟨keyT_inj, fun e => by rw [e]⟩
theorem valV_ofD (ks : List (Tile × Nat)) (t : Tile) : valV (ofD ks) (keyT t) = (getC ks t).map fun n => V.int (n : Int) := by
  unfold valV getC ofD
  induction ks with
  | nil => rfl
  | cons p ks ih =>
    simp only [List.map_cons, List.find?_cons, keyT_dec]
    cases decide (p.1 = t) with
    | true => rfl
    | false => exact ih
theorem putK_ofD (ks : List (Tile × Nat)) (t : Tile) (n : Nat) : putK (ofD ks) (keyT t) (.int (n : Int)) = ofD (putC ks t n) := by
  unfold putK putC
  have e : ((ofD ks).any fun kv => decide (kv.1 = keyT t)) = ks.any fun p => decide (p.1 = t) := by
    unfold ofD
    rw [List.any_map]
    congr 1
    funext p
    exact keyT_dec p.1 t
  rw [e]
  by_cases c : (ks.any fun p => decide (p.1 = t)) = true
  · rw [if_pos c, if_pos c]
    unfold ofD
    rw [List.map_map, List.map_map]
    refine List.map_congr_left fun p _ => ?_
    show (if keyT p.1 = keyT t then _ else _) = _
    by_cases z : p.1 = t
    · rw [if_pos (by rw [z])]
      simp [z]
    · rw [if_neg (fun h => z (keyT_inj h))]
      simp [z]
  · rw [if_neg c, if_neg c]
    unfold ofD
    rw [List.map_append]
    rfl
theorem getC_put {ks : List (Tile × Nat)} {t u : Tile} {n : Nat} : getC (putC ks t n) u = if u = t then some n else getC ks u := by
  unfold putC
  by_cases c : (ks.any fun p => decide (p.1 = t)) = true
  · rw [if_pos c]
    unfold getC
    induction ks with
    | nil => simp at c
    | cons p ks ih =>
      rw [List.map_cons, List.find?_cons, List.find?_cons]
      by_cases z : p.1 = t
      · rw [if_pos z]
        by_cases w : u = t
        · rw [if_pos w]
          simp [z, w]
        · rw [if_neg w]
          have h1 : decide (p.1 = u) = false := decide_eq_false (fun h => w (by rw [← h, z]))
          simp only [h1]
          by_cases c2 : (ks.any fun p => decide (p.1 = t)) = true
          · have := ih c2
            rw [if_neg w] at this
            exact this
          · have e : ks.map (fun p => if p.1 = t then (p.1, n) else p) = ks := by
              conv => rhs; rw [← List.map_id ks]
              refine List.map_congr_left fun q hq => ?_
              have : q.1 ≠ t := fun h => c2 (List.any_eq_true.mpr ⟨q, hq, decide_eq_true h⟩)
              simp [this]
            rw [e]
      · rw [if_neg z]
        have c2 : (ks.any fun p => decide (p.1 = t)) = true := by
          rw [List.any_cons, decide_eq_false z, Bool.false_or] at c
          exact c
        cases h : decide (p.1 = u) with
        | true =>
          have e := of_decide_eq_true h
          rw [if_neg (fun w => z (by rw [e, w]))]
        | false => exact ih c2
  · rw [if_neg c]
    unfold getC
    rw [List.find?_append]
    by_cases w : u = t
    · subst w
      have : (ks.find? fun p => decide (p.1 = u)) = none := List.find?_eq_none.mpr fun q hq h => c (List.any_eq_true.mpr ⟨q, hq, h⟩)
      rw [this, if_pos rfl]
      simp
    · rw [if_neg w]
      have : ([(t, n)].find? fun p => decide (p.1 = u)) = none := by simp [Ne.symm w]
      rw [this]
      simp
theorem putC_keys {ks : List (Tile × Nat)} {t : Tile} {n : Nat} : (putC ks t n).map (·.1) = if (ks.any fun p => decide (p.1 = t)) = true then ks.map (·.1) else ks.map (·.1) ++ [t] := by
  unfold putC
  by_cases c : (ks.any fun p => decide (p.1 = t)) = true
  · rw [if_pos c, if_pos c, List.map_map]
    refine List.map_congr_left fun p _ => ?_
    show (if p.1 = t then (p.1, n) else p).1 = p.1
    by_cases z : p.1 = t
    · rw [if_pos z]
    · rw [if_neg z]
  · rw [if_neg c, if_neg c, List.map_append]
    rfl
/-- the dict says how often each tile is among h -/
structure Cnt (ks : List (Tile × Nat)) (h : List Tile) : Prop where
  nd : (ks.map (·.1)).Nodup
  eq : ∀ t, (getC ks t).getD 0 = h.count t
theorem Cnt.nil : Cnt [] [] := ⟨List.nodup_nil, fun _ => rfl⟩
theorem put_nodup {ks : List (Tile × Nat)} {t : Tile} {n : Nat} (h : (ks.map (·.1)).Nodup) : ((putC ks t n).map (·.1)).Nodup := by
  rw [putC_keys]
  by_cases c : (ks.any fun p => decide (p.1 = t)) = true
  · rw [if_pos c]; exact h
  · rw [if_neg c]
    refine List.nodup_append.mpr ⟨h, by simp, fun a ha b hb e => ?_⟩
    rw [List.mem_singleton] at hb
    subst hb
    subst e
    obtain ⟨p, hp, e⟩ := List.mem_map.mp ha
    exact c (List.any_eq_true.mpr ⟨p, hp, decide_eq_true e⟩)
theorem Cnt.put {ks : List (Tile × Nat)} {h h' : List Tile} {t : Tile} {n : Nat} (c : Cnt ks h) (e1 : h'.count t = n) (e2 : ∀ u, u ≠ t → h'.count u = h.count u) : Cnt (putC ks t n) h' := ⟨put_nodup c.nd, fun u => by
  rw [getC_put]
  by_cases z : u = t
  · rw [if_pos z, z, e1]
    rfl
  · rw [if_neg z, e2 u z]
    exact c.eq u⟩
theorem Cnt.more {ks : List (Tile × Nat)} {h : List Tile} {t : Tile} (c : Cnt ks h) : Cnt (putC ks t (h.count t + 1)) (h ++ [t]) := c.put (by simp [List.count_append]) fun u hu => by
  rw [List.count_append]
  have : [t].count u = 0 := List.count_eq_zero.mpr (by simpa using hu)
  omega
theorem Cnt.less {ks : List (Tile × Nat)} {h : List Tile} {t : Tile} (c : Cnt ks h) : Cnt (putC ks t (h.count t - 1)) (h.erase t) := c.put (by rw [List.count_erase_self]) fun u hu => by rw [List.count_erase_of_ne hu]
theorem putC_len {ks : List (Tile × Nat)} {t : Tile} {n : Nat} : (putC ks t n).length ≤ ks.length + 1 := by
  unfold putC
  split
  · rw [List.length_map]; omega
  · rw [List.length_append]; simp
theorem putC_old {ks : List (Tile × Nat)} {t : Tile} {n k : Nat} (h : getC ks t = some k) : (putC ks t n).length = ks.length := by
  unfold putC
  have c : (ks.any fun p => decide (p.1 = t)) = true := by
    unfold getC at h
    cases e : ks.find? fun p => decide (p.1 = t) with
    | none => rw [e] at h; cases h
    | some p => exact List.any_eq_true.mpr ⟨p, List.mem_of_find?_eq_some e, List.find?_some (p := fun p : Tile × Nat => decide (p.1 = t)) e⟩
  rw [if_pos c, List.length_map]
theorem getC_pos {ks : List (Tile × Nat)} {h : List Tile} {t : Tile} (c : Cnt ks h) (p : t ∈ h) : getC ks t = some (h.count t) := by
  have := c.eq t
  have q : 0 < h.count t := List.count_pos_iff.mpr p
  cases e : getC ks t with
  | none => rw [e] at this; simp at this; omega
  | some n => rw [e] at this; simp at this; rw [this]
section
variable {K : PySem.W.Frag} {H : Hp} {Q : VK} {σ : St} {d : Addr} {ks : List (Tile × Nat)} {v : V} {t : Tile}
/-- d.get(tile, 0) -/
theorem rd_dget2 {td ty tx : TE} (q : td σ H fun x H1 => ∃ a, x = .ref a ∧ IsD H1 a ∧ ty σ H1 fun y H2 => tx σ H2 fun z H3 => ∃ o, DGet H3 a y o ∧ Q (o.getD z) H3) : tDGet2 td ty tx σ H Q := q
theorem rd_dget {td ty : TE} (q : td σ H fun x H1 => ty σ H1 fun y H2 => ∃ a v, x = .ref a ∧ DGet H2 a y (some v) ∧ Q v H2) : tDGet td ty σ H Q := q
theorem rd_dput {td ty tv : TE} {D : Ends} (q : tv σ H fun v H1 => td σ H1 fun x H2 => ty σ H2 fun y H3 => ∃ a H4, x = .ref a ∧ DPut H3 a y v H4 ∧ D.nx σ H4) : sDPut td ty tv D σ H := q
theorem isD_of (h : H d = some (.dT (ofD ks))) : IsD H d := .inr ⟨_, .inl h⟩
theorem rd_isD {P : Addr → Prop} (h : H d = some (.dT (ofD ks))) (q : P d) : ∃ a, V.ref d = .ref a ∧ IsD H a ∧ P a := ⟨d, rfl, isD_of h, q⟩
theorem rd_get0 {P : Option V → Prop} (h : H d = some (.dT (ofD ks))) (hv : Hd K H v t) (q : ∀ o : Option V, o.getD (.int 0) = .int (((getC ks t).getD 0 : Nat) : Int) → P o) : ∃ o, DGet H d v o ∧ P o := by
  obtain ⟨b, rfl, eb⟩ := tile_at hv
  refine ⟨_, DGet.t (k := keyT t) h eb, q _ ?_⟩
  rw [valV_ofD]
  cases e : getC ks t with
  | none => rfl
  | some n => rfl
theorem rd_getV {P : V → Prop} {n : Nat} (h : H d = some (.dT (ofD ks))) (hv : Hd K H v t) (e : getC ks t = some n) (q : P (.int (n : Int))) : ∃ a w, V.ref d = .ref a ∧ DGet H a v (some w) ∧ P w := by
  obtain ⟨b, rfl, eb⟩ := tile_at hv
  refine ⟨d, _, rfl, ?_, q⟩
  have := DGet.t (k := keyT t) h eb
  rw [valV_ofD, e] at this
  exact this
theorem rd_put {P : Hp → Prop} {n : Nat} (h : H d = some (.dT (ofD ks))) (hv : Hd K H v t) (hl : ks.length ≤ 1000000) (q : P (upd H d (.dT (ofD (putC ks t n))))) : ∃ a H4, V.ref d = .ref a ∧ DPut H a v (.int (n : Int)) H4 ∧ P H4 := by
  obtain ⟨b, rfl, eb⟩ := tile_at hv
  refine ⟨d, _, rfl, DPut.t (k := keyT t) h eb (by unfold ofD; rw [List.length_map]; exact Nat.lt_of_le_of_lt hl (by decide)), ?_⟩
  rw [putK_ofD]
  exact q
theorem rd_sortDT (h : H d = some (.dT (ofD ks))) (q : ∀ r H' ws us, H r = none → Same H H' → H' r = some (.lst ws) → us.Perm (ks.map (·.1)) → SortedT us → Hds K H' ws us → Q (.ref r) H') : rSortedDT K [.ref d] H Q := ⟨d, ks, rfl, h, q⟩
end
theorem rd_inT {K : PySem.W.Frag} {H : Hp} {Q : VK} {p : Addr} {vs : List V} {v : V} {as : List Tile} {a : Tile} (hl : SqL K H p vs) (h2 : Hds K H vs as) (h1 : Hd K H v a) (q : Q (.bl (decide (a ∈ as))) H) : rInA K v (.ref p) H Q := by
  refine .inl ⟨Tile, inferInstance, inferInstance, a, as, p, vs, by decide, rfl, .inl hl, h2, h1, ?_⟩
  refine (?_ : ∀ b : Bool, b = decide (a ∈ as) → Q (.bl b) H) _ (decide_eq_decide.mpr Iff.rfl)
  rintro b rfl
  exact q
theorem rd_notInT {K : PySem.W.Frag} {H : Hp} {Q : VK} {p : Addr} {vs : List V} {v : V} {as : List Tile} {a : Tile} (hl : SqL K H p vs) (h2 : Hds K H vs as) (h1 : Hd K H v a) (q : Q (.bl (!decide (a ∈ as))) H) : rNotInA K v (.ref p) H Q := by
  refine .inl ⟨Tile, inferInstance, inferInstance, a, as, p, vs, by decide, rfl, .inl hl, h2, h1, ?_⟩
  refine (?_ : ∀ b : Bool, b = decide (a ∈ as) → Q (.bl (!b)) H) _ (decide_eq_decide.mpr Iff.rfl)
  rintro b rfl
  exact q
/-! ### sets of tiles -/
/-- a set of the tiles ts stands at a -/
def SetAt (P : Program) (w : World) (H : Hp) (a : Addr) (ts : List Tile) : Prop := ∃ L : List (Addr × List Int), H a = some (SetTO P w a L) ∧ (∀ p ∈ L, ∃ t ∈ ts, p.2 = [t.1, t.2] ∧ H p.1 = some (.tup [.int t.1, .int t.2])) ∧ ∀ t ∈ ts, [t.1, t.2] ∈ L.map (·.2)
theorem tiles_addrs {K : PySem.W.Frag} {H : Hp} : ∀ {ts : List Tile} {vs : List V}, Hds K H vs ts → ∃ ks : List (Addr × List Int), vs = ks.map (fun p => V.ref p.1) ∧ ks.length = ts.length ∧ (∀ p ∈ ks, ∃ t ∈ ts, p.2 = [t.1, t.2] ∧ H p.1 = some (.tup [.int t.1, .int t.2])) ∧ ∀ t ∈ ts, ∃ p ∈ ks, p.2 = [t.1, t.2]
  | [], _, h => by
    cases h
    exact ⟨[], rfl, rfl, fun p hp => (by cases hp), fun t ht => (by cases ht)⟩
  | t :: ts, vs, h => by
    cases h with
    | cons h1 h2 =>
      obtain ⟨b, rfl, eb⟩ := tile_at h1
      obtain ⟨ks, e1, e2, e3, e4⟩ := tiles_addrs (ts := ts) h2
      refine ⟨(b, [t.1, t.2]) :: ks, by rw [e1]; rfl, by simp [e2], fun p hp => ?_, fun u hu => ?_⟩
      · rcases List.mem_cons.mp hp with rfl | hp
        · exact ⟨t, List.mem_cons_self, rfl, eb⟩
        · obtain ⟨u, hu, g⟩ := e3 p hp
          exact ⟨u, List.mem_cons_of_mem _ hu, g⟩
      · rcases List.mem_cons.mp hu with rfl | hu
        · exact ⟨_, List.mem_cons_self, rfl⟩
        · obtain ⟨p, hp, g⟩ := e4 u hu
          exact ⟨p, List.mem_cons_of_mem _ hp, g⟩
section
variable {K : PySem.W.Frag} {P : Program} {w : World} {H : Hp} {Q : VK} {l a : Addr} {vs : List V} {ts : List Tile}
theorem rd_setT (hl : SqL K H l vs) (hd : Hds K H vs ts) (hz : ts.length < 64) (q : ∀ a H', Same H H' → SetAt P w H' a ts → Q (.ref a) H') : rSetOfT K P w [.ref l] H Q := by
  obtain ⟨ks, rfl, e2, e3, e4⟩ := tiles_addrs hd
  refine ⟨l, ks, rfl, hl, fun p hp => ?_, by omega, fun a L na sub cov => ?_⟩
  · obtain ⟨t, _, e, g⟩ := e3 p hp
    rw [e]
    exact SqT.of g
  · refine q a _ (Same.new na) ⟨L, upd_same, fun p hp => ?_, fun t ht => ?_⟩
    · obtain ⟨t, ht, e, g⟩ := e3 p (sub p hp)
      exact ⟨t, ht, e, Same.new na _ _ g⟩
    · obtain ⟨p, hp, e⟩ := e4 t ht
      rw [← e]
      exact cov p hp
def Box (t : Tile) : Prop := (0 ≤ t.1 ∧ t.1 < 64) ∧ 0 ≤ t.2 ∧ t.2 < 64
instance (t : Tile) : Decidable (Box t) := by unfold Box; infer_instance
theorem rd_sortSetT (hs : SetAt P w H a ts) (hb : ∀ t ∈ ts, Box t) (q : ∀ r H' ws us, H r = none → Same H H' → H' r = some (.lst ws) → Hds K H' ws us → us.Pairwise (fun x y => tlt x y = true) → (∀ t, t ∈ us ↔ t ∈ ts) → us.length < 64 → Q (.ref r) H') : rSortedT K P w [.ref a] H Q := by
  obtain ⟨L, ha, hk, cov⟩ := hs
  refine ⟨a, L, 2, 64, rfl, ha, fun p hp => ?_, by decide, fun p hp => ?_, fun L' p pm nd lt pw np => ?_⟩
  · obtain ⟨t, _, e, g⟩ := hk p hp
    rw [e]
    exact SqT.of g
  · obtain ⟨t, ht, e, _⟩ := hk p hp
    rw [e]
    refine ⟨rfl, fun m hm => ?_⟩
    have := hb t ht
    rcases List.mem_cons.mp hm with rfl | hm
    · exact this.1
    · rw [List.mem_singleton.mp hm]
      exact this.2
  · have pick : ∀ q ∈ L', ∃ t ∈ ts, q.2 = [t.1, t.2] ∧ H q.1 = some (.tup [.int t.1, .int t.2]) := fun q hq => hk q (pm.mem_iff.mp hq)
    have mk : ∀ M : List (Addr × List Int), (∀ q ∈ M, ∃ t ∈ ts, q.2 = [t.1, t.2] ∧ H q.1 = some (.tup [.int t.1, .int t.2])) → ∃ us : List Tile, Hds K H (M.map fun q => V.ref q.1) us ∧ M.map (·.2) = us.map (fun t => [t.1, t.2]) ∧ ∀ t ∈ us, t ∈ ts := by
      intro M
      induction M with
      | nil => exact fun _ => ⟨[], Hds.nil, rfl, fun t ht => (by cases ht)⟩
      | cons q M ih =>
        intro h
        obtain ⟨us, h1, h2, h3⟩ := ih fun q hq => h q (List.mem_cons_of_mem _ hq)
        obtain ⟨t, ht, e, g⟩ := h q List.mem_cons_self
        refine ⟨t :: us, Hds.cons (tile_mk g) h1, by rw [List.map_cons, List.map_cons, h2, e], fun u hu => ?_⟩
        rcases List.mem_cons.mp hu with rfl | hu
        · exact ht
        · exact h3 u hu
    obtain ⟨us, h1, h2, h3⟩ := mk L' pick
    have lu : us.length = L'.length := by
      have := congrArg List.length h2
      rw [List.length_map, List.length_map] at this
      exact this.symm
    refine q p _ _ us np (Same.new np) upd_same (h1.same (Same.new np)) ?_ (fun t => ⟨h3 t, fun ht => ?_⟩) (by omega)
    · rw [h2] at nd
      have pw2 : (L'.map (·.2)).Pairwise (fun x y => TS.code 64 x ≤ TS.code 64 y) := List.pairwise_map.mpr pw
      rw [h2] at pw2
      have nd2 := List.pairwise_map.mp nd
      have pw3 := List.pairwise_map.mp pw2
      have both : us.Pairwise fun x y => [x.1, x.2] ≠ [y.1, y.2] ∧ TS.code 64 [x.1, x.2] ≤ TS.code 64 [y.1, y.2] := List.Pairwise.and nd2 pw3
      refine List.Pairwise.imp_of_mem (fun {x y} hx hy h => ?_) both
      have b1 := hb x (h3 x hx)
      have b2 := hb y (h3 y hy)
      exact tlt_iff.mpr (pair_lt h.2 h.1 b1.1 b1.2 b2.1 b2.2)
    · have := cov t ht
      rw [← (pm.map (·.2)).mem_iff, h2] at this
      obtain ⟨u, hu, e⟩ := List.mem_map.mp this
      have e1 : u.1 = t.1 := by injection e
      have e2 : u.2 = t.2 := by
        injection e with _ e
        injection e
      have : u = t := Prod.ext e1 e2
      rw [← this]
      exact hu
end
end MH
/-! T15: what a laying takes from a hand: plain facts. -/
namespace MH
open PySem L2
/-- what is left of h -/
def rst (h ts : List Tile) : List Tile := ts.foldl List.erase h
def sumT (h : List Tile) : Int := (h.map (·.1)).sum
/-- the sum of the numbers laid out, and how many tiles are wanting -/
def gain (h ts : List Tile) : Int := sumT h - sumT (rst h ts)
def miss (h ts : List Tile) : Int := (ts.length : Int) + (rst h ts).length - h.length
theorem sumT_perm {a b : List Tile} (p : a.Perm b) : sumT a = sumT b := by
  unfold sumT
  induction p with
  | nil => rfl
  | cons x _ ih => rw [List.map_cons, List.map_cons, List.sum_cons, List.sum_cons, ih]
  | swap x y l => simp only [List.map_cons, List.sum_cons]; omega
  | trans _ _ ih1 ih2 => exact ih1.trans ih2
theorem rst_nil (h : List Tile) : rst h [] = h := rfl
theorem rst_app (h ts us : List Tile) : rst h (ts ++ us) = rst (rst h ts) us := by unfold rst; rw [List.foldl_append]
theorem rst_snoc (h ts : List Tile) (t : Tile) : rst h (ts ++ [t]) = (rst h ts).erase t := by rw [rst_app]; rfl
theorem rst_count : ∀ (ts h : List Tile) (t : Tile), (rst h ts).count t = h.count t - ts.count t
  | [], h, t => by simp [rst]
  | u :: ts, h, t => by
    show (rst (h.erase u) ts).count t = _
    rw [rst_count ts (h.erase u) t]
    by_cases e : t = u
    · subst e
      rw [List.count_erase_self, List.count_cons_self]
      omega
    · rw [List.count_erase_of_ne e, List.count_cons_of_ne (Ne.symm e)]
theorem sum_erase {h : List Tile} {t : Tile} (m : t ∈ h) : sumT (h.erase t) = sumT h - t.1 := by
  rw [sumT_perm (List.perm_cons_erase m)]
  unfold sumT
  rw [List.map_cons, List.sum_cons]
  omega
theorem gain_yes {h ts : List Tile} {t : Tile} (m : t ∈ rst h ts) : gain h (ts ++ [t]) = gain h ts + t.1 := by
  unfold gain
  rw [rst_snoc, sum_erase m]
  omega
theorem gain_no {h ts : List Tile} {t : Tile} (m : t ∉ rst h ts) : gain h (ts ++ [t]) = gain h ts := by
  unfold gain
  rw [rst_snoc, List.erase_of_not_mem m]
theorem miss_yes {h ts : List Tile} {t : Tile} (m : t ∈ rst h ts) : miss h (ts ++ [t]) = miss h ts := by
  unfold miss
  have := List.length_erase_of_mem m
  have := List.length_pos_of_mem m
  rw [rst_snoc, List.length_append, List.length_singleton]
  omega
theorem miss_no {h ts : List Tile} {t : Tile} (m : t ∉ rst h ts) : miss h (ts ++ [t]) = miss h ts + 1 := by
  unfold miss
  rw [rst_snoc, List.erase_of_not_mem m, List.length_append, List.length_singleton]
  omega
theorem gain_nil (h : List Tile) : gain h [] = 0 := by unfold gain; rw [rst_nil]; omega
theorem miss_nil (h : List Tile) : miss h [] = 0 := by unfold miss; rw [rst_nil]; simp
theorem mem_iff_count {h : List Tile} {t : Tile} : t ∈ h ↔ 0 < h.count t := List.count_pos_iff.symm
def needOf (xs : List Meld) : List Tile := xs.flatMap tilesIn
theorem needOf_snoc (xs : List Meld) (x : Meld) : needOf (xs ++ [x]) = needOf xs ++ tilesIn x := by
  unfold needOf
  rw [List.flatMap_append]
  simp
structure IsLaying (m c : Int) (h : List Tile) (j : Int) (xs : List Meld) : Prop where
  melds : ∀ x ∈ xs, isMeld m c x = true
  sorted : SortedM xs
  few : miss h (needOf xs) ≤ j
instance (m c : Int) (h : List Tile) (j : Int) (xs : List Meld) : Decidable (IsLaying m c h j xs) :=
  decidable_of_iff ((∀ x ∈ xs, isMeld m c x = true) ∧ SortedM xs ∧ miss h (needOf xs) ≤ j) ⟨fun ⟨a, b, c⟩ => ⟨a, b, c⟩, fun ⟨a, b, c⟩ => ⟨a, b, c⟩⟩
/-! sums over the distinct tiles -/
theorem sum_add_one {us : List Tile} (w : Tile → Int) (x : Tile) (f : Tile → Nat) (nd : us.Nodup) (hx : x ∈ us) :
    (us.map fun t => ((f t + if t = x then 1 else 0 : Nat) : Int) * w t).sum = (us.map fun t => (f t : Int) * w t).sum + w x := by
  induction us with
  | nil => cases hx
  | cons u us ih =>
    rw [List.nodup_cons] at nd
    rw [List.map_cons, List.map_cons, List.sum_cons, List.sum_cons]
    by_cases e : u = x
    · subst e
      have : (us.map fun t => ((f t + if t = u then 1 else 0 : Nat) : Int) * w t) = us.map fun t => (f t : Int) * w t := List.map_congr_left fun t ht => by
        have : t ≠ u := fun e => nd.1 (e ▸ ht)
        simp [this]
      rw [this, if_pos rfl]
      have e2 : (((f u + 1 : Nat)) : Int) * w u = (f u : Int) * w u + w u := by
        rw [Int.natCast_add, Int.add_mul]
        simp
      omega
    · have hx2 : x ∈ us := by
        rcases List.mem_cons.mp hx with h | h
        · exact absurd h.symm e
        · exact h
      rw [ih nd.2 hx2, if_neg e, Nat.add_zero]
      omega
theorem sum_counts {us : List Tile} (w : Tile → Int) (nd : us.Nodup) : ∀ xs : List Tile, (∀ x ∈ xs, x ∈ us) → (us.map fun t => (xs.count t : Int) * w t).sum = (xs.map w).sum
  | [], _ => by
    have : (us.map fun t => ((([] : List Tile).count t : Nat) : Int) * w t) = us.map fun _ => 0 := List.map_congr_left fun t _ => by simp
    rw [this]
    have z : ∀ us : List Tile, (us.map fun _ => (0 : Int)).sum = 0 := fun us => by
      induction us with
      | nil => rfl
      | cons u us ih => rw [List.map_cons, List.sum_cons, ih]; rfl
    rw [z]
    rfl
  | x :: xs, h => by
    have ih := sum_counts w nd xs fun y hy => h y (List.mem_cons_of_mem _ hy)
    have e : (us.map fun t => (((x :: xs).count t : Nat) : Int) * w t) = us.map fun t => ((xs.count t + if t = x then 1 else 0 : Nat) : Int) * w t := List.map_congr_left fun t _ => by
      by_cases z : t = x
      · subst z
        rw [List.count_cons_self, if_pos rfl]
      · rw [List.count_cons_of_ne (Ne.symm z), if_neg z, Nat.add_zero]
    rw [e, sum_add_one w x (fun t => xs.count t) nd (h x List.mem_cons_self), ih, List.map_cons, List.sum_cons]
    omega
/-- the tiles us, each as often as f says -/
def spread (us : List Tile) (f : Tile → Nat) : List Tile := us.flatMap fun t => List.replicate (f t) t
theorem spread_count {us : List Tile} (f : Tile → Nat) (nd : us.Nodup) (t : Tile) : (spread us f).count t = if t ∈ us then f t else 0 := by
  unfold spread
  induction us with
  | nil => simp
  | cons u us ih =>
    rw [List.nodup_cons] at nd
    rw [List.flatMap_cons, List.count_append, ih nd.2, List.count_replicate]
    by_cases e : u = t
    · subst e
      rw [if_neg nd.1]
      simp
    · have : t ∈ u :: us ↔ t ∈ us := by
        rw [List.mem_cons]
        exact ⟨fun h => h.elim (fun h => absurd h.symm e) id, .inr⟩
      by_cases z : t ∈ us
      · rw [if_pos z, if_pos (this.mpr z)]
        simp [e]
      · rw [if_neg z, if_neg (fun h => z (this.mp h))]
        simp [e]
theorem spread_sorted {us : List Tile} (f : Tile → Nat) (so : us.Pairwise fun x y => tlt x y = true) : SortedT (spread us f) := by
  unfold spread SortedT
  induction us with
  | nil => exact List.Pairwise.nil
  | cons u us ih =>
    rw [List.pairwise_cons] at so
    rw [List.flatMap_cons]
    refine List.pairwise_append.mpr ⟨List.pairwise_replicate.mpr (.inr (tlt_irr u)), ih so.2, fun a ha b hb => ?_⟩
    rw [List.eq_of_mem_replicate ha]
    obtain ⟨t, ht, hb⟩ := List.mem_flatMap.mp hb
    rw [List.eq_of_mem_replicate hb]
    have := so.1 t ht
    rw [tlt_iff] at this
    rw [tlt_no]
    omega
theorem spread_perm {us h : List Tile} {f : Tile → Nat} (nd : us.Nodup) (cov : ∀ t ∈ h, t ∈ us) (e : ∀ t ∈ us, f t = h.count t) : (spread us f).Perm h := by
  rw [List.perm_iff_count]
  intro t
  rw [spread_count f nd t]
  by_cases z : t ∈ us
  · rw [if_pos z, e t z]
  · rw [if_neg z]
    exact (List.count_eq_zero.mpr fun m => z (cov t m)).symm
theorem sorted_nodup {us : List Tile} (so : us.Pairwise fun x y => tlt x y = true) : us.Nodup := so.imp fun {a b} h e => by
  subst e
  rw [tlt_irr] at h
  cases h
theorem sum_sub {us : List Tile} (f g : Tile → Int) : (us.map fun t => f t - g t).sum = (us.map f).sum - (us.map g).sum := by
  induction us with
  | nil => rfl
  | cons u us ih => simp only [List.map_cons, List.sum_cons, ih]; omega
/-- law's own reckoning: by the distinct tiles -/
theorem laid_total {us need h : List Tile} (nd : us.Nodup) (cov : ∀ t, t ∈ us ↔ t ∈ need ++ h) : (us.map fun t => ((min (need.count t) (h.count t) : Nat) : Int) * t.1).sum = gain h need := by
  have c1 : ∀ t ∈ h, t ∈ us := fun t m => (cov t).mpr (List.mem_append_right _ m)
  have c2 : ∀ t ∈ rst h need, t ∈ us := fun t m => c1 t (mem_iff_count.mpr (by have := mem_iff_count.mp m; rw [rst_count] at this; omega))
  have e : (us.map fun t => ((min (need.count t) (h.count t) : Nat) : Int) * t.1) = us.map fun t => ((h.count t : Nat) : Int) * t.1 - (((rst h need).count t : Nat) : Int) * t.1 := List.map_congr_left fun t _ => by
    rw [rst_count, ← Int.sub_mul]
    congr 1
    omega
  rw [e, sum_sub, sum_counts (fun t => t.1) nd h c1, sum_counts (fun t => t.1) nd _ c2]
  rfl
theorem laid_want {us need h : List Tile} (nd : us.Nodup) (cov : ∀ t, t ∈ us ↔ t ∈ need ++ h) : (us.map fun t => ((need.count t - min (need.count t) (h.count t) : Nat) : Int)).sum = miss h need := by
  have c0 : ∀ t ∈ need, t ∈ us := fun t m => (cov t).mpr (List.mem_append_left _ m)
  have c1 : ∀ t ∈ h, t ∈ us := fun t m => (cov t).mpr (List.mem_append_right _ m)
  have c2 : ∀ t ∈ rst h need, t ∈ us := fun t m => c1 t (mem_iff_count.mpr (by have := mem_iff_count.mp m; rw [rst_count] at this; omega))
  have e : (us.map fun t => ((need.count t - min (need.count t) (h.count t) : Nat) : Int)) = us.map fun t => ((need.count t : Nat) : Int) * 1 - (((h.count t : Nat) : Int) * 1 - (((rst h need).count t : Nat) : Int) * 1) := List.map_congr_left fun t _ => by
    rw [rst_count]
    omega
  have len : ∀ xs : List Tile, (xs.map fun _ => (1 : Int)).sum = (xs.length : Int) := fun xs => by
    induction xs with
    | nil => rfl
    | cons x xs ih => rw [List.map_cons, List.sum_cons, ih, List.length_cons]; omega
  rw [e, sum_sub, sum_counts (fun _ => 1) nd need c0, sum_sub, sum_counts (fun _ => 1) nd h c1, sum_counts (fun _ => 1) nd _ c2, len, len, len]
  unfold miss
  omega
theorem strict_of {us : List Tile} (so : SortedT us) (nd : us.Nodup) : us.Pairwise fun x y => tlt x y = true := by
  have both : us.Pairwise fun x y => tlt y x = false ∧ x ≠ y := List.Pairwise.and so nd
  refine both.imp fun {x y} h => ?_
  cases e : tlt x y with
  | true => rfl
  | false => exact absurd (tlt_anti h.1 e) h.2
theorem getC_mem {ks : List (Tile × Nat)} {t : Tile} (h : t ∈ ks.map (·.1)) : ∃ n, getC ks t = some n := by
  unfold getC
  cases e : ks.find? fun p => decide (p.1 = t) with
  | none =>
    obtain ⟨p, hp, e2⟩ := List.mem_map.mp h
    have := List.find?_eq_none.mp e p hp
    exact absurd (decide_eq_true e2) this
  | some p => exact ⟨p.2, rfl⟩
theorem mem_getC {ks : List (Tile × Nat)} {t : Tile} (h : (getC ks t).getD 0 ≠ 0) : t ∈ ks.map (·.1) := by
  unfold getC at h
  cases e : ks.find? fun p => decide (p.1 = t) with
  | none => rw [e] at h; exact absurd rfl h
  | some p =>
    have h2 := List.find?_some (p := fun p : Tile × Nat => decide (p.1 = t)) e
    exact List.mem_map.mpr ⟨p, List.mem_of_find?_eq_some e, of_decide_eq_true h2⟩
theorem hds_rep {K : PySem.W.Frag} {H : Hp} {α : Type} [DecidableEq α] [PySem.W.Datum α] {v : V} {x : α} (h : Hd K H v x) : ∀ n : Nat, Hds K H (List.replicate n [v]).flatten (List.replicate n x)
  | 0 => Hds.nil
  | n + 1 => Hds.cons h (hds_rep h n)
theorem spread_snoc (us : List Tile) (t : Tile) (f : Tile → Nat) : spread (us ++ [t]) f = spread us f ++ List.replicate (f t) t := by
  unfold spread
  rw [List.flatMap_append]
  simp
theorem rst_len (ts : List Tile) : ∀ h : List Tile, (rst h ts).length ≤ h.length := by
  induction ts with
  | nil => exact fun h => Nat.le_refl _
  | cons t ts ih => exact fun h => Nat.le_trans (ih (h.erase t)) (List.length_erase_le ..)
theorem spread_take_len {us : List Tile} {f : Tile → Nat} {n : Nat} (h : (spread us f).length ≤ n) (i : Nat) : (spread (us.take i) f).length ≤ n := by
  have : spread us f = spread (us.take i) f ++ spread (us.drop i) f := by
    unfold spread
    rw [← List.flatMap_append, List.take_append_drop]
  rw [this, List.length_append] at h
  omega
end MH
/-! T16: layings: bounds; a hand and a laying in one list. -/
namespace MH
open PySem L2
theorem take_succ' {α : Type} {xs : List α} {i : Nat} {x : α} (h : xs[i]? = some x) : xs.take (i + 1) = xs.take i ++ [x] := by rw [List.take_add_one, h]; rfl
theorem need_take_len (xs : List Meld) (i : Nat) : (needOf (xs.take i)).length ≤ (needOf xs).length := by
  have : needOf xs = needOf (xs.take i) ++ needOf (xs.drop i) := by
    unfold needOf
    rw [← List.flatMap_append, List.take_append_drop]
  rw [this, List.length_append]
  omega
theorem meldsOf_len {m c : Int} (hm : m ≤ 13) (hc : c ≤ 4) : (meldsOf m c).length ≤ 1000 := by
  unfold meldsOf
  rw [List.length_append]
  have b0 := flatMap_bound (fun n => grpsAt c n) (n := 5) (fun i => grpsAt_len c i) m.toNat
  have b2 := flatMap_bound (fun k => runsCol m k) (n := 13 * 13) (fun i => Nat.le_trans (flatMap_bound (fun j => runsAt m i j) (n := 13) (fun j => runsAt_len hm i j) _) (Nat.mul_le_mul_left _ (by omega))) c.toNat
  simp only [groupsOf, runsOf]
  omega
theorem tilesIn_len {m c : Int} (hm : m ≤ 13) {x : Meld} (h : isMeld m c x = true) : (tilesIn x).length ≤ 13 := by
  have := meld_small hm h
  cases x with
  | run k f z =>
    simp only at this
    simp only [tilesIn, List.length_map, List.length_range]
    omega
  | grp n cs =>
    simp only at this
    simp only [tilesIn, List.length_map]
    omega
theorem has1_iff {m c n k : Int} : has1 m c n k = true ↔ InHouse m c (n, k) := by
  simp only [has1, Bool.and_eq_true, decide_eq_true_eq, InHouse]
  constructor
  · rintro ⟨⟨a, b⟩, d, e⟩
    exact ⟨a, b, d, e⟩
  · rintro ⟨a, b, d, e⟩
    exact ⟨⟨a, b⟩, d, e⟩
theorem tilesIn_house {m c : Int} {x : Meld} (h : isMeld m c x = true) : ∀ t ∈ tilesIn x, InHouse m c t := fun t ht => by
  cases x with
  | run k f z =>
    simp only [isMeld, Bool.and_eq_true, decide_eq_true_eq] at h
    have a := has1_iff.mp h.2.1
    have b := has1_iff.mp h.2.2
    obtain ⟨i, hi, rfl⟩ := List.mem_map.mp ht
    have hi := List.mem_range.mp hi
    obtain ⟨a1, a2, a3, a4⟩ := a
    obtain ⟨b1, b2, b3, b4⟩ := b
    simp only at a1 a2 a3 a4 b1 b2 b3 b4
    exact ⟨by show 1 ≤ f + (i : Int); omega, by show f + (i : Int) ≤ m; omega, a3, a4⟩
  | grp n cs =>
    simp only [isMeld, Bool.and_eq_true, decide_eq_true_eq] at h
    obtain ⟨k, hk, rfl⟩ := List.mem_map.mp ht
    exact has1_iff.mp (List.all_eq_true.mp h.1.2 k hk)
theorem box_of {m c : Int} (hm : m ≤ 13) (hc : c ≤ 4) {t : Tile} (h : InHouse m c t) : Box t := by
  obtain ⟨a, b, d, e⟩ := h
  exact ⟨⟨by omega, by omega⟩, by omega, by omega⟩
theorem small_meld {m c : Int} (hm : m ≤ 13) {x : Meld} (h : isMeld m c x = true) : SmallM x := by
  have := meld_small hm h
  cases x with
  | run k f z =>
    simp only [isMeld, Bool.and_eq_true, decide_eq_true_eq] at h
    simp only at this
    exact ⟨by omega, by omega⟩
  | grp n cs =>
    simp only at this
    show cs.length ≤ 1000
    omega
theorem needOf_perm {xs ys : List Meld} (p : xs.Perm ys) : (needOf xs).Perm (needOf ys) := by
  unfold needOf
  induction p with
  | nil => exact .refl _
  | cons x _ ih => rw [List.flatMap_cons, List.flatMap_cons]; exact ih.append_left _
  | swap x y l =>
    rw [List.flatMap_cons, List.flatMap_cons, List.flatMap_cons, List.flatMap_cons, ← List.append_assoc, ← List.append_assoc]
    exact List.perm_append_comm.append_right _
  | trans _ _ a b => exact a.trans b
theorem mem_needOf {xs : List Meld} {t : Tile} : t ∈ needOf xs ↔ ∃ x ∈ xs, t ∈ tilesIn x := List.mem_flatMap
theorem rst_perm {h ts us : List Tile} (p : ts.Perm us) : (rst h ts).Perm (rst h us) := by
  rw [List.perm_iff_count]
  intro t
  rw [rst_count, rst_count, p.count_eq]
theorem miss_perm {h ts us : List Tile} (p : ts.Perm us) : miss h ts = miss h us := by
  unfold miss
  rw [p.length_eq, (rst_perm p).length_eq]
theorem gain_perm {h ts us : List Tile} (p : ts.Perm us) : gain h ts = gain h us := by
  unfold gain
  rw [sumT_perm (rst_perm p)]
theorem need_le {h ts : List Tile} {j : Int} (f : miss h ts ≤ j) : (ts.length : Int) ≤ h.length + j := by
  unfold miss at f
  omega
/-- what can be reckoned with -/
structure LayOk (ts : List Tile) (xs : List Meld) : Prop where
  small : ∀ x ∈ xs, SmallM x
  few : (needOf xs).length + ts.length < 64
  box : ∀ t ∈ needOf xs ++ ts, Box t
theorem layOk_of {m c j : Int} {ts : List Tile} {xs ys : List Meld} (hm : m ≤ 13) (hc : c ≤ 4) (hj : j ≤ 2) (lt : ts.length ≤ 12) (g : ∀ t ∈ ts, InHouse m c t) (l : ∀ x ∈ xs, isMeld m c x = true) (f : miss ts (needOf xs) ≤ j) {x : Meld} (s : SmallM x) (l20 : (tilesIn x).length ≤ 20) (bx : ∀ t ∈ tilesIn x, Box t) (p : ys.Perm (xs ++ [x])) : LayOk ts ys := by
  have pn := needOf_perm p
  rw [needOf_snoc] at pn
  have := need_le f
  refine ⟨fun y hy => ?_, ?_, fun t ht => ?_⟩
  · rcases List.mem_append.mp (p.mem_iff.mp hy) with h | h
    · exact small_meld hm (l y h)
    · rw [List.mem_singleton.mp h]
      exact s
  · rw [pn.length_eq, List.length_append]
    omega
  · rcases List.mem_append.mp ht with h | h
    · rcases List.mem_append.mp (pn.mem_iff.mp h) with h | h
      · obtain ⟨y, hy, h⟩ := mem_needOf.mp h
        exact box_of hm hc (tilesIn_house (l y hy) t h)
      · exact bx t h
    · exact box_of hm hc (g t h)
theorem layOk_perm {ts : List Tile} {xs ys : List Meld} (p : ys.Perm xs) (h : LayOk ts xs) : LayOk ts ys := ⟨fun y hy => h.small y (p.mem_iff.mp hy), by rw [(needOf_perm p).length_eq]; exact h.few, fun t ht => h.box t (by
  rcases List.mem_append.mp ht with z | z
  · exact List.mem_append_left _ ((needOf_perm p).mem_iff.mp z)
  · exact List.mem_append_right _ z)⟩
theorem layOk_plain {m c j : Int} {ts : List Tile} {xs : List Meld} (hm : m ≤ 13) (hc : c ≤ 4) (hj : j ≤ 2) (lt : ts.length ≤ 12) (g : ∀ t ∈ ts, InHouse m c t) (l : ∀ x ∈ xs, isMeld m c x = true) (f : miss ts (needOf xs) ≤ j) : LayOk ts xs := by
  have := need_le f
  refine ⟨fun y hy => small_meld hm (l y hy), by omega, fun t ht => ?_⟩
  rcases List.mem_append.mp ht with h | h
  · obtain ⟨y, hy, h⟩ := mem_needOf.mp h
    exact box_of hm hc (tilesIn_house (l y hy) t h)
  · exact box_of hm hc (g t h)
/-- a hand and a laying, in one list -/
structure PL where
  ts : List Tile
  xs : List Meld
deriving DecidableEq
instance : PySem.W.Datum PL where
  toD p := .list [PySem.W.Datum.toD p.ts, PySem.W.Datum.toD p.xs]
  plain p := by simp only [PyData.plain, PyData.plainAll, PySem.W.Datum.plain, Bool.and_self]
  eqv p q := by
    simp only [PyData.eqv, PyData.eqvAll]
    rw [PySem.W.Datum.eqv, PySem.W.Datum.eqv, Bool.and_true, ← Bool.decide_and]
    exact decide_eq_decide.mpr ⟨fun e => by cases p; cases q; simp only at e; rw [e.1, e.2], fun e => by rw [e]; exact ⟨rfl, rfl⟩⟩
  depth := 4
  depth_le p := by
    simp only [PyData.depth, PyData.depthAll]
    have a := PySem.W.Datum.depth_le p.ts
    have b := PySem.W.Datum.depth_le p.xs
    have a2 : PySem.W.Datum.depth (List Tile) = 2 := rfl
    have b2 : PySem.W.Datum.depth (List Meld) = 3 := rfl
    omega
theorem pl_mk {K : PySem.W.Frag} {H : Hp} {a b l : Addr} {us ws : List V} {ts : List Tile} {xs : List Meld} (h : H l = some (.lst [.ref a, .ref b])) (ha : H a = some (.lst us)) (hb : H b = some (.lst ws)) (h1 : Hds K H us ts) (h2 : Hds K H ws xs) : Hd K H (.ref l) (PL.mk ts xs) :=
  Dp.lst h (DpAll.cons (Dp.lst ha h1) (DpAll.cons (Dp.lst hb h2) DpAll.nil))
end MH
/-! T17: dict(d) of tiles; xs.remove(tile). -/
namespace MH
open PySem L2
/-! ### tiles of a house have unlike hashes -/
def hashT (t : Tile) : Int := reduceHash (Builtin.Tuple.tupleHashOf [hashInt t.1, hashInt t.2])
theorem hashT_eq {P : Program} {w : World} (t : Tile) : (tupleKind (mixKind P w)).hash (keyT t) = hashT t := rfl
def tiles52 : List Tile := (List.range 13).flatMap fun (n : Nat) => (List.range 4).map fun (k : Nat) => (1 + (n : Int), (k : Int))
theorem hash52 : (tiles52.map hashT).Nodup := by decide +kernel
theorem mem52 {t : Tile} (h : InHouse 13 4 t) : t ∈ tiles52 := by
  obtain ⟨a, b, c, d⟩ := h
  refine List.mem_flatMap.mpr ⟨(t.1 - 1).toNat, List.mem_range.mpr (by omega), List.mem_map.mpr ⟨t.2.toNat, List.mem_range.mpr (by omega), ?_⟩⟩
  exact Prod.ext (by show 1 + (((t.1 - 1).toNat : Nat) : Int) = t.1; omega) (by show ((t.2.toNat : Nat) : Int) = t.2; omega)
theorem nodup_inj {α β : Type} {f : α → β} : ∀ {l : List α}, (l.map f).Nodup → ∀ {a b : α}, a ∈ l → b ∈ l → f a = f b → a = b
  | [], _, _, _, h, _, _ => by cases h
  | x :: l, nd, a, b, ha, hb, e => by
    rw [List.map_cons, List.nodup_cons] at nd
    rcases List.mem_cons.mp ha with ea | ha
    · rcases List.mem_cons.mp hb with eb | hb
      · rw [ea, eb]
      · rw [ea] at e
        exact absurd (List.mem_map.mpr ⟨b, hb, e.symm⟩) nd.1
    · rcases List.mem_cons.mp hb with eb | hb
      · rw [eb] at e
        exact absurd (List.mem_map.mpr ⟨a, ha, e⟩) nd.1
      · exact nodup_inj nd.2 ha hb e
theorem hash_nodup {ts : List Tile} (nd : ts.Nodup) (h : ∀ t ∈ ts, InHouse 13 4 t) : (ts.map hashT).Nodup := by
  induction ts with
  | nil => exact List.nodup_nil
  | cons t ts ih =>
    rw [List.nodup_cons] at nd
    rw [List.map_cons, List.nodup_cons]
    refine ⟨fun m => ?_, ih nd.2 fun u hu => h u (List.mem_cons_of_mem _ hu)⟩
    obtain ⟨u, hu, e⟩ := List.mem_map.mp m
    have := nodup_inj hash52 (mem52 (h u (List.mem_cons_of_mem _ hu))) (mem52 (h t List.mem_cons_self)) e
    subst this
    exact nd.1 hu
/-! ### dict(d) -/
def rDictT : List V → Hp → VK → Prop := fun xs H Q => ∃ (d : Addr) (ks : List (Tile × Nat)), xs = [.ref d] ∧ H d = some (.dT (ofD ks)) ∧ (ks.map (·.1)).Nodup ∧ (∀ t ∈ ks.map (·.1), InHouse 13 4 t) ∧ ∀ r H', H r = none → Same H H' → H' r = some (.dT (ofD ks)) → Q (.ref r) H'
theorem paired_keys {H : Hp} : ∀ {ks : List (Tile × Nat)} {xs : List (List Key × Addr × Value)}, Paired (fun (p : List Key × V) (q : List Key × Addr × Value) => p.1 = q.1 ∧ H q.2.1 = some (.tup (p.1.map kV)) ∧ RelV p.2 q.2.2) (ofD ks) xs → xs.map (·.1) = ks.map fun p => keyT p.1
  | [], _, h => by
    cases h
    rfl
  | p :: ks, _, h => by
    cases h with
    | cons h1 h2 => rw [List.map_cons, List.map_cons, paired_keys h2, ← h1.1]
theorem paired_mono {H H' : Hp} (s : Same H H') {kvs : List (List Key × V)} {xs : List (List Key × Addr × Value)} (h : Paired (fun (p : List Key × V) (q : List Key × Addr × Value) => p.1 = q.1 ∧ H q.2.1 = some (.tup (p.1.map kV)) ∧ RelV p.2 q.2.2) kvs xs) :
    Paired (fun (p : List Key × V) (q : List Key × Addr × Value) => p.1 = q.1 ∧ H' q.2.1 = some (.tup (p.1.map kV)) ∧ RelV p.2 q.2.2) kvs xs := by
  induction h with
  | nil => exact .nil
  | cons h t ih => exact .cons ⟨h.1, s _ _ h.2.1, h.2.2⟩ ih
theorem call_dictT {X : Cx} {k : Nat} (hr : Room k X.A) : CallR X (.type "dict") rDictT := by
  intro pins s σ H vs us Q I r h
  obtain ⟨d, ks, rfl, hd, nd, hin, q⟩ := h
  obtain ⟨u, rfl, rx⟩ := r.one
  cases rx
  obtain ⟨z, lo, xs, pr, dd⟩ := dt_rd I.hok (.inl hd)
  have l2 : (ofD ks).length = xs.length := Paired.length pr
  have big : sysModules < s.heap.objs.size := I.big
  have hnew : (s.heap.push { cls := .type "dict", data := .dict #[] }).DictOfH (tupleKind (mixKind X.prog X.w)) s.heap.objs.size [] := Heap.DictOfH.new s.heap
  have hup : ∀ b o, s.heap.get? b = some o → (s.heap.push { cls := .type "dict", data := .dict #[] }).get? b = some o := fun b o e => Heap.get?_push_of_some _ e
  have isx : ∀ x ∈ xs, (tupleKind (mixKind X.prog X.w)).is s.heap x.1 x.2.1 := by
    obtain ⟨_, _, _, _, _, _, _, hi, _⟩ := dd
    exact hi
  have ho : (s.heap.push { cls := .type "dict", data := .dict #[] }).DictOfH (tupleKind (mixKind X.prog X.w)) d xs := by
    obtain ⟨o, es, ep, g1, g2, g3, g4, g5, g6⟩ := dd
    refine ⟨o, es, ep, hup _ _ g1, g2, g3, g4, fun x hx => ?_, g6⟩
    obtain ⟨o2, its, n, i1, i2, i3, i4⟩ := g5 x hx
    exact ⟨o2, its, n, hup _ _ i1, i2, i3, i4⟩
  have hdo : s.heap.objs.size ≠ d := fun e => by
    obtain ⟨o, es, ep, g1, _⟩ := dd
    exact absurd (Heap.lt_size g1) (by rw [e]; exact Nat.lt_irrefl _)
  have ek : xs.map (·.1) = ks.map fun p => keyT p.1 := paired_keys pr
  have hap : (xs.map fun x => (tupleKind (mixKind X.prog X.w)).hash x.1).Nodup := by
    have e1 : (xs.map fun x => (tupleKind (mixKind X.prog X.w)).hash x.1) = (xs.map (·.1)).map fun k => (tupleKind (mixKind X.prog X.w)).hash k := by rw [List.map_map]; rfl
    rw [e1, ek, List.map_map]
    have e2 : (ks.map ((fun k => (tupleKind (mixKind X.prog X.w)).hash k) ∘ fun p => keyT p.1)) = (ks.map (·.1)).map hashT := by rw [List.map_map]; rfl
    rw [e2]
    exact hash_nodup nd hin
  have hty : ∀ x ∈ xs, ({ s with heap := s.heap.push { cls := .type "dict", data := .dict #[] } } : Shared).TypeIs (.ref x.2.1) "tuple" := fun x hx => by
    obtain ⟨o2, its, n, i1, i2, i3, i4⟩ := isx x hx
    exact ⟨o2, hup _ _ i1, i2⟩
  have nk : (xs.map (·.1)).Nodup := by
    obtain ⟨_, _, _, _, _, _, _, _, hi⟩ := dd
    exact hi
  have hsz : ([] : List (List Key × Addr × Value)).length + xs.length ≤ sizeLine := by
    rw [List.length_nil]
    omega
  refine callType_codes (Q₁ := fun obj s₁ => obj = .ref s.heap.objs.size ∧ s₁ = { s with heap := s.heap.push { cls := .type "dict", data := .dict #[] } }) PySem.F.kt_called_dict (PySem.F.kt_typeCall_dict_1 _) PySem.F.entry_dict_init (kt_code_dict_new _ ⟨rfl, rfl⟩) ?_
  rintro obj s₁ ⟨rfl, rfl⟩
  refine ⟨hnew.typeIs, PySem.F.args_dict_init_2 _ _, ?_⟩
  unfold Builtin.«dict.__init__»
  refine wpAny_bind ?_
  unfold Builtin.Dict.selfAndRest
  refine wpAny_bind (wpAny_notOrdered_dict hnew.typeIs ?_)
  show wpAny _ _ (pure (s.heap.objs.size, [Value.ref d])) _ _ _
  refine wpAny_pure ?_
  refine updateFrom_dictH (s := { s with heap := s.heap.push { cls := .type "dict", data := .dict #[] } }) .none (show X.A.units + 1 + 1 < cLine by have := hr.units; omega) hdo lo hnew ho (.inr ⟨hty, hap⟩) hsz fun h' hd' ho' sb => ?_
  rw [storedAllH_nil_of_nodup xs nk] at hd'
  have np : H s.heap.objs.size = none := I.hok.fresh (Nat.le_refl _)
  have hm : (s.heap.objs.size == sysModules) = false := beq_eq_false_iff_ne.mpr (Nat.ne_of_gt I.big)
  obtain ⟨o', es', ep', g1, g2, g3, g4, g5, g6⟩ := hd'
  exact ⟨rfl, .ref s.heap.objs.size, upd H s.heap.objs.size (.dT (ofD ks)), I.laid (t' := s.toks) (fun b u e => (sb.2 b (Nat.ne_of_lt (Heap.lt_size e))).trans (Heap.get?_push_of_some _ e)) (Nat.le_refl _)
    (show ObjOk X.prog X.w _ _ _ (.dT (ofD ks)) from ⟨z, hm, xs, paired_mono (Same.new np) pr, o', es', ep', g1, g2, g3, g4, g6⟩), rfl, q _ _ np (Same.new np) upd_same⟩
theorem rd_dictT {H : Hp} {Q : VK} {d : Addr} {ks : List (Tile × Nat)} (h : H d = some (.dT (ofD ks))) (nd : (ks.map (·.1)).Nodup) (hin : ∀ t ∈ ks.map (·.1), InHouse 13 4 t) (q : ∀ r H', H r = none → Same H H' → H' r = some (.dT (ofD ks)) → Q (.ref r) H') : rDictT [.ref d] H Q := ⟨d, ks, rfl, h, nd, hin, q⟩
/-! ### xs.remove(tile) -/
def rRemoveA (K : PySem.W.Frag) : V → List V → Hp → VK → Prop := fun x xs H Q => ∃ (α : Type) (_ : DecidableEq α) (_ : PySem.W.Datum α) (p : Addr) (y : V) (vs : List V) (as : List α) (a : α) (j : Nat), PySem.W.Datum.depth α ≤ 60 ∧ x = .ref p ∧ xs = [y] ∧ H p = some (.lst vs) ∧ Hds K H vs as ∧ Hd K H y a ∧ as[j]? = some a ∧ (∀ m, m < j → as[m]? ≠ some a) ∧
  Q .non (upd H p (.lst (vs.eraseIdx j)))
theorem hds_erase {K : PySem.W.Frag} {H : Hp} {α : Type} [DecidableEq α] [PySem.W.Datum α] : ∀ {vs : List V} {xs : List α} (j : Nat), Hds K H vs xs → Hds K H (vs.eraseIdx j) (xs.eraseIdx j)
  | _, [], j, h => by
    cases h
    simp
    exact Hds.nil
  | _, x :: xs, 0, h => by
    cases h with
    | cons h1 h2 => exact h2
  | _, x :: xs, j + 1, h => by
    cases h with
    | cons h1 h2 => exact Hds.cons h1 (hds_erase j h2)
theorem vals_erase : ∀ {vs : List V} {us : List Value} (j : Nat), Vals vs us → Vals (vs.eraseIdx j) (us.eraseIdx j)
  | _, _, j, .nil => by simp; exact .nil
  | _, _, 0, .cons h t => t
  | _, _, j + 1, .cons h t => .cons h (vals_erase j t)
theorem mt_removeA {X : Cx} {K : PySem.W.Frag} {k : Nat} (hr : Room k X.A) (hK : X.K = K := by rfl) : MtR X "list.remove" (rRemoveA K) := by
  subst hK
  intro pins s σ H x xs v us Q I rx rxs h
  obtain ⟨α, _, _, p, y, vs, as, a, j, hd, rfl, rfl, hH, hs, ha, hj, hno, q⟩ := h
  cases rx
  obtain ⟨uy, rfl, ry⟩ := vals1 rxs
  obtain ⟨z, its, n, r, hl, e⟩ := I.lstM hH
  refine PySem.W.remove_list_datum ⟨_, e, rfl, n, rfl⟩ (hs.holds I r) (ha.holds I ry) (room61 hr hd) hj hno (by rw [List.size_toArray]; omega) ⟨.non, _, I.lset (its' := its.eraseIdx j) (t' := s.toks) hH e ?_ (vals_erase j r) ?_, rfl, q⟩
  · show its.toArray.eraseIdxIfInBounds j = (its.eraseIdx j).toArray
    rw [List.eraseIdxIfInBounds_toArray]
  · have : (vs.eraseIdx j).length ≤ vs.length := by
      rw [List.length_eraseIdx]
      split <;> omega
    omega
theorem first_place : ∀ {xs : List Tile} {x : Tile}, x ∈ xs → ∃ j : Nat, xs[j]? = some x ∧ (∀ m, m < j → xs[m]? ≠ some x) ∧ xs.eraseIdx j = xs.erase x
  | [], _, h => by cases h
  | y :: ys, x, h => by
    by_cases e : y = x
    · subst e
      exact ⟨0, rfl, fun m hm => absurd hm (Nat.not_lt_zero _), by simp⟩
    · have hm : x ∈ ys := by
        rcases List.mem_cons.mp h with h | h
        · exact absurd h.symm e
        · exact h
      obtain ⟨j, h1, h2, h3⟩ := first_place hm
      refine ⟨j + 1, by simpa using h1, fun m hmj => ?_, ?_⟩
      · cases m with
        | zero => simpa using e
        | succ m => simpa using h2 m (by omega)
      · rw [List.eraseIdx_cons_succ, h3, List.erase_cons_tail (by simpa using e)]
theorem rd_removeD {K : PySem.W.Frag} {H : Hp} {Q : VK} {p : Addr} {vs : List V} {v : V} {ts : List Tile} {t : Tile} (hH : H p = some (.lst vs)) (hs : Hds K H vs ts) (hv : Hd K H v t) (hm : t ∈ ts) (q : ∀ ws, Hds K (upd H p (.lst ws)) ws (ts.erase t) → Q .non (upd H p (.lst ws))) : rRemoveA K (.ref p) [v] H Q := by
  obtain ⟨j, h1, h2, h3⟩ := first_place hm
  refine ⟨Tile, inferInstance, inferInstance, p, v, vs, ts, t, j, by decide, rfl, rfl, hH, hs, hv, h1, h2, q _ ?_⟩
  have := hds_erase j hs
  rw [h3] at this
  exact this.tup (TupK.lst hH)
end MH
/-! T18: the search, as a function. -/
namespace MH
open PySem L2
theorem miss_cons (h ts : List Tile) (t : Tile) : miss h (t :: ts) = (if t ∈ h then 0 else 1) + miss (h.erase t) ts := by
  unfold miss
  have e : rst h (t :: ts) = rst (h.erase t) ts := rfl
  rw [e, List.length_cons]
  by_cases c : t ∈ h
  · rw [if_pos c]
    have := List.length_erase_of_mem c
    have := List.length_pos_of_mem c
    omega
  · rw [if_neg c, List.erase_of_not_mem c]
    omega
theorem fm_congr {α β : Type} {f g : α → Option β} : ∀ {xs : List α}, (∀ x ∈ xs, f x = g x) → xs.filterMap f = xs.filterMap g
  | [], _ => rfl
  | x :: xs, h => by
    rw [List.filterMap_cons, List.filterMap_cons, h x List.mem_cons_self, fm_congr fun y hy => h y (List.mem_cons_of_mem _ hy)]
theorem miss_nodup : ∀ {ts : List Tile} (h : List Tile), ts.Nodup → miss h ts = ((ts.filterMap fun t => if t ∉ h then some t else none).length : Int)
  | [], h, _ => by rw [miss_nil]; rfl
  | t :: ts, h, nd => by
    rw [List.nodup_cons] at nd
    rw [miss_cons, miss_nodup (h.erase t) nd.2]
    have e : (ts.filterMap fun u => if u ∉ h.erase t then some u else none) = ts.filterMap fun u => if u ∉ h then some u else none := by
      refine fm_congr fun u hu => ?_
      have ne : u ≠ t := fun e => nd.1 (e ▸ hu)
      have : u ∈ h.erase t ↔ u ∈ h := List.mem_erase_of_ne ne
      by_cases c : u ∈ h
      · rw [if_neg (fun n => n (this.mpr c)), if_neg (fun n => n c)]
      · rw [if_pos (fun n => c (this.mp n)), if_pos c]
    rw [e]
    by_cases c : t ∈ h
    · have e1 : (fun u => if u ∉ h then some u else none) t = (none : Option Tile) := if_neg (fun n => n c)
      rw [List.filterMap_cons_none (f := fun u => if u ∉ h then some u else none) (a := t) e1, if_pos c]
      omega
    · have e1 : (fun u => if u ∉ h then some u else none) t = some t := if_pos c
      rw [List.filterMap_cons_some (f := fun u => if u ∉ h then some u else none) (a := t) e1, if_neg c, List.length_cons]
      omega
theorem rises_pair {cs : List Int} (h : rises cs = true) : cs.Pairwise (· < ·) := by
  unfold rises at h
  rw [List.all_eq_true] at h
  have adj : ∀ i (hi : i + 1 < cs.length), cs[i]'(by omega) < cs[i + 1] := fun i hi => by
    have := of_decide_eq_true (h i (List.mem_range.mpr (by omega)))
    rw [List.getD_eq_getElem?_getD, List.getD_eq_getElem?_getD, List.getElem?_eq_getElem hi, List.getElem?_eq_getElem (show i < cs.length by omega)] at this
    exact this
  clear h
  induction cs with
  | nil => exact List.Pairwise.nil
  | cons x cs ih =>
    have ih2 := ih fun i hi => by
      have := adj (i + 1) (by simpa using hi)
      simp only [List.getElem_cons_succ] at this
      exact this
    refine List.pairwise_cons.mpr ⟨fun y hy => ?_, ih2⟩
    cases cs with
    | nil => cases hy
    | cons z cs =>
      have h0 : x < z := adj 0 (by simp)
      rcases List.mem_cons.mp hy with rfl | hy
      · exact h0
      · have := (List.pairwise_cons.mp ih2).1 y hy
        omega
theorem tilesIn_nodup {m c : Int} {x : Meld} (h : isMeld m c x = true) : (tilesIn x).Nodup := by
  cases x with
  | run k f z =>
    simp only [tilesIn]
    refine List.pairwise_map.mpr (List.nodup_range.imp fun {a b} ne e => ne ?_)
    have : f + (a : Int) = f + (b : Int) := by injection e
    omega
  | grp n cs =>
    simp only [isMeld, Bool.and_eq_true] at h
    simp only [tilesIn]
    refine List.pairwise_map.mpr ((rises_pair h.2).imp fun {a b} lt e => ?_)
    have : a = b := by injection e
    omega
theorem tilesIn_three {m c : Int} {x : Meld} (h : isMeld m c x = true) : 3 ≤ (tilesIn x).length := by
  cases x with
  | run k f z =>
    simp only [isMeld, Bool.and_eq_true, decide_eq_true_eq] at h
    simp only [tilesIn, List.length_map, List.length_range]
    omega
  | grp n cs =>
    simp only [isMeld, Bool.and_eq_true, decide_eq_true_eq] at h
    simp only [tilesIn, List.length_map]
    exact h.1.1.1
abbrev Fnd := Int × List Meld
def upS (rc : List Meld → List Tile → Int → Fnd) (x : Meld) (r : List Meld) (h : List Tile) (j : Int) (acc : Fnd) : Fnd :=
  if miss h (tilesIn x) ≤ j then
    (if acc.1 < gain h (tilesIn x) + (rc (x :: r) (rst h (tilesIn x)) (j - miss h (tilesIn x))).1 then
      (gain h (tilesIn x) + (rc (x :: r) (rst h (tilesIn x)) (j - miss h (tilesIn x))).1, x :: (rc (x :: r) (rst h (tilesIn x)) (j - miss h (tilesIn x))).2) else acc)
  else acc
def srchL (rc : List Meld → List Tile → Int → Fnd) : List Meld → List Tile → Int → Fnd → Fnd
  | [], _, _, acc => acc
  | x :: r, h, j, acc => srchL rc r h j (upS rc x r h j acc)
def srch : Nat → List Meld → List Tile → Int → Fnd
  | 0 => fun _ _ _ => (0, [])
  | n + 1 => fun xs h j => srchL (srch n) xs h j (0, [])
theorem srchL_drop {rc : List Meld → List Tile → Int → Fnd} {xs : List Meld} {h : List Tile} {j : Int} {acc : Fnd} {i : Nat} {x : Meld} (e : xs[i]? = some x) : srchL rc (xs.drop i) h j acc = srchL rc (xs.drop (i + 1)) h j (upS rc x (xs.drop (i + 1)) h j acc) := by
  obtain ⟨hi, e2⟩ := List.getElem?_eq_some_iff.mp e
  rw [List.drop_eq_getElem_cons hi, e2]
  rfl
theorem drop_cons_of {xs : List Meld} {i : Nat} {x : Meld} (e : xs[i]? = some x) : xs.drop i = x :: xs.drop (i + 1) := by
  obtain ⟨hi, e2⟩ := List.getElem?_eq_some_iff.mp e
  rw [List.drop_eq_getElem_cons hi, e2]
theorem upS_len {rc : List Meld → List Tile → Int → Fnd} {n : Nat} (hr : ∀ xs h j, (rc xs h j).2.length ≤ n) {x : Meld} {r : List Meld} {h : List Tile} {j : Int} {acc : Fnd} (ha : acc.2.length ≤ n + 1) : (upS rc x r h j acc).2.length ≤ n + 1 := by
  unfold upS
  split
  · split
    · exact Nat.succ_le_succ (hr _ _ _)
    · exact ha
  · exact ha
theorem srchL_len {rc : List Meld → List Tile → Int → Fnd} {n : Nat} (hr : ∀ xs h j, (rc xs h j).2.length ≤ n) : ∀ (xs : List Meld) (h : List Tile) (j : Int) (acc : Fnd), acc.2.length ≤ n + 1 → (srchL rc xs h j acc).2.length ≤ n + 1
  | [], _, _, acc, ha => ha
  | x :: r, h, j, acc, ha => srchL_len hr r h j _ (upS_len hr ha)
theorem srch_len : ∀ (n : Nat) (xs : List Meld) (h : List Tile) (j : Int), (srch n xs h j).2.length ≤ n
  | 0, _, _, _ => Nat.le_refl _
  | n + 1, xs, h, j => srchL_len (srch_len n) xs h j (0, []) (Nat.zero_le _)
theorem budget {m c : Int} {x : Meld} (im : isMeld m c x = true) {h : List Tile} {j : Int} {n : Nat} (b : (h.length : Int) + j < 3 * ((n + 1 : Nat) : Int)) : ((rst h (tilesIn x)).length : Int) + (j - miss h (tilesIn x)) < 3 * (n : Int) := by
  have := tilesIn_three im
  unfold miss
  omega
/-- the melds that the hand can meet -/
def canUse (m c : Int) (h : List Tile) (j : Int) : List Meld := (meldsOf m c).filterMap fun x => if miss h (tilesIn x) ≤ j then some x else none
theorem canUse_meld {m c : Int} (hc : c ≤ 4) {h : List Tile} {j : Int} {x : Meld} (hx : x ∈ canUse m c h j) : isMeld m c x = true := by
  obtain ⟨y, hy, e⟩ := List.mem_filterMap.mp hx
  by_cases z : miss h (tilesIn y) ≤ j
  · rw [if_pos z] at e
    cases e
    exact (mem_melds hc _).mp hy
  · rw [if_neg z] at e
    cases e
theorem canUse_len {m c : Int} (hm : m ≤ 13) (hc : c ≤ 4) {h : List Tile} {j : Int} : (canUse m c h j).length ≤ 1000 := Nat.le_trans (List.length_filterMap_le _ _) (meldsOf_len hm hc)
/-- the best laying -/
def bestOf (m c : Int) (h : List Tile) (j : Int) : Fnd := srch 6 (canUse m c h j) h j
end MH
/-! T19: going out, helpers. -/
namespace MH
open PySem L2
def insT (t : Tile) : List Tile → List Tile
  | [] => [t]
  | u :: us => if tlt u t = true then u :: insT t us else t :: u :: us
def isortT : List Tile → List Tile
  | [] => []
  | t :: ts => insT t (isortT ts)
theorem insT_perm (t : Tile) : ∀ ts : List Tile, (insT t ts).Perm (t :: ts)
  | [] => .refl _
  | u :: us => by
    unfold insT
    split
    · exact ((insT_perm t us).cons u).trans (.swap t u us)
    · exact .refl _
theorem isortT_perm : ∀ ts : List Tile, (isortT ts).Perm ts
  | [] => .refl _
  | t :: ts => (insT_perm t (isortT ts)).trans ((isortT_perm ts).cons t)
theorem insT_sorted (t : Tile) : ∀ {ts : List Tile}, SortedT ts → SortedT (insT t ts)
  | [], _ => List.pairwise_singleton _ _
  | u :: us, h => by
    have h' := List.pairwise_cons.mp h
    unfold insT
    split
    · rename_i c
      refine List.pairwise_cons.mpr ⟨fun x hx => ?_, insT_sorted t h'.2⟩
      rcases List.mem_cons.mp ((insT_perm t us).mem_iff.mp hx) with rfl | hx
      · rw [tlt_iff] at c
        rw [tlt_no]
        omega
      · exact h'.1 x hx
    · rename_i c
      have c2 : tlt u t = false := by simpa using c
      refine List.pairwise_cons.mpr ⟨fun x hx => ?_, h⟩
      rcases List.mem_cons.mp hx with rfl | hx
      · exact c2
      · exact tlt_trans c2 (h'.1 x hx)
theorem isortT_sorted : ∀ ts : List Tile, SortedT (isortT ts)
  | [] => List.Pairwise.nil
  | t :: ts => insT_sorted t (isortT_sorted ts)
theorem isortT_eq {us ts : List Tile} (p : us.Perm ts) (so : SortedT us) : us = isortT ts := sorted_perm so (isortT_sorted ts) (p.trans (isortT_perm ts).symm)
/-- it goes out -/
def outB (m c : Int) (h : List Tile) (j : Int) : Bool := decide ((bestOf m c h j).1 = sumT h)
def helpAt (m c : Int) (h : List Tile) (j : Int) (n k : Nat) : Option Tile := if h.count ((1 + (n : Int), (k : Int)) : Tile) < 2 ∧ outB m c (isortT (h ++ [(1 + (n : Int), (k : Int))])) j = true then some (1 + (n : Int), (k : Int)) else none
def helpL (m c : Int) (h : List Tile) (j : Int) : List Tile := (List.range m.toNat).flatMap fun n => (List.range c.toNat).filterMap fun k => helpAt m c h j n k
def helpF (m c : Int) (h : List Tile) (j : Int) : List Tile := if h.length = 12 then [] else helpL m c h j
def twelve : List Tile := (List.range 12).map fun (k : Nat) => (1 + ((k / 2 : Nat) : Int), (0 : Int))
def less1 (at' : Nat) : List Tile := twelve.take at' ++ twelve.drop (at' + 1)
theorem eleven_all : (List.range 12).all (fun a => (List.range 2).all fun (j : Nat) => decide (helpF 6 1 (less1 a) (j : Int) = (twelve[a]?).toList) && decide (IsHand 6 1 (less1 a) (j : Int))) = true := by decide +kernel
end MH
/-! T20: the search finds the greatest laying, the first of them. -/
namespace MH
open PySem L2
/-- a comes ahead of b, lists of melds -/
def llt : List Meld → List Meld → Bool
  | [], [] => false
  | [], _ :: _ => true
  | _ :: _, [] => false
  | a :: as, b :: bs => if a = b then llt as bs else mlt a b
theorem mlt_total {a b : Meld} (ne : a ≠ b) : mlt a b = true ∨ mlt b a = true := by
  cases h1 : mlt a b with
  | true => exact .inl rfl
  | false =>
    cases h2 : mlt b a with
    | true => exact .inr rfl
    | false => exact absurd (mlt_anti h2 h1) ne
theorem rst_mem {h ts : List Tile} {t : Tile} (m : t ∈ rst h ts) : t ∈ h := by
  have := mem_iff_count.mp m
  rw [rst_count] at this
  exact mem_iff_count.mpr (by omega)
theorem gain_app (h a b : List Tile) : gain h (a ++ b) = gain h a + gain (rst h a) b := by
  unfold gain
  rw [rst_app]
  omega
theorem miss_app (h a b : List Tile) : miss h (a ++ b) = miss h a + miss (rst h a) b := by
  unfold miss
  rw [rst_app, List.length_append]
  omega
theorem rst_len_ge (ts : List Tile) : ∀ h : List Tile, h.length ≤ (rst h ts).length + ts.length := by
  induction ts with
  | nil => intro h; exact Nat.le_refl _
  | cons t ts ih =>
    intro h
    have := ih (h.erase t)
    have e : rst h (t :: ts) = rst (h.erase t) ts := rfl
    rw [e, List.length_cons]
    have := List.length_erase_le (a := t) (l := h)
    by_cases c : t ∈ h
    · have := List.length_erase_of_mem c
      omega
    · rw [List.erase_of_not_mem c] at *
      omega
theorem miss_nonneg (h ts : List Tile) : 0 ≤ miss h ts := by
  unfold miss
  have := rst_len_ge ts h
  omega
theorem needOf_cons (x : Meld) (xs : List Meld) : needOf (x :: xs) = tilesIn x ++ needOf xs := by
  unfold needOf
  rw [List.flatMap_cons]
/-- a laying of melds of xs -/
structure Fea (xs : List Meld) (h : List Tile) (j : Int) (ys : List Meld) : Prop where
  sub : ∀ y ∈ ys, y ∈ xs
  sorted : SortedM ys
  few : miss h (needOf ys) ≤ j
/-- the strict order of a list -/
def StrictM (xs : List Meld) : Prop := xs.Pairwise fun a b => mlt a b = true
/-- r is the best of the layings in S -/
structure BestIn (S : List Meld → Prop) (h : List Tile) (r : Fnd) : Prop where
  gain : r.1 = gain h (needOf r.2)
  most : ∀ ys, S ys → MH.gain h (needOf ys) ≤ r.1
  first : ∀ ys, S ys → MH.gain h (needOf ys) = r.1 → llt ys r.2 = false
theorem fea_tail {xs : List Meld} {h : List Tile} {j : Int} {x : Meld} {r ys : List Meld} (st : StrictM (xs ++ x :: r)) (f : Fea (xs ++ x :: r) h j (x :: ys)) : miss h (tilesIn x) ≤ j ∧ Fea (x :: r) (rst h (tilesIn x)) (j - miss h (tilesIn x)) ys := by
  have e := f.few
  rw [needOf_cons, miss_app] at e
  have nn := miss_nonneg (rst h (tilesIn x)) (needOf ys)
  refine ⟨by omega, fun y hy => ?_, (List.pairwise_cons.mp f.sorted).2, by omega⟩
  have hm := f.sub y (List.mem_cons_of_mem _ hy)
  have so := (List.pairwise_cons.mp f.sorted).1 y hy
  rcases List.mem_append.mp hm with z | z
  · have := (List.pairwise_append.mp st).2.2 y z x List.mem_cons_self
    rw [this] at so
    cases so
  · exact z
theorem srch_best {m c : Int} : ∀ (n : Nat) (xs : List Meld) (h : List Tile) (j : Int), (∀ x ∈ xs, isMeld m c x = true) → StrictM xs → 0 ≤ j → (h.length : Int) + j < 3 * (n : Int) → Fea xs h j (srch n xs h j).2 ∧ BestIn (Fea xs h j) h (srch n xs h j)
  | 0, xs, h, j, _, _, j0, b => by omega
  | n + 1, xs, h, j, im, st, j0, bud => by
    have start : miss h (needOf []) ≤ j := by
      rw [show needOf [] = [] from rfl, miss_nil]
      exact j0
    have go : ∀ (r pre : List Meld) (acc : Fnd), pre ++ r = xs → Fea xs h j acc.2 → (∀ y ys, acc.2 = y :: ys → y ∈ pre) → BestIn (fun ys => Fea xs h j ys ∧ ∀ y zs, ys = y :: zs → y ∈ pre) h acc →
        Fea xs h j (srchL (srch n) r h j acc).2 ∧ BestIn (Fea xs h j) h (srchL (srch n) r h j acc) := by
      intro r
      induction r with
      | nil =>
        intro pre acc e f _ b
        rw [List.append_nil] at e
        subst e
        exact ⟨f, b.gain, fun ys hy => b.most ys ⟨hy, fun y zs e2 => hy.sub y (by rw [e2]; exact List.mem_cons_self)⟩, fun ys hy => b.first ys ⟨hy, fun y zs e2 => hy.sub y (by rw [e2]; exact List.mem_cons_self)⟩⟩
      | cons x r ih =>
        intro pre acc e f hd b
        show Fea xs h j (srchL (srch n) r h j (upS (srch n) x r h j acc)).2 ∧ BestIn (Fea xs h j) h (srchL (srch n) r h j (upS (srch n) x r h j acc))
        have ex : x ∈ xs := by rw [← e]; simp
        have imx := im x ex
        have st2 : StrictM (pre ++ x :: r) := by rw [e]; exact st
        have prex : ∀ y ∈ pre, mlt y x = true := fun y hy => (List.pairwise_append.mp st2).2.2 y hy x List.mem_cons_self
        have stx : StrictM (x :: r) := (List.pairwise_append.mp st2).2.1
        have step : Fea xs h j (upS (srch n) x r h j acc).2 ∧ (∀ y ys, (upS (srch n) x r h j acc).2 = y :: ys → y ∈ pre ++ [x]) ∧ BestIn (fun ys => Fea xs h j ys ∧ ∀ y zs, ys = y :: zs → y ∈ pre ++ [x]) h (upS (srch n) x r h j acc) := by
          have mono : ∀ ys, (∀ y zs, ys = y :: zs → y ∈ pre ++ [x]) → (∀ y zs, ys = y :: zs → y ∈ pre) ∨ ∃ zs, ys = x :: zs := fun ys hy => by
            cases ys with
            | nil => exact .inl fun y zs e => by cases e
            | cons y zs =>
              rcases List.mem_append.mp (hy y zs rfl) with z | z
              · exact .inl fun y' zs' e => by cases e; exact z
              · rw [List.mem_singleton.mp z]
                exact .inr ⟨zs, rfl⟩
          have keep : (∀ zs, Fea xs h j (x :: zs) → gain h (needOf (x :: zs)) ≤ acc.1) → Fea xs h j acc.2 ∧ (∀ y ys, acc.2 = y :: ys → y ∈ pre ++ [x]) ∧ BestIn (fun ys => Fea xs h j ys ∧ ∀ y zs, ys = y :: zs → y ∈ pre ++ [x]) h acc := fun no => by
            refine ⟨f, fun y ys e => List.mem_append_left _ (hd y ys e), b.gain, fun ys hy => ?_, fun ys hy eg => ?_⟩
            · rcases mono ys hy.2 with z | ⟨zs, rfl⟩
              · exact b.most ys ⟨hy.1, z⟩
              · exact no zs hy.1
            · rcases mono ys hy.2 with z | ⟨zs, rfl⟩
              · exact b.first ys ⟨hy.1, z⟩ eg
              · cases ea : acc.2 with
                | nil => rfl
                | cons y ws =>
                  have py := prex y (hd y ws ea)
                  have ne : x ≠ y := fun e => by
                    subst e
                    rw [mlt_irr] at py
                    cases py
                  show (if x = y then llt zs ws else mlt x y) = false
                  rw [if_neg ne]
                  exact mlt_asym py
          unfold upS
          by_cases ge : miss h (tilesIn x) ≤ j
          · rw [if_pos ge]
            have bud2 := budget imx bud
            have best := srch_best n (x :: r) (rst h (tilesIn x)) (j - miss h (tilesIn x)) (fun y hy => im y (by rw [← e]; exact List.mem_append_right _ hy)) stx (by omega) bud2
            generalize srch n (x :: r) (rst h (tilesIn x)) (j - miss h (tilesIn x)) = M at best
            obtain ⟨fM, bM⟩ := best
            have tail : ∀ zs, Fea xs h j (x :: zs) → Fea (x :: r) (rst h (tilesIn x)) (j - miss h (tilesIn x)) zs := fun zs fz => (fea_tail st2 (by rw [e]; exact fz)).2
            have gz : ∀ zs, gain h (needOf (x :: zs)) = gain h (tilesIn x) + gain (rst h (tilesIn x)) (needOf zs) := fun zs => by rw [needOf_cons, gain_app]
            by_cases w : acc.1 < gain h (tilesIn x) + M.1
            · rw [if_pos w]
              refine ⟨⟨fun y hy => ?_, ?_, ?_⟩, fun y ys e2 => ?_, ?_, fun ys hy => ?_, fun ys hy eg => ?_⟩
              · rcases List.mem_cons.mp hy with rfl | hy
                · exact ex
                · rw [← e]
                  exact List.mem_append_right _ (fM.sub y hy)
              · refine List.pairwise_cons.mpr ⟨fun y hy => ?_, fM.sorted⟩
                rcases List.mem_cons.mp (fM.sub y hy) with rfl | hm
                · exact mlt_irr _
                · exact mlt_asym ((List.pairwise_cons.mp stx).1 y hm)
              · rw [needOf_cons, miss_app]
                have := fM.few
                omega
              · cases e2
                exact List.mem_append_right _ (List.mem_singleton.mpr rfl)
              · show gain h (tilesIn x) + M.1 = gain h (needOf (x :: M.2))
                rw [gz, bM.gain]
              · rcases mono ys hy.2 with z | ⟨zs, rfl⟩
                · have := b.most ys ⟨hy.1, z⟩
                  show _ ≤ gain h (tilesIn x) + M.1
                  omega
                · have := bM.most zs (tail zs hy.1)
                  show _ ≤ gain h (tilesIn x) + M.1
                  rw [gz]
                  omega
              · have eg2 : gain h (needOf ys) = gain h (tilesIn x) + M.1 := eg
                rcases mono ys hy.2 with z | ⟨zs, rfl⟩
                · have := b.most ys ⟨hy.1, z⟩
                  omega
                · show (if x = x then llt zs M.2 else mlt x x) = false
                  rw [if_pos rfl]
                  rw [gz] at eg2
                  exact bM.first zs (tail zs hy.1) (by omega)
            · rw [if_neg w]
              refine keep fun zs fz => ?_
              have := bM.most zs (tail zs fz)
              rw [gz]
              omega
          · rw [if_neg ge]
            exact keep fun zs fz => absurd (fea_tail st2 (by rw [e]; exact fz)).1 ge
        exact ih (pre ++ [x]) _ (by rw [List.append_assoc]; exact e) step.1 step.2.1 step.2.2
    refine go xs [] (0, []) rfl ⟨fun y hy => absurd hy List.not_mem_nil, List.Pairwise.nil, start⟩ (fun y ys e => by cases e) ⟨(gain_nil h).symm, fun ys hy => ?_, fun ys hy _ => ?_⟩
    · cases ys with
      | nil => exact Int.le_of_eq (gain_nil h)
      | cons y zs => exact absurd (hy.2 y zs rfl) List.not_mem_nil
    · cases ys with
      | nil => rfl
      | cons y zs => exact absurd (hy.2 y zs rfl) List.not_mem_nil
theorem mlt_trans {a b c : Meld} (h1 : mlt a b = true) (h2 : mlt b c = true) : mlt a c = true := by
  rw [← dataLt_meld] at h1 h2 ⊢
  rw [dataLt_blt] at h1 h2 ⊢
  exact dataO.trans _ _ _ h1 h2
def adjS : List Meld → Bool
  | a :: b :: r => mlt a b && adjS (b :: r)
  | _ => true
theorem adjS_strict : ∀ {ts : List Meld}, adjS ts = true → StrictM ts
  | [], _ => List.Pairwise.nil
  | [x], _ => List.pairwise_singleton _ _
  | x :: y :: ts, h => by
    simp only [adjS, Bool.and_eq_true] at h
    have ih := adjS_strict h.2
    refine List.pairwise_cons.mpr ⟨fun z hz => ?_, ih⟩
    rcases List.mem_cons.mp hz with rfl | hz
    · exact h.1
    · exact mlt_trans h.1 ((List.pairwise_cons.mp ih).1 z hz)
theorem adjS_all : (List.range 11).all (fun m => (List.range 4).all fun c => adjS (meldsOf (3 + (m : Int)) (1 + (c : Int)))) = true := by decide +kernel
theorem melds_strict {m c : Int} (h : 3 ≤ m ∧ m ≤ 13 ∧ 1 ≤ c ∧ c ≤ 4) : StrictM (meldsOf m c) := by
  have a := List.all_eq_true.mp adjS_all (m - 3).toNat (List.mem_range.mpr (by omega))
  have b := List.all_eq_true.mp a (c - 1).toNat (List.mem_range.mpr (by omega))
  have e1 : (3 + (((m - 3).toNat : Nat) : Int)) = m := by omega
  have e2 : (1 + (((c - 1).toNat : Nat) : Int)) = c := by omega
  rw [e1, e2] at b
  exact adjS_strict b
theorem canUse_strict {m c : Int} (hm : 3 ≤ m ∧ m ≤ 13 ∧ 1 ≤ c ∧ c ≤ 4) {h : List Tile} {j : Int} : StrictM (canUse m c h j) := by
  unfold canUse
  rw [filterMap_if (fun x => miss h (tilesIn x) ≤ j) (fun x => x), List.map_id']
  exact List.Pairwise.filter _ (melds_strict hm)
theorem miss_one {h : List Tile} {xs : List Meld} {x : Meld} (hx : x ∈ xs) : miss h (tilesIn x) ≤ miss h (needOf xs) := by
  have p := needOf_perm (List.perm_cons_erase hx)
  rw [miss_perm p, needOf_cons, miss_app]
  have := miss_nonneg (rst h (tilesIn x)) (needOf (xs.erase x))
  omega
theorem fea_of {m c j : Int} (hc : c ≤ 4) {h : List Tile} {xs : List Meld} (l : IsLaying m c h j xs) : Fea (canUse m c h j) h j xs := ⟨fun x hx => by
  refine List.mem_filterMap.mpr ⟨x, (mem_melds hc x).mpr (l.melds x hx), ?_⟩
  rw [if_pos (Int.le_trans (miss_one hx) l.few)], l.sorted, l.few⟩
theorem lay_of {m c j : Int} (hc : c ≤ 4) {h : List Tile} {xs : List Meld} (f : Fea (canUse m c h j) h j xs) : IsLaying m c h j xs := ⟨fun x hx => canUse_meld hc (f.sub x hx), f.sorted, f.few⟩
/-- the best laying is a laying, the greatest, the first -/
theorem bestOf_best {m c j : Int} (hm : 3 ≤ m ∧ m ≤ 13 ∧ 1 ≤ c ∧ c ≤ 4) {h : List Tile} (l12 : h.length ≤ 12) (j0 : 0 ≤ j) (j2 : j ≤ 2) :
    IsLaying m c h j (bestOf m c h j).2 ∧ (bestOf m c h j).1 = gain h (needOf (bestOf m c h j).2) ∧ (∀ ys, IsLaying m c h j ys → gain h (needOf ys) ≤ (bestOf m c h j).1) ∧ ∀ ys, IsLaying m c h j ys → gain h (needOf ys) = (bestOf m c h j).1 → llt ys (bestOf m c h j).2 = false := by
  have c4 := hm.2.2.2
  have b := srch_best (m := m) (c := c) 6 (canUse m c h j) h j (fun x hx => canUse_meld c4 hx) (canUse_strict hm) j0 (by omega)
  exact ⟨lay_of c4 b.1, b.2.gain, fun ys hy => b.2.most ys (fea_of c4 hy), fun ys hy => b.2.first ys (fea_of c4 hy)⟩
end MH
/-! T21: xs < ys of two lists of melds. -/
namespace MH
open PySem L2 PySem.SeqAt PySem.W
theorem firstLt_melds : ∀ (xs ys : List Meld), firstLt (fun i => decide (xs.getD i (.run 0 0 0) = ys.getD i (.run 0 0 0))) (fun i => mlt (xs.getD i (.run 0 0 0)) (ys.getD i (.run 0 0 0))) (decide (xs.length < ys.length)) (List.range (min xs.length ys.length)) = llt xs ys
  | [], [] => rfl
  | [], _ :: _ => by simp [firstLt, llt]
  | _ :: _, [] => by simp [firstLt, llt]
  | x :: xs, y :: ys => by
    have ih := firstLt_melds xs ys
    have em : min (x :: xs).length (y :: ys).length = min xs.length ys.length + 1 := by
      rw [List.length_cons, List.length_cons]
      omega
    rw [em, List.range_succ_eq_map]
    show (if decide (x = y) = true then firstLt _ _ _ _ else mlt x y) = if x = y then llt xs ys else mlt x y
    by_cases e : x = y
    · rw [if_pos (decide_eq_true e), if_pos e, firstLt_map, ← ih]
      have l : decide ((x :: xs).length < (y :: ys).length) = decide (xs.length < ys.length) := decide_eq_decide.mpr (by rw [List.length_cons, List.length_cons]; omega)
      rw [l]
      rfl
    · rw [if_neg (by simpa using e), if_neg e]
def rLtL (K : PySem.W.Frag) : R2 := fun x y H Q => ∃ (a b : Addr) (us ws : List V) (xs ys : List Meld), x = .ref a ∧ y = .ref b ∧ H a = some (.lst us) ∧ H b = some (.lst ws) ∧ Hds K H us xs ∧ Hds K H ws ys ∧ Q (.bl (llt xs ys)) H
theorem op_ltL {X : Cx} {K : PySem.W.Frag} {k : Nat} (hr : Room k X.A) (hK : X.K = K := by rfl) : OpR X (compareOp .Lt) (rLtL K) := by
  subst hK
  intro pins s σ H x y v u Q I rx ry h
  obtain ⟨a, b, us, ws, xs, ys, rfl, rfl, ha, hb, hx, hy, q⟩ := h
  cases rx
  cases ry
  obtain ⟨itx, rvx, plx, _⟩ := I.list (SqL.of ha)
  obtain ⟨ity, rvy, ply, _⟩ := I.list (SqL.of hb)
  have lx : itx.length = xs.length := by rw [← rvx.length]; exact hx.length
  have ly : ity.length = ys.length := by rw [← rvy.length]; exact hy.length
  have rdx := hx.holds I rvx
  have rdy := hy.holds I rvy
  have un : X.A.units + 64 < cLine := hr.units
  have at' : ∀ {vs : List V} {its : List Value} {zs : List Meld} (rv : Vals vs its) (hz : Hds X.K H vs zs) (i : Nat) (h1 : i < its.length), ∃ as, Reads s.heap its[i] (PySem.W.Datum.toD (zs.getD i (.run 0 0 0))) as := fun {vs its zs} rv hz i h1 => by
    have hv : i < vs.length := by rw [rv.length]; exact h1
    obtain ⟨z, ez, hzv⟩ := hz.getV (List.getElem?_eq_getElem hv)
    rw [List.getD_eq_getElem?_getD, ez]
    obtain ⟨u, eu, ru⟩ := rv.get (List.getElem?_eq_getElem hv)
    obtain ⟨h2, e2⟩ := List.getElem?_eq_some_iff.mp eu
    rw [e2]
    exact Dp.reads I _ _ _ hzv ru
  have key := RcLt.lists (A := X.A) (s := s) (e := fun i => decide (xs.getD i (.run 0 0 0) = ys.getD i (.run 0 0 0))) (r := fun i => mlt (xs.getD i (.run 0 0 0)) (ys.getD i (.run 0 0 0))) plx.isList ply.isList (by omega) (fun i h1 h2 => ?_) (fun i h1 h2 _ => ?_)
  · rw [List.size_toArray, List.size_toArray, lx, ly, firstLt_melds] at key
    exact key X.prog X.w _ _ ⟨.bl _, H, I, rfl, q⟩
  · obtain ⟨as, r1⟩ := at' rvx hx i (by simpa using h1)
    obtain ⟨bs, r2⟩ := at' rvy hy i (by simpa using h2)
    have := eqAt_plain _ _ X.A.in1 s _ _ _ _ r1 r2 (PySem.W.Datum.plain _) (PySem.W.Datum.plain _) (PySem.W.room_datum (Nat.le_trans (PySem.W.Datum.depth_le _) (show PySem.W.Datum.depth Meld ≤ 60 by decide)) (show X.A.units + 1 + 60 < cLine by omega))
    rw [PySem.W.Datum.eqv] at this
    simpa using this
  · obtain ⟨as, r1⟩ := at' rvx hx i (by simpa using h1)
    obtain ⟨bs, r2⟩ := at' rvy hy i (by simpa using h2)
    have := rcO_lt _ _ X.A.in1 s _ _ _ _ r1 r2 (PySem.W.Datum.plain _) (PySem.W.Datum.plain _) (cmpO_meld _ _) (PySem.W.room_datum (Nat.le_trans (PySem.W.Datum.depth_le _) (show PySem.W.Datum.depth Meld ≤ 60 by decide)) (show X.A.units + 1 + 60 < cLine by omega))
    rw [dataLt_meld] at this
    have t2 : RcLt X.A.in1 s _ _ _ := this
    simpa using t2
theorem rd_ltL {K : PySem.W.Frag} {H : Hp} {Q : VK} {a b : Addr} {us ws : List V} {xs ys : List Meld} (ha : H a = some (.lst us)) (hb : H b = some (.lst ws)) (hx : Hds K H us xs) (hy : Hds K H ws ys) (q : Q (.bl (llt xs ys)) H) : rLtL K (.ref a) (.ref b) H Q := ⟨a, b, us, ws, xs, ys, rfl, rfl, ha, hb, hx, hy, q⟩
end MH
/-! T22: gain and miss by counts; more tiles, more jokers, two hands, another order of colours. -/
namespace MH
open PySem L2
theorem nodup52 : tiles52.Nodup := by decide +kernel
def In52 (h : List Tile) : Prop := ∀ t ∈ h, InHouse 13 4 t
theorem gain_sum {h need : List Tile} (i1 : In52 h) : (tiles52.map fun t => ((min (need.count t) (h.count t) : Nat) : Int) * t.1).sum = gain h need := by
  have c1 : ∀ t ∈ h, t ∈ tiles52 := fun t m => mem52 (i1 t m)
  have c2 : ∀ t ∈ rst h need, t ∈ tiles52 := fun t m => c1 t (rst_mem m)
  have e : (tiles52.map fun t => ((min (need.count t) (h.count t) : Nat) : Int) * t.1) = tiles52.map fun t => ((h.count t : Nat) : Int) * t.1 - (((rst h need).count t : Nat) : Int) * t.1 := List.map_congr_left fun t _ => by
    rw [rst_count, ← Int.sub_mul]
    congr 1
    omega
  rw [e, sum_sub, sum_counts (fun t => t.1) nodup52 h c1, sum_counts (fun t => t.1) nodup52 _ c2]
  rfl
theorem miss_sum {h need : List Tile} (i1 : In52 h) (i2 : In52 need) : (tiles52.map fun t => ((need.count t - min (need.count t) (h.count t) : Nat) : Int)).sum = miss h need := by
  have c0 : ∀ t ∈ need, t ∈ tiles52 := fun t m => mem52 (i2 t m)
  have c1 : ∀ t ∈ h, t ∈ tiles52 := fun t m => mem52 (i1 t m)
  have c2 : ∀ t ∈ rst h need, t ∈ tiles52 := fun t m => c1 t (rst_mem m)
  have e : (tiles52.map fun t => ((need.count t - min (need.count t) (h.count t) : Nat) : Int)) = tiles52.map fun t => ((need.count t : Nat) : Int) * 1 - (((h.count t : Nat) : Int) * 1 - (((rst h need).count t : Nat) : Int) * 1) := List.map_congr_left fun t _ => by
    rw [rst_count]
    omega
  have len : ∀ xs : List Tile, (xs.map fun _ => (1 : Int)).sum = (xs.length : Int) := fun xs => by
    induction xs with
    | nil => rfl
    | cons x xs ih => rw [List.map_cons, List.sum_cons, ih, List.length_cons]; omega
  rw [e, sum_sub, sum_counts (fun _ => 1) nodup52 need c0, sum_sub, sum_counts (fun _ => 1) nodup52 h c1, sum_counts (fun _ => 1) nodup52 _ c2, len, len, len]
  unfold miss
  omega
theorem sum_le {us : List Tile} {f g : Tile → Int} (h : ∀ t ∈ us, f t ≤ g t) : (us.map f).sum ≤ (us.map g).sum := by
  induction us with
  | nil => exact Int.le_refl _
  | cons u us ih =>
    rw [List.map_cons, List.map_cons, List.sum_cons, List.sum_cons]
    have := h u List.mem_cons_self
    have := ih fun t ht => h t (List.mem_cons_of_mem _ ht)
    omega
theorem sum_add {us : List Tile} (f g : Tile → Int) : (us.map fun t => f t + g t).sum = (us.map f).sum + (us.map g).sum := by
  induction us with
  | nil => rfl
  | cons u us ih => simp only [List.map_cons, List.sum_cons, ih]; omega
theorem pos52 : ∀ t ∈ tiles52, 0 ≤ t.1 := by decide +kernel
/-- two hands together lay out no less -/
theorem gain_both {h1 h2 n1 n2 : List Tile} (i1 : In52 h1) (i2 : In52 h2) : gain h1 n1 + gain h2 n2 ≤ gain (h1 ++ h2) (n1 ++ n2) := by
  rw [← gain_sum i1, ← gain_sum i2, ← gain_sum (h := h1 ++ h2) (fun t m => (List.mem_append.mp m).elim (i1 t) (i2 t)), ← sum_add]
  refine sum_le fun t ht => ?_
  rw [← Int.add_mul, List.count_append, List.count_append]
  refine Int.mul_le_mul_of_nonneg_right ?_ (pos52 t ht)
  omega
theorem miss_both {h1 h2 n1 n2 : List Tile} (i1 : In52 h1) (i2 : In52 h2) (k1 : In52 n1) (k2 : In52 n2) : miss (h1 ++ h2) (n1 ++ n2) ≤ miss h1 n1 + miss h2 n2 := by
  rw [← miss_sum i1 k1, ← miss_sum i2 k2, ← miss_sum (h := h1 ++ h2) (need := n1 ++ n2) (fun t m => (List.mem_append.mp m).elim (i1 t) (i2 t)) (fun t m => (List.mem_append.mp m).elim (k1 t) (k2 t)), ← sum_add]
  refine sum_le fun t ht => ?_
  rw [List.count_append, List.count_append]
  omega
theorem rst_hand_perm {h h' : List Tile} (p : h.Perm h') (n : List Tile) : (rst h n).Perm (rst h' n) := by
  rw [List.perm_iff_count]
  intro t
  rw [rst_count, rst_count, p.count_eq]
theorem gain_hand {h h' : List Tile} (p : h.Perm h') (n : List Tile) : gain h n = gain h' n := by
  unfold gain
  rw [sumT_perm p, sumT_perm (rst_hand_perm p n)]
theorem miss_hand {h h' : List Tile} (p : h.Perm h') (n : List Tile) : miss h n = miss h' n := by
  unfold miss
  rw [p.length_eq, (rst_hand_perm p n).length_eq]
/-! melds in order -/
def insM (t : Meld) : List Meld → List Meld
  | [] => [t]
  | u :: us => if mlt u t = true then u :: insM t us else t :: u :: us
def isortM : List Meld → List Meld
  | [] => []
  | t :: ts => insM t (isortM ts)
theorem insM_perm (t : Meld) : ∀ ts : List Meld, (insM t ts).Perm (t :: ts)
  | [] => .refl _
  | u :: us => by
    unfold insM
    split
    · exact ((insM_perm t us).cons u).trans (.swap t u us)
    · exact .refl _
theorem isortM_perm : ∀ ts : List Meld, (isortM ts).Perm ts
  | [] => .refl _
  | t :: ts => (insM_perm t (isortM ts)).trans ((isortM_perm ts).cons t)
theorem insM_sorted (t : Meld) : ∀ {ts : List Meld}, SortedM ts → SortedM (insM t ts)
  | [], _ => List.pairwise_singleton _ _
  | u :: us, h => by
    have h' := List.pairwise_cons.mp h
    unfold insM
    split
    · rename_i c
      refine List.pairwise_cons.mpr ⟨fun x hx => ?_, insM_sorted t h'.2⟩
      rcases List.mem_cons.mp ((insM_perm t us).mem_iff.mp hx) with rfl | hx
      · exact mlt_asym c
      · exact h'.1 x hx
    · rename_i c
      have c2 : mlt u t = false := by simpa using c
      refine List.pairwise_cons.mpr ⟨fun x hx => ?_, h⟩
      rcases List.mem_cons.mp hx with rfl | hx
      · exact c2
      · exact mlt_tr c2 (h'.1 x hx)
theorem isortM_sorted : ∀ ts : List Meld, SortedM (isortM ts)
  | [] => List.Pairwise.nil
  | t :: ts => insM_sorted t (isortM_sorted ts)
theorem need52 {m c j : Int} (hm : m ≤ 13) (hc : c ≤ 4) {h : List Tile} {xs : List Meld} (l : IsLaying m c h j xs) : In52 (needOf xs) := fun t ht => by
  obtain ⟨x, hx, hxt⟩ := mem_needOf.mp ht
  obtain ⟨a, b, d, e⟩ := tilesIn_house (l.melds x hx) t hxt
  exact ⟨a, by omega, d, by omega⟩
theorem needOf_app (xs ys : List Meld) : needOf (xs ++ ys) = needOf xs ++ needOf ys := by
  unfold needOf
  rw [List.flatMap_append]
/-- two layings together -/
theorem lay_both {m c j1 j2 : Int} (hm : m ≤ 13) (hc : c ≤ 4) {h1 h2 h : List Tile} {xs ys : List Meld} (i1 : In52 h1) (i2 : In52 h2) (p : h.Perm (h1 ++ h2)) (l1 : IsLaying m c h1 j1 xs) (l2 : IsLaying m c h2 j2 ys) :
    IsLaying m c h (j1 + j2) (isortM (xs ++ ys)) ∧ gain h1 (needOf xs) + gain h2 (needOf ys) ≤ gain h (needOf (isortM (xs ++ ys))) := by
  have pn := needOf_perm (isortM_perm (xs ++ ys))
  rw [needOf_app] at pn
  have k1 := need52 hm hc l1
  have k2 := need52 hm hc l2
  refine ⟨⟨fun x hx => ?_, isortM_sorted _, ?_⟩, ?_⟩
  · rcases List.mem_append.mp ((isortM_perm _).mem_iff.mp hx) with z | z
    · exact l1.melds x z
    · exact l2.melds x z
  · rw [miss_perm pn, miss_hand p]
    have := miss_both i1 i2 k1 k2
    have := l1.few
    have := l2.few
    omega
  · rw [gain_perm pn, gain_hand p]
    exact gain_both i1 i2
theorem gain_le {h n : List Tile} (i : In52 h) : gain h n ≤ sumT h := by
  have e := sum_counts (fun t => t.1) nodup52 h (fun t m => mem52 (i t m))
  rw [← gain_sum i]
  show _ ≤ (h.map fun t => t.1).sum
  rw [← e]
  refine sum_le fun t ht => Int.mul_le_mul_of_nonneg_right (by omega) (pos52 t ht)
end MH
/-! T23: the colours in another order. -/
namespace MH
open PySem L2
def turnC (u c k : Int) : Int := (u - k) % c
def turnT (u c : Int) (t : Tile) : Tile := (t.1, turnC u c t.2)
theorem turnC_back {u c k : Int} (hc : 1 ≤ c) (k0 : 0 ≤ k) (kc : k < c) : turnC u c (turnC u c k) = k := by
  unfold turnC
  have e : (u - (u - k) % c) % c = k % c := by
    have h1 := Int.emod_add_mul_ediv (u - k) c
    have : u - (u - k) % c = k + c * ((u - k) / c) := by omega
    rw [this, Int.add_mul_emod_self_left]
  rw [e]
  exact Int.emod_eq_of_lt k0 kc
theorem turnC_box {u c k : Int} (hc : 1 ≤ c) : 0 ≤ turnC u c k ∧ turnC u c k < c := emod_box _ (by omega)
theorem turnT_back {u m c : Int} {t : Tile} (hc : 1 ≤ c) (h : InHouse m c t) : turnT u c (turnT u c t) = t := Prod.ext rfl (turnC_back hc h.2.2.1 h.2.2.2)
theorem turnT_in {u m c : Int} {t : Tile} (hc : 1 ≤ c) (h : InHouse m c t) : InHouse m c (turnT u c t) := ⟨h.1, h.2.1, (turnC_box hc).1, (turnC_box hc).2⟩
theorem turnT_inj {u m c : Int} {s t : Tile} (hc : 1 ≤ c) (hs : InHouse m c s) (ht : InHouse m c t) (e : turnT u c s = turnT u c t) : s = t := by
  rw [← turnT_back hc hs, e, turnT_back hc ht]
theorem map_erase_on {f : Tile → Tile} : ∀ {h : List Tile} {t : Tile}, (∀ x ∈ h, f x = f t → x = t) → (h.erase t).map f = (h.map f).erase (f t)
  | [], _, _ => rfl
  | x :: h, t, inj => by
    by_cases e : x = t
    · subst e
      simp
    · have ne : f x ≠ f t := fun z => e (inj x List.mem_cons_self z)
      rw [List.erase_cons_tail (by simpa using e), List.map_cons, List.map_cons, List.erase_cons_tail (by simpa using ne), map_erase_on fun y hy => inj y (List.mem_cons_of_mem _ hy)]
theorem rst_turn {u m c : Int} (hc : 1 ≤ c) : ∀ (n h : List Tile), (∀ t ∈ h, InHouse m c t) → (∀ t ∈ n, InHouse m c t) → rst (h.map (turnT u c)) (n.map (turnT u c)) = (rst h n).map (turnT u c)
  | [], _, _, _ => rfl
  | t :: n, h, ih, iN => by
    show rst ((h.map (turnT u c)).erase (turnT u c t)) (n.map (turnT u c)) = (rst (h.erase t) n).map (turnT u c)
    rw [← map_erase_on (fun x hx e => turnT_inj hc (ih x hx) (iN t List.mem_cons_self) e)]
    exact rst_turn hc n (h.erase t) (fun x hx => ih x (List.mem_of_mem_erase hx)) fun x hx => iN x (List.mem_cons_of_mem _ hx)
theorem sumT_turn {u c : Int} (h : List Tile) : sumT (h.map (turnT u c)) = sumT h := by
  unfold sumT
  rw [List.map_map]
  rfl
theorem gain_turn {u m c : Int} (hc : 1 ≤ c) {n h : List Tile} (ih : ∀ t ∈ h, InHouse m c t) (iN : ∀ t ∈ n, InHouse m c t) : gain (h.map (turnT u c)) (n.map (turnT u c)) = gain h n := by
  unfold gain
  rw [rst_turn hc n h ih iN, sumT_turn, sumT_turn]
theorem miss_turn {u m c : Int} (hc : 1 ≤ c) {n h : List Tile} (ih : ∀ t ∈ h, InHouse m c t) (iN : ∀ t ∈ n, InHouse m c t) : miss (h.map (turnT u c)) (n.map (turnT u c)) = miss h n := by
  unfold miss
  rw [rst_turn hc n h ih iN, List.length_map, List.length_map, List.length_map]
theorem five_all : (List.range 4).all (fun c => (List.range 4).all fun u => !decide (u ≤ c) || five.all fun cs => !decide (lastI cs < 1 + (c : Int)) || five.any fun ds => decide (lastI ds < 1 + (c : Int)) && ds.isPerm (cs.map (turnC (u : Int) (1 + (c : Int))))) = true := by decide +kernel
theorem five_turn {u c : Int} (hc : 1 ≤ c) (c4 : c ≤ 4) (u0 : 0 ≤ u) (uc : u < c) {cs : List Int} (hf : cs ∈ five) (hl : lastI cs < c) : ∃ ds ∈ five, lastI ds < c ∧ ds.Perm (cs.map (turnC u c)) := by
  have a := List.all_eq_true.mp five_all (c - 1).toNat (List.mem_range.mpr (by omega))
  have b := List.all_eq_true.mp a u.toNat (List.mem_range.mpr (by omega))
  have e1 : (1 + (((c - 1).toNat : Nat) : Int)) = c := by omega
  have e2 : ((u.toNat : Nat) : Int) = u := by omega
  rw [e1, e2] at b
  have b2 : (five.all fun cs => !decide (lastI cs < c) || five.any fun ds => decide (lastI ds < c) && ds.isPerm (cs.map (turnC u c))) = true := by
    rcases Bool.or_eq_true_iff.mp b with z | z
    · have : u.toNat ≤ (c - 1).toNat := by omega
      rw [decide_eq_true this] at z
      cases z
    · exact z
  have d := List.all_eq_true.mp b2 cs hf
  rcases Bool.or_eq_true_iff.mp d with z | z
  · simp [hl] at z
  · obtain ⟨ds, hds, g⟩ := List.any_eq_true.mp z
    rw [Bool.and_eq_true, decide_eq_true_eq] at g
    exact ⟨ds, hds, g.1, List.isPerm_iff.mp g.2⟩
/-- a meld's image -/
theorem meld_turn {u m c : Int} (hc : 1 ≤ c) (c4 : c ≤ 4) (u0 : 0 ≤ u) (uc : u < c) {x : Meld} (h : isMeld m c x = true) : ∃ y, isMeld m c y = true ∧ (tilesIn y).Perm ((tilesIn x).map (turnT u c)) := by
  cases x with
  | run k f z =>
    simp only [isMeld, Bool.and_eq_true, decide_eq_true_eq] at h
    have a := has1_iff.mp h.2.1
    have b := has1_iff.mp h.2.2
    refine ⟨.run (turnC u c k) f z, ?_, ?_⟩
    · simp only [isMeld, Bool.and_eq_true, decide_eq_true_eq]
      exact ⟨h.1, has1_iff.mpr ⟨a.1, a.2.1, (turnC_box hc).1, (turnC_box hc).2⟩, has1_iff.mpr ⟨b.1, b.2.1, (turnC_box hc).1, (turnC_box hc).2⟩⟩
    · simp only [tilesIn, List.map_map]
      exact .refl _
  | grp n cs =>
    have hm := (mem_melds c4 (.grp n cs)).mpr h
    unfold meldsOf at hm
    rcases List.mem_append.mp hm with hg | hr
    · obtain ⟨hn, hf, hl⟩ := mem_grps.mp hg
      obtain ⟨ds, d1, d2, d3⟩ := five_turn hc c4 u0 uc hf hl
      refine ⟨.grp n ds, (mem_melds c4 (.grp n ds)).mp ?_, ?_⟩
      · unfold meldsOf
        exact List.mem_append_left _ (mem_grps.mpr ⟨hn, d1, d2⟩)
      · simp only [tilesIn, List.map_map]
        have := d3.map fun k => ((n, k) : Tile)
        rw [List.map_map] at this
        exact this
    · simp only [runsOf, runsCol, runsAt, List.mem_flatMap, List.mem_map] at hr
      obtain ⟨_, _, _, _, _, _, e⟩ := hr
      cases e
theorem lays_turn {u m c : Int} (hc : 1 ≤ c) (c4 : c ≤ 4) (u0 : 0 ≤ u) (uc : u < c) : ∀ {xs : List Meld}, (∀ x ∈ xs, isMeld m c x = true) → ∃ ys : List Meld, (∀ y ∈ ys, isMeld m c y = true) ∧ (needOf ys).Perm ((needOf xs).map (turnT u c))
  | [], _ => ⟨[], fun y hy => absurd hy List.not_mem_nil, .refl _⟩
  | x :: xs, h => by
    obtain ⟨y, h1, h2⟩ := meld_turn hc c4 u0 uc (h x List.mem_cons_self)
    obtain ⟨ys, h3, h4⟩ := lays_turn hc c4 u0 uc fun z hz => h z (List.mem_cons_of_mem _ hz)
    refine ⟨y :: ys, fun z hz => ?_, ?_⟩
    · rcases List.mem_cons.mp hz with rfl | hz
      · exact h1
      · exact h3 z hz
    · rw [needOf_cons, needOf_cons, List.map_append]
      exact h2.append h4
theorem best_turn_le {u m c j : Int} (hm : 3 ≤ m ∧ m ≤ 13 ∧ 1 ≤ c ∧ c ≤ 4) (u0 : 0 ≤ u) (uc : u < c) {h h' : List Tile} (ih : ∀ t ∈ h, InHouse m c t) (p : h'.Perm (h.map (turnT u c))) (l12 : h.length ≤ 12) (j0 : 0 ≤ j) (j2 : j ≤ 2) :
    (bestOf m c h j).1 ≤ (bestOf m c h' j).1 := by
  obtain ⟨lay, eg, _, _⟩ := bestOf_best hm l12 j0 j2 (h := h)
  have l12' : h'.length ≤ 12 := by rw [p.length_eq, List.length_map]; exact l12
  obtain ⟨_, _, most, _⟩ := bestOf_best hm l12' j0 j2 (h := h')
  obtain ⟨ys, hy, py⟩ := lays_turn hm.2.2.1 hm.2.2.2 u0 uc lay.melds
  have iN : ∀ t ∈ needOf (bestOf m c h j).2, InHouse m c t := fun t ht => by
    obtain ⟨x, hx, hxt⟩ := mem_needOf.mp ht
    exact tilesIn_house (lay.melds x hx) t hxt
  have pn := (needOf_perm (isortM_perm ys)).trans py
  have l : IsLaying m c h' j (isortM ys) := ⟨fun x hx => hy x ((isortM_perm ys).mem_iff.mp hx), isortM_sorted ys, by
    rw [miss_perm pn, miss_hand p, miss_turn hm.2.2.1 ih iN]
    exact lay.few⟩
  have := most _ l
  rw [gain_perm pn, gain_hand p, gain_turn hm.2.2.1 ih iN, ← eg] at this
  exact this
theorem best_turn {u m c j : Int} (hm : 3 ≤ m ∧ m ≤ 13 ∧ 1 ≤ c ∧ c ≤ 4) (u0 : 0 ≤ u) (uc : u < c) {h h' : List Tile} (ih : ∀ t ∈ h, InHouse m c t) (p : h'.Perm (h.map (turnT u c))) (l12 : h.length ≤ 12) (j0 : 0 ≤ j) (j2 : j ≤ 2) :
    (bestOf m c h' j).1 = (bestOf m c h j).1 := by
  refine Int.le_antisymm ?_ (best_turn_le hm u0 uc ih p l12 j0 j2)
  refine best_turn_le (u := u) hm u0 uc (h := h') (h' := h) (fun t ht => ?_) ?_ (by rw [p.length_eq, List.length_map]; exact l12) j0 j2
  · obtain ⟨s, hs, rfl⟩ := List.mem_map.mp (p.mem_iff.mp ht)
    exact turnT_in hm.2.2.1 (ih s hs)
  · have := p.map (turnT u c)
    rw [List.map_map] at this
    have e : h.map (turnT u c ∘ turnT u c) = h := by
      conv => rhs; rw [← List.map_id h]
      exact List.map_congr_left fun t ht => turnT_back hm.2.2.1 (ih t ht)
    rw [e] at this
    exact this.symm
end MH
/-! T24: the greatest worth: more tiles, jokers, hands. -/
namespace MH
open PySem L2
theorem in52_of {m c : Int} (hm : 3 ≤ m ∧ m ≤ 13 ∧ 1 ≤ c ∧ c ≤ 4) {h : List Tile} (g : ∀ t ∈ h, InHouse m c t) : In52 h := fun t ht => by
  obtain ⟨a, b, d, e⟩ := g t ht
  exact ⟨a, by omega, d, by omega⟩
theorem lay_nil {m c j : Int} (h : List Tile) (j0 : 0 ≤ j) : IsLaying m c h j [] := ⟨fun x hx => absurd hx List.not_mem_nil, List.Pairwise.nil, by rw [show needOf [] = [] from rfl, miss_nil]; exact j0⟩
/-- two hands together have no less -/
theorem best_both {m c j1 j2 : Int} (hm : 3 ≤ m ∧ m ≤ 13 ∧ 1 ≤ c ∧ c ≤ 4) {h1 h2 h : List Tile} (g1 : ∀ t ∈ h1, InHouse m c t) (g2 : ∀ t ∈ h2, InHouse m c t) (l1 : h1.length ≤ 12) (l2 : h2.length ≤ 12) (l : h.length ≤ 12)
    (p : h.Perm (h1 ++ h2)) (a0 : 0 ≤ j1) (a2 : j1 ≤ 2) (b0 : 0 ≤ j2) (b2 : j2 ≤ 2) (ab : j1 + j2 ≤ 2) : (bestOf m c h1 j1).1 + (bestOf m c h2 j2).1 ≤ (bestOf m c h (j1 + j2)).1 := by
  obtain ⟨y1, e1, _, _⟩ := bestOf_best hm l1 a0 a2 (h := h1)
  obtain ⟨y2, e2, _, _⟩ := bestOf_best hm l2 b0 b2 (h := h2)
  obtain ⟨_, _, most, _⟩ := bestOf_best hm l (j := j1 + j2) (by omega) ab
  have b := lay_both hm.2.1 hm.2.2.2 (in52_of hm g1) (in52_of hm g2) p y1 y2
  have := most _ b.1
  have := b.2
  rw [e1, e2]
  omega
/-- one more joker -/
theorem best_joker {m c j : Int} (hm : 3 ≤ m ∧ m ≤ 13 ∧ 1 ≤ c ∧ c ≤ 4) {h : List Tile} (l : h.length ≤ 12) (j0 : 0 ≤ j) (j2 : j + 1 ≤ 2) : (bestOf m c h j).1 ≤ (bestOf m c h (j + 1)).1 := by
  obtain ⟨y1, e1, _, _⟩ := bestOf_best hm l j0 (by omega) (h := h) (j := j)
  obtain ⟨_, _, most, _⟩ := bestOf_best hm l (j := j + 1) (by omega) j2
  rw [e1]
  exact most _ ⟨y1.melds, y1.sorted, by have := y1.few; omega⟩
/-- one more tile -/
theorem best_tile {m c j : Int} (hm : 3 ≤ m ∧ m ≤ 13 ∧ 1 ≤ c ∧ c ≤ 4) {h h' : List Tile} {t : Tile} (g : ∀ t ∈ h, InHouse m c t) (gt : InHouse m c t) (p : h'.Perm (h ++ [t])) (l : h'.length ≤ 12) (j0 : 0 ≤ j) (j2 : j ≤ 2) : (bestOf m c h j).1 ≤ (bestOf m c h' j).1 := by
  have lh : h.length ≤ 12 := by
    rw [p.length_eq, List.length_append] at l
    omega
  obtain ⟨y1, e1, _, _⟩ := bestOf_best hm lh j0 j2 (h := h)
  obtain ⟨_, _, most, _⟩ := bestOf_best hm l j0 j2 (h := h')
  have b := lay_both hm.2.1 hm.2.2.2 (in52_of hm g) (in52_of hm (h := [t]) fun x hx => by rw [List.mem_singleton.mp hx]; exact gt) p y1 (lay_nil (m := m) (c := c) [t] (Int.le_refl 0))
  rw [Int.add_zero] at b
  have := most _ b.1
  have z : gain [t] (needOf []) = 0 := by
    unfold gain
    exact Int.sub_self _
  have := b.2
  rw [e1]
  omega
/-- no more than all tiles -/
theorem best_le {m c j : Int} (hm : 3 ≤ m ∧ m ≤ 13 ∧ 1 ≤ c ∧ c ≤ 4) {h : List Tile} (g : ∀ t ∈ h, InHouse m c t) (l : h.length ≤ 12) (j0 : 0 ≤ j) (j2 : j ≤ 2) : (bestOf m c h j).1 ≤ sumT h := by
  obtain ⟨_, e1, _, _⟩ := bestOf_best hm l j0 j2 (h := h)
  rw [e1]
  exact gain_le (in52_of hm g)
/-- a turned hand is a hand -/
theorem turn_hand {u m c j : Int} (hc : 1 ≤ c) {h h' : List Tile} (y : IsHand m c h j) (p : h'.Perm (h.map (turnT u c))) (so : SortedT h') : IsHand m c h' j := by
  have g : ∀ t ∈ h, InHouse m c t := fun t ht => (y.2.2.2.1 t ht).1
  refine ⟨by rw [p.length_eq, List.length_map]; exact y.1, y.2.1, y.2.2.1, fun t ht => ?_, so⟩
  obtain ⟨s, hs, rfl⟩ := List.mem_map.mp (p.mem_iff.mp ht)
  refine ⟨turnT_in hc (g s hs), ?_⟩
  rw [p.count_eq, List.count_eq_countP, List.countP_map]
  have e : h.countP ((fun x => x == turnT u c s) ∘ turnT u c) = h.count s := by
    rw [List.count_eq_countP]
    refine List.countP_congr fun x hx => ?_
    simp only [Function.comp, beq_iff_eq]
    exact ⟨fun e => turnT_inj hc (g x hx) (g s hs) e, fun e => by rw [e]⟩
  rw [e]
  exact (y.2.2.2.1 s hs).2
end MH
/-! T25: going out and the helpers, by the best laying. -/
namespace MH
open PySem L2
theorem rd_neB {K : PySem.W.Frag} {H : Hp} {Q : VK} {a b : Bool} (h : Q (.bl (!decide (a = b))) H) : rNeA K (.bl a) (.bl b) H Q := .inl ⟨rfl, by
  have e : decide (V.bl a = V.bl b) = decide (a = b) := decide_eq_decide.mpr ⟨fun e => V.bl.inj e, fun e => by rw [e]⟩
  rw [e]; exact h⟩
theorem sumT_zero {ts : List Tile} (g : ∀ t ∈ ts, 1 ≤ t.1) : sumT ts = 0 → ts = [] := by
  have nn : ∀ us : List Tile, (∀ t ∈ us, 1 ≤ t.1) → 0 ≤ sumT us := fun us => by
    unfold sumT
    induction us with
    | nil => intro _; exact Int.le_refl _
    | cons u us ih =>
      intro h
      rw [List.map_cons, List.sum_cons]
      have := h u List.mem_cons_self
      have := ih fun t ht => h t (List.mem_cons_of_mem _ ht)
      omega
  cases ts with
  | nil => exact fun _ => rfl
  | cons t ts =>
    intro e
    have e' : t.1 + sumT ts = 0 := e
    have := g t List.mem_cons_self
    have := nn ts fun u hu => g u (List.mem_cons_of_mem _ hu)
    omega
/-- it goes out just where the best laying leaves none -/
theorem out_iff {m c j : Int} (hm : 3 ≤ m ∧ m ≤ 13 ∧ 1 ≤ c ∧ c ≤ 4) {h : List Tile} (g : ∀ t ∈ h, InHouse m c t) (l : h.length ≤ 12) (j0 : 0 ≤ j) (j2 : j ≤ 2) : outB m c h j = decide (rst h (needOf (bestOf m c h j).2) = []) := by
  obtain ⟨_, e1, _, _⟩ := bestOf_best hm l j0 j2 (h := h)
  unfold outB
  rw [e1]
  refine decide_eq_decide.mpr ⟨fun e => sumT_zero (fun t ht => (g t (rst_mem ht)).1) ?_, fun e => ?_⟩
  · unfold gain at e
    omega
  · unfold gain
    rw [e]
    exact Int.sub_zero _
theorem mem_helpL {m c j : Int} {h : List Tile} {t : Tile} : t ∈ helpL m c h j ↔ InHouse m c t ∧ h.count t < 2 ∧ outB m c (isortT (h ++ [t])) j = true := by
  unfold helpL
  rw [List.mem_flatMap]
  constructor
  · rintro ⟨n, hn, ht⟩
    obtain ⟨k, hk, e⟩ := List.mem_filterMap.mp ht
    have hn := List.mem_range.mp hn
    have hk := List.mem_range.mp hk
    unfold helpAt at e
    split at e
    · rename_i z
      have e2 := Option.some.inj e
      subst e2
      exact ⟨⟨by show 1 ≤ 1 + (n : Int); omega, by show 1 + (n : Int) ≤ m; omega, by show 0 ≤ (k : Int); omega, by show (k : Int) < c; omega⟩, z⟩
    · cases e
  · rintro ⟨⟨a, b, d, e⟩, z⟩
    refine ⟨(t.1 - 1).toNat, List.mem_range.mpr (by omega), List.mem_filterMap.mpr ⟨t.2.toNat, List.mem_range.mpr (by omega), ?_⟩⟩
    have e1 : ((1 + ((t.1 - 1).toNat : Int), (t.2.toNat : Int)) : Tile) = t := Prod.ext (by show 1 + ((t.1 - 1).toNat : Int) = t.1; omega) (by show (t.2.toNat : Int) = t.2; omega)
    unfold helpAt
    rw [e1, if_pos z]
theorem helpF_len {m c j : Int} {h : List Tile} (l : h.length ≤ 11) : helpF m c h j = helpL m c h j := by
  unfold helpF
  rw [if_neg (by omega)]
/-- a tile put in -/
theorem put_hand {m c j : Int} {h h' : List Tile} {t : Tile} (y : IsHand m c h j) (l : h.length ≤ 11) (gt : InHouse m c t) (few : h.count t < 2) (p : h'.Perm (h ++ [t])) (so : SortedT h') : IsHand m c h' j := by
  refine ⟨by rw [p.length_eq, List.length_append, List.length_singleton]; omega, y.2.1, y.2.2.1, fun u hu => ⟨?_, ?_⟩, so⟩
  · rcases List.mem_append.mp (p.mem_iff.mp hu) with z | z
    · exact (y.2.2.2.1 u z).1
    · rw [List.mem_singleton.mp z]
      exact gt
  · rw [p.count_eq, List.count_append]
    by_cases e : u = t
    · subst e
      rw [List.count_singleton_self]
      omega
    · have : [t].count u = 0 := List.count_eq_zero.mpr fun z => e (List.mem_singleton.mp z)
      rw [this]
      by_cases mu : u ∈ h
      · exact (y.2.2.2.1 u mu).2
      · rw [List.count_eq_zero.mpr mu]
        omega
theorem help_iff {m c j : Int} {h zs : List Tile} {t : Tile} (l : h.length ≤ 11) (gt : InHouse m c t) (few : h.count t < 2) (p : zs.Perm (h ++ [t])) (so : SortedT zs) (i : Decidable (t ∈ helpF m c h j)) : @decide (t ∈ helpF m c h j) i = outB m c zs j := by
  rw [isortT_eq p so]
  cases e : outB m c (isortT (h ++ [t])) j with
  | true => exact decide_eq_true (by rw [helpF_len l]; exact mem_helpL.mpr ⟨gt, few, e⟩)
  | false =>
    refine decide_eq_false fun z => ?_
    rw [helpF_len l] at z
    have := (mem_helpL.mp z).2.2
    rw [e] at this
    cases this
/-- a tile taken out -/
theorem out_perm {h : List Tile} {i : Nat} {t : Tile} (e : h[i]? = some t) : h.Perm ((h.take i ++ h.drop (i + 1)) ++ [t]) := by
  obtain ⟨hi, e2⟩ := List.getElem?_eq_some_iff.mp e
  have s : h = h.take i ++ t :: h.drop (i + 1) := by
    conv => lhs; rw [← List.take_append_drop i h, List.drop_eq_getElem_cons hi, e2]
  conv => lhs; rw [s]
  rw [List.append_assoc]
  exact (List.perm_append_comm (l₁ := [t]) (l₂ := h.drop (i + 1))).append_left _
theorem out_hand {m c j : Int} {h : List Tile} {i : Nat} {t : Tile} (y : IsHand m c h j) (e : h[i]? = some t) : IsHand m c (h.take i ++ h.drop (i + 1)) j ∧ (h.take i ++ h.drop (i + 1)).count t < 2 ∧ (h.take i ++ h.drop (i + 1)).length ≤ 11 := by
  have p := out_perm e
  have sl : (h.take i ++ h.drop (i + 1)).Sublist h := by
    conv => rhs; rw [← List.take_append_drop i h]
    refine List.Sublist.append (List.Sublist.refl _) ?_
    rw [← List.drop_drop]
    exact List.drop_sublist 1 _
  have ct := p.count_eq t
  rw [List.count_append, List.count_singleton_self] at ct
  have c2 := (y.2.2.2.1 t (List.mem_of_getElem? e)).2
  have le := p.length_eq
  rw [List.length_append, List.length_singleton] at le
  have l12 := y.1
  refine ⟨⟨by omega, y.2.1, y.2.2.1, fun u hu => ⟨(y.2.2.2.1 u (sl.subset hu)).1, ?_⟩, y.2.2.2.2.sublist sl⟩, by omega, by omega⟩
  exact Nat.le_trans (sl.count_le u) (y.2.2.2.1 u (sl.subset hu)).2
/-- .. is a helper of what is left -/
theorem out_help {m c j : Int} {h : List Tile} {i : Nat} {t : Tile} (y : IsHand m c h j) (e : h[i]? = some t) (o : outB m c h j = true) (d : Decidable (t ∈ helpF m c (h.take i ++ h.drop (i + 1)) j)) : @decide (t ∈ helpF m c (h.take i ++ h.drop (i + 1)) j) d = true := by
  obtain ⟨_, few, l⟩ := out_hand y e
  rw [help_iff l (y.2.2.2.1 t (List.mem_of_getElem? e)).1 few (out_perm e) y.2.2.2.2]
  exact o
end MH
/-! T26: y = [e for ..] where e may raise. -/
namespace MH
open PySem L2
section
variable {X Y : Cx} {pins pins' : List (Addr × Obj)} {σ σ' : St} {H H' H3 : Hp} {s s' s3 : Shared} {E : XK} {W : WX}
/-- behind a call that let an exception out: the state t without it, the exception in flight -/
theorem air_of {u : Value} (I : Inv Y pins σ H s) (c : L2.CX Y.prog Y.w Y.stack H s E u s') :
    ∃ (a : Addr) (B : Heap) (t : Shared) (H' : Hp) (cls : Value) (d : Option Addr), u = .ref a ∧ Inv Y pins σ H' t ∧ (∀ b o, t.heap.get? b = some o → b ∉ frs Y.stack → B.get? b = some o) ∧
      t.heap.UpToSlots s'.heap ∧ HandSPX.FlyingZ B Y.stack a (Zc cls d) s'.heap ∧ H' a = none ∧ s'.os = t.os ∧ PyProof.Rows.AllBare s'.gens ∧ E cls d H' := by
  obtain ⟨a, B, H', cls, d, rfl, fly, okB, ub, na, os, bare, want⟩ := c
  obtain ⟨G, g1, g2⟩ := restrict s'.heap fun b => (B.get? b).isSome || decide (b ∈ frs Y.stack)
  have toG : ∀ b o, s'.heap.get? b = some o → ((B.get? b).isSome = true ∨ b ∈ frs Y.stack) → G.get? b = some o := fun b o e z => by
    rw [g1 b (by rcases z with z | z <;> simp [z])]
    exact e
  have ofG : ∀ b o, G.get? b = some o → s'.heap.get? b = some o ∧ ((B.get? b).isSome = true ∨ b ∈ frs Y.stack) := fun b o e => by
    by_cases q : ((B.get? b).isSome || decide (b ∈ frs Y.stack)) = true
    · rw [g1 b q] at e
      exact ⟨e, by simpa using q⟩
    · rw [g2 b (by simpa using q)] at e
      cases e
  have BG : ∀ b o, B.get? b = some o → G.get? b = some o := fun b o e => toG b o (fly.1 b o e) (.inl (by rw [e]; rfl))
  have slots : ∀ b o, s.heap.get? b = some o → b ∈ frs Y.stack → ∃ sl, G.get? b = some { o with slots := sl } := fun b o e hb => by
    obtain ⟨sl, q⟩ := ub.slot b o e hb
    exact ⟨sl, toG b _ q (.inr hb)⟩
  refine ⟨a, B, { s with heap := G, gens := s'.gens, drawn := s'.drawn, toks := s'.toks }, H', cls, d, rfl, ?_, fun b o e hb => ?_, fun b o e _ => ⟨o.slots, (ofG b o e).1⟩, fly, na, os, bare, want⟩
  · have un : Un (frs Y.stack) [] H H' s.heap G := {
      keep := fun b o e n hb _ => BG b o (ub.keep b o e n hb)
      slot := fun b o e _ hb _ => slots b o e hb
      free := fun b o e n _ => ub.free b o e n
      there := fun b o e _ => by
        by_cases hb : b ∈ frs Y.stack
        · obtain ⟨sl, q⟩ := slots b o e hb
          exact ⟨_, q⟩
        · obtain ⟨o', q⟩ := ub.there b o e hb
          exact ⟨o', BG b o' q⟩
      tups := ub.tups
      frzs := ub.frzs
      tbls := ub.tbls }
    exact I.call un (okB.kept BG) bare fun _ z => nomatch z
  · obtain ⟨e', z⟩ := ofG b o e
    rcases z with z | z
    · obtain ⟨o', q⟩ := Option.isSome_iff_exists.mp z
      rw [← e', fly.1 b o' q, q]
    · exact absurd z hb
theorem frames_sub {h h' B B' : Heap} (kb : ∀ L, B.get? L = none → B'.get? L = none) : ∀ {l : List Env}, (∀ L ∈ frs l, h'.get? L = h.get? L) → h.FunFrames B l → h'.FunFrames B' l
  | [], _, _ => trivial
  | env :: l, k, hl => by
    obtain ⟨h1, ⟨L, o, hf, hn, ho, hd⟩, h2⟩ := hl
    refine ⟨h1, ⟨L, o, hf, kb L hn, ?_, hd⟩, frames_sub kb (fun b hb => k b ?_) h2⟩
    · rw [k L (List.mem_filterMap.mpr ⟨env, List.mem_cons_self, hf⟩)]
      exact ho
    · obtain ⟨e, he, q⟩ := List.mem_filterMap.mp hb
      exact List.mem_filterMap.mpr ⟨e, List.mem_cons_of_mem _ he, q⟩
theorem note_as {e : Value} {a b : Env} (h : a.frame = b.frame) : noteFrame e a = noteFrame e b := by
  unfold noteFrame frameOf
  rw [h]
/-- an exception leaves a comprehension's block C: it is noted, the block let go, and it goes on in the def -/
theorem block_fails {u : Value} {xe : Value → Shared → Prop} {ce : Env} {fp : List Addr} {scope : Scope} (hs : X.stack = X.env :: X.outer) (hf : X.env.frame = some X.env.locals) (tk : Takes X W) (hW : ∀ cls d σ H, E cls d H → W cls d σ H)
    (I3 : Inv X pins σ H3 s3) (f3 : ∀ b ∈ fp, FpOk X pins H3 b ∧ b < s3.heap.objs.size) (hL : ce.locals = s3.heap.objs.size) (hF : ce.frame = X.env.frame)
    (I : Inv ((X.blk s3 H3 scope ce fp).wish xe) pins' σ' H s) (c : L2.CX X.prog X.w X.stack H s E u s') :
    notedBy (model X.prog X.w) X.A ce (fun e s1 => CompFails (model X.prog X.w) X.A X.xe ce e s1) u s' := by
  obtain ⟨a, B, t, H', cls, d, rfl, I', nb, up, fly, na, os, bare, want⟩ := air_of I c
  have fly : HandSPX.FlyingZ B (X.env :: X.outer) a (Zc cls d) s'.heap := by
    rw [← hs]
    exact fly
  have hfr : X.A.frames = some (X.env :: X.outer) := by
    rw [← hs]
    exact I3.ok.frames
  show wpAny (model X.prog X.w) X.A (noteFrame (.ref a) ce) _ _ s'
  rw [note_as hF]
  refine HandSPX.looks_onZ Zc.steady hfr hf fly fun h1 held up1 => ?_
  obtain ⟨m, nsC, _⟩ := I'.loc
  have nsC : t.heap.Ns ce.locals m := nsC
  have nC : H' ce.locals = none := I'.free
  have ns1 := (up.trans up1).ns nsC
  refine ⟨m, ns1, fun h2 m2 _ sb => ?_⟩
  -- the block's own address
  generalize hC : ce.locals = C at *
  obtain ⟨oC, es, ep, hoC, hdC, _⟩ := ns1
  have notC : ∀ b o vs, h1.get? b = some o → o.data = .fields vs → b ≠ C := fun b o vs e hd z => by
    rw [z, hoC] at e
    cases e
    rw [hdC] at hd
    cases hd
  have frC : ∀ b ∈ frs (X.env :: X.outer), b ≠ C := fun b hb z => by
    rw [← hs] at hb
    obtain ⟨_, o, e, _⟩ := I3.stack.mem hb
    have := Heap.lt_size e
    rw [z, hL] at this
    exact absurd this (Nat.lt_irrefl _)
  obtain ⟨B2, b1, b2⟩ := restrict B fun b => decide (b ≠ C)
  obtain ⟨G2, g1, g2⟩ := restrict t.heap fun b => decide (b ≠ C)
  have ofB : ∀ b o, B2.get? b = some o → b ≠ C ∧ B.get? b = some o := fun b o e => by
    by_cases z : b = C
    · rw [b2 b (by simp [z])] at e
      cases e
    · rw [b1 b (by simp [z])] at e
      exact ⟨z, e⟩
  have ofG : ∀ b o, G2.get? b = some o → b ≠ C ∧ t.heap.get? b = some o := fun b o e => by
    by_cases z : b = C
    · rw [g2 b (by simp [z])] at e
      cases e
    · rw [g1 b (by simp [z])] at e
      exact ⟨z, e⟩
  have noB : ∀ b, B.get? b = none → B2.get? b = none := fun b e => by
    cases q : B2.get? b with
    | none => rfl
    | some o =>
      have := (ofB b o q).2
      rw [e] at this
      cases this
  obtain ⟨k1, k2, k3, oe, vs, T, oT, ts, he, hz, hd, hv, hT, hTe, hoT, hdT, h3⟩ := held
  have aC := notC a oe vs he hd
  have TC := notC T oT ts hoT hdT
  have held2 : HandSPX.HeldZ B2 (X.env :: X.outer) a (Zc cls d) X.env.locals h2 := by
    refine ⟨fun b o e => ?_, noB a k2, frames_sub noB (fun b hb => sb.2 b (frC b hb)) k3, oe, vs, T, oT, ts, ?_, hz, hd, hv, noB T hT, hTe, ?_, hdT, h3⟩
    · obtain ⟨z, e⟩ := ofB b o e
      rw [sb.2 b z]
      exact k1 b o e
    · rw [sb.2 a aC]
      exact he
    · rw [sb.2 T TC]
      exact hoT
  have he2 : h2.get? a = some oe := by
    rw [sb.2 a aC]
    exact he
  -- it goes on
  unfold PySem.passOn
  refine wpAny_bind (wpAny_field he2 hd hv ?_)
  rw [if_neg (by simp)]
  have J0 : Inv X pins σ H' t := I3.call' (ch := fp) I'.os I'.base I'.hok I'.bare fun b hb => ⟨(f3 b hb).1.2.2.2.1, (f3 b hb).1.2.1, (f3 b hb).1.2.2.2.2.1, (f3 b hb).1.2.2.2.2.2⟩
  obtain ⟨p0, p1, p2, p3, p4, p5⟩ : FpOk X pins H' C := I3.fpOk (by rw [hL]; exact Nat.le_refl _) nC
  have J : Inv X pins σ H' { t with heap := G2 } := J0.turned (t' := t.toks) (it := C) (fun b o hb e => by rw [g1 b (by simp [hb])]; exact e) p0 p1 p3 p4 p5
  have go : wpAny (model X.prog X.w) X.A (setFlight (.ref a) ce.frame) (fun _ s4 => wpAny (model X.prog X.w) X.A (throw (.ref a) : Sem Value) (fun _ _ => False) X.xe s4) X.xe { s' with heap := h2 } := by
    rw [hF, hf]
    refine HandSPX.setFlight_onZ held2 fun h4 held4 up4 => wpAny_throw (tk _ _ ?_)
    refine ⟨a, B2, { t with heap := G2 }, pins, σ, H', cls, d, rfl, J, fun b o e hb => ?_, fun b o e nf => ?_, .inr (.inr (by rw [hs]; exact held4)), na, os, bare, hW _ _ _ _ want⟩
    · obtain ⟨z, e⟩ := ofG b o e
      rw [b1 b (by simp [z])]
      exact nb b o e hb
    · obtain ⟨z, e⟩ := ofG b o e
      obtain ⟨sl, e1⟩ := (up.trans up1) b o e nf
      obtain ⟨sl4, e4⟩ := up4 b { o with slots := sl } ((sb.2 b z).trans e1) nf
      exact ⟨sl4, e4⟩
  first
    | exact wpAny_bind (wpAny_pure (wpAny_bind go))
    | exact wpAny_bind go
end
end MH
/-! T27: the rule for y = [e for ..], e may raise. -/
namespace MH
open PySem L2
section
variable {X : Cx} {W : WX} {E : XK}
/-- the context of a comprehension's block, what is raised in it wished for by xe -/
abbrev blkX (X : Cx) (scope : Scope) (s : Shared) (H : Hp) (C : Addr) (cl : List (Str × Addr)) (fp : List Addr) (xe : Value → Shared → Prop) : Cx := (X.blk s H scope (compEnvC scope cl C X.env) fp).wish xe
theorem lc_raise {pins : List (Addr × Obj)} {s : Shared} {σ : St} {H : Hp} {Q : VK} {elt tg iter : Expr} {ifs : List Expr} {scope : Scope} {own : List (Str × Nat)} {pos pos' : Pos} {wi : TI} {g : TG} {tt : TT} {te : TE} {use : Value → Sem Unit} {Qf : Value → Shared → Prop}
    (hst : X.stack = X.env :: X.outer) (hf : X.env.frame = some X.env.locals) (tk : Takes X W) (hW : ∀ cls d σ H, E cls d H → W cls d σ H)
    (hc : X.calm = true) (hN : X.N.Nodup) (I : Inv X pins σ H s) (hi : PI X tg iter wi) (ok : BlkOk X.N X.env.scope scope own)
    (hg : ∀ s H C cl fp xe, PG (blkX X scope s H C cl fp xe) tg g) (ht : ∀ s H C cl fp xe, PTs (blkX X scope s H C cl fp xe) ifs tt)
    (he : ∀ s H C cl fp xe, Passes (L2.CX X.prog X.w) (blkX X scope s H C cl fp xe) E → PE (blkX X scope s H C cl fp xe) elt te) (hs : ∀ x, foldedSetIterable iter X.env x = pure x)
    (h : tLc wi g tt te (own.map (·.2)) σ H Q)
    (fin : ∀ D C s' m H', Inv X pins σ H' s' → Q (.ref D) H' → s'.heap.Ns C m → FpOk X pins H' C →
      wpAny (model X.prog X.w) X.A (use (.ref D)) (fun _ s2 => ∃ m, s2.heap.Ns C m ∧ ∀ h', Heap.SameBut C s2.heap h' → Qf .none { s2 with heap := h' }) X.xe s') :
    wpAny (model X.prog X.w) X.A (comprehension (.ListComp elt [⟨tg, iter, ifs, 0⟩] scope pos) scope X.env pos' (newList []) false (eval iter X.env) (some use)) Qf X.xe s := by
  have frees : ∀ z ∈ scope.names, z.2 = .free → ∃ c, X.env.cells.lookup z.1 = some c := fun z hz e => (ok.free z hz e).elim (fun k => I.ok.has _ (.inl k)) fun k => I.ok.has _ (.inr k)
  refine comprehension_at (use := some use) rfl hs (closure_ok frees) ok.kind (fun z hz e => by rw [ok.uniq z hz, e]) (thn (hi.run pins s σ H _ I h) fun xv s1 hx => thn hx fun itv s2 h2 => ?_)
  obtain ⟨it, fp, tn, J, H2, rfl, I2, T, st2, f2, q⟩ := h2
  refine wpAny_newObj_type (newEnv_comp ?_) (by show 0 ≤ sizeLine; decide)
  generalize hD : s2.heap.objs.size = D
  have hDn : H2 D = none := I2.hok.fresh (Nat.le_of_eq hD)
  obtain ⟨Wn, ⟨m0, w0⟩, turn⟩ := q D hDn
  generalize hs3 : ({ s2 with heap := s2.heap.push { cls := .type "list", data := .seq ([] : List Value).toArray } } : Shared) = s3
  have h3 : s3.heap = s2.heap.push { cls := .type "list", data := .seq ([] : List Value).toArray } := by rw [← hs3]
  have old3 : ∀ b o, s2.heap.get? b = some o → s3.heap.get? b = some o := fun b o e => by
    rw [h3]
    exact Heap.get?_push_of_some _ e
  have I3 : Inv X pins σ (upd H2 D (.lst [])) s3 := by
    rw [← hs3]
    refine I2.laid (t' := s2.toks) (fun b o e => Heap.get?_push_of_some _ e) (Nat.le_of_eq hD) ⟨Nat.zero_le _, [], 0, .nil, ?_⟩
    rw [← hD]
    exact Heap.get?_push_size _ rfl
  have lt2 : ∀ b ∈ fp, b < s2.heap.objs.size := fun b hb => by
    obtain ⟨o, e, _⟩ := T.obj _ _ st2 b hb
    exact Heap.lt_size e
  have f3 : ∀ b ∈ fp, FpOk X pins (upd H2 D (.lst [])) b ∧ b < s3.heap.objs.size := fun b hb => by
    have lb := lt2 b hb
    refine ⟨⟨?_, (f2 b hb).2⟩, by rw [h3, Heap.size_push]; exact Nat.lt_succ_of_lt lb⟩
    rw [upd_ne (hD ▸ Nat.ne_of_lt lb)]
    exact (f2 b hb).1
  have st3 : tn 0 s3.heap := T.keep _ _ _ st2 fun b _ o e => old3 b o e
  generalize hH3 : upd H2 D (.lst []) = H3 at I3 w0 f3
  have I4 := block_start I3 ok hN f3
  generalize hcl : cellsFrom (s3.heap.objs.size + 1) scope.names (cloFrom X.env.cells scope.names []) = cl at I4
  show codeAny _ _ (.compStart (.ListComp elt [⟨tg, iter, ifs, 0⟩] scope pos) 0 (.ref it) (.ref D) (compEnvC scope cl s3.heap.objs.size X.env))
    (compEnds (model X.prog X.w) X.A X.xe (some use) Qf (.ref D) (compEnvC scope cl s3.heap.objs.size X.env)) { s3 with heap := pushCells (s3.heap.push { cls := .type "dict", data := .dict #[] }) scope.names }
  obtain ⟨xe, hxe⟩ : ∃ xe, xe = notedBy (model X.prog X.w) X.A (compEnvC scope cl s3.heap.objs.size X.env) (fun e s1 => CompFails (model X.prog X.w) X.A X.xe (compEnvC scope cl s3.heap.objs.size X.env) e s1) := ⟨_, rfl⟩
  have pg := hg s3 H3 s3.heap.objs.size cl fp xe
  have pt := ht s3 H3 s3.heap.objs.size cl fp xe
  have pe := he s3 H3 s3.heap.objs.size cl fp xe fun pins' σ' H' s5 u s6 I' c => by
    show xe u s6
    rw [hxe]
    exact block_fails hst hf tk hW I3 f3 rfl rfl I' c
  have none3 : ∀ b ∈ fp, H3 b = none := fun b hb => (f3 b hb).1.1
  have cL : (compEnvC scope cl s3.heap.objs.size X.env).locals = s3.heap.objs.size := rfl
  generalize hce : compEnvC scope cl s3.heap.objs.size X.env = ce at I4 pg pt pe hxe cL ⊢
  have pg : PG ((X.blk s3 H3 scope ce fp).wish xe) tg g := by rw [← hce]; exact pg
  have pt : PTs ((X.blk s3 H3 scope ce fp).wish xe) ifs tt := by rw [← hce]; exact pt
  have pe : PE ((X.blk s3 H3 scope ce fp).wish xe) elt te := by rw [← hce]; exact pe
  have I4 : Inv ((X.blk s3 H3 scope ce fp).wish xe) [] (wipe σ (own.map (·.2))) H3 { s3 with heap := pushCells (s3.heap.push { cls := .type "dict", data := .dict #[] }) scope.names } := I4.wish xe
  generalize hs4 : ({ s3 with heap := pushCells (s3.heap.push { cls := .type "dict", data := .dict #[] }) scope.names } : Shared) = s4 at I4 ⊢
  have st4 : tn 0 s4.heap := T.keep _ _ _ st3 fun b _ o e => by
    rw [← hs4]
    exact pushCells_keeps _ _ _ _ (Heap.get?_push_of_some _ e)
  have stat : ∀ {σ' : St} {H' : Hp} {s' : Shared}, Inv ((X.blk s3 H3 scope ce fp).wish xe) [] σ' H' s' → (∀ b ∈ fp, H' b = none) → ∀ b ∈ fp, FpOk ((X.blk s3 H3 scope ce fp).wish xe) [] H' b := fun {σ' H' s'} I' hn b hb =>
    ⟨hn b hb, (I'.ok.exf b hb).1, I'.ok.exfs b hb, .inl hb, fun x c e => (I'.ok.exf b hb).2 x c e, fun p hp => absurd (show p ∈ ([] : List (Addr × Obj)) ++ [] from hp) (by simp)⟩
  have loop : codeAny (model X.prog X.w) X.A (.compLoop (.ListComp elt [⟨tg, iter, ifs, 0⟩] scope pos) 0 (.ref it) (.ref D) ce) (compEnds (model X.prog X.w) X.A X.xe (some use) Qf (.ref D) ce) s4 := by
    refine compLoop_any (fun n s' => ∃ i H', Inv ((X.blk s3 H3 scope ce fp).wish xe) [] (wipe σ (own.map (·.2))) H' s' ∧ tn i s'.heap ∧ (∀ b ∈ fp, H' b = none) ∧ Wn i n H') ?_ m0 ⟨0, H3, I4, st4, none3, w0⟩
    rintro n s5 ⟨i, H5, I5, st5, n5, w5⟩
    have exe : ∀ e s', xe e s' → notedBy (model X.prog X.w) X.A ce (fun e s1 => compEnds (model X.prog X.w) X.A X.xe (some use) Qf (.ref D) ce (.error e) s1) e s' := fun e s' q => by
      rw [hxe] at q
      exact q
    rcases turn i n H5 w5 with ⟨stop, qq⟩ | ⟨go, Nx, hNx, step⟩
    · refine thnF (T.done ((X.blk s3 H3 scope ce fp).wish xe) rfl rfl rfl hc i [] s5 _ H5 (fun _ _ => False) I5 (stat I5 n5) st5 stop) fun r s6 ⟨hr, I6⟩ => ?_
      subst hr
      have I7 : Inv X pins σ H5 s6 := I3.call' (ch := fp) I6.os I6.base I6.hok I6.bare fun b hb => ⟨(f3 b hb).1.2.2.2.1, (f3 b hb).1.2.1, (f3 b hb).1.2.2.2.2.1, (f3 b hb).1.2.2.2.2.2⟩
      have nC : H5 s3.heap.objs.size = none := by
        have z : H5 ce.locals = none := I6.free
        rw [cL] at z
        exact z
      obtain ⟨m, hn, _⟩ := I6.loc
      have hn : s6.heap.Ns ce.locals m := hn
      show wpAny (model X.prog X.w) X.A (use (.ref D)) (fun _ s2 => ∃ m, s2.heap.Ns ce.locals m ∧ ∀ h', Heap.SameBut ce.locals s2.heap h' → Qf .none { s2 with heap := h' }) X.xe s6
      rw [cL] at hn ⊢
      exact fin D s3.heap.objs.size s6 m H5 I7 qq hn (I3.fpOk (Nat.le_refl _) nC)
    · refine thnF (T.item ((X.blk s3 H3 scope ce fp).wish xe) rfl rfl rfl hc i [] s5 _ H5 (fun _ _ => False) I5 (stat I5 n5) st5 go) fun r s6 ⟨u, hr, h6⟩ => ?_
      subst hr
      refine thnF h6 fun _ s7 ⟨x, H7, I7, r7, y7, st7, n7⟩ => ?_
      have I7' := I7.pinned (stat I7 n7) (T.obj _ _ st7)
      refine wpAny_mono (pg.run _ s7 _ H7 x u _ I7' r7 (step x H7 y7)) (fun _ s8 ⟨σ8, H8, I8, hw8, q8⟩ => ?_) exe
      refine wpAny_mono (pt.run _ s8 σ8 H8 _ I8 q8) (fun b s9 ⟨H9, I9, q9⟩ => ?_) exe
      have next : ∀ {s' : Shared} {H' : Hp}, Inv ((X.blk s3 H3 scope ce fp).wish xe) ([] ++ pinsAt fp s7.heap) σ8 H' s' → Nx H' → ∃ m, m < n ∧ ∃ i H', Inv ((X.blk s3 H3 scope ce fp).wish xe) [] (wipe σ (own.map (·.2))) H' s' ∧ tn i s'.heap ∧ (∀ b ∈ fp, H' b = none) ∧ Wn i m H' := fun {s' H'} I' nx => by
        obtain ⟨m', hm, w'⟩ := hNx H' nx
        have kept : ∀ b ∈ fp, ∀ o, s7.heap.get? b = some o → s'.heap.get? b = some o ∧ H' b = none := fun b hb o e => by
          have z := I'.pin (b, o) (List.mem_append_right _ (List.mem_append_right _ (mem_pinsAt hb e)))
          exact ⟨z.1, z.2.1⟩
        have len : (wipe σ (own.map (·.2))).length = σ8.length := by rw [← hw8, wipe_length]
        refine ⟨m', hm, i + 1, H', (I'.unpinned (pins := [])).weak len (fun j v e => ?_), T.keep _ _ _ st7 fun b hb o e => (kept b hb o e).1, fun b hb => ?_, w'⟩
        · rw [← hw8] at e
          exact (wipe_some e).1
        · obtain ⟨o, e, _⟩ := T.obj _ _ st7 b hb
          exact (kept b hb o e).2
      cases b with
      | false => exact next I9 q9
      | true =>
        refine wpAny_mono (pe.run _ s9 σ8 H9 _ I9 q9) (fun z s10 ⟨yv, H10, I10, r10, acc, hD10, hz10, nx⟩ => ?_) exe
        exact app_ok (X := (X.blk s3 H3 scope ce fp).wish xe) I10 hD10 hz10 r10 fun s11 I11 => next I11 nx
  exact codeAny_compStart_list loop (T.self X.A 0 _ _ _ st4 loop)
/-- y = [e for ..], on one line, y a local, e may raise -/
theorem ps_setLcX {i : Nat} {y : Str} {py : Pos} {elt tg iter : Expr} {ifs : List Expr} {scope : Scope} {own : List (Str × Nat)} {pos spos : Pos} {wi : TI} {g : TG} {tt : TT} {te : TE}
    (hst : X.stack = X.env :: X.outer) (hf : X.env.frame = some X.env.locals) (tk : Takes X (fun cls d _ H => E cls d H))
    (hc : X.calm = true) (hN : X.N.Nodup) (hy : X.N[i]? = some y) (hyl : X.env.scope.names.lookup y = some .local)
    (hsw : swapsWith (.ListComp elt [⟨tg, iter, ifs, 0⟩] scope pos) (some (.Name y py)) spos.line X.env = pure true) (hi : PI X tg iter wi) (ok : BlkOk X.N X.env.scope scope own)
    (hg : ∀ s H C cl fp xe, PG (blkX X scope s H C cl fp xe) tg g) (ht : ∀ s H C cl fp xe, PTs (blkX X scope s H C cl fp xe) ifs tt)
    (he : ∀ s H C cl fp xe, Passes (L2.CX X.prog X.w) (blkX X scope s H C cl fp xe) E → PE (blkX X scope s H C cl fp xe) elt te) (hs : ∀ x, foldedSetIterable iter X.env x = pure x := by intro _; rfl) :
    PS X (.Assign [.Name y py] (.ListComp elt [⟨tg, iter, ifs, 0⟩] scope pos) spos) (tAsg (tLc wi g tt te (own.map (·.2))) (gName i)) := by
  refine ⟨fun pins s σ H D I h => ?_⟩
  rw [exec_Assign_Name_used _ _ _ _ hsw]
  refine wpAny_bind (wpAny_standAt (wpAny_bind ?_))
  show wpAny _ X.A ((comprehension (.ListComp elt [⟨tg, iter, ifs, 0⟩] scope pos) scope X.env (firstIterPos [⟨tg, iter, ifs, 0⟩] pos) (newList []) false (eval iter X.env) (some (assign (.Name y py) X.env))) >>= fun _ => pure ()) _ _ s
  have h : tLc wi g tt te (own.map (·.2)) σ H (fun x H1 => gName i x σ H1 D.nx) := h
  refine wpAny_bind (thn (lc_raise (Qf := fun _ s' => SP X pins D .next s') hst hf tk (fun _ _ _ _ q => q) hc hN I hi ok hg ht he hs h fun L C s' m H' I' q hn f => ?_) fun _ s' hq => wpAny_pure (wpAny_pure hq))
  refine wpAny_assign_Name (store_ok2 (v := V.ref L) I' hN hy (.inl hyl) rfl (fun s2 I2 ⟨a, sb, ha⟩ => ?_) (.inr hyl))
  obtain ⟨f0, f1, _, f3, f4, f5⟩ := f
  have ne : C ≠ a := ha.elim (fun z e => f1 (e.trans z)) fun z e => f4 y a z e.symm
  refine ⟨m, hn.sameBut sb ne, fun h3 sb3 => ?_⟩
  exact ⟨_, H', I2.turned (t' := s2.toks) (fun b o hb e => (sb3.2 b hb).trans e) f0 f1 f3 f4 f5, q⟩
end
end MH
/-! T28: texts: rules, steps. -/
namespace MH
open PySem L2
theorem dpAll_str_eq {K : PySem.W.Frag} {H : Hp} : ∀ {ys : List Str} {vs : List V}, DpAll K H vs (ys.map PyData.str) → vs = ys.map V.str
  | [], _, h => by cases h; rfl
  | y :: ys, _, h => by
    cases h with
    | cons h1 h2 =>
      cases h1
      rw [dpAll_str_eq h2]
      rfl
theorem dpAll_str {K : PySem.W.Frag} {H : Hp} : ∀ ys : List Str, DpAll K H (ys.map V.str) (ys.map PyData.str)
  | [] => .nil
  | y :: ys => .cons (.str y) (dpAll_str ys)
theorem hds_str {K : PySem.W.Frag} {H : Hp} (ys : List Str) : Hds K H (ys.map V.str) ys := dpAll_str ys
theorem hds_str_eq {K : PySem.W.Frag} {H : Hp} {vs : List V} {ys : List Str} (h : Hds K H vs ys) : vs = ys.map V.str := dpAll_str_eq h
theorem hd_str_eq {K : PySem.W.Frag} {H : Hp} {v : V} {y : Str} (h : Hd K H v y) : v = .str y := dp_str h
/-- one sign -/
abbrev sg (c : Nat) : Str := ⟨#[c]⟩
theorem fold_cps (x : Array Nat) : ∀ (n : Nat) (acc : Array Nat), ((List.replicate n x).foldl (· ++ ·) acc).toList = acc.toList ++ (List.replicate n x.toList).flatten
  | 0, acc => by simp
  | n + 1, acc => by
    rw [List.replicate_succ, List.foldl_cons, fold_cps x n, List.replicate_succ, List.flatten_cons, Array.toList_append, List.append_assoc]
section
variable {X : Cx}
/-- text * number -/
theorem op_mulStr : OpR X (binaryOp .Mult) rMulS := by
  intro pins s σ H x y v u Q I rx ry h
  obtain ⟨z, n, rfl, rfl, n0, n1, hz, q⟩ := h
  obtain ⟨t, rfl⟩ := rx
  obtain ⟨t', rfl⟩ := ry
  have len : z.length * n.toNat ≤ 1000000 := hz
  refine PySem.P.mul_str ?_ ?_ ?_ ?_
  · rw [decide_eq_false (by omega), decide_eq_false (by omega)]
    rfl
  · intro h1 _ h2
    have h3 : (z.length : Int) * n ≤ 1000000 := by
      have : ((z.length * n.toNat : Nat) : Int) = (z.length : Int) * n := by
        rw [Int.natCast_mul, Int.toNat_of_nonneg n0]
      omega
    have h4 : (2 ^ 63 - 1) / n * n ≤ 2 ^ 63 - 1 := Int.ediv_mul_le _ (by omega)
    have h5 : (2 ^ 63 - 1) / n + 1 ≤ (z.length : Int) := by omega
    have h6 : 2 ^ 63 - 1 < ((2 ^ 63 - 1) / n + 1) * n := Int.lt_ediv_add_one_mul_self _ (by omega)
    have h7 : ((2 ^ 63 - 1) / n + 1) * n ≤ (z.length : Int) * n := Int.mul_le_mul_of_nonneg_right h5 n0
    omega
  · intro _ _
    unfold PySem.Builtin.Str.tooLong
    rw [decide_eq_false]
    exact Nat.not_lt.mpr (Nat.le_trans len (by decide))
  · by_cases h1 : n < 1
    · rw [if_pos h1]
      have n00 : n = 0 := by omega
      subst n00
      exact ⟨by decide, .str _, H, I.tok _, ⟨_, rfl⟩, q _ rfl⟩
    · rw [if_neg h1]
      by_cases h2 : (n == 1 || z.length == 0) = true
      · rw [if_pos h2]
        refine ⟨.str z, H, I, ⟨_, rfl⟩, q _ ?_⟩
        rcases Bool.or_eq_true_iff.mp h2 with e | e
        · have : n = 1 := by simpa using e
          subst this
          simp
        · have e2 : z.cps.toList = [] := by
            have : z.cps.size = 0 := by simpa [Str.length] using e
            exact List.eq_nil_of_length_eq_zero (by simpa using this)
          rw [e2]
          have : ∀ k : Nat, (List.replicate k ([] : List Nat)).flatten = [] := fun k => by simp
          rw [this]
      · rw [if_neg h2]
        have f := fold_cps z.cps n.toNat #[]
        refine ⟨?_, .str _, H, I.tok _, ⟨_, rfl⟩, q _ (by rw [f]; simp)⟩
        have e : ((List.replicate n.toNat z.cps).foldl (· ++ ·) #[]).size = n.toNat * z.length := by
          rw [← Array.length_toList, f]
          simp [Str.length]
        show ((List.replicate n.toNat z.cps).foldl (· ++ ·) #[]).size ≤ sizeLine
        rw [e, Nat.mul_comm]
        exact Nat.le_trans len (by decide)
theorem pe_joinK {K : PySem.W.Frag} {o e : Expr} {apos pos : Pos} {to te : TE} (ho : PE X o to) (he : PE X e te) (hK : X.K = K := by rfl)
    (h0 : starEach [e] X.env = [(false, eval e X.env)] := by rfl) (h1 : attributeBase o "join" X.env (eval o X.env) = eval o X.env := by rfl) (h2 : (apos.endLine == pos.line) = true := by rfl) :
    PE X (.Call (.Attribute o "join" apos) [e] [] pos) (tM1 (fun x xs H Q => ∃ a p, ∃ ys : List Str, x = .str a ∧ xs = [.ref p] ∧ (SqL K H p (ys.map V.str) ∨ SqT K H p (ys.map V.str)) ∧ (ys.map (·.length)).sum + ys.length * a.length ≤ 16777216 ∧ Q (.str (Txt.join a ys)) H) to te) := by
  subst hK
  exact pe_join ho he h0 h1 h2
end
section
variable {K : PySem.W.Frag} {H : Hp} {Q : VK} {σ : St} {a : Addr} {s t : Str} {n : Int} {to te : TE} {al : TA}
theorem rd_M1 {r : V → List V → Hp → VK → Prop} (q : to σ H fun x H1 => (∃ a, x = .str a) ∧ te σ H1 fun y H2 => r x [y] H2 Q) : tM1 r to te σ H Q := q
theorem rd_isS {P : Prop} (q : P) : (∃ a, V.str s = .str a) ∧ P := ⟨⟨s, rfl⟩, q⟩
theorem rd_BMS {T : String} {r : St → V → List V → Hp → VK → Prop} (q : to σ H fun x H1 => tyV K T x H1 ∧ al σ H1 fun xs H2 => r σ x xs H2 Q) : tBMS K T r to al σ H Q := q
theorem rd_tyS {P : Prop} (q : P) : tyV K "str" (.str s) H ∧ P := ⟨rfl, q⟩
theorem rd_join {ys : List Str} (h : H a = some (.lst (ys.map V.str))) (hz : (ys.map (·.length)).sum + ys.length * s.length ≤ 16777216) (q : Q (.str (Txt.join s ys)) H) :
    ∃ b p, ∃ zs : List Str, V.str s = .str b ∧ [V.ref a] = [.ref p] ∧ (SqL K H p (zs.map V.str) ∨ SqT K H p (zs.map V.str)) ∧ (zs.map (·.length)).sum + zs.length * b.length ≤ 16777216 ∧ Q (.str (Txt.join b zs)) H := ⟨s, a, ys, rfl, rfl, .inl (SqL.of h), hz, q⟩
theorem rd_split (ht : (t.length == 0) = false) (hz : s.length ≤ 1000000) (q : ∀ p H', H p = none → Same H H' → H' p = some (.lst ((Txt.split s t).map V.str)) → Q (.ref p) H') :
    ∃ b d, V.str s = .str b ∧ [V.str t] = [.str d] ∧ (d.length == 0) = false ∧ b.length + 2 ≤ sizeLine ∧ rNewStrs (Txt.split b d) H Q :=
  ⟨s, t, rfl, rfl, ht, Nat.le_trans (Nat.add_le_add_right hz 2) (by decide), fun p np => q p _ np (Same.new np) upd_same⟩
theorem rd_strI (h : n.natAbs.log2 < 1920) (q : Q (.str (toString n)) H) : ∃ i, [V.int n] = [.int i] ∧ i.natAbs.log2 < 1920 ∧ Q (.str (toString i)) H := ⟨n, rfl, h, q⟩
theorem rd_slS {lo hi : Option Int} (hz : s.length ≤ 1000000) (q : Q (.str (cutS s lo hi)) H) : rSlA K (.str s) lo hi H Q := .inr ⟨s, rfl, Nat.le_trans hz (by decide), q⟩
theorem rd_mulS (n0 : 0 ≤ n) (n1 : n ≤ 1000) (hz : s.length * n.toNat ≤ 1000000) (q : ∀ w : Str, w.cps.toList = (List.replicate n.toNat s.cps.toList).flatten → Q (.str w) H) : rMulS (.str s) (.int n) H Q := ⟨s, n, rfl, rfl, n0, n1, hz, q⟩
theorem rd_addSS (hz : s.length + t.length ≤ 1000000) (q : Q (.str (s ++ t)) H) : rAddA (.str s) (.str t) H Q := rd_addS (Nat.le_trans hz (by decide)) q
theorem rd_lenS' (hz : s.length ≤ 1000000) (q : Q (.int (s.length : Int)) H) : rLenA K [.str s] H Q := rd_lenS (Nat.le_trans hz (by decide)) q
theorem rd_ixS' {i : Int} {c : Nat} (hz : s.length ≤ 1000000) (hv : atI s.cps.toList i = some c) (q : Q (.str (sg c)) H) : rIx K (.str s) (.int i) H Q := rd_ixS (Nat.le_trans hz (by decide)) hv q
theorem rd_notInS {c : Nat} (q : Q (.bl (!decide (c ∈ s.cps.toList))) H) : rNotInA K (.str (sg c)) (.str s) H Q := .inr ⟨c, s, rfl, rfl, q⟩
theorem rd_inS {c : Nat} (q : Q (.bl (decide (c ∈ s.cps.toList))) H) : rInA K (.str (sg c)) (.str s) H Q := .inr ⟨c, s, rfl, rfl, q⟩
theorem rd_intS (hn : intText? s = some n) (hz : s.length ≤ 640) (q : Q (.int n) H) : rIntA [.str s] H Q := .inr ⟨s, n, rfl, hn, hz, q⟩
theorem rd_indexS {W : WX} {k : Nat} (hk : Txt.index0 s t = some k) (q : Q (.int (k : Nat)) H) : rIndexX W σ (.str s) [.str t] H Q := ⟨s, t, rfl, rfl, fun j e => by rw [hk] at e; cases e; exact q, fun e => by rw [hk] at e; cases e⟩
theorem rd_iStr {R : It → Hp → Prop} (q : te σ H fun v H1 => ∃ x, v = .str x ∧ R (Its x) H1) : iStr te σ H R := q
theorem rd_its {P : Str → Prop} (q : P s) : ∃ x, V.str s = .str x ∧ P x := ⟨s, rfl, q⟩
theorem rd_pop {xs : List V} {y : V} (h : H a = some (.lst (xs ++ [y]))) (q : Q y (upd H a (.lst xs))) : rPop (.ref a) [] H Q := ⟨a, xs ++ [y], y, rfl, rfl, h, by simp, by rw [List.dropLast_concat]; exact q⟩
theorem loop_str {g : TG} {tb : TS} {D : Ends} (Pv : Nat → St → Hp → Prop) (h0 : Pv 0 σ H)
    (hs : ∀ i c σ H, s.cps.toList[i]? = some c → Pv i σ H → g (.str (sg c)) σ H fun σ2 H2 => tb { D with nx := Pv (i + 1), ct := Pv (i + 1), bk := D.nx } σ2 H2)
    (hd : ∀ σ H, Pv s.cps.toList.length σ H → D.nx σ H) : LoopG (Its s) g tb D σ H := by
  refine ⟨fun i m σ H => m = s.cps.toList.length - i ∧ i ≤ s.cps.toList.length ∧ Pv i σ H, ⟨_, rfl, Nat.zero_le _, h0⟩, ?_⟩
  rintro i m σ H ⟨rfl, hi, p⟩
  have hsz : s.cps.toList.length = s.cps.size := Array.length_toList
  by_cases c : i < s.cps.size
  · refine .inr ⟨c, Pv (i + 1), fun σ' H' p' => ⟨s.cps.toList.length - (i + 1), by omega, rfl, by omega, p'⟩, fun y H' hy => ?_⟩
    obtain ⟨rfl, k, hk, rfl⟩ := hy
    exact hs i k σ _ (by rw [Array.getElem?_toList]; exact hk) p
  · refine .inl ⟨Nat.not_lt.mp c, ?_⟩
    have e : i = s.cps.toList.length := by omega
    subst e
    exact hd σ H p
end
end MH
/-! T29: words, texts of hands: what is read. -/
namespace MH
open PySem L2
abbrev tl (x : Str) : List Nat := x.cps.toList
theorem tl_sg (c : Nat) : tl (sg c) = [c] := rfl
theorem tl_inj {x y : Str} (h : tl x = tl y) : x = y := TL.ext_tl h
theorem len_tl (x : Str) : x.length = (tl x).length := TL.len_tl x
theorem tl_app (x y : Str) : tl (x ++ y) = tl x ++ tl y := TL.tl_append x y
def isFig (c : Nat) : Bool := decide (48 ≤ c) && decide (c ≤ 57)
def isLet (c : Nat) : Bool := decide (97 ≤ c) && decide (c ≤ 100)
/-- is it figures and a letter? -/
def okWord (f : List Nat) (c : Nat) : Bool := decide (1 ≤ f.length) && decide (f.length ≤ 2) && !decide (f.head? = some 48) && isLet c && f.all isFig
def tileFC (f : List Nat) (c : Nat) : Option Tile := if okWord f c = true then some (((NumText.digitsVal f : Nat) : Int), ((c - 97 : Nat) : Int)) else none
/-- the tile that a word writes -/
def tileW (w : List Nat) : Option Tile := match w.getLast? with
  | none => none
  | some c => tileFC w.dropLast c
theorem tileW_nil : tileW [] = none := rfl
theorem tileW_snoc (f : List Nat) (c : Nat) : tileW (f ++ [c]) = tileFC f c := by
  unfold tileW
  rw [List.getLast?_concat, List.dropLast_concat]
theorem snoc_of {α : Type} (w : List α) : w = [] ∨ ∃ f c, w = f ++ [c] := by
  rcases List.eq_nil_or_concat w with h | ⟨f, c, h⟩
  · exact .inl h
  · exact .inr ⟨f, c, by rw [h, List.concat_eq_append]⟩
/-- trailing jokers off the words, from behind -/
def stripR : List (List Nat) → List (List Nat) × Nat
  | [] => ([], 0)
  | w :: r => if w = [42] then ((stripR r).1, (stripR r).2 + 1) else (w :: r, 0)
theorem stripR_yes {w : List Nat} (r : List (List Nat)) (h : w = [42]) : stripR (w :: r) = ((stripR r).1, (stripR r).2 + 1) := by
  rw [stripR]
  exact if_pos h
theorem stripR_no {w : List Nat} (r : List (List Nat)) (h : w ≠ [42]) : stripR (w :: r) = (w :: r, 0) := by
  rw [stripR]
  exact if_neg h
def handOf (ws : List (List Nat)) : Option (List Tile) := if ws.all (fun w => (tileW w).isSome) = true then some (ws.filterMap tileW) else none
def readW (m c : Int) (ws : List (List Nat)) (j : Nat) : Option (List Tile × Nat) := match handOf ws with
  | none => none
  | some h => if IsHand m c h (j : Int) then some (h, j) else none
/-- what a text writes -/
def readF (m c : Int) (t : List Nat) : Option (List Tile × Nat) :=
  if t = [45] then some ([], 0) else readW m c (stripR (TL.spl [32] 0 [] t).reverse).1.reverse (stripR (TL.spl [32] 0 [] t).reverse).2
theorem tl_lit {s : String} {l : List Nat} (h : s.toList.map Char.toNat = l) : tl (Str.ofString s) = l := (TL.tl_ofString s).trans h
theorem tl_dash : tl (Str.ofString "-") = [45] := tl_lit (by decide +kernel)
theorem tl_star : tl (Str.ofString "*") = [42] := tl_lit (by decide +kernel)
theorem tl_blank : tl (Str.ofString " ") = [32] := tl_lit (by decide +kernel)
theorem tl_zero : tl (Str.ofString "0") = [48] := tl_lit (by decide +kernel)
theorem tl_abcd : tl (Str.ofString "abcd") = [97, 98, 99, 100] := tl_lit (by decide +kernel)
theorem tl_figs : tl (Str.ofString "0123456789") = [48, 49, 50, 51, 52, 53, 54, 55, 56, 57] := tl_lit (by decide +kernel)
theorem in_figs {c : Nat} : c ∈ tl (Str.ofString "0123456789") ↔ isFig c = true := by
  rw [tl_figs]
  simp only [isFig, Bool.and_eq_true, decide_eq_true_eq, List.mem_cons, List.not_mem_nil, or_false]
  omega
theorem in_abcd {c : Nat} : c ∈ tl (Str.ofString "abcd") ↔ isLet c = true := by
  rw [tl_abcd]
  simp only [isLet, Bool.and_eq_true, decide_eq_true_eq, List.mem_cons, List.not_mem_nil, or_false]
  omega
theorem sg_eq {c : Nat} {s : Str} {d : Nat} (h : tl s = [d]) : sg c = s ↔ c = d := by
  constructor
  · intro e
    have : [c] = [d] := by rw [← tl_sg c, e, h]
    injection this
  · intro e
    subst e
    exact tl_inj h.symm
theorem str_eq {x s : Str} {l : List Nat} (h : tl s = l) : x = s ↔ tl x = l := ⟨fun e => by rw [e, h], fun e => tl_inj (e.trans h.symm)⟩
theorem index_abcd {c : Nat} (h : isLet c = true) : Txt.index0 (Str.ofString "abcd") (sg c) = some (c - 97) := by
  simp only [isLet, Bool.and_eq_true, decide_eq_true_eq] at h
  have : c = 97 ∨ c = 98 ∨ c = 99 ∨ c = 100 := by omega
  rcases this with rfl | rfl | rfl | rfl <;> decide +kernel
theorem tl_cut_last {w : Str} {f : List Nat} {c : Nat} (h : tl w = f ++ [c]) : tl (cutS w none (some (-1))) = f := by
  have hl : w.length = f.length + 1 := by
    rw [len_tl, h, List.length_append, List.length_singleton]
  have e : HT.sIx w.length w.length (some (-1)) = f.length := by
    show (if (-1 : Int) < 0 then (-1 + (w.length : Int)).toNat else min (-1 : Int).toNat w.length) = f.length
    rw [if_pos (by decide), hl]
    omega
  show ((tl w).drop (HT.sIx w.length 0 none)).take (HT.sIx w.length w.length (some (-1)) - HT.sIx w.length 0 none) = f
  rw [e, show HT.sIx w.length 0 none = 0 from rfl, List.drop_zero, Nat.sub_zero, h, List.take_left]
theorem tl_cut_last0 {w : Str} (h : tl w = []) : tl (cutS w none (some (-1))) = [] := by
  show ((tl w).drop _).take _ = []
  rw [h]
  simp
theorem at_last {f : List Nat} {c : Nat} : atI (f ++ [c]) (-1) = some c := atI_last f c
theorem int_figs {f : Str} (h : (tl f).all isFig = true) (ne : tl f ≠ []) (l : (tl f).length ≤ 4300) : intText? f = some ((NumText.digitsVal (tl f) : Nat) : Int) := by
  refine intText_digits (fun c hc => ?_) ne (by rw [len_tl]; exact l)
  have := List.all_eq_true.mp h c hc
  simp only [isFig, Bool.and_eq_true, decide_eq_true_eq] at this
  exact this
theorem handOf_none {ws : List (List Nat)} {i : Nat} {w : List Nat} (h : ws[i]? = some w) (n : tileW w = none) : handOf ws = none := by
  unfold handOf
  rw [if_neg]
  intro z
  have := List.all_eq_true.mp z w (List.mem_of_getElem? h)
  rw [n] at this
  cases this
theorem handOf_some {ws : List (List Nat)} {ts : List Tile} (h : ws.map tileW = ts.map some) : handOf ws = some ts := by
  have h1 : ws.all (fun w => (tileW w).isSome) = true := by
    rw [List.all_eq_true]
    intro w hw
    have : tileW w ∈ ts.map some := h ▸ List.mem_map.mpr ⟨w, hw, rfl⟩
    obtain ⟨t, _, e⟩ := List.mem_map.mp this
    rw [← e]
    rfl
  have h2 : ws.filterMap tileW = ts := by
    have e : ws.filterMap tileW = (ws.map tileW).filterMap id := by rw [List.filterMap_map]; rfl
    rw [e, h, List.filterMap_map]
    simp
  unfold handOf
  rw [if_pos h1, h2]
end MH
/-! T30: a hand's text; it is read back. -/
namespace MH
open PySem L2
def wordL (t : Tile) : List Nat := TL.numL t.1.toNat ++ [97 + t.2.toNat]
def wordsL (h : List Tile) (j : Nat) : List (List Nat) := h.map wordL ++ List.replicate j [42]
def textL (h : List Tile) (j : Nat) : List Nat := if wordsL h j = [] then [45] else TL.joinL [32] (wordsL h j)
theorem words52 : tiles52.all (fun t => decide (tileW (wordL t) = some t) && !decide (32 ∈ wordL t) && decide ((wordL t).length ≤ 3) && decide (2 ≤ (wordL t).length) && !decide ((wordL t).head? = some 45)) = true := by decide +kernel
structure WordOk (t : Tile) : Prop where
  back : tileW (wordL t) = some t
  blank : 32 ∉ wordL t
  len : (wordL t).length ≤ 3
  two : 2 ≤ (wordL t).length
  head : (wordL t).head? ≠ some 45
theorem word_ok {t : Tile} (h : InHouse 13 4 t) : WordOk t := by
  have := List.all_eq_true.mp words52 t (mem52 h)
  simp only [Bool.and_eq_true, decide_eq_true_eq, Bool.not_eq_true', decide_eq_false_iff_not] at this
  exact ⟨this.1.1.1.1, this.1.1.1.2, this.1.1.2, this.1.2, this.2⟩
theorem word_star {t : Tile} (h : InHouse 13 4 t) : wordL t ≠ [42] := fun e => by
  have := (word_ok h).two
  rw [e] at this
  exact absurd this (by decide)
theorem strip_words {ws : List (List Nat)} (h : ∀ w ∈ ws, w ≠ [42]) : ∀ j : Nat, stripR (List.replicate j [42] ++ ws) = (ws, j)
  | 0 => by
    cases ws with
    | nil => rfl
    | cons w ws => exact stripR_no _ (h w List.mem_cons_self)
  | j + 1 => by
    rw [List.replicate_succ, List.cons_append, stripR_yes _ rfl, strip_words h j]
theorem mem_wordsL {h : List Tile} {j : Nat} {w : List Nat} (m : w ∈ wordsL h j) : (∃ t ∈ h, w = wordL t) ∨ w = [42] := by
  rcases List.mem_append.mp m with z | z
  · obtain ⟨t, ht, e⟩ := List.mem_map.mp z
    exact .inl ⟨t, ht, e.symm⟩
  · exact .inr (List.eq_of_mem_replicate z)
theorem joinL_head {w : List Nat} (ne : w ≠ []) : ∀ r : List (List Nat), (TL.joinL [32] (w :: r)).head? = w.head?
  | [] => rfl
  | q :: r => by
    show (w ++ ([32] ++ TL.joinL [32] (q :: r))).head? = w.head?
    cases w with
    | nil => exact absurd rfl ne
    | cons c w => rfl
theorem wordsL_head {h : List Tile} {j : Nat} (g : ∀ t ∈ h, InHouse 13 4 t) (ne : wordsL h j ≠ []) : (TL.joinL [32] (wordsL h j)).head? ≠ some 45 ∧ TL.joinL [32] (wordsL h j) ≠ [] := by
  cases e : wordsL h j with
  | nil => exact absurd e ne
  | cons w r =>
    have m : w ∈ wordsL h j := by rw [e]; exact List.mem_cons_self
    have hw : w ≠ [] ∧ w.head? ≠ some 45 := by
      rcases mem_wordsL m with ⟨t, ht, rfl⟩ | rfl
      · have o := word_ok (g t ht)
        exact ⟨fun z => by have := o.two; rw [z] at this; exact absurd this (by decide), o.head⟩
      · exact ⟨by simp, by simp⟩
    have hd := joinL_head hw.1 r
    refine ⟨by rw [hd]; exact hw.2, fun z => ?_⟩
    rw [z] at hd
    cases w with
    | nil => exact hw.1 rfl
    | cons c w => simp at hd
/-- what is written is read -/
theorem read_back {m c : Int} {h : List Tile} {j : Nat} (g : ∀ t ∈ h, InHouse 13 4 t) (y : IsHand m c h (j : Int)) : readF m c (textL h j) = some (h, j) := by
  unfold textL
  by_cases e : wordsL h j = []
  · rw [if_pos e]
    unfold wordsL at e
    obtain ⟨e1, e2⟩ := List.append_eq_nil_iff.mp e
    have h0 : h = [] := List.map_eq_nil_iff.mp e1
    have j0 : j = 0 := by
      have := congrArg List.length e2
      rw [List.length_replicate] at this
      exact this
    rw [h0, j0]
    rfl
  · rw [if_neg e]
    have hd := (wordsL_head g e).1
    have nd : TL.joinL [32] (wordsL h j) ≠ [45] := fun z => hd (by rw [z]; rfl)
    unfold readF
    rw [if_neg nd, TL.spl_join e fun w hw => by
      rcases mem_wordsL hw with ⟨t, ht, rfl⟩ | rfl
      · exact (word_ok (g t ht)).blank
      · decide]
    have st : stripR (wordsL h j).reverse = ((h.map wordL).reverse, j) := by
      unfold wordsL
      rw [List.reverse_append, List.reverse_replicate]
      refine strip_words (fun w hw => ?_) j
      obtain ⟨t, ht, rfl⟩ := List.mem_map.mp (List.mem_reverse.mp hw)
      exact word_star (g t ht)
    rw [st]
    unfold readW
    rw [List.reverse_reverse, handOf_some (ts := h) (by
      rw [List.map_map]
      exact List.map_congr_left fun t ht => (word_ok (g t ht)).back)]
    exact if_pos y
/-- each word behind a blank -/
theorem flat_join : ∀ (w : List Nat) (r : List (List Nat)), (w :: r).flatMap (fun w => 32 :: w) = 32 :: TL.joinL [32] (w :: r)
  | w, [] => by simp [TL.joinL]
  | w, q :: r => by
    rw [List.flatMap_cons, flat_join q r]
    rfl
theorem flat_drop (ws : List (List Nat)) : (ws.flatMap fun w => 32 :: w).drop 1 = TL.joinL [32] ws := by
  cases ws with
  | nil => rfl
  | cons w r => rw [flat_join]; rfl
theorem flat_reps : ∀ j : Nat, (List.replicate j [32, 42]).flatten = (List.replicate j [42]).flatMap fun w => 32 :: w
  | 0 => rfl
  | j + 1 => by
    rw [List.replicate_succ, List.replicate_succ, List.flatten_cons, List.flatMap_cons, flat_reps j]
theorem log2_small {n : Nat} (h : n ≤ 100) : n.log2 < 1920 := by
  by_cases z : n = 0
  · subst z
    decide
  · refine (Nat.log2_lt z).mpr (Nat.lt_of_lt_of_le (show n < 2 ^ 7 by omega) (Nat.pow_le_pow_right (by decide) (by decide)))
def wordS (t : Tile) : Str := Str.ofString (toString t.1) ++ sg (97 + t.2.toNat)
theorem tl_wordS {t : Tile} (h : InHouse 13 4 t) : tl (wordS t) = wordL t := by
  have e : t.1 = ((t.1.toNat : Nat) : Int) := by
    have := h.1
    omega
  unfold wordS wordL
  rw [tl_app, tl_sg]
  conv => lhs; rw [e]
  rw [show tl (Str.ofString (toString ((t.1.toNat : Nat) : Int))) = TL.numL t.1.toNat from TL.tl_num _]
theorem at_abcd {k : Int} (k0 : 0 ≤ k) (k4 : k < 4) : atI (tl (Str.ofString "abcd")) k = some (97 + k.toNat) := by
  rw [tl_abcd]
  have : k = 0 ∨ k = 1 ∨ k = 2 ∨ k = 3 := by omega
  rcases this with rfl | rfl | rfl | rfl <;> rfl
theorem num_len {n : Int} (h0 : 0 ≤ n) (h : n ≤ 13) : (Str.ofString (toString n)).length ≤ 2 := by
  have e : n = ((n.toNat : Nat) : Int) := by omega
  rw [e, len_tl, show tl (Str.ofString (toString ((n.toNat : Nat) : Int))) = TL.numL n.toNat from TL.tl_num _]
  exact TL.numL_len (by decide) (by omega)
theorem sum_len {ys : List Str} {k : Nat} (h : ∀ y ∈ ys, y.length ≤ k) : (ys.map (·.length)).sum ≤ ys.length * k := by
  induction ys with
  | nil => exact Nat.zero_le _
  | cons y ys ih =>
    rw [List.map_cons, List.sum_cons, List.length_cons, Nat.succ_mul]
    have := h y List.mem_cons_self
    have := ih fun z hz => h z (List.mem_cons_of_mem _ hz)
    omega
theorem reps_str (n : Nat) (s : Str) : (List.replicate n [V.str s]).flatten = (List.replicate n s).map V.str := by
  induction n with
  | zero => rfl
  | succ n ih => rw [List.replicate_succ, List.replicate_succ, List.flatten_cons, ih]; rfl
end MH
namespace MH
open PySem L2
theorem tl_cut (s : Str) (lo hi : Option Int) : tl (cutS s lo hi) = cutT (tl s) lo hi := by
  unfold cutT
  rw [← len_tl]
  rfl
theorem tyx_str {K : PySem.W.Frag} {H : Hp} (x : Str) : TyX K H (.str x) (.type "str") := .base (.str x)
end MH
/-! T31: a def that is called with the exception that an except suite holds. -/
namespace MH
open PySem L2
open L2H (RoomH PinOk cxH inv_startH)
/-- such a def's promise: p is the exception's object, which stands still -/
structure FnE (P : Program) (w : World) (K : PySem.W.Frag) (mg : Str → Option Value) (base : Heap) (k : Nat) (f : Addr) (fd : FuncData) (ps : List Str) (sp : Addr × Obj → Sp) : Prop where
  len : ∀ p vs H Q E, sp p vs H Q E → vs.length = ps.length
  run : ∀ (A : Around) (outer : List Env) (s : Shared) (H : Hp) (args : Args) (us : List Value) (vs : List V) (Q : VK) (E : XK) (p : Addr × Obj), RoomH k A → PinOk outer H s p → Env0 P w K mg base A outer s H →
    BindsTo s fd args (ps.zip us) → Vals vs us → sp p vs H Q E → codeAny (model P w) A (.call (.ref f) args) (CR CX0 outer P w H s Q E) s
/-- by its body -/
theorem fnE_of {P : Program} {w : World} {K : PySem.W.Frag} {mg : Str → Option Value} {base : Heap} {x qual : Str} {st : Stmt} {f : Addr} {fd : FuncData} {N ps : List Str} {k : Nat} {sp : Addr × Obj → Sp} (F : Fun K x qual st f fd) (S : FnScope N ps (defScope st))
    (len : ∀ p vs H Q E, sp p vs H Q E → vs.length = ps.length)
    (body : ∀ (cdv : Value) (A : Around) (outer : List Env) (s : Shared) (H : Hp) (vs : List V) (Q : VK) (E : XK) (p : Addr × Obj), RoomH k (A.deeper (PyProof.Rows.envOfC qual (defScope st) s.heap.objs.size f cdv)) → sp p vs H Q E →
      ∃ t, PSs (cxH CX0 P w K mg base N qual (defScope st) f cdv A outer s H E p) (defBody st) t ∧ t { nx := fun _ H' => Q .non H', rt := Q } (L2.start N vs) H) : FnE P w K mg base (k + 1) f fd ps sp := by
  obtain ⟨oc, od, kV, doc, pm, an, cdv, ct, osl, rfl, lk, hcd⟩ := F.ex
  refine ⟨len, fun A outer s H args us vs Q E p room pin e0 bind rel want => ?_⟩
  have size := len _ _ _ _ _ want
  have inK : K.In s.heap := e0.mod.kin.keeps fun b o e => (e0.bs b o e).1
  have nolim : s.heap.NoLimit := e0.mod.nolimit.keeps fun b o e => (e0.bs b o e).1
  refine codeAny_call_function room.depth (inK _ _ lk) rfl S.co S.gen rfl (PySem.W.codeRec_of inK hcd) (bind _ _ _ _ ?_)
  refine wpAny_newFunctionEnv_cells S.kind (fun y hy => ?_) fun env he s1 inside => ?_
  · obtain ⟨n, v⟩ := y
    rcases S.par n (List.of_mem_zip hy).1 with q | q
    · exact .inl q
    · exact .inr ⟨q, PySem.W.cellsFrom_some _ _ _ (.inl q)⟩
  subst he
  refine ⟨nolim.keeps inside.toInCall.keep, codeAny_func ?_⟩
  obtain ⟨t, ht, hq⟩ := body cdv A outer s H vs Q E p (room.deeper _) want
  have I := inv_startH (CX := CX0) (E := E) S pin e0 size rel inside
  refine wpAny_mono (ht.run [] s1 (L2.start N vs) H _ I hq) (fun fl s' hs => ?_) fun e s' hs => hs
  cases fl with
  | ret u =>
    obtain ⟨v, σ', H', J, rv, q⟩ := hs
    exact ⟨v, H', J.os, J.bare, J.base, J.hok, rv, q⟩
  | next =>
    obtain ⟨σ', H', J, q⟩ := hs
    exact ⟨.non, H', J.os, J.bare, J.base, J.hok, rfl, q⟩
  | brk =>
    obtain ⟨_, _, _, q⟩ := hs
    exact q.elim
  | cont =>
    obtain ⟨_, _, _, q⟩ := hs
    exact q.elim
/-- .. as its callers meet it -/
structure FnS (P : Program) (w : World) (K : PySem.W.Frag) (mg : Str → Option Value) (base : Heap) (k : Nat) (x : Str) (ps : List Str) (sp : Addr × Obj → Sp) : Prop where
  ex : ∃ (f : Addr) (fd : FuncData), FnE P w K mg base k f fd ps sp ∧ mg x = some (.ref f) ∧ PySem.W.keepIn K (.ref f) = true ∧ Binds K fd ps []
/-- the reading of a call in the suite: by what the exception is -/
def tCallE (sp : Addr × Obj → Sp) (a : Addr) (cls : Value) (d : Option Addr) (t : TA) : TE := fun σ H Q => t σ H fun vs H1 => ∀ oe, Zc cls d oe → (∃ vs, oe.data = .fields vs) → sp (a, oe) vs H1 Q E0
theorem rd_callE {sp : Addr × Obj → Sp} {a : Addr} {cls : Value} {d : Option Addr} {t : TA} {σ : St} {H : Hp} {Q : VK} (h : t σ H fun vs H1 => ∀ oe, Zc cls d oe → (∃ vs, oe.data = .fields vs) → sp (a, oe) vs H1 Q E0) : tCallE sp a cls d t σ H Q := h
section
variable {X : Cx} {k : Nat} {x : Str} {ps : List Str} {sp : Addr × Obj → Sp} {e : Expr} {es : List Expr} {t : TA} {q pos : Pos} {a : Addr} {oe : Obj} {cls : Value} {d : Option Addr}
/-- f(e) in the suite -/
theorem pe_fnE (F : FnS X.prog X.w X.K X.mg X.base k x ps sp) (room : RoomH k X.A) (hp : (a, oe) ∈ X.pn) (hz : Zc cls d oe) (hf : ∃ vs, oe.data = .fields vs) (ha : PA X (e :: es) t) (hg : Gl X x := by rfl) (hdb : (x == ("__debug__" : Str)) = false := by decide)
    (he : starEach (e :: es) X.env = (false, eval e X.env) :: starEach es X.env := by rfl) (hpl : (backTo pos (starEach es X.env)).any (·.1) = false := by rfl) :
    PE X (.Call (.Name x q) (e :: es) [] pos) (tCallE sp a cls d t) := by
  obtain ⟨f, fd, G, hm, kp, bind⟩ := F.ex
  refine ⟨fun pins s σ H Q I h => ?_⟩
  refine wpAny_Call_Name_kw (ld_glob I hg hm ?_ hdb)
  refine PySem.W.callWith_K (h₀ := X.base) I.ok.mod.kin kp (thn (ha.run pos pins s σ H _ I h) fun us s1 ⟨vs, H1, I1, rel, want⟩ => ⟨I1.kIn, ?_⟩) he hpl
  have want := want oe hz hf
  have size : us.length = ps.length := by
    rw [← rel.length]
    exact G.len _ _ _ _ _ want
  have b := bind s1 us I1.kIn (by rw [List.append_nil]; exact size)
  rw [List.append_nil] at b
  obtain ⟨p1, p2, p3, p4, p5⟩ := I1.pin (a, oe) (List.mem_append_left _ hp)
  have pin : PinOk X.stack H1 s1 (a, oe) := ⟨p1, p2, fun hm => (List.mem_cons.mp (I1.stkSub a hm)).elim p3 p4, p5⟩
  refine wpAny_call (codeAny_mono (G.run X.A X.stack s1 H1 ⟨us, []⟩ us vs Q E0 (a, oe) room pin I1.env0 b rel want) fun r s' hq => ?_)
  cases r with
  | error er => exact hq.elim
  | ok fl =>
    cases fl with
    | ret u => exact I1.after hq
    | next => exact hq.elim
    | brk => exact hq.elim
    | cont => exact hq.elim
end
def spRefuse (K : PySem.W.Frag) (C XH : Addr) (n : Nat) : Sp := fun vs H _ E => ∃ (p a : Addr) (m c : Int) (us : List V) (ts : List Tile) (j : Int) (rest : List V), vs = .ref p :: .ref a :: .int j :: rest ∧ rest.length = n ∧ HouseAt C H p m c ∧ SqL K H a us ∧ Hds K H us ts ∧ ¬ IsHand m c ts j ∧
  ∀ H', Same H H' → E (.ref XH) none H'
/-- isinstance(e, c) of an exception that stands still -/
theorem call_isP {X : Cx} {K : PySem.W.Frag} {D : Addr} {p : Addr × Obj} (C : ExcC K D) (hz : Zc (.ref D) none p.2) (hf : ∃ vs, p.2.data = .fields vs) (hp : p ∈ X.pn) (hK : X.K = K := by rfl) : CallR X (.builtin "isinstance") (rIsE K D p.1) := by
  subst hK
  intro pins s σ H xs us Q I r h
  obtain ⟨c, cv, b, rfl, hcv, e, want⟩ := h
  cases r with
  | cons rx rr =>
    cases rr with
    | cons rt rr =>
      cases rr
      cases rx
      have ec := hcv _ rt
      subst ec
      obtain ⟨vs, hv⟩ := hf
      have at' := (I.pin p (List.mem_append_left _ hp)).1
      have J : PySem.W.InstAt s.heap p.1 p.2 D none := by
        obtain ⟨a, oc, od, oda, osl⟩ := p
        obtain ⟨h1, h2⟩ := hz
        dsimp only at h1 h2 hv at'
        subst h1 h2 hv
        exact ⟨at', rfl, rfl, trivial⟩
      exact PySem.W.kia_one (PySem.W.handS_kitx_exc C.hg C.hk C.hs C.hd C.ha C.hn C.ht C.hm) I.kIn J e (fun z => nomatch z) fun tk => ⟨.bl b, H, I.kept (t' := tk) fun _ _ z => z, rfl, want⟩
section
variable {K : PySem.W.Frag} {H : Hp} {Q : VK} {a D : Addr}
theorem rd_isPC {M : Addr} {b : Bool} (e : PySem.W.kitOne K (.ref D) (.ref M) = some b) (q : Q (.bl b) H) : rIsE K D a [.ref a, .ref M] H Q := ⟨.ref M, .ref M, b, rfl, fun _ h => h, e, q⟩
theorem rd_isPT {n : String} {b : Bool} (e : PySem.W.kitOne K (.ref D) (.type n) = some b) (q : Q (.bl b) H) : rIsE K D a [.ref a, .ty n] H Q := ⟨.ty n, .type n, b, rfl, fun _ h => h, e, q⟩
theorem hds_bl : ∀ bs : List Bool, Hds K H (bs.map V.bl) bs
  | [] => Hds.nil
  | b :: bs => Hds.cons (hd_bl b) (hds_bl bs)
end
/-- xs.count(x), by room alone -/
theorem mt_countU {X : Cx} {K : PySem.W.Frag} (hu : X.A.units + 100 < cLine) (hK : X.K = K := by rfl) : MtR X "list.count" (rCountA K) := by
  subst hK
  intro pins s σ H x xs v us Q I rx rxs h
  obtain ⟨α, _, _, p, y, vs, as, a, hd, rfl, rfl, hl, hs, ha, q⟩ := h
  cases rx
  obtain ⟨uy, rfl, ry⟩ := vals1 rxs
  obtain ⟨its, rv, pl, _⟩ := I.list hl
  exact PySem.W.count_list_datum pl.isList (hs.holds I rv) (ha.holds I ry) (by omega) ⟨.int _, H, I.tok _, ⟨_, rfl⟩, q⟩
end MH
/-! T32: max(xs, default=0); lists of texts written; lengths of joined texts. -/
namespace MH
open PySem L2
def rMaxDef (K : PySem.W.Frag) : List V → List V → Hp → VK → Prop := fun vs zs H Q => ∃ (a : Addr) (ns : List Int), vs = [.ref a] ∧ zs = [.int 0] ∧ SqL K H a (ns.map V.int) ∧
  ∀ m, (ns = [] → m = 0) → (ns ≠ [] → m ∈ ns ∧ ∀ y ∈ ns, y ≤ m) → Q (.int m) H
theorem maxOf_spec : ∀ (ys : List Int) (y : Int), PySem.W.maxOf y ys ∈ y :: ys ∧ ∀ z ∈ y :: ys, z ≤ PySem.W.maxOf y ys
  | [], y => ⟨List.mem_cons_self, fun z hz => by rw [List.mem_singleton.mp hz]; exact Int.le_refl _⟩
  | w :: ys, y => by
    show List.foldl _ (if decide (y < w) = true then w else y) ys ∈ _ ∧ ∀ z ∈ y :: w :: ys, z ≤ List.foldl _ (if decide (y < w) = true then w else y) ys
    obtain ⟨h1, h2⟩ := maxOf_spec ys (if decide (y < w) = true then w else y)
    have h1 : List.foldl (fun a y => if PySem.W.DatumOrd.lt a y = true then y else a) (if decide (y < w) = true then w else y) ys ∈ (if decide (y < w) = true then w else y) :: ys := h1
    have h2 : ∀ z ∈ (if decide (y < w) = true then w else y) :: ys, z ≤ List.foldl (fun a y => if PySem.W.DatumOrd.lt a y = true then y else a) (if decide (y < w) = true then w else y) ys := h2
    have h3 := h2 _ List.mem_cons_self
    refine ⟨?_, fun z hz => ?_⟩
    · rcases List.mem_cons.mp h1 with e | m
      · rw [e]
        by_cases c : y < w
        · rw [if_pos (decide_eq_true c)]
          exact List.mem_cons_of_mem _ List.mem_cons_self
        · rw [if_neg (by simpa using c)]
          exact List.mem_cons_self
      · exact List.mem_cons_of_mem _ (List.mem_cons_of_mem _ m)
    · rcases List.mem_cons.mp hz with rfl | hz
      · by_cases c : z < w
        · rw [if_pos (decide_eq_true c)] at h3 ⊢
          omega
        · rw [if_neg (by simpa using c)] at h3 ⊢
          exact h3
      · rcases List.mem_cons.mp hz with rfl | hz
        · by_cases c : y < z
          · rw [if_pos (decide_eq_true c)] at h3 ⊢
            exact h3
          · rw [if_neg (by simpa using c)] at h3 ⊢
            omega
        · exact h2 z (List.mem_cons_of_mem _ hz)
theorem cr_maxDef {X : Cx} {K : PySem.W.Frag} {k : Nat} (hc : X.calm = true) (hr : Room k X.A) (hK : X.K = K := by rfl) : CallRK X (.builtin "max") [Str.ofString "default"] (rMaxDef K) := by
  subst hK
  intro pins s σ H vs zs us ws Q I r rz h
  obtain ⟨a, ns, rfl, rfl, hs, q⟩ := h
  obtain ⟨u, rfl, ru⟩ := vals1 r
  obtain ⟨z, rfl, rz0⟩ := vals1 rz
  obtain rfl : u = Value.ref a := ru
  obtain ⟨its, rv, pl, _⟩ := I.list hs
  have hold : PySem.W.HoldAll s.heap its ns := (hds_int (K := X.K) (H := H) ns).holds I rv
  refine PySem.W.max_list_datum_default (α := Int) (xs := ns) (I.ok.hd hc) pl.isList hold (by have := hr.units; show _ + 1 + 0 < _; omega) (fun e h' tk keep => ?_) fun y ys i v h' tk e _ hv keep => ?_
  · exact ⟨.int 0, H, I.kept keep, rz0, q 0 (fun _ => rfl) fun n => absurd e n⟩
  · obtain ⟨m1, m2⟩ := maxOf_spec ys y
    have rel : RelV (.int (PySem.W.maxOf y ys)) v := by
      obtain ⟨as, hv⟩ := hv
      have hv : PySem.Reads h' v (.int (PySem.W.maxOf y ys)) as := hv
      cases hv
      exact ⟨_, rfl⟩
    refine ⟨_, H, I.kept keep, rel, q _ (fun n => by rw [n] at e; cases e) fun _ => ?_⟩
    rw [e]
    exact ⟨m1, m2⟩
section
variable {K : PySem.W.Frag} {H : Hp} {Q : VK} {σ : St} {a : Addr} {vs : List V} {t tk : TA}
theorem rd_CKw {r : List V → List V → Hp → VK → Prop} (q : t σ H fun vs H1 => tk σ H1 fun zs H2 => r vs zs H2 Q) : tCKw r t tk σ H Q := q
theorem rd_maxDef {ns : List Int} (h : H a = some (.lst vs)) (hd : Hds K H vs ns) (q : ∀ m, (ns = [] → m = 0) → (ns ≠ [] → m ∈ ns ∧ ∀ y ∈ ns, y ≤ m) → Q (.int m) H) : rMaxDef K [.ref a] [.int 0] H Q := by
  rw [hds_int_eq hd] at h
  exact ⟨a, ns, rfl, rfl, SqL.of h, q⟩
theorem ixN_nat {n k : Nat} (h : k < n) : ixN n (k : Int) = some k := by
  unfold ixN
  rw [if_pos (by omega), if_pos (by omega)]
  rfl
theorem rd_gsub {to ti : TE} {ts : TSet} {v : V} {QS : St → Hp → Prop} (q : to σ H fun o H1 => ti σ H1 fun i H2 => ts o i v H2 fun H3 => QS σ H3) : gSub to ti ts v σ H QS := q
theorem rd_setL {k : Nat} {v : V} {QS : Hp → Prop} (h : H a = some (.lst vs)) (hk : k < vs.length) (q : QS (upd H a (.lst (vs.set k v)))) : rSetL (.ref a) (.int (k : Int)) v H QS := ⟨a, vs, k, k, rfl, rfl, h, ixN_nat hk, q⟩
theorem at_some {s : List Nat} {i : Int} (h0 : 0 ≤ i) (h : i < s.length) : ∃ c, atI s i = some c := by
  obtain ⟨c, hc⟩ := get_some s (i := i.toNat) (by omega)
  refine ⟨c, ?_⟩
  have e : i = ((i.toNat : Nat) : Int) := by omega
  rw [e]
  exact atI_nat hc
theorem rd_popAt {k : Nat} {y : V} (h : H a = some (.lst vs)) (hk : vs[k]? = some y) (hz : k < 1000000) (q : Q y (upd H a (.lst (vs.eraseIdx k)))) : rPopAt (.ref a) [.int (k : Int)] H Q := by
  have lt : k < vs.length := (List.getElem?_eq_some_iff.mp hk).1
  exact ⟨a, vs, (k : Int), k, y, rfl, rfl, h, by omega, by omega, (ixN_seq (ixN_nat lt)).1, hk, q⟩
end
theorem cut_len (s : Str) (lo hi : Option Int) : (cutS s lo hi).length ≤ s.length := by
  rw [len_tl, tl_cut, len_tl]
  unfold cutT
  refine Nat.le_trans (List.length_take_le' _ _) ?_
  rw [List.length_drop]
  exact Nat.sub_le _ _
theorem app_len (s t : Str) : (s ++ t).length = s.length + t.length := by rw [len_tl, tl_app, List.length_append, ← len_tl, ← len_tl]
theorem spl_sum : ∀ (acc l : List Nat), ((TL.spl [32] 0 acc l).map (·.length)).sum + (TL.spl [32] 0 acc l).length = acc.length + l.length + 1
  | acc, [] => by simp [TL.spl]
  | acc, c :: r => by
    cases h : TL.pre [32] (c :: r) with
    | true =>
      rw [TL.spl_hit h]
      have ih := spl_sum [] r
      show ((acc :: TL.spl [32] 0 [] r).map (·.length)).sum + (acc :: TL.spl [32] 0 [] r).length = _
      rw [List.map_cons, List.sum_cons, List.length_cons, List.length_cons]
      rw [List.length_nil] at ih
      omega
    | false =>
      rw [TL.spl_miss h]
      have ih := spl_sum (acc ++ [c]) r
      rw [List.length_append, List.length_singleton] at ih
      rw [List.length_cons]
      omega
theorem joinL_len : ∀ ps : List (List Nat), (TL.joinL [32] ps).length ≤ (ps.map (·.length)).sum + ps.length
  | [] => Nat.le_refl _
  | [p] => by
    show p.length ≤ _
    simp
  | p :: q :: r => by
    show (p ++ ([32] ++ TL.joinL [32] (q :: r))).length ≤ _
    have := joinL_len (q :: r)
    rw [List.length_append, List.length_append, List.map_cons, List.sum_cons, List.length_cons (a := p)]
    show p.length + (1 + _) ≤ _
    omega
theorem join_len (ys : List Str) : (Txt.join (Str.ofString " ") ys).length ≤ (ys.map (·.length)).sum + ys.length := by
  have e : ys.map (·.length) = (ys.map tl).map (·.length) := by
    rw [List.map_map]
    exact List.map_congr_left fun y _ => len_tl y
  rw [len_tl]
  show (TL.tl (Txt.join (Str.ofString " ") ys)).length ≤ _
  rw [TL.join_eq, TL.tl_join, show TL.tl (Str.ofString " ") = [32] from tl_blank, e]
  have := joinL_len (ys.map TL.tl)
  rw [List.length_map] at this
  exact this
theorem split_tl (t : Str) : (Txt.split t (Str.ofString " ")).map tl = TL.spl [32] 0 [] (tl t) := by
  have := TL.split_spl t (Str.ofString " ") (by show tl (Str.ofString " ") ≠ []; rw [tl_blank]; simp) (TL.kind_ok (by decide +kernel))
  rw [show TL.tl (Str.ofString " ") = [32] from tl_blank] at this
  exact this
theorem split_len (t : Str) : ((Txt.split t (Str.ofString " ")).map (·.length)).sum + (Txt.split t (Str.ofString " ")).length = t.length + 1 := by
  have h := spl_sum [] (tl t)
  rw [← split_tl, List.length_map, List.map_map, List.length_nil, Nat.zero_add, ← len_tl] at h
  have e : (Txt.split t (Str.ofString " ")).map (·.length) = (Txt.split t (Str.ofString " ")).map ((fun x : List Nat => x.length) ∘ tl) := List.map_congr_left fun y _ => len_tl y
  rw [e]
  exact h
theorem sum_set {ys : List Str} {k b : Nat} {y : Str} (h : y.length ≤ b) : ((ys.set k y).map (·.length)).sum ≤ (ys.map (·.length)).sum + b := by
  induction ys generalizing k with
  | nil => exact Nat.zero_le _
  | cons z ys ih =>
    cases k with
    | zero =>
      rw [List.set_cons_zero, List.map_cons, List.map_cons, List.sum_cons, List.sum_cons]
      omega
    | succ k =>
      rw [List.set_cons_succ, List.map_cons, List.map_cons, List.sum_cons, List.sum_cons]
      have := ih (k := k)
      omega
theorem sum_split (ys : List Str) (i : Nat) : ((ys.take i).map (·.length)).sum + ((ys.drop i).map (·.length)).sum = (ys.map (·.length)).sum := by
  rw [← List.sum_append_nat, ← List.map_append, List.take_append_drop]
theorem sum_eraseS {ys : List Str} {k : Nat} {y : Str} (h : ys[k]? = some y) : ((ys.eraseIdx k).map (·.length)).sum + y.length = (ys.map (·.length)).sum := by
  induction ys generalizing k with
  | nil => simp at h
  | cons z ys ih =>
    cases k with
    | zero =>
      simp at h
      subst h
      rw [List.eraseIdx_cons_zero, List.map_cons, List.sum_cons]
      omega
    | succ k =>
      rw [List.eraseIdx_cons_succ, List.map_cons, List.map_cons, List.sum_cons, List.sum_cons]
      have := ih (k := k) (by simpa using h)
      omega
theorem map_eraseIdx {α β : Type} (f : α → β) : ∀ (xs : List α) (k : Nat), (xs.map f).eraseIdx k = (xs.eraseIdx k).map f
  | [], _ => rfl
  | _ :: _, 0 => rfl
  | x :: xs, k + 1 => by
    show f x :: (xs.map f).eraseIdx k = f x :: (xs.eraseIdx k).map f
    rw [map_eraseIdx f xs k]
end MH
/-! T33: the law's reckoning of a text is what is read. -/
namespace MH
open PySem L2
theorem figs1 : ((List.range' 49 9).all fun a => decide (TL.numL (NumText.digitsVal [a]) = [a])) = true := by decide +kernel
theorem figs2 : ((List.range' 49 9).all fun a => (List.range' 48 10).all fun b => decide (TL.numL (NumText.digitsVal [a, b]) = [a, b])) = true := by decide +kernel
/-- a word that writes a tile is the tile's word -/
theorem word_back {w : List Nat} {t : Tile} (h : tileW w = some t) : wordL t = w := by
  rcases snoc_of w with e | ⟨f, c, e⟩
  · subst e
    rw [tileW_nil] at h
    cases h
  · subst e
    rw [tileW_snoc, tileFC] at h
    by_cases k : okWord f c = true
    · rw [if_pos k] at h
      have h := Option.some.inj h
      subst h
      simp only [okWord, isLet, Bool.and_eq_true, decide_eq_true_eq, Bool.not_eq_true', decide_eq_false_iff_not, List.all_eq_true, isFig] at k
      obtain ⟨⟨⟨⟨l1, l2⟩, h0⟩, c1, c2⟩, fs⟩ := k
      have hn : TL.numL (NumText.digitsVal f) = f := by
        match f, l1, l2, h0, fs with
        | [a], _, _, h0, fs =>
          have h0 : a ≠ 48 := fun e => h0 (by rw [e]; rfl)
          have fa := fs a List.mem_cons_self
          exact of_decide_eq_true (List.all_eq_true.mp figs1 a (by rw [List.mem_range'_1]; omega))
        | [a, b], _, _, h0, fs =>
          have h0 : a ≠ 48 := fun e => h0 (by rw [e]; rfl)
          have fa := fs a List.mem_cons_self
          have fb := fs b (List.mem_cons_of_mem _ List.mem_cons_self)
          exact of_decide_eq_true (List.all_eq_true.mp (List.all_eq_true.mp figs2 a (by rw [List.mem_range'_1]; omega)) b (by rw [List.mem_range'_1]; omega))
      show TL.numL (((NumText.digitsVal f : Nat) : Int)).toNat ++ [97 + (((c - 97 : Nat) : Int)).toNat] = f ++ [c]
      rw [Int.toNat_natCast, Int.toNat_natCast, hn, show 97 + (c - 97) = c by omega]
    · rw [if_neg k] at h
      cases h
/-- the tile of the house that a word writes, as the law tells it -/
def lawTileF (m c : Int) (w : List Nat) : Option Tile := match tileW w with
  | none => none
  | some t => if InHouse m c t then some t else none
theorem lawTile_at {m c : Int} {w : List Nat} {t : Tile} (e : tileW w = some t) : lawTileF m c w = if InHouse m c t then some t else none := by
  unfold lawTileF
  rw [e]
theorem lawTile_yes {m c : Int} {w : List Nat} {t : Tile} (hm : m ≤ 13) (hc : c ≤ 4) (g : InHouse m c t) (e : wordL t = w) : lawTileF m c w = some t := by
  have h : tileW w = some t := by
    rw [← e]
    exact (word_ok ⟨g.1, by have := g.2.1; omega, g.2.2.1, by have := g.2.2.2; omega⟩).back
  unfold lawTileF
  rw [h]
  exact if_pos g
theorem lawTile_some {m c : Int} {w : List Nat} {t : Tile} (h : lawTileF m c w = some t) : InHouse m c t ∧ tileW w = some t := by
  cases e : tileW w with
  | none =>
    unfold lawTileF at h
    rw [e] at h
    cases h
  | some u =>
    rw [lawTile_at e] at h
    by_cases g : InHouse m c u
    · rw [if_pos g] at h
      cases h
      exact ⟨g, rfl⟩
    · rw [if_neg g] at h
      cases h
theorem lawTile_no {m c : Int} {w : List Nat} (h : ∀ t, InHouse m c t → wordL t ≠ w) : lawTileF m c w = none := by
  cases e : lawTileF m c w with
  | none => rfl
  | some t =>
    have := lawTile_some e
    exact absurd (word_back this.2) (h t this.1)
theorem lawTile_none {m c : Int} {w : List Nat} {t : Tile} (h : lawTileF m c w = none) (e : tileW w = some t) : ¬ InHouse m c t := fun g => by
  rw [lawTile_at e, if_pos g] at h
  cases h
theorem all_some {α : Type} : ∀ {os : List (Option α)}, none ∉ os → ∃ zs : List α, os = zs.map some
  | [], _ => ⟨[], rfl⟩
  | o :: os, h => by
    obtain ⟨zs, e⟩ := all_some (os := os) fun m => h (List.mem_cons_of_mem _ m)
    cases o with
    | none => exact absurd List.mem_cons_self h
    | some z => exact ⟨z :: zs, by rw [e]; rfl⟩
theorem handOf_inv {ws : List (List Nat)} {h : List Tile} (e : handOf ws = some h) {w : List Nat} {t : Tile} (hw : w ∈ ws) (ht : tileW w = some t) : t ∈ h := by
  unfold handOf at e
  by_cases k : ws.all (fun w => (tileW w).isSome) = true
  · rw [if_pos k] at e
    cases e
    exact List.mem_filterMap.mpr ⟨w, hw, ht⟩
  · rw [if_neg k] at e
    cases e
/-- a word that is no tile of the house -/
theorem due_none {m c : Int} {ws : List (List Nat)} {j : Nat} (h : none ∈ ws.map (lawTileF m c)) : readW m c ws j = none := by
  obtain ⟨w, hw, e⟩ := List.mem_map.mp h
  unfold readW
  cases eh : handOf ws with
  | none => rfl
  | some hd =>
    cases et : tileW w with
    | none =>
      obtain ⟨i, hi⟩ := List.getElem?_of_mem hw
      rw [handOf_none hi et] at eh
      cases eh
    | some t =>
      have mt := handOf_inv eh hw et
      exact if_neg fun y => lawTile_none e et (y.2.2.2.1 t mt).1
theorem due_some {m c : Int} {ws : List (List Nat)} {zs : List Tile} (h : ws.map (lawTileF m c) = zs.map some) : handOf ws = some zs ∧ ∀ t ∈ zs, InHouse m c t := by
  have get : ∀ (i : Nat) (w : List Nat), ws[i]? = some w → ∃ t, zs[i]? = some t ∧ lawTileF m c w = some t := fun i w hw => by
    have e := congrArg (fun l : List (Option Tile) => l[i]?) h
    simp only [List.getElem?_map, hw, Option.map_some] at e
    cases z : zs[i]? with
    | none => rw [z] at e; cases e
    | some t =>
      rw [z] at e
      exact ⟨t, rfl, Option.some.inj e⟩
  have len : ws.length = zs.length := by
    have := congrArg List.length h
    rw [List.length_map, List.length_map] at this
    exact this
  refine ⟨handOf_some ?_, fun t ht => ?_⟩
  · rw [← h]
    refine List.map_congr_left fun w hw => ?_
    obtain ⟨i, hi⟩ := List.getElem?_of_mem hw
    obtain ⟨t, _, e⟩ := get i w hi
    rw [e]
    exact (lawTile_some e).2
  · obtain ⟨i, hi⟩ := List.getElem?_of_mem ht
    have lt : i < ws.length := by
      have := (List.getElem?_eq_some_iff.mp hi).1
      omega
    obtain ⟨w, hw⟩ := get_some ws lt
    obtain ⟨u, hu, e⟩ := get i w hw
    rw [hi] at hu
    cases hu
    exact (lawTile_some e).1
theorem due_read {m c : Int} {ws : List (List Nat)} {zs : List Tile} {j : Nat} (h : handOf ws = some zs) : readW m c ws j = if IsHand m c zs (j : Int) then some (zs, j) else none := by
  unfold readW
  rw [h]
/-! data of such lists -/
instance : Fz (Option Tile) := ⟨fun o => by
  cases o with
  | none => rfl
  | some t => exact Fz.fz t⟩
section
variable {K : PySem.W.Frag} {H : Hp} {vs : List V} {zs : List Tile}
theorem hd_non : Hd K H .non (none : Option Tile) := Dp.non
theorem hd_som {v : V} {t : Tile} (h : Hd K H v t) : Hd K H v (some t) := h
theorem hds_som (h : Hds K H vs (zs.map some)) : Hds K H vs zs := by
  show DpAll K H vs (zs.map PySem.W.Datum.toD)
  have h : DpAll K H vs ((zs.map some).map PySem.W.Datum.toD) := h
  rw [List.map_map] at h
  exact h
end
/-- .. by whatever decides it -/
theorem ite_dI {p : Prop} {ip : Decidable p} {A B : Prop} (h1 : p → A) (h2 : ¬ p → B) : if @decide p ip = true then A else B := @ite_d p ip A B h1 h2
end MH
/-- the plain steps within one statement -/
local macro_rules | `(tactic| walk_at "rd0") => `(tactic| first
  | ((with_reducible refine' MH.rd_var ?rdh ?_); (case rdh => rfl)) | with_reducible refine MH.rd_c ?_ | with_reducible refine MH.rd_op ?_ | with_reducible refine MH.rd_un ?_ | with_reducible refine MH.rd_I0 ?_ | with_reducible refine MH.rd_U ?_
  | with_reducible refine MH.rd_bl ?_ | with_reducible refine MH.rd_test ?_ | with_reducible refine MH.rd_B ?_ | with_reducible refine MH.rd_and ?_ | with_reducible refine MH.rd_or ?_ | with_reducible refine MH.rd_not ?_ | with_reducible refine MH.rd_chain ?_
  | with_reducible refine MH.rd_andV ?_ | with_reducible refine MH.rd_orV ?_ | with_reducible refine MH.rd_notV ?_ | with_reducible refine MH.rd_ifE ?_ | with_reducible refine MH.rd_nil ?_ | with_reducible refine MH.rd_cons ?_ | with_reducible refine MH.rd_tup ?_ | with_reducible refine MH.rd_lst ?_
  | with_reducible refine MH.rd_call ?_ | with_reducible refine MH.rd_CB ?_ | with_reducible refine MH.rd_BM ?_ | with_reducible refine MH.rd_BM0 ?_ | ((with_reducible refine' MH.rd_len ?rdl ?_); (case rdl => exact Nat.le_of_ble_eq_true rfl)) | ((with_reducible refine' MH.rd_list ?rdl ?_); (case rdl => assumption)) | with_reducible refine MH.rd_for ?_ | with_reducible refine MH.rd_lc ?_ | with_reducible refine MH.rd_iList ?_ | with_reducible refine MH.rd_iTup ?_ | with_reducible refine MH.rd_iEnum ?_ | with_reducible refine MH.rd_iRng1 ?_ | with_reducible refine MH.rd_iRng2 ?_ | with_reducible refine MH.rd_gname ?_ | with_reducible refine MH.rd_meth ?_ | with_reducible refine MH.rd_callS ?_ | ((with_reducible refine' MH.rd_has ?rda ?_); (case rda => assumption)) | with_reducible refine MH.rd_yes ?_ | with_reducible refine MH.rd_min2 ?_ | with_reducible refine MH.rd_max2 ?_ | with_reducible refine MH.rd_make ?_ | with_reducible refine MH.rd_makeS ?_ | with_reducible refine MH.rd_set ?_ | with_reducible refine MH.rd_asg ?_ | with_reducible refine MH.rd_ret ?_ | with_reducible refine MH.rd_drop ?_ | with_reducible refine MH.rd_next ?_ | with_reducible refine L2.iteT ?_ | with_reducible refine L2.iteF ?_ | with_reducible refine MH.ite_nf ?_ | with_reducible refine MH.ite_nt ?_
  | with_reducible refine MH.rd_dget2 ?_ | with_reducible refine MH.rd_dget ?_ | with_reducible refine MH.rd_dput ?_ | ((with_reducible refine' MH.rd_isD ?rda ?_); (case rda => assumption)) | with_reducible refine MH.rd_par ?_ | with_reducible refine MH.rd_two ?_ | with_reducible refine MH.rd_par3 ?_ | with_reducible refine MH.rd_three ?_ | with_reducible refine MH.rd_sl ?_ | with_reducible refine MH.rd_part ?_ | with_reducible refine MH.rd_partI ?_ | with_reducible refine MH.rd_noPart ?_ | with_reducible refine MH.rd_intB ?_
  | with_reducible refine MH.rd_eqS ?_ | with_reducible refine MH.rd_neS ?_ | with_reducible refine MH.rd_addI ?_ | with_reducible refine MH.rd_ltI ?_ | with_reducible refine MH.rd_gtI ?_ | with_reducible refine MH.rd_eqI ?_ | with_reducible refine MH.rd_neI ?_ | with_reducible refine MH.rd_fld ?_
  | ((with_reducible refine' MH.rd_most ?rda ?rdb ?_); (case rda => assumption); (case rdb => assumption)) | ((with_reducible refine' MH.rd_cols ?rda ?rdb ?_); (case rda => assumption); (case rdb => assumption)))
/-- the plain steps, as far as they go -/
local macro_rules | `(tactic| walk_at "rd1") => `(tactic| first | walk_at "rd0" | with_reducible refine MH.rd_seq ?_ | with_reducible refine MH.rd_if ?_)
local macro_rules | `(tactic| walk_at "seq") => `(tactic| ((try with_reducible refine MH.rd_nx ?_); with_reducible refine MH.rd_seq ?_))
local macro_rules | `(tactic| walk_at "nx") => `(tactic| (try with_reducible refine MH.rd_nx ?_))
local macro_rules | `(tactic| walk_at "if") => `(tactic| ((try with_reducible refine MH.rd_nx ?_); with_reducible refine MH.rd_if ?_))
/-- Same H H' along the steps, none of them passed over -/
local macro_rules | `(tactic| walk_at "same") => `(tactic| first | assumption | exact L2.Same.refl _ | (refine L2.Same.trans ?_ (by assumption); walk_at "same"))
/-- plain steps over texts, of calls in a suite -/
local macro_rules | `(tactic| walk_at "rd0") => `(tactic| first
  | with_reducible refine MH.rd_M1 ?_ | with_reducible refine MH.rd_isS ?_ | with_reducible refine MH.rd_BMS ?_ | with_reducible refine MH.rd_tyS ?_ | with_reducible refine MH.rd_iStr ?_ | with_reducible refine MH.rd_its ?_
  | with_reducible refine MH.rd_callE ?_)
namespace MH
open PySem L2
def topS (i : Nat) : Stmt := PySem.Challenge.pw_meldhouse_k10_texts_read.main.body.getD i (.Pass ⟨0, 0, 0, 0⟩)
abbrev s_House___init__ : Stmt := inClass (topS 7) 0
abbrev s_House_has : Stmt := inClass (topS 7) 1
abbrev s_is_hand : Stmt := topS 8
abbrev s_tile_of : Stmt := topS 11
abbrev s_read : Stmt := topS 12
abbrev s__law_cell_at : Stmt := topS 14
abbrev s__law_mix : Stmt := topS 15
abbrev s__law_whole : Stmt := topS 16
abbrev s__law_house_by : Stmt := topS 17
abbrev s__law_trimmed : Stmt := topS 18
abbrev s__law_hand_by : Stmt := topS 19
abbrev s__law_jokers_by : Stmt := topS 20
abbrev s__law_spoilt : Stmt := topS 21
abbrev s__law_tile : Stmt := topS 22
abbrev s__law_due : Stmt := topS 23
abbrev s__law_met : Stmt := topS 24
abbrev s_law : Stmt := topS 25
end MH
namespace MH
open PySem L2
/-! House.has -/
def hasB (m c n k : Int) : Bool := decide (1 ≤ n) && decide (n ≤ m) && (decide (0 ≤ k) && decide (k < c))
def spHas (C : Addr) : Sp := fun vs H Q _ => ∃ (p : Addr) (m c n k : Int), vs = [.ref p, .int n, .int k] ∧ HouseAt C H p m c ∧ Q (.bl (hasB m c n k)) H
section
variable {P : Program} {w : World} {K : PySem.W.Frag} {mg : Str → Option Value} {base : Heap} {C : Addr}
theorem ok_has {f : Addr} {fd : FuncData} (F : Fun K "has" "House.has" s_House_has f fd) (HS : Hs K C) : FnOk P w K mg base CX0 1 f fd ["self", "number", "colour"] (spHas C) := by
  have sc : FnScope ["self", "number", "colour"] ["self", "number", "colour"] (defScope s_House_has) := ⟨rfl, rfl, rfl, by decide +kernel, rfl, by decide +kernel, by decide +kernel⟩
  refine F.ok sc (fun vs H Q E h => ?_) (fun cdv A outer s H vs Q E hr h => ?_)
  · obtain ⟨p, m, c, n, k, rfl, _⟩ := h
    rfl
  obtain ⟨p, m, c, n, k, rfl, hh, q⟩ := h
  refine ⟨_, (pss_one (ps_ret (pe_and (pe_chain op_le op_le pe_int (pv 1) (pe_fldK (K := K) (pv 0) rfl)) (pe_one (pe_chain op_le (op_ltA (K := K) hr) pe_int (pv 2) (pe_fldK (K := K) (pv 0) rfl)))))), ?_⟩
  repeat walk_at "rd1"
  refine ite_d (fun c1 => ?_) (fun c1 => ?_)
  · repeat walk_at "rd1"
    refine ite_d (fun c2 => ?_) (fun c2 => ?_)
    · repeat walk_at "rd1"
      refine ite_d (fun c3 => ?_) (fun c3 => ?_)
      · repeat walk_at "rd1"
        exact (show Q (.bl (decide (k < c))) H from by simpa [hasB, c1, c2, c3] using q)
      · repeat walk_at "rd1"
        exact (show Q (.bl false) H from by simpa [hasB, c1, c2, c3] using q)
    · repeat walk_at "rd1"
      exact (show Q (.bl false) H from by simpa [hasB, c1, c2] using q)
  · repeat walk_at "rd1"
    exact (show Q (.bl false) H from by simpa [hasB, c1] using q)
end
end MH
namespace MH
open PySem L2
/-! House.__init__ -/
def HouseOk (m c : Int) : Prop := 3 ≤ m ∧ m ≤ 13 ∧ 1 ≤ c ∧ c ≤ 4
def spInit (C XB : Addr) : Sp := fun vs H Q E => ∃ (p dx : Addr) (m c : Int), vs = [.ref p, .int m, .int c] ∧ H p = some (.ins C dx []) ∧
  (HouseOk m c → Q .non (upd H p (.ins C dx (flds m c)))) ∧ (¬ HouseOk m c → E (.ref XB) none H)
section
variable {P : Program} {w : World} {K : PySem.W.Frag} {mg : Str → Option Value} {base : Heap} {C XB : Addr}
theorem flds_put1 (m : Int) : putF "most" (.int m) [] = [(("most" : Str), V.int m)] := rfl
theorem flds_put2 (m c : Int) : putF "colours" (.int c) [(("most" : Str), V.int m)] = flds m c := by
  show (if ("most" : Str) = "colours" then _ else (("most" : Str), V.int m) :: putF "colours" (V.int c) []) = flds m c
  rw [if_neg neMC]
  rfl
theorem ok_init {f : Addr} {fd : FuncData} (F : Fun K "__init__" "House.__init__" s_House___init__ f fd) (HS : Hs K C) (XC_BadHouse : Xc K mg "BadHouse" XB) : FnOk P w K mg base (L2.CX P w) 1 f fd ["self", "most", "colours"] (spInit C XB) := by
  have sc : FnScope ["self", "most", "colours"] ["self", "most", "colours"] (defScope s_House___init__) := ⟨rfl, rfl, rfl, by decide +kernel, rfl, by decide +kernel, by decide +kernel⟩
  refine F.okX sc (fun vs H Q E h => ?_) (fun cdv A outer s H vs Q E hr h => ?_)
  · obtain ⟨p, dx, m, c, rfl, _⟩ := h
    rfl
  obtain ⟨p, dx, m, c, rfl, hp, qy, qn⟩ := h
  refine ⟨_, (pss_cons (ps_if (PW.pt (pw_or (pt_not (pt_chain op_le op_le pe_int (pv 1) pe_int)) (pw_or1 (pt_not (pt_chain op_le op_le pe_int (pv 2) pe_int)))))
      (pss_one (ps_raise rfl (takes_of rfl rfl rfl rfl) (pmk_own PySem.F.excBase_ValueError XC_BadHouse.x XC_BadHouse.g XC_BadHouse.k (raises_own XC_BadHouse.b XC_BadHouse.t) rfl)))
      pss_nil)
      (pss_cons (ps_fld (pv 0) (pv 1) rfl)
      (pss_one (ps_fld (pv 0) (pv 2) rfl)))), ?_⟩
  repeat walk_at "rd1"
  have no : ¬ HouseOk m c → E (.ref XB) none H := qn
  have yes : HouseOk m c → sFld K (tVar 0) (tVar 1) "most" { nx := sFld K (tVar 0) (tVar 2) "colours" { nx := fun _ H' => Q .non H', rt := Q }, rt := Q } (L2.start ["self", "most", "colours"] [V.ref p, V.int m, V.int c]) H := fun ok => by
    refine ⟨_, rfl, _, rfl, p, C, dx, [], rfl, hp, HS.cl, HS.nM, (by show 0 < 1000; decide), ?_⟩
    refine ⟨_, rfl, _, rfl, p, C, dx, _, rfl, upd_same, HS.cl, HS.nC, (by show 1 < 1000; decide), ?_⟩
    rw [flds_put1, flds_put2, upd_upd]
    exact qy ok
  refine ite_d (fun c1 => ?_) (fun c1 => ?_)
  · repeat walk_at "rd1"
    refine ite_nd (fun c2 => ?_) (fun c2 => ?_)
    · repeat walk_at "rd1"
      refine ite_d (fun c3 => ?_) (fun c3 => ?_)
      · repeat walk_at "rd1"
        refine ite_nd (fun c4 => ?_) (fun c4 => ?_)
        · repeat walk_at "rd1"
          exact yes ⟨c1, c2, c3, c4⟩
        · repeat walk_at "rd1"
          exact no fun z => c4 z.2.2.2
      · repeat walk_at "rd1"
        exact no fun z => c3 z.2.2.1
    · repeat walk_at "rd1"
      exact no fun z => c2 z.2.1
  · repeat walk_at "rd1"
    exact no fun z => c1 z.1
theorem rd_house {H : Hp} {Q : Addr → Hp → Prop} {E : XK} {m c : Int} (ok : HouseOk m c) (q : ∀ p H', Same H H' → HouseAt C H' p m c → Q p H') :
    ∀ x dx, H x = none → H dx = none → dx ≠ x → spInit C XB (.ref x :: ([.int m, .int c] ++ [])) (upd (upd H dx (.own x)) x (.ins C dx [])) (fun v H2 => v = .non ∧ Q x H2) E := by
  intro y dy ny ndy ne
  refine ⟨y, dy, m, c, rfl, upd_same, fun _ => ⟨rfl, ?_⟩, fun n => absurd ok n⟩
  exact q y _ (fun b o e => by rw [upd_upd, upd_ne (ne_of_none e ny), upd_ne (ne_of_none e ndy)]; exact e) ⟨dy, upd_same⟩
end
end MH
namespace MH
open PySem L2
/-! is_hand -/
def spIsHand (K : PySem.W.Frag) (C : Addr) : Sp := fun vs H Q _ => ∃ (p a : Addr) (m c : Int) (us : List V) (ts : List Tile) (j : Int), vs = [.ref p, .ref a, .int j] ∧ HouseAt C H p m c ∧ SqL K H a us ∧ Hds K H us ts ∧
  ∀ H', Same H H' → Q (.bl (decide (IsHand m c ts j))) H'
theorem hasB_iff {m c : Int} {t : Tile} : hasB m c t.1 t.2 = true ↔ InHouse m c t := by
  simp only [hasB, Bool.and_eq_true, decide_eq_true_eq, InHouse]
  constructor
  · rintro ⟨⟨a, b⟩, d, e⟩
    exact ⟨a, b, d, e⟩
  · rintro ⟨a, b, d, e⟩
    exact ⟨⟨a, b⟩, d, e⟩
section
variable {P : Program} {w : World} {K : PySem.W.Frag} {mg : Str → Option Value} {base : Heap} {C : Addr}
theorem ok_is_hand {f : Addr} {fd : FuncData} (F : Fun K "is_hand" "is_hand" s_is_hand f fd) (BL : Bl mg) (KC : Ks mg) (HS : Hs K C) (G_has : Mth P w K mg base C 1 "has" ["self", "number", "colour"] (spHas C)) :
    FnOk P w K mg base CX0 2 f fd ["house", "hand", "jokers"] (spIsHand K C) := by
  have sc : FnScope ["house", "hand", "jokers", "k", "tile"] ["house", "hand", "jokers"] (defScope s_is_hand) := ⟨rfl, rfl, rfl, by decide +kernel, rfl, by decide +kernel, by decide +kernel⟩
  refine F.ok sc (fun vs H Q E h => ?_) (fun cdv A outer s H vs Q E hr h => ?_)
  · obtain ⟨p, a, m, c, us, ts, j, rfl, _⟩ := h
    rfl
  obtain ⟨p, a, m, c, us, ts, j, rfl, hh, hl, hd, q⟩ := h
  refine ⟨_, (pss_cons (ps_if (PW.pt (pw_or (pt_cmpR (op_gtA (K := K) hr) (pe_callB (call_lenA (K := K)) rfl BL.len PySem.boot_len (pa_cons (pv 1) pa_nil)) (pe_constI KC.MOST_TILES) (nomark _)) (pw_or1 (pt_not (pt_chain op_le op_le pe_int (pv 2) (pe_constI KC.MOST_JOKERS))))))
      (pss_one (ps_ret pe_bl))
      pss_nil)
      (pss_cons (ps_for PassesOwn.never rfl (pi_enumK (K := K) rfl BL.enumerate (pa_cons (pv 1) pa_nil)) (pg_tupK (K := K) (by rfl) (pgs_cons (pg_name (i := 3) sc.nd rfl (Or.inl rfl)) (pgs_cons (pg_name (i := 4) sc.nd rfl (Or.inl rfl)) pgs_nil)))
      (pss_cons (ps_if (PW.pt (pw_or (pt_not (pt_val (pe_mth (pv 0) HS.cl G_has (hr.mono (by omega)) (pa_cons (pe_ix (ix_any (K := K)) (pv 4) pe_int (fun _ _ => rfl)) (pa_cons (pe_ix (ix_any (K := K)) (pv 4) pe_int (fun _ _ => rfl)) pa_nil))))) (pw_or1 (pt_cmpR (op_gtA (K := K) hr) (pe_bmK (K := K) PySem.F.plainAttrs_list PySem.F.slot_list_count PySem.F.type_list_count (mt_countA (K := K) hr) (pv 1) (pa_cons (pv 4) pa_nil)) pe_int (nomark _)))))
      (pss_one (ps_ret pe_bl))
      pss_nil)
      (pss_one (ps_if (PW.pt (pw_and (pt_cmpR (op_gtA (K := K) hr) (pv 3) pe_int (nomark _)) (pw_and1 (pt_cmpR (op_gtA (K := K) hr) (pe_ix (ix_any (K := K)) (pv 1) (pe_op op_sub (pv 3) pe_int) (fun _ _ => rfl)) (pv 4) (nomark _)))))
      (pss_one (ps_ret pe_bl))
      pss_nil))))
      (pss_one (ps_ret pe_bl)))), ?_⟩
  have len := hd.length
  have no : ∀ H', Same H H' → ¬ IsHand m c ts j → Q (.bl false) H' := fun H' s n => by
    have := q H' s
    rw [decide_eq_false n] at this
    exact this
  repeat walk_at "rd1"
  refine rd_lenL hl ?_
  repeat walk_at "rd1"
  refine ite_d (fun c1 => ?_) (fun c1 => ?_)
  · repeat walk_at "rd1"
    exact no H (Same.refl H) fun z => by have := z.1; omega
  repeat walk_at "rd1"
  refine ite_d (fun c2 => ?_) (fun c2 => ?_)
  rotate_left
  · repeat walk_at "rd1"
    exact no H (Same.refl H) fun z => c2 z.2.1
  repeat walk_at "rd1"
  refine ite_nd (fun c3 => ?_) (fun c3 => ?_)
  rotate_left
  · repeat walk_at "rd1"
    exact no H (Same.refl H) fun z => c3 z.2.2.1
  repeat walk_at "rd1"
  refine rd_ite hl ?_
  refine loop_enum (xs := us) (fun i σ H' => ∃ v3 v4 : Option V, σ = [some (.ref p), some (.ref a), some (.int j), v3, v4] ∧ Same H H' ∧ i ≤ ts.length ∧ (∀ k (hk : k < ts.length), k < i → InHouse m c ts[k] ∧ ts.count ts[k] ≤ 2) ∧
    ∀ k (hk : k + 1 < ts.length), k + 1 < i → tlt ts[k + 1] (ts[k]'(by omega)) = false) ⟨none, none, rfl, Same.refl H, Nat.zero_le _, fun k _ z => absurd z (Nat.not_lt_zero _), fun k _ z => absurd z (Nat.not_lt_zero _)⟩ ?_ ?_ ?_
  · rintro i σ H' _ ⟨_, _, _, s1, _⟩
    exact s1.seq hl
  · rintro i x σ H1 T H' hx ⟨v3, v4, rfl, s1, hi, g1, g2⟩ nT s2 eT _
    have hu : i < us.length := (List.getElem?_eq_some_iff.mp hx).1
    have ht : i < ts.length := by omega
    obtain ⟨t, e, hxt⟩ := hd.getV hx
    rw [List.getElem?_eq_getElem ht] at e
    have et : ts[i] = t := Option.some.inj e
    have s3 := s1.trans s2
    obtain ⟨b, rfl, hb⟩ := tile_of (hxt.same s3)
    refine rd_gtup2 (SqT.of eT) rfl ?_
    have hh' := hh.same s3
    repeat walk_at "rd1"
    refine rd_ixT hb (v := .int t.1) rfl ?_
    repeat walk_at "rd1"
    refine rd_ixT hb (v := .int t.2) rfl ?_
    repeat walk_at "rd1"
    refine ⟨p, m, c, t.1, t.2, rfl, hh', ?_⟩
    repeat walk_at "rd1"
    refine ite_n (fun c4 => ?_) (fun c4 => ?_)
    · repeat walk_at "rd1"
      refine no H' s3 fun z => ?_
      have := (z.2.2.2.1 t (by rw [← et]; exact List.getElem_mem ht)).1
      rw [hasB_iff.mpr this] at c4
      cases c4
    repeat walk_at "rd1"
    refine ⟨tyV_list (s3.seq hl), ?_⟩
    repeat walk_at "rd1"
    refine rd_countT (s3.seq hl) (hd.same s3) (hxt.same s3) ?_
    repeat walk_at "rd1"
    refine ite_d (fun c5 => ?_) (fun c5 => ?_)
    · repeat walk_at "rd1"
      refine no H' s3 fun z => ?_
      have := (z.2.2.2.1 t (by rw [← et]; exact List.getElem_mem ht)).2
      omega
    repeat walk_at "rd1"
    have good : ∀ k (hk : k < ts.length), k < i + 1 → InHouse m c ts[k] ∧ ts.count ts[k] ≤ 2 := fun k hk hki => by
      by_cases e : k = i
      · subst e
        rw [et]
        exact ⟨hasB_iff.mp c4, by omega⟩
      · exact g1 k hk (by omega)
    refine ite_d (fun c6 => ?_) (fun c6 => ?_)
    · repeat walk_at "rd1"
      have hp : i - 1 < ts.length := by omega
      obtain ⟨y, hy, hyt⟩ := hd.get (List.getElem?_eq_getElem hp)
      refine rd_ixL (s3.seq hl) (v := y) (at_of (j := i - 1) (by omega) hy) ?_
      repeat walk_at "rd1"
      refine rd_gtT (hyt.same s3) (hxt.same s3) ?_
      repeat walk_at "rd1"
      refine ite_b (fun c7 => ?_) (fun c7 => ?_)
      · repeat walk_at "rd1"
        refine no H' s3 fun z => ?_
        have := adj_of_sorted z.2.2.2.2 (i := i - 1) (j := i) (by omega) ht
        rw [et, c7] at this
        cases this
      · repeat walk_at "rd1"
        refine ⟨_, _, rfl, s3, by omega, good, fun k hk hki => ?_⟩
        by_cases e : k + 1 = i
        · have e2 : k = i - 1 := by omega
          subst e2
          have e3 : i - 1 + 1 = i := by omega
          simp only [e3, et]
          exact c7
        · exact g2 k hk (by omega)
    · repeat walk_at "rd1"
      exact ⟨_, _, rfl, s3, by omega, good, fun k hk hki => g2 k hk (by omega)⟩
  · rintro σ H' ⟨v3, v4, rfl, s1, hi, g1, g2⟩
    rw [len] at g1 g2
    repeat walk_at "rd1"
    have yes : IsHand m c ts j := ⟨by omega, c2, c3, fun t ht => by
      obtain ⟨k, hk, rfl⟩ := List.getElem_of_mem ht
      exact g1 k hk hk, sorted_of_adj fun k hk => g2 k hk hk⟩
    have := q H' s1
    rw [decide_eq_true yes] at this
    exact this
end
end MH
namespace MH
open PySem L2
/-! tile_of -/
def spTileOf (XN : Addr) : Sp := fun vs H Q E => ∃ w : Str, vs = [.str w] ∧ w.length ≤ 1000 ∧ (tileW (tl w) = none → ∀ H', Same H H' → E (.ref XN) none H') ∧
  ∀ t, tileW (tl w) = some t → ∀ a H', H a = none → Same H H' → H' a = some (.tup [.int t.1, .int t.2]) → Q (.ref a) H'
section
variable {P : Program} {w : World} {K : PySem.W.Frag} {mg : Str → Option Value} {base : Heap} {XBadNote : Addr}
theorem ok_tile_of {f : Addr} {fd : FuncData} (F : Fun K "tile_of" "tile_of" s_tile_of f fd) (BL : Bl mg) (KL : Kl mg) (XC_BadNote : Xc K mg "BadNote" XBadNote) : FnOk P w K mg base (L2.CX P w) 1 f fd ["word"] (spTileOf XBadNote) := by
  have sc : FnScope ["word", "figures", "figure"] ["word"] (defScope s_tile_of) := ⟨rfl, rfl, rfl, by decide +kernel, rfl, by decide +kernel, by decide +kernel⟩
  refine F.okX sc (fun vs H Q E h => ?_) (fun cdv A outer s H vs Q E hr h => ?_)
  · obtain ⟨x, rfl, _⟩ := h
    rfl
  obtain ⟨x, rfl, lx, qn, qy⟩ := h
  refine ⟨_, (pss_cons (ps_set (i := 1) sc.nd rfl (Or.inl rfl) (pe_slice (sl_any (K := K)) (pv 0) po_none (po_some (pe_un un_neg pe_int))))
      (pss_cons (ps_if (PW.pt (pw_or (pt_not (pt_chain op_le op_le pe_int (pe_callB (call_lenA (K := K)) rfl BL.len PySem.boot_len (pa_cons (pv 1) pa_nil)) pe_int)) (pw_or (pt_cmpR (op_eqA (K := K) hr) (pe_ix (ix_any (K := K)) (pv 1) pe_int (fun _ _ => rfl)) pe_str (nomark _)) (pw_or1 (pt_cmpR (op_notInA (K := K) hr) (pe_ix (ix_any (K := K)) (pv 0) (pe_un un_neg pe_int) (fun _ _ => rfl)) (pe_constS KL.LETTERS) (by rfl))))))
      (pss_one (ps_raise rfl (takes_of rfl rfl rfl rfl) (pmk_own PySem.F.excBase_ValueError XC_BadNote.x XC_BadNote.g XC_BadNote.k (raises_own XC_BadNote.b XC_BadNote.t) rfl)))
      pss_nil)
      (pss_cons (ps_for (passes_of rfl) rfl (pi_str (pv 1)) (pg_name (i := 2) sc.nd rfl (Or.inl rfl))
      (pss_one (ps_if (pt_cmpR (op_notInA (K := K) hr) (pv 2) pe_str (by rfl))
      (pss_one (ps_raise rfl (takes_of rfl rfl rfl rfl) (pmk_own PySem.F.excBase_ValueError XC_BadNote.x XC_BadNote.g XC_BadNote.k (raises_own XC_BadNote.b XC_BadNote.t) rfl)))
      pss_nil)))
      (pss_one (ps_ret (pe_tup (pa_cons (pe_callTy call_intA rfl BL.int (by decide +kernel) (pa_cons (pv 1) pa_nil)) (pa_cons (pe_bmS PySem.F.plainAttrs_str PySem.F.slot_str_index PySem.F.type_str_index (mt_indexX rfl (takes_of rfl rfl rfl rfl)) (pe_constS KL.LETTERS) (pa_cons (pe_ix (ix_any (K := K)) (pv 0) (pe_un un_neg pe_int) (fun _ _ => rfl)) pa_nil)) pa_nil)))))))), ?_⟩
  walk_at "seq"
  repeat walk_at "rd0"
  refine rd_slS (by omega) ?_
  generalize hg : cutS x none (some (-1)) = g
  have bad : tileW (tl x) = none → E (.ref XBadNote) none H := fun e => qn e H (Same.refl _)
  rcases snoc_of (tl x) with e | ⟨fs, c, e⟩
  · have hf : tl g = [] := by
      rw [← hg]
      exact tl_cut_last0 e
    have lg : g.length = 0 := by
      rw [len_tl, hf]
      rfl
    walk_at "seq"
    walk_at "if"
    repeat walk_at "rd1"
    refine rd_lenS' (by omega) ?_
    repeat walk_at "rd1"
    refine ite_d (fun a1 => absurd a1 (by omega)) (fun _ => ?_)
    repeat walk_at "rd1"
    exact bad (by rw [e]; rfl)
  have hf : tl g = fs := by
    rw [← hg]
    exact tl_cut_last e
  have lg : g.length = fs.length := by rw [len_tl, hf]
  have lf : fs.length ≤ 1000 := by
    have := len_tl x
    rw [e, List.length_append] at this
    omega
  have bad2 : okWord fs c = false → E (.ref XBadNote) none H := fun h => bad (by rw [e, tileW_snoc, tileFC, h]; rfl)
  walk_at "seq"
  walk_at "if"
  repeat walk_at "rd1"
  refine rd_lenS' (by omega) ?_
  repeat walk_at "rd1"
  refine ite_d (fun a1 => ?_) (fun a1 => ?_)
  rotate_left
  · repeat walk_at "rd1"
    exact bad2 (by unfold okWord; rw [decide_eq_false (p := 1 ≤ fs.length) (by omega)]; rfl)
  repeat walk_at "rd1"
  refine ite_nd (fun a2 => ?_) (fun a2 => ?_)
  rotate_left
  · repeat walk_at "rd1"
    exact bad2 (by unfold okWord; rw [decide_eq_false (p := fs.length ≤ 2) (by omega), Bool.and_false]; rfl)
  repeat walk_at "rd1"
  obtain ⟨c0, fr, hfr⟩ : ∃ c0 fr, fs = c0 :: fr := by
    cases hfs : fs with
    | nil =>
      rw [hfs] at lg
      simp at lg
      omega
    | cons c0 fr => exact ⟨c0, fr, rfl⟩
  refine rd_ixS' (c := c0) (by omega) (atI_nat (j := 0) (by show (tl g)[0]? = some c0; rw [hf, hfr]; rfl)) ?_
  repeat walk_at "rd1"
  refine ite_d (fun a3 => ?_) (fun a3 => ?_)
  · repeat walk_at "rd1"
    rw [sg_eq tl_zero] at a3
    exact bad2 (by unfold okWord; rw [hfr, a3]; simp)
  rw [sg_eq tl_zero] at a3
  repeat walk_at "rd1"
  refine rd_ixS' (c := c) (by omega) (by show atI (tl x) (-1) = some c; rw [e]; exact at_last) ?_
  repeat walk_at "rd1"
  refine rd_notInS ?_
  repeat walk_at "rd1"
  refine ite_nd (fun a4 => ?_) (fun a4 => ?_)
  rotate_left
  · repeat walk_at "rd1"
    rw [in_abcd] at a4
    exact bad2 (by unfold okWord; rw [show isLet c = false by simpa using a4]; simp)
  rw [in_abcd] at a4
  repeat walk_at "rd1"
  refine loop_str (fun i σ H' => ∃ v2 : Option V, σ = [some (.str x), some (.str g), v2] ∧ H' = H ∧ (fs.take i).all isFig = true) ⟨none, rfl, rfl, by rw [List.take_zero]; rfl⟩ ?_ ?_
  · rintro i k σ H1 hk ⟨v2, rfl, rfl, ha⟩
    have hk : fs[i]? = some k := by
      rw [← hf]
      exact hk
    repeat walk_at "rd1"
    refine rd_notInS ?_
    repeat walk_at "rd1"
    refine ite_nd (fun b1 => ?_) (fun b1 => ?_)
    · rw [in_figs] at b1
      repeat walk_at "rd1"
      refine ⟨_, rfl, rfl, ?_⟩
      rw [take_succ' hk, List.all_append, ha]
      simp [b1]
    · rw [in_figs] at b1
      repeat walk_at "rd1"
      refine bad2 ?_
      have : fs.all isFig = false := by
        rw [Bool.eq_false_iff]
        intro z
        exact b1 (List.all_eq_true.mp z k (List.mem_of_getElem? hk))
      unfold okWord
      rw [this, Bool.and_false]
  · rintro σ H1 ⟨v2, rfl, rfl, ha⟩
    have ha : fs.all isFig = true := by
      have l : (g.cps.toList).length = fs.length := by rw [← hf]
      rw [l, List.take_length] at ha
      exact ha
    have good : okWord fs c = true := by
      unfold okWord
      rw [ha, a4, decide_eq_true (p := 1 ≤ fs.length) (by omega), decide_eq_true (p := fs.length ≤ 2) (by omega), hfr]
      simp [a3]
    repeat walk_at "rd1"
    refine rd_intS (int_figs (f := g) (by rw [hf]; exact ha) (by rw [hf, hfr]; simp) (by rw [hf]; omega)) (by omega) ?_
    repeat walk_at "rd1"
    refine rd_ixS' (c := c) (by omega) (by show atI (tl x) (-1) = some c; rw [e]; exact at_last) ?_
    repeat walk_at "rd1"
    refine rd_indexS (index_abcd a4) ?_
    repeat walk_at "rd1"
    refine rd_newO fun a H2 na s2 e2 _ => ?_
    rw [hf] at e2
    exact qy (((NumText.digitsVal fs : Nat) : Int), ((c - 97 : Nat) : Int)) (by rw [e, tileW_snoc, tileFC, if_pos good]) a H2 na s2 e2
end
end MH
namespace MH
open PySem L2
/-! read -/
def spRead (K : PySem.W.Frag) (C XN : Addr) : Sp := fun vs H Q E => ∃ (p : Addr) (m c : Int) (t : Str), vs = [.ref p, .str t] ∧ HouseAt C H p m c ∧ t.length ≤ 900 ∧ (readF m c (tl t) = none → ∀ H', Same H H' → E (.ref XN) none H') ∧
  ∀ h j, readF m c (tl t) = some (h, j) → ∀ a b H' ws, H b = none → Same H H' → H' a = some (.tup [.ref b, .int ((j : Nat) : Int)]) → H' b = some (.lst ws) → Hds K H' ws h → Q (.ref a) H'
theorem spl_len (S : List Nat) : ∀ (k : Nat) (acc l : List Nat), (TL.spl S k acc l).length ≤ l.length + 1 ∧ ∀ w ∈ TL.spl S k acc l, w.length ≤ acc.length + l.length
  | k, acc, [] => by
    rw [TL.spl_nil]
    refine ⟨Nat.le_refl _, fun w hw => ?_⟩
    rw [List.mem_singleton.mp hw]
    exact Nat.le_add_right _ _
  | 0, acc, c :: r => by
    cases h : TL.pre S (c :: r) with
    | true =>
      rw [TL.spl_hit h]
      obtain ⟨a, b⟩ := spl_len S (S.length - 1) [] r
      refine ⟨by rw [List.length_cons, List.length_cons]; omega, fun w hw => ?_⟩
      rcases List.mem_cons.mp hw with rfl | hw
      · exact Nat.le_add_right _ _
      · have := b w hw
        rw [List.length_cons]
        simp only [List.length_nil] at this
        omega
    | false =>
      rw [TL.spl_miss h]
      obtain ⟨a, b⟩ := spl_len S 0 (acc ++ [c]) r
      refine ⟨by rw [List.length_cons]; omega, fun w hw => ?_⟩
      have := b w hw
      rw [List.length_append, List.length_singleton] at this
      rw [List.length_cons]
      omega
  | k + 1, acc, c :: r => by
    show (TL.spl S k acc r).length ≤ _ ∧ ∀ w ∈ TL.spl S k acc r, _
    obtain ⟨a, b⟩ := spl_len S k acc r
    refine ⟨by rw [List.length_cons]; omega, fun w hw => ?_⟩
    have := b w hw
    rw [List.length_cons]
    omega
section
variable {P : Program} {w : World} {K : PySem.W.Frag} {mg : Str → Option Value} {base : Heap} {C XBadNote : Addr}
theorem ok_read {f : Addr} {fd : FuncData} (F : Fun K "read" "read" s_read f fd) (BL : Bl mg) (XC_BadNote : Xc K mg "BadNote" XBadNote)
    (G_tile_of : Fn P w K mg base (L2.CX P w) 1 "tile_of" ["word"] (spTileOf XBadNote)) (G_is_hand : Fn P w K mg base CX0 2 "is_hand" ["house", "hand", "jokers"] (spIsHand K C)) : FnOk P w K mg base (L2.CX P w) 3 f fd ["house", "text"] (spRead K C XBadNote) := by
  have sc : FnScope ["house", "text", "words", "jokers", "hand", "word"] ["house", "text"] (defScope s_read) := ⟨rfl, rfl, rfl, by decide +kernel, rfl, by decide +kernel, by decide +kernel⟩
  refine F.okX sc (fun vs H Q E h => ?_) (fun cdv A outer s H vs Q E hr h => ?_)
  · obtain ⟨p, m, c, t, rfl, _⟩ := h
    rfl
  obtain ⟨p, m, c, t, rfl, hh, lt, qn, qy⟩ := h
  refine ⟨_, (pss_cons (ps_if (pt_cmpR (op_eqA (K := K) hr) (pv 1) pe_str (nomark _))
      (pss_one (ps_ret (pe_tup (pa_cons (pe_lst pa_nil) (pa_cons pe_int pa_nil)))))
      pss_nil)
      (pss_cons (ps_set (i := 2) sc.nd rfl (Or.inl rfl) (pe_split (pv 1) pe_str))
      (pss_cons (ps_set (i := 3) sc.nd rfl (Or.inl rfl) pe_int)
      (pss_cons (ps_while (passes_of rfl) (PW.pt (pw_and (pt_cmpR (op_gtA (K := K) hr) (pe_callB (call_lenA (K := K)) rfl BL.len PySem.boot_len (pa_cons (pv 2) pa_nil)) pe_int (nomark _)) (pw_and1 (pt_cmpR (op_eqA (K := K) hr) (pe_ix (ix_any (K := K)) (pv 2) (pe_un un_neg pe_int) (fun _ _ => rfl)) pe_str (nomark _)))))
      (pss_cons (ps_expr (pe_bm0K (K := K) PySem.F.plainAttrs_list PySem.F.slot_list_pop PySem.F.type_list_pop mt_pop (pv 2)))
      (pss_one (ps_set (i := 3) sc.nd rfl (Or.inl rfl) (pe_op op_addA (pv 3) pe_int)))))
      (pss_cons (ps_setLcX (i := 4) rfl rfl (takes_of rfl rfl rfl rfl) rfl sc.nd rfl rfl (sw_true rfl rfl rfl (by decide +kernel)) (pi_listK (K := K) (pv 2)) (blkOk_by (own := [("word", 5)]) (N := ["house", "text", "words", "jokers", "hand", "word"]) (sc := defScope s_read) (by decide +kernel)) (fun _ _ _ _ _ _ => (pg_name (i := 5) sc.nd rfl (Or.inl rfl))) (fun _ _ _ _ _ _ => pts_nil) (fun _ _ _ _ _ _ hx => (pe_fn G_tile_of (hr.mono (by omega)) hx (pa_cons (pv 5) pa_nil))))
      (pss_cons (ps_if (pt_not (pt_val (pe_fn0 G_is_hand (hr.mono (by omega)) (pa_cons (pv 0) (pa_cons (pv 4) (pa_cons (pv 3) pa_nil))))))
      (pss_one (ps_raise rfl (takes_of rfl rfl rfl rfl) (pmk_own PySem.F.excBase_ValueError XC_BadNote.x XC_BadNote.g XC_BadNote.k (raises_own XC_BadNote.b XC_BadNote.t) rfl)))
      pss_nil)
      (pss_one (ps_ret (pe_tup (pa_cons (pv 4) (pa_cons (pv 3) pa_nil))))))))))), ?_⟩
  walk_at "seq"
  walk_at "if"
  repeat walk_at "rd1"
  refine ite_d (fun a1 => ?_) (fun a1 => ?_)
  · rw [str_eq tl_dash] at a1
    repeat walk_at "rd1"
    refine rd_newO fun l H1 nl s1 e1 _ => ?_
    repeat walk_at "rd1"
    refine rd_newO fun a H2 na s2 e2 _ => ?_
    exact qy [] 0 (by rw [a1]; rfl) a l H2 [] nl (s1.trans s2) e2 (s2 _ _ e1) Hds.nil
  rw [str_eq tl_dash] at a1
  have tl_t := len_tl t
  obtain ⟨ys, hys⟩ : ∃ ys, ys = Txt.split t (Str.ofString " ") := ⟨_, rfl⟩
  have hsp : ys.map tl = TL.spl [32] 0 [] (tl t) := by
    rw [hys]
    have := TL.split_spl t (Str.ofString " ") (by show tl (Str.ofString " ") ≠ []; rw [tl_blank]; simp) (TL.kind_ok (by decide +kernel))
    rw [show TL.tl (Str.ofString " ") = [32] from tl_blank] at this
    exact this
  obtain ⟨l1, l2⟩ := spl_len [32] 0 [] (tl t)
  rw [← hsp, List.length_map] at l1
  rw [← hsp] at l2
  simp only [List.length_nil, Nat.zero_add] at l2
  have hF : readF m c (tl t) = readW m c (stripR (ys.map tl).reverse).1.reverse (stripR (ys.map tl).reverse).2 := by
    unfold readF
    rw [if_neg a1, hsp]
  rw [hF] at qn
  simp only [hF] at qy
  repeat walk_at "rd0"
  walk_at "seq"
  repeat walk_at "rd0"
  refine rd_split (by rfl) (by omega) fun l H1 nl s1 e1 => ?_
  rw [← hys] at e1
  repeat walk_at "rd0"
  walk_at "seq"
  repeat walk_at "rd0"
  walk_at "nx"
  with_reducible refine rd_seqJ (fun σ H' => ∃ (cur : List Str) (jj : Nat), σ = [some (.ref p), some (.str t), some (.ref l), some (.int ((jj : Nat) : Int)), none, none] ∧ Same H H' ∧ H' l = some (.lst (cur.map V.str)) ∧ (∀ y ∈ cur, y ∈ ys) ∧ cur.length ≤ ys.length ∧
    stripR (ys.map tl).reverse = ((cur.map tl).reverse, jj)) ?_ ?_
  rotate_left
  · intro N rN
    refine ⟨fun n σ H' => ∃ (cur : List Str) (jj : Nat), n = cur.length ∧ σ = [some (.ref p), some (.str t), some (.ref l), some (.int ((jj : Nat) : Int)), none, none] ∧ Same H H' ∧ H' l = some (.lst (cur.map V.str)) ∧ (∀ y ∈ cur, y ∈ ys) ∧ cur.length ≤ ys.length ∧
      stripR (ys.map tl).reverse = ((stripR (cur.map tl).reverse).1, (stripR (cur.map tl).reverse).2 + jj), ⟨_, ys, 0, rfl, rfl, s1, e1, fun y h => h, Nat.le_refl _, by simp⟩, ?_⟩
    rintro n σ H2 ⟨cur, jj, rfl, rfl, s2, e2, sub, le, st⟩
    repeat walk_at "rd1"
    refine rd_lenL (SqL.of e2) ?_
    repeat walk_at "rd1"
    rw [List.length_map]
    rcases snoc_of cur with hc | ⟨ini, y, hc⟩
    · refine ite_d (fun z => absurd z (by rw [hc]; decide)) (fun _ => ?_)
      refine L2.iteF ?_
      exact rN _ _ ⟨cur, jj, rfl, s2, e2, sub, le, by rw [st, hc]; simp [stripR]⟩
    · subst hc
      have e2' : H2 l = some (.lst (ini.map V.str ++ [V.str y])) := by
        rw [e2, List.map_append]
        rfl
      refine ite_d (fun _ => ?_) (fun z => absurd z (by rw [List.length_append, List.length_singleton]; omega))
      repeat walk_at "rd1"
      refine rd_ixL (SqL.of e2') (atI_last _ _) ?_
      repeat walk_at "rd1"
      have hrev : ((ini ++ [y]).map tl).reverse = tl y :: (ini.map tl).reverse := by
        rw [List.map_append, List.reverse_append]
        rfl
      rw [hrev] at st
      refine ite_d (fun z => ?_) (fun z => ?_)
      · rw [str_eq tl_star] at z
        refine ⟨_, fun σ' H' h => h, ?_⟩
        repeat walk_at "rd1"
        refine rd_pop e2' ?_
        repeat walk_at "rd1"
        refine ⟨ini.length, by rw [List.length_append, List.length_singleton]; omega, ini, jj + 1, rfl, rfl, Same.mut s2 nl, upd_same, fun u hu => sub u (List.mem_append_left _ hu), by rw [List.length_append] at le; omega, ?_⟩
        rw [st, stripR_yes _ z]
        simp only [Nat.add_assoc, Nat.add_comm 1 jj]
      · rw [str_eq tl_star] at z
        exact rN _ _ ⟨_, jj, rfl, s2, e2, sub, le, by rw [st, hrev, stripR_no _ z, Nat.zero_add]⟩
  rintro σ H2 ⟨cur, jj, rfl, s2, e2, sub, le, st⟩
  rw [st] at qn
  simp only [st, List.reverse_reverse] at qn qy
  repeat walk_at "rd1"
  refine rd_itl (SqL.of e2) ?_
  refine comp_listR (K := K) (α := Tile) (R := fun i zs => ((cur.map tl).take i).map tileW = zs.map some) (SqL.of e2) (by rw [List.length_map]; omega) rfl (fun i v H3 zs hv s3 hz Rk Rn hk _ => ?_) fun d H3 ws zs nd s3 e3 h3 lz hz => ?_
  · obtain ⟨y, hy, rfl⟩ : ∃ y, cur[i]? = some y ∧ v = .str y := by
      rw [List.getElem?_map] at hv
      cases z : cur[i]? with
      | none => rw [z] at hv; cases hv
      | some y =>
        rw [z] at hv
        cases hv
        exact ⟨y, rfl, rfl⟩
    have hyt : (cur.map tl)[i]? = some (tl y) := by rw [List.getElem?_map, hy]; rfl
    have ly : y.length ≤ 1000 := by
      rw [len_tl]
      have := l2 (tl y) (List.mem_map.mpr ⟨y, sub y (List.mem_of_getElem? hy), rfl⟩)
      omega
    repeat walk_at "rd1"
    refine ⟨rfl, ?_⟩
    repeat walk_at "rd1"
    refine ⟨y, rfl, ly, fun hn H4 s4 => ?_, fun t ht a H4 na s4 e4 => ?_⟩
    · refine qn ?_ H4 ((s2.trans s3).trans s4)
      unfold readW
      rw [handOf_none hyt hn]
    · refine hk _ H4 t ?_ s4 (tile_mk e4)
      show ((cur.map tl).take (i + 1)).map tileW = (zs ++ [t]).map some
      rw [take_succ' hyt, List.map_append, hz, List.map_append]
      show _ ++ [tileW (tl y)] = _
      rw [ht]
      rfl
  have hz : (cur.map tl).map tileW = zs.map some := by
    have : (cur.map V.str).length = (cur.map tl).length := by rw [List.length_map, List.length_map]
    rw [this, List.take_length] at hz
    exact hz
  have hO := handOf_some hz
  repeat walk_at "rd1"
  refine ⟨p, d, m, c, ws, zs, (jj : Int), rfl, hh.same (s2.trans s3), SqL.of e3, h3, fun H4 s4 => ?_⟩
  have s04 := (s2.trans s3).trans s4
  repeat walk_at "rd1"
  refine ite_nd (fun ih => ?_) (fun ih => ?_)
  rotate_left
  · repeat walk_at "rd1"
    refine qn ?_ H4 s04
    unfold readW
    rw [hO]
    exact if_neg ih
  repeat walk_at "rd1"
  refine rd_newO fun a H5 na s5 e5 _ => ?_
  refine qy zs jj ?_ a d H5 ws (s2.free nd) (s04.trans s5) e5 ((s4.trans s5) _ _ e3) (h3.same (s4.trans s5))
  unfold readW
  rw [hO]
  exact if_pos ih
end
end MH
namespace MH
open PySem L2
/-! _law_cell_at -/
def cellAt (ns : List Int) (k : Nat) : Int := ns.getD k 0
def spCellAt (K : PySem.W.Frag) : Sp := fun vs H Q _ => ∃ (a : Addr) (ns : List Int) (k : Nat), vs = [.ref a, .int k] ∧ SqL K H a (ns.map V.int) ∧ Q (.int (cellAt ns k)) H
section
variable {P : Program} {w : World} {K : PySem.W.Frag} {mg : Str → Option Value} {base : Heap}
theorem ok_cell_at {f : Addr} {fd : FuncData} (F : Fun K "_law_cell_at" "_law_cell_at" s__law_cell_at f fd) (BL : Bl mg) : FnOk P w K mg base CX0 1 f fd ["script", "k"] (spCellAt K) := by
  have sc : FnScope ["script", "k"] ["script", "k"] (defScope s__law_cell_at) := ⟨rfl, rfl, rfl, by decide +kernel, rfl, by decide +kernel, by decide +kernel⟩
  refine F.ok sc (fun vs H Q E h => ?_) (fun cdv A outer s H vs Q E hr h => ?_)
  · obtain ⟨a, ns, k, rfl, _⟩ := h
    rfl
  obtain ⟨a, ns, k, rfl, hl, q⟩ := h
  refine ⟨_, (pss_cons (ps_if (pt_cmpR (op_ltA (K := K) hr) (pv 1) (pe_callB (call_lenA (K := K)) rfl BL.len PySem.boot_len (pa_cons (pv 0) pa_nil)) (nomark _))
      (pss_one (ps_ret (pe_ix (ix_any (K := K)) (pv 0) (pv 1) (fun _ _ => rfl))))
      pss_nil)
      (pss_one (ps_ret pe_int))), ?_⟩
  repeat walk_at "rd1"
  refine rd_lenL hl ?_
  repeat walk_at "rd1"
  have el : (ns.map V.int).length = ns.length := List.length_map _
  rw [el]
  refine ite_d (fun c => ?_) (fun c => ?_)
  · repeat walk_at "rd1"
    have hk : k < ns.length := by omega
    refine rd_ixL hl (v := .int ns[k]) (atI_nat (by rw [List.getElem?_map, List.getElem?_eq_getElem hk]; rfl)) ?_
    have e : cellAt ns k = ns[k] := by simp [cellAt, List.getD, hk]
    rw [← e]
    exact q
  · repeat walk_at "rd1"
    have hk : ¬ k < ns.length := by omega
    have e : cellAt ns k = 0 := by simp [cellAt, List.getD, List.getElem?_eq_none (Nat.le_of_not_lt hk)]
    rw [e] at q
    exact q
end
end MH
namespace MH
open PySem L2
/-! _law_mix: some number from 0 on below many -/
def mixV (k : Int) : Int := [48271, 69621, 16807, 39373, 30269, 40014, 40692, 50021, 61687, 71993, 83869, 95561, 30307].getD (k % 13).toNat 0
def mixY (cell k : Int) : Int := ((cell % 2147483647 + 12345) * mixV k + 977 * k + 7919 * (k / 13)) % 1000000007
def mixF (cell k many : Int) : Int := (mixY cell k * mixY cell k + 48271 * k) % 1000000007 / 7 % many
def spMix : Sp := fun vs H Q _ => ∃ (cell k many : Int), vs = [.int cell, .int k, .int many] ∧ 0 < many ∧ ∀ H', Same H H' → Q (.int (mixF cell k many)) H'
theorem mix_item (k : Int) : atI [V.int 48271, V.int 69621, V.int 16807, V.int 39373, V.int 30269, V.int 40014, V.int 40692, V.int 50021, V.int 61687, V.int 71993, V.int 83869, V.int 95561, V.int 30307] (k % 13) = some (.int (mixV k)) := by
  unfold mixV
  have h0 : 0 ≤ k % 13 := Int.emod_nonneg _ (by decide)
  have h1 : k % 13 < 13 := Int.emod_lt_of_pos _ (by decide)
  generalize k % 13 = j at h0 h1
  have : j = 0 ∨ j = 1 ∨ j = 2 ∨ j = 3 ∨ j = 4 ∨ j = 5 ∨ j = 6 ∨ j = 7 ∨ j = 8 ∨ j = 9 ∨ j = 10 ∨ j = 11 ∨ j = 12 := by omega
  rcases this with rfl | rfl | rfl | rfl | rfl | rfl | rfl | rfl | rfl | rfl | rfl | rfl | rfl <;> rfl
theorem mixF_box (a k : Int) {m : Int} (h : 0 < m) : 0 ≤ mixF a k m ∧ mixF a k m < m := ⟨Int.emod_nonneg _ (by omega), Int.emod_lt_of_pos _ h⟩
section
variable {P : Program} {w : World} {K : PySem.W.Frag} {mg : Str → Option Value} {base : Heap}
theorem ok_mix {f : Addr} {fd : FuncData} (F : Fun K "_law_mix" "_law_mix" s__law_mix f fd) : FnOk P w K mg base CX0 1 f fd ["cell", "k", "many"] spMix := by
  have sc : FnScope ["cell", "k", "many", "some", "stir"] ["cell", "k", "many"] (defScope s__law_mix) := ⟨rfl, rfl, rfl, by decide +kernel, rfl, by decide +kernel, by decide +kernel⟩
  refine F.ok sc (fun vs H Q E h => ?_) (fun cdv A outer s H vs Q E hr h => ?_)
  · obtain ⟨a, k, m, rfl, _⟩ := h
    rfl
  obtain ⟨a, k, many, rfl, hm, q⟩ := h
  refine ⟨_, (pss_cons (ps_set (i := 3) sc.nd rfl (Or.inl rfl) (pe_lst (pa_cons pe_int (pa_cons pe_int (pa_cons pe_int (pa_cons pe_int (pa_cons pe_int (pa_cons pe_int (pa_cons pe_int (pa_cons pe_int (pa_cons pe_int (pa_cons pe_int (pa_cons pe_int (pa_cons pe_int (pa_cons pe_int pa_nil)))))))))))))))
      (pss_cons (ps_set (i := 4) sc.nd rfl (Or.inl rfl) (pe_op op_addA (pe_op op_addA (pe_op op_mulA (pe_op op_addA (pe_op op_mod (pv 0) pe_int) pe_int) (pe_ix (ix_any (K := K)) (pv 3) (pe_op op_mod (pv 1) pe_int) (fun _ _ => rfl))) (pe_op op_mulA pe_int (pv 1))) (pe_op op_mulA pe_int (pe_op op_fdiv (pv 1) pe_int))))
      (pss_cons (ps_set (i := 4) sc.nd rfl (Or.inl rfl) (pe_op op_mod (pv 4) pe_int))
      (pss_one (ps_ret (pe_op op_mod (pe_op op_fdiv (pe_op op_mod (pe_op op_addA (pe_op op_mulA (pv 4) (pv 4)) (pe_op op_mulA pe_int (pv 1))) pe_int) pe_int) (pv 2))))))), ?_⟩
  repeat walk_at "rd1"
  refine rd_newO fun p H1 np s1 e1 _ => ?_
  repeat walk_at "rd1"
  refine rd_I (by decide) ?_
  repeat walk_at "rd1"
  refine rd_I (by decide) ?_
  refine rd_ixL (SqL.of e1) (mix_item k) ?_
  have b1 := emod_box a (m := 2147483647) (by decide)
  refine rd_mulI (.inl ⟨by omega, by omega⟩) ?_
  repeat walk_at "rd1"
  refine rd_mulI (.inl ⟨by decide, by decide⟩) ?_
  repeat walk_at "rd1"
  refine rd_I ⟨by decide, by decide⟩ ?_
  refine rd_mulI (.inl ⟨by decide, by decide⟩) ?_
  repeat walk_at "rd1"
  refine rd_I (by decide) ?_
  repeat walk_at "rd1"
  have b2 : 0 ≤ mixY a k ∧ mixY a k < 1000000007 := emod_box _ (by decide)
  show rMulA (.int (mixY a k)) (.int (mixY a k)) _ _
  refine rd_mulI (.inl ⟨by omega, by omega⟩) ?_
  repeat walk_at "rd1"
  refine rd_mulI (.inl ⟨by decide, by decide⟩) ?_
  repeat walk_at "rd1"
  refine rd_I (by decide) ?_
  repeat walk_at "rd1"
  refine rd_I ⟨by decide, by decide⟩ ?_
  repeat walk_at "rd1"
  refine rd_I hm ?_
  exact q _ s1
end
end MH
namespace MH
open PySem L2
/-! _law_whole -/
def spWhole : Sp := fun vs H Q _ => ∃ n : Int, vs = [.int n] ∧ Q (.bl true) H
section
variable {P : Program} {w : World} {K : PySem.W.Frag} {mg : Str → Option Value} {base : Heap}
theorem ok_whole {f : Addr} {fd : FuncData} (F : Fun K "_law_whole" "_law_whole" s__law_whole f fd) (BL : Bl mg) : FnOk P w K mg base CX0 1 f fd ["found"] spWhole := by
  have sc : FnScope ["found"] ["found"] (defScope s__law_whole) := ⟨rfl, rfl, rfl, by decide +kernel, rfl, by decide +kernel, by decide +kernel⟩
  refine F.ok sc (fun vs H Q E h => ?_) (fun cdv A outer s H vs Q E hr h => ?_)
  · obtain ⟨n, rfl, _⟩ := h
    rfl
  obtain ⟨n, rfl, q⟩ := h
  refine ⟨_, (pss_one (ps_ret (pe_and (pe_callB (call_isiA (K := K)) rfl BL.isinstance (by decide +kernel) (pa_cons (pv 0) (pa_cons (pe_bltn (v := .ty "int") rfl BL.int (by decide +kernel) rfl) pa_nil))) (pe_one (pe_not (pe_callB (call_isiA (K := K)) rfl BL.isinstance (by decide +kernel) (pa_cons (pv 0) (pa_cons (pe_bltn (v := .ty "bool") rfl BL.bool (by decide +kernel) rfl) pa_nil)))))))), ?_⟩
  repeat walk_at "rd1"
  refine rd_isi (.base (.int n)) (kit_ty (r := true) (by decide +kernel)) ?_
  repeat walk_at "rd1"
  refine rd_isi (.base (.int n)) (kit_ty (r := false) (by decide +kernel)) ?_
  repeat walk_at "rd1"
  exact q
end
end MH
namespace MH
open PySem L2
/-! _law_house_by: some house -/
def spHouseBy (K : PySem.W.Frag) : Sp := fun vs H Q _ => ∃ (a : Addr) (ns : List Int), vs = [.ref a] ∧ SqL K H a (ns.map V.int) ∧
  ∀ m c p H', 3 ≤ m → m ≤ 13 → 1 ≤ c → c ≤ 4 → Same H H' → H' p = some (.tup [.int m, .int c]) → Q (.ref p) H'
section
variable {P : Program} {w : World} {K : PySem.W.Frag} {mg : Str → Option Value} {base : Heap}
theorem ok_house_by {f : Addr} {fd : FuncData} (F : Fun K "_law_house_by" "_law_house_by" s__law_house_by f fd)
    (G__law_cell_at : Fn P w K mg base CX0 1 "_law_cell_at" ["script", "k"] (spCellAt K)) (G__law_mix : Fn P w K mg base CX0 1 "_law_mix" ["cell", "k", "many"] spMix) : FnOk P w K mg base CX0 2 f fd ["script"] (spHouseBy K) := by
  have sc : FnScope ["script", "cell"] ["script"] (defScope s__law_house_by) := ⟨rfl, rfl, rfl, by decide +kernel, rfl, by decide +kernel, by decide +kernel⟩
  refine F.ok sc (fun vs H Q E h => ?_) (fun cdv A outer s H vs Q E hr h => ?_)
  · obtain ⟨a, ns, rfl, _⟩ := h
    rfl
  obtain ⟨a, ns, rfl, hl, q⟩ := h
  refine ⟨_, (pss_cons (ps_set (i := 1) sc.nd rfl (Or.inl rfl) (pe_fn0 G__law_cell_at (hr.mono (by omega)) (pa_cons (pv 0) (pa_cons pe_int pa_nil))))
      (pss_one (ps_ret (pe_tup (pa_cons (pe_op op_addA pe_int (pe_fn0 G__law_mix (hr.mono (by omega)) (pa_cons (pv 1) (pa_cons pe_int (pa_cons (pe_ix (ix_any (K := K)) (pe_lst (pa_cons pe_int (pa_cons pe_int (pa_cons pe_int (pa_cons pe_int pa_nil))))) (pe_fn0 G__law_mix (hr.mono (by omega)) (pa_cons (pv 1) (pa_cons pe_int (pa_cons pe_int pa_nil)))) (fun _ _ => rfl)) pa_nil))))) (pa_cons (pe_op op_addA pe_int (pe_fn0 G__law_mix (hr.mono (by omega)) (pa_cons (pv 1) (pa_cons pe_int (pa_cons pe_int pa_nil))))) pa_nil)))))), ?_⟩
  repeat walk_at "rd1"
  refine ⟨a, ns, 0, rfl, hl, ?_⟩
  generalize cellAt ns 0 = x
  repeat walk_at "rd1"
  refine rd_newO fun l H1 _ s1 e1 _ => ?_
  repeat walk_at "rd1"
  refine ⟨x, 2, 4, rfl, by decide, fun H2 s2 => ?_⟩
  obtain ⟨j0, j4⟩ := mixF_box x 2 (m := 4) (by decide)
  generalize mixF x 2 4 = j at j0 j4
  have hj : j = 0 ∨ j = 1 ∨ j = 2 ∨ j = 3 := by omega
  obtain ⟨z, hz, z0, z1⟩ : ∃ z : Int, atI [V.int 4, V.int 4, V.int 4, V.int 11] j = some (.int z) ∧ 0 < z ∧ z ≤ 11 := by
    rcases hj with rfl | rfl | rfl | rfl
    · exact ⟨4, rfl, by decide, by decide⟩
    · exact ⟨4, rfl, by decide, by decide⟩
    · exact ⟨4, rfl, by decide, by decide⟩
    · exact ⟨11, rfl, by decide, by decide⟩
  refine rd_ixL (SqL.of (s2 _ _ e1)) hz ?_
  repeat walk_at "rd1"
  refine ⟨x, 1, z, rfl, z0, fun H3 s3 => ?_⟩
  obtain ⟨m0, mz⟩ := mixF_box x 1 z0
  generalize mixF x 1 z = m at m0 mz
  repeat walk_at "rd1"
  refine ⟨x, 3, 4, rfl, by decide, fun H4 s4 => ?_⟩
  obtain ⟨c0, c4⟩ := mixF_box x 3 (m := 4) (by decide)
  generalize mixF x 3 4 = c at c0 c4
  repeat walk_at "rd1"
  refine rd_newO fun p H5 _ s5 e5 _ => ?_
  exact q (3 + m) (1 + c) p H5 (by omega) (by omega) (by omega) (by omega) ((((s1.trans s2).trans s3).trans s4).trans s5) e5
end
end MH
namespace MH
open PySem L2
/-! _law_trimmed: sorted, of each at most two, at most limit -/
def spTrimmed (K : PySem.W.Frag) : Sp := fun vs H Q _ => ∃ (a : Addr) (us : List V) (ts : List Tile) (l : Int), vs = [.ref a, .int l] ∧ SqL K H a us ∧ Hds K H us ts ∧ ts.length ≤ 1000 ∧ 0 ≤ l ∧
  ∀ p H' ws zs, H p = none → Same H H' → H' p = some (.lst ws) → Hds K H' ws zs → (zs.length : Int) ≤ l → (∀ t, zs.count t ≤ 2) → (∀ t ∈ zs, t ∈ ts) → SortedT zs → Q (.ref p) H'
section
variable {P : Program} {w : World} {K : PySem.W.Frag} {mg : Str → Option Value} {base : Heap}
theorem ok_trimmed {f : Addr} {fd : FuncData} (F : Fun K "_law_trimmed" "_law_trimmed" s__law_trimmed f fd) (BL : Bl mg) : FnOk P w K mg base CX0 1 f fd ["tiles", "limit"] (spTrimmed K) := by
  have sc : FnScope ["tiles", "limit", "found", "tile"] ["tiles", "limit"] (defScope s__law_trimmed) := ⟨rfl, rfl, rfl, by decide +kernel, rfl, by decide +kernel, by decide +kernel⟩
  refine F.ok sc (fun vs H Q E h => ?_) (fun cdv A outer s H vs Q E hr h => ?_)
  · obtain ⟨a, us, ts, l, rfl, _⟩ := h
    rfl
  obtain ⟨a, us, ts, l, rfl, hl, hd, hz, l0, q⟩ := h
  refine ⟨_, (pss_cons (ps_set (i := 2) sc.nd rfl (Or.inl rfl) (pe_lst pa_nil))
      (pss_cons (ps_for PassesOwn.never rfl (pi_listK (K := K) (pv 0)) (pg_name (i := 3) sc.nd rfl (Or.inl rfl))
      (pss_one (ps_if (PW.pt (pw_and (pt_cmpR (op_ltA (K := K) hr) (pe_bmK (K := K) PySem.F.plainAttrs_list PySem.F.slot_list_count PySem.F.type_list_count (mt_countA (K := K) hr) (pv 2) (pa_cons (pv 3) pa_nil)) pe_int (nomark _)) (pw_and1 (pt_cmpR (op_ltA (K := K) hr) (pe_callB (call_lenA (K := K)) rfl BL.len PySem.boot_len (pa_cons (pv 2) pa_nil)) (pv 1) (nomark _)))))
      (pss_one (ps_expr (pe_bmK (K := K) PySem.F.plainAttrs_list PySem.F.slot_list_append PySem.F.type_list_append mt_append (pv 2) (pa_cons (pv 3) pa_nil))))
      pss_nil)))
      (pss_one (ps_ret (pe_callB (cr_sortedA (K := K) hr) rfl BL.sorted (by decide +kernel) (pa_cons (pv 2) pa_nil)))))), ?_⟩
  repeat walk_at "rd1"
  refine rd_newO fun p H1 np s1 e1 _ => ?_
  repeat walk_at "rd1"
  refine rd_itl (s1.seq hl) ?_
  refine loop_list (xs := us) (fun i σ H' => ∃ (v : Option V) (ws : List V) (zs : List Tile), σ = [some (.ref a), some (.int l), some (.ref p), v] ∧ Same H H' ∧ H' p = some (.lst ws) ∧ Hds K H ws zs ∧
    zs.length ≤ i ∧ (zs.length : Int) ≤ l ∧ (∀ t, zs.count t ≤ 2) ∧ ∀ t ∈ zs, t ∈ ts) ⟨none, [], [], rfl, s1, e1, Hds.nil, Nat.le_refl _, l0, fun t => by simp, fun t ht => by cases ht⟩ ?_ ?_ ?_
  · rintro i σ H' _ ⟨_, _, _, _, s2, _⟩
    exact s2.seq hl
  · rintro i x σ H' hx ⟨v, ws, zs, rfl, s2, e2, hw, zi, zl, z2, zt⟩
    have hi : i < us.length := (List.getElem?_eq_some_iff.mp hx).1
    rw [hd.length] at hi
    obtain ⟨t, ht, hxt⟩ := hd.getV hx
    repeat walk_at "rd1"
    refine rd_countT (SqL.of e2) (hw.same s2) (hxt.same s2) ?_
    repeat walk_at "rd1"
    refine ite_d (fun c1 => ?_) (fun c1 => ?_)
    · repeat walk_at "rd1"
      refine rd_lenL (SqL.of e2) ?_
      repeat walk_at "rd1"
      refine ite_d (fun c2 => ?_) (fun c2 => ?_)
      · repeat walk_at "rd1"
        refine ⟨p, ws, x, rfl, rfl, e2, ?_, ?_⟩
        · rw [hw.length]
          exact small1000 (by omega)
        · rw [hw.length] at c2
          refine ⟨_, ws ++ [x], zs ++ [t], rfl, (Same.mut s2 np), upd_same, hw.push hxt, ?_, ?_, fun u => ?_, fun u hu => ?_⟩
          · rw [List.length_append]
            exact Nat.succ_le_succ zi
          · rw [List.length_append, List.length_singleton]
            omega
          · rw [List.count_append]
            by_cases e : u = t
            · subst e
              simp
              omega
            · have := z2 u
              have n : [t].count u = 0 := List.count_eq_zero.mpr (by simpa using e)
              omega
          · rcases List.mem_append.mp hu with m | m
            · exact zt u m
            · rw [List.mem_singleton.mp m]
              exact List.mem_of_getElem? ht
      · repeat walk_at "rd1"
        exact ⟨_, ws, zs, rfl, s2, e2, hw, by omega, zl, z2, zt⟩
    · repeat walk_at "rd1"
      exact ⟨_, ws, zs, rfl, s2, e2, hw, by omega, zl, z2, zt⟩
  · rintro σ H' ⟨v, ws, zs, rfl, s2, e2, hw, zi, zl, z2, zt⟩
    repeat walk_at "rd1"
    refine rd_sortT (SqL.of e2) (hw.same s2) fun r H3 ys us' nr s3 e3 pm so hy => ?_
    refine q r H3 ys us' (s2.free nr) (s2.trans s3) e3 (hy.same s3) ?_ (fun t => ?_) (fun t ht => zt t (pm.mem_iff.mp ht)) so
    · rw [pm.length_eq]
      exact zl
    · rw [pm.count_eq]
      exact z2 t
end
end MH
namespace MH
open PySem L2
/-! _law_hand_by: some hand of the house -/
def spHandBy (K : PySem.W.Frag) : Sp := fun vs H Q _ => ∃ (a : Addr) (ns : List Int) (st : Nat) (m c l : Int), vs = [.ref a, .int st, .int m, .int c, .int l] ∧ SqL K H a (ns.map V.int) ∧ 1 ≤ m ∧ m ≤ 13 ∧ 1 ≤ c ∧ c ≤ 4 ∧ 1 ≤ l ∧ l ≤ 12 ∧
  ∀ p H' ws ts, H p = none → Same H H' → H' p = some (.lst ws) → Hds K H' ws ts → Drawn m c l.toNat ts → Q (.ref p) H'
theorem range_all {P : Tile → Prop} {f : Nat → Option Tile} {n : Nat} (h : ∀ i t, i < n → f i = some t → P t) : ∀ t ∈ (List.range n).filterMap f, P t := fun t ht => by
  obtain ⟨i, hi, e⟩ := List.mem_filterMap.mp ht
  exact h i t (List.mem_range.mp hi) e
section
variable {P : Program} {w : World} {K : PySem.W.Frag} {mg : Str → Option Value} {base : Heap}
theorem ok_hand_by {f : Addr} {fd : FuncData} (F : Fun K "_law_hand_by" "_law_hand_by" s__law_hand_by f fd) (BL : Bl mg)
    (G__law_cell_at : Fn P w K mg base CX0 1 "_law_cell_at" ["script", "k"] (spCellAt K)) (G__law_mix : Fn P w K mg base CX0 1 "_law_mix" ["cell", "k", "many"] spMix)
    (G__law_trimmed : Fn P w K mg base CX0 1 "_law_trimmed" ["tiles", "limit"] (spTrimmed K)) : FnOk P w K mg base CX0 2 f fd ["script", "start", "most", "colours", "limit"] (spHandBy K) := by
  have sc : FnScope ["script", "start", "most", "colours", "limit", "tiles", "k", "cell", "number", "colour", "size", "x"] ["script", "start", "most", "colours", "limit"] (defScope s__law_hand_by) := ⟨rfl, rfl, rfl, by decide +kernel, rfl, by decide +kernel, by decide +kernel⟩
  refine F.ok sc (fun vs H Q E h => ?_) (fun cdv A outer s H vs Q E hr h => ?_)
  · obtain ⟨a, ns, st, m, c, l, rfl, _⟩ := h
    rfl
  obtain ⟨a, ns, st, m, c, l, rfl, hl, m1, m13, c1, c4, l1, l12, q⟩ := h
  refine ⟨_, (pss_cons (ps_set (i := 5) sc.nd rfl (Or.inl rfl) (pe_lst pa_nil))
      (pss_cons (ps_for PassesOwn.never rfl (pi_range1 rfl BL.range (pa_cons pe_int pa_nil)) (pg_name (i := 6) sc.nd rfl (Or.inl rfl))
      (pss_cons (ps_set (i := 7) sc.nd rfl (Or.inr rfl) (pe_fn0 G__law_cell_at (hr.mono (by omega)) (pa_cons (pv 0) (pa_cons (pe_op op_addA (pv 1) (pv 6)) pa_nil))))
      (pss_cons (ps_asg (pe_tup (pa_cons (pe_op op_addA pe_int (pe_fn0 G__law_mix (hr.mono (by omega)) (pa_cons (pv 7) (pa_cons pe_int (pa_cons (pv 2) pa_nil))))) (pa_cons (pe_fn0 G__law_mix (hr.mono (by omega)) (pa_cons (pv 7) (pa_cons pe_int (pa_cons (pv 3) pa_nil)))) pa_nil))) (pg_tupK (K := K) (by rfl) (pgs_cons (pg_name (i := 8) sc.nd rfl (Or.inr rfl)) (pgs_cons (pg_name (i := 9) sc.nd rfl (Or.inr rfl)) pgs_nil))))
      (pss_cons (ps_set (i := 10) sc.nd rfl (Or.inl rfl) (pe_op op_addA pe_int (pe_fn0 G__law_mix (hr.mono (by omega)) (pa_cons (pv 7) (pa_cons pe_int (pa_cons pe_int pa_nil))))))
      (pss_cons (ps_if (pt_cmpR (op_eqA (K := K) hr) (pe_fn0 G__law_mix (hr.mono (by omega)) (pa_cons (pv 7) (pa_cons pe_int (pa_cons pe_int pa_nil)))) pe_int (nomark _))
      (pss_one (ps_set (i := 5) sc.nd rfl (Or.inl rfl) (pe_op op_addA (pv 5) (pe_lc rfl sc.nd (pi_range2 rfl BL.range (pa_cons (pv 8) (pa_cons (pe_op op_addA (pe_callB (call_minA rfl) rfl BL.min (by decide +kernel) (pa_cons (pv 2) (pa_cons (pe_op op_sub (pe_op op_addA (pv 8) (pv 10)) pe_int) pa_nil))) pe_int) pa_nil))) (blkOk_by (own := [("x", 11)]) (N := ["script", "start", "most", "colours", "limit", "tiles", "k", "cell", "number", "colour", "size", "x"]) (sc := defScope s__law_hand_by) (by decide +kernel)) (fun _ _ _ _ _ => (pg_name (i := 11) sc.nd rfl (Or.inl rfl))) (fun _ _ _ _ _ => pts_nil) (fun _ _ _ _ _ => (pe_tup (pa_cons (pv 11) (pa_cons (pv 9) pa_nil))))))))
      (pss_one (ps_set (i := 5) sc.nd rfl (Or.inl rfl) (pe_op op_addA (pv 5) (pe_lc rfl sc.nd (pi_range1 rfl BL.range (pa_cons (pv 3) pa_nil)) (blkOk_by (own := [("x", 11)]) (N := ["script", "start", "most", "colours", "limit", "tiles", "k", "cell", "number", "colour", "size", "x"]) (sc := defScope s__law_hand_by) (by decide +kernel)) (fun _ _ _ _ _ => (pg_name (i := 11) sc.nd rfl (Or.inl rfl))) (fun _ _ _ _ _ => (pts_one (pt_cmpR (op_gtA (K := K) hr) (pe_fn0 G__law_mix (hr.mono (by omega)) (pa_cons (pv 7) (pa_cons (pe_op op_addA pe_int (pv 11)) (pa_cons pe_int pa_nil)))) pe_int (nomark _)))) (fun _ _ _ _ _ => (pe_tup (pa_cons (pv 8) (pa_cons (pv 11) pa_nil)))))))))
      (pss_one (ps_if (pt_cmpR (op_eqA (K := K) hr) (pe_fn0 G__law_mix (hr.mono (by omega)) (pa_cons (pv 7) (pa_cons pe_int (pa_cons pe_int pa_nil)))) pe_int (nomark _))
      (pss_one (ps_expr (pe_bmK (K := K) PySem.F.plainAttrs_list PySem.F.slot_list_append PySem.F.type_list_append mt_append (pv 5) (pa_cons (pe_tup (pa_cons (pe_op op_addA pe_int (pe_fn0 G__law_mix (hr.mono (by omega)) (pa_cons (pv 7) (pa_cons pe_int (pa_cons (pv 2) pa_nil))))) (pa_cons (pe_fn0 G__law_mix (hr.mono (by omega)) (pa_cons (pv 7) (pa_cons pe_int (pa_cons (pv 3) pa_nil)))) pa_nil))) pa_nil))))
      pss_nil)))))))
      (pss_cons (ps_if (pt_cmpR (op_eqA (K := K) hr) (pe_callB (call_lenA (K := K)) rfl BL.len PySem.boot_len (pa_cons (pv 5) pa_nil)) pe_int (nomark _))
      (pss_one (ps_set (i := 5) sc.nd rfl (Or.inl rfl) (pe_lst (pa_cons (pe_tup (pa_cons pe_int (pa_cons pe_int pa_nil))) pa_nil))))
      pss_nil)
      (pss_cons (ps_if (pt_cmpR (op_eqA (K := K) hr) (pe_op op_mod (pe_fn0 G__law_cell_at (hr.mono (by omega)) (pa_cons (pv 0) (pa_cons (pe_op op_addA (pv 1) pe_int) pa_nil))) pe_int) pe_int (nomark _))
      (pss_one (ps_ret (pe_lst pa_nil)))
      pss_nil)
      (pss_one (ps_ret (pe_fn0 G__law_trimmed (hr.mono (by omega)) (pa_cons (pv 5) (pa_cons (pe_op op_addA pe_int (pe_op op_mod (pe_fn0 G__law_cell_at (hr.mono (by omega)) (pa_cons (pv 0) (pa_cons (pe_op op_addA (pv 1) pe_int) pa_nil))) (pv 4))) pa_nil))))))))), ?_⟩
  repeat walk_at "rd1"
  refine rd_newO fun p0 H1 np0 s1 e1 _ => ?_
  repeat walk_at "rd1"
  refine rd_itr1 (by decide) (by decide) ?_
  refine loop_range (n := 3) (fun i σ H' => ∃ (v6 v7 v8 v9 v10 v11 : Option V) (p : Addr) (ws : List V) (ts : List Tile), σ = [some (.ref a), some (.int st), some (.int m), some (.int c), some (.int l), some (.ref p), v6, v7, v8, v9, v10, v11] ∧
    H p = none ∧ Same H H' ∧ H' p = some (.lst ws) ∧ Hds K H' ws ts ∧ (∀ t ∈ ts, InHouse m c t) ∧ ts.length ≤ 20 * i) ⟨none, none, none, none, none, none, p0, [], [], rfl, np0, s1, e1, Hds.nil, (fun t ht => absurd ht (List.not_mem_nil)), Nat.le_refl _⟩ ?_ ?_
  · rintro i σ H2 hi ⟨v6, v7, v8, v9, v10, v11, p, ws, ts, rfl, np, s2, e2, hw, hin, hlen⟩
    repeat walk_at "rd1"
    refine ⟨a, ns, st + i, by simp, s2.seq hl, ?_⟩
    generalize cellAt ns (st + i) = x
    repeat walk_at "rd1"
    refine ⟨x, 1, m, rfl, by omega, fun H3 s3 => ?_⟩
    obtain ⟨b1, b2⟩ := mixF_box x 1 (m := m) (by omega)
    generalize mixF x 1 m = n at b1 b2
    repeat walk_at "rd1"
    refine ⟨x, 2, c, rfl, by omega, fun H4 s4 => ?_⟩
    obtain ⟨b3, b4⟩ := mixF_box x 2 (m := c) (by omega)
    generalize mixF x 2 c = k at b3 b4
    repeat walk_at "rd1"
    refine rd_newO fun tp H5 _ s5 e5 _ => ?_
    refine rd_gtup2 (SqT.of e5) rfl ?_
    repeat walk_at "rd1"
    refine ⟨x, 3, 4, rfl, by decide, fun H6 s6 => ?_⟩
    obtain ⟨b5, b6⟩ := mixF_box x 3 (m := 4) (by decide)
    generalize mixF x 3 4 = z at b5 b6
    repeat walk_at "rd1"
    refine ⟨x, 4, 2, rfl, by decide, fun H7 s7 => ?_⟩
    generalize mixF x 4 2 = y
    have s27 : Same H2 H7 := (((s3.trans s4).trans s5).trans s6).trans s7
    repeat walk_at "rd1"
    have hw7 : Hds K H7 ws ts := hw.same s27
    have e7 := s27 _ _ e2
    refine ite_d (fun cy => ?ya) (fun cy => ?yb)
    case' ya =>
      repeat walk_at "rd1"
      refine rd_itr2 (by omega) (by omega) (by omega) (by omega) ?_
      have hm : (min m (1 + n + (2 + z) - 1) + 1 - (1 + n)).toNat ≤ 5 := by omega
      generalize hN : (min m (1 + n + (2 + z) - 1) + 1 - (1 + n)).toNat = N at hm
      refine comp_range (K := K) (f := fun i => some ((1 + n + (i : Int), k) : Tile)) (by omega) (fun i' H8 hi' s8 Rk Rn hk _ => ?_) fun Dd H8 ws2 nD s8 e8 h8 => ?_
      · repeat walk_at "rd1"
        refine ⟨rfl, ?_⟩
        repeat walk_at "rd1"
        exact rd_newO fun t H9 _ s9 e9 _ => hk _ H9 _ rfl s9 (tile_mk e9)
      have l8 : ((List.range N).filterMap fun i : Nat => some ((1 + n + (i : Int), k) : Tile)).length ≤ 5 := by
        have := List.length_filterMap_le (fun i : Nat => some ((1 + n + (i : Int), k) : Tile)) (List.range N)
        rw [List.length_range] at this
        omega
      have g8 : ∀ t ∈ (List.range N).filterMap fun i : Nat => some ((1 + n + (i : Int), k) : Tile), InHouse m c t := range_all fun i' t hi' et => by
        cases et
        exact ⟨by show 1 ≤ 1 + n + (i' : Int); omega, by show 1 + n + (i' : Int) ≤ m; omega, b3, b4⟩
      generalize ((List.range N).filterMap fun i : Nat => some ((1 + n + (i : Int), k) : Tile)) = ts2 at h8 l8 g8
    case' yb =>
      repeat walk_at "rd1"
      refine rd_itr1 (by omega) (by omega) ?_
      refine comp_range (K := K) (f := fun i => if 0 < mixF x (10 + (i : Int)) 4 then some ((1 + n, (i : Int)) : Tile) else none) (by omega) (fun i' H8 hi' s8 Rk Rn hk hn => ?_) fun Dd H8 ws2 nD s8 e8 h8 => ?_
      · simp only [Int.zero_add]
        repeat walk_at "rd1"
        refine ⟨rfl, ?_⟩
        repeat walk_at "rd1"
        refine ⟨x, 10 + (i' : Int), 4, rfl, by decide, fun H9 s9 => ?_⟩
        repeat walk_at "rd1"
        refine ite_d (fun cz => ?_) (fun cz => ?_)
        · repeat walk_at "rd1"
          exact rd_newO fun t H10 _ s10 e10 _ => hk _ H10 _ (if_pos cz) (s9.trans s10) (tile_mk e10)
        · exact hn H9 (if_neg cz) s9
      have l8 : ((List.range c.toNat).filterMap fun i : Nat => if 0 < mixF x (10 + (i : Int)) 4 then some ((1 + n, (i : Int)) : Tile) else none).length ≤ 5 := by
        have := List.length_filterMap_le (fun i : Nat => if 0 < mixF x (10 + (i : Int)) 4 then some ((1 + n, (i : Int)) : Tile) else none) (List.range c.toNat)
        rw [List.length_range] at this
        omega
      have g8 : ∀ t ∈ (List.range c.toNat).filterMap fun i : Nat => if 0 < mixF x (10 + (i : Int)) 4 then some ((1 + n, (i : Int)) : Tile) else none, InHouse m c t := range_all fun i' t hi' et => by
        by_cases cz : 0 < mixF x (10 + (i' : Int)) 4
        · rw [if_pos cz] at et
          cases et
          exact ⟨by show 1 ≤ 1 + n; omega, by show 1 + n ≤ m; omega, by show 0 ≤ (i' : Int); omega, by show (i' : Int) < c; omega⟩
        · rw [if_neg cz] at et
          cases et
      generalize ((List.range c.toNat).filterMap fun i : Nat => if 0 < mixF x (10 + (i : Int)) 4 then some ((1 + n, (i : Int)) : Tile) else none) = ts2 at h8 l8 g8
    all_goals
      refine rd_addL (s8 _ _ e7) e8 ?_ fun r H9 nr s9 e9 _ => ?_
      · rw [hw.length, h8.length]
        exact Nat.le_of_lt (small1000 (by omega))
      have s29 : Same H H9 := (s2.trans s27).trans (s8.trans s9)
      have h9 : Hds K H9 (ws ++ ws2) (ts ++ ts2) := ((hw7.same s8).app h8).same s9
      have g9 : ∀ t ∈ ts ++ ts2, InHouse m c t := fun t ht => (List.mem_append.mp ht).elim (hin t) (g8 t)
      have l9 : (ts ++ ts2).length ≤ 20 * i + 5 := by rw [List.length_append]; omega
      have nr' : H r = none := (((s2.trans s27).trans s8)).free nr
      repeat walk_at "rd1"
      refine ⟨x, 5, 3, rfl, by decide, fun H10 s10 => ?_⟩
      generalize mixF x 5 3 = y5
      have e10 := s10 _ _ e9
      repeat walk_at "rd1"
      refine ite_d (fun cw => ?_) (fun cw => ?_)
      · repeat walk_at "rd1"
        refine ⟨x, 6, m, rfl, by omega, fun H11 s11 => ?_⟩
        obtain ⟨d1, d2⟩ := mixF_box x 6 (m := m) (by omega)
        generalize mixF x 6 m = n6 at d1 d2
        repeat walk_at "rd1"
        refine ⟨x, 7, c, rfl, by omega, fun H12 s12 => ?_⟩
        obtain ⟨d3, d4⟩ := mixF_box x 7 (m := c) (by omega)
        generalize mixF x 7 c = k7 at d3 d4
        repeat walk_at "rd1"
        refine rd_newO fun t H13 _ s13 e13 _ => ?_
        have sx := ((s10.trans s11).trans s12).trans s13
        have ex := sx _ _ e9
        repeat walk_at "rd1"
        refine rd_append ex (by rw [h9.length]; omega) ?_
        refine ⟨_, _, _, _, _, _, r, _, (ts ++ ts2) ++ [(1 + n6, k7)], rfl, nr', Same.mut (s29.trans sx) nr', upd_same, ((h9.same sx).push (tile_mk e13)).tup (TupK.lst ex), fun t ht => ?_, ?_⟩
        · rcases List.mem_append.mp ht with hh | hh
          · exact g9 t hh
          · rw [List.mem_singleton.mp hh]
            exact ⟨by show 1 ≤ 1 + n6; omega, by show 1 + n6 ≤ m; omega, d3, d4⟩
        · rw [List.length_append, List.length_singleton]
          omega
      · repeat walk_at "rd1"
        exact ⟨_, _, _, _, _, _, r, _, ts ++ ts2, rfl, nr', s29.trans s10, e10, h9.same s10, g9, by omega⟩
  · rintro σ H2 ⟨v6, v7, v8, v9, v10, v11, p, ws, ts, rfl, np, s2, e2, hw, hin, hlen⟩
    repeat walk_at "rd1"
    refine rd_lenL (SqL.of e2) ?_
    repeat walk_at "rd1"
    have fin : ∀ (p' : Addr) (H3 : Hp) (ws' : List V) (ts' : List Tile), Same H H3 → H3 p' = some (.lst ws') → Hds K H3 ws' ts' → (∀ t ∈ ts', InHouse m c t) → ts'.length ≤ 100 → ∀ vs : List (Option V),
        (tSeq (tIfS (tTest (tOp (rEqA K) (tOp (rI (fun x j => 0 < j) fun i j => V.int (i % j)) (tCall (spCellAt K) [] E0 (tCons (tVar 0) (tCons (tOp rAddA (tVar 1) (tC (V.int 3))) tNil))) (tC (V.int 9))) (tC (V.int 7)))) (tRet (tLst tNil)) tNext)
          (tRet (tCall (spTrimmed K) [] E0 (tCons (tVar 5) (tCons (tOp rAddA (tC (V.int 1)) (tOp (rI (fun x j => 0 < j) fun i j => V.int (i % j)) (tCall (spCellAt K) [] E0 (tCons (tVar 0) (tCons (tOp rAddA (tVar 1) (tC (V.int 3))) tNil))) (tVar 4))) tNil)))))
          { nx := fun x H' => Q V.non H', rt := Q } ([some (.ref a), some (.int st), some (.int m), some (.int c), some (.int l), some (.ref p')] ++ vs) H3 := by
      intro p' H3 ws' ts' s3 e3 h3 g3 l3 vs
      repeat walk_at "rd1"
      refine ⟨a, ns, st + 3, by simp, s3.seq hl, ?_⟩
      generalize cellAt ns (st + 3) = x
      repeat walk_at "rd1"
      refine rd_I (by decide) ?_
      repeat walk_at "rd1"
      refine ite_d (fun cx => ?_) (fun cx => ?_)
      · repeat walk_at "rd1"
        refine rd_newO fun r H4 nr s4 e4 _ => ?_
        exact q r H4 [] [] (s3.free nr) (s3.trans s4) e4 Hds.nil ⟨Nat.zero_le _, fun t ht => absurd ht List.not_mem_nil, List.Pairwise.nil⟩
      · repeat walk_at "rd1"
        refine ⟨a, ns, st + 3, by simp, s3.seq hl, ?_⟩
        generalize cellAt ns (st + 3) = x
        repeat walk_at "rd1"
        refine rd_I (by omega) ?_
        repeat walk_at "rd1"
        obtain ⟨b0, b1⟩ := emod_box x (m := l) (by omega)
        refine ⟨p', ws', ts', 1 + x % l, rfl, SqL.of e3, h3, by omega, by omega, fun r H4 ws4 zs nr s4 e4 h4 l4 c4 m4 so => ?_⟩
        exact q r H4 ws4 zs (s3.free nr) (s3.trans s4) e4 h4 ⟨by omega, fun t ht => ⟨g3 t (m4 t ht), c4 t⟩, so⟩
    rw [hw.length]
    refine ite_d (fun cx => ?_) (fun cx => ?_)
    · repeat walk_at "rd1"
      refine rd_newO fun t H3 _ s3 e3 _ => ?_
      repeat walk_at "rd1"
      refine rd_newO fun r H4 nr s4 e4 _ => ?_
      refine fin r H4 [.ref t] [(1, 0)] ((s2.trans s3).trans s4) e4 (Hds.cons (tile_mk (s4 _ _ e3)) Hds.nil) (fun t ht => ?_) (by simp) [_, _, _, _, _, _]
      rw [List.mem_singleton.mp ht]
      exact ⟨by decide, m1, by decide, by show (0 : Int) < c; omega⟩
    · exact fin p H2 ws ts s2 e2 hw hin (by omega) [_, _, _, _, _, _]
end
end MH
namespace MH
open PySem L2
/-! _law_spoilt: some text, not much longer -/
def spSpoilt : Sp := fun vs H Q _ => ∃ (x : Str) (cell : Int), vs = [.str x, .int cell] ∧ x.length ≤ 1000 ∧ ∀ y H', y.length ≤ 2 * x.length + 12 → Same H H' → Q (.str y) H'
section
variable {P : Program} {w : World} {K : PySem.W.Frag} {mg : Str → Option Value} {base : Heap}
theorem ok_spoilt {f : Addr} {fd : FuncData} (F : Fun K "_law_spoilt" "_law_spoilt" s__law_spoilt f fd) (BL : Bl mg) (G__law_mix : Fn P w K mg base CX0 1 "_law_mix" ["cell", "k", "many"] spMix) :
    FnOk P w K mg base CX0 2 f fd ["text", "cell"] spSpoilt := by
  have sc : FnScope ["text", "cell", "signs", "at", "sign", "way", "words", "spot", "odd"] ["text", "cell"] (defScope s__law_spoilt) := ⟨rfl, rfl, rfl, by decide +kernel, rfl, by decide +kernel, by decide +kernel⟩
  refine F.ok sc (fun vs H Q E h => ?_) (fun cdv A outer s H vs Q E hr h => ?_)
  · obtain ⟨x, cell, rfl, _⟩ := h
    rfl
  obtain ⟨x, cell, rfl, lx, q⟩ := h
  refine ⟨_, (pss_cons (ps_set (i := 2) sc.nd rfl (Or.inl rfl) pe_str)
      (pss_cons (ps_set (i := 3) sc.nd rfl (Or.inl rfl) (pe_fn0 G__law_mix (hr.mono (by omega)) (pa_cons (pv 1) (pa_cons pe_int (pa_cons (pe_op op_addA (pe_callB (call_lenA (K := K)) rfl BL.len PySem.boot_len (pa_cons (pv 0) pa_nil)) pe_int) pa_nil)))))
      (pss_cons (ps_set (i := 4) sc.nd rfl (Or.inl rfl) (pe_ix (ix_any (K := K)) (pv 2) (pe_fn0 G__law_mix (hr.mono (by omega)) (pa_cons (pv 1) (pa_cons pe_int (pa_cons (pe_callB (call_lenA (K := K)) rfl BL.len PySem.boot_len (pa_cons (pv 2) pa_nil)) pa_nil)))) (fun _ _ => rfl)))
      (pss_cons (ps_set (i := 5) sc.nd rfl (Or.inl rfl) (pe_fn0 G__law_mix (hr.mono (by omega)) (pa_cons (pv 1) (pa_cons pe_int (pa_cons pe_int pa_nil)))))
      (pss_cons (ps_if (pt_cmpR (op_ltA (K := K) hr) (pv 5) pe_int (nomark _))
      (pss_one (ps_ret (pe_ix (ix_any (K := K)) (pe_lst (pa_cons (pe_op op_addA (pe_op op_addA (pe_slice (sl_any (K := K)) (pv 0) po_none (po_some (pv 3))) (pv 4)) (pe_slice (sl_any (K := K)) (pv 0) (po_some (pv 3)) po_none)) (pa_cons (pe_op op_addA (pe_slice (sl_any (K := K)) (pv 0) po_none (po_some (pv 3))) (pe_slice (sl_any (K := K)) (pv 0) (po_some (pe_op op_addA (pv 3) pe_int)) po_none)) (pa_cons (pe_op op_addA (pe_op op_addA (pe_slice (sl_any (K := K)) (pv 0) po_none (po_some (pv 3))) (pv 4)) (pe_slice (sl_any (K := K)) (pv 0) (po_some (pe_op op_addA (pv 3) pe_int)) po_none)) pa_nil)))) (pv 5) (fun _ _ => rfl))))
      pss_nil)
      (pss_cons (ps_set (i := 6) sc.nd rfl (Or.inl rfl) (pe_split (pv 0) pe_str))
      (pss_cons (ps_set (i := 7) sc.nd rfl (Or.inl rfl) (pe_fn0 G__law_mix (hr.mono (by omega)) (pa_cons (pv 1) (pa_cons pe_int (pa_cons (pe_callB (call_lenA (K := K)) rfl BL.len PySem.boot_len (pa_cons (pv 6) pa_nil)) pa_nil)))))
      (pss_cons (ps_set (i := 8) sc.nd rfl (Or.inl rfl) (pe_lst (pa_cons pe_str (pa_cons pe_str (pa_cons pe_str (pa_cons pe_str (pa_cons pe_str (pa_cons pe_str (pa_cons pe_str (pa_cons pe_str (pa_cons pe_str (pa_cons pe_str (pa_cons pe_str (pa_cons pe_str (pa_cons pe_str (pa_cons pe_str (pa_cons pe_str (pa_cons pe_str (pa_cons pe_str pa_nil)))))))))))))))))))
      (pss_cons (ps_set (i := 8) sc.nd rfl (Or.inl rfl) (pe_op op_addA (pv 8) (pe_lst (pa_cons pe_str (pa_cons pe_str (pa_cons pe_str pa_nil))))))
      (pss_cons (ps_if (pt_cmpR (op_eqA (K := K) hr) (pv 5) pe_int (nomark _))
      (pss_one (ps_asg (pe_ix (ix_any (K := K)) (pv 8) (pe_fn0 G__law_mix (hr.mono (by omega)) (pa_cons (pv 1) (pa_cons pe_int (pa_cons pe_int pa_nil)))) (fun _ _ => rfl)) (pg_sub (pv 6) (pv 7) set_list)))
      pss_nil)
      (pss_cons (ps_if (pt_cmpR (op_eqA (K := K) hr) (pv 5) pe_int (nomark _))
      (pss_one (ps_expr (pe_bmK (K := K) PySem.F.plainAttrs_list PySem.F.slot_list_append PySem.F.type_list_append mt_append (pv 6) (pa_cons (pe_ix (ix_any (K := K)) (pv 8) (pe_fn0 G__law_mix (hr.mono (by omega)) (pa_cons (pv 1) (pa_cons pe_int (pa_cons pe_int pa_nil)))) (fun _ _ => rfl)) pa_nil))))
      pss_nil)
      (pss_cons (ps_if (pt_cmpR (op_eqA (K := K) hr) (pv 5) pe_int (nomark _))
      (pss_one (ps_expr (pe_bmK (K := K) PySem.F.plainAttrs_list PySem.F.slot_list_insert PySem.F.type_list_insert mt_insert (pv 6) (pa_cons (pe_fn0 G__law_mix (hr.mono (by omega)) (pa_cons (pv 1) (pa_cons pe_int (pa_cons (pe_callB (call_lenA (K := K)) rfl BL.len PySem.boot_len (pa_cons (pv 6) pa_nil)) pa_nil)))) (pa_cons (pe_bmK (K := K) PySem.F.plainAttrs_list PySem.F.slot_list_pop PySem.F.type_list_pop mt_popAt (pv 6) (pa_cons (pv 7) pa_nil)) pa_nil)))))
      pss_nil)
      (pss_one (ps_ret (pe_joinK (K := K) pe_str (pv 6)))))))))))))))), ?_⟩
  walk_at "seq"
  repeat walk_at "rd0"
  have ls : 0 < (Str.ofString " 0123456789abcde*-+_\t\n").length ∧ (Str.ofString " 0123456789abcde*-+_\t\n").length ≤ 100 := by decide +kernel
  generalize Str.ofString " 0123456789abcde*-+_\t\n" = S at ls
  walk_at "seq"
  repeat walk_at "rd0"
  refine rd_lenS' (by omega) ?_
  repeat walk_at "rd0"
  refine ⟨cell, 1, _, rfl, by omega, fun H1 s1 => ?_⟩
  have ba := mixF_box cell 1 (m := (x.length : Int) + 1) (by omega)
  generalize mixF cell 1 ((x.length : Int) + 1) = at' at ba
  walk_at "nx"
  repeat walk_at "rd0"
  walk_at "seq"
  repeat walk_at "rd0"
  refine rd_lenS' (by omega) ?_
  repeat walk_at "rd0"
  refine ⟨cell, 2, _, rfl, by omega, fun H2 s2 => ?_⟩
  have bs := mixF_box cell 2 (m := (S.length : Int)) (by omega)
  generalize mixF cell 2 (S.length : Int) = k2 at bs
  obtain ⟨c, hc⟩ := at_some (s := tl S) bs.1 (by rw [← len_tl]; exact bs.2)
  refine rd_ixS' (by omega) hc ?_
  have lc : (sg c).length = 1 := rfl
  walk_at "nx"
  repeat walk_at "rd0"
  walk_at "seq"
  repeat walk_at "rd0"
  refine ⟨cell, 3, 6, rfl, by decide, fun H3 s3 => ?_⟩
  have bw := mixF_box cell 3 (m := 6) (by decide)
  generalize mixF cell 3 6 = way at bw
  have s03 := (s1.trans s2).trans s3
  walk_at "nx"
  repeat walk_at "rd0"
  walk_at "seq"
  walk_at "if"
  repeat walk_at "rd0"
  refine ite_d (fun w3 => ?_) (fun w3 => ?_)
  · have c1 := cut_len x none (some at')
    have c2 := cut_len x (some at') none
    have c3 := cut_len x (some (at' + 1)) none
    have a1 : (cutS x none (some at') ++ sg c).length ≤ x.length + 1 := by
      rw [app_len, lc]
      omega
    repeat walk_at "rd1"
    refine rd_slS (by omega) ?_
    repeat walk_at "rd1"
    refine rd_addSS (by omega) ?_
    repeat walk_at "rd1"
    refine rd_slS (by omega) ?_
    refine rd_addSS (by omega) ?_
    repeat walk_at "rd1"
    refine rd_slS (by omega) ?_
    repeat walk_at "rd1"
    refine rd_slS (by omega) ?_
    refine rd_addSS (by omega) ?_
    repeat walk_at "rd1"
    refine rd_slS (by omega) ?_
    repeat walk_at "rd1"
    refine rd_addSS (by omega) ?_
    repeat walk_at "rd1"
    refine rd_slS (by omega) ?_
    refine rd_addSS (by omega) ?_
    repeat walk_at "rd1"
    refine rd_newO fun l H4 _ s4 e4 _ => ?_
    repeat walk_at "rd1"
    have b1 : (cutS x none (some at') ++ sg c ++ cutS x (some at') none).length ≤ 2 * x.length + 12 := by
      rw [app_len]
      omega
    have b2 : (cutS x none (some at') ++ cutS x (some (at' + 1)) none).length ≤ 2 * x.length + 12 := by
      rw [app_len]
      omega
    have b3 : (cutS x none (some at') ++ sg c ++ cutS x (some (at' + 1)) none).length ≤ 2 * x.length + 12 := by
      rw [app_len]
      omega
    have hy : ∃ y : Str, atI [V.str (cutS x none (some at') ++ sg c ++ cutS x (some at') none), V.str (cutS x none (some at') ++ cutS x (some (at' + 1)) none), V.str (cutS x none (some at') ++ sg c ++ cutS x (some (at' + 1)) none)] way = some (.str y) ∧ y.length ≤ 2 * x.length + 12 := by
      have : way = 0 ∨ way = 1 ∨ way = 2 := by omega
      rcases this with rfl | rfl | rfl
      · exact ⟨_, rfl, b1⟩
      · exact ⟨_, rfl, b2⟩
      · exact ⟨_, rfl, b3⟩
    obtain ⟨y, hy, ly⟩ := hy
    refine rd_ixL (SqL.of e4) hy ?_
    exact q y H4 ly (s03.trans s4)
  repeat walk_at "rd0"
  walk_at "seq"
  repeat walk_at "rd0"
  refine rd_split (by rfl) (by omega) fun l H4 nl s4 e4 => ?_
  obtain ⟨ys, hys⟩ : ∃ ys, ys = Txt.split x (Str.ofString " ") := ⟨_, rfl⟩
  rw [← hys] at e4
  have tot : (ys.map (·.length)).sum + ys.length = x.length + 1 := by
    rw [hys]
    exact split_len x
  have ne : 0 < ys.length := by
    have h1 := congrArg List.length (split_tl x)
    rw [← hys, List.length_map] at h1
    rw [h1]
    cases h2 : TL.spl [32] 0 [] (tl x) with
    | nil =>
      have := spl_sum [] (tl x)
      rw [h2] at this
      simp at this
    | cons p r => exact Nat.succ_pos _
  have s04 := s03.trans s4
  have nl0 : H l = none := s03.free nl
  walk_at "nx"
  repeat walk_at "rd0"
  walk_at "seq"
  repeat walk_at "rd0"
  refine rd_lenL (SqL.of e4) ?_
  rw [List.length_map]
  repeat walk_at "rd0"
  refine ⟨cell, 4, _, rfl, by omega, fun H5 s5 => ?_⟩
  have bp := mixF_box cell 4 (m := (ys.length : Int)) (by omega)
  generalize mixF cell 4 (ys.length : Int) = spot at bp
  obtain ⟨sp, rfl⟩ : ∃ sp : Nat, spot = (sp : Int) := ⟨spot.toNat, by omega⟩
  walk_at "nx"
  repeat walk_at "rd0"
  walk_at "seq"
  repeat walk_at "rd0"
  refine rd_newO fun l6 H6 _ s6 e6 _ => ?_
  walk_at "nx"
  repeat walk_at "rd0"
  walk_at "seq"
  repeat walk_at "rd0"
  refine rd_newO fun l7 H7 _ s7 e7 _ => ?_
  refine rd_addL (s7 _ _ e6) e7 (by decide) fun l8 H8 n8 s8 e8 _ => ?_
  obtain ⟨od, hod⟩ : ∃ od : List Str, H8 l8 = some (.lst (od.map V.str)) ∧ od.length = 20 ∧ ∀ y ∈ od, y.length ≤ 4 := by
    refine ⟨[Str.ofString "", Str.ofString "-", Str.ofString "*", Str.ofString "01a", Str.ofString "1", Str.ofString "a", Str.ofString "14a", Str.ofString "13d", Str.ofString "0a", Str.ofString "1_0a", Str.ofString "+1a", Str.ofString "1A", Str.ofString "1a\t", Str.ofString "3a", Str.ofString "1e", Str.ofString "1aa", Str.ofString "100a",
      Str.ofString "* *", Str.ofString "-1a", Str.ofString "2b"], e8, rfl, ?_⟩
    decide +kernel
  obtain ⟨e8', lod, bod⟩ := hod
  have s48 := ((s5.trans s6).trans s7).trans s8
  have s08 := s04.trans s48
  have e48 := s48 _ _ e4
  walk_at "nx"
  repeat walk_at "rd0"
  walk_at "nx"
  have fin := fun (H9 : Hp) (zs : List Str) (s9 : Same H H9) (e9 : H9 l = some (.lst (zs.map V.str))) (b : (zs.map (·.length)).sum + zs.length ≤ x.length + 7) =>
    rd_join (K := K) (s := Str.ofString " ") (Q := Q) e9 (by have : (Str.ofString " ").length = 1 := by decide +kernel
                                                             rw [this]; omega) (q (Txt.join (Str.ofString " ") zs) H9 (by have := join_len zs; omega) s9)
  have pick : ∀ k : Nat, k < 20 → ∃ y : Str, atI (od.map V.str) (k : Int) = some (.str y) ∧ y.length ≤ 4 := fun k hk => by
    obtain ⟨y, hy⟩ := get_some od (i := k) (by omega)
    exact ⟨y, atI_nat (by rw [List.getElem?_map, hy]; rfl), bod y (List.mem_of_getElem? hy)⟩
  have ways : way = 3 ∨ way = 4 ∨ way = 5 := by omega
  rcases ways with rfl | rfl | rfl
  · walk_at "seq"
    walk_at "if"
    repeat walk_at "rd0"
    refine ite_d (fun _ => ?_) (fun n => absurd rfl n)
    repeat walk_at "rd0"
    refine ⟨cell, 5, 20, rfl, by decide, fun H9 s9 => ?_⟩
    have bk := mixF_box cell 5 (m := 20) (by decide)
    generalize mixF cell 5 20 = k5 at bk
    obtain ⟨k, rfl⟩ : ∃ k : Nat, k5 = (k : Int) := ⟨k5.toNat, by omega⟩
    obtain ⟨y, hy, ly⟩ := pick k (by omega)
    refine rd_ixL (SqL.of (s9 _ _ e8')) hy ?_
    refine rd_gsub ?_
    repeat walk_at "rd0"
    have e9 := s9 _ _ e48
    refine rd_setL e9 (by rw [List.length_map]; omega) ?_
    rw [← List.map_set]
    repeat walk_at "rd1"
    refine ite_d (fun n => absurd n (by decide)) (fun _ => ?_)
    repeat walk_at "rd1"
    refine ite_d (fun n => absurd n (by decide)) (fun _ => ?_)
    repeat walk_at "rd1"
    refine fin _ (ys.set sp y) (Same.mut (s08.trans s9) nl0) upd_same ?_
    have := sum_set (ys := ys) (k := sp) ly
    rw [List.length_set]
    omega
  · walk_at "seq"
    walk_at "if"
    repeat walk_at "rd0"
    refine ite_d (fun n => absurd n (by decide)) (fun _ => ?_)
    repeat walk_at "rd1"
    refine ite_d (fun _ => ?_) (fun n => absurd rfl n)
    repeat walk_at "rd1"
    refine ⟨cell, 5, 20, rfl, by decide, fun H9 s9 => ?_⟩
    have bk := mixF_box cell 5 (m := 20) (by decide)
    generalize mixF cell 5 20 = k5 at bk
    obtain ⟨k, rfl⟩ : ∃ k : Nat, k5 = (k : Int) := ⟨k5.toNat, by omega⟩
    obtain ⟨y, hy, ly⟩ := pick k (by omega)
    refine rd_ixL (SqL.of (s9 _ _ e8')) hy ?_
    have e9 := s9 _ _ e48
    repeat walk_at "rd1"
    refine rd_append e9 (by rw [List.length_map]; omega) ?_
    rw [show ys.map V.str ++ [V.str y] = (ys ++ [y]).map V.str by rw [List.map_append]; rfl]
    repeat walk_at "rd1"
    refine ite_d (fun n => absurd n (by decide)) (fun _ => ?_)
    repeat walk_at "rd1"
    refine fin _ (ys ++ [y]) (Same.mut (s08.trans s9) nl0) upd_same ?_
    rw [List.map_append, List.sum_append_nat, List.length_append]
    simp
    omega
  · walk_at "seq"
    walk_at "if"
    repeat walk_at "rd0"
    refine ite_d (fun n => absurd n (by decide)) (fun _ => ?_)
    repeat walk_at "rd1"
    refine ite_d (fun n => absurd n (by decide)) (fun _ => ?_)
    repeat walk_at "rd1"
    refine ite_d (fun _ => ?_) (fun n => absurd rfl n)
    repeat walk_at "rd1"
    refine rd_lenL (SqL.of e48) ?_
    rw [List.length_map]
    repeat walk_at "rd1"
    refine ⟨cell, 6, _, rfl, by omega, fun H9 s9 => ?_⟩
    have bk := mixF_box cell 6 (m := (ys.length : Int)) (by omega)
    generalize mixF cell 6 (ys.length : Int) = k6 at bk
    have e9 := s9 _ _ e48
    obtain ⟨y, hy⟩ := get_some ys (i := sp) (by omega)
    repeat walk_at "rd1"
    refine rd_popAt e9 (y := .str y) (by rw [List.getElem?_map, hy]; rfl) (by omega) ?_
    rw [map_eraseIdx]
    have le : (ys.eraseIdx sp).length + 1 = ys.length := by
      rw [List.length_eraseIdx, if_pos (by omega)]
      omega
    have lz : ((ys.eraseIdx sp).map V.str).length < sizeLine := by
      rw [List.length_map]
      exact Nat.lt_of_lt_of_le (show _ < 1000000 by omega) (by decide)
    refine ⟨l, _, k6, .str y, rfl, rfl, upd_same, lz, by omega, by omega, ?_⟩
    rw [← List.map_take, ← List.map_drop, show ((ys.eraseIdx sp).take k6.toNat).map V.str ++ [V.str y] ++ ((ys.eraseIdx sp).drop k6.toNat).map V.str = ((ys.eraseIdx sp).take k6.toNat ++ [y] ++ (ys.eraseIdx sp).drop k6.toNat).map V.str by rw [List.map_append, List.map_append]; rfl]
    repeat walk_at "rd1"
    refine fin _ _ (Same.mut (Same.mut (s08.trans s9) nl0) nl0) upd_same ?_
    have a1 := sum_eraseS hy
    have a2 := sum_split (ys.eraseIdx sp) k6.toNat
    rw [List.map_append, List.map_append, List.sum_append_nat, List.sum_append_nat, List.length_append, List.length_append, List.length_take, List.length_drop]
    simp only [List.map_cons, List.map_nil, List.sum_cons, List.sum_nil, List.length_cons, List.length_nil]
    omega
end
end MH
namespace MH
open PySem L2
/-! _law_tile -/
def spLawTile : Sp := fun vs H Q _ => ∃ (x : Str) (m c : Int), vs = [.str x, .int m, .int c] ∧ 1 ≤ m ∧ m ≤ 13 ∧ 1 ≤ c ∧ c ≤ 4 ∧ x.length ≤ 1000 ∧ (lawTileF m c (tl x) = none → ∀ H', Same H H' → Q .non H') ∧
  ∀ t, lawTileF m c (tl x) = some t → ∀ a H', H a = none → Same H H' → H' a = some (.tup [.int t.1, .int t.2]) → Q (.ref a) H'
section
variable {P : Program} {w : World} {K : PySem.W.Frag} {mg : Str → Option Value} {base : Heap}
theorem ok_law_tile {f : Addr} {fd : FuncData} (F : Fun K "_law_tile" "_law_tile" s__law_tile f fd) (BL : Bl mg) : FnOk P w K mg base CX0 1 f fd ["word", "most", "colours"] spLawTile := by
  have sc : FnScope ["word", "most", "colours", "number", "colour"] ["word", "most", "colours"] (defScope s__law_tile) := ⟨rfl, rfl, rfl, by decide +kernel, rfl, by decide +kernel, by decide +kernel⟩
  refine F.ok sc (fun vs H Q E h => ?_) (fun cdv A outer s H vs Q E hr h => ?_)
  · obtain ⟨x, m, c, rfl, _⟩ := h
    rfl
  obtain ⟨x, m, c, rfl, m1, m13, c1, c4, lx, qn, qy⟩ := h
  refine ⟨_, (pss_cons (ps_for PassesOwn.never rfl (pi_range2 rfl BL.range (pa_cons pe_int (pa_cons (pe_op op_addA (pv 1) pe_int) pa_nil))) (pg_name (i := 3) sc.nd rfl (Or.inl rfl))
      (pss_one (ps_for PassesOwn.never rfl (pi_range1 rfl BL.range (pa_cons (pv 2) pa_nil)) (pg_name (i := 4) sc.nd rfl (Or.inl rfl))
      (pss_one (ps_if (pt_cmpR (op_eqA (K := K) hr) (pv 0) (pe_op op_addA (pe_callTy call_str_int rfl BL.str (by decide +kernel) (pa_cons (pv 3) pa_nil)) (pe_ix (ix_any (K := K)) pe_str (pv 4) (fun _ _ => rfl))) (nomark _))
      (pss_one (ps_ret (pe_tup (pa_cons (pv 3) (pa_cons (pv 4) pa_nil)))))
      pss_nil)))))
      (pss_one (ps_ret pe_non))), ?_⟩
  repeat walk_at "rd1"
  refine rd_itr2 (by decide) (by decide) (by omega) (by omega) ?_
  refine loop_range (lo := 1) (fun i σ H' => ∃ v3 v4 : Option V, σ = [some (.str x), some (.int m), some (.int c), v3, v4] ∧ H' = H ∧ ∀ t : Tile, InHouse m c t → t.1 < 1 + (i : Int) → wordL t ≠ tl x) ⟨none, none, rfl, rfl, fun t g l => by have := g.1; omega⟩ ?_ ?_
  · rintro i σ H1 hi ⟨v3, v4, rfl, rfl, no⟩
    have i13 : (i : Int) + 1 ≤ m := by omega
    repeat walk_at "rd1"
    refine rd_itr1 (by omega) (by omega) ?_
    refine loop_range (lo := 0) (fun k σ H' => ∃ v4 : Option V, σ = [some (.str x), some (.int m), some (.int c), some (.int (1 + (i : Int))), v4] ∧ H' = H1 ∧ ∀ t : Tile, InHouse m c t → t.1 = 1 + (i : Int) → t.2 < (k : Int) → wordL t ≠ tl x) ⟨v4, rfl, rfl, fun t g _ l => by have := g.2.2.1; omega⟩ ?_ ?_
    · rintro k σ H2 hk ⟨v4, rfl, rfl, no2⟩
      have k4 : (k : Int) < c := by omega
      have g : InHouse m c ((1 + (i : Int), 0 + (k : Int)) : Tile) := ⟨by show (1 : Int) ≤ 1 + (i : Int); omega, by show 1 + (i : Int) ≤ m; omega, by show (0 : Int) ≤ 0 + (k : Int); omega, by show 0 + (k : Int) < c; omega⟩
      have g4 : InHouse 13 4 ((1 + (i : Int), 0 + (k : Int)) : Tile) := ⟨g.1, by have := g.2.1; omega, g.2.2.1, by have := g.2.2.2; omega⟩
      have ew := tl_wordS g4
      have l2 := num_len (n := 1 + (i : Int)) (by omega) (by omega)
      repeat walk_at "rd1"
      refine ⟨_, rfl, log2_small (by omega), ?_⟩
      repeat walk_at "rd1"
      refine rd_ixS' (c := 97 + (0 + (k : Int)).toNat) (by decide +kernel) (at_abcd (by omega) (by omega)) ?_
      refine rd_addSS ?_ ?_
      · show (Str.ofString (toString (1 + (i : Int)))).length + 1 ≤ 1000000
        omega
      repeat walk_at "rd1"
      refine ite_d (fun e => ?_) (fun e => ?_)
      · repeat walk_at "rd1"
        refine rd_newO fun a H3 na s3 e3 _ => ?_
        exact qy _ (lawTile_yes m13 c4 g (by rw [← ew, e]; rfl)) a H3 na s3 e3
      · repeat walk_at "rd1"
        refine ⟨_, rfl, rfl, fun t gt t1 t2 z => ?_⟩
        by_cases t3 : t.2 < (k : Int)
        · exact no2 t gt t1 t3 z
        · have et : t = ((1 + (i : Int), 0 + (k : Int)) : Tile) := Prod.ext t1 (by show t.2 = 0 + (k : Int); omega)
          subst et
          exact e (tl_inj (z.symm.trans ew.symm))
    · rintro σ H2 ⟨v4, rfl, rfl, no2⟩
      repeat walk_at "rd1"
      refine ⟨_, _, rfl, rfl, fun t gt t1 => ?_⟩
      by_cases t3 : t.1 < 1 + (i : Int)
      · exact no t gt t3
      · exact no2 t gt (by omega) (by have := gt.2.2.2; omega)
  · rintro σ H1 ⟨v3, v4, rfl, rfl, no⟩
    repeat walk_at "rd1"
    exact qn (lawTile_no fun t gt => no t gt (by have := gt.2.1; omega)) _ (Same.refl _)
end
end MH
namespace MH
open PySem L2
/-! _law_due -/
def spLawDue (K : PySem.W.Frag) : Sp := fun vs H Q _ => ∃ (m c : Int) (t : Str), vs = [.str t, .int m, .int c] ∧ 1 ≤ m ∧ m ≤ 13 ∧ 1 ≤ c ∧ c ≤ 4 ∧ t.length ≤ 900 ∧ (readF m c (tl t) = none → ∀ H', Same H H' → Q .non H') ∧
  ∀ h j, readF m c (tl t) = some (h, j) → ∀ a b H' ws, H b = none → Same H H' → H' a = some (.tup [.ref b, .int ((j : Nat) : Int)]) → H' b = some (.lst ws) → Hds K H' ws h → Q (.ref a) H'
section
variable {P : Program} {w : World} {K : PySem.W.Frag} {mg : Str → Option Value} {base : Heap}
theorem ok_law_due {f : Addr} {fd : FuncData} (F : Fun K "_law_due" "_law_due" s__law_due f fd) (BL : Bl mg) (G__law_tile : Fn P w K mg base CX0 1 "_law_tile" ["word", "most", "colours"] spLawTile) :
    FnOk P w K mg base CX0 2 f fd ["text", "most", "colours"] (spLawDue K) := by
  have sc : FnScope ["text", "most", "colours", "words", "jokers", "hand", "word", "tile"] ["text", "most", "colours"] (defScope s__law_due) := ⟨rfl, rfl, rfl, by decide +kernel, rfl, by decide +kernel, by decide +kernel⟩
  refine F.ok sc (fun vs H Q E h => ?_) (fun cdv A outer s H vs Q E hr h => ?_)
  · obtain ⟨m, c, t, rfl, _⟩ := h
    rfl
  obtain ⟨m, c, t, rfl, m1, m13, c1, c4, lt, qn, qy⟩ := h
  refine ⟨_, (pss_cons (ps_if (pt_cmpR (op_eqA (K := K) hr) (pv 0) pe_str (nomark _))
      (pss_one (ps_ret (pe_tup (pa_cons (pe_lst pa_nil) (pa_cons pe_int pa_nil)))))
      pss_nil)
      (pss_cons (ps_set (i := 3) sc.nd rfl (Or.inl rfl) (pe_split (pv 0) pe_str))
      (pss_cons (ps_set (i := 4) sc.nd rfl (Or.inl rfl) pe_int)
      (pss_cons (ps_while PassesOwn.never (PW.pt (pw_and (pt_cmpR (op_gtA (K := K) hr) (pe_callB (call_lenA (K := K)) rfl BL.len PySem.boot_len (pa_cons (pv 3) pa_nil)) pe_int (nomark _)) (pw_and1 (pt_cmpR (op_eqA (K := K) hr) (pe_ix (ix_any (K := K)) (pv 3) (pe_un un_neg pe_int) (fun _ _ => rfl)) pe_str (nomark _)))))
      (pss_cons (ps_expr (pe_bm0K (K := K) PySem.F.plainAttrs_list PySem.F.slot_list_pop PySem.F.type_list_pop mt_pop (pv 3)))
      (pss_one (ps_set (i := 4) sc.nd rfl (Or.inl rfl) (pe_op op_addA (pv 4) pe_int)))))
      (pss_cons (ps_set (i := 5) sc.nd rfl (Or.inr rfl) (pe_lc rfl sc.nd (pi_listK (K := K) (pv 3)) (blkOk_by (own := [("word", 6)]) (N := ["text", "most", "colours", "words", "jokers", "hand", "word", "tile"]) (sc := defScope s__law_due) (by decide +kernel)) (fun _ _ _ _ _ => (pg_name (i := 6) sc.nd rfl (Or.inl rfl))) (fun _ _ _ _ _ => pts_nil) (fun _ _ _ _ _ => (pe_fn0 G__law_tile (hr.mono (by omega)) (pa_cons (pv 6) (pa_cons (pv 1) (pa_cons (pv 2) pa_nil)))))))
      (pss_cons (ps_if (PW.pt (pw_or (pt_cmpR (op_inA (K := K) hr) pe_non (pv 5) (by rfl)) (pw_or (pt_cmpR (op_neA (K := K) hr) (pv 5) (pe_callB (cr_sortedA (K := K) hr) rfl BL.sorted (by decide +kernel) (pa_cons (pv 5) pa_nil)) (nomark _)) (pw_or (pt_cmpR (op_gtA (K := K) hr) (pv 4) pe_int (nomark _)) (pw_or1 (pt_cmpR (op_gtA (K := K) hr) (pe_callB (call_lenA (K := K)) rfl BL.len PySem.boot_len (pa_cons (pv 5) pa_nil)) pe_int (nomark _)))))))
      (pss_one (ps_ret pe_non))
      pss_nil)
      (pss_cons (ps_if (pt_cmpR (op_gtA (K := K) hr) (pe_callBK (cr_maxDef (K := K) rfl hr) rfl BL.max (by decide +kernel) (pa_cons (pe_lc rfl sc.nd (pi_listK (K := K) (pv 5)) (blkOk_by (own := [("tile", 7)]) (N := ["text", "most", "colours", "words", "jokers", "hand", "word", "tile"]) (sc := defScope s__law_due) (by decide +kernel)) (fun _ _ _ _ _ => (pg_name (i := 7) sc.nd rfl (Or.inl rfl))) (fun _ _ _ _ _ => pts_nil) (fun _ _ _ _ _ => (pe_bmK (K := K) PySem.F.plainAttrs_list PySem.F.slot_list_count PySem.F.type_list_count (mt_countA (K := K) hr) (pv 5) (pa_cons (pv 7) pa_nil)))) pa_nil) (pk_cons pe_int pk_nil)) pe_int (nomark _))
      (pss_one (ps_ret pe_non))
      pss_nil)
      (pss_one (ps_ret (pe_tup (pa_cons (pv 5) (pa_cons (pv 4) pa_nil)))))))))))), ?_⟩
  walk_at "seq"
  walk_at "if"
  repeat walk_at "rd1"
  refine ite_d (fun a1 => ?_) (fun a1 => ?_)
  · rw [str_eq tl_dash] at a1
    repeat walk_at "rd1"
    refine rd_newO fun l H1 nl s1 e1 _ => ?_
    repeat walk_at "rd1"
    refine rd_newO fun a H2 na s2 e2 _ => ?_
    exact qy [] 0 (by rw [a1]; rfl) a l H2 [] nl (s1.trans s2) e2 (s2 _ _ e1) Hds.nil
  rw [str_eq tl_dash] at a1
  have tl_t := len_tl t
  obtain ⟨ys, hys⟩ : ∃ ys, ys = Txt.split t (Str.ofString " ") := ⟨_, rfl⟩
  have hsp : ys.map tl = TL.spl [32] 0 [] (tl t) := by
    rw [hys]
    have := TL.split_spl t (Str.ofString " ") (by show tl (Str.ofString " ") ≠ []; rw [tl_blank]; simp) (TL.kind_ok (by decide +kernel))
    rw [show TL.tl (Str.ofString " ") = [32] from tl_blank] at this
    exact this
  obtain ⟨l1, l2⟩ := spl_len [32] 0 [] (tl t)
  rw [← hsp, List.length_map] at l1
  rw [← hsp] at l2
  simp only [List.length_nil, Nat.zero_add] at l2
  have hF : readF m c (tl t) = readW m c (stripR (ys.map tl).reverse).1.reverse (stripR (ys.map tl).reverse).2 := by
    unfold readF
    rw [if_neg a1, hsp]
  rw [hF] at qn
  simp only [hF] at qy
  repeat walk_at "rd0"
  walk_at "seq"
  repeat walk_at "rd0"
  refine rd_split (by rfl) (by omega) fun l H1 nl s1 e1 => ?_
  rw [← hys] at e1
  repeat walk_at "rd0"
  walk_at "seq"
  repeat walk_at "rd0"
  walk_at "nx"
  with_reducible refine rd_seqJ (fun σ H' => ∃ (cur : List Str) (jj : Nat), σ = [some (.str t), some (.int m), some (.int c), some (.ref l), some (.int ((jj : Nat) : Int)), none, none, none] ∧ Same H H' ∧ H' l = some (.lst (cur.map V.str)) ∧ (∀ y ∈ cur, y ∈ ys) ∧ cur.length ≤ ys.length ∧
    stripR (ys.map tl).reverse = ((cur.map tl).reverse, jj)) ?_ ?_
  rotate_left
  · intro N rN
    refine ⟨fun n σ H' => ∃ (cur : List Str) (jj : Nat), n = cur.length ∧ σ = [some (.str t), some (.int m), some (.int c), some (.ref l), some (.int ((jj : Nat) : Int)), none, none, none] ∧ Same H H' ∧ H' l = some (.lst (cur.map V.str)) ∧ (∀ y ∈ cur, y ∈ ys) ∧ cur.length ≤ ys.length ∧
      stripR (ys.map tl).reverse = ((stripR (cur.map tl).reverse).1, (stripR (cur.map tl).reverse).2 + jj), ⟨_, ys, 0, rfl, rfl, s1, e1, fun y h => h, Nat.le_refl _, by simp⟩, ?_⟩
    rintro n σ H2 ⟨cur, jj, rfl, rfl, s2, e2, sub, le, st⟩
    repeat walk_at "rd1"
    refine rd_lenL (SqL.of e2) ?_
    repeat walk_at "rd1"
    rw [List.length_map]
    rcases snoc_of cur with hc | ⟨ini, y, hc⟩
    · refine ite_d (fun z => absurd z (by rw [hc]; decide)) (fun _ => ?_)
      refine L2.iteF ?_
      exact rN _ _ ⟨cur, jj, rfl, s2, e2, sub, le, by rw [st, hc]; simp [stripR]⟩
    · subst hc
      have e2' : H2 l = some (.lst (ini.map V.str ++ [V.str y])) := by
        rw [e2, List.map_append]
        rfl
      refine ite_d (fun _ => ?_) (fun z => absurd z (by rw [List.length_append, List.length_singleton]; omega))
      repeat walk_at "rd1"
      refine rd_ixL (SqL.of e2') (atI_last _ _) ?_
      repeat walk_at "rd1"
      have hrev : ((ini ++ [y]).map tl).reverse = tl y :: (ini.map tl).reverse := by
        rw [List.map_append, List.reverse_append]
        rfl
      rw [hrev] at st
      refine ite_d (fun z => ?_) (fun z => ?_)
      · rw [str_eq tl_star] at z
        refine ⟨_, fun σ' H' h => h, ?_⟩
        repeat walk_at "rd1"
        refine rd_pop e2' ?_
        repeat walk_at "rd1"
        refine ⟨ini.length, by rw [List.length_append, List.length_singleton]; omega, ini, jj + 1, rfl, rfl, Same.mut s2 nl, upd_same, fun u hu => sub u (List.mem_append_left _ hu), by rw [List.length_append] at le; omega, ?_⟩
        rw [st, stripR_yes _ z]
        simp only [Nat.add_assoc, Nat.add_comm 1 jj]
      · rw [str_eq tl_star] at z
        exact rN _ _ ⟨_, jj, rfl, s2, e2, sub, le, by rw [st, hrev, stripR_no _ z, Nat.zero_add]⟩
  rintro σ H2 ⟨cur, jj, rfl, s2, e2, sub, le, st⟩
  rw [st] at qn
  simp only [st, List.reverse_reverse] at qn qy
  repeat walk_at "rd1"
  refine rd_itl (SqL.of e2) ?_
  refine comp_listR (K := K) (α := Option Tile) (R := fun i zs => zs = ((cur.map tl).take i).map (lawTileF m c)) (SqL.of e2) (by rw [List.length_map]; omega) rfl (fun i v H3 zs hv s3 hz Rk Rn hk _ => ?_) fun d H3 ws os nd s3 e3 h3 lz hz => ?_
  · obtain ⟨y, hy, rfl⟩ : ∃ y, cur[i]? = some y ∧ v = .str y := by
      rw [List.getElem?_map] at hv
      cases z : cur[i]? with
      | none => rw [z] at hv; cases hv
      | some y =>
        rw [z] at hv
        cases hv
        exact ⟨y, rfl, rfl⟩
    have hyt : (cur.map tl)[i]? = some (tl y) := by rw [List.getElem?_map, hy]; rfl
    have ly : y.length ≤ 1000 := by
      rw [len_tl]
      have := l2 (tl y) (List.mem_map.mpr ⟨y, sub y (List.mem_of_getElem? hy), rfl⟩)
      omega
    have nxt : zs ++ [lawTileF m c (tl y)] = ((cur.map tl).take (i + 1)).map (lawTileF m c) := by
      rw [take_succ' hyt, List.map_append, hz]
      rfl
    repeat walk_at "rd1"
    refine ⟨rfl, ?_⟩
    repeat walk_at "rd1"
    refine ⟨y, m, c, rfl, m1, m13, c1, c4, ly, fun hn H4 s4 => ?_, fun u hu a H4 na s4 e4 => ?_⟩
    · refine hk _ H4 none ?_ s4 hd_non
      show zs ++ [none] = _
      rw [← nxt, hn]
    · refine hk _ H4 (some u) ?_ s4 (hd_som (tile_mk e4))
      show zs ++ [some u] = _
      rw [← nxt, hu]
  have hz : os = (cur.map tl).map (lawTileF m c) := by
    have : (cur.map V.str).length = (cur.map tl).length := by rw [List.length_map, List.length_map]
    rw [this, List.take_length] at hz
    exact hz
  have s03 := s2.trans s3
  walk_at "seq"
  walk_at "if"
  repeat walk_at "rd1"
  refine rd_inD (α := Option Tile) (by decide) (SqL.of e3) h3 hd_non ?_
  repeat walk_at "rd1"
  refine ite_dI (fun b1 => ?_) (fun b1 => ?_)
  · repeat walk_at "rd1"
    refine qn ?_ _ s03
    exact due_none (by rw [← hz]; exact b1)
  obtain ⟨hs, ehs⟩ := all_some b1
  have good := due_some (hz.symm.trans ehs)
  have rdF := due_read (j := jj) (m := m) (c := c) good.1
  have g := good.2
  rw [rdF] at qn
  simp only [rdF] at qy
  rw [ehs] at h3
  have h3 := hds_som h3
  have no : ∀ H', Same H H' → ¬ IsHand m c hs (jj : Int) → Q .non H' := fun H' s n => qn (if_neg n) H' s
  have len := h3.length
  repeat walk_at "rd1"
  refine rd_sortT (SqL.of e3) h3 fun r H4 us srt nr s4 e4 pm so hu => ?_
  have s04 := s03.trans s4
  have e34 := s4 _ _ e3
  have h34 := h3.same s4
  refine rd_neD (α := List Tile) (by decide) (hd_list e34 h34) (hd_list e4 (hu.same s4)) ?_
  repeat walk_at "rd1"
  refine ite_nd (fun b2 => ?_) (fun b2 => ?_)
  rotate_left
  · repeat walk_at "rd1"
    exact no _ s04 fun y => b2 (sorted_perm y.2.2.2.2 so pm.symm)
  rw [← b2] at so
  repeat walk_at "rd1"
  refine ite_d (fun b3 => ?_) (fun b3 => ?_)
  · repeat walk_at "rd1"
    exact no _ s04 fun y => by have := y.2.2.1; omega
  repeat walk_at "rd1"
  refine rd_lenL (SqL.of e34) ?_
  repeat walk_at "rd1"
  refine ite_d (fun b4 => ?_) (fun b4 => ?_)
  · repeat walk_at "rd1"
    exact no _ s04 fun y => by have := y.1; omega
  repeat walk_at "rd1"
  refine rd_CKw ?_
  repeat walk_at "rd1"
  refine rd_itl (SqL.of e34) ?_
  refine comp_list (K := K) (α := Int) (f := fun t : Tile => some ((hs.count t : Nat) : Int)) (SqL.of e34) len (by omega) (fun i v u H5 hv hu5 s5 Rk Rn hkk _ => ?_) fun d5 H5 ws5 nd5 s5 e5 h5 => ?_
  · obtain ⟨u2, hu2, hvu⟩ := h34.getV hv
    rw [hu5] at hu2
    cases hu2
    repeat walk_at "rd1"
    refine ⟨rfl, ?_⟩
    repeat walk_at "rd1"
    refine ⟨tyV_list (SqL.of (s5 _ _ e34)), ?_⟩
    repeat walk_at "rd1"
    refine rd_countT (SqL.of (s5 _ _ e34)) (h34.same s5) (hvu.same s5) ?_
    exact hkk _ _ _ rfl (Same.refl _) (hd_int _)
  rw [map_some] at h5
  repeat walk_at "rd1"
  refine rd_maxDef e5 h5 fun mx m0 mm => ?_
  have s05 := s04.trans s5
  have cnt : mx ≤ 2 ↔ ∀ t ∈ hs, hs.count t ≤ 2 := by
    constructor
    · intro le t ht
      have mt : ((hs.count t : Nat) : Int) ∈ hs.map fun t => ((hs.count t : Nat) : Int) := List.mem_map.mpr ⟨t, ht, rfl⟩
      have := (mm (List.ne_nil_of_mem mt)).2 _ mt
      omega
    · intro all
      by_cases e : (hs.map fun t => ((hs.count t : Nat) : Int)) = []
      · rw [m0 e]
        decide
      · obtain ⟨t, ht, et⟩ := List.mem_map.mp (mm e).1
        have := all t ht
        omega
  repeat walk_at "rd1"
  refine ite_d (fun b5 => ?_) (fun b5 => ?_)
  · repeat walk_at "rd1"
    refine no _ s05 fun y => ?_
    have := cnt.mpr fun t ht => (y.2.2.2.1 t ht).2
    omega
  have yes : IsHand m c hs (jj : Int) := ⟨by omega, by omega, by omega, fun t ht => ⟨g t ht, cnt.mp (by omega) t ht⟩, so⟩
  repeat walk_at "rd1"
  refine rd_newO fun a H6 na s6 e6 _ => ?_
  refine qy hs jj (if_pos yes) a d H6 ws (s2.free nd) (s05.trans s6) e6 ((s5.trans s6) _ _ e34) (h34.same (s5.trans s6))
end
end MH
namespace MH
open PySem L2
/-! _law_met of k10 -/
def spMet (K : PySem.W.Frag) (C : Addr) : Sp := fun vs H Q _ => ∃ (p : Addr) (m c : Int) (t : Str), vs = [.ref p, .str t] ∧ HouseAt C H p m c ∧ t.length ≤ 900 ∧ (readF m c (tl t) = none → ∀ H', Same H H' → Q (.bl true) H') ∧
  ∀ h j, readF m c (tl t) = some (h, j) → ∀ a b H' ws, H b = none → Same H H' → H' a = some (.tup [.ref b, .int ((j : Nat) : Int)]) → H' b = some (.lst ws) → Hds K H' ws h → Q (.ref a) H'
section
variable {P : Program} {w : World} {K : PySem.W.Frag} {mg : Str → Option Value} {base : Heap} {C XBadNote XMeldError : Addr}
theorem ok_met10 {f : Addr} {fd : FuncData} (F : Fun K "_law_met" "_law_met" s__law_met f fd) (BL : Bl mg) (XD : Xd K) (XC_BadNote : Xc K mg "BadNote" XBadNote) (XC_MeldError : Xc K mg "MeldError" XMeldError)
    (iM : PySem.W.kitOne K (.ref XBadNote) (.ref XMeldError) = some true) (iV : PySem.W.kitOne K (.ref XBadNote) (.type "ValueError") = some true)
    (G_read : Fn P w K mg base (L2.CX P w) 3 "read" ["house", "text"] (spRead K C XBadNote)) : FnOk P w K mg base CX0 4 f fd ["house", "text"] (spMet K C) := by
  have sc : FnScope ["house", "text", "e"] ["house", "text"] (defScope s__law_met) := ⟨rfl, rfl, rfl, by decide +kernel, rfl, by decide +kernel, by decide +kernel⟩
  refine F.ok sc (fun vs H Q E h => ?_) (fun cdv A outer s H vs Q E hr h => ?_)
  · obtain ⟨p, m, c, t, rfl, _⟩ := h
    rfl
  obtain ⟨p, m, c, t, rfl, hh, lt, qn, qy⟩ := h
  refine ⟨_, (pss_one (ps_try_as (i := 2) rfl rfl sc.nd rfl rfl ⟨rfl, by decide, Or.inl XC_BadNote.g⟩ takes0 (fun W pn xe tk _ =>
      (pss_one (ps_ret (pe_fnT tk G_read (hr.mono (by omega)) (pa_cons (pv 0) (pa_cons (pv 1) pa_nil))))))
      (fun a oe cls d pn hz hf =>
      (pss_one (ps_ret (pe_and (pe_callB (call_isEC (K := K) hz hf) rfl BL.isinstance (by decide +kernel) (pa_cons (pv 2) (pa_cons (pe_gref XC_MeldError.g) pa_nil))) (pe_one (pe_callB (call_isEC (K := K) hz hf) rfl BL.isinstance (by decide +kernel) (pa_cons (pv 2) (pa_cons (pe_bltn (v := .ty "ValueError") rfl BL.ve (by decide +kernel) rfl) pa_nil)))))))))), ?_⟩
  repeat walk_at "rd1"
  refine ⟨p, m, c, t, rfl, hh, lt, fun n H1 s1 => ?_, fun h j e a b H1 ws nb s1 e1 e2 hw => ?_⟩
  · refine ⟨true, XC_BadNote.exm XC_BadNote.self, fun _ a na => ?_, fun z => nomatch z⟩
    repeat walk_at "rd1"
    refine rd_isEC (XC_BadNote.exc XD) iM ?_
    repeat walk_at "rd1"
    refine rd_isET (XC_BadNote.exc XD) iV ?_
    repeat walk_at "rd1"
    exact qn n H1 s1
  · exact qy h j e a b H1 ws nb s1 e1 e2 hw
end
end MH
namespace MH
open PySem L2
/-! law of k10 -/
def spLaw (K : PySem.W.Frag) : Sp := fun vs H Q _ => ∃ (a : Addr) (ns : List Int), vs = [.ref a] ∧ SqL K H a (ns.map V.int) ∧ ∀ H', Q (.bl true) H'
section
variable {P : Program} {w : World} {K : PySem.W.Frag} {mg : Str → Option Value} {base : Heap} {C XB : Addr}
theorem ok_law {f : Addr} {fd : FuncData} (F : Fun K "law" "law" s_law f fd) (BL : Bl mg) (HS : Hs K C)
    (G__law_cell_at : Fn P w K mg base CX0 1 "_law_cell_at" ["script", "k"] (spCellAt K)) (G__law_whole : Fn P w K mg base CX0 1 "_law_whole" ["found"] spWhole)
    (G__law_house_by : Fn P w K mg base CX0 2 "_law_house_by" ["script"] (spHouseBy K)) (G__law_hand_by : Fn P w K mg base CX0 2 "_law_hand_by" ["script", "start", "most", "colours", "limit"] (spHandBy K))
    (G__law_spoilt : Fn P w K mg base CX0 2 "_law_spoilt" ["text", "cell"] spSpoilt) (G__law_due : Fn P w K mg base CX0 2 "_law_due" ["text", "most", "colours"] (spLawDue K))
    (G__law_met : Fn P w K mg base CX0 4 "_law_met" ["house", "text"] (spMet K C))
    (G_House : Maker P w K mg base C 1 "House" ["self", "most", "colours"] (spInit C XB)) : FnOk P w K mg base CX0 5 f fd ["script"] (spLaw K) := by
  have sc : FnScope ["script", "most", "colours", "house", "words", "text", "k", "due", "lap", "found", "number", "colour"] ["script"] (defScope s_law) := ⟨rfl, rfl, rfl, by decide +kernel, rfl, by decide +kernel, by decide +kernel⟩
  refine F.ok sc (fun vs H Q E h => ?_) (fun cdv A outer s H vs Q E hr h => ?_)
  · obtain ⟨a, ns, rfl, _⟩ := h
    rfl
  obtain ⟨a, ns, rfl, hl, q⟩ := h
  refine ⟨_, (pss_cons (ps_asg (pe_fn0 G__law_house_by (hr.mono (by omega)) (pa_cons (pv 0) pa_nil)) (pg_tupK (K := K) (by rfl) (pgs_cons (pg_name (i := 1) sc.nd rfl (Or.inl rfl)) (pgs_cons (pg_name (i := 2) sc.nd rfl (Or.inl rfl)) pgs_nil))))
      (pss_cons (ps_set (i := 3) sc.nd rfl (Or.inl rfl) (pe_mkL G_House (hr.mono (by omega)) (pa_cons (pv 1) (pa_cons (pv 2) pa_nil))))
      (pss_cons (ps_setLc (i := 4) rfl sc.nd rfl rfl (sw_true rfl rfl rfl (by decide +kernel)) (pi_listK (K := K) (pe_fn0 G__law_hand_by (hr.mono (by omega)) (pa_cons (pv 0) (pa_cons pe_int (pa_cons (pv 1) (pa_cons (pv 2) (pa_cons pe_int pa_nil))))))) (blkOk_by (own := [("number", 10), ("colour", 11)]) (N := ["script", "most", "colours", "house", "words", "text", "k", "due", "lap", "found", "number", "colour"]) (sc := defScope s_law) (by decide +kernel)) (fun _ _ _ _ _ => (pg_tupK (K := K) (n := 2) (by rfl) (pgs_cons (pg_name (i := 10) sc.nd rfl (Or.inl rfl)) (pgs_cons (pg_name (i := 11) sc.nd rfl (Or.inl rfl)) pgs_nil)))) (fun _ _ _ _ _ => pts_nil) (fun _ _ _ _ _ => (pe_op op_addA (pe_callTy call_str_int rfl BL.str (by decide +kernel) (pa_cons (pv 10) pa_nil)) (pe_ix (ix_any (K := K)) pe_str (pv 11) (fun _ _ => rfl)))))
      (pss_cons (ps_set (i := 5) sc.nd rfl (Or.inl rfl) (pe_joinK (K := K) pe_str (pe_op op_addA (pv 4) (pe_op op_mulA (pe_lst (pa_cons pe_str pa_nil)) (pe_op op_mod (pe_fn0 G__law_cell_at (hr.mono (by omega)) (pa_cons (pv 0) (pa_cons pe_int pa_nil))) pe_int)))))
      (pss_cons (ps_for PassesOwn.never rfl (pi_range1 rfl BL.range (pa_cons (pe_op op_addA pe_int (pe_op op_mod (pe_fn0 G__law_cell_at (hr.mono (by omega)) (pa_cons (pv 0) (pa_cons pe_int pa_nil))) pe_int)) pa_nil)) (pg_name (i := 6) sc.nd rfl (Or.inl rfl))
      (pss_one (ps_set (i := 5) sc.nd rfl (Or.inl rfl) (pe_fn0 G__law_spoilt (hr.mono (by omega)) (pa_cons (pv 5) (pa_cons (pe_fn0 G__law_cell_at (hr.mono (by omega)) (pa_cons (pv 0) (pa_cons (pe_op op_addA pe_int (pv 6)) pa_nil))) pa_nil))))))
      (pss_cons (ps_set (i := 7) sc.nd rfl (Or.inl rfl) (pe_fn0 G__law_due (hr.mono (by omega)) (pa_cons (pv 5) (pa_cons (pv 1) (pa_cons (pv 2) pa_nil)))))
      (pss_cons (ps_for PassesOwn.never rfl (pi_range1 rfl BL.range (pa_cons pe_int pa_nil)) (pg_name (i := 8) sc.nd rfl (Or.inl rfl))
      (pss_cons (ps_set (i := 9) sc.nd rfl (Or.inl rfl) (pe_fn0 G__law_met (hr.mono (by omega)) (pa_cons (pv 3) (pa_cons (pv 5) pa_nil))))
      (pss_one (ps_if (pt_cmpR op_isA (pv 7) pe_non (nomark _))
      (pss_one (ps_if (pt_cmpR op_isNotA (pv 9) pe_bl (nomark _))
      (pss_one (ps_ret pe_bl))
      pss_nil))
      (pss_one (ps_if (PW.pt (pw_or (pt_not (pt_val (pe_callB (call_isiA (K := K)) rfl BL.isinstance (by decide +kernel) (pa_cons (pv 9) (pa_cons (pe_bltn (v := .ty "tuple") rfl BL.tuple (by decide +kernel) rfl) pa_nil))))) (pw_or (pt_cmpR (op_neA (K := K) hr) (pv 9) (pv 7) (nomark _)) (pw_or1 (pt_not (pt_val (pe_fn0 G__law_whole (hr.mono (by omega)) (pa_cons (pe_ix (ix_any (K := K)) (pv 9) pe_int (fun _ _ => rfl)) pa_nil))))))))
      (pss_one (ps_ret pe_bl))
      (pss_one (ps_expr (pe_bmK (K := K) PySem.F.plainAttrs_list PySem.F.slot_list_append PySem.F.type_list_append mt_append (pe_ix (ix_any (K := K)) (pv 9) pe_int (fun _ _ => rfl)) (pa_cons (pe_tup (pa_cons pe_int (pa_cons pe_int pa_nil))) pa_nil))))))))))
      (pss_one (ps_ret pe_bl))))))))), ?_⟩
  walk_at "seq"
  repeat walk_at "rd0"
  refine ⟨a, ns, rfl, hl, fun m c p H1 m3 m13 c1 c4 s1 e1 => ?_⟩
  refine rd_gtup2 (SqT.of e1) rfl ?_
  walk_at "seq"
  repeat walk_at "rd0"
  refine rd_house ⟨m3, m13, c1, c4⟩ fun hp H2 s2 hh2 => ?_
  have s02 := s1.trans s2
  walk_at "seq"
  repeat walk_at "rd0"
  refine ⟨a, ns, 2, m, c, 12, rfl, s02.seq hl, by omega, m13, c1, c4, by decide, by decide, fun hd0 H3 us h nh s3 e3 hts dr => ?_⟩
  have t12 : h.length ≤ 12 := dr.len
  have g : ∀ t ∈ h, InHouse 13 4 t := fun t ht => by
    obtain ⟨a1, a2, a3, a4⟩ := (dr.good t ht).1
    exact ⟨a1, by omega, a3, by omega⟩
  repeat walk_at "rd0"
  refine rd_itl (SqL.of e3) ?_
  refine comp_list (K := K) (α := Str) (f := fun t : Tile => some (wordS t)) (SqL.of e3) hts.length (by omega) (fun i v t H2 hv ht2 s2 Rk Rn hkk _ => ?_) fun d H4 ws nd s4 e4 h4 => ?_
  · obtain ⟨t2, ht, hvt⟩ := hts.getV hv
    rw [ht2] at ht
    cases ht
    obtain ⟨tb, rfl, etb⟩ := tile_of (hvt.same s2)
    obtain ⟨g1, g2, g3, g4⟩ := g t (List.mem_of_getElem? ht2)
    repeat walk_at "rd0"
    refine rd_gtup2 etb rfl ?_
    repeat walk_at "rd0"
    refine ⟨rfl, ?_⟩
    repeat walk_at "rd0"
    refine ⟨t.1, rfl, log2_small (by omega), ?_⟩
    repeat walk_at "rd0"
    refine rd_ixS' (c := 97 + t.2.toNat) (by decide +kernel) (at_abcd g3 g4) ?_
    refine rd_addSS ?_ ?_
    · have := num_len (n := t.1) (by omega) g2
      show (Str.ofString (toString t.1)).length + 1 ≤ 1000000
      omega
    exact hkk _ _ _ rfl (Same.refl _) (hd_str _)
  rw [map_some] at h4
  have hw := hds_str_eq h4
  rw [hw] at e4
  have s03 := s02.trans s3
  have s04 := s03.trans s4
  have lm : (h.map wordS).length = h.length := List.length_map ..
  walk_at "nx"
  repeat walk_at "rd0"
  walk_at "seq"
  repeat walk_at "rd0"
  refine rd_newO fun l5 H5 n5 s5 e5 _ => ?_
  have s05 := s04.trans s5
  repeat walk_at "rd0"
  refine ⟨a, ns, 1, rfl, s05.seq hl, ?_⟩
  repeat walk_at "rd0"
  refine rd_I (by decide) ?_
  have bj := emod_box (cellAt ns 1) (m := 3) (by decide)
  generalize cellAt ns 1 % 3 = j at bj
  refine rd_rep e5 (by omega) (by omega) (by simp; omega) fun l6 H6 n6 s6 e6 => ?_
  rw [reps_str] at e6
  refine rd_addL ((s5.trans s6) _ _ e4) e6 ?_ fun l7 H7 n7 s7 e7 _ => ?_
  · rw [List.length_map, List.length_map, List.length_map, List.length_replicate]
    exact Nat.le_of_lt (small1000 (by omega))
  rw [← List.map_append] at e7
  have s07 := (s05.trans s6).trans s7
  obtain ⟨zs, hzs⟩ : ∃ zs, zs = h.map wordS ++ List.replicate j.toNat (Str.ofString "*") := ⟨_, rfl⟩
  rw [← hzs] at e7
  have lz : zs.length ≤ 14 := by
    rw [hzs, List.length_append, List.length_map, List.length_replicate]
    omega
  have b : (zs.map (·.length)).sum ≤ zs.length * 3 := sum_len fun u hu => by
    rw [hzs] at hu
    rcases List.mem_append.mp hu with mu | mu
    · obtain ⟨t, ht, e⟩ := List.mem_map.mp mu
      rw [← e, len_tl, tl_wordS (g t ht)]
      exact (word_ok (g t ht)).len
    · rw [List.eq_of_mem_replicate mu]
      decide +kernel
  refine ⟨_, l7, zs, rfl, rfl, .inl (SqL.of e7), ?_, ?_⟩
  · have : (Str.ofString " ").length = 1 := by decide +kernel
    rw [this]
    omega
  have jl := join_len zs
  generalize Txt.join (Str.ofString " ") zs = x0 at jl
  have lx0 : x0.length ≤ 60 := by omega
  walk_at "nx"
  repeat walk_at "rd0"
  walk_at "seq"
  repeat walk_at "rd0"
  refine ⟨a, ns, 20, rfl, s07.seq hl, ?_⟩
  repeat walk_at "rd0"
  refine rd_I (by decide) ?_
  have bk := emod_box (cellAt ns 20) (m := 2) (by decide)
  generalize cellAt ns 20 % 2 = k2 at bk
  repeat walk_at "rd0"
  refine rd_itr1 (by omega) (by omega) ?_
  refine loop_range (lo := 0) (fun i σ H' => ∃ (v6 : Option V) (x : Str), σ = [some (.ref a), some (.int m), some (.int c), some (.ref hp), some (.ref d), some (.str x), v6, none, none, none, none, none] ∧ Same H7 H' ∧ x.length ≤ 276 ∧ (i = 0 → x.length ≤ 60) ∧ (i = 1 → x.length ≤ 132)) ⟨none, x0, rfl, Same.refl _, by omega, fun _ => lx0, fun _ => by omega⟩ ?_ ?_
  · rintro i σ H8 hi ⟨v6, x, rfl, s8, l276, l60, l132⟩
    have i2 : i = 0 ∨ i = 1 := by omega
    repeat walk_at "rd1"
    refine ⟨a, ns, 21 + i, ?_, (s07.trans s8).seq hl, ?_⟩
    · rcases i2 with rfl | rfl <;> rfl
    refine ⟨x, _, rfl, by omega, fun y H9 ly s9 => ?_⟩
    repeat walk_at "rd1"
    refine ⟨_, y, rfl, s8.trans s9, ?_, fun z => absurd z (Nat.succ_ne_zero _), fun z => ?_⟩
    · rcases i2 with e | e
      · have := l60 e
        omega
      · have := l132 e
        omega
    · have := l60 (by omega)
      omega
  rintro σ H8 ⟨v6, x, rfl, s8, l276, _, _⟩
  have s28 := ((((s3.trans s4).trans s5).trans s6).trans s7).trans s8
  have hh8 := hh2.same s28
  walk_at "nx"
  repeat walk_at "rd0"
  walk_at "seq"
  repeat walk_at "rd0"
  refine ⟨m, c, x, rfl, by omega, m13, c1, c4, by omega, fun rn H9 s9 => ?_, fun hd j9 rs da db H9 wd nb s9 ea eb hwd => ?_⟩
  · have hh9 := hh8.same s9
    repeat walk_at "rd1"
    refine rd_itr1 (by decide) (by decide) ?_
    refine loop_range (n := 2) (fun i σ H' => ∃ (v8 v9 : Option V), σ = [some (.ref a), some (.int m), some (.int c), some (.ref hp), some (.ref d), some (.str x), v6, some .non, v8, v9, none, none] ∧ Same H9 H') ⟨none, none, rfl, Same.refl _⟩ ?_ ?_
    · rintro i σ H10 hi ⟨v8, v9, rfl, s10⟩
      repeat walk_at "rd1"
      refine ⟨hp, m, c, x, rfl, hh9.same s10, by omega, fun _ H11 s11 => ?_, fun h j e => absurd e (by rw [rn]; simp)⟩
      repeat walk_at "rd1"
      refine rd_isN ?_
      repeat walk_at "rd1"
      refine ite_d (fun _ => ?_) (fun n => absurd rfl n)
      repeat walk_at "rd1"
      refine rd_isNotB ?_
      repeat walk_at "rd1"
      refine ite_nd (fun _ => ?_) (fun n => absurd rfl n)
      repeat walk_at "rd1"
      exact ⟨_, _, rfl, s10.trans s11⟩
    · rintro σ H10 ⟨v8, v9, rfl, s10⟩
      repeat walk_at "rd1"
      exact q _
  · have hh9 := hh8.same s9
    have h12 : hd.length ≤ 12 := by
      unfold readF at rs
      by_cases e : tl x = [45]
      · rw [if_pos e] at rs
        cases rs
        decide
      · rw [if_neg e] at rs
        generalize (stripR (TL.spl [32] 0 [] (tl x)).reverse).1.reverse = ws9 at rs
        unfold readW at rs
        cases eh : handOf ws9 with
        | none => rw [eh] at rs; cases rs
        | some h9 =>
          rw [eh] at rs
          dsimp only at rs
          by_cases y : IsHand m c h9 (((stripR (TL.spl [32] 0 [] (tl x)).reverse).2 : Nat) : Int)
          · rw [if_pos y] at rs
            cases rs
            exact y.1
          · rw [if_neg y] at rs
            cases rs
    repeat walk_at "rd1"
    refine rd_itr1 (by decide) (by decide) ?_
    refine loop_range (n := 2) (fun i σ H' => ∃ (v8 v9 : Option V), σ = [some (.ref a), some (.int m), some (.int c), some (.ref hp), some (.ref d), some (.str x), v6, some (.ref da), v8, v9, none, none] ∧ Same H9 H') ⟨none, none, rfl, Same.refl _⟩ ?_ ?_
    · rintro i σ H10 hi ⟨v8, v9, rfl, s10⟩
      repeat walk_at "rd1"
      refine ⟨hp, m, c, x, rfl, hh9.same s10, by omega, fun n => absurd n (by rw [rs]; simp), fun h3 j3 e3 t r H11 w11 nr s11 et er hw => ?_⟩
      rw [rs] at e3
      cases e3
      have s911 := s10.trans s11
      repeat walk_at "rd1"
      refine rd_isN ?_
      repeat walk_at "rd1"
      refine ite_d (fun n => nomatch n) (fun _ => ?_)
      repeat walk_at "rd1"
      refine rd_isiT (tyx_tup (SqT.of et)) ?_
      repeat walk_at "rd1"
      refine rd_neD (α := List Tile × Int) (by decide) (hd_pair et (hd_list er hw) (hd_int _)) (hd_pair (s911 _ _ ea) (hd_list (s911 _ _ eb) (hwd.same s911)) (hd_int _)) ?_
      repeat walk_at "rd1"
      refine ite_nd (fun _ => ?_) (fun n => absurd rfl n)
      repeat walk_at "rd1"
      refine rd_ixT (SqT.of et) (v := .int ((j9 : Nat) : Int)) rfl ?_
      repeat walk_at "rd1"
      refine ⟨_, rfl, ?_⟩
      repeat walk_at "rd1"
      refine rd_ixT (SqT.of et) (v := .ref r) rfl ?_
      refine ⟨tyV_list (SqL.of er), ?_⟩
      repeat walk_at "rd1"
      refine rd_newO fun t17 H17 _ s17 e17 _ => ?_
      repeat walk_at "rd1"
      refine rd_append (s17 _ _ er) (by rw [hw.length]; omega) ?_
      exact ⟨_, _, rfl, s10.trans (Same.mut (s11.trans s17) nr)⟩
    · rintro σ H10 ⟨v8, v9, rfl, s10⟩
      repeat walk_at "rd1"
      exact q _
end
end MH
namespace MH
open PySem L2
/-! what the top has written, and the law -/
theorem all_mk {l : PySem.W.OpenLaw} {w : World} {K : PySem.W.Frag} {h : Heap} {mg : Str → Option Value} {fa C XBadHouse XBadNote XMeldError f_House_has f_House___init__ f_is_hand f_tile_of f_read f__law_cell_at f__law_mix f__law_whole f__law_house_by f__law_trimmed f__law_hand_by f__law_spoilt f__law_tile f__law_due f__law_met f_law : Addr} (X : K.In h) (G : h.Ns mainGlobals mg) (hfa : mg "law" = some (.ref fa))
    (hC : HouseCls K C)
    (hB : BlAt K)
    (hK : KsAt K)
    (hL : KlAt K)
    (xBadHouse : XcAt K "BadHouse" XBadHouse)
    (xBadNote : XcAt K "BadNote" XBadNote)
    (xMeldError : XcAt K "MeldError" XMeldError)
    (hn : PySem.W.specialIn K (.builtin "object.__class__") "__get__" = some (some (.builtin "getset_descriptor.__get__")))
    (ht : PySem.W.takesIn K (.builtin "object.__class__") = some true)
    (iM_ : PySem.W.subIn K (.ref XBadNote) (.ref XMeldError) = some true)
    (iV_ : PySem.W.subIn K (.ref XBadNote) (.type "ValueError") = some true)
    (d_House_has : MethAt K C "has" "House.has" s_House_has f_House_has)
    (d_House___init__ : MethAt K C "__init__" "House.__init__" s_House___init__ f_House___init__)
    (d_is_hand : DefAt K "is_hand" s_is_hand f_is_hand)
    (d_tile_of : DefAt K "tile_of" s_tile_of f_tile_of)
    (d_read : DefAt K "read" s_read f_read)
    (d__law_cell_at : DefAt K "_law_cell_at" s__law_cell_at f__law_cell_at)
    (d__law_mix : DefAt K "_law_mix" s__law_mix f__law_mix)
    (d__law_whole : DefAt K "_law_whole" s__law_whole f__law_whole)
    (d__law_house_by : DefAt K "_law_house_by" s__law_house_by f__law_house_by)
    (d__law_trimmed : DefAt K "_law_trimmed" s__law_trimmed f__law_trimmed)
    (d__law_hand_by : DefAt K "_law_hand_by" s__law_hand_by f__law_hand_by)
    (d__law_spoilt : DefAt K "_law_spoilt" s__law_spoilt f__law_spoilt)
    (d__law_tile : DefAt K "_law_tile" s__law_tile f__law_tile)
    (d__law_due : DefAt K "_law_due" s__law_due f__law_due)
    (d__law_met : DefAt K "_law_met" s__law_met f__law_met)
    (d_law : DefAt K "law" s_law f_law) :
    ∃ fd : FuncData, (∀ (s : Shared) (v : Value), BindsTo s fd ⟨[v], []⟩ [("script", v)]) ∧ ∀ base : Heap, K.In base → base.Ns mainGlobals mg → FnOk l.prog w K mg base CX0 5 fa fd ["script"] (spLaw K) := by
  have HS := hC.hs
  have BL := hB.bl X G
  have KC := ks_of X G hK
  have KL := kl_of X G hL
  have XC_BadHouse := xBadHouse.xc X G
  have XC_BadNote := xBadNote.xc X G
  have XC_MeldError := xMeldError.xc X G
  have XD : Xd K := ⟨hn, ht⟩
  have iM := kit_ref xMeldError.i xMeldError.t xMeldError.self iM_
  have iV := kit_ve iV_
  obtain ⟨a_House_has, i_House_has, _, _, _, _, _, _, _, _, _, l_House_has, c_House_has, k_House_has⟩ := d_House_has
  have F_House_has := fun_mk (st := s_House_has) l_House_has c_House_has k_House_has
  have B_House_has := F_House_has.binds (ps := ["self", "number", "colour"]) fun _ _ _ _ _ _ us hl => match us, hl with | [_, _, _], _ => rfl
  obtain ⟨a_House___init__, i_House___init__, _, _, _, _, _, _, _, _, _, l_House___init__, c_House___init__, k_House___init__⟩ := d_House___init__
  have F_House___init__ := fun_mk (st := s_House___init__) l_House___init__ c_House___init__ k_House___init__
  have B_House___init__ := F_House___init__.binds (ps := ["self", "most", "colours"]) fun _ _ _ _ _ _ us hl => match us, hl with | [_, _, _], _ => rfl
  obtain ⟨a_is_hand, oc, od, kV, dc, pm, an, cd, ct, sl, l_is_hand, c_is_hand, k_is_hand⟩ := d_is_hand
  have F_is_hand := fun_mk (st := s_is_hand) l_is_hand c_is_hand k_is_hand
  have B_is_hand := F_is_hand.binds (ps := ["house", "hand", "jokers"]) fun _ _ _ _ _ _ us hl => match us, hl with | [_, _, _], _ => rfl
  obtain ⟨a_tile_of, oc, od, kV, dc, pm, an, cd, ct, sl, l_tile_of, c_tile_of, k_tile_of⟩ := d_tile_of
  have F_tile_of := fun_mk (st := s_tile_of) l_tile_of c_tile_of k_tile_of
  have B_tile_of := F_tile_of.binds (ps := ["word"]) fun _ _ _ _ _ _ us hl => match us, hl with | [_], _ => rfl
  obtain ⟨a_read, oc, od, kV, dc, pm, an, cd, ct, sl, l_read, c_read, k_read⟩ := d_read
  have F_read := fun_mk (st := s_read) l_read c_read k_read
  have B_read := F_read.binds (ps := ["house", "text"]) fun _ _ _ _ _ _ us hl => match us, hl with | [_, _], _ => rfl
  obtain ⟨a__law_cell_at, oc, od, kV, dc, pm, an, cd, ct, sl, l__law_cell_at, c__law_cell_at, k__law_cell_at⟩ := d__law_cell_at
  have F__law_cell_at := fun_mk (st := s__law_cell_at) l__law_cell_at c__law_cell_at k__law_cell_at
  have B__law_cell_at := F__law_cell_at.binds (ps := ["script", "k"]) fun _ _ _ _ _ _ us hl => match us, hl with | [_, _], _ => rfl
  obtain ⟨a__law_mix, oc, od, kV, dc, pm, an, cd, ct, sl, l__law_mix, c__law_mix, k__law_mix⟩ := d__law_mix
  have F__law_mix := fun_mk (st := s__law_mix) l__law_mix c__law_mix k__law_mix
  have B__law_mix := F__law_mix.binds (ps := ["cell", "k", "many"]) fun _ _ _ _ _ _ us hl => match us, hl with | [_, _, _], _ => rfl
  obtain ⟨a__law_whole, oc, od, kV, dc, pm, an, cd, ct, sl, l__law_whole, c__law_whole, k__law_whole⟩ := d__law_whole
  have F__law_whole := fun_mk (st := s__law_whole) l__law_whole c__law_whole k__law_whole
  have B__law_whole := F__law_whole.binds (ps := ["found"]) fun _ _ _ _ _ _ us hl => match us, hl with | [_], _ => rfl
  obtain ⟨a__law_house_by, oc, od, kV, dc, pm, an, cd, ct, sl, l__law_house_by, c__law_house_by, k__law_house_by⟩ := d__law_house_by
  have F__law_house_by := fun_mk (st := s__law_house_by) l__law_house_by c__law_house_by k__law_house_by
  have B__law_house_by := F__law_house_by.binds (ps := ["script"]) fun _ _ _ _ _ _ us hl => match us, hl with | [_], _ => rfl
  obtain ⟨a__law_trimmed, oc, od, kV, dc, pm, an, cd, ct, sl, l__law_trimmed, c__law_trimmed, k__law_trimmed⟩ := d__law_trimmed
  have F__law_trimmed := fun_mk (st := s__law_trimmed) l__law_trimmed c__law_trimmed k__law_trimmed
  have B__law_trimmed := F__law_trimmed.binds (ps := ["tiles", "limit"]) fun _ _ _ _ _ _ us hl => match us, hl with | [_, _], _ => rfl
  obtain ⟨a__law_hand_by, oc, od, kV, dc, pm, an, cd, ct, sl, l__law_hand_by, c__law_hand_by, k__law_hand_by⟩ := d__law_hand_by
  have F__law_hand_by := fun_mk (st := s__law_hand_by) l__law_hand_by c__law_hand_by k__law_hand_by
  have B__law_hand_by := F__law_hand_by.binds (ps := ["script", "start", "most", "colours", "limit"]) fun _ _ _ _ _ _ us hl => match us, hl with | [_, _, _, _, _], _ => rfl
  obtain ⟨a__law_spoilt, oc, od, kV, dc, pm, an, cd, ct, sl, l__law_spoilt, c__law_spoilt, k__law_spoilt⟩ := d__law_spoilt
  have F__law_spoilt := fun_mk (st := s__law_spoilt) l__law_spoilt c__law_spoilt k__law_spoilt
  have B__law_spoilt := F__law_spoilt.binds (ps := ["text", "cell"]) fun _ _ _ _ _ _ us hl => match us, hl with | [_, _], _ => rfl
  obtain ⟨a__law_tile, oc, od, kV, dc, pm, an, cd, ct, sl, l__law_tile, c__law_tile, k__law_tile⟩ := d__law_tile
  have F__law_tile := fun_mk (st := s__law_tile) l__law_tile c__law_tile k__law_tile
  have B__law_tile := F__law_tile.binds (ps := ["word", "most", "colours"]) fun _ _ _ _ _ _ us hl => match us, hl with | [_, _, _], _ => rfl
  obtain ⟨a__law_due, oc, od, kV, dc, pm, an, cd, ct, sl, l__law_due, c__law_due, k__law_due⟩ := d__law_due
  have F__law_due := fun_mk (st := s__law_due) l__law_due c__law_due k__law_due
  have B__law_due := F__law_due.binds (ps := ["text", "most", "colours"]) fun _ _ _ _ _ _ us hl => match us, hl with | [_, _, _], _ => rfl
  obtain ⟨a__law_met, oc, od, kV, dc, pm, an, cd, ct, sl, l__law_met, c__law_met, k__law_met⟩ := d__law_met
  have F__law_met := fun_mk (st := s__law_met) l__law_met c__law_met k__law_met
  have B__law_met := F__law_met.binds (ps := ["house", "text"]) fun _ _ _ _ _ _ us hl => match us, hl with | [_, _], _ => rfl
  obtain ⟨a_law, oc, od, kV, dc, pm, an, cd, ct, sl, l_law, c_law, k_law⟩ := d_law
  have F_law := fun_mk (st := s_law) l_law c_law k_law
  have e := hfa.symm.trans (PySem.W.mg_of X G a_law)
  cases e
  refine ⟨PySem.W.fnOf "law" "law" (defArgs s_law) (defBody s_law) (defScope s_law) .none kV dc pm an cd ct, fun s v => .of_eq rfl, fun base _ _ => ?_⟩
  have G_has : Mth l.prog w K mg base C 1 "has" ["self", "number", "colour"] ((spHas C)) := ⟨_, _, ok_has F_House_has HS, ⟨a_House_has, i_House_has, k_House_has⟩, B_House_has⟩
  have G_House : Maker l.prog w K mg base C 1 "House" ["self", "most", "colours"] ((spInit C XBadHouse)) := ⟨_, _, ok_init F_House___init__ HS XC_BadHouse, ⟨hC.mks, a_House___init__, i_House___init__, hC.kc⟩, PySem.W.mg_of X G hC.a, B_House___init__⟩
  have G_is_hand : Fn l.prog w K mg base CX0 2 "is_hand" ["house", "hand", "jokers"] ((spIsHand K C)) := ⟨_, _, ok_is_hand F_is_hand BL KC HS G_has, PySem.W.mg_of X G a_is_hand, k_is_hand, B_is_hand⟩
  have G_tile_of : Fn l.prog w K mg base (L2.CX l.prog w) 1 "tile_of" ["word"] ((spTileOf XBadNote)) := ⟨_, _, ok_tile_of F_tile_of BL KL XC_BadNote, PySem.W.mg_of X G a_tile_of, k_tile_of, B_tile_of⟩
  have G_read : Fn l.prog w K mg base (L2.CX l.prog w) 3 "read" ["house", "text"] ((spRead K C XBadNote)) := ⟨_, _, ok_read F_read BL XC_BadNote G_tile_of G_is_hand, PySem.W.mg_of X G a_read, k_read, B_read⟩
  have G__law_cell_at : Fn l.prog w K mg base CX0 1 "_law_cell_at" ["script", "k"] ((spCellAt K)) := ⟨_, _, ok_cell_at F__law_cell_at BL, PySem.W.mg_of X G a__law_cell_at, k__law_cell_at, B__law_cell_at⟩
  have G__law_mix : Fn l.prog w K mg base CX0 1 "_law_mix" ["cell", "k", "many"] (spMix) := ⟨_, _, ok_mix F__law_mix, PySem.W.mg_of X G a__law_mix, k__law_mix, B__law_mix⟩
  have G__law_whole : Fn l.prog w K mg base CX0 1 "_law_whole" ["found"] (spWhole) := ⟨_, _, ok_whole F__law_whole BL, PySem.W.mg_of X G a__law_whole, k__law_whole, B__law_whole⟩
  have G__law_house_by : Fn l.prog w K mg base CX0 2 "_law_house_by" ["script"] ((spHouseBy K)) := ⟨_, _, ok_house_by F__law_house_by G__law_cell_at G__law_mix, PySem.W.mg_of X G a__law_house_by, k__law_house_by, B__law_house_by⟩
  have G__law_trimmed : Fn l.prog w K mg base CX0 1 "_law_trimmed" ["tiles", "limit"] ((spTrimmed K)) := ⟨_, _, ok_trimmed F__law_trimmed BL, PySem.W.mg_of X G a__law_trimmed, k__law_trimmed, B__law_trimmed⟩
  have G__law_hand_by : Fn l.prog w K mg base CX0 2 "_law_hand_by" ["script", "start", "most", "colours", "limit"] ((spHandBy K)) := ⟨_, _, ok_hand_by F__law_hand_by BL G__law_cell_at G__law_mix G__law_trimmed, PySem.W.mg_of X G a__law_hand_by, k__law_hand_by, B__law_hand_by⟩
  have G__law_spoilt : Fn l.prog w K mg base CX0 2 "_law_spoilt" ["text", "cell"] (spSpoilt) := ⟨_, _, ok_spoilt F__law_spoilt BL G__law_mix, PySem.W.mg_of X G a__law_spoilt, k__law_spoilt, B__law_spoilt⟩
  have G__law_tile : Fn l.prog w K mg base CX0 1 "_law_tile" ["word", "most", "colours"] (spLawTile) := ⟨_, _, ok_law_tile F__law_tile BL, PySem.W.mg_of X G a__law_tile, k__law_tile, B__law_tile⟩
  have G__law_due : Fn l.prog w K mg base CX0 2 "_law_due" ["text", "most", "colours"] ((spLawDue K)) := ⟨_, _, ok_law_due F__law_due BL G__law_tile, PySem.W.mg_of X G a__law_due, k__law_due, B__law_due⟩
  have G__law_met : Fn l.prog w K mg base CX0 4 "_law_met" ["house", "text"] ((spMet K C)) := ⟨_, _, ok_met10 F__law_met BL XD XC_BadNote XC_MeldError iM iV G_read, PySem.W.mg_of X G a__law_met, k__law_met, B__law_met⟩
  exact ok_law F_law BL HS G__law_cell_at G__law_whole G__law_house_by G__law_hand_by G__law_spoilt G__law_due G__law_met G_House
theorem walk {l : PySem.W.OpenLaw} {q : Program} {loose : List Str} {XP : (Str → Option Value) → Heap → Prop} {YP : World → Heap → Prop} {d : DefRec} {K : Params → PySem.W.Frag} (hn : l.most = some 63) (hdf : d.params.defaults = [])
    (hY : ∀ (w : World) (h : Heap), YP w h → (K w.params).In h)
    (F : ∀ (w : World) (mg : Str → Option Value) (fa : Addr) (h : Heap), (K w.params).In h → h.Ns mainGlobals mg → mg d.name = some (.ref fa) →
      ∃ fd : FuncData, (∀ (s : Shared) (u : Value), BindsTo s fd ⟨[u], []⟩ [("script", u)]) ∧ ∀ base : Heap, (K w.params).In base → base.Ns mainGlobals mg → FnOk l.prog w (K w.params) mg base CX0 5 fa fd ["script"] (spLaw (K w.params))) :
    PySem.W.WalkO q loose XP YP l.row.toRowW d [] (fun f vs => PySem.call f vs) :=
  L2.walk_of (n := 63) (k := 5) (x := "script") (CX := fun _ => CX0) (sp := fun w => spLaw (K w.params)) hn (by decide) hdf ⟨rfl, by decide, by decide⟩ hY F (fun _ _ a ns hl _ hS => ⟨a, ns, rfl, hS, fun _ => rfl⟩) fun _ _ _ _ _ z => z
end MH
open PySem PySem.W PyProof.Rows
set_option maxRecDepth 100000 in
set_option maxHeartbeats 0 in
theorem PySem.Challenge.cw_meldhouse_k10_texts_read_holds : PySem.Challenge.rw_meldhouse_k10_texts_read.Holds := by
  w_on; o_law; k_head; (case hw => w_witness2)
  k_fill
  refine MH.walk (l := PySem.Challenge.rw_meldhouse_k10_texts_read) rfl rfl (fun w h Y => PySem.W.kIn_of Y) ?F
  case F =>
    intro w mg fa h KX G hmg
    refine' MH.all_mk KX G hmg ?hC ?hB ?hK ?hL ?xBadHouse ?xBadNote ?xMeldError ?hn ?ht ?iM_ ?iV_ ?d_House_has ?d_House___init__ ?d_is_hand ?d_tile_of ?d_read ?d__law_cell_at ?d__law_mix ?d__law_whole ?d__law_house_by ?d__law_trimmed ?d__law_hand_by ?d__law_spoilt ?d__law_tile ?d__law_due ?d__law_met ?d_law
    (case hC => refine' ⟨?h1, ?h2, ?h3, ?h4, ?h5, ?h6, ?h7, ?h8, ?h9⟩; (case h1 => k_is); (case h2 => k_is); (case h3 => k_is); (case h4 => k_is); (case h5 => k_is); (case h6 => k_is); (case h7 => k_is); (case h8 => k_is); (case h9 => k_is))
    (case hB => refine' ⟨?h1, ?h2, ?h3, ?h4, ?h5, ?h6, ?h7, ?h8, ?h9, ?h10, ?h11, ?h12, ?h13, ?h14, ?h15, ?h16, ?h17⟩; (case h1 => k_is); (case h2 => k_is); (case h3 => k_is); (case h4 => k_is); (case h5 => k_is); (case h6 => k_is); (case h7 => k_is); (case h8 => k_is); (case h9 => k_is); (case h10 => k_is); (case h11 => k_is); (case h12 => k_is); (case h13 => k_is); (case h14 => k_is); (case h15 => k_is); (case h16 => k_is); (case h17 => k_is))
    (case hK => refine' MH.ks_at ?h1 ?h2; (case h1 => k_is); (case h2 => k_is))
    (case hL => refine' MH.kl_at ?h1; (case h1 => k_is))
    (case xBadHouse => refine' ⟨?h1, ?h2, ?h3, ?h4, ?h5, ?h6, ?h7, ?h8, ?h9, ?h10, ?h11, ?h12⟩; (case h1 => k_is); (case h2 => k_exc); (case h3 => k_is); (case h4 => k_is); (case h5 => k_is); (case h6 => k_is); (case h7 => k_is); (case h8 => k_is); (case h9 => k_is); (case h10 => k_is); (case h11 => k_is); (case h12 => k_is))
    (case xBadNote => refine' ⟨?h1, ?h2, ?h3, ?h4, ?h5, ?h6, ?h7, ?h8, ?h9, ?h10, ?h11, ?h12⟩; (case h1 => k_is); (case h2 => k_exc); (case h3 => k_is); (case h4 => k_is); (case h5 => k_is); (case h6 => k_is); (case h7 => k_is); (case h8 => k_is); (case h9 => k_is); (case h10 => k_is); (case h11 => k_is); (case h12 => k_is))
    (case xMeldError => refine' ⟨?h1, ?h2, ?h3, ?h4, ?h5, ?h6, ?h7, ?h8, ?h9, ?h10, ?h11, ?h12⟩; (case h1 => k_is); (case h2 => k_exc); (case h3 => k_is); (case h4 => k_is); (case h5 => k_is); (case h6 => k_is); (case h7 => k_is); (case h8 => k_is); (case h9 => k_is); (case h10 => k_is); (case h11 => k_is); (case h12 => k_is))
    (case hn => k_is)
    (case ht => k_is)
    (case iM_ => k_is)
    (case iV_ => k_is)
    (case d_House_has => refine' MH.meth_at ?a ?i ?l ?c ?k; (case a => k_is); (case i => k_is); (case l => k_is); (case c => k_is); (case k => k_is))
    (case d_House___init__ => refine' MH.meth_at ?a ?i ?l ?c ?k; (case a => k_is); (case i => k_is); (case l => k_is); (case c => k_is); (case k => k_is))
    (case d_is_hand => refine' MH.def_at ?a ?l ?c ?k; (case a => k_is); (case l => k_is); (case c => k_is); (case k => k_is))
    (case d_tile_of => refine' MH.def_at ?a ?l ?c ?k; (case a => k_is); (case l => k_is); (case c => k_is); (case k => k_is))
    (case d_read => refine' MH.def_at ?a ?l ?c ?k; (case a => k_is); (case l => k_is); (case c => k_is); (case k => k_is))
    (case d__law_cell_at => refine' MH.def_at ?a ?l ?c ?k; (case a => k_is); (case l => k_is); (case c => k_is); (case k => k_is))
    (case d__law_mix => refine' MH.def_at ?a ?l ?c ?k; (case a => k_is); (case l => k_is); (case c => k_is); (case k => k_is))
    (case d__law_whole => refine' MH.def_at ?a ?l ?c ?k; (case a => k_is); (case l => k_is); (case c => k_is); (case k => k_is))
    (case d__law_house_by => refine' MH.def_at ?a ?l ?c ?k; (case a => k_is); (case l => k_is); (case c => k_is); (case k => k_is))
    (case d__law_trimmed => refine' MH.def_at ?a ?l ?c ?k; (case a => k_is); (case l => k_is); (case c => k_is); (case k => k_is))
    (case d__law_hand_by => refine' MH.def_at ?a ?l ?c ?k; (case a => k_is); (case l => k_is); (case c => k_is); (case k => k_is))
    (case d__law_spoilt => refine' MH.def_at ?a ?l ?c ?k; (case a => k_is); (case l => k_is); (case c => k_is); (case k => k_is))
    (case d__law_tile => refine' MH.def_at ?a ?l ?c ?k; (case a => k_is); (case l => k_is); (case c => k_is); (case k => k_is))
    (case d__law_due => refine' MH.def_at ?a ?l ?c ?k; (case a => k_is); (case l => k_is); (case c => k_is); (case k => k_is))
    (case d__law_met => refine' MH.def_at ?a ?l ?c ?k; (case a => k_is); (case l => k_is); (case c => k_is); (case k => k_is))
    (case d_law => refine' MH.def_at ?a ?l ?c ?k; (case a => k_is); (case l => k_is); (case c => k_is); (case k => k_is))
#print axioms PySem.Challenge.cw_meldhouse_k10_texts_read_holds
