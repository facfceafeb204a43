import PyProof.Rows.All
import PySem.Challenge.RW_wholeahead_k06_answers_by_hand
import Wide.All
import OpenK.AllK
import Wide.FinOn
import HandS.ForMost
import HandS.Evl
import HandS.Strs
import HandS.StrMore
import HandS.IsInst
import HandS.Codes
import HandS.Conv
import HandS.Style
import HandS.Defaults
import HandS.HeadEnd
import HandS.HeadHook2
import HandS.Head2
import HandS.Dict
import HandS.SetFor
import HandS.TupSets
import HandS.HeadHook4
import HandS.Steps
import HandS.Walk
import KE.GoesZip
import KE.GoesMore
import HandS.Iter
import KE.SortKeyHeap
import HandS.Lambda
import KE.DataMinMax
import HandS.SortKw
import KE.SortData
import HandS.TupLen
import HandS.HeadHook1
import HandS.HeadWalk
import KE.KStateDown
set_option Elab.async false
set_option linter.all false
set_option maxRecDepth 100000
set_option maxHeartbeats 8000000
namespace WA
open PySem PySem.Spec PyProof.Rows L2 Evl
/-! ### tables as lists of lists of truth values -/
def sg (b : Bool) : Nat := if b then 120 else 45
def s1 (b : Bool) : Str := ⟨#[sg b]⟩
def rs (r : List Bool) : Str := ⟨(r.map sg).toArray⟩
abbrev Tb := List (List Bool)
def tv (T : Tb) : List V := T.map fun r => V.str (rs r)
theorem sg_inj : ∀ {a b : Bool}, sg a = sg b → a = b := by decide
theorem s1_x : ("x" : Str) = s1 true := by decide +kernel
theorem s1_d : ("-" : Str) = s1 false := by decide +kernel
theorem s1_inj {a b : Bool} (h : s1 a = s1 b) : a = b := by
  have e : (s1 a).cps.toList = (s1 b).cps.toList := by rw [h]
  have e2 : [sg a] = [sg b] := e
  exact sg_inj (List.cons.inj e2).1
theorem map_sg_inj : ∀ {a b : List Bool}, a.map sg = b.map sg → a = b
  | [], [], _ => rfl
  | [], _ :: _, h => by cases h
  | _ :: _, [], h => by cases h
  | x :: a, y :: b, h => by
    have h1 := List.cons.inj (show sg x :: a.map sg = sg y :: b.map sg from h)
    rw [sg_inj h1.1, map_sg_inj h1.2]
theorem rs_inj {a b : List Bool} (h : rs a = rs b) : a = b := map_sg_inj (show (rs a).cps.toList = (rs b).cps.toList by rw [h])
theorem rs_len (r : List Bool) : (rs r).length = r.length := by simp [rs, Str.length]
theorem rs_tl (r : List Bool) : (rs r).cps.toList = r.map sg := rfl
theorem tv_len (T : Tb) : (tv T).length = T.length := by unfold tv; rw [List.length_map]
theorem tv_inj : ∀ {a b : Tb}, tv a = tv b → a = b
  | [], [], _ => rfl
  | [], _ :: _, h => by cases h
  | _ :: _, [], h => by cases h
  | x :: a, y :: b, h => by
    have h1 := List.cons.inj (show V.str (rs x) :: tv a = V.str (rs y) :: tv b from h)
    rw [rs_inj (V.str.inj h1.1), tv_inj h1.2]
theorem tv_get {T : Tb} {i : Nat} {r : List Bool} (h : T[i]? = some r) : (tv T)[i]? = some (V.str (rs r)) := by
  unfold tv; rw [List.getElem?_map, h]; rfl
theorem joinL_nil : ∀ l : List (List Nat), TL.joinL [] l = l.flatten
  | [] => rfl
  | [p] => by show p = p ++ []; rw [List.append_nil]
  | p :: q :: r => by
    show p ++ ([] ++ TL.joinL [] (q :: r)) = p ++ (q :: r).flatten
    rw [List.nil_append, joinL_nil (q :: r)]
theorem sum_ones {α : Type} : ∀ bs : List α, (bs.map fun _ => 1).sum = bs.length
  | [] => rfl
  | b :: r => by rw [List.map_cons, List.sum_cons, sum_ones r, List.length_cons, Nat.add_comm]
theorem join_s1 (bs : List Bool) : Txt.join "" (bs.map s1) = rs bs := by
  refine TL.ext_tl ?_
  rw [TL.join_eq, TL.tl_join]
  have e0 : TL.tl ("" : Str) = [] := by decide +kernel
  rw [e0, joinL_nil]
  show _ = bs.map sg
  induction bs with
  | nil => rfl
  | cons b r ih =>
    show [sg b] ++ ((r.map s1).map TL.tl).flatten = sg b :: r.map sg
    rw [ih]; rfl
/-- rectangular: every row of width w -/
def Rect (T : Tb) (w : Nat) : Prop := ∀ r ∈ T, r.length = w
def gt (T : Tb) (i j : Nat) : Bool := (T.getD i []).getD j false
def turn (T : Tb) (w : Nat) : Tb := (List.range w).map fun j => T.map fun r => r.getD j false
theorem turn_len (T : Tb) (w : Nat) : (turn T w).length = w := by unfold turn; rw [List.length_map, List.length_range]
theorem turn_rect (T : Tb) (w : Nat) : Rect (turn T w) T.length := fun r hr => by
  unfold turn at hr
  obtain ⟨j, _, rfl⟩ := List.mem_map.mp hr
  rw [List.length_map]

/-! ### named readings -/
abbrev rAddI : R2 := rI0 fun i j => .int (i + j)
abbrev rSubI : R2 := rI0 fun i j => .int (i - j)
abbrev rMulI : R2 := rI CMul fun i j => .int (i * j)
abbrev rDivI : R2 := rI CDiv fun i j => .int (i / j)
abbrev rModI : R2 := rI (fun _ j => 0 < j) fun i j => .int (i % j)
abbrev rPowI : R2 := rI CPow fun i j => .int (i ^ j.toNat)
abbrev rShrI : R2 := rI (fun _ j => 0 ≤ j) fun i j => .int (i / 2 ^ j.toNat)
abbrev rAndI : R2 := rI0 fun i j => .int (Builtin.bitAnd i j)
abbrev rLtI : R2 := rI0 fun i j => .bl (decide (i < j))
abbrev rLeI : R2 := rI0 fun i j => .bl (decide (i ≤ j))
abbrev rGtI : R2 := rI0 fun i j => .bl (decide (j < i))
abbrev rGeI : R2 := rI0 fun i j => .bl (decide (j ≤ i))
abbrev rNegI : V → Hp → VK → Prop := rU fun i => .int (-i)
def rJoin (K : PySem.W.Frag) : V → List V → Hp → VK → Prop := fun x xs H Q => ∃ a p, ∃ ys : List Str, x = .str a ∧ xs = [.ref p] ∧ (SqL K H p (ys.map V.str) ∨ SqT K H p (ys.map V.str)) ∧
  (ys.map (·.length)).sum + ys.length * a.length ≤ 16777216 ∧ Q (.str (Txt.join a ys)) H
def rStripC : V → List V → Hp → VK → Prop := fun x xs H Q => ∃ a b, x = .str a ∧ xs = [.str b] ∧ a.length ≤ sizeLine ∧ Q (.str (Txt.stripChars a b)) H
def rCountS : V → List V → Hp → VK → Prop := fun x xs H Q => ∃ a b, x = .str a ∧ xs = [.str b] ∧ Q (.int (Txt.count a b)) H
def rLn (K : PySem.W.Frag) : List V → Hp → VK → Prop := fun xs H Q => ∃ x n, xs = [x] ∧ LenV K x H n ∧ Q (.int n) H
def rLs (K : PySem.W.Frag) : List V → Hp → VK → Prop := fun xs H Q => ∃ p ys, xs = [.ref p] ∧ (SqL K H p ys ∨ SqT K H p ys) ∧ ∀ l, H l = none → Q (.ref l) (upd H l (.lst ys))
/-- a + b, two texts -/
def rCatS : R2 := fun x y H Q => ∃ a b : Str, x = .str a ∧ y = .str b ∧ a.length + b.length ≤ sizeLine ∧ Q (.str (a ++ b)) H
section
variable {X : Cx} {o e : Expr} {to te : TE} {apos pos : Pos}
theorem pe_joinR (ho : PE X o to) (he : PE X e te) (hs : starEach [e] X.env = [(false, eval e X.env)] := by rfl) (hbase : attributeBase o "join" X.env (eval o X.env) = eval o X.env := by rfl) (hline : (apos.endLine == pos.line) = true := by rfl) :
    PE X (.Call (.Attribute o "join" apos) [e] [] pos) (tM1 (rJoin X.K) to te) := pe_m1 F.slot_str_join F.type_str_join mt_join ho he hs hbase hline
theorem pe_stripC (ho : PE X o to) (he : PE X e te) (hs : starEach [e] X.env = [(false, eval e X.env)] := by rfl) (hbase : attributeBase o "strip" X.env (eval o X.env) = eval o X.env := by rfl) (hline : (apos.endLine == pos.line) = true := by rfl) :
    PE X (.Call (.Attribute o "strip" apos) [e] [] pos) (tM1 rStripC to te) := pe_m1 F.slot_str_strip F.type_str_strip mt_stripChars ho he hs hbase hline
theorem pe_countS (ho : PE X o to) (he : PE X e te) (hs : starEach [e] X.env = [(false, eval e X.env)] := by rfl) (hbase : attributeBase o "count" X.env (eval o X.env) = eval o X.env := by rfl) (hline : (apos.endLine == pos.line) = true := by rfl) :
    PE X (.Call (.Attribute o "count" apos) [e] [] pos) (tM1 rCountS to te) := pe_m1 F.slot_str_count F.type_str_count mt_count ho he hs hbase hline
theorem cl_len : CallR X (.builtin "len") (rLn X.K) := call_len
theorem cl_list : CallR X (.type "list") (rLs X.K) := call_list_of
theorem op_catS : OpR X (binaryOp .Add) rCatS := op_add_str
end

/-! ### evaluation: a reference to a sequence -/
/-- evaluates to a list that reads xs (new or old) -/
def EvS (K : PySem.W.Frag) (te : TE) (σ : L2.St) (H : Hp) (xs : List V) : Prop := ∀ H1, Ex H H1 → ∀ Q : VK, (∀ p H2, Ex H1 H2 → SqL K H2 p xs → Q (.ref p) H2) → te σ H1 Q
section
variable {K : PySem.W.Frag} {σ : L2.St} {H H' : Hp} {ta tb te tx : TE} {t u : TT} {x y z v : V} {r : R2} {xs ys : List V}
theorem EvL.s (h : EvL te σ H xs) : EvS K te σ H xs := fun H1 e Q q => h H1 e Q fun p H2 _ e2 hp => q p H2 e2 (sq_of hp)
theorem Ev.s {a : Addr} (h : Ev te σ H (.ref a)) (hs : SqL K H a xs) : EvS K te σ H xs := fun H1 e Q q => h H1 e Q fun H2 e2 => q a H2 e2 (ex_l (e.trans e2) hs)
theorem evs_var {i : Nat} {a : Addr} (h : σ[i]? = some (some (.ref a))) (hs : SqL K H a xs) : EvS K (tVar i) σ H xs := Ev.s (ev_var h) hs
theorem EvS.mono (e : Ex H H') (h : EvS K te σ H xs) : EvS K te σ H' xs := fun H1 a Q q => h H1 (e.trans a) Q q
theorem EvS.is {ys : List V} (h : EvS K te σ H xs) (e : xs = ys) : EvS K te σ H ys := e ▸ h
theorem EvL.is {ys : List V} (h : EvL te σ H xs) (e : xs = ys) : EvL te σ H ys := e ▸ h
/-- len -/
theorem ev_lenS (h : EvS K te σ H xs) : Ev (tCB (rLn K) (tCons te tNil)) σ H (.int (xs.length : Nat)) := fun H1 e Q q =>
  h H1 e _ fun p H2 e2 hp => ⟨.ref p, xs.length, rfl, .inl ⟨xs, hp, rfl⟩, q H2 e2⟩
theorem ev_lenT {a : Str} (h : Ev te σ H (.str a)) (hz : a.length ≤ 100000) : Ev (tCB (rLn K) (tCons te tNil)) σ H (.int (a.length : Nat)) := fun H1 e Q q =>
  h H1 e _ fun H2 e2 => ⟨.str a, a.length, rfl, ⟨sz_of hz, rfl⟩, q H2 e2⟩
/-- list(xs): a copy -/
theorem el_copy (h : EvS K te σ H xs) : EvL (tCB (rLs K) (tCons te tNil)) σ H xs := fun H1 e Q q =>
  h H1 e _ fun p H2 e2 hp => ⟨p, xs, rfl, .inl hp, fun l hl => q l _ (fresh_back e2 hl) (e2.trans (Ex.new hl)) upd_same⟩
/-- xs[i] -/
theorem ev_ixLS {i : Int} (h : EvS K ta σ H xs) (hb : Ev tb σ H (.int i)) (ha : atI xs i = some v) : Ev (tOp (rIxL K) ta tb) σ H v := fun H1 e Q q =>
  h H1 e _ fun p H2 e2 hp => hb H2 (e.trans e2) _ fun H3 e3 => ⟨p, xs, i, v, rfl, rfl, ex_l e3 hp, ha, q H3 (e2.trans e3)⟩
theorem ev_ixU {i : Int} (h : EvU ta σ H xs) (hb : Ev tb σ H (.int i)) (ha : atI xs i = some v) : Ev (tOp (rIxT K) ta tb) σ H v := fun H1 e Q q =>
  h H1 e _ fun p H2 _ e2 hp => hb H2 (e.trans e2) _ fun H3 e3 => ⟨p, xs, i, v, rfl, rfl, ex_t e3 (st_of hp), ha, q H3 (e2.trans e3)⟩
/-- s[i] -/
theorem ev_ixSg {r : List Bool} {j : Nat} (h : Ev ta σ H (.str (rs r))) (hb : Ev tb σ H (.int (j : Nat))) (hj : j < r.length) (hz : r.length ≤ 100000) : Ev (tOp rIxS ta tb) σ H (.str (s1 (r.getD j false))) :=
  ev_op h hb (rv_ixS (by rw [rs_len]; exact hz) (by
    rw [rs_tl]
    refine atI_nat ?_
    rw [List.getElem?_map, List.getElem?_eq_getElem hj, List.getD_eq_getElem?_getD, List.getElem?_eq_getElem hj]; rfl))
/-- "x" if t else "-" -/
theorem ev_ifSg {b : Bool} (h : EvT t σ H b) : Ev (tIf t (tC (.str "x")) (tC (.str "-"))) σ H (.str (s1 b)) :=
  ev_if h (fun e => by subst e; exact s1_x ▸ ev_c) (fun e => by subst e; exact s1_d ▸ ev_c)
/-- "".join -/
theorem ev_joinS {bs : List Bool} (h : EvS K te σ H (bs.map fun b => V.str (s1 b))) (hz : bs.length ≤ 100000) : Ev (tM1 (rJoin K) (tC (.str "")) te) σ H (.str (rs bs)) := fun H1 e Q q =>
  ⟨⟨_, rfl⟩, h H1 e _ fun p H2 e2 hp => by
    refine ⟨"", p, bs.map s1, rfl, rfl, .inl (by rw [List.map_map]; exact hp), ?_, ?_⟩
    · have e1 : ((bs.map s1).map fun x => x.length) = bs.map fun _ => 1 := by rw [List.map_map]; rfl
      have e2 : ("" : Str).length = 0 := by decide +kernel
      rw [e1, e2, Nat.mul_zero, Nat.add_zero]
      have e3 := sum_ones bs
      omega
    · rw [join_s1]; exact q H2 e2⟩
/-- data equal to data -/
def dat : V → PyData
  | .non => .none | .bl b => .bool b | .int i => .int i | .str x => .str x
  | _ => .none
def isSI : V → Bool
  | .int _ => true | .str x => PyData.strOk x | _ => false
theorem dp_flat {H : Hp} : ∀ {v : V}, isSI v = true → Dp K H v (dat v)
  | .int i, _ => .int i
  | .str x, _ => .str x
  | .non, h | .bl _, h | .byt _, h | .flt _, h | .ref _, h | .ty _, h => by cases h
theorem dp_all {H : Hp} : ∀ {xs : List V}, xs.all isSI = true → DpAll K H xs (xs.map dat)
  | [], _ => .nil
  | x :: xs, h => by
    have h' := Bool.and_eq_true_iff.mp (show (isSI x && xs.all isSI) = true from h)
    exact .cons (dp_flat h'.1) (dp_all h'.2)
theorem eqv_flat : ∀ {x y : V}, isSI x = true → isSI y = true → PyData.eqv (dat x) (dat y) = decide (x = y)
  | .int i, .int j, _, _ => by rw [dec_int]; simp [dat, PyData.eqv]
  | .str i, .str j, _, _ => by rw [dec_str]; simp [dat, PyData.eqv]
  | .int i, .str j, _, _ => by simp [dat, PyData.eqv]
  | .str i, .int j, _, _ => by simp [dat, PyData.eqv]
  | .non, _, h, _ | .bl _, _, h, _ | .byt _, _, h, _ | .flt _, _, h, _ | .ref _, _, h, _ | .ty _, _, h, _ => by cases h
  | .int _, .non, _, h | .int _, .bl _, _, h | .int _, .byt _, _, h | .int _, .flt _, _, h | .int _, .ref _, _, h | .int _, .ty _, _, h => by cases h
  | .str _, .non, _, h | .str _, .bl _, _, h | .str _, .byt _, _, h | .str _, .flt _, _, h | .str _, .ref _, _, h | .str _, .ty _, _, h => by cases h
theorem eqvAll_flat : ∀ {xs ys : List V}, xs.all isSI = true → ys.all isSI = true → PyData.eqvAll (xs.map dat) (ys.map dat) = decide (xs = ys)
  | [], [], _, _ => rfl
  | [], y :: ys, _, _ => rfl
  | x :: xs, [], _, _ => rfl
  | x :: xs, y :: ys, h, g => by
    have h' := Bool.and_eq_true_iff.mp (show (isSI x && xs.all isSI) = true from h)
    have g' := Bool.and_eq_true_iff.mp (show (isSI y && ys.all isSI) = true from g)
    rw [List.map_cons, List.map_cons, PyData.eqvAll, eqv_flat h'.1 g'.1, eqvAll_flat h'.2 g'.2]
    by_cases e1 : x = y
    · by_cases e2 : xs = ys
      · simp [e1, e2]
      · simp [e1, e2]
    · simp [e1]
theorem lay_flat : ∀ {x : V}, isSI x = true → PyData.canLay0 (dat x) = true ∧ PyData.depth (dat x) = 0
  | .int i, _ => ⟨by simp [dat, PyData.canLay0], by simp [dat, PyData.depth]⟩
  | .str x, h => ⟨by simpa [dat, PyData.canLay0, isSI] using h, by simp [dat, PyData.depth]⟩
  | .non, h | .bl _, h | .byt _, h | .flt _, h | .ref _, h | .ty _, h => by cases h
theorem lay_all : ∀ {xs : List V}, xs.all isSI = true → PyData.canLayAll0 (xs.map dat) = true ∧ PyData.depthAll (xs.map dat) = 0
  | [], _ => ⟨rfl, rfl⟩
  | x :: xs, h => by
    have h' := Bool.and_eq_true_iff.mp (show (isSI x && xs.all isSI) = true from h)
    have a := lay_flat h'.1
    have b := lay_all h'.2
    refine ⟨?_, ?_⟩
    · show (PyData.canLay0 (dat x) && PyData.canLayAll0 (xs.map dat)) = true
      rw [a.1, b.1]; rfl
    · show max (PyData.depth (dat x)) (PyData.depthAll (xs.map dat)) = 0
      rw [a.2, b.2]; rfl
theorem shaped_flat {xs : List V} (h : xs.all isSI = true) : SeqAt.shaped (.list (xs.map dat)) = true := by
  have a := lay_all h
  unfold SeqAt.shaped
  have e1 : PyData.canLay0 (.list (xs.map dat)) = PyData.canLayAll0 (xs.map dat) := by simp [PyData.canLay0]
  have e2 : PyData.depth (.list (xs.map dat)) = PyData.depthAll (xs.map dat) + 1 := by simp [PyData.depth]
  rw [e1, e2, a.1, a.2]; rfl
theorem eqv_list {xs ys : List V} (h : xs.all isSI = true) (g : ys.all isSI = true) : PyData.eqv (.list (xs.map dat)) (.list (ys.map dat)) = decide (xs = ys) := by
  rw [PyData.eqv]; exact eqvAll_flat h g
/-- xs == ys, xs != ys: lists of ints and texts -/
theorem ev_eqS (h : EvS K ta σ H xs) (g : EvS K tb σ H ys) (fx : xs.all isSI = true) (fy : ys.all isSI = true) : Ev (tOp (rEqD K) ta tb) σ H (.bl (decide (xs = ys))) := fun H1 e Q q =>
  h H1 e _ fun p H2 e2 hp => g H2 (e.trans e2) _ fun p' H3 e3 hp' =>
    ⟨.list (xs.map dat), .list (ys.map dat), .lst (ex_l e3 hp) (dp_all fx), .lst hp' (dp_all fy), shaped_flat fx, shaped_flat fy, by rw [eqv_list fx fy]; exact q H3 (e2.trans e3)⟩
theorem ev_neS (h : EvS K ta σ H xs) (g : EvS K tb σ H ys) (fx : xs.all isSI = true) (fy : ys.all isSI = true) : Ev (tOp (rNeD K) ta tb) σ H (.bl (!decide (xs = ys))) := fun H1 e Q q =>
  h H1 e _ fun p H2 e2 hp => g H2 (e.trans e2) _ fun p' H3 e3 hp' =>
    ⟨.list (xs.map dat), .list (ys.map dat), .lst (ex_l e3 hp) (dp_all fx), .lst hp' (dp_all fy), shaped_flat fx, shaped_flat fy, by rw [eqv_list fx fy]; exact q H3 (e2.trans e3)⟩
theorem ok_s1 (b : Bool) : PyData.strOk (s1 b) = true := by cases b <;> decide +kernel
theorem ok_rs (r : List Bool) : PyData.strOk (rs r) = true := by
  unfold PyData.strOk
  rw [← Array.all_toList, rs_tl, List.all_eq_true]
  intro c hc
  obtain ⟨b, _, rfl⟩ := List.mem_map.mp hc
  cases b <;> decide
theorem si_tv (T : Tb) : (tv T).all isSI = true := by
  rw [List.all_eq_true]
  intro v hv
  obtain ⟨r, _, rfl⟩ := List.mem_map.mp hv
  exact ok_rs r
theorem si_ints (ns : List Int) : (ns.map V.int).all isSI = true := by
  rw [List.all_eq_true]
  intro v hv
  obtain ⟨r, _, rfl⟩ := List.mem_map.mp hv
  rfl
theorem evs {a : Addr} (h : Ev te σ H (.ref a)) (hs : SqL K H a xs) : EvS K te σ H xs := Ev.s h hs
theorem els (h : EvL te σ H xs) : EvS K te σ H xs := EvL.s h
/-- a op b op' c -/
theorem et_chain {r r' : R2} {tc : TE} {a b c : V} {p q : Bool} (ha : Ev ta σ H a) (hb : Ev tb σ H b) (hc : p = true → Ev tc σ H c) (hr : RV r a b H (.bl p)) (hr' : p = true → RV r' b c H (.bl q)) : EvT (tTest (tChain r r' ta tb tc)) σ H (p && q) := fun H1 e Q k =>
  ha H1 e _ fun H2 e2 => hb H2 (e.trans e2) _ fun H3 e3 => hr H3 ((e.trans e2).trans e3) _ fun H4 e4 => ⟨p, rfl, by
    cases p with
    | true =>
      rw [if_pos rfl]
      exact hc rfl H4 (((e.trans e2).trans e3).trans e4) _ fun H5 e5 => hr' rfl H5 ((((e.trans e2).trans e3).trans e4).trans e5) _ fun H6 e6 => ⟨q, rfl, k H6 ((((e2.trans e3).trans e4).trans e5).trans e6)⟩
    | false =>
      rw [if_neg Bool.false_ne_true]
      exact ⟨false, rfl, k H4 ((e2.trans e3).trans e4)⟩⟩
theorem ev_chain {r r' : R2} {tc : TE} {a b c : V} {p q : Bool} (ha : Ev ta σ H a) (hb : Ev tb σ H b) (hc : p = true → Ev tc σ H c) (hr : RV r a b H (.bl p)) (hr' : p = true → RV r' b c H (.bl q)) : Ev (tChain r r' ta tb tc) σ H (.bl (p && q)) := fun H1 e Q k =>
  ha H1 e _ fun H2 e2 => hb H2 (e.trans e2) _ fun H3 e3 => hr H3 ((e.trans e2).trans e3) _ fun H4 e4 => ⟨p, rfl, by
    cases p with
    | true =>
      rw [if_pos rfl]
      exact hc rfl H4 (((e.trans e2).trans e3).trans e4) _ fun H5 e5 => hr' rfl H5 ((((e.trans e2).trans e3).trans e4).trans e5) _ fun H6 e6 => k H6 ((((e2.trans e3).trans e4).trans e5).trans e6)
    | false =>
      rw [if_neg Bool.false_ne_true]
      exact k H4 ((e2.trans e3).trans e4)⟩
theorem el_nil : EvL (tLst tNil) σ H [] := el_lst ea_nil (Nat.zero_le _)
theorem dec_tv {a b : Tb} : decide (tv a = tv b) = decide (a = b) := by
  by_cases h : a = b
  · subst h; simp
  · rw [decide_eq_false h, decide_eq_false fun e => h (tv_inj e)]
theorem ints_inj : ∀ {a b : List Int}, a.map V.int = b.map V.int → a = b
  | [], [], _ => rfl
  | [], _ :: _, h => by cases h
  | _ :: _, [], h => by cases h
  | x :: a, y :: b, h => by
    have h1 := List.cons.inj (show V.int x :: a.map V.int = V.int y :: b.map V.int from h)
    rw [V.int.inj h1.1, ints_inj h1.2]
theorem dec_ints {a b : List Int} : decide (a.map V.int = b.map V.int) = decide (a = b) := by
  by_cases h : a = b
  · subst h; simp
  · rw [decide_eq_false h, decide_eq_false fun e => h (ints_inj e)]
/-! ### isinstance -/
theorem tyx_list {a : Addr} (h : SqL K H a xs) : TyX K H (.ref a) (.type "list") := by
  rcases h with (h | ⟨o, h⟩) | ⟨o, its, n, hk, hc, _⟩
  · exact .base (.lst h)
  · exact .base (.frz h)
  · exact .kList hk hc
theorem ev_isi {c : V} {ty u : Value} {b : Bool} (h : Ev te σ H x) (hc : ClsV c u) (hty : ∀ H1, Ex H H1 → TyX K H1 x ty) (hk : PySem.W.kitOne K ty u = some b) : Ev (tCB (rIsi K) (tCons te (tCons (tC c) tNil))) σ H (.bl b) := fun H1 e Q q =>
  h H1 e _ fun H2 e2 => ⟨x, c, ty, u, b, rfl, hc, hty H2 (e.trans e2), hk, q H2 e2⟩
theorem ev_isiL (h : EvS K te σ H xs) : Ev (tCB (rIsi K) (tCons te (tCons (tC (.ty "list")) tNil))) σ H (.bl true) := fun H1 e Q q =>
  h H1 e _ fun p H2 e2 hp => ⟨.ref p, .ty "list", _, _, true, rfl, .ty _, tyx_list hp, kit_ty (by decide +kernel), q H2 e2⟩
theorem ev_isiStr {s : Str} (h : Ev te σ H (.str s)) : Ev (tCB (rIsi K) (tCons te (tCons (tC (.ty "str")) tNil))) σ H (.bl true) := ev_isi h (.ty _) (fun _ _ => .base (.str s)) (kit_ty (by decide +kernel))
theorem ev_isiInt {i : Int} (h : Ev te σ H (.int i)) : Ev (tCB (rIsi K) (tCons te (tCons (tC (.ty "int")) tNil))) σ H (.bl true) := ev_isi h (.ty _) (fun _ _ => .base (.int i)) (kit_ty (by decide +kernel))
theorem ev_isiBool {i : Int} (h : Ev te σ H (.int i)) : Ev (tCB (rIsi K) (tCons te (tCons (tC (.ty "bool")) tNil))) σ H (.bl false) := ev_isi h (.ty _) (fun _ _ => .base (.int i)) (kit_ty (by decide +kernel))
/-! ### all, any, sum -/
theorem ev_all {bs : List Bool} (h : EvS K te σ H (bs.map V.bl)) : Ev (tCB (rAll K) (tCons te tNil)) σ H (.bl (bs.all id)) := fun H1 e Q q => h H1 e _ fun p H2 e2 hp => ⟨p, bs, rfl, hp, q H2 e2⟩
theorem ev_any {bs : List Bool} (h : EvS K te σ H (bs.map V.bl)) : Ev (tCB (rAny K) (tCons te tNil)) σ H (.bl (bs.any id)) := fun H1 e Q q => h H1 e _ fun p H2 e2 hp => ⟨p, bs, rfl, hp, q H2 e2⟩
theorem ev_allM {α : Type} {l : List α} {p : α → Bool} (h : EvS K te σ H (l.map fun x => V.bl (p x))) : Ev (tCB (rAll K) (tCons te tNil)) σ H (.bl (l.all p)) := by
  have e : (l.map p).all id = l.all p := by rw [List.all_map]; rfl
  rw [← e]
  exact ev_all (by rw [List.map_map]; exact h)
theorem ev_anyM {α : Type} {l : List α} {p : α → Bool} (h : EvS K te σ H (l.map fun x => V.bl (p x))) : Ev (tCB (rAny K) (tCons te tNil)) σ H (.bl (l.any p)) := by
  have e : (l.map p).any id = l.any p := by rw [List.any_map]; rfl
  rw [← e]
  exact ev_any (by rw [List.map_map]; exact h)
theorem ev_sum {ns : List Int} (h : EvS K te σ H (ns.map V.int)) : Ev (tCB (rSum K) (tCons te tNil)) σ H (.int ns.sum) := fun H1 e Q q => h H1 e _ fun p H2 e2 hp => ⟨p, ns, rfl, hp, q H2 e2⟩
end
/-! ### comprehensions -/
/-- n turns, each of which leads from what holds ahead of it to what holds behind it: a measure that falls -/
theorem n_turns {α : Type} {n : Nat} {a0 : α} {Stop : Nat → α → Prop} {Go : Nat → α → (α → Prop) → Prop} (Pv : Nat → α → Prop) (h0 : Pv 0 a0) (go : ∀ i a, i < n → Pv i a → Go i a (Pv (i + 1))) (stop : ∀ a, Pv n a → Stop n a) :
    ∃ W : Nat → Nat → α → Prop, (∃ m, W 0 m a0) ∧ ∀ i m a, W i m a → Stop i a ∨ ∃ N : α → Prop, (∀ a', N a' → ∃ m', m' < m ∧ W (i + 1) m' a') ∧ Go i a N := by
  refine ⟨fun i m a => i + m = n ∧ Pv i a, ⟨n, Nat.zero_add n, h0⟩, fun i m a ⟨e, p⟩ => ?_⟩
  cases m with
  | zero => exact .inl (stop a ((show i = n from e) ▸ p) |> fun q => (show i = n from e).symm ▸ q)
  | succ m => exact .inr ⟨Pv (i + 1), fun a' p' => ⟨m, Nat.lt_succ_self m, by omega, p'⟩, go i a (by omega) p⟩
/-- the test's word, and, if it is so, the item behind those of the list at D -/
abbrev PutTo (tt : TT) (te : TE) (D : Addr) (N : Hp → Prop) (σ2 : L2.St) (H2 : Hp) : Prop :=
  tt σ2 H2 fun b H3 => if b = true then te σ2 H3 fun y H4 => ∃ acc, H4 D = some (.lst acc) ∧ acc.length < sizeLine ∧ N (upd H4 D (.lst (acc ++ [y]))) else N H3
/-- over any iterator of n turns -/
theorem lc_it {J : It} {n : Nat} {g : TG} {tt : TT} {te : TE} {vs : List Nat} {σ : L2.St} {H1 : Hp} {D : Addr} {Qd : Hp → Prop} (Pv : Nat → Hp → Prop) (hstop : ∀ H, Pv n H → J.stop n H) (hgo : ∀ i H, i < n → Pv i H → J.go i H) (h0 : Pv 0 (upd H1 D (.lst [])))
    (hs : ∀ i x H H', i < n → Pv i H → J.yld i H x H' → g x (wipe σ vs) H' fun σ2 H2 => wipe σ2 vs = wipe σ vs ∧ PutTo tt te D (Pv (i + 1)) σ2 H2) (hd : ∀ H, Pv n H → Qd H) :
    ∃ W : Nat → Nat → Hp → Prop, (∃ k, W 0 k (upd H1 D (.lst []))) ∧ ∀ i k H, W i k H → (J.stop i H ∧ Qd H) ∨
      (J.go i H ∧ ∃ N : Hp → Prop, (∀ H', N H' → ∃ k', k' < k ∧ W (i + 1) k' H') ∧ ∀ x H', J.yld i H x H' → g x (wipe σ vs) H' fun σ2 H2 => wipe σ2 vs = wipe σ vs ∧ PutTo tt te D N σ2 H2) := by
  obtain ⟨W, w0, step⟩ := n_turns (Stop := fun i H => J.stop i H ∧ Qd H) (Go := fun i H N => J.go i H ∧ ∀ x H', J.yld i H x H' → g x (wipe σ vs) H' fun σ2 H2 => wipe σ2 vs = wipe σ vs ∧ PutTo tt te D N σ2 H2) Pv h0
    (fun i H lt p => ⟨hgo i H lt p, fun x H' y => hs i x H H' lt p y⟩) fun H p => ⟨hstop H p, hd H p⟩
  exact ⟨W, w0, fun i k H h => (step i k H h).imp id fun ⟨N, fall, go, put⟩ => ⟨go, N, fall, put⟩⟩
section
variable {K : PySem.W.Frag} {σ : L2.St} {H H' : Hp} {ta tb te tl : TE} {tt : TT} {xs ys : List V} {vs : List Nat}
/-- the list so far -/
def Lc (H : Hp) (D : Addr) (acc : List V) (H' : Hp) : Prop := H D = none ∧ Ex H H' ∧ H' D = some (.lst acc)
theorem lc_turn {D : Addr} {acc acc' : List V} {σ2 : L2.St} {b : Bool} {v : V} {N : Hp → Prop} (p : Lc H D acc H') (hl : acc.length < 100000) (ht : EvT tt σ2 H b) (he : b = true → Ev te σ2 H v) (hN : ∀ H2, Lc H D (if b = true then acc ++ [v] else acc) H2 → N H2) :
    tt σ2 H' fun b H3 => if b = true then te σ2 H3 fun y H4 => ∃ acc, H4 D = some (.lst acc) ∧ acc.length < sizeLine ∧ N (upd H4 D (.lst (acc ++ [y]))) else N H3 := by
  obtain ⟨p1, p2, p3⟩ := p
  refine ht H' p2 _ ?_
  intro H3 e3
  cases b with
  | true =>
    rw [if_pos rfl]
    refine he rfl H3 (p2.trans e3) _ fun H4 e4 => ⟨acc, e4 D _ (e3 D _ p3), sz_lt hl, hN _ ⟨p1, Ex.mut ((p2.trans e3).trans e4) p1, ?_⟩⟩
    rw [if_pos rfl]; exact upd_same
  | false =>
    rw [if_neg Bool.false_ne_true]
    refine hN _ ⟨p1, p2.trans e3, ?_⟩
    rw [if_neg Bool.false_ne_true]
    exact e3 D _ p3
theorem et_yes : EvT tYes σ H true := fun H1 _ _ q => q H1 (Ex.refl H1)
/-- what a filter and a map give of the first turns -/
def fm {α : Type} (p : α → Bool) (f : α → V) (l : List α) : List V := (l.filter p).map f
theorem fm_next {α : Type} {p : α → Bool} {f : α → V} {l : List α} {i : Nat} {x : α} (h : l[i]? = some x) : (if p x = true then fm p f (l.take i) ++ [f x] else fm p f (l.take i)) = fm p f (l.take (i + 1)) := by
  unfold fm
  have e : l.take (i + 1) = l.take i ++ [x] := by rw [List.take_add_one, h]; rfl
  rw [e, List.filter_append, List.map_append]
  cases hp : p x with
  | true => rw [if_pos rfl, List.filter_cons, if_pos hp]; rfl
  | false => rw [if_neg Bool.false_ne_true, List.filter_cons, if_neg (by rw [hp]; decide)]; show _ = _ ++ []; rw [List.append_nil]
theorem fm_len {α : Type} (p : α → Bool) (f : α → V) (l : List α) (i : Nat) : (fm p f (l.take i)).length ≤ l.length := by
  unfold fm
  rw [List.length_map]
  have h := List.length_filter_le p (l.take i)
  have h2 := List.length_take_le i l
  have h3 : (l.take i).length ≤ l.length := by rw [List.length_take]; omega
  omega
theorem fm_yes {α : Type} (f : α → V) (l : List α) : fm (fun _ => true) f l = l.map f := by
  unfold fm
  rw [List.filter_eq_self.mpr fun _ _ => rfl]
/-- [te for j in tl if tt], tl a list of the g's -/
theorem el_filt {α : Type} {l : List α} {g f : α → V} {p : α → Bool} {j : Nat} (h : EvS K tl σ H (l.map g)) (hz : l.length ≤ 40000) (hw : ∀ x, wipe ((wipe σ vs).set j (some x)) vs = wipe σ vs)
    (ht : ∀ x ∈ l, EvT tt ((wipe σ vs).set j (some (g x))) H (p x)) (he : ∀ x ∈ l, p x = true → Ev te ((wipe σ vs).set j (some (g x))) H (f x)) : EvL (tLc (iList K tl) (gName j) tt te vs) σ H (fm p f l) := fun H0 e Q q =>
  h H0 e _ fun a H1 e1 hx => ⟨a, rfl, ⟨_, hx⟩, fun D hD => lc_list (xs := l.map g) (fun i H' => Lc H1 D (fm p f (l.take i)) H') ⟨hD, Ex.new hD, upd_same⟩ (fun i H' _ pv => ex_l pv.2.1 hx)
    (fun i x H' hi pv => by
      rw [List.getElem?_map] at hi
      obtain ⟨y, hy, rfl⟩ := Option.map_eq_some_iff.mp hi
      have hm := List.mem_of_getElem? hy
      refine ⟨hw _, lc_turn (acc' := []) pv (by have := fm_len p f l i; omega) ((ht y hm).mono (e.trans e1)) (fun hb => (he y hm hb).mono (e.trans e1)) fun H2 h2 => ?_⟩
      rw [fm_next hy] at h2
      exact h2)
    (fun H' pv => by
      rw [List.length_map, List.take_length] at pv
      exact q D H' (fresh_back e1 pv.1) (e1.trans pv.2.1) pv.2.2)⟩
theorem el_map {α : Type} {l : List α} {g f : α → V} {j : Nat} (h : EvS K tl σ H (l.map g)) (hz : l.length ≤ 40000) (hw : ∀ x, wipe ((wipe σ vs).set j (some x)) vs = wipe σ vs)
    (he : ∀ x ∈ l, Ev te ((wipe σ vs).set j (some (g x))) H (f x)) : EvL (tLc (iList K tl) (gName j) tYes te vs) σ H (l.map f) := by
  rw [← fm_yes]
  exact el_filt h hz hw (fun _ _ => et_yes) fun x hx _ => he x hx
/-- over range(n) -/
theorem el_filtR {f : Nat → V} {p : Nat → Bool} {j n : Nat} {tn : TE} (h : Ev tn σ H (.int (n : Nat))) (hz : n ≤ 40000) (hw : ∀ x, wipe ((wipe σ vs).set j (some x)) vs = wipe σ vs)
    (ht : ∀ i, i < n → EvT tt ((wipe σ vs).set j (some (.int (i : Nat)))) H (p i)) (he : ∀ i, i < n → p i = true → Ev te ((wipe σ vs).set j (some (.int (i : Nat)))) H (f i)) : EvL (tLc (iRng1 (tCons tn tNil)) (gName j) tt te vs) σ H (fm p f (List.range n)) := fun H0 e Q q =>
  h H0 e _ fun H1 e1 => ⟨(n : Nat), rfl, by omega, by omega, fun D hD => lc_range (lo := 0) (n := ((n : Nat) : Int).toNat) (fun i H' => Lc H1 D (fm p f ((List.range n).take i)) H') ⟨hD, Ex.new hD, upd_same⟩
    (fun i H' hi pv => by
      have hi' : i < n := by omega
      have hy : (List.range n)[i]? = some i := by rw [List.getElem?_range hi']
      have e0 : (0 : Int) + (i : Int) = ((i : Nat) : Int) := Int.zero_add _
      rw [e0]
      refine ⟨hw _, lc_turn (acc' := []) pv (by have := fm_len p f (List.range n) i; rw [List.length_range] at this; omega) ((ht i hi').mono (e.trans e1)) (fun hb => (he i hi' hb).mono (e.trans e1)) fun H2 h2 => ?_⟩
      rw [fm_next hy] at h2
      exact h2)
    (fun H' pv => by
      have e2 : (List.range n).take ((n : Nat) : Int).toNat = List.range n := List.take_of_length_le (by rw [List.length_range]; omega)
      rw [e2] at pv
      exact q D H' (fresh_back e1 pv.1) (e1.trans pv.2.1) pv.2.2)⟩
theorem el_mapR {f : Nat → V} {j n : Nat} {tn : TE} (h : Ev tn σ H (.int (n : Nat))) (hz : n ≤ 40000) (hw : ∀ x, wipe ((wipe σ vs).set j (some x)) vs = wipe σ vs)
    (he : ∀ i, i < n → Ev te ((wipe σ vs).set j (some (.int (i : Nat)))) H (f i)) : EvL (tLc (iRng1 (tCons tn tNil)) (gName j) tYes te vs) σ H ((List.range n).map f) := by
  rw [← fm_yes]
  exact el_filtR h hz hw (fun _ _ => et_yes) fun i hi _ => he i hi
/-- a pair's names -/
theorem g_pair {i j : Nat} {T : Addr} {x y : V} {Q : L2.St → Hp → Prop} (hT : SqT K H T [x, y]) (q : Q ((σ.set i (some x)).set j (some y)) H) : gTup K 2 (gCons (gName i) (gCons (gName j) gNil)) (.ref T) σ H Q :=
  ⟨T, [x, y], rfl, hT, rfl, x, [y], rfl, y, [], rfl, rfl, q⟩
/-- over enumerate(tl) -/
theorem el_filtE {α : Type} {l : List α} {g : α → V} {f : Nat × α → V} {p : Nat × α → Bool} {i j : Nat} (h : EvS K tl σ H (l.map g)) (hz : l.length ≤ 40000) (hw : ∀ x y, wipe (((wipe σ vs).set i (some x)).set j (some y)) vs = wipe σ vs)
    (ht : ∀ (k : Nat) x, l[k]? = some x → EvT tt (((wipe σ vs).set i (some (.int (k : Nat)))).set j (some (g x))) H (p (k, x))) (he : ∀ (k : Nat) x, l[k]? = some x → p (k, x) = true → Ev te (((wipe σ vs).set i (some (.int (k : Nat)))).set j (some (g x))) H (f (k, x))) :
    EvL (tLc (iEnum K (tCons tl tNil)) (gTup K 2 (gCons (gName i) (gCons (gName j) gNil))) tt te vs) σ H (fm p f ((List.range l.length).zip l)) := fun H0 e Q q =>
  h H0 e _ fun a H1 e1 hx => ⟨a, _, rfl, hx, fun D hD => by
    have hlen : ((List.range l.length).zip l).length = l.length := by rw [List.length_zip, List.length_range]; omega
    refine lc_it (J := Ite K a) (n := l.length) (fun k H' => Lc H1 D (fm p f (((List.range l.length).zip l).take k)) H') (fun H' pv => ⟨_, ex_l pv.2.1 hx, by rw [List.length_map]; exact Nat.le_refl _⟩)
      (fun k H' hk pv => ⟨_, _, ex_l pv.2.1 hx, by rw [List.getElem?_map, List.getElem?_eq_getElem hk]; rfl⟩) ⟨hD, Ex.new hD, upd_same⟩ (fun k x H' H'' hk pv hy => ?_) (fun H' pv => ?_)
    · obtain ⟨T, y, rfl, hT, rfl, hf⟩ := hy
      have hl : l[k]? = some l[k] := List.getElem?_eq_getElem hk
      have ey : y = g l[k] := by
        have z := hf _ (ex_l pv.2.1 hx)
        rw [List.getElem?_map, hl] at z
        exact (Option.some.inj z).symm
      subst ey
      have hz2 : ((List.range l.length).zip l)[k]? = some (k, l[k]) := by rw [List.getElem?_zip_eq_some]; exact ⟨List.getElem?_range hk, hl⟩
      have nTD : D ≠ T := fun z => by rw [← z] at hT; rw [pv.2.2] at hT; cases hT
      have pv2 : Lc H1 D (fm p f (((List.range l.length).zip l).take k)) (upd H' T (.tup [.int (k : Nat), g l[k]])) := ⟨pv.1, pv.2.1.trans (Ex.new hT), by rw [upd_ne nTD]; exact pv.2.2⟩
      refine g_pair (st_of upd_same) ⟨hw _ _, lc_turn (acc' := []) pv2 (by have := fm_len p f ((List.range l.length).zip l) k; rw [hlen] at this; omega) ((ht k _ hl).mono (e.trans e1)) (fun hb => (he k _ hl hb).mono (e.trans e1)) fun H2 h2 => ?_⟩
      rw [fm_next hz2] at h2
      exact h2
    · have e2 : ((List.range l.length).zip l).take l.length = (List.range l.length).zip l := List.take_of_length_le (by rw [hlen]; exact Nat.le_refl _)
      rw [e2] at pv
      exact q D H' (fresh_back e1 pv.1) (e1.trans pv.2.1) pv.2.2⟩
theorem el_mapE {α : Type} {l : List α} {g : α → V} {f : Nat × α → V} {i j : Nat} (h : EvS K tl σ H (l.map g)) (hz : l.length ≤ 40000) (hw : ∀ x y, wipe (((wipe σ vs).set i (some x)).set j (some y)) vs = wipe σ vs)
    (he : ∀ (k : Nat) x, l[k]? = some x → Ev te (((wipe σ vs).set i (some (.int (k : Nat)))).set j (some (g x))) H (f (k, x))) :
    EvL (tLc (iEnum K (tCons tl tNil)) (gTup K 2 (gCons (gName i) (gCons (gName j) gNil))) tYes te vs) σ H (((List.range l.length).zip l).map f) := by
  rw [← fm_yes]
  exact el_filtE h hz hw (fun _ _ _ => et_yes) fun k x hx _ => he k x hx
/-- over zip(ta, tb), two lists of one length -/
theorem el_filtZ {α β : Type} {l : List α} {m : List β} {g : α → V} {g' : β → V} {f : α × β → V} {p : α × β → Bool} {i j : Nat} (h : EvS K ta σ H (l.map g)) (h' : EvS K tb σ H (m.map g')) (hz : l.length ≤ 40000) (hlm : l.length = m.length) (hw : ∀ x y, wipe (((wipe σ vs).set i (some x)).set j (some y)) vs = wipe σ vs)
    (ht : ∀ x y, (x, y) ∈ l.zip m → EvT tt (((wipe σ vs).set i (some (g x))).set j (some (g' y))) H (p (x, y))) (he : ∀ x y, (x, y) ∈ l.zip m → p (x, y) = true → Ev te (((wipe σ vs).set i (some (g x))).set j (some (g' y))) H (f (x, y))) :
    EvL (tLc (iZip K (tCons ta (tCons tb tNil))) (gTup K 2 (gCons (gName i) (gCons (gName j) gNil))) tt te vs) σ H (fm p f (l.zip m)) := fun H0 e Q q =>
  h H0 e _ fun a H1 e1 hx => h' H1 (e.trans e1) _ fun b H2 e2 hy => ⟨a, b, _, _, rfl, ex_l e2 hx, hy, fun D hD => by
    have hlen : (l.zip m).length = l.length := by rw [List.length_zip]; omega
    have e12 := e1.trans e2
    have hx2 := ex_l e2 hx
    refine lc_it (J := Itz K a b) (n := l.length) (fun k H' => Lc H2 D (fm p f ((l.zip m).take k)) H') (fun H' pv => ⟨_, _, ex_l pv.2.1 hx2, ex_l pv.2.1 hy, .inl (by rw [List.length_map]; exact Nat.le_refl _)⟩)
      (fun k H' hk pv => ⟨_, _, g l[k], g' (m[k]'(by omega)), ex_l pv.2.1 hx2, ex_l pv.2.1 hy, by rw [List.getElem?_map, List.getElem?_eq_getElem hk]; rfl, by rw [List.getElem?_map, List.getElem?_eq_getElem (show k < m.length by omega)]; rfl⟩) ⟨hD, Ex.new hD, upd_same⟩ (fun k x H' H'' hk pv hyl => ?_) (fun H' pv => ?_)
    · obtain ⟨T, x1, y1, rfl, hT, rfl, hf1, hf2⟩ := hyl
      have hk2 : k < m.length := by omega
      have hl : l[k]? = some l[k] := List.getElem?_eq_getElem hk
      have hm : m[k]? = some m[k] := List.getElem?_eq_getElem hk2
      have ex1 : x1 = g l[k] := by
        have z := hf1 _ (ex_l pv.2.1 hx2)
        rw [List.getElem?_map, hl] at z
        exact (Option.some.inj z).symm
      have ey1 : y1 = g' m[k] := by
        have z := hf2 _ (ex_l pv.2.1 hy)
        rw [List.getElem?_map, hm] at z
        exact (Option.some.inj z).symm
      subst ex1 ey1
      have hz2 : (l.zip m)[k]? = some (l[k], m[k]) := by rw [List.getElem?_zip_eq_some]; exact ⟨hl, hm⟩
      have hmem := List.mem_of_getElem? hz2
      have nTD : D ≠ T := fun z => by rw [← z] at hT; rw [pv.2.2] at hT; cases hT
      have pv2 : Lc H2 D (fm p f ((l.zip m).take k)) (upd H' T (.tup [g l[k], g' m[k]])) := ⟨pv.1, pv.2.1.trans (Ex.new hT), by rw [upd_ne nTD]; exact pv.2.2⟩
      refine g_pair (st_of upd_same) ⟨hw _ _, lc_turn (acc' := []) pv2 (by have := fm_len p f (l.zip m) k; rw [hlen] at this; omega) ((ht _ _ hmem).mono (e.trans e12)) (fun hb => (he _ _ hmem hb).mono (e.trans e12)) fun H3 h3 => ?_⟩
      rw [fm_next hz2] at h3
      exact h3
    · have e3 : (l.zip m).take l.length = l.zip m := List.take_of_length_le (by rw [hlen]; exact Nat.le_refl _)
      rw [e3] at pv
      exact q D H' (fresh_back e12 pv.1) (e12.trans pv.2.1) pv.2.2⟩
theorem el_mapZ {α β : Type} {l : List α} {m : List β} {g : α → V} {g' : β → V} {f : α × β → V} {i j : Nat} (h : EvS K ta σ H (l.map g)) (h' : EvS K tb σ H (m.map g')) (hz : l.length ≤ 40000) (hlm : l.length = m.length) (hw : ∀ x y, wipe (((wipe σ vs).set i (some x)).set j (some y)) vs = wipe σ vs)
    (he : ∀ x y, (x, y) ∈ l.zip m → Ev te (((wipe σ vs).set i (some (g x))).set j (some (g' y))) H (f (x, y))) :
    EvL (tLc (iZip K (tCons ta (tCons tb tNil))) (gTup K 2 (gCons (gName i) (gCons (gName j) gNil))) tYes te vs) σ H ((l.zip m).map f) := by
  rw [← fm_yes]
  exact el_filtZ h h' hz hlm hw (fun _ _ _ => et_yes) fun x y hx _ => he x y hx
end
/-! ### calls -/
section
variable {K : PySem.W.Frag} {σ : L2.St} {H H' : Hp} {ta tb te tl : TE} {xs : List V} {z : V} {sp : Sp} {E : XK}
/-- f(e), e a list -/
theorem ev_callS1 {dvs : List V} (h : EvS K te σ H xs) (hs : ∀ p H1, Ex H H1 → SqL K H1 p xs → SpV sp ([.ref p] ++ dvs) H1 z) : Ev (tCall sp dvs E (tCons te tNil)) σ H z := fun H1 e Q q =>
  h H1 e _ fun p H2 e2 hp => hs p H2 (e.trans e2) hp H2 (Ex.refl H2) Q (fun H3 e3 => q H3 (e2.trans e3)) E
theorem el_callS1 {dvs ys : List V} (h : EvS K te σ H xs) (hs : ∀ p H1, Ex H H1 → SqL K H1 p xs → SpL sp ([.ref p] ++ dvs) H1 ys) : EvL (tCall sp dvs E (tCons te tNil)) σ H ys := fun H1 e Q q =>
  h H1 e _ fun p H2 e2 hp => hs p H2 (e.trans e2) hp H2 (Ex.refl H2) Q (fun p' H3 h3 e3 h4 => q p' H3 (fresh_back e2 h3) (e2.trans e3) h4) E
/-- a promise: a value; a new list -/
def spV (R : List V → Hp → V → Prop) : Sp := fun vs H Q _ => ∃ z, R vs H z ∧ ∀ H2, Ex H H2 → Q z H2
def spL (R : List V → Hp → List V → Prop) : Sp := fun vs H Q _ => ∃ xs, R vs H xs ∧ ∀ p H2, H p = none → Ex H H2 → H2 p = some (.lst xs) → Q (.ref p) H2
theorem spV_of {R : List V → Hp → V → Prop} {vs : List V} (h : ∀ H1, Ex H H1 → R vs H1 z) : SpV (spV R) vs H z := fun H1 e Q q E => ⟨z, h H1 e, q⟩
theorem spL_of {R : List V → Hp → List V → Prop} {vs ys : List V} (h : ∀ H1, Ex H H1 → R vs H1 ys) : SpL (spL R) vs H ys := fun H1 e Q q E => ⟨ys, h H1 e, q⟩
end
/-! ### a def of the text -/
section
variable {P : Program} {w : World} {K : PySem.W.Frag} {mg : Str → Option Value} {base : Heap}
structure Dn (K : PySem.W.Frag) (mg : Str → Option Value) (x : Str) (st : Stmt) : Prop where
  ex : ∃ f fd, FunD K x x (defArgs st) (defBody st) (defScope st) [] [] f fd ∧ mg x = some (.ref f)
/-- a def's promise by its body -/
theorem Dn.cal {x : Str} {st : Stmt} {N ps : List Str} {k : Nat} {sp : Sp} (D : Dn K mg x st) (S : FnScope N ps (defScope st))
    (hb : ∀ (kV doc pm : Value) (an : Option Addr) (cdv ct : Value) (us : List Value), us.length = ps.length → bindArgs (PySem.W.fnOf x x (defArgs st) (defBody st) (defScope st) .none kV doc pm an cdv ct) ⟨us, []⟩ = pure (ps.zip us))
    (len : ∀ vs H Q E, sp vs H Q E → vs.length = ps.length)
    (hbody : ∀ (f : Addr) (cdv : Value) (A : Around) (outer : List Env) (s : Shared) (H : Hp) (vs : List V) (Q : VK) (E : XK), Room k (A.deeper (envOfC x (defScope st) s.heap.objs.size f cdv)) → sp vs H Q E →
      ∃ t, PSs (cxOf C8.CX0 P w K mg base N x (defScope st) f cdv A outer s H E).nox (defBody st) t ∧ t { nx := fun _ H' => Q .non H', rt := Q } (start N vs) H) : C8.Cal P w K mg base (k + 1) x sp [] := by
  obtain ⟨f, fd, F, hm⟩ := D.ex
  refine ⟨f, fd, ps, [], F.ok S len fun cdv A outer s H vs Q E hr h => ?_, hm, F.kp, F.bindsN hb, .nil⟩
  obtain ⟨t, h1, h2⟩ := hbody f cdv A outer s H vs Q E hr h
  exact ⟨t, h1.nox, h2⟩
/-- the law itself, by its body -/
theorem fn_ok {x y : Str} {st : Stmt} {N ps : List Str} {k : Nat} {sp : Sp} {f : Addr} {fd : FuncData} (F : FunD K x y (defArgs st) (defBody st) (defScope st) [] [] f fd) (S : FnScope N ps (defScope st))
    (len : ∀ vs H Q E, sp vs H Q E → vs.length = ps.length)
    (hbody : ∀ (f : Addr) (cdv : Value) (A : Around) (outer : List Env) (s : Shared) (H : Hp) (vs : List V) (Q : VK) (E : XK), Room k (A.deeper (envOfC y (defScope st) s.heap.objs.size f cdv)) → sp vs H Q E →
      ∃ t, PSs (cxOf C8.CX0 P w K mg base N y (defScope st) f cdv A outer s H E).nox (defBody st) t ∧ t { nx := fun _ H' => Q .non H', rt := Q } (start N vs) H) : FnOk P w K mg base C8.CX0 (k + 1) f fd ps sp :=
  F.ok S len fun cdv A outer s H vs Q E hr h => by
    obtain ⟨t, h1, h2⟩ := hbody f cdv A outer s H vs Q E hr h
    exact ⟨t, h1.nox, h2⟩
end
end WA

namespace WA
open PySem PySem.Spec PyProof.Rows L2 Evl
/-! ### slices by any step -/
def pick {α : Type} (xs : List α) (lo hi st : Option Int) : List α := (sliceRange (sliceBounds lo hi st xs.length).1 (sliceBounds lo hi st xs.length).2.1 (sliceBounds lo hi st xs.length).2.2).filterMap (xs[·]?)
theorem pick_map {α β : Type} (f : α → β) (xs : List α) (lo hi st : Option Int) : pick (xs.map f) lo hi st = (pick xs lo hi st).map f := by
  unfold pick
  rw [List.length_map, List.map_filterMap]
  congr 1
  funext i
  rw [List.getElem?_map]
theorem pick_len {α : Type} (xs : List α) (lo hi st : Option Int) : (pick xs lo hi st).length ≤ (sliceRange (sliceBounds lo hi st xs.length).1 (sliceBounds lo hi st xs.length).2.1 (sliceBounds lo hi st xs.length).2.2).length := List.length_filterMap_le _ _
theorem vals_pick : ∀ (is : List Nat) {xs : List V} {us : List Value}, Vals xs us → Vals (is.filterMap (xs[·]?)) (is.filterMap (us[·]?))
  | [], _, _, _ => .nil
  | i :: is, xs, us, r => by
    cases h : xs[i]? with
    | none =>
      rw [List.filterMap_cons_none h, List.filterMap_cons_none (r.none_of h)]
      exact vals_pick is r
    | some x =>
      obtain ⟨u, hu, ru⟩ := r.get h
      rw [List.filterMap_cons_some h, List.filterMap_cons_some hu]
      exact .cons ru (vals_pick is r)
def tSl3 (K : PySem.W.Frag) (te : TE) (tl th ts : TO) : TE := fun σ H Q => te σ H fun x H1 => tl σ H1 fun l H2 => th σ H2 fun u H3 => ts σ H3 fun st H4 => ∃ a xs, x = .ref a ∧ SqL K H4 a xs ∧ st ≠ some 0 ∧ (pick xs l u st).length ≤ sizeLine ∧
  ∀ p, H4 p = none → Q (.ref p) (upd H4 p (.lst (pick xs l u st)))
theorem pe_slice3 {X : Cx} {e : Expr} {te : TE} {lo hi : Option Expr} {st : Expr} {tl th ts : TO} {pos p2 : Pos} (he : PE X e te) (hl : PO X lo tl) (hu : PO X hi th) (hst : PO X (some st) ts)
    (hsub : ∀ o i, subscripted (.Slice lo hi (some st) p2) false o i = operate [o, i] (getItem o i) := by intros; with_unfolding_all rfl) : PE X (.Subscript e (.Slice lo hi (some st) p2) pos) (tSl3 X.K te tl th ts) := by
  refine ⟨fun pins s σ H Q I h => ?_⟩
  refine Subscript_ (thn (he.run pins s σ H _ I h) fun v s1 ⟨x, H1, I1, r1, q1⟩ => ?_)
  refine wpAny_Slice (thn (hl.run pins s1 σ H1 _ I1 q1) fun vl s2 ⟨l, H2, I2, pl, q2⟩ => thn (hu.run pins s2 σ H2 _ I2 q2) fun vu s3 ⟨u, H3, I3, pu, q3⟩ => thn (hst.run pins s3 σ H3 _ I3 q3) fun vs s4 ⟨k, H4, I4, pk, q4⟩ => ?_)
  obtain ⟨a, xs, rfl, hx, h0, hz, q⟩ := q4
  have I5 : Inv X pins σ H4 { s4 with heap := s4.heap.push { cls := .type "slice", data := .fields #[vl, vu, vs] } } := I4.kept (t' := s4.toks) fun b ob q => Heap.get?_push_of_some _ q
  cases r1
  obtain ⟨its, r, ht, hzx⟩ := I5.list hx
  have hlen := r.length
  refine tail_any (ops := [.ref a, .ref s4.heap.objs.size]) ht.isList.typeIs slot_list_getitem.lookup ?_ (hsub _ _)
  refine wpAny_getItem_list_slice ht.isList (Heap.IsSliceOf.new ..) pl pu pk h0 ?_ (by rw [List.size_toArray] <;> omega)
  have ep : slicePick its.toArray l u k = (pick its l u k).toArray := by
    unfold slicePick pick
    simp only [List.size_toArray, List.getElem?_toArray]
  have rv : Vals (pick xs l u k) (pick its l u k) := by
    unfold pick
    rw [hlen]
    exact vals_pick _ r
  rw [ep]
  exact ⟨.ref _, _, I5.laid (o := .lst (pick xs l u k)) (t' := s4.toks) (fun b ob q => Heap.get?_push_of_some _ q) (Nat.le_refl _) ⟨hz, _, 0, rv, Heap.get?_push_size _ rfl⟩, rfl, q _ (I5.hok.fresh (Nat.le_refl _))⟩
/-! ### list(range(a, b, c)) -/
def tRg3 (ta tb tc : TE) : L2.St → Hp → (Int → Int → Int → Hp → Prop) → Prop := fun σ H Q => ta σ H fun x H1 => tb σ H1 fun y H2 => tc σ H2 fun z H3 => ∃ i j k, x = .int i ∧ y = .int j ∧ z = .int k ∧ k ≠ 0 ∧ k.natAbs < 1073741824 ∧ Q i j k H3
def PRg3 (X : Cx) (e : Expr) (t : L2.St → Hp → (Int → Int → Int → Hp → Prop) → Prop) : Prop :=
  ∀ (pins : List (Addr × Obj)) (s : Shared) (σ : L2.St) (H : Hp) (Q : Int → Int → Int → Hp → Prop), Inv X pins σ H s → t σ H Q →
    wpAny (model X.prog X.w) X.A (eval e X.env) (fun x s' => ∃ r a b c t u v H', x = .ref r ∧ IsRange s'.heap r a b c t u v ∧ Inv X pins σ H' s' ∧ Q a b c H') X.xe s
theorem prg_3 {X : Cx} {a b c : Expr} {ta tb tc : TE} {p pos : Pos} (hg : Gl X "range") (hm : X.mg "range" = none) (ha : PE X a ta) (hb : PE X b tb) (hc : PE X c tc)
    (na : starEach [a, b, c] X.env = (false, eval a X.env) :: starEach [b, c] X.env := by rfl) (nb : starEach [b, c] X.env = (false, eval b X.env) :: starEach [c] X.env := by rfl) (nc : starEach [c] X.env = (false, eval c X.env) :: starEach [] X.env := by rfl)
    (hp : (backTo pos (starEach [b, c] X.env)).any (·.1) = false := by rfl) : PRg3 X (.Call (.Name "range" p) [a, b, c] [] pos) (tRg3 ta tb tc) := by
  intro pins s σ H Q I h
  refine Call_ (ld_blt I hg hm boot_range (PyProof.Rows.callWith_type1 (args_cons (thn (ha.run pins s σ H _ I h) fun v s1 ⟨x, H1, I1, r1, q1⟩ => args_cons (thn (hb.run pins s1 σ H1 _ I1 q1) fun u s2 ⟨y, H2, I2, r2, q2⟩ => one_arg hc I2 q2 (fun t s3 z H3 I3 r3 q => ?_) nc) nb) na) na hp))
  obtain ⟨i, j, k, rfl, rfl, rfl, k0, k1, q⟩ := q
  obtain ⟨t1, rfl⟩ := r1
  obtain ⟨t2, rfl⟩ := r2
  obtain ⟨t3, rfl⟩ := r3
  exact call_range_3 k0 ⟨_, i, j, k, _, _, _, H3, rfl, IsRange.new _ _ _ _ _ _ _, I3.kept fun b u e => Heap.get?_push_of_some _ e, q⟩ (.inl (PyProof.noPylong_small k1))
def rgV3 (a c : Int) (n : Nat) : List V := (List.range n).map fun i => V.int (a + (i : Nat) * c)
theorem vals_rg3 {a c : Int} {n : Nat} {acc : Array Value} (h : ItemsOf (fun i v => ∃ t, v = .int (a + i * c) t) acc n) : Vals (rgV3 a c n) acc.toList := by
  have e : acc.toList.length = n := by rw [Array.length_toList]; exact h.1
  unfold rgV3
  rw [← e]
  refine vals_of_get acc.toList _ fun j u hj => ?_
  obtain ⟨t, rfl⟩ := h.2 j u (by rw [← hj, Array.getElem?_toList])
  exact ⟨t, rfl⟩
def tLstRg3 (te : L2.St → Hp → (Int → Int → Int → Hp → Prop) → Prop) : TE := fun σ H Q => te σ H fun a b c H1 => ∃ n : Nat, Builtin.Range.small a b c = true ∧ Builtin.Range.rangeSize a b c = n ∧ n ≤ 1000 ∧ ∀ q, H1 q = none → Q (.ref q) (upd H1 q (.lst (rgV3 a c n)))
theorem pe_listRg3 {X : Cx} {e : Expr} {te : L2.St → Hp → (Int → Int → Int → Hp → Prop) → Prop} {p pos : Pos} (hc : X.calm = true) (hg : Gl X "list") (hm : X.mg "list" = none) (he : PRg3 X e te) (na : starEach [e] X.env = (false, eval e X.env) :: starEach [] X.env := by rfl) :
    PE X (.Call (.Name "list" p) [e] [] pos) (tLstRg3 te) := by
  refine ⟨fun pins s σ H Q I h => ?_⟩
  refine Call_ (ld_blt I hg hm boot_list (PyProof.Rows.callWith_type1 (args_cons (thn (he pins s σ H _ I h) fun x s1 ⟨r, a, b, c, t, u, v, H1, ex, hr, I1, n, b1, b2, b3, q⟩ => args_nil ?_) na) na))
  subst ex
  refine call_list_range (I1.ok.hd hc) hr b1 b2 (by omega) fun h' tk acc c' hk e' hi => ?_
  have hz : (rgV3 a c n).length ≤ sizeLine := by unfold rgV3; rw [List.length_map, List.length_range, sizeLine_eq]; omega
  exact ⟨.ref _, _, I1.laid (o := .lst (rgV3 a c n)) hk (Nat.le_refl _) ⟨hz, acc.toList, c', vals_rg3 hi, by rw [Array.toArray_toList]; exact e'⟩, rfl, q _ (I1.hok.fresh (Nat.le_refl _))⟩
theorem rg3_ok : ∀ n : Nat, n < 200 → Builtin.Range.small 0 n 3 = true ∧ Builtin.Range.rangeSize 0 n 3 = (((n + 2) / 3 : Nat) : Int) := by decide +kernel
end WA

namespace WA
open PySem PySem.Spec PyProof.Rows L2 Evl
/-! ### set(xs), xs a list, whatever its items are -/
/-- a set object just made -/
abbrev newSetO (w : World) : Obj := { cls := .type "set", dict := none, data := .set #[] 0 (.fresh 0 0 (!w.params.followText "set-order")) }
/-- all that stands in the one heap stands in the other one, too -/
def Grows (h h' : Heap) : Prop := ∀ b o, h.get? b = some o → h'.get? b = some o
/-- behind set(xs): what Fl says of the place that was free, and nothing else is changed -/
def Filled (Fl : Addr → Heap → Prop) (s s2 : Shared) : Prop := ∃ h' tk, s2 = { s with heap := h', toks := tk } ∧ Fl s.heap.objs.size h' ∧ Grows s.heap h'
/-- the loop over the list at l makes of an empty set at a what Fl says -/
def Fills (P : Program) (w : World) (l : Addr) (its : Array Value) (Fl : Addr → Heap → Prop) : Prop :=
  ∀ (A : Around) (a it : Addr) (t : Shared) (R : Result → Shared → Prop), A.handled = none → l ≠ it → a ∉ [it, l] → t.heap.get? a = some (newSetO w) → t.heap.IsListIter it l 0 → t.heap.IsList l its →
    (∀ t', Moved [a, it] (fun g g' => g' = g) t t' → Fl a t'.heap → R (.ok (.ret .none)) t') → codeAny (model P w) A (.builtin "set.update.loop" ⟨[.ref a, .ref it], []⟩) R t
theorem Fills.mono {P : Program} {w : World} {l : Addr} {its : Array Value} {Fl Fl' : Addr → Heap → Prop} (F : Fills P w l its Fl) (h : ∀ a p, Fl a p → Fl' a p) : Fills P w l its Fl' :=
  fun A a it t R x1 x2 x3 x4 x5 x6 q => F A a it t R x1 x2 x3 x4 x5 x6 fun t' m f => q t' m (h a _ f)
/-- the place behind the last one, and the one behind that -/
theorem new_apart {h : Heap} {o o' : Obj} {l : Addr} (e : h.get? l = some o) : l ≠ (h.push o').objs.size ∧ h.objs.size ∉ [(h.push o').objs.size, l] ∧ ∀ b u, h.get? b = some u → b ∉ [h.objs.size, (h.push o').objs.size] := by
  have z : (h.push o').objs.size = h.objs.size + 1 := Heap.size_push ..
  have far : ∀ (b : Addr) (u : Obj), h.get? b = some u → b ≠ (h.push o').objs.size ∧ b ≠ h.objs.size := fun b u eb => by
    have lt := Heap.lt_size eb
    exact ⟨fun q => Nat.lt_irrefl _ (Nat.lt_trans (z ▸ q ▸ lt : (h.objs.size + 1) < h.objs.size) (Nat.lt_succ_self _)), Nat.ne_of_lt lt⟩
  refine ⟨(far l o e).1, fun m => ?_, fun b u eb m => ?_⟩
  · rcases (List.mem_cons.mp m).imp_right List.mem_singleton.mp with q | q
    · exact Nat.ne_of_lt (Nat.lt_succ_self _) (q.trans z)
    · exact (far l o e).2 q.symm
  · rcases (List.mem_cons.mp m).imp_right List.mem_singleton.mp with q | q
    · exact (far b u eb).2 q
    · exact (far b u eb).1 q
section
variable {P : Program} {w : World} {l : Addr} {its : Array Value} {Fl : Addr → Heap → Prop} {A : Around} {s : Shared} {E : Value → Shared → Prop}
theorem fill_init (fl : Fills P w l its Fl) (hh : A.handled = none) (hl : s.heap.IsList l its) {R : PySem.Fin → Shared → Prop}
    (hR : ∀ f t, wants (fun r t => r = .none ∧ Filled Fl s t) E (.ok f) t → R (.done f) t) {E' : Value → Shared → Prop} :
    wpAny (model P w) A (Builtin.«set.__init__» ⟨[.ref s.heap.objs.size, .ref l], []⟩) R E' { s with heap := s.heap.push (newSetO w) } := by
  obtain ⟨⟨cl, di, da, sl⟩, hol, e1, nl, e2⟩ := hl
  dsimp only at e1 e2
  cases e1
  cases e2
  obtain ⟨ap1, ap2, ap3⟩ := new_apart (o' := newSetO w) hol
  have atNew : (s.heap.push (newSetO w)).get? s.heap.objs.size = some (newSetO w) := Heap.get?_push_size _ rfl
  have atOld := Heap.get?_push_of_some (newSetO w) hol
  have isl : (s.heap.push (newSetO w)).IsList l its := ⟨_, atOld, rfl, nl, rfl⟩
  have t1 := F.sub_list_set
  have t2 := F.sub_list_frozenset
  have t3 : (Value.type "list" == Value.type "dict") = false := by decide
  unfold Builtin.«set.__init__»
  unfold noKeywords Builtin.Frozenset.updateFrom
  generalize hPI : pyIter = PI
  wp_walk
  subst hPI
  refine wpAny_pyIter_list isl (wpAny_bind (wpAny_runValue (fl _ _ _ _ _ (by simp [hh]) ap1 ap2 (Heap.get?_push_of_some _ atNew) ⟨_, Heap.get?_push_size _ rfl, rfl, rfl⟩ (isl.push _) fun t m q => wpAny_pure (wpAny_pure (hR _ _ ⟨rfl, t.heap, t.toks, ?_, q, fun b o e => ?_⟩)))))
  · obtain ⟨th, tg, td, tt, to⟩ := t
    cases m.gens
    cases m.drawn
    cases m.os
    rfl
  · exact m.heap b o (ap3 b o e) (Heap.get?_push_of_some _ (Heap.get?_push_of_some _ e))
/-- set(xs) -/
theorem call_fill (fl : Fills P w l its Fl) (hh : A.handled = none) (hl : s.heap.IsList l its) {Q : Value → Shared → Prop} (hQ : ∀ t, Filled Fl s t → Q (.ref s.heap.objs.size) t) : wpAny (model P w) A (call (.type "set") [.ref l]) Q E s := by
  have tc := F.called_set
  obtain ⟨m1, m2, hm⟩ := tc.mro
  have hma := tc.made
  have hsu := tc.sub
  have k0 := F.typeCall_set_1 (.ref l)
  have k1 := tc.notType
  have k2 := tc.canCreate
  have quiet : (Code.builtin "type.__call__" ⟨[.type "set", .ref l], []⟩).quiet = true := Code.quiet_builtin _ (by decide +kernel)
  have plain := Around.under_plain (A := A) (weight_type_call_type "set" [.ref l] []) rfl
  refine wpAny_call (codeAny_of_tree (wpAny_pure ⟨quiet, codeAny_builtin F.entry_type_call ?_⟩))
  rw [plain]
  repeat any_goals first | assumption | wp_step
  let s0 : Shared := { s with heap := s.heap.push (newSetO w) }
  refine codeAny_mono (code_set_led1 (Q₁ := fun x t => x = .ref s.heap.objs.size ∧ t = s0) (E := E) (.ref l) ⟨rfl, rfl⟩) fun r1 t1 g1 => ?_
  match r1, g1 with
  | .error e, g1 => exact g1
  | .ok .next, g1 => exact g1.elim
  | .ok .brk, g1 => exact g1.elim
  | .ok .cont, g1 => exact g1.elim
  | .ok (.ret x), g1 =>
    obtain ⟨rfl, rfl⟩ := g1
    have hT : s0.TypeIs (.ref s.heap.objs.size) "set" := ⟨_, Heap.get?_push_size _ rfl, rfl⟩
    have y1 := tc.init.lookup
    have y2 := tc.init.bind (.ref s.heap.objs.size)
    repeat any_goals first | assumption | wp_step
    refine codeAny_mono (codeAny_call_builtin (R := wants (fun r t => r = .none ∧ Filled Fl s t) E) tc.init.plain F.entry_set_init (check_set_init_1 hT (fill_init fl (by simp [hh]) hl fun f t g => g))) fun r2 t2 g2 => ?_
    match r2, g2 with
    | .error e, g2 => exact g2
    | .ok .next, g2 => exact g2.elim
    | .ok .brk, g2 => exact g2.elim
    | .ok .cont, g2 => exact g2.elim
    | .ok (.ret x), g2 =>
      obtain ⟨rfl, mk⟩ := g2
      repeat any_goals first | assumption | wp_step
      exact hQ _ mk
end
/-! ### set(xs), xs a list of ints -/
theorem fills_ints {P : Program} {w : World} {l : Addr} {its : Array Value} {ns : List Int} (hi : IntsAre its.toList ns) (hb : ns.length + 1 < scanBound) : Fills P w l its fun a h => ∃ c, SetR w h a (fun j => decide (j ∈ ns)) c := by
  intro A a it t R hh hit ha h0 h1 h2 hR
  have hsz : its.size = ns.length := by
    have q := IntsAre.length hi
    rwa [Array.length_toList] at q
  have val : ∀ (i : Nat) (v : Value), its[i]? = some v → ∃ k t, ns[i]? = some k ∧ v = .int k t := by
    intro i v hv
    have hv' : its.toList[i]? = some v := by rw [Array.getElem?_toList]; exact hv
    obtain ⟨t, e⟩ := IntsAre.int_at hi i v hv'
    have hlt2 : i < ns.length := by rw [← hsz]; exact (Array.getElem?_eq_some_iff.mp hv).1
    refine ⟨ns[i], t, List.getElem?_eq_getElem hlt2, ?_⟩
    rw [e, List.getD_eq_getElem?_getD, List.getElem?_eq_getElem hlt2] <;> rfl
  exact set_update_ints (Walks.list (prog := P) (w := w) (A := A.in1) (by simp [hh]) it l hit its).toS a ha ns hsz hb val its.size 0 t rfl (Nat.zero_le _) ⟨h1, h2⟩ ⟨0, Nat.le_refl 0, setR_new_at h0⟩ fun t' c m _ r => hR t' m ⟨c, r⟩
/-- the members, one by one -/
def Keys0 (ns ks : List Int) : Prop := ks.Nodup ∧ ∀ k, k ∈ ks ↔ k ∈ ns
theorem setR_keys {w : World} {h : Heap} {a : Addr} {ns : List Int} {c : Nat} (R : SetR w h a (fun j => decide (j ∈ ns)) c) : ∃ ks, Keys0 ns ks ∧ ks.length = c := by
  obtain ⟨o, es, ep, t, _, _, _, _, nd, hk, _, _, hn, _⟩ := R
  refine ⟨es.toList.map keyOf, ⟨nd, fun k => ?_⟩, ?_⟩
  · have z := hk k
    simp only [decide_eq_true_eq] at z
    exact z.symm
  · rw [List.length_map, Array.length_toList]; exact hn
/-- set(xs) -/
def rSetI (K : PySem.W.Frag) (w : World) : List V → Hp → VK → Prop := fun xs H Q => ∃ p ns, xs = [.ref p] ∧ SqL K H p (ns.map V.int) ∧ ns.length ≤ 1000 ∧
  ∀ l ks, H l = none → Keys0 ns ks → Q (.ref l) (upd H l (SetO w l (fun j => decide (j ∈ ns)) ks.length))
theorem cr_setI {X : Cx} (hc : X.calm = true) : CallR X (.type "set") (rSetI X.K X.w) := by
  intro pins s σ H xs us Q I r ⟨p, ns, ex, hp, hz, q⟩
  subst ex
  rw [Vals.ref1 r]
  obtain ⟨its, rv, pl, hlen⟩ := I.list hp
  refine call_fill (fills_ints (ints_of_vals rv) (by have : 1000 + 1 < scanBound := (by decide); omega)) (I.ok.hd hc) pl.isList fun s2 ⟨h', tk, e, ⟨c, R⟩, kp⟩ => ?_
  obtain ⟨ks, k1, rfl⟩ := setR_keys R
  subst e
  exact ⟨.ref _, _, I.laid (t' := tk) kp (Nat.le_refl _) (setO_new R), rfl, q _ ks (I.hok.fresh (Nat.le_refl _)) k1⟩
theorem nodup_le {ks ns : List Int} (h : ks.Nodup) (g : ∀ k, k ∈ ks → k ∈ ns) : ks.length ≤ ns.length := by
  induction ks generalizing ns with
  | nil => simp
  | cons x r ih =>
    rw [List.nodup_cons] at h
    have hx := g x (by simp)
    have q := ih h.2 (ns := ns.erase x) fun k hk => (List.mem_erase_of_ne fun (z : k = x) => h.1 (by rw [← z]; exact hk)).mpr (g k (by simp [hk]))
    have p := List.length_pos_of_mem hx
    rw [List.length_erase_of_mem hx] at q
    simp only [List.length_cons]
    omega
theorem Keys0.le {ns ks : List Int} (h : Keys0 ns ks) : ks.length ≤ ns.length := nodup_le h.1 fun k hk => (h.2 k).mp hk
end WA

namespace WA
open PySem PySem.Spec PyProof.Rows L2 Evl
/-! ### signs stripped -/
theorem strip_signs (r : List Bool) : Txt.stripChars (rs r) "x-" = "" := by
  have h0 : ∀ b, (("x-" : Str).cps.contains (sg b)) = true := by intro b; cases b <;> decide +kernel
  have e1 : ((rs r).cps.toList.takeWhile ("x-" : Str).cps.contains).length = r.length := by
    rw [rs_tl]
    have : ∀ l : List Bool, ((l.map sg).takeWhile ("x-" : Str).cps.contains) = l.map sg := by
      intro l
      induction l with
      | nil => rfl
      | cons b l ih => rw [List.map_cons, List.takeWhile_cons, if_pos (h0 b), ih]
    rw [this, List.length_map]
  have e2 : stripLo ("x-" : Str).cps.contains true (rs r) = r.length := e1
  have e3 : stripHi ("x-" : Str).cps.contains true (rs r) r.length = r.length := by
    unfold stripHi
    rw [if_pos rfl, rs_tl, List.drop_of_length_le (by rw [List.length_map]; exact Nat.le_refl _), rs_len]
    rfl
  unfold Txt.stripChars Txt.stripBy
  unfold stripSame stripped
  rw [e2, e3, rs_len]
  cases r with
  | nil =>
    rw [if_pos (by rfl)]
    rfl
  | cons b r =>
    rw [if_neg (by simp)]
    refine TL.ext_tl ?_
    rw [TL.tl_strSub, Nat.sub_self, List.take_zero]
    decide +kernel
/-! ### a table at an address -/
structure At (K : PySem.W.Frag) (H : Hp) (a : Addr) (T : Tb) (w : Nat) : Prop where
  sq : SqL K H a (tv T)
  rect : Rect T w
  ln : T.length ≤ 1000
  lw : w ≤ 1000
theorem At.mono {K : PySem.W.Frag} {H H' : Hp} {a : Addr} {T : Tb} {w : Nat} (h : At K H a T w) (e : Ex H H') : At K H' a T w := ⟨ex_l e h.sq, h.rect, h.ln, h.lw⟩
theorem At.row {K : PySem.W.Frag} {H : Hp} {a : Addr} {T : Tb} {w i : Nat} (h : At K H a T w) (hi : i < T.length) : (T.getD i []).length = w := by
  rw [List.getD_eq_getElem?_getD, List.getElem?_eq_getElem hi]
  exact h.rect _ (List.getElem_mem hi)
theorem row_at {T : Tb} {i : Nat} (hi : i < T.length) : T[i]? = some (T.getD i []) := by
  rw [List.getD_eq_getElem?_getD, List.getElem?_eq_getElem hi]; rfl
theorem mem_row {T : Tb} {i : Nat} (hi : i < T.length) : T.getD i [] ∈ T := List.mem_of_getElem? (row_at hi)
section
variable {K : PySem.W.Frag} {σ : L2.St} {H H' : Hp} {te ta tb : TE}
theorem dec_s1 (b c : Bool) : decide (V.str (s1 b) = V.str (s1 c)) = decide (b = c) := by
  by_cases h : b = c
  · subst h; simp
  · rw [decide_eq_false h, decide_eq_false fun e => h (s1_inj (V.str.inj e))]
theorem ev_isX {b : Bool} (h : Ev te σ H (.str (s1 b))) : Ev (tOp rEq te (tC (.str "x"))) σ H (.bl b) :=
  ev_is (ev_op h ev_c (rv_eq rfl)) (by rw [s1_x, dec_s1]; cases b <;> rfl)
theorem ev_isD {b : Bool} (h : Ev te σ H (.str (s1 b))) : Ev (tOp rEq te (tC (.str "-"))) σ H (.bl (!b)) :=
  ev_is (ev_op h ev_c (rv_eq rfl)) (by rw [s1_d, dec_s1]; cases b <;> rfl)
/-- T[i] -/
theorem ev_rowI {T : Tb} {i : Nat} {v : V} (h : EvS K ta σ H (tv T)) (hi : i < T.length) (hb : Ev tb σ H (.int (i : Nat))) : Ev (tOp (rIxL K) ta tb) σ H (.str (rs (T.getD i []))) := ev_ixLS h hb (atI_nat (tv_get (row_at hi)))
/-- T[i][j] -/
theorem ev_cell {a : Addr} {T : Tb} {w i j : Nat} {tc : TE} (h : At K H a T w) (ha : Ev ta σ H (.ref a)) (hb : Ev tb σ H (.int (i : Nat))) (hc : Ev tc σ H (.int (j : Nat))) (hi : i < T.length) (hj : j < w) :
    Ev (tOp rIxS (tOp (rIxL K) ta tb) tc) σ H (.str (s1 (gt T i j))) := by
  have hr := h.row hi
  have := h.lw
  exact ev_ixSg (ev_rowI (v := .non) (evs ha h.sq) hi hb) hc (by omega) (by omega)
theorem ev_lenTab {a : Addr} {T : Tb} {w : Nat} (h : At K H a T w) (ha : Ev ta σ H (.ref a)) : Ev (tCB (rLn K) (tCons ta tNil)) σ H (.int (T.length : Nat)) := by
  have := ev_lenS (evs ha h.sq)
  rw [tv_len] at this
  exact this
theorem ev_lenRow {r : List Bool} (h : Ev te σ H (.str (rs r))) (hz : r.length ≤ 1000) : Ev (tCB (rLn K) (tCons te tNil)) σ H (.int (r.length : Nat)) := by
  have := ev_lenT (K := K) h (by rw [rs_len]; omega)
  rw [rs_len] at this
  exact this
/-- len(T[0]) -/
theorem ev_len0 {a : Addr} {T : Tb} {w : Nat} (h : At K H a T w) (ha : Ev ta σ H (.ref a)) (hn : T ≠ []) : Ev (tCB (rLn K) (tCons (tOp (rIxL K) ta (tC (.int 0))) tNil)) σ H (.int (w : Nat)) := by
  have h0 : 0 < T.length := List.length_pos_iff.mpr hn
  have hr := h.row h0
  have := h.lw
  have z := ev_lenRow (K := K) (ev_rowI (v := .non) (evs ha h.sq) h0 (tb := tC (.int 0)) ev_c) (by omega)
  rw [hr] at z
  exact z
/-- T == [] -/
theorem ev_empty {T : Tb} (h : EvS K ta σ H (tv T)) : Ev (tOp (rEqD K) ta (tLst tNil)) σ H (.bl (decide (T = []))) :=
  ev_is (ev_eqS h (els el_nil) (si_tv T) rfl) (by rw [show ([] : List V) = tv [] from rfl, dec_tv])
theorem ev_nempty {T : Tb} (h : EvS K ta σ H (tv T)) : Ev (tOp (rNeD K) ta (tLst tNil)) σ H (.bl (!decide (T = []))) :=
  ev_is (ev_neS h (els el_nil) (si_tv T) rfl) (by rw [show ([] : List V) = tv [] from rfl, dec_tv])
theorem ev_eqTab {T T' : Tb} (h : EvS K ta σ H (tv T)) (g : EvS K tb σ H (tv T')) : Ev (tOp (rEqD K) ta tb) σ H (.bl (decide (T = T'))) :=
  ev_is (ev_eqS h g (si_tv T) (si_tv T')) (by rw [dec_tv])
theorem ev_neTab {T T' : Tb} (h : EvS K ta σ H (tv T)) (g : EvS K tb σ H (tv T')) : Ev (tOp (rNeD K) ta tb) σ H (.bl (!decide (T = T'))) :=
  ev_is (ev_neS h g (si_tv T) (si_tv T')) (by rw [dec_tv])
theorem ev_eqInts {T T' : List Int} (h : EvS K ta σ H (T.map V.int)) (g : EvS K tb σ H (T'.map V.int)) : Ev (tOp (rEqD K) ta tb) σ H (.bl (decide (T = T'))) :=
  ev_is (ev_eqS h g (si_ints T) (si_ints T')) (by rw [dec_ints])
theorem ev_neInts {T T' : List Int} (h : EvS K ta σ H (T.map V.int)) (g : EvS K tb σ H (T'.map V.int)) : Ev (tOp (rNeD K) ta tb) σ H (.bl (!decide (T = T'))) :=
  ev_is (ev_neS h g (si_ints T) (si_ints T')) (by rw [dec_ints])
theorem ev_lenInts {ns : List Int} (h : EvS K ta σ H (ns.map V.int)) : Ev (tCB (rLn K) (tCons ta tNil)) σ H (.int (ns.length : Nat)) := by
  have := ev_lenS h
  rw [List.length_map] at this
  exact this
/-- row.strip("x-") != "" -/
theorem ev_strip {r : List Bool} (h : Ev te σ H (.str (rs r))) (hz : r.length ≤ 1000) : Ev (tM1 rStripC te (tC (.str "x-"))) σ H (.str "") := fun H1 e Q q =>
  h H1 e _ fun H2 e2 => ⟨⟨_, rfl⟩, ⟨rs r, "x-", rfl, rfl, sz_of (by rw [rs_len]; omega), by rw [strip_signs]; exact q H2 e2⟩⟩
/-- the turned table as a comprehension gives it -/
theorem el_turn {a : Addr} {T : Tb} {w j k : Nat} {t1 t2 : TE} {vs vs' : List Nat} {tn : TE} (h : At K H a T w) (hn : Ev tn σ H (.int (w : Nat))) (hw : ∀ x, wipe ((wipe σ vs).set j (some x)) vs = wipe σ vs)
    (hw' : ∀ x y, wipe ((wipe ((wipe σ vs).set j (some x)) vs').set k (some y)) vs' = wipe ((wipe σ vs).set j (some x)) vs')
    (ht : ∀ i, i < w → Ev t1 ((wipe σ vs).set j (some (.int (i : Nat)))) H (.ref a))
    (he : ∀ i r, i < w → r ∈ T → Ev t2 ((wipe ((wipe σ vs).set j (some (.int (i : Nat)))) vs').set k (some (.str (rs r)))) H (.str (s1 (r.getD i false)))) :
    EvL (tLc (iRng1 (tCons tn tNil)) (gName j) tYes (tM1 (rJoin K) (tC (.str "")) (tLc (iList K t1) (gName k) tYes t2 vs')) vs) σ H (tv (turn T w)) := by
  have hl := h.ln
  have hlw := h.lw
  refine EvL.is (el_mapR (f := fun i => V.str (rs (T.map fun r => r.getD i false))) hn (by omega) hw fun i hi => ?_) (by unfold tv turn; rw [List.map_map]; rfl)
  refine ev_joinS (bs := T.map fun r => r.getD i false) ?_ (by rw [List.length_map]; omega)
  rw [List.map_map]
  exact els (el_map (l := T) (g := fun r => V.str (rs r)) (evs (ht i hi) h.sq) (by omega) (hw' _) fun r hr => he i r hi hr)
end
/-! ### a bit's sign -/
def bit (c : Int) (k : Nat) : Bool := decide (c / 2 ^ k % 2 = 1)
section
variable {K : PySem.W.Frag} {σ : L2.St} {H H' : Hp} {ta tb te tx : TE} {t u : TT} {x y z v : V} {D : Ends} {tu tw tz : TS} {g : TG}
theorem ev_bitSg {c : Int} {k : Nat} (h : Ev ta σ H (.int c)) (h' : Ev tb σ H (.int (k : Nat))) : Ev (tOp rIxS (tC (.str "-x")) (tOp rAndI (tOp rShrI ta tb) (tC (.int 1)))) σ H (.str (s1 (bit c k))) := by
  have e1 : Builtin.bitAnd (c / 2 ^ ((k : Nat) : Int).toNat) 1 = c / 2 ^ k % 2 := by rw [Int.toNat_natCast, bitAnd_m1]
  have h1 : Ev (tOp rAndI (tOp rShrI ta tb) (tC (.int 1))) σ H (.int (c / 2 ^ k % 2)) := ev_is (ev_op (ev_op h h' (rv_I (Int.natCast_nonneg _))) ev_c rv_I0) (by rw [e1])
  have hl : ("-x" : Str).length ≤ 100000 := by decide +kernel
  have h2 : c / 2 ^ k % 2 = 0 ∨ c / 2 ^ k % 2 = 1 := by omega
  rcases h2 with h2 | h2
  · rw [h2] at h1
    have z := ev_op (ev_c (σ := σ) (H := H) (v := V.str "-x")) h1 (rv_ixS (c := 45) hl (by decide +kernel))
    refine ev_is z ?_
    unfold bit
    rw [h2]
    rfl
  · rw [h2] at h1
    have z := ev_op (ev_c (σ := σ) (H := H) (v := V.str "-x")) h1 (rv_ixS (c := 120) hl (by decide +kernel))
    refine ev_is z ?_
    unfold bit
    rw [h2]
    rfl
theorem q_asgUg {xs : List V} (h : EvU te σ H xs) (k : ∀ p H1, Ex H H1 → H1 p = some (.tup xs) → g (.ref p) σ H1 (tz D)) : tSeq (tAsg te g) tz D σ H := h H (Ex.refl H) _ fun p H1 _ e1 hp => k p H1 e1 hp
/-- i, j = a, b by a tuple -/
theorem q_pair {i j : Nat} (ha : Ev ta σ H x) (hb : Ev tb σ H y) (k : ∀ H1, Ex H H1 → tz D ((σ.set i (some x)).set j (some y)) H1) :
    tSeq (tAsg (tTup (tCons ta (tCons tb tNil))) (gTup K 2 (gCons (gName i) (gCons (gName j) gNil)))) tz D σ H :=
  q_asgUg (xs := [x, y]) (eu_tup (ea_cons ha (ea_cons hb ea_nil)) (show 2 ≤ 100000 by decide)) fun p H1 e1 hp => g_pair (st_of hp) (k H1 e1)
theorem q_parA {i j : Nat} {ts : TA} (h : EvA ts σ H [x, y]) (k : ∀ H1, Ex H H1 → tz D ((σ.set i (some x)).set j (some y)) H1) : tSeq (tPar i j ts) tz D σ H :=
  h H (Ex.refl H) _ fun H1 e1 => ⟨x, y, rfl, k H1 e1⟩
/-- i, j = a, b -/
theorem q_par {i j : Nat} (ha : Ev ta σ H x) (hb : Ev tb σ H y) (k : ∀ H1, Ex H H1 → tz D ((σ.set i (some x)).set j (some y)) H1) : tSeq (tPar i j (tCons ta (tCons tb tNil))) tz D σ H :=
  q_parA (ea_cons ha (ea_cons hb ea_nil)) k
/-- (a, b, c)[code % 3] -/
def pick3 (m : Int) (a b c : Int) : Int := if m = 0 then a else if m = 1 then b else c
theorem at_pick3 {m a b c : Int} (h : 0 ≤ m ∧ m < 3) : atI [V.int a, V.int b, V.int c] m = some (.int (pick3 m a b c)) := by
  have : m = 0 ∨ m = 1 ∨ m = 2 := by omega
  rcases this with rfl | rfl | rfl <;> rfl
theorem ev_pick3 {m a b c : Int} {tc tm : TE} (ha : Ev ta σ H (.int a)) (hb : Ev tb σ H (.int b)) (hc : Ev tc σ H (.int c)) (hm : Ev tm σ H (.int m)) (h : 0 ≤ m ∧ m < 3) :
    Ev (tOp (rIxT K) (tTup (tCons ta (tCons tb (tCons tc tNil)))) tm) σ H (.int (pick3 m a b c)) :=
  ev_ixU (eu_tup (ea_cons ha (ea_cons hb (ea_cons hc ea_nil))) (show 3 ≤ 100000 by decide)) hm (at_pick3 h)
def pick4 (m : Int) : Int := if m = 0 then 0 else if m = 1 then 1 else if m = 2 then 0 else 2
theorem ev_pick4 {m : Int} {tm : TE} (hm : Ev tm σ H (.int m)) (h : 0 ≤ m ∧ m < 4) :
    Ev (tOp (rIxT K) (tTup (tCons (tC (.int 0)) (tCons (tC (.int 1)) (tCons (tC (.int 0)) (tCons (tC (.int 2)) tNil))))) tm) σ H (.int (pick4 m)) :=
  ev_ixU (eu_tup (ea_cons ev_c (ea_cons ev_c (ea_cons ev_c (ea_cons ev_c ea_nil)))) (by decide)) hm (by
    have : m = 0 ∨ m = 1 ∨ m = 2 ∨ m = 3 := by omega
    rcases this with rfl | rfl | rfl | rfl <;> rfl)
theorem pick4_ok (m : Int) : 0 ≤ pick4 m ∧ pick4 m ≤ 2 := by
  unfold pick4
  split
  · omega
  · split
    · omega
    · split <;> omega
/-! ### a sign turned -/
theorem rs_app (a b : List Bool) : rs a ++ rs b = rs (a ++ b) := by
  refine TL.ext_tl ?_
  rw [TL.tl_append]
  show a.map sg ++ b.map sg = (a ++ b).map sg
  rw [List.map_append]
theorem cut_lo {r : List Bool} {j : Nat} (hj : j ≤ r.length) : cutS (rs r) none (some (j : Int)) = rs (r.take j) := by
  unfold cutS
  rw [HT.sIx_none, HT.sIx_nat, rs_len, rs_tl, List.drop_zero, Nat.sub_zero, Nat.min_eq_left hj, ← List.map_take]
  rfl
theorem cut_hi {r : List Bool} {j : Nat} (hj : j ≤ r.length) : cutS (rs r) (some (j : Int)) none = rs (r.drop j) := by
  unfold cutS
  rw [HT.sIx_none, HT.sIx_nat, rs_len, rs_tl, Nat.min_eq_left hj, ← List.map_drop]
  have e : ((r.drop j).map sg).take (r.length - j) = (r.drop j).map sg := List.take_of_length_le (by rw [List.length_map, List.length_drop]; exact Nat.le_refl _)
  rw [e]
  rfl
def flip (r : List Bool) (j : Nat) : List Bool := r.take j ++ [!r.getD j false] ++ r.drop (j + 1)
theorem flip_len {r : List Bool} {j : Nat} (h : j < r.length) : (flip r j).length = r.length := by
  unfold flip
  rw [List.length_append, List.length_append, List.length_take, List.length_drop]
  simp only [List.length_cons, List.length_nil]
  omega
theorem ev_cutLo {r : List Bool} {j : Nat} (h : Ev ta σ H (.str (rs r))) (hj : Ev tb σ H (.int (j : Nat))) (hl : j ≤ r.length) (hz : r.length ≤ 1000) : Ev (tSl rSlS ta tNoPart (tPart tb)) σ H (.str (rs (r.take j))) := fun H1 e Q q =>
  h H1 e _ fun H2 e2 => hj H2 (e.trans e2) _ fun H3 e3 => ⟨_, rfl, rs r, rfl, sz_of (by rw [rs_len]; omega), by rw [cut_lo hl]; exact q H3 (e2.trans e3)⟩
theorem ev_cutHi {r : List Bool} {j : Nat} (h : Ev ta σ H (.str (rs r))) (hj : Ev tb σ H (.int (j : Nat))) (hl : j ≤ r.length) (hz : r.length ≤ 1000) : Ev (tSl rSlS ta (tPart tb) tNoPart) σ H (.str (rs (r.drop j))) := fun H1 e Q q =>
  h H1 e _ fun H2 e2 => hj H2 (e.trans e2) _ fun H3 e3 => ⟨_, rfl, rs r, rfl, sz_of (by rw [rs_len]; omega), by rw [cut_hi hl]; exact q H3 (e2.trans e3)⟩
theorem ev_catS {a b : List Bool} (h : Ev ta σ H (.str (rs a))) (h' : Ev tb σ H (.str (rs b))) (hz : a.length ≤ 1000 ∧ b.length ≤ 1000) : Ev (tOp rCatS ta tb) σ H (.str (rs (a ++ b))) := ev_op h h' fun H1 e Q q =>
  ⟨rs a, rs b, rfl, rfl, sz_of (by rw [rs_len, rs_len]; omega), by rw [rs_app]; exact q H1 (Ex.refl H1)⟩
theorem s1_rs (b : Bool) : s1 b = rs [b] := rfl
/-- {'x': '-', '-': 'x'}[s] -/
theorem ev_other {b : Bool} (h : Ev te σ H (.str (s1 b))) : Ev (tDGet (tDisp [((tC (.str "x")), (tC (.str "-"))), ((tC (.str "-")), (tC (.str "x")))]) te) σ H (.str (rs [!b])) := fun H1 e Q q => by
  intro p hp
  refine ⟨upd_same, [(.inr "x", .str "-"), (.inr "-", .str "x")], rfl, by decide, ?_⟩
  have e1 : Ex H1 (upd (upd H1 p (.dK [])) p (.dK (mergeK [] [(.inr "x", .str "-"), (.inr "-", .str "x")]))) := Ex.mut (Ex.new hp) hp
  refine h _ (e.trans e1) _ fun H2 e2 => ⟨p, _, rfl, .inl ⟨_, .inr (s1 b), .inl (e2 p _ upd_same), rfl, ?_⟩, q H2 (e1.trans e2)⟩
  cases b
  · show some (V.str (rs [true])) = _
    rw [← s1_rs, ← s1_x, ← s1_d]
    decide +kernel
  · show some (V.str (rs [false])) = _
    rw [← s1_rs, ← s1_x, ← s1_d]
    decide +kernel
/-! ### tables made sign by sign -/
def bitsT (ns : List Int) (w : Nat) : Tb := ns.map fun c => (List.range w).map (bit c)
theorem bitsT_len (ns : List Int) (w : Nat) : (bitsT ns w).length = ns.length := List.length_map _
theorem bitsT_rect (ns : List Int) (w : Nat) : Rect (bitsT ns w) w := fun r hr => by
  obtain ⟨c, _, rfl⟩ := List.mem_map.mp hr
  rw [List.length_map, List.length_range]
theorem el_bits {ns : List Int} {w j k : Nat} {tl tn t1 t2 : TE} {vs vs' : List Nat} (h : EvS K tl σ H (ns.map V.int)) (hz : ns.length ≤ 1000 ∧ w ≤ 1000) (hw : ∀ x, wipe ((wipe σ vs).set j (some x)) vs = wipe σ vs)
    (hn : ∀ c : Int, Ev tn ((wipe σ vs).set j (some (.int c))) H (.int (w : Nat)))
    (hw' : ∀ x y, wipe ((wipe ((wipe σ vs).set j (some x)) vs').set k (some y)) vs' = wipe ((wipe σ vs).set j (some x)) vs')
    (h1 : ∀ (c : Int) (i : Nat), Ev t1 ((wipe ((wipe σ vs).set j (some (.int c))) vs').set k (some (.int (i : Nat)))) H (.int c))
    (h2 : ∀ (c : Int) (i : Nat), Ev t2 ((wipe ((wipe σ vs).set j (some (.int c))) vs').set k (some (.int (i : Nat)))) H (.int (i : Nat))) :
    EvL (tLc (iList K tl) (gName j) tYes (tM1 (rJoin K) (tC (.str "")) (tLc (iRng1 (tCons tn tNil)) (gName k) tYes (tOp rIxS (tC (.str "-x")) (tOp rAndI (tOp rShrI t1 t2) (tC (.int 1)))) vs')) vs) σ H (tv (bitsT ns w)) := by
  refine EvL.is (el_map (g := V.int) (f := fun c => V.str (rs ((List.range w).map (bit c)))) h (by omega) hw fun c hc => ?_) (by unfold tv bitsT; rw [List.map_map]; rfl)
  refine ev_joinS ?_ (by rw [List.length_map, List.length_range]; omega)
  rw [List.map_map]
  exact els (el_mapR (f := fun i => V.str (s1 (bit c i))) (hn c) (by omega) (hw' _) fun i hi => ev_bitSg (h1 c i) (h2 c i))
theorem el_signs {α β : Type} {l : List α} {m : List β} {g : α → V} {g' : β → V} {p : α → β → Bool} {j k : Nat} {tl tm : TE} {tt : TT} {vs vs' : List Nat} (h : EvS K tl σ H (l.map g)) (hz : l.length ≤ 1000 ∧ m.length ≤ 1000)
    (hw : ∀ x, wipe ((wipe σ vs).set j (some x)) vs = wipe σ vs) (hm : ∀ a ∈ l, EvS K tm ((wipe σ vs).set j (some (g a))) H (m.map g'))
    (hw' : ∀ x y, wipe ((wipe ((wipe σ vs).set j (some x)) vs').set k (some y)) vs' = wipe ((wipe σ vs).set j (some x)) vs')
    (ht : ∀ a ∈ l, ∀ b ∈ m, EvT tt ((wipe ((wipe σ vs).set j (some (g a))) vs').set k (some (g' b))) H (p a b)) :
    EvL (tLc (iList K tl) (gName j) tYes (tM1 (rJoin K) (tC (.str "")) (tLc (iList K tm) (gName k) tYes (tIf tt (tC (.str "x")) (tC (.str "-"))) vs')) vs) σ H (tv (l.map fun a => m.map fun b => p a b)) := by
  refine EvL.is (el_map (g := g) (f := fun a => V.str (rs (m.map fun b => p a b))) h (by omega) hw fun a ha => ?_) (by unfold tv; rw [List.map_map]; rfl)
  refine ev_joinS ?_ (by rw [List.length_map]; omega)
  rw [List.map_map]
  exact els (el_map (g := g') (f := fun b => V.str (s1 (p a b))) (hm a ha) (by omega) (hw' _) fun b hb => ev_ifSg (ht a ha b hb))
theorem rect_signs {α β : Type} (l : List α) (m : List β) (p : α → β → Bool) : Rect (l.map fun a => m.map fun b => p a b) m.length := fun r hr => by
  obtain ⟨a, _, rfl⟩ := List.mem_map.mp hr
  rw [List.length_map]
theorem tv_set (T : Tb) (i : Nat) (r : List Bool) : tv (T.set i r) = (tv T).set i (.str (rs r)) := by unfold tv; rw [List.map_set]
theorem rect_set {T : Tb} {w i : Nat} {r : List Bool} (h : Rect T w) (hr : r.length = w) : Rect (T.set i r) w := fun x hx => by
  rcases List.mem_or_eq_of_mem_set hx with hx | rfl
  · exact h x hx
  · exact hr
theorem md_ok {a : Int} {n : Nat} (hn : 0 < n) : ∃ i : Nat, a % (n : Int) = (i : Nat) ∧ i < n := ⟨(a % (n : Int)).toNat, by
  have := Int.emod_nonneg a (show (n : Int) ≠ 0 by omega)
  omega, by
  have := Int.emod_nonneg a (show (n : Int) ≠ 0 by omega)
  have := Int.emod_lt_of_pos a (show (0 : Int) < n by omega)
  omega⟩
end
end WA

namespace WA
open PySem PySem.Spec PyProof.Rows L2 Evl
theorem pick_int (ns : List Int) (lo hi st : Option Int) : pick (ns.map V.int) lo hi st = (pick ns lo hi st).map V.int := pick_map _ _ _ _ _
theorem pick_tv (T : Tb) (lo hi st : Option Int) : pick (tv T) lo hi st = tv (pick T lo hi st) := pick_map _ _ _ _ _
theorem pick_mem {α : Type} {xs : List α} {lo hi st : Option Int} {x : α} (h : x ∈ pick xs lo hi st) : x ∈ xs := by
  unfold pick at h
  obtain ⟨i, _, hi⟩ := List.mem_filterMap.mp h
  exact List.mem_of_getElem? hi
/-- how many a slice with a step takes at most -/
def stepLen (lo hi st : Option Int) (n : Nat) : Nat := (sliceRange (sliceBounds lo hi st n).1 (sliceBounds lo hi st n).2.1 (sliceBounds lo hi st n).2.2).length
section
variable {K : PySem.W.Frag} {w : World} {σ : L2.St} {H H' : Hp} {ta tb te tx : TE} {t u : TT} {x y z v : V} {D : Ends} {tu tw tz : TS} {g : TG} {xs ys : List V}
theorem el_sl3 {tl th ts : TO} {lo hi st : Option Int} (h : EvS K te σ H xs) (h1 : EvO tl σ H lo) (h2 : EvO th σ H hi) (h3 : EvO ts σ H st) (h0 : st ≠ some 0) (hz : stepLen lo hi st xs.length ≤ 1000) : EvL (tSl3 K te tl th ts) σ H (pick xs lo hi st) := fun H1 e Q q =>
  h H1 e _ fun a H2 e2 hx => h1 H2 (e.trans e2) _ fun H3 e3 => h2 H3 ((e.trans e2).trans e3) _ fun H4 e4 => h3 H4 (((e.trans e2).trans e3).trans e4) _ fun H5 e5 =>
    ⟨a, xs, rfl, ex_l ((e3.trans e4).trans e5) hx, h0, Nat.le_trans (pick_len _ _ _ _) (sz_of (Nat.le_trans hz (by decide))), fun p hp => q p _ (fresh_back (((e2.trans e3).trans e4).trans e5) hp) ((((e2.trans e3).trans e4).trans e5).trans (Ex.new hp)) upd_same⟩
theorem q_asgG {g : TG} (h : Ev te σ H v) (k : ∀ H1, Ex H H1 → g v σ H1 (tz D)) : tSeq (tAsg te g) tz D σ H := h H (Ex.refl H) _ fun H1 e1 => k H1 e1
/-- a tuple of two new lists -/
def EvU2 (te : TE) (σ : L2.St) (H : Hp) (xs ys : List V) : Prop := ∀ H1, Ex H H1 → ∀ Q : VK, (∀ a p q H2, H1 p = none → H1 q = none → Ex H1 H2 → H2 a = some (.tup [.ref p, .ref q]) → H2 p = some (.lst xs) → H2 q = some (.lst ys) → Q (.ref a) H2) → te σ H1 Q
theorem eu2 (ha : EvL ta σ H xs) (hb : EvL tb σ H ys) : EvU2 (tTup (tCons ta (tCons tb tNil))) σ H xs ys := fun H1 e Q q =>
  ha H1 e _ fun p H2 hp e2 h2 => hb H2 (e.trans e2) _ fun q' H3 hq e3 h3 => ⟨sz_of (show 2 ≤ 100000 by decide), fun a hn =>
    q a p q' _ hp (fresh_back e2 hq) ((e2.trans e3).trans (Ex.new hn)) upd_same (Ex.new hn p _ (e3 p _ h2)) (Ex.new hn q' _ h3)⟩
theorem q_pairLL {i j : Nat} (h : EvU2 te σ H xs ys) (k : ∀ p q H1, Ex H H1 → H p = none → H q = none → H1 p = some (.lst xs) → H1 q = some (.lst ys) → tz D ((σ.set i (some (.ref p))).set j (some (.ref q))) H1) :
    tSeq (tAsg te (gTup K 2 (gCons (gName i) (gCons (gName j) gNil)))) tz D σ H :=
  h H (Ex.refl H) _ fun a p q H1 fp fq e1 ha hp hq => g_pair (st_of ha) (k p q H1 e1 fp fq hp hq)
/-! ### a new list of which something is known -/
def EvLP (te : TE) (σ : L2.St) (H : Hp) (P : List V → Prop) : Prop := ∀ H1, Ex H H1 → ∀ Q : VK, (∀ xs p H2, P xs → H1 p = none → Ex H1 H2 → H2 p = some (.lst xs) → Q (.ref p) H2) → te σ H1 Q
theorem elp {P : List V → Prop} (h : EvL te σ H xs) (p : P xs) : EvLP te σ H P := fun H1 e Q q => h H1 e Q fun a H2 hp e2 h2 => q xs a H2 p hp e2 h2
theorem elp_mono {P P' : List V → Prop} (h : EvLP te σ H P) (p : ∀ xs, P xs → P' xs) : EvLP te σ H P' := fun H1 e Q q => h H1 e Q fun xs a H2 px hp e2 h2 => q xs a H2 (p xs px) hp e2 h2
theorem elp_if {P : List V → Prop} {b : Bool} (h : EvT t σ H b) (h1 : b = true → EvLP ta σ H P) (h2 : b = false → EvLP tb σ H P) : EvLP (tIf t ta tb) σ H P := fun H1 e Q q => h H1 e _ fun H2 e2 => by
  cases b with
  | true =>
    show ta σ H2 Q
    exact h1 rfl H2 (e.trans e2) Q fun xs p H3 px hp e3 h3 => q xs p H3 px (fresh_back e2 hp) (e2.trans e3) h3
  | false =>
    show tb σ H2 Q
    exact h2 rfl H2 (e.trans e2) Q fun xs p H3 px hp e3 h3 => q xs p H3 px (fresh_back e2 hp) (e2.trans e3) h3
theorem q_forLP {P : List V → Prop} {tl : TE} {j : Nat} (h : EvLP tl σ H P) (Pv : L2.St → Hp → Prop) (h0 : ∀ H1, Ex H H1 → Pv σ H1)
    (hs : ∀ xs x σ' H', P xs → x ∈ xs → Pv σ' H' → ∀ D' : Ends, D'.rt = D.rt → (∀ σ2 H2, Ex H' H2 → Pv σ2 H2 → D'.nx σ2 H2) → tu D' (σ'.set j (some x)) H')
    (hd : ∀ σ' H', Pv σ' H' → tz D σ' H') : tSeq (tFor (iList K tl) (gName j) tu) tz D σ H :=
  h H (Ex.refl H) _ fun xs p H1 px _ e1 hp => ⟨p, rfl, ⟨xs, sq_of hp⟩, for_list (fun _ σ' H' => Ex H1 H' ∧ Pv σ' H') ⟨Ex.refl H1, h0 H1 e1⟩ (fun _ _ _ _ q => sq_of (q.1 p _ hp))
    (fun i x σ' H' hx q => hs xs x σ' H' px (List.mem_of_getElem? hx) q.2 _ rfl fun σ2 H2 e2 pv => ⟨q.1.trans e2, pv⟩) fun σ' H' q => hd σ' H' q.2⟩
theorem s_forLP {P : List V → Prop} {tl : TE} {j : Nat} (h : EvLP tl σ H P) (Pv : L2.St → Hp → Prop) (h0 : ∀ H1, Ex H H1 → Pv σ H1)
    (hs : ∀ xs x σ' H', P xs → x ∈ xs → Pv σ' H' → ∀ D' : Ends, D'.rt = D.rt → (∀ σ2 H2, Ex H' H2 → Pv σ2 H2 → D'.nx σ2 H2) → tu D' (σ'.set j (some x)) H')
    (hd : ∀ σ' H', Pv σ' H' → D.nx σ' H') : tFor (iList K tl) (gName j) tu D σ H :=
  h H (Ex.refl H) _ fun xs p H1 px _ e1 hp => ⟨p, rfl, ⟨xs, sq_of hp⟩, for_list (fun _ σ' H' => Ex H1 H' ∧ Pv σ' H') ⟨Ex.refl H1, h0 H1 e1⟩ (fun _ _ _ _ q => sq_of (q.1 p _ hp))
    (fun i x σ' H' hx q => hs xs x σ' H' px (List.mem_of_getElem? hx) q.2 _ rfl fun σ2 H2 e2 pv => ⟨q.1.trans e2, pv⟩) fun σ' H' q => hd σ' H' q.2⟩
/-! ### lists put together, sets sorted -/
theorem el_cat (ha : EvL ta σ H xs) (hb : EvL tb σ H ys) (hz : xs.length + ys.length ≤ 1000) : EvL (tOp rCat ta tb) σ H (xs ++ ys) := fun H1 e Q q =>
  ha H1 e _ fun p H2 hp e2 h2 => hb H2 (e.trans e2) _ fun p' H3 hq e3 h3 => ⟨p, p', xs, ys, rfl, rfl, e3 p _ h2, h3, sz_of (by omega), fun l hl => q l _ (fresh_back (e2.trans e3) hl) ((e2.trans e3).trans (Ex.new hl)) upd_same⟩
def threes (n : Nat) : List Int := (List.range ((n + 2) / 3)).map fun (i : Nat) => (i : Int) * 3
theorem rg3_threes (n : Nat) : rgV3 0 3 ((n + 2) / 3) = (threes n).map V.int := by
  unfold rgV3 threes
  rw [List.map_map]
  refine List.map_congr_left fun i _ => ?_
  show V.int (0 + (i : Nat) * 3) = V.int ((i : Int) * 3)
  rw [Int.zero_add]
theorem el_rg3 {n : Nat} (h : Ev te σ H (.int (n : Nat))) (hn : n < 200) : EvL (tLstRg3 (tRg3 (tC (.int 0)) te (tC (.int 3)))) σ H ((threes n).map V.int) := fun H1 e Q q =>
  h H1 e _ fun H2 e2 => ⟨0, (n : Nat), 3, rfl, rfl, rfl, by decide, by decide, (n + 2) / 3, (rg3_ok n hn).1, (rg3_ok n hn).2, by omega, fun p hp => q p _ (fresh_back e2 hp) (e2.trans (Ex.new hp)) (by rw [rg3_threes]; exact upd_same)⟩
def Sorted0 (ns ks : List Int) : Prop := ks.Pairwise (· < ·) ∧ ∀ k, k ∈ ks ↔ k ∈ ns
theorem elp_sortedSet {ns : List Int} (h : EvS K te σ H (ns.map V.int)) (hz : ns.length < 64) : EvLP (tCB (rSortedSet w) (tCons (tCB (rSetI K w) (tCons te tNil)) tNil)) σ H (fun xs => ∃ ks, xs = ks.map V.int ∧ Sorted0 ns ks) := fun H1 e Q q =>
  h H1 e _ fun p H2 e2 hp => ⟨p, ns, rfl, hp, by omega, fun l ks hl hk => ⟨l, _, _, rfl, upd_same, by have := hk.le; omega, fun ms p' h1 h2 _ hn =>
    q _ p' _ ⟨ms, rfl, h1, fun k => by rw [h2 k, decide_eq_true_eq]⟩ (fresh_back (e2.trans (Ex.new hl)) hn) ((e2.trans (Ex.new hl)).trans (Ex.new hn)) upd_same⟩⟩
theorem threes_in {n : Nat} {k : Int} (hn : 0 < n) (h : k ∈ threes n ++ [(n : Int) - 1]) : ∃ j : Nat, k = (j : Nat) ∧ j < n := by
  rcases List.mem_append.mp h with h | h
  · obtain ⟨i, hi, rfl⟩ := List.mem_map.mp h
    have hi' := List.mem_range.mp hi
    exact ⟨i * 3, by rw [Int.natCast_mul]; rfl, by omega⟩
  · have e := List.mem_singleton.mp h
    exact ⟨n - 1, by omega, by omega⟩
theorem threes_len (n : Nat) : (threes n).length = (n + 2) / 3 := by unfold threes; rw [List.length_map, List.length_range]
end
/-- all rows that have a column -/
def colOf (T : Tb) (j : Nat) : List Nat := (List.range T.length).filter fun i => gt T i j
def nv (l : List Nat) : List V := l.map fun i : Nat => V.int (i : Nat)
def intsOf (l : List Nat) : List Int := l.map fun i : Nat => (i : Int)
theorem nv_eq (l : List Nat) : nv l = (intsOf l).map V.int := by unfold nv intsOf; rw [List.map_map]; rfl
theorem nv_int (l : List Nat) : nv l = (intsOf l).map V.int := nv_eq l
theorem nv_len (l : List Nat) : (nv l).length = l.length := List.length_map _
theorem intsOf_len (l : List Nat) : (intsOf l).length = l.length := List.length_map _
theorem colOf_len (T : Tb) (j : Nat) : (colOf T j).length ≤ T.length := by
  unfold colOf
  have h := List.length_filter_le (fun i => gt T i j) (List.range T.length)
  rwa [List.length_range] at h
/-! ### turned -/
def turnT (T : Tb) (w : Nat) : Tb := if T = [] then [] else turn T w
theorem turnT_nil (w : Nat) : turnT [] w = [] := rfl
theorem turnT_ne {T : Tb} {w : Nat} (h : T ≠ []) : turnT T w = turn T w := if_neg h
theorem turnT_rect (T : Tb) (w : Nat) : Rect (turnT T w) T.length := by
  by_cases h : T = []
  · subst h; intro r hr; cases hr
  · rw [turnT_ne h]; exact turn_rect T w
theorem turnT_len (T : Tb) (w : Nat) : (turnT T w).length ≤ w := by
  by_cases h : T = []
  · subst h; exact Nat.zero_le _
  · rw [turnT_ne h, turn_len]; exact Nat.le_refl _
theorem getD_map {α β : Type} (f : α → β) (l : List α) (i : Nat) (d : β) (e : α) (hi : i < l.length) : (l.map f).getD i d = f (l.getD i e) := by
  rw [List.getD_eq_getElem?_getD, List.getElem?_map, List.getElem?_eq_getElem hi, List.getD_eq_getElem?_getD, List.getElem?_eq_getElem hi]; rfl
theorem turn_get {T : Tb} {w j : Nat} (hj : j < w) : (turn T w).getD j [] = T.map fun r => r.getD j false := by
  unfold turn
  rw [getD_map (fun j => T.map fun r => r.getD j false) (List.range w) j [] 0 (by rw [List.length_range]; exact hj)]
  have e : (List.range w).getD j 0 = j := by rw [List.getD_eq_getElem?_getD, List.getElem?_range hj]; rfl
  rw [e]
theorem gt_turn {T : Tb} {w i j : Nat} (hj : j < w) (hi : i < T.length) : gt (turn T w) j i = gt T i j := by
  unfold gt
  rw [turn_get hj, getD_map (fun r : List Bool => r.getD j false) T i false [] hi]
theorem row_ext {r : List Bool} {n : Nat} (h : r.length = n) : ((List.range n).map fun j => r.getD j false) = r := by
  refine List.ext_getElem? fun i => ?_
  rw [List.getElem?_map]
  by_cases hi : i < n
  · rw [List.getElem?_range hi, List.getElem?_eq_getElem (by omega), Option.map_some, List.getD_eq_getElem?_getD, List.getElem?_eq_getElem (by omega)]; rfl
  · rw [List.getElem?_eq_none (by rw [List.length_range]; omega), List.getElem?_eq_none (by omega)]; rfl
/-- turned twice -/
theorem turn_turn {T : Tb} {w : Nat} (h : Rect T w) (hw : w ≠ 0) : turn (turn T w) T.length = T := by
  refine List.ext_getElem? fun i => ?_
  by_cases hi : i < T.length
  · have e : (turn (turn T w) T.length)[i]? = some ((turn T w).map fun r => r.getD i false) := by
      have hl : i < (turn (turn T w) T.length).length := by rw [turn_len]; exact hi
      rw [row_at hl, turn_get hi]
    rw [e, List.getElem?_eq_getElem hi]
    congr 1
    have hr : T[i].length = w := h _ (List.getElem_mem hi)
    rw [← row_ext hr]
    unfold turn
    rw [List.map_map]
    refine List.map_congr_left fun j hj => ?_
    show (T.map fun r => r.getD j false).getD i false = _
    rw [getD_map (fun r : List Bool => r.getD j false) T i false [] hi]
    rw [List.getD_eq_getElem?_getD (l := T), List.getElem?_eq_getElem hi]; rfl
  · rw [List.getElem?_eq_none (by rw [turn_len]; omega), List.getElem?_eq_none (by omega)]
theorem turnT_turnT {T : Tb} {w : Nat} (h : Rect T w) (hw : w ≠ 0) : turnT (turnT T w) T.length = T := by
  by_cases h0 : T = []
  · subst h0; rfl
  · have h1 : turn T w ≠ [] := fun z => by
      have := turn_len T w
      rw [z] at this
      exact hw this.symm
    rw [turnT_ne h0, turnT_ne h1, turn_turn h hw]
theorem At.turned {K : PySem.W.Frag} {H H' : Hp} {a p : Addr} {T : Tb} {w : Nat} (h : At K H a T w) (hp : SqL K H' p (tv (turnT T w))) : At K H' p (turnT T w) T.length :=
  ⟨hp, turnT_rect T w, Nat.le_trans (turnT_len T w) h.lw, h.ln⟩
end WA

namespace WA
open PySem L2
/-! ### levels -/
theorem nodup_leA {α : Type} [DecidableEq α] : ∀ {ks ns : List α}, ks.Nodup → (∀ k, k ∈ ks → k ∈ ns) → ks.length ≤ ns.length
  | [], _, _, _ => Nat.zero_le _
  | x :: r, ns, h, g => by
    have h' := List.nodup_cons.mp h
    have hx : x ∈ ns := g x (List.mem_cons_self ..)
    have ih := nodup_leA (ks := r) (ns := ns.erase x) h'.2 fun k hk => (List.mem_erase_of_ne (fun z : k = x => h'.1 (by rw [← z]; exact hk))).mpr (g k (List.mem_cons_of_mem _ hk))
    rw [List.length_erase_of_mem hx] at ih
    have := List.length_pos_of_mem hx
    rw [List.length_cons]
    omega
/-- the different sizes below s -/
def below (sz : List Nat) (s : Nat) : List Nat := (List.range s).filter fun k => sz.contains k
def lev (sz : List Nat) (s : Nat) : Nat := (below sz s).length
theorem mem_below {sz : List Nat} {s k : Nat} : k ∈ below sz s ↔ k < s ∧ k ∈ sz := by
  unfold below
  rw [List.mem_filter, List.mem_range]
  simp
theorem below_nodup (sz : List Nat) (s : Nat) : (below sz s).Nodup := List.Pairwise.filter _ List.nodup_range
theorem below_snoc {sz : List Nat} {s : Nat} : (below sz s ++ [s]).Nodup := by
  rw [List.nodup_append]
  refine ⟨below_nodup sz s, by simp, fun a ha b hb => ?_⟩
  have h1 := (mem_below.mp ha).1
  have h2 := List.mem_singleton.mp hb
  omega
theorem lev_lt {sz : List Nat} {s t : Nat} (hs : s ∈ sz) (h : s < t) : lev sz s < lev sz t := by
  have z := nodup_leA (below_snoc (sz := sz) (s := s)) (ns := below sz t) fun k hk => by
    rcases List.mem_append.mp hk with hk | hk
    · have := mem_below.mp hk
      exact mem_below.mpr ⟨by omega, this.2⟩
    · rw [List.mem_singleton.mp hk]
      exact mem_below.mpr ⟨h, hs⟩
  rw [List.length_append, List.length_singleton] at z
  exact z
theorem lev_le {sz : List Nat} {s t : Nat} (h : s ≤ t) : lev sz s ≤ lev sz t := nodup_leA (below_nodup sz s) fun k hk => by
  have := mem_below.mp hk
  exact mem_below.mpr ⟨by omega, this.2⟩
theorem lev_iff {sz : List Nat} {s t : Nat} (hs : s ∈ sz) : lev sz s < lev sz t ↔ s < t := by
  constructor
  · intro h
    by_cases h2 : s < t
    · exact h2
    · have := lev_le (sz := sz) (show t ≤ s by omega)
      omega
  · exact lev_lt hs
theorem lev_bound {sz : List Nat} {s : Nat} (hs : s ∈ sz) : lev sz s < sz.length := by
  have z := nodup_leA (below_snoc (sz := sz) (s := s)) (ns := sz) fun k hk => by
    rcases List.mem_append.mp hk with hk | hk
    · exact (mem_below.mp hk).2
    · rw [List.mem_singleton.mp hk]
      exact hs
  rw [List.length_append, List.length_singleton] at z
  exact z
/-- where a size stands among the sorted different ones -/
theorem lev_at {sz : List Nat} {ks : List Int} (hp : ks.Pairwise (· < ·)) (hm : ∀ k, k ∈ ks ↔ k ∈ intsOf sz) {s : Nat} (hs : s ∈ sz) : ks[lev sz s]? = some (s : Int) ∧ ∀ (m : Nat) (z : Int), m < lev sz s → ks[m]? = some z → z < (s : Int) := by
  have hin : (s : Int) ∈ ks := (hm _).mpr (List.mem_map.mpr ⟨s, hs, rfl⟩)
  obtain ⟨j, hj⟩ := List.mem_iff_getElem?.mp hin
  obtain ⟨hjl, hje⟩ := List.getElem?_eq_some_iff.mp hj
  have lt_of : ∀ {a b : Nat} (ha : a < ks.length) (hb : b < ks.length), a < b → ks[a] < ks[b] := fun ha hb h => List.pairwise_iff_getElem.mp hp _ _ ha hb h
  have e : j = lev sz s := by
    refine Nat.le_antisymm ?_ ?_
    · have hnd : (ks.take j).Nodup := ((List.Pairwise.imp (fun h => Int.ne_of_lt h) hp).take : _)
      have z := nodup_leA (ks := ks.take j) (ns := intsOf (below sz s)) hnd fun k hk => by
        obtain ⟨i, hi⟩ := List.mem_iff_getElem?.mp hk
        rw [List.getElem?_take] at hi
        by_cases hij : i < j
        · rw [if_pos hij] at hi
          obtain ⟨hil, hie⟩ := List.getElem?_eq_some_iff.mp hi
          have hlt := lt_of hil hjl hij
          rw [hie, hje] at hlt
          have hk2 := (hm k).mp (List.mem_of_mem_take hk)
          obtain ⟨k', hk', rfl⟩ := List.mem_map.mp hk2
          exact List.mem_map.mpr ⟨k', mem_below.mpr ⟨by omega, hk'⟩, rfl⟩
        · rw [if_neg hij] at hi; cases hi
      rw [List.length_take, intsOf_len] at z
      unfold lev
      omega
    · have hnd : (intsOf (below sz s)).Nodup := by
        unfold intsOf
        exact List.Pairwise.map _ (fun a b h z => h (by omega)) (below_nodup sz s)
      have z := nodup_leA (ks := intsOf (below sz s)) (ns := ks.take j) hnd fun k hk => by
        obtain ⟨k', hk', rfl⟩ := List.mem_map.mp hk
        obtain ⟨h1, h2⟩ := mem_below.mp hk'
        have hin2 : (k' : Int) ∈ ks := (hm _).mpr (List.mem_map.mpr ⟨k', h2, rfl⟩)
        obtain ⟨i, hi⟩ := List.mem_iff_getElem?.mp hin2
        obtain ⟨hil, hie⟩ := List.getElem?_eq_some_iff.mp hi
        have hij : i < j := by
          by_cases h3 : i < j
          · exact h3
          · by_cases h4 : i = j
            · subst h4
              rw [hie] at hje
              omega
            · have := lt_of hjl hil (by omega)
              rw [hie, hje] at this
              omega
        refine List.mem_iff_getElem?.mpr ⟨i, ?_⟩
        rw [List.getElem?_take, if_pos hij]
        exact hi
      rw [List.length_take, intsOf_len] at z
      unfold lev
      omega
  rw [← e]
  refine ⟨hj, fun m z hml hz => ?_⟩
  obtain ⟨hml2, hmz⟩ := List.getElem?_eq_some_iff.mp hz
  have := lt_of hml2 hjl hml
  rw [hmz, hje] at this
  exact this
/-! ### answers -/
inductive Ans
  | steps (r c : List Int) | cross (a b c d : Int) | stretches (b e u : List Int) | self (a : Int) | ranks (r : List Int)
  | mutual (a b : Int) | beside (a b c : Int) | line (o : List Int) | neither (a b : Int) | round (a b c : Int)
def Ans.kind : Ans → Str
  | .steps .. => "Steps" | .cross .. => "Cross" | .stretches .. => "Stretches" | .self .. => "Self" | .ranks .. => "Ranks"
  | .mutual .. => "Mutual" | .beside .. => "Beside" | .line .. => "Line" | .neither .. => "Neither" | .round .. => "Round"
/-- whether i counts a row -/
def inT (T : Tb) (i : Int) : Bool := decide (0 ≤ i) && decide (i < (T.length : Int))
def gi (T : Tb) (i j : Int) : Bool := gt T i.toNat j.toNat
def width (T : Tb) : Nat := (T.getD 0 []).length
def inW (T : Tb) (j : Int) : Bool := decide (0 ≤ j) && decide (j < (width T : Int))
def threeT (T : Tb) (a b c : Int) : Bool := inT T a && (inT T b && inT T c) && (!decide (a = b) && !decide (a = c) && !decide (b = c))
def rowsAre (T : Tb) (ms : List Int) (p : Int → List Bool) : Bool := (T.zip ms).all fun x => decide (p x.2 = x.1)
def ranksOk (r : List Int) (T : Tb) : Bool := decide (r.length = T.length) && rowsAre T r fun m => r.map fun t => decide (m < t)
def stepsOk (r c : List Int) (T : Tb) : Bool := decide (r.length = T.length) && decide (c.length = width T) && rowsAre T r fun m => c.map fun t => decide (t < m)
/-- the things ahead of one, by an int -/
def colI (T : Tb) (u : Int) : List Nat := colOf T u.toNat
/-- where each stands in a line -/
def placesOf (o : List Int) : List Int := (List.range o.length).map fun (t : Nat) => ((o.findIdx (fun z => decide (z = (t : Int))) : Nat) : Int)
def isPerm (o : List Int) (n : Nat) : Bool := (List.range n).all (fun t => decide (o.count (t : Int) = 1)) && decide (o.length = n)
def uniq {α : Type} [DecidableEq α] : List α → List α
  | [] => []
  | x :: r => if x ∈ r then uniq r else x :: uniq r
def diff {α : Type} [DecidableEq α] (l : List α) : Nat := (uniq l).length
def stretchesOk (b e u : List Int) (T : Tb) : Bool :=
  decide (b.length = T.length) && decide (e.length = T.length) && u.all (inT T) && (b.zip e).all (fun x => !decide (x.2 < x.1)) &&
    rowsAre T e (fun m => b.map fun t => decide (m < t)) && decide ((u.map (colI T)).Nodup) && decide (u.length = diff b)
def shown : Ans → Tb → Bool
  | .steps r c, T => stepsOk r c T
  | .cross a b c d, T => (inT T a && inT T c) && (inW T b && inW T d) && (gi T a b && gi T c d) && (!gi T a d && !gi T c b)
  | .stretches b e u, T => stretchesOk b e u T
  | .self a, T => inT T a && gi T a a
  | .ranks r, T => ranksOk r T
  | .mutual a b, T => !decide (a = b) && (inT T a && inT T b) && (gi T a b && gi T b a)
  | .beside a b c, T => threeT T a b c && gi T a b && (!gi T a c && !gi T c b)
  | .line o, T => isPerm o T.length && ranksOk (placesOf o) T
  | .neither a b, T => !decide (a = b) && (inT T a && inT T b) && (!gi T a b && !gi T b a)
  | .round a b c, T => threeT T a b c && (gi T a b && gi T b c) && gi T c a
/-! ### different ones -/
theorem mem_uniq {α : Type} [DecidableEq α] : ∀ {l : List α} {k : α}, k ∈ uniq l ↔ k ∈ l
  | [], k => Iff.rfl
  | x :: r, k => by
    unfold uniq
    by_cases h : x ∈ r
    · rw [if_pos h, mem_uniq, List.mem_cons]
      exact ⟨.inr, fun z => z.elim (fun z => z ▸ h) id⟩
    · rw [if_neg h, List.mem_cons, List.mem_cons, mem_uniq]
theorem uniq_nodup {α : Type} [DecidableEq α] : ∀ l : List α, (uniq l).Nodup
  | [] => List.nodup_nil
  | x :: r => by
    unfold uniq
    by_cases h : x ∈ r
    · rw [if_pos h]; exact uniq_nodup r
    · rw [if_neg h, List.nodup_cons, mem_uniq]
      exact ⟨h, uniq_nodup r⟩
theorem diff_of {α : Type} [DecidableEq α] {l ks : List α} (h : ks.Nodup) (g : ∀ k, k ∈ ks ↔ k ∈ l) : ks.length = diff l :=
  Nat.le_antisymm (nodup_leA h fun k hk => mem_uniq.mpr ((g k).mp hk)) (nodup_leA (uniq_nodup l) fun k hk => (g k).mpr (mem_uniq.mp hk))
theorem diff_le {α : Type} [DecidableEq α] (l : List α) : diff l ≤ l.length := nodup_leA (uniq_nodup l) fun k hk => mem_uniq.mp hk
theorem diff_nodup {α : Type} [DecidableEq α] {l : List α} : diff l = l.length ↔ l.Nodup := by
  constructor
  · intro h
    induction l with
    | nil => exact List.nodup_nil
    | cons x r ih =>
      have z := diff_le r
      unfold diff uniq at h
      by_cases hx : x ∈ r
      · rw [if_pos hx] at h
        rw [List.length_cons] at h
        unfold diff at z
        omega
      · rw [if_neg hx, List.length_cons, List.length_cons] at h
        exact List.nodup_cons.mpr ⟨hx, ih (by unfold diff; omega)⟩
  · intro h
    exact (diff_of h fun k => Iff.rfl).symm
theorem dec_three (i j k : Int) : decide (V.int ((diff [i, j, k] : Nat) : Int) = V.int 3) = (!decide (i = j) && !decide (i = k) && !decide (j = k)) := by
  have h3 : (V.int ((diff [i, j, k] : Nat) : Int) = V.int 3) ↔ diff [i, j, k] = [i, j, k].length := by
    constructor
    · intro h
      have := V.int.inj h
      show diff [i, j, k] = 3
      omega
    · intro h
      rw [h]; rfl
  by_cases h : [i, j, k].Nodup
  · rw [decide_eq_true (h3.mpr (diff_nodup.mpr h))]
    simp at h
    simp [h]
  · rw [decide_eq_false fun z => h (diff_nodup.mp (h3.mp z))]
    simp at h
    by_cases h1 : i = j <;> by_cases h2 : i = k <;> by_cases h4 : j = k <;> simp [h1, h2, h4] at h ⊢
theorem three_diff (T : Tb) (i j k : Int) : (([i, j, k].all (inT T)) && decide (V.int ((diff [i, j, k] : Nat) : Int) = V.int 3)) = threeT T i j k := by
  unfold threeT
  rw [dec_three]
  simp [List.all_cons]
end WA

namespace WA
open PySem PySem.Spec PyProof.Rows L2 Evl
/-! ### kinds of answers -/
inductive Kd
  | steps | cross | stretches | self | ranks | mutual | beside | line | neither | round
  deriving DecidableEq
def Kd.name : Kd → Str
  | .steps => "Steps" | .cross => "Cross" | .stretches => "Stretches" | .self => "Self" | .ranks => "Ranks"
  | .mutual => "Mutual" | .beside => "Beside" | .line => "Line" | .neither => "Neither" | .round => "Round"
def Kd.all : List Kd := [.steps, .cross, .stretches, .self, .ranks, .mutual, .beside, .line, .neither, .round]
theorem Kd.mem : ∀ k : Kd, k ∈ Kd.all := by intro k; cases k <;> decide
def Ans.kd : Ans → Kd
  | .steps .. => .steps | .cross .. => .cross | .stretches .. => .stretches | .self .. => .self | .ranks .. => .ranks
  | .mutual .. => .mutual | .beside .. => .beside | .line .. => .line | .neither .. => .neither | .round .. => .round
abbrev gaK (K : PySem.W.Frag) (k : Kd) : Addr := He.ga K k.name
/-- an argument: an int, a list of ints -/
inductive Ar
  | i (a : Int) | l (ns : List Int)
def Ans.args : Ans → List Ar
  | .steps r c => [.l r, .l c] | .cross a b c d => [.i a, .i b, .i c, .i d] | .stretches b e u => [.l b, .l e, .l u] | .self a => [.i a] | .ranks r => [.l r]
  | .mutual a b => [.i a, .i b] | .beside a b c => [.i a, .i b, .i c] | .line o => [.l o] | .neither a b => [.i a, .i b] | .round a b c => [.i a, .i b, .i c]
def ArgsAre (K : PySem.W.Frag) (H : Hp) : List Ar → List V → Prop
  | [], vs => vs = []
  | .i a :: r, vs => ∃ ws, vs = .int a :: ws ∧ ArgsAre K H r ws
  | .l ns :: r, vs => ∃ p ws, vs = .ref p :: ws ∧ SqL K H p (ns.map V.int) ∧ ArgsAre K H r ws
theorem ArgsAre.mono {K : PySem.W.Frag} {H H' : Hp} (e : Ex H H') : ∀ {as : List Ar} {vs : List V}, ArgsAre K H as vs → ArgsAre K H' as vs
  | [], _, h => h
  | .i _ :: _, _, ⟨ws, h1, h2⟩ => ⟨ws, h1, h2.mono e⟩
  | .l _ :: _, _, ⟨p, ws, h1, h2, h3⟩ => ⟨p, ws, h1, ex_l e h2, h3.mono e⟩
/-- an instance; a list that was new after H0 -/
def InsAt (K : PySem.W.Frag) (H : Hp) (x : Addr) (k : Kd) (fs : List (Str × V)) : Prop := ∃ dx, H x = some (.ins (gaK K k) dx fs)
def LF (H0 H : Hp) (l : Addr) (ns : List Int) : Prop := H0 l = none ∧ H l = some (.lst (ns.map V.int))
def AnsAt (K : PySem.W.Frag) (H0 H : Hp) (x : Addr) : Ans → Prop
  | .steps r c => ∃ l m, InsAt K H x .steps [("rows", .ref l), ("columns", .ref m)] ∧ LF H0 H l r ∧ LF H0 H m c ∧ l ≠ m
  | .cross a b c d => InsAt K H x .cross [("one", .int a), ("first", .int b), ("other", .int c), ("second", .int d)]
  | .stretches b e u => ∃ l m n, InsAt K H x .stretches [("begins", .ref l), ("ends", .ref m), ("unlike", .ref n)] ∧ LF H0 H l b ∧ LF H0 H m e ∧ LF H0 H n u ∧ l ≠ m ∧ l ≠ n ∧ m ≠ n
  | .self a => InsAt K H x .self [("one", .int a)]
  | .ranks r => ∃ l, InsAt K H x .ranks [("ranks", .ref l)] ∧ LF H0 H l r
  | .mutual a b => InsAt K H x .mutual [("one", .int a), ("other", .int b)]
  | .beside a b c => InsAt K H x .beside [("one", .int a), ("other", .int b), ("third", .int c)]
  | .line o => ∃ l, InsAt K H x .line [("order", .ref l)] ∧ LF H0 H l o
  | .neither a b => InsAt K H x .neither [("one", .int a), ("other", .int b)]
  | .round a b c => InsAt K H x .round [("one", .int a), ("other", .int b), ("third", .int c)]
section
variable {K : PySem.W.Frag} {H0 H00 H H' : Hp} {x : Addr} {a : Ans}
theorem InsAt.mono {k : Kd} {fs : List (Str × V)} (h : InsAt K H x k fs) (e : Ex H H') : InsAt K H' x k fs := let ⟨dx, h⟩ := h; ⟨dx, e _ _ h⟩
theorem LF.mono {l : Addr} {ns : List Int} (h : LF H0 H l ns) (e : Ex H H') : LF H0 H' l ns := ⟨h.1, e _ _ h.2⟩
theorem LF.back {l : Addr} {ns : List Int} (h : LF H0 H l ns) (e : Ex H00 H0) : LF H00 H l ns := ⟨fresh_back e h.1, h.2⟩
theorem AnsAt.mono (h : AnsAt K H0 H x a) (e : Ex H H') : AnsAt K H0 H' x a := by
  cases a with
  | steps r c => obtain ⟨l, m, h1, h2, h3, h4⟩ := h; exact ⟨l, m, h1.mono e, h2.mono e, h3.mono e, h4⟩
  | stretches b e' u => obtain ⟨l, m, n, h1, h2, h3, h4, h5⟩ := h; exact ⟨l, m, n, h1.mono e, h2.mono e, h3.mono e, h4.mono e, h5⟩
  | ranks r => obtain ⟨l, h1, h2⟩ := h; exact ⟨l, h1.mono e, h2.mono e⟩
  | line r => obtain ⟨l, h1, h2⟩ := h; exact ⟨l, h1.mono e, h2.mono e⟩
  | _ => exact InsAt.mono h e
theorem AnsAt.back (h : AnsAt K H0 H x a) (e : Ex H00 H0) : AnsAt K H00 H x a := by
  cases a with
  | steps r c => obtain ⟨l, m, h1, h2, h3, h4⟩ := h; exact ⟨l, m, h1, h2.back e, h3.back e, h4⟩
  | stretches b e' u => obtain ⟨l, m, n, h1, h2, h3, h4, h5⟩ := h; exact ⟨l, m, n, h1, h2.back e, h3.back e, h4.back e, h5⟩
  | ranks r => obtain ⟨l, h1, h2⟩ := h; exact ⟨l, h1, h2.back e⟩
  | line r => obtain ⟨l, h1, h2⟩ := h; exact ⟨l, h1, h2.back e⟩
  | _ => exact h
theorem AnsAt.ins (h : AnsAt K H0 H x a) : ∃ fs : List (Str × V), InsAt K H x a.kd fs ∧ fs.lookup ("shows" : Str) = none := by
  cases a with
  | steps r c => obtain ⟨l, m, h1, h2⟩ := h; exact ⟨_, h1, by rfl⟩
  | stretches b e' u => obtain ⟨l, m, n, h1, h2⟩ := h; exact ⟨_, h1, by rfl⟩
  | ranks r => obtain ⟨l, h1, h2⟩ := h; exact ⟨_, h1, by rfl⟩
  | line r => obtain ⟨l, h1, h2⟩ := h; exact ⟨_, h1, by rfl⟩
  | _ => exact ⟨_, h, by rfl⟩
end
/-! ### facts of the classes -/
structure ClsF (K : PySem.W.Frag) (C : Addr) : Prop where
  cl : Cls K C
  cc : PySem.W.findIn K (.ref C) "__class__" = some (some (.builtin "object.__class__"))
  sp : PySem.W.specialIn K (.builtin "object.__class__") "__get__" = some (some (.builtin "getset_descriptor.__get__"))
  tk : PySem.W.takesIn K (.builtin "object.__class__") = some true
  mro : PySem.W.mroIn K C (.type "object") = some true
def clsB (K : PySem.W.Frag) (C : Addr) : Bool :=
  He.eqO (PySem.W.findIn K (.ref C) "__class__") (some (some (.builtin "object.__class__"))) && He.eqO (PySem.W.specialIn K (.builtin "object.__class__") "__get__") (some (some (.builtin "getset_descriptor.__get__"))) &&
    decide (PySem.W.takesIn K (.builtin "object.__class__") = some true) && decide (PySem.W.mroIn K C (.type "object") = some true)
theorem clsB_ok {K : PySem.W.Frag} {C : Addr} (c : Cls K C) (h : clsB K C = true) : ClsF K C := by
  unfold clsB at h
  simp only [Bool.and_eq_true, decide_eq_true_eq] at h
  exact ⟨c, He.eqO_ok h.1.1.1, He.eqO_ok h.1.1.2, h.1.2, h.2⟩
/-- isinstance of the answers -/
def kindB (K : PySem.W.Frag) : Bool := (Kd.all.all fun a => Kd.all.all fun c => decide (PySem.W.kitOne K (.ref (gaK K a)) (.ref (gaK K c)) = some (decide (a = c)))) &&
  (Kd.all.all fun a => decide (PySem.W.kitOne K (.ref (gaK K a)) (.ref (He.ga K "Answer")) = some true)) && Kd.all.all fun a => clsB K (gaK K a)
structure KindF (K : PySem.W.Frag) : Prop where
  one : ∀ a c : Kd, PySem.W.kitOne K (.ref (gaK K a)) (.ref (gaK K c)) = some (decide (a = c))
  top : ∀ a : Kd, PySem.W.kitOne K (.ref (gaK K a)) (.ref (He.ga K "Answer")) = some true
  cls : ∀ a : Kd, clsB K (gaK K a) = true
theorem kindB_ok {K : PySem.W.Frag} (h : kindB K = true) : KindF K := by
  unfold kindB at h
  simp only [Bool.and_eq_true, List.all_eq_true, decide_eq_true_eq] at h
  exact ⟨fun a c => h.1.1 a a.mem c c.mem, fun a => h.1.2 a a.mem, fun a => h.2 a a.mem⟩
section
variable {K : PySem.W.Frag} {σ : L2.St} {H H' H0 : Hp} {ta tb te tx : TE} {t u : TT} {x y z v : V} {D : Ends} {tu tw tz : TS} {g : TG} {xs ys : List V} {ts : TA}
/-! ### fields -/
theorem ev_fld {a : Addr} {k : Kd} {f : Str} {fs : List (Str × V)} (h : Ev te σ H (.ref a)) (hx : InsAt K H a k fs) (c : Cls K (gaK K k)) (n : NoAttr K (gaK K k) f) (l : fs.lookup f = some v) : Ev (tFld K te f) σ H v := fun H1 e Q q =>
  h H1 e _ fun H2 e2 => let ⟨dx, hd⟩ := hx; ⟨a, _, dx, fs, v, rfl, (e.trans e2) _ _ hd, c, n, l, q H2 e2⟩
theorem evs_fld {a p : Addr} {k : Kd} {f : Str} {fs : List (Str × V)} {ns : List Int} (h : Ev te σ H (.ref a)) (hx : InsAt K H a k fs) (c : Cls K (gaK K k)) (n : NoAttr K (gaK K k) f) (l : fs.lookup f = some (.ref p)) (hp : LF H0 H p ns) : EvS K (tFld K te f) σ H (ns.map V.int) :=
  evs (ev_fld h hx c n l) (sq_of hp.2)
/-! ### an answer made -/
/-- evaluates to a new object -/
def EvO (te : TE) (σ : L2.St) (H : Hp) (P : Hp → Hp → Addr → Prop) : Prop := ∀ H1, Ex H H1 → ∀ Q : VK, (∀ x H2, H1 x = none → Ex H1 H2 → P H1 H2 x → Q (.ref x) H2) → te σ H1 Q
/-- arguments -/
def EvAr (K : PySem.W.Frag) (ts : TA) (σ : L2.St) (H : Hp) (as : List Ar) : Prop := ∀ H1, Ex H H1 → ∀ Q : List V → Hp → Prop, (∀ vs H2, Ex H1 H2 → ArgsAre K H2 as vs → Q vs H2) → ts σ H1 Q
theorem ear_nil : EvAr K tNil σ H [] := fun H1 _ _ q => q [] H1 (Ex.refl H1) rfl
theorem ear_i {a : Int} {as : List Ar} (h : Ev te σ H (.int a)) (hr : EvAr K ts σ H as) : EvAr K (tCons te ts) σ H (.i a :: as) := fun H1 e _ q =>
  h H1 e _ fun H2 e2 => hr H2 (e.trans e2) _ fun vs H3 e3 p => q _ H3 (e2.trans e3) ⟨vs, rfl, p⟩
theorem ear_l {ns : List Int} {as : List Ar} (h : EvS K te σ H (ns.map V.int)) (hr : EvAr K ts σ H as) : EvAr K (tCons te ts) σ H (.l ns :: as) := fun H1 e _ q =>
  h H1 e _ fun p H2 e2 hp => hr H2 (e.trans e2) _ fun vs H3 e3 r => q _ H3 (e2.trans e3) ⟨p, vs, rfl, ex_l e3 hp, r⟩
theorem EvAr.is {as bs : List Ar} (h : EvAr K ts σ H as) (e : as = bs) : EvAr K ts σ H bs := e ▸ h
/-- what __init__ promises -/
def sp_init (K : PySem.W.Frag) (k : Kd) : Sp := fun vs H Q _ => ∃ x dx ans ws, vs = .ref x :: ws ∧ ans.kd = k ∧ H x = some (.ins (gaK K k) dx []) ∧ ArgsAre K H ans.args ws ∧
  ∀ H', AnsAt K H H' x ans → (∀ a o, a ≠ x → H a = some o → H' a = some o) → Q .non H'
theorem eo_make {k : Kd} {E : XK} {ans : Ans} (h : EvAr K ts σ H ans.args) (hk : ans.kd = k) : EvO (tMake (gaK K k) (sp_init K k) [] E ts) σ H (fun H1 H2 x => AnsAt K H1 H2 x ans) := fun H1 e Q q =>
  h H1 e _ fun vs H2 e2 r x dx hx hdx hne => by
    have e3 : Ex H2 (upd (upd H2 dx (.own x)) x (.ins (gaK K k) dx [])) := Ex.mut (Ex.new hdx) hx
    refine ⟨x, dx, ans, vs, by rw [List.append_nil], hk, upd_same, r.mono e3, fun H' hA hE => ⟨rfl, q x H' (fresh_back e2 hx) (e2.trans fun a o ha => ?_) (hA.back (e2.trans e3))⟩⟩
    exact hE a o (fun z => by rw [z, hx] at ha; cases ha) (e3 a o ha)
/-! ### shows -/
def sqOf : Kd → Tb → Nat → Prop
  | .steps, _, _ => True
  | .cross, _, _ => True
  | _, T, w => w = T.length
/-- lists that are looked at before their length is known -/
def okA : Ans → Prop
  | .stretches _ _ u => u.length ≤ 1000
  | .line o => o.length ≤ 1000
  | _ => True
def sp_shows (K : PySem.W.Frag) (k : Kd) : Sp := spV fun vs H z => ∃ x a T w ans H0, vs = [.ref x, .ref a] ∧ ans.kd = k ∧ AnsAt K H0 H x ans ∧ At K H a T w ∧ (sqOf k T w ∧ okA ans) ∧ z = .bl (shown ans T)
theorem ev_shows {k : Kd} {E : XK} {o a : Addr} {T : Tb} {w : Nat} {ans : Ans} (h : Ev ta σ H (.ref o)) (hk : ans.kd = k) (hA : AnsAt K H0 H o ans) (ha : Ev te σ H (.ref a)) (hT : At K H a T w) (hs : sqOf k T w) (ho : okA ans := by first | trivial | assumption) :
    Ev (tMeth (gaK K k) "shows" (sp_shows K k) [] E ta (tCons te tNil)) σ H (.bl (shown ans T)) := fun H1 e Q q =>
  h H1 e _ fun H2 e2 => by
    obtain ⟨fs, ⟨dx, hi⟩, hl⟩ := hA.ins
    rw [hk] at hi
    exact ⟨o, dx, fs, rfl, (e.trans e2) _ _ hi, hl, ha H2 (e.trans e2) _ fun H3 e3 => ⟨_, ⟨o, a, T, w, ans, H0, rfl, hk, hA.mono ((e.trans e2).trans e3), hT.mono ((e.trans e2).trans e3), ⟨hs, ho⟩, rfl⟩, fun H4 e4 => q H4 ((e2.trans e3).trans e4)⟩⟩
/-- shows of an object just made -/
theorem ev_showsN {k : Kd} {E : XK} {a : Addr} {T : Tb} {w : Nat} {ans : Ans} (h : EvO ta σ H (fun H1 H2 x => AnsAt K H1 H2 x ans)) (hk : ans.kd = k) (ha : Ev te σ H (.ref a)) (hT : At K H a T w) (hs : sqOf k T w) (ho : okA ans := by first | trivial | assumption) :
    Ev (tMeth (gaK K k) "shows" (sp_shows K k) [] E ta (tCons te tNil)) σ H (.bl (shown ans T)) := fun H1 e Q q =>
  h H1 e _ fun o H2 _ e2 hA => by
    obtain ⟨fs, ⟨dx, hi⟩, hl⟩ := hA.ins
    rw [hk] at hi
    exact ⟨o, dx, fs, rfl, hi, hl, ha H2 (e.trans e2) _ fun H3 e3 => ⟨_, ⟨o, a, T, w, ans, H1, rfl, hk, hA.mono e3, hT.mono ((e.trans e2).trans e3), ⟨hs, ho⟩, rfl⟩, fun H4 e4 => q H4 ((e2.trans e3).trans e4)⟩⟩
/-- .. of a table just made -/
theorem ev_showsNL {k : Kd} {E : XK} {T : Tb} {w : Nat} {ans : Ans} (h : EvO ta σ H (fun H1 H2 x => AnsAt K H1 H2 x ans)) (hk : ans.kd = k) (ha : EvS K te σ H (tv T)) (hT : Rect T w ∧ T.length ≤ 1000 ∧ w ≤ 1000) (hs : sqOf k T w) (ho : okA ans := by first | trivial | assumption) :
    Ev (tMeth (gaK K k) "shows" (sp_shows K k) [] E ta (tCons te tNil)) σ H (.bl (shown ans T)) := fun H1 e Q q =>
  h H1 e _ fun o H2 _ e2 hA => by
    obtain ⟨fs, ⟨dx, hi⟩, hl⟩ := hA.ins
    rw [hk] at hi
    exact ⟨o, dx, fs, rfl, hi, hl, ha H2 (e.trans e2) _ fun p H3 e3 hp => ⟨_, ⟨o, p, T, w, ans, H1, rfl, hk, hA.mono e3, ⟨hp, hT.1, hT.2.1, hT.2.2⟩, ⟨hs, ho⟩, rfl⟩, fun H4 e4 => q H4 ((e2.trans e3).trans e4)⟩⟩
/-! ### one of several classes -/
def tAny (ks : List Kd) (t : Kd → TE) : TE := fun σ H Q => ∃ k ∈ ks, t k σ H Q
theorem pe_any {X : Cx} {e : Expr} {ks : List Kd} {t : Kd → TE} (h : ∀ k ∈ ks, PE X e (t k)) : PE X e (tAny ks t) := ⟨fun pins s σ H Q I ⟨k, hk, q⟩ => (h k hk).run pins s σ H Q I q⟩
theorem ev_anyK {ks : List Kd} {t : Kd → TE} {k : Kd} (hk : k ∈ ks) (h : Ev (t k) σ H v) : Ev (tAny ks t) σ H v := fun H1 e Q q => ⟨k, hk, h H1 e Q q⟩
/-! ### isinstance of answers -/
theorem tyx_ans {o : Addr} {ans : Ans} (F : ClsF K (gaK K ans.kd)) (hA : AnsAt K H0 H o ans) : TyX K H (.ref o) (.ref (gaK K ans.kd)) := by
  obtain ⟨fs, ⟨dx, hi⟩, _⟩ := hA.ins
  exact .base (.ins hi F.cl F.cc F.sp F.tk F.mro)
theorem ev_isA {o : Addr} {ans : Ans} {c : Kd} (F : ClsF K (gaK K ans.kd)) (G : KindF K) (h : Ev te σ H (.ref o)) (hA : AnsAt K H0 H o ans) : Ev (tCB (rIsi K) (tCons te (tCons (tC (.ref (He.ga K c.name))) tNil))) σ H (.bl (decide (ans.kd = c))) :=
  ev_isi h (.own _) (fun H1 e => tyx_ans F (hA.mono e)) (G.one _ _)
theorem ev_isAns {o : Addr} {ans : Ans} (F : ClsF K (gaK K ans.kd)) (G : KindF K) (h : Ev te σ H (.ref o)) (hA : AnsAt K H0 H o ans) : Ev (tCB (rIsi K) (tCons te (tCons (tC (.ref (He.ga K "Answer"))) tNil))) σ H (.bl true) :=
  ev_isi h (.own _) (fun H1 e => tyx_ans F (hA.mono e)) (G.top _)
/-! ### None or an answer -/
theorem q_asgO {i : Nat} {P : Hp → Hp → Addr → Prop} (h : EvO te σ H P) (k : ∀ x H1, H x = none → Ex H H1 → P H H1 x → tz D (σ.set i (some (.ref x))) H1) : tSeq (tAsg te (gName i)) tz D σ H :=
  h H (Ex.refl H) _ fun x H1 hx e1 p => k x H1 hx e1 p
theorem s_retO {P : Hp → Hp → Addr → Prop} (h : EvO te σ H P) (k : ∀ x H1, H x = none → Ex H H1 → P H H1 x → D.rt (.ref x) H1) : tRet te D σ H := h H (Ex.refl H) _ fun x H1 hx e1 p => k x H1 hx e1 p
theorem rv_isN : RV rIsN x .non H (.bl (decide (x = .non))) := fun H1 _ _ q => ⟨rfl, q H1 (Ex.refl H1)⟩
theorem rv_notN : RV rNotN x .non H (.bl (!decide (x = .non))) := fun H1 _ _ q => ⟨rfl, q H1 (Ex.refl H1)⟩
end
/-! ### methods, makers, by their bodies -/
section
variable {P : Program} {w : World} {K : PySem.W.Frag} {mg : Str → Option Value} {base : Heap}
theorem met_of {m qual : Str} {C f : Addr} {st : Stmt} {N ps : List Str} {k : Nat} {sp : Sp} (c : Cls K C) (me : Meth K C m f) (D : ∃ fd, FunD K m qual (defArgs st) (defBody st) (defScope st) [] [] f fd) (S : FnScope N ps (defScope st))
    (hb : ∀ (kV doc pm : Value) (an : Option Addr) (cdv ct : Value) (us : List Value), us.length = ps.length → bindArgs (PySem.W.fnOf m qual (defArgs st) (defBody st) (defScope st) .none kV doc pm an cdv ct) ⟨us, []⟩ = pure (ps.zip us))
    (len : ∀ vs H Q E, sp vs H Q E → vs.length = ps.length)
    (hbody : ∀ (f : Addr) (cdv : Value) (A : Around) (outer : List Env) (s : Shared) (H : Hp) (vs : List V) (Q : VK) (E : XK), Room k (A.deeper (envOfC qual (defScope st) s.heap.objs.size f cdv)) → sp vs H Q E →
      ∃ t, PSs (cxOf C8.CX0 P w K mg base N qual (defScope st) f cdv A outer s H E).nox (defBody st) t ∧ t { nx := fun _ H' => Q .non H', rt := Q } (start N vs) H) : C8.Met P w K mg base (k + 1) C m sp [] := by
  obtain ⟨fd, F⟩ := D
  refine ⟨f, fd, ps, [], c, me, F.ok S len fun cdv A outer s H vs Q E hr h => ?_, F.bindsN hb, .nil⟩
  obtain ⟨t, h1, h2⟩ := hbody f cdv A outer s H vs Q E hr h
  exact ⟨t, h1.nox, h2⟩
theorem mak_of {x qual : Str} {C f : Addr} {st : Stmt} {N ps : List Str} {k : Nat} {sp : Sp} (M : Mk K C f) (hm : mg x = some (.ref C)) (D : ∃ fd, FunD K "__init__" qual (defArgs st) (defBody st) (defScope st) [] [] f fd) (S : FnScope N ps (defScope st))
    (hb : ∀ (kV doc pm : Value) (an : Option Addr) (cdv ct : Value) (us : List Value), us.length = ps.length → bindArgs (PySem.W.fnOf "__init__" qual (defArgs st) (defBody st) (defScope st) .none kV doc pm an cdv ct) ⟨us, []⟩ = pure (ps.zip us))
    (len : ∀ vs H Q E, sp vs H Q E → vs.length = ps.length)
    (hbody : ∀ (f : Addr) (cdv : Value) (A : Around) (outer : List Env) (s : Shared) (H : Hp) (vs : List V) (Q : VK) (E : XK), Room k (A.deeper (envOfC qual (defScope st) s.heap.objs.size f cdv)) → sp vs H Q E →
      ∃ t, PSs (cxOf C8.CX0 P w K mg base N qual (defScope st) f cdv A outer s H E).nox (defBody st) t ∧ t { nx := fun _ H' => Q .non H', rt := Q } (start N vs) H) : C8.Mak P w K mg base (k + 1) x C sp [] := by
  obtain ⟨fd, F⟩ := D
  refine ⟨f, fd, ps, [], M, F.ok S len fun cdv A outer s H vs Q E hr h => ?_, hm, F.bindsN hb, .nil⟩
  obtain ⟨t, h1, h2⟩ := hbody f cdv A outer s H vs Q E hr h
  exact ⟨t, h1.nox, h2⟩
end
/-! ### what __init__ does -/
section
variable {K : PySem.W.Frag} {σ : L2.St} {H H' H0 : Hp} {ta tb te tx : TE} {v : V} {D : Ends} {tz : TS}
/-- self.f = value, self a new instance -/
theorem s_fld {a C dx : Addr} {f : Str} {fs : List (Str × V)} (h : Ev te σ H v) (ho : Ev ta σ H (.ref a)) (hx : H a = some (.ins C dx fs)) (c : Cls K C) (n : NoAttr K C f) (hl : fs.length < 1000) (k : ∀ H1, Ex H H1 → D.nx σ (upd H1 a (.ins C dx (putF f v fs)))) :
    sFld K ta te f D σ H := h H (Ex.refl H) _ fun H1 e1 => ho H1 e1 _ fun H2 e2 => ⟨a, C, dx, fs, rfl, (e1.trans e2) _ _ hx, c, n, hl, k H2 (e1.trans e2)⟩
theorem q_fld {a C dx : Addr} {f : Str} {fs : List (Str × V)} (h : Ev te σ H v) (ho : Ev ta σ H (.ref a)) (hx : H a = some (.ins C dx fs)) (c : Cls K C) (n : NoAttr K C f) (hl : fs.length < 1000) (k : ∀ H1, Ex H H1 → tz D σ (upd H1 a (.ins C dx (putF f v fs)))) :
    tSeq (sFld K ta te f) tz D σ H := s_fld (D := { D with nx := tz D }) h ho hx c n hl k
theorem s_fldL {a C dx : Addr} {f : Str} {xs : List V} {fs : List (Str × V)} (h : EvL te σ H xs) (ho : Ev ta σ H (.ref a)) (hx : H a = some (.ins C dx fs)) (c : Cls K C) (n : NoAttr K C f) (hl : fs.length < 1000) (k : ∀ p H1, H p = none → Ex H H1 → H1 p = some (.lst xs) → D.nx σ (upd H1 a (.ins C dx (putF f (.ref p) fs)))) :
    sFld K ta te f D σ H := h H (Ex.refl H) _ fun p H1 hp e1 h1 => ho H1 e1 _ fun H2 e2 => ⟨a, C, dx, fs, rfl, (e1.trans e2) _ _ hx, c, n, hl, k p H2 hp (e1.trans e2) (e2 _ _ h1)⟩
theorem q_fldL {a C dx : Addr} {f : Str} {xs : List V} {fs : List (Str × V)} (h : EvL te σ H xs) (ho : Ev ta σ H (.ref a)) (hx : H a = some (.ins C dx fs)) (c : Cls K C) (n : NoAttr K C f) (hl : fs.length < 1000) (k : ∀ p H1, H p = none → Ex H H1 → H1 p = some (.lst xs) → tz D σ (upd H1 a (.ins C dx (putF f (.ref p) fs)))) :
    tSeq (sFld K ta te f) tz D σ H := s_fldL (D := { D with nx := tz D }) h ho hx c n hl k
/-- all but the object at x stay -/
def Ax (x : Addr) (H H' : Hp) : Prop := ∀ a o, a ≠ x → H a = some o → H' a = some o
theorem Ax.upd {x : Addr} {H H1 : Hp} {o : HO} (e : Ex H H1) : Ax x H (L2.upd H1 x o) := fun a u n h => by rw [upd_ne n]; exact e a u h
theorem Ax.trans {x : Addr} {H H1 H2 : Hp} (h : Ax x H H1) (g : Ax x H1 H2) : Ax x H H2 := fun a o n e => g a o n (h a o n e)
end
end WA

namespace WA
open PySem PySem.Spec PyProof.Rows L2 Evl
/-! ### arguments: values and lists -/
inductive Av
  | v (x : V) | s (xs : List V)
def AvsAre (K : PySem.W.Frag) (H : Hp) : List Av → List V → Prop
  | [], vs => vs = []
  | .v x :: r, vs => ∃ ws, vs = x :: ws ∧ AvsAre K H r ws
  | .s xs :: r, vs => ∃ p ws, vs = .ref p :: ws ∧ SqL K H p xs ∧ AvsAre K H r ws
def EvAv (K : PySem.W.Frag) (ts : TA) (σ : L2.St) (H : Hp) (as : List Av) : Prop := ∀ H1, Ex H H1 → ∀ Q : List V → Hp → Prop, (∀ vs H2, Ex H1 H2 → AvsAre K H2 as vs → Q vs H2) → ts σ H1 Q
section
variable {K : PySem.W.Frag} {σ : L2.St} {H H' H0 : Hp} {ta tb te tx : TE} {t u : TT} {x y z v : V} {D : Ends} {tu tw tz : TS} {g : TG} {xs ys : List V} {ts : TA} {sp : Sp} {E : XK} {dvs : List V}
theorem eav_nil : EvAv K tNil σ H [] := fun H1 _ _ q => q [] H1 (Ex.refl H1) rfl
theorem eav_v {as : List Av} (h : Ev te σ H x) (hr : EvAv K ts σ H as) : EvAv K (tCons te ts) σ H (.v x :: as) := fun H1 e _ q =>
  h H1 e _ fun H2 e2 => hr H2 (e.trans e2) _ fun vs H3 e3 p => q _ H3 (e2.trans e3) ⟨vs, rfl, p⟩
theorem eav_s {as : List Av} (h : EvS K te σ H xs) (hr : EvAv K ts σ H as) : EvAv K (tCons te ts) σ H (.s xs :: as) := fun H1 e _ q =>
  h H1 e _ fun p H2 e2 hp => hr H2 (e.trans e2) _ fun vs H3 e3 r => q _ H3 (e2.trans e3) ⟨p, vs, rfl, ex_l e3 hp, r⟩
theorem ev_callAv {as : List Av} (h : EvAv K ts σ H as) (hs : ∀ vs H1, Ex H H1 → AvsAre K H1 as vs → SpV sp (vs ++ dvs) H1 z) : Ev (tCall sp dvs E ts) σ H z := fun H1 e Q q =>
  h H1 e _ fun vs H2 e2 r => hs vs H2 (e.trans e2) r H2 (Ex.refl H2) Q (fun H3 e3 => q H3 (e2.trans e3)) E
theorem el_callAv {as : List Av} (h : EvAv K ts σ H as) (hs : ∀ vs H1, Ex H H1 → AvsAre K H1 as vs → SpL sp (vs ++ dvs) H1 ys) : EvL (tCall sp dvs E ts) σ H ys := fun H1 e Q q =>
  h H1 e _ fun vs H2 e2 r => hs vs H2 (e.trans e2) r H2 (Ex.refl H2) Q (fun p H3 hp e3 h3 => q p H3 (fresh_back e2 hp) (e2.trans e3) h3) E
/-! ### for a, b in zip(..), in enumerate(..) -/
theorem for_itS {J : It} {n : Nat} {g : TG} {tb : TS} {D : Ends} {σ : L2.St} {H : Hp} (Pv : Nat → L2.St → Hp → Prop) (h0 : Pv 0 σ H) (hstop : ∀ σ H, Pv n σ H → J.stop n H) (hgo : ∀ i σ H, i < n → Pv i σ H → J.go i H)
    (hs : ∀ i x σ H H', i < n → Pv i σ H → J.yld i H x H' → g x σ H' fun σ2 H2 => tb { D with nx := Pv (i + 1), ct := Pv (i + 1), bk := D.nx } σ2 H2) (hd : ∀ σ H, Pv n σ H → D.nx σ H) :
    ∃ W : Nat → Nat → L2.St → Hp → Prop, (∃ k, W 0 k σ H) ∧ ∀ i k σ H, W i k σ H → (J.stop i H ∧ D.nx σ H) ∨
      (J.go i H ∧ ∃ N : L2.St → Hp → Prop, (∀ σ' H', N σ' H' → ∃ k', k' < k ∧ W (i + 1) k' σ' H') ∧ ∀ x H', J.yld i H x H' → g x σ H' fun σ2 H2 => tb { D with nx := N, ct := N, bk := D.nx } σ2 H2) := by
  obtain ⟨W, ⟨k0, w0⟩, step⟩ := n_turns (α := L2.St × Hp) (a0 := (σ, H)) (Stop := fun i a => J.stop i a.2 ∧ D.nx a.1 a.2)
    (Go := fun i a N => J.go i a.2 ∧ ∀ x H', J.yld i a.2 x H' → g x a.1 H' fun σ2 H2 => tb { D with nx := fun σ' H' => N (σ', H'), ct := fun σ' H' => N (σ', H'), bk := D.nx } σ2 H2) (fun i a => Pv i a.1 a.2) h0
    (fun i a lt p => ⟨hgo i a.1 a.2 lt p, fun x H' y => hs i x a.1 a.2 H' lt p y⟩) fun a p => ⟨hstop a.1 a.2 p, hd a.1 a.2 p⟩
  exact ⟨fun i k σ H => W i k (σ, H), ⟨k0, w0⟩, fun i k σ H h => (step i k _ h).imp id fun ⟨N, fall, go, turn⟩ => ⟨go, fun σ' H' => N (σ', H'), fun σ' H' q => fall _ q, turn⟩⟩
/-- over zip, the general form: the invariant tells that both lists stand -/
theorem s_forZG {α β : Type} {l : List α} {m : List β} {f : α → V} {f' : β → V} {i j : Nat} (h : EvS K ta σ H (l.map f)) (h' : EvS K tb σ H (m.map f')) (hlm : l.length = m.length) (Pv : Addr → Addr → Nat → L2.St → Hp → Prop)
    (h0 : ∀ a b H1, Ex H H1 → SqL K H1 a (l.map f) → SqL K H1 b (m.map f') → Pv a b 0 σ H1) (hq : ∀ a b i σ' H', Pv a b i σ' H' → SqL K H' a (l.map f) ∧ SqL K H' b (m.map f')) (hP : ∀ a b i σ' H' H'', Ex H' H'' → Pv a b i σ' H' → Pv a b i σ' H'')
    (hs : ∀ a b k x y σ' H', l[k]? = some x → m[k]? = some y → Pv a b k σ' H' → tu { D with nx := Pv a b (k + 1), ct := Pv a b (k + 1), bk := D.nx } ((σ'.set i (some (f x))).set j (some (f' y))) H') (hd : ∀ a b σ' H', Pv a b l.length σ' H' → D.nx σ' H') :
    tFor (iZip K (tCons ta (tCons tb tNil))) (gTup K 2 (gCons (gName i) (gCons (gName j) gNil))) tu D σ H :=
  h H (Ex.refl H) _ fun a H1 e1 hxa => h' H1 e1 _ fun b H2 e2 hyb => ⟨a, b, _, _, rfl, ex_l e2 hxa, hyb, by
    refine for_itS (J := Itz K a b) (n := l.length) (fun k σ' H' => Pv a b k σ' H') (h0 a b H2 (e1.trans e2) (ex_l e2 hxa) hyb) (fun σ' H' pv => ⟨_, _, (hq _ _ _ _ _ pv).1, (hq _ _ _ _ _ pv).2, .inl (by rw [List.length_map]; exact Nat.le_refl _)⟩)
      (fun k σ' H' hk pv => ⟨_, _, f l[k], f' (m[k]'(by omega)), (hq _ _ _ _ _ pv).1, (hq _ _ _ _ _ pv).2, by rw [List.getElem?_map, List.getElem?_eq_getElem hk]; rfl, by rw [List.getElem?_map, List.getElem?_eq_getElem (show k < m.length by omega)]; rfl⟩) (fun k x σ' H' H'' hk pv hyl => ?_) fun σ' H' pv => hd a b σ' H' pv
    obtain ⟨T, x1, y1, rfl, hT, rfl, hf1, hf2⟩ := hyl
    have hk2 : k < m.length := by omega
    have ex1 := hf1 _ (hq _ _ _ _ _ pv).1
    have ey1 := hf2 _ (hq _ _ _ _ _ pv).2
    rw [List.getElem?_map, List.getElem?_eq_getElem hk] at ex1
    rw [List.getElem?_map, List.getElem?_eq_getElem hk2] at ey1
    have ex1 := (Option.some.inj ex1).symm
    have ey1 := (Option.some.inj ey1).symm
    subst ex1 ey1
    exact g_pair (st_of upd_same) (hs a b k l[k] m[k] σ' _ (List.getElem?_eq_getElem hk) (List.getElem?_eq_getElem hk2) (hP _ _ _ _ _ _ (Ex.new hT) pv))⟩
/-- over zip, nothing is changed -/
theorem s_forZ {α β : Type} {l : List α} {m : List β} {f : α → V} {f' : β → V} {i j : Nat} (h : EvS K ta σ H (l.map f)) (h' : EvS K tb σ H (m.map f')) (hlm : l.length = m.length) (Pv : Nat → L2.St → Prop) (h0 : Pv 0 σ)
    (hs : ∀ k x y σ' H', l[k]? = some x → m[k]? = some y → Ex H H' → Pv k σ' → ∀ D' : Ends, D'.rt = D.rt → D'.bk = D.nx → (∀ σ2 H2, Ex H' H2 → Pv (k + 1) σ2 → D'.nx σ2 H2) → tu D' ((σ'.set i (some (f x))).set j (some (f' y))) H') (hd : ∀ σ' H', Ex H H' → Pv l.length σ' → D.nx σ' H') :
    tFor (iZip K (tCons ta (tCons tb tNil))) (gTup K 2 (gCons (gName i) (gCons (gName j) gNil))) tu D σ H :=
  s_forZG h h' hlm (fun a b k σ' H' => Ex H H' ∧ SqL K H' a (l.map f) ∧ SqL K H' b (m.map f') ∧ Pv k σ') (fun a b H1 e1 ha hb => ⟨e1, ha, hb, h0⟩) (fun a b k σ' H' pv => ⟨pv.2.1, pv.2.2.1⟩) (fun a b k σ' H' H'' e pv => ⟨pv.1.trans e, ex_l e pv.2.1, ex_l e pv.2.2.1, pv.2.2.2⟩)
    (fun a b k x y σ' H' hx hy pv => hs k x y σ' H' hx hy pv.1 pv.2.2.2 _ rfl rfl fun σ2 H2 e2 p2 => ⟨pv.1.trans e2, ex_l e2 pv.2.1, ex_l e2 pv.2.2.1, p2⟩) fun a b σ' H' pv => hd σ' H' pv.1 pv.2.2.2
theorem q_forZ {α β : Type} {l : List α} {m : List β} {f : α → V} {f' : β → V} {i j : Nat} (h : EvS K ta σ H (l.map f)) (h' : EvS K tb σ H (m.map f')) (hlm : l.length = m.length) (Pv : Nat → L2.St → Prop) (h0 : Pv 0 σ)
    (hs : ∀ k x y σ' H', l[k]? = some x → m[k]? = some y → Ex H H' → Pv k σ' → ∀ D' : Ends, D'.rt = D.rt → D'.bk = tz D → (∀ σ2 H2, Ex H' H2 → Pv (k + 1) σ2 → D'.nx σ2 H2) → tu D' ((σ'.set i (some (f x))).set j (some (f' y))) H') (hd : ∀ σ' H', Ex H H' → Pv l.length σ' → tz D σ' H') :
    tSeq (tFor (iZip K (tCons ta (tCons tb tNil))) (gTup K 2 (gCons (gName i) (gCons (gName j) gNil))) tu) tz D σ H := s_forZ (D := { D with nx := tz D }) h h' hlm Pv h0 hs hd
/-- over enumerate, the general form -/
theorem s_forEG {α : Type} {l : List α} {f : α → V} {i j : Nat} (h : EvS K ta σ H (l.map f)) (Pv : Addr → Nat → L2.St → Hp → Prop)
    (h0 : ∀ a H1, Ex H H1 → SqL K H1 a (l.map f) → Pv a 0 σ H1) (hq : ∀ a i σ' H', Pv a i σ' H' → SqL K H' a (l.map f)) (hP : ∀ a i σ' H' H'', Ex H' H'' → Pv a i σ' H' → Pv a i σ' H'')
    (hs : ∀ a k x σ' H', l[k]? = some x → Pv a k σ' H' → tu { D with nx := Pv a (k + 1), ct := Pv a (k + 1), bk := D.nx } ((σ'.set i (some (.int (k : Nat)))).set j (some (f x))) H') (hd : ∀ a σ' H', Pv a l.length σ' H' → D.nx σ' H') :
    tFor (iEnum K (tCons ta tNil)) (gTup K 2 (gCons (gName i) (gCons (gName j) gNil))) tu D σ H :=
  h H (Ex.refl H) _ fun a H1 e1 hxa => ⟨a, _, rfl, hxa, by
    refine for_itS (J := Ite K a) (n := l.length) (fun k σ' H' => Pv a k σ' H') (h0 a H1 e1 hxa) (fun σ' H' pv => ⟨_, hq _ _ _ _ pv, by rw [List.length_map]; exact Nat.le_refl _⟩)
      (fun k σ' H' hk pv => ⟨_, _, hq _ _ _ _ pv, by rw [List.getElem?_map, List.getElem?_eq_getElem hk]; rfl⟩) (fun k x σ' H' H'' hk pv hyl => ?_) fun σ' H' pv => hd a σ' H' pv
    obtain ⟨T, y1, rfl, hT, rfl, hf⟩ := hyl
    have ey1 := hf _ (hq _ _ _ _ pv)
    rw [List.getElem?_map, List.getElem?_eq_getElem hk] at ey1
    have ey1 := (Option.some.inj ey1).symm
    subst ey1
    exact g_pair (st_of upd_same) (hs a k l[k] σ' _ (List.getElem?_eq_getElem hk) (hP _ _ _ _ _ (Ex.new hT) pv))⟩
theorem s_forE {α : Type} {l : List α} {f : α → V} {i j : Nat} (h : EvS K ta σ H (l.map f)) (Pv : Nat → L2.St → Prop) (h0 : Pv 0 σ)
    (hs : ∀ k x σ' H', l[k]? = some x → Ex H H' → Pv k σ' → ∀ D' : Ends, D'.rt = D.rt → D'.bk = D.nx → (∀ σ2 H2, Ex H' H2 → Pv (k + 1) σ2 → D'.nx σ2 H2) → tu D' ((σ'.set i (some (.int (k : Nat)))).set j (some (f x))) H') (hd : ∀ σ' H', Ex H H' → Pv l.length σ' → D.nx σ' H') :
    tFor (iEnum K (tCons ta tNil)) (gTup K 2 (gCons (gName i) (gCons (gName j) gNil))) tu D σ H :=
  s_forEG h (fun a k σ' H' => Ex H H' ∧ SqL K H' a (l.map f) ∧ Pv k σ') (fun a H1 e1 ha => ⟨e1, ha, h0⟩) (fun a k σ' H' pv => pv.2.1) (fun a k σ' H' H'' e pv => ⟨pv.1.trans e, ex_l e pv.2.1, pv.2.2⟩)
    (fun a k x σ' H' hx pv => hs k x σ' H' hx pv.1 pv.2.2 _ rfl rfl fun σ2 H2 e2 p2 => ⟨pv.1.trans e2, ex_l e2 pv.2.1, p2⟩) fun a σ' H' pv => hd σ' H' pv.1 pv.2.2
theorem q_forE {α : Type} {l : List α} {f : α → V} {i j : Nat} (h : EvS K ta σ H (l.map f)) (Pv : Nat → L2.St → Prop) (h0 : Pv 0 σ)
    (hs : ∀ k x σ' H', l[k]? = some x → Ex H H' → Pv k σ' → ∀ D' : Ends, D'.rt = D.rt → D'.bk = tz D → (∀ σ2 H2, Ex H' H2 → Pv (k + 1) σ2 → D'.nx σ2 H2) → tu D' ((σ'.set i (some (.int (k : Nat)))).set j (some (f x))) H') (hd : ∀ σ' H', Ex H H' → Pv l.length σ' → tz D σ' H') :
    tSeq (tFor (iEnum K (tCons ta tNil)) (gTup K 2 (gCons (gName i) (gCons (gName j) gNil))) tu) tz D σ H := s_forE (D := { D with nx := tz D }) h Pv h0 hs hd
/-- over range(n), nothing is changed -/
theorem s_forR {j n : Nat} {tn : TE} (h : Ev tn σ H (.int (n : Nat))) (hn : n ≤ 1000) (Pv : Nat → L2.St → Prop) (h0 : Pv 0 σ)
    (hs : ∀ k σ' H', k < n → Ex H H' → Pv k σ' → ∀ D' : Ends, D'.rt = D.rt → D'.bk = D.nx → (∀ σ2 H2, Ex H' H2 → Pv (k + 1) σ2 → D'.nx σ2 H2) → tu D' (σ'.set j (some (.int (k : Nat)))) H') (hd : ∀ σ' H', Ex H H' → Pv n σ' → D.nx σ' H') :
    tFor (iRng1 (tCons tn tNil)) (gName j) tu D σ H :=
  s_forR1 (n := (n : Nat)) (ea_cons h ea_nil) (by omega) (fun k σ' H' => Ex H H' ∧ Pv k σ') (fun H1 e1 => ⟨e1, h0⟩) (fun k σ' H' hk pv => hs k σ' H' (by omega) pv.1 pv.2 _ rfl rfl fun σ2 H2 e2 p2 => ⟨pv.1.trans e2, p2⟩) fun σ' H' pv => hd σ' H' pv.1 (by
    have e : ((n : Nat) : Int).toNat = n := Int.toNat_natCast n
    rw [e] at pv
    exact pv.2)
theorem q_forR {j n : Nat} {tn : TE} (h : Ev tn σ H (.int (n : Nat))) (hn : n ≤ 1000) (Pv : Nat → L2.St → Prop) (h0 : Pv 0 σ)
    (hs : ∀ k σ' H', k < n → Ex H H' → Pv k σ' → ∀ D' : Ends, D'.rt = D.rt → D'.bk = tz D → (∀ σ2 H2, Ex H' H2 → Pv (k + 1) σ2 → D'.nx σ2 H2) → tu D' (σ'.set j (some (.int (k : Nat)))) H') (hd : ∀ σ' H', Ex H H' → Pv n σ' → tz D σ' H') :
    tSeq (tFor (iRng1 (tCons tn tNil)) (gName j) tu) tz D σ H := s_forR (D := { D with nx := tz D }) h hn Pv h0 hs hd
/-- signs joined, told by another list -/
theorem ev_signsL {α : Type} {l : List α} {f : α → V} {p : α → Bool} {j : Nat} {tl : TE} {tt : TT} {vs : List Nat} (h : EvS K tl σ H (l.map f)) (hz : l.length ≤ 1000) (hw : ∀ x, wipe ((wipe σ vs).set j (some x)) vs = wipe σ vs)
    (ht : ∀ a ∈ l, EvT tt ((wipe σ vs).set j (some (f a))) H (p a)) : Ev (tM1 (rJoin K) (tC (.str "")) (tLc (iList K tl) (gName j) tYes (tIf tt (tC (.str "x")) (tC (.str "-"))) vs)) σ H (.str (rs (l.map p))) := by
  refine ev_joinS (bs := l.map p) ?_ (by rw [List.length_map]; omega)
  rw [List.map_map]
  exact els (el_map (g := f) (f := fun a => V.str (s1 (p a))) h (by omega) hw fun a ha => ev_ifSg (ht a ha))
theorem dec_rs (a b : List Bool) : decide (V.str (rs a) = V.str (rs b)) = decide (a = b) := by
  by_cases h : a = b
  · subst h; simp
  · rw [decide_eq_false h, decide_eq_false fun e => h (rs_inj (V.str.inj e))]
theorem tv_map (T : Tb) : tv T = T.map fun r => V.str (rs r) := rfl
/-! ### is there a row, a column -/
theorem inT_nat {T : Tb} {a : Int} (h : inT T a = true) : ∃ i : Nat, a = (i : Nat) ∧ i < T.length := by
  unfold inT at h
  simp only [Bool.and_eq_true, decide_eq_true_eq] at h
  exact ⟨a.toNat, by omega, by omega⟩
theorem inW_nat {T : Tb} {a : Int} (h : inW T a = true) : ∃ i : Nat, a = (i : Nat) ∧ i < width T := by
  unfold inW at h
  simp only [Bool.and_eq_true, decide_eq_true_eq] at h
  exact ⟨a.toNat, by omega, by omega⟩
theorem width_at {a : Addr} {T : Tb} {w : Nat} (h : At K H a T w) (hn : T ≠ []) : width T = w := by
  unfold width
  exact h.row (List.length_pos_iff.mpr hn)
theorem gi_nat {T : Tb} {i j : Nat} : gi T (i : Nat) (j : Nat) = gt T i j := by unfold gi; rw [Int.toNat_natCast, Int.toNat_natCast]
theorem inT_ne {T : Tb} {a : Int} (h : inT T a = true) : T ≠ [] := by
  obtain ⟨i, _, hi⟩ := inT_nat h
  intro z
  rw [z] at hi
  exact absurd hi (Nat.not_lt_zero _)
theorem rowsAre_iff {T : Tb} {ms : List Int} {p : Int → List Bool} : rowsAre T ms p = true ↔ ∀ (i : Nat) row m, T[i]? = some row → ms[i]? = some m → p m = row := by
  unfold rowsAre
  rw [List.all_eq_true]
  constructor
  · intro h i row m h1 h2
    have hz : (T.zip ms)[i]? = some (row, m) := by rw [List.getElem?_zip_eq_some]; exact ⟨h1, h2⟩
    exact of_decide_eq_true (h _ (List.mem_of_getElem? hz))
  · rintro h ⟨row, m⟩ hx
    obtain ⟨i, hi⟩ := List.mem_iff_getElem?.mp hx
    rw [List.getElem?_zip_eq_some] at hi
    exact decide_eq_true (h i row m hi.1 hi.2)
theorem rowsAre_bad {T : Tb} {ms : List Int} {p : Int → List Bool} {i : Nat} {row : List Bool} {m : Int} (h1 : T[i]? = some row) (h2 : ms[i]? = some m) (h : ¬ p m = row) : rowsAre T ms p = false := by
  cases e : rowsAre T ms p with
  | false => rfl
  | true => exact absurd (rowsAre_iff.mp e i row m h1 h2) h
theorem ranks_bad {T : Tb} {r : List Int} {i : Nat} {row : List Bool} {m : Int} (h1 : T[i]? = some row) (h2 : r[i]? = some m) (h : ¬ (r.map fun t => decide (m < t)) = row) : ranksOk r T = false := by
  unfold ranksOk
  rw [rowsAre_bad (p := fun m => r.map fun t => decide (m < t)) h1 h2 h, Bool.and_false]
theorem ranks_good {T : Tb} {r : List Int} (hl : r.length = T.length) (h : ∀ (i : Nat) row m, T[i]? = some row → r[i]? = some m → (r.map fun t => decide (m < t)) = row) : ranksOk r T = true := by
  unfold ranksOk
  rw [decide_eq_true hl, rowsAre_iff.mpr h]; rfl
theorem three_in {T : Tb} {i j k : Int} (h : threeT T i j k = true) : inT T i = true ∧ inT T j = true ∧ inT T k = true := by
  unfold threeT at h
  simp only [Bool.and_eq_true] at h
  exact ⟨h.1.1, h.1.2.1, h.1.2.2⟩
end
end WA

namespace WA
open PySem PySem.Spec PyProof.Rows L2 Evl
/-! ### len(set(xs)), whatever the items are -/
/-- a set of k members stands at a -/
def SizeAt (k : Nat) (a : Addr) (h : Heap) : Prop := ∃ o es ep t, h.get? a = some o ∧ o.ExactSet ∧ o.data = .set es ep t ∧ t.fits es.size = true ∧ es.size = k
/-- the list at l fills a set of k members -/
def HasSet (X : Cx) (H : Hp) (l : Addr) (k : Nat) : Prop := ∀ {pins σ s}, Inv X pins σ H s → ∃ its, s.heap.IsList l its ∧ Fills X.prog X.w l its (SizeAt k)
theorem pe_lenNew {X : Cx} {a : Expr} {ta : TE} {p p2 q pos : Pos} (hg : Gl X "len") (hm : X.mg "len" = none) (hg2 : Gl X "set") (hm2 : X.mg "set" = none) (ha : PE X a ta) (hc : X.calm = true)
    (na : starEach [a] X.env = (false, eval a X.env) :: starEach [] X.env) {Rr : VK → VK} (hR : ∀ Q x H, Rr Q x H → ∃ l k, x = .ref l ∧ HasSet X H l k ∧ k ≤ 1000 ∧ Q (.int (k : Nat)) H) :
    PE X (.Call (.Name "len" p) [.Call (.Name "set" p2) [a] [] q] [] pos) (fun σ H Q => ta σ H (Rr Q)) := by
  constructor
  intro pins s σ H Q I h
  have inner : wpAny (model X.prog X.w) X.A (eval (.Call (.Name "set" p2) [a] [] q) X.env) (fun v t => ∃ k H1, (∃ b, v = .ref b ∧ SizeAt k b t.heap) ∧ k ≤ 1000 ∧ Inv X pins σ H1 t ∧ Q (.int (k : Nat)) H1) X.xe s := by
    refine Call_ (ld_blt I hg2 hm2 boot_set (PyProof.Rows.callWith_type1 (one_arg ha I h (fun v s1 x H1 I1 r1 q1 => ?_) na) na))
    obtain ⟨l, k, ex, hs, hk, q2⟩ := hR Q x H1 q1
    subst ex
    cases r1
    obtain ⟨its, il, fl⟩ := hs I1
    refine call_fill fl (I1.ok.hd hc) il fun t ⟨h', tk, e, sz, kp⟩ => ?_
    subst e
    exact ⟨k, H1, ⟨_, rfl, sz⟩, hk, I1.kept kp, q2⟩
  refine Call_ (ld_blt I hg hm boot_len (PyProof.Rows.callWith_builtin1 (PyProof.Rows.args_cons (wpAny_mono inner (fun v t z => PyProof.Rows.args_nil ?_) fun e t z => z) rfl) rfl))
  obtain ⟨k, H1, ⟨b, rfl, o, es, ep, ts, ho, hex, hd, hf, hk⟩, hz, J, q2⟩ := z
  subst hk
  exact call_len_set ho hex hd hf (by omega) ⟨.int (es.size : Nat), H1, J.tok _, ⟨_, rfl⟩, q2⟩
/-! ### len(set(ns)) -/
theorem HasSet.ints {X : Cx} {H : Hp} {l : Addr} {ns : List Int} (h : SqL X.K H l (ns.map V.int)) (hz : ns.length ≤ 1000) : HasSet X H l (diff ns) := fun {pins σ s} I => by
  obtain ⟨its, r, pl, _⟩ := I.list h
  refine ⟨_, pl.isList, (fills_ints (ints_of_vals r) (by have : 1000 + 1 < scanBound := (by decide); omega)).mono fun a h' ⟨c, R⟩ => ?_⟩
  obtain ⟨ks, k1, k2⟩ := setR_keys R
  have hd := diff_of k1.1 k1.2
  obtain ⟨o, es, ep, t, ho, hex, hd2, _, _, _, _, hf, hn, _⟩ := R
  exact ⟨o, es, ep, t, ho, hex, hd2, hf, by rw [hn, ← k2, hd]⟩
def tLenS (K : PySem.W.Frag) (ta : TE) : TE := fun σ H Q => ta σ H fun x H1 => ∃ (l : Addr) (ns : List Int), x = .ref l ∧ SqL K H1 l (ns.map V.int) ∧ ns.length ≤ 1000 ∧ Q (.int (diff ns : Nat)) H1
theorem pe_lenS {X : Cx} {a : Expr} {ta : TE} {p p2 q pos : Pos} (hg : Gl X "len") (hm : X.mg "len" = none) (hg2 : Gl X "set") (hm2 : X.mg "set" = none) (ha : PE X a ta)
    (hc : X.calm = true := by rfl) (na : starEach [a] X.env = (false, eval a X.env) :: starEach [] X.env := by rfl) : PE X (.Call (.Name "len" p) [.Call (.Name "set" p2) [a] [] q] [] pos) (tLenS X.K ta) :=
  pe_lenNew hg hm hg2 hm2 ha hc na fun Q x H ⟨l, ns, e, hq, hl, q1⟩ => ⟨l, _, e, HasSet.ints hq hl, Nat.le_trans (diff_le ns) hl, q1⟩
section
variable {K : PySem.W.Frag} {σ : L2.St} {H : Hp} {te : TE}
theorem ev_lenSet {ns : List Int} (h : EvS K te σ H (ns.map V.int)) (hz : ns.length ≤ 1000) : Ev (tLenS K te) σ H (.int (diff ns : Nat)) := fun H1 e Q q => h H1 e _ fun p H2 e2 hp => ⟨p, ns, rfl, hp, hz, q H2 e2⟩
end
end WA

namespace WA
open PySem L2
/-! ### how many are ahead -/
theorem mem_colOf {T : Tb} {i j : Nat} : i ∈ colOf T j ↔ i < T.length ∧ gt T i j = true := by
  unfold colOf
  rw [List.mem_filter, List.mem_range]
theorem colOf_nodup (T : Tb) (j : Nat) : (colOf T j).Nodup := List.Pairwise.filter _ List.nodup_range
def szT (T : Tb) (j : Nat) : Nat := (colOf T j).length
def sizesT (T : Tb) : List Nat := (List.range T.length).map (szT T)
theorem sizesT_len (T : Tb) : (sizesT T).length = T.length := by unfold sizesT; rw [List.length_map, List.length_range]
theorem sizesT_at {T : Tb} {i : Nat} (h : i < T.length) : (sizesT T)[i]? = some (szT T i) := by unfold sizesT; rw [List.getElem?_map, List.getElem?_range h]; rfl
theorem szT_mem {T : Tb} {i : Nat} (h : i < T.length) : szT T i ∈ sizesT T := List.mem_of_getElem? (sizesT_at h)
def levelsN (sz : List Nat) : List Nat := sz.map (lev sz)
theorem levelsN_len (sz : List Nat) : (levelsN sz).length = sz.length := List.length_map _
/-- nothing is ahead of itself, no two are ahead of one another -/
def NoSelf (T : Tb) : Prop := ∀ i, i < T.length → gt T i i = false
def NoMut (T : Tb) : Prop := ∀ i j, i < T.length → j < T.length → gt T i j = true → gt T j i = false
/-- the first that is ahead of one, not of the other -/
def faL (T : Tb) (i j : Nat) : List Nat := (colOf T i).filter fun t => !gt T t j
def faT (T : Tb) (i j : Nat) : Nat := (faL T i j).getD 0 0
def FaEx (T : Tb) (i j : Nat) : Prop := ∃ t, t < T.length ∧ gt T t i = true ∧ gt T t j = false
theorem fa_head {T : Tb} {i j : Nat} (h : FaEx T i j) : (faL T i j)[0]? = some (faT T i j) ∧ faT T i j < T.length ∧ gt T (faT T i j) i = true ∧ gt T (faT T i j) j = false := by
  obtain ⟨t, h1, h2, h3⟩ := h
  have hm : t ∈ faL T i j := by
    unfold faL
    rw [List.mem_filter, mem_colOf]
    exact ⟨⟨h1, h2⟩, by rw [h3]; rfl⟩
  have hp := List.length_pos_of_mem hm
  have e0 : (faL T i j)[0]? = some (faT T i j) := by
    unfold faT
    rw [List.getD_eq_getElem?_getD, List.getElem?_eq_getElem hp]; rfl
  have hm2 := List.mem_of_getElem? e0
  unfold faL at hm2
  rw [List.mem_filter, mem_colOf] at hm2
  exact ⟨e0, hm2.1.1, hm2.1.2, by simpa using hm2.2⟩
theorem fa_ex1 {T : Tb} {i j : Nat} (hs : NoSelf T) (hi : i < T.length) (h : gt T i j = true) (hz : szT T j ≤ szT T i) : FaEx T i j := by
  refine Classical.byContradiction fun hn => ?_
  have sub : ∀ t, t < T.length → gt T t i = true → gt T t j = true := fun t h1 h2 => by
    cases e : gt T t j with
    | true => rfl
    | false => exact absurd ⟨t, h1, h2, e⟩ hn
  have hnd : (colOf T i ++ [i]).Nodup := by
    rw [List.nodup_append]
    refine ⟨colOf_nodup T i, by simp, fun a ha b hb => ?_⟩
    rw [List.mem_singleton.mp hb]
    intro z
    rw [z] at ha
    have := (mem_colOf.mp ha).2
    rw [hs i hi] at this
    cases this
  have z := nodup_leA hnd (ns := colOf T j) fun k hk => by
    rcases List.mem_append.mp hk with hk | hk
    · have := mem_colOf.mp hk
      exact mem_colOf.mpr ⟨this.1, sub k this.1 this.2⟩
    · rw [List.mem_singleton.mp hk]
      exact mem_colOf.mpr ⟨hi, h⟩
  rw [List.length_append, List.length_singleton] at z
  unfold szT at hz
  omega
theorem fa_ex2 {T : Tb} {i j : Nat} (hz : szT T i < szT T j) : FaEx T j i := by
  refine Classical.byContradiction fun hn => ?_
  have z := nodup_leA (colOf_nodup T j) (ns := colOf T i) fun k hk => by
    have h1 := mem_colOf.mp hk
    refine mem_colOf.mpr ⟨h1.1, ?_⟩
    cases e : gt T k i with
    | true => rfl
    | false => exact absurd ⟨k, h1.1, h1.2, e⟩ hn
  unfold szT at hz
  omega
theorem inT_of {T : Tb} {i : Nat} (h : i < T.length) : inT T (i : Nat) = true := by
  unfold inT
  rw [decide_eq_true (by omega), decide_eq_true (by omega)]; rfl
theorem three_of {T : Tb} {i j k : Nat} (hi : i < T.length) (hj : j < T.length) (hk : k < T.length) (h1 : i ≠ j) (h2 : i ≠ k) (h3 : j ≠ k) : threeT T (i : Nat) (j : Nat) (k : Nat) = true := by
  unfold threeT
  rw [inT_of hi, inT_of hj, inT_of hk, decide_eq_false (show ¬ ((i : Nat) : Int) = (j : Nat) by omega), decide_eq_false (show ¬ ((i : Nat) : Int) = (k : Nat) by omega), decide_eq_false (show ¬ ((j : Nat) : Int) = (k : Nat) by omega)]; rfl
theorem beside_of {T : Tb} {i j : Nat} (hs : NoSelf T) (hi : i < T.length) (hj : j < T.length) (hij : i ≠ j) (hb : gt T j i = false) (h : FaEx T i j) : shown (.beside (faT T i j : Nat) (i : Nat) (j : Nat)) T = true := by
  obtain ⟨_, h1, h2, h3⟩ := fa_head h
  have n1 : faT T i j ≠ i := fun z => by rw [z, hs i hi] at h2; cases h2
  have n2 : faT T i j ≠ j := fun z => by rw [z, hb] at h2; cases h2
  simp only [shown, gi_nat]
  rw [three_of h1 hi hj n1 n2 hij, h2, h3, hb]; rfl
theorem ranks_of {T : Tb} (hr : Rect T T.length) (h : ∀ i j, i < T.length → j < T.length → gt T i j = decide (szT T i < szT T j)) : shown (.ranks (intsOf (levelsN (sizesT T)))) T = true := by
  show ranksOk _ _ = true
  have hl : (intsOf (levelsN (sizesT T))).length = T.length := by rw [intsOf_len, levelsN_len, sizesT_len]
  refine ranks_good hl fun i row m h1 h2 => ?_
  have hi : i < T.length := (List.getElem?_eq_some_iff.mp h1).1
  have hlen : row.length = T.length := hr row (List.mem_of_getElem? h1)
  have em : m = (lev (sizesT T) (szT T i) : Nat) := by
    unfold intsOf levelsN at h2
    rw [List.getElem?_map, List.getElem?_map, sizesT_at hi] at h2
    exact (Option.some.inj h2).symm
  rw [← row_ext hlen]
  unfold intsOf levelsN
  have e0 : sizesT T = (List.range T.length).map (szT T) := rfl
  rw [List.map_map, List.map_map]
  conv => lhs; arg 2; rw [e0]
  rw [List.map_map]
  refine List.map_congr_left fun j hj => ?_
  have hj' := List.mem_range.mp hj
  have eg : row.getD j false = gt T i j := by
    unfold gt
    rw [List.getD_eq_getElem?_getD (l := T), h1]; rfl
  show decide (m < ((lev (sizesT T) (szT T j) : Nat) : Int)) = row.getD j false
  rw [eg, h i j hi hj', em]
  have := lev_iff (sz := sizesT T) (t := szT T j) (szT_mem hi)
  exact decide_eq_decide.mpr ⟨fun z => this.mp (by omega), fun z => by have := this.mpr z; omega⟩
theorem noMut_of {T : Tb} (hs : NoSelf T) (h : ∀ i j, i < T.length → j < i → ¬ (gt T i j = true ∧ gt T j i = true)) : NoMut T := fun i j hi hj hg => by
  cases e : gt T j i with
  | false => rfl
  | true =>
    by_cases h1 : j < i
    · exact absurd ⟨hg, e⟩ (h i j hi h1)
    · by_cases h2 : i = j
      · rw [h2, hs j hj] at hg; cases hg
      · exact absurd ⟨e, hg⟩ (h j i hj (by omega))
end WA

namespace WA
open PySem PySem.Spec PyProof.Rows L2 Evl
/-! ### an answer that is good, or None -/
def EvOpt (K : PySem.W.Frag) (te : TE) (σ : L2.St) (H : Hp) (good : Ans → Prop) (nn : Prop) : Prop := ∀ H1, Ex H H1 → ∀ Q : VK,
  (∀ ans x H2, good ans → H1 x = none → Ex H1 H2 → AnsAt K H1 H2 x ans → Q (.ref x) H2) → (nn → ∀ H2, Ex H1 H2 → Q .non H2) → te σ H1 Q
def spOpt (K : PySem.W.Frag) (pre : List V → Hp → Tb → Prop) (good : Tb → Ans → Prop) (nn : Tb → Prop) : Sp := fun vs H Q _ => ∃ T, pre vs H T ∧
  (∀ ans x H2, good T ans → H x = none → Ex H H2 → AnsAt K H H2 x ans → Q (.ref x) H2) ∧ (nn T → ∀ H2, Ex H H2 → Q .non H2)
/-- a square table of fewer than 64 rows -/
def preSq (K : PySem.W.Frag) (vs : List V) (H : Hp) (T : Tb) : Prop := ∃ a, vs = [.ref a] ∧ At K H a T T.length ∧ T.length < 64
section
variable {K : PySem.W.Frag} {σ : L2.St} {H H' H0 : Hp} {ta tb te tx : TE} {t u : TT} {x y z v : V} {D : Ends} {tu tw tz : TS} {g : TG} {xs ys : List V} {ts : TA} {good : Ans → Prop} {nn : Prop}
theorem eopt_call {pre : List V → Hp → Tb → Prop} {good : Tb → Ans → Prop} {nn : Tb → Prop} {E : XK} {T : Tb} {vs : List V} (h : EvA ts σ H vs) (hp : ∀ H1, Ex H H1 → pre vs H1 T) : EvOpt K (tCall (spOpt K pre good nn) [] E ts) σ H (good T) (nn T) := fun H1 e Q q1 q2 =>
  h H1 e _ fun H2 e2 => by
    rw [List.append_nil]
    exact ⟨T, hp H2 (e.trans e2), fun ans x H3 hg hx e3 hA => q1 ans x H3 hg (fresh_back e2 hx) (e2.trans e3) (hA.back e2), fun n H3 e3 => q2 n H3 (e2.trans e3)⟩
theorem q_asgOpt {i : Nat} (h : EvOpt K te σ H good nn) (k1 : ∀ ans x H1, good ans → H x = none → Ex H H1 → AnsAt K H H1 x ans → tz D (σ.set i (some (.ref x))) H1) (k2 : nn → ∀ H1, Ex H H1 → tz D (σ.set i (some .non)) H1) : tSeq (tAsg te (gName i)) tz D σ H :=
  h H (Ex.refl H) _ (fun ans x H1 hg hx e1 hA => k1 ans x H1 hg hx e1 hA) fun n H1 e1 => k2 n H1 e1
theorem s_asgOpt {i : Nat} (h : EvOpt K te σ H good nn) (k1 : ∀ ans x H1, good ans → H x = none → Ex H H1 → AnsAt K H H1 x ans → D.nx (σ.set i (some (.ref x))) H1) (k2 : nn → ∀ H1, Ex H H1 → D.nx (σ.set i (some .non)) H1) : tAsg te (gName i) D σ H :=
  h H (Ex.refl H) _ (fun ans x H1 hg hx e1 hA => k1 ans x H1 hg hx e1 hA) fun n H1 e1 => k2 n H1 e1
theorem q_asgLP {i : Nat} {P : List V → Prop} (h : EvLP te σ H P) (k : ∀ xs p H1, P xs → H p = none → Ex H H1 → H1 p = some (.lst xs) → tz D (σ.set i (some (.ref p))) H1) : tSeq (tAsg te (gName i)) tz D σ H :=
  h H (Ex.refl H) _ fun xs p H1 px hp e1 h1 => k xs p H1 px hp e1 h1
theorem et_isNone {a : Addr} (h : Ev te σ H (.ref a)) : EvT (tTest (tOp rIsN te (tC .non))) σ H false := et_test (ev_is (ev_op h ev_c rv_isN) (by simp))
theorem et_isNone' (h : Ev te σ H .non) : EvT (tTest (tOp rIsN te (tC .non))) σ H true := et_test (ev_is (ev_op h ev_c rv_isN) (by simp))
theorem et_notNone {a : Addr} (h : Ev te σ H (.ref a)) : EvT (tTest (tOp rNotN te (tC .non))) σ H true := et_test (ev_is (ev_op h ev_c rv_notN) (by simp))
theorem et_notNone' (h : Ev te σ H .non) : EvT (tTest (tOp rNotN te (tC .non))) σ H false := et_test (ev_is (ev_op h ev_c rv_notN) (by simp))
/-- xs.index(s) -/
theorem ev_index {ks : List Int} {s : Int} {j : Nat} (ha : EvS K ta σ H (ks.map V.int)) (hb : Ev tb σ H (.int s)) (hj : ks[j]? = some s) (hm : ∀ (m : Nat) z, m < j → ks[m]? = some z → z ≠ s) : Ev (tBM K "list" (rIndex K) ta (tCons tb tNil)) σ H (.int (j : Nat)) := fun H1 e Q q =>
  ha H1 e _ fun p H2 e2 hp => ⟨.inl ⟨rfl, _, hp⟩, hb H2 (e.trans e2) _ fun H3 e3 => ⟨p, ks.map V.int, .int s, j, .int s, rfl, rfl, ex_l e3 hp, rfl, by
    rw [List.all_eq_true]
    intro v hv
    obtain ⟨r, _, rfl⟩ := List.mem_map.mp hv
    rfl, by rw [List.getElem?_map, hj]; rfl, by show (s == s) = true; exact beq_self_eq_true s, fun m z' hml hz => by
      rw [List.getElem?_map] at hz
      obtain ⟨z, hz1, rfl⟩ := Option.map_eq_some_iff.mp hz
      show (z == s) = false
      exact beq_eq_false_iff_ne.mpr (hm m z hml hz1), q H3 (e2.trans e3)⟩⟩
theorem sizes_at {T : Tb} {a : Addr} {i : Nat} (h : EvS K ta σ H (nv (sizesT T))) (hb : Ev tb σ H (.int (i : Nat))) (hi : i < T.length) : Ev (tOp (rIxL K) ta tb) σ H (.int (szT T i : Nat)) :=
  ev_ixLS h hb (atI_nat (by unfold nv; rw [List.getElem?_map, sizesT_at hi]; rfl))
end
end WA

namespace WA
open PySem PySem.Spec PyProof.Rows L2 Evl
/-! ### zip of a text of signs and a list, either first -/
inductive Src
  | str (r : List Bool) (t : Tok) | lst (l : Addr)
def Src.val : Src → Value
  | .str r t => .str (rs r) t
  | .lst l => .ref l
def Src.obj : Src → Obj
  | .str r t => { cls := .type "str_ascii_iterator", data := .fields #[.str (rs r) t, .int 0 0] }
  | .lst l => { cls := .type "list_iterator", data := .fields #[.ref l, .int 0 0] }
def Src.ok (h : Heap) : Src → Prop
  | .str _ _ => True
  | .lst l => ∃ its, h.IsList l its
def Src.st (it : Addr) (i : Nat) (h : Heap) : Src → Prop
  | .str r t => h.IsStrIter it "str_ascii_iterator" (rs r) t i
  | .lst l => h.IsListIter it l i
def Src.lt (n : Nat) : Src → Prop
  | .str _ _ => True
  | .lst l => l < n
def sgs (r : List Bool) : List V := r.map fun b => V.str (s1 b)
def SrcAt (K : PySem.W.Frag) (H : Hp) (xs : List V) : Src → Prop
  | .str r _ => xs = sgs r
  | .lst l => SqL K H l xs
theorem ascii_rs (r : List Bool) : (rs r).cps.all (· < 128) = true := by
  rw [← Array.all_toList, rs_tl, List.all_eq_true]
  intro c hc
  obtain ⟨b, _, rfl⟩ := List.mem_map.mp hc
  cases b <;> decide
theorem Src.push {h : Heap} {o : Obj} {a : Src} (ok : a.ok h) : a.ok (h.push o) := by
  cases a with
  | str r t => trivial
  | lst l => exact let ⟨its, h⟩ := ok; ⟨its, Heap.IsList.push h _⟩
section
variable {w : World} {prog : Program} {s : Shared} {A : Around} {E : Value → Shared → Prop}
theorem pyIter_src {a : Src} {Q : Value → Shared → Prop} (ok : a.ok s.heap) (hQ : Q (.ref s.heap.objs.size) { s with heap := s.heap.push a.obj }) : wpAny (model prog w) A (pyIter a.val) Q E s := by
  cases a with
  | str r t => exact wpAny_pyIter_ascii (ascii_rs r) hQ
  | lst l =>
    obtain ⟨its, hl⟩ := ok
    exact wpAny_pyIter_list hl hQ
abbrev zH1 (h : Heap) (a : Src) : Heap := h.push a.obj
abbrev zH2 (h : Heap) (a b : Src) : Heap := (zH1 h a).push b.obj
abbrev zH3 (h : Heap) (a b : Src) : Heap := (zH2 h a b).push { cls := .type "tuple", data := .seq #[.ref h.objs.size, .ref (zH1 h a).objs.size] }
abbrev zH4 (h : Heap) (a b : Src) : Heap := (zH3 h a b).push { cls := .type "tuple", data := .seq #[.none, .none] }
abbrev zH5 (h : Heap) (a b : Src) : Heap := (zH4 h a b).push { cls := .type "zip", data := .fields #[.none, .bool false, .bool false, .ref (zH2 h a b).objs.size, .ref (zH3 h a b).objs.size] }
theorem meets_zip_src (a b : Src) : Meets (Builtin.«zip.__new__» ⟨[.type "zip", a.val, b.val], []⟩) (fun _ R s => a.ok s.heap ∧ b.ok s.heap ∧ R (.ok (.ret (.ref (zH4 s.heap a b).objs.size))) { s with heap := zH5 s.heap a b }) :=
  .of_wp fun P W B R t ⟨ok1, ok2, h⟩ => by
    cases t with
    | mk hp gs dr tk os =>
      have hsub := sub_zip
      have one : a.ok (Shared.heap ⟨hp, gs, dr, tk, os⟩) := ok1
      have two : b.ok (Shared.heap ⟨hp.push a.obj, gs, dr, tk, os⟩) := Src.push ok2
      wp_walk using pyIter_src one, pyIter_src two
      exact ⟨_, rfl, h⟩
/-- a zip at n + 4 that has taken i items of the iterators at n and n + 1 -/
structure ZSt (a b : Src) (n i : Nat) (h : Heap) : Prop where
  zip : IsZip h (n + 4) (n + 2) (n + 3) .none
  its : IsTupOf2 h (n + 2) (.ref n) (.ref (n + 1))
  last : ∃ x y, IsTupOf2 h (n + 3) x y
  fst : a.st n i h
  snd : b.st (n + 1) i h
theorem call_zip_src {a b : Src} {Q : Value → Shared → Prop} (ha : a.ok s.heap) (hb : b.ok s.heap)
    (h : ∀ h', ZSt a b s.heap.objs.size 0 h' → (∀ c o, s.heap.get? c = some o → h'.get? c = some o) → Q (.ref (s.heap.objs.size + 4)) { s with heap := h' }) : wpAny (model prog w) A (call (.type "zip") [a.val, b.val]) Q E s := by
  refine callType_new F.called_zip (by decide) (F.typeCall_zip_2 _ _) (F.newCall_zip_2 _ _) (fun obj => F.args_object_init_3 obj _ _) F.entry_zip_new (meets_zip_src a b) ⟨ha, hb, ?_⟩
  have z1 : (zH1 s.heap a).objs.size = s.heap.objs.size + 1 := Heap.size_push ..
  have z2 : (zH2 s.heap a b).objs.size = s.heap.objs.size + 2 := by rw [Heap.size_push, z1]
  have z3 : (zH3 s.heap a b).objs.size = s.heap.objs.size + 3 := by rw [Heap.size_push, z2]
  have z4 : (zH4 s.heap a b).objs.size = s.heap.objs.size + 4 := by rw [Heap.size_push, z3]
  have g5 : (zH5 s.heap a b).get? (zH4 s.heap a b).objs.size = some _ := Heap.get?_push_size _ rfl
  have g4 : (zH5 s.heap a b).get? (zH3 s.heap a b).objs.size = some _ := Heap.get?_push_of_some _ (Heap.get?_push_size _ rfl)
  have g3 : (zH5 s.heap a b).get? (zH2 s.heap a b).objs.size = some _ := Heap.get?_push_of_some _ (Heap.get?_push_of_some _ (Heap.get?_push_size _ rfl))
  have hsz1 : a.obj.slots.size = 0 ∨ True := .inr trivial
  have o1 : ∀ (h : Heap) (c : Src), (h.push c.obj).get? h.objs.size = some c.obj := fun h c => Heap.get?_push_size _ (by cases c <;> rfl)
  have g2 : (zH5 s.heap a b).get? (zH1 s.heap a).objs.size = some b.obj := Heap.get?_push_of_some _ (Heap.get?_push_of_some _ (Heap.get?_push_of_some _ (o1 _ _)))
  have g1 : (zH5 s.heap a b).get? s.heap.objs.size = some a.obj := Heap.get?_push_of_some _ (Heap.get?_push_of_some _ (Heap.get?_push_of_some _ (Heap.get?_push_of_some _ (o1 _ _))))
  have stOf : ∀ (c : Src) (it : Addr) (h : Heap), h.get? it = some c.obj → c.st it 0 h := fun c it h e => by
    cases c with
    | str r t => exact ⟨_, e, rfl, rfl⟩
    | lst l => exact ⟨_, e, rfl, rfl⟩
  show _ ∧ _
  rw [z2, z3, z4] at g5
  rw [z1, z2] at g3
  rw [z3] at g4
  rw [z1] at g2
  rw [z4]
  have old : ∀ c o, s.heap.get? c = some o → (zH5 s.heap a b).get? c = some o := fun c o x => by
    have x1 := Heap.get?_push_of_some a.obj x
    have x2 := Heap.get?_push_of_some b.obj x1
    exact Heap.get?_push_of_some _ (Heap.get?_push_of_some _ (Heap.get?_push_of_some _ x2))
  exact ⟨⟨_, g5, rfl⟩, h _ ⟨g5, g3, ⟨_, _, g4⟩, stOf _ _ _ g1, stOf _ _ _ g2⟩ old⟩
end
/-- the items as they stand at each turn, in new pairs -/
def ItS (K : PySem.W.Frag) (a b : Src) : It :=
  ⟨fun i H => ∃ (xs ys : List V) (x y : V), SrcAt K H xs a ∧ SrcAt K H ys b ∧ xs[i]? = some x ∧ ys[i]? = some y,
    fun i H v H' => ∃ T x y, v = .ref T ∧ H T = none ∧ H' = upd H T (.tup [x, y]) ∧ (∀ xs, SrcAt K H xs a → xs[i]? = some x) ∧ ∀ ys, SrcAt K H ys b → ys[i]? = some y,
    fun i H => ∃ xs ys : List V, SrcAt K H xs a ∧ SrcAt K H ys b ∧ i ≤ xs.length ∧ i ≤ ys.length ∧ (i = xs.length ∨ i = ys.length)⟩
def Src.fp (it : Addr) : Src → List Addr
  | .str _ _ => [it]
  | .lst l => [it, l]
theorem draws_src {X : Cx} {pins : List (Addr × Obj)} {σ : L2.St} {H : Hp} {s : Shared} (I : Inv X pins σ H s) (hc : X.calm = true) {a : Src} {xs : List V} (hx : SrcAt X.K H xs a) {it n : Addr} (hn : n ≤ it) (hl : a.lt n) :
    ∃ (P : Nat → Value → Prop) (St : Nat → Heap → Prop), Draws X.prog X.w X.A.in1 it (a.fp it) xs.length P St ∧ (∀ i u, P i u → ∃ x, xs[i]? = some x ∧ RelV x u) ∧ (∀ i, a.st it i s.heap → St i s.heap) ∧ (∀ i h, St i h → a.st it i h) := by
  have hh : X.A.in1.handled = none := by have := I.ok.hd hc; simp [this]
  cases a with
  | str r t =>
    have e : xs = sgs r := hx
    subst e
    have hz : (rs r).cps.size = (sgs r).length := by simp [rs, sgs]
    refine ⟨_, _, hz ▸ Draws.strAscii hh it (rs r) t, fun i u hu => ?_, fun i h => h, fun i h st => st⟩
    obtain ⟨c, u', hcx, rfl⟩ := hu
    have hcx2 : (r.map sg)[i]? = some c := by
      have : (rs r).cps.toList[i]? = some c := by rw [Array.getElem?_toList]; exact hcx
      rwa [rs_tl] at this
    rw [List.getElem?_map] at hcx2
    obtain ⟨b, hb, rfl⟩ := Option.map_eq_some_iff.mp hcx2
    exact ⟨V.str (s1 b), by unfold sgs; rw [List.getElem?_map, hb]; rfl, ⟨u', rfl⟩⟩
  | lst l =>
    have hx : SqL X.K H l xs := hx
    obtain ⟨its, rv, p, _⟩ := I.list hx
    have hz : its.toArray.size = xs.length := by rw [List.size_toArray, ← rv.length]
    refine ⟨_, _, hz ▸ Draws.list hh it l (fun z => by have : l < n := hl; rw [z] at this; exact absurd this (Nat.not_lt.mpr hn)) its.toArray, fun i u hu => ?_, fun i h => ⟨h, p.isList⟩, fun i h st => st.1⟩
    have hu : its.toArray[i]? = some u := hu
    have hlt : i < xs.length := hz ▸ (Array.getElem?_eq_some_iff.mp hu).1
    obtain ⟨u', hu', ru⟩ := rv.get (List.getElem?_eq_getElem hlt)
    have : its[i]? = some u := by simpa using hu
    rw [hu'] at this
    cases this
    exact ⟨_, List.getElem?_eq_getElem hlt, ru⟩
theorem src_inj {X : Cx} {pins : List (Addr × Obj)} {σ : L2.St} {H : Hp} {s : Shared} (I : Inv X pins σ H s) {a : Src} {xs ys : List V} (h : SrcAt X.K H xs a) (g : SrcAt X.K H ys a) : xs = ys := by
  cases a with
  | str r t => exact (show xs = sgs r from h).trans (show ys = sgs r from g).symm
  | lst l => exact I.list_inj h g
theorem sep_src {n : Nat} {a b : Src} (ha : a.lt n) (hb : b.lt n) : ZipSep2 (n + 4) (n + 2) (n + 3) n (n + 1) (a.fp n) (b.fp (n + 1)) := by
  have key : ∀ (c : Src) (it k : Nat), c.lt n → n < k → k ≠ it → k ∉ c.fp it := fun c it k hc hk hne hm => by
    cases c with
    | str r t => exact hne (List.mem_singleton.mp hm)
    | lst l =>
      have hc : l < n := hc
      rcases List.mem_cons.mp hm with z | z
      · exact hne z
      · have e : k = l := List.mem_singleton.mp z
        rw [e] at hk
        exact Nat.lt_asymm hk hc
  have mem : ∀ (c : Src) (it : Nat), it ∈ c.fp it := fun c it => by cases c <;> exact List.mem_cons_self ..
  have n1 : n ∉ b.fp (n + 1) := fun hm => by
    cases b with
    | str r t => have := List.mem_singleton.mp hm; omega
    | lst l =>
      have hc : l < n := hb
      rcases List.mem_cons.mp hm with z | z
      · exact Nat.ne_of_lt (Nat.lt_succ_self n) z
      · have e : n = l := List.mem_singleton.mp z
        rw [← e] at hc
        exact Nat.lt_irrefl _ hc
  exact ⟨Nat.ne_of_lt (by omega), Nat.ne_of_lt (by omega), Nat.ne_of_lt (by omega), Nat.ne_of_gt (by omega), mem _ _, key a n _ ha (by omega) (Nat.ne_of_gt (by omega)), key a n _ ha (by omega) (Nat.ne_of_gt (by omega)),
    Nat.ne_of_gt (by omega), mem _ _, key b _ _ hb (by omega) (Nat.ne_of_gt (by omega)), key b _ _ hb (by omega) (Nat.ne_of_gt (by omega)), n1, key a n _ ha (by omega) (Nat.ne_of_gt (by omega))⟩
theorem st_obj {a : Src} {it i : Nat} {h : Heap} (st : a.st it i h) : ∃ o, h.get? it = some o ∧ ∀ v, o.data ≠ .cell v := by
  cases a with
  | str r t => obtain ⟨o, e, _, d⟩ := st; exact ⟨o, e, fun v z => by rw [d] at z; cases z⟩
  | lst l => obtain ⟨o, e, _, d⟩ := st; exact ⟨o, e, fun v z => by rw [d] at z; cases z⟩
theorem st_at {a : Src} {it i : Nat} {h h' : Heap} (st : a.st it i h) (k : ∀ o, h.get? it = some o → h'.get? it = some o) : a.st it i h' := by
  cases a with
  | str r t => obtain ⟨o, e, r⟩ := st; exact ⟨o, k o e, r⟩
  | lst l => exact Heap.IsListIter.at st k
/-- where a zip at n + 4 stands -/
abbrev zFp (n : Nat) : List Addr := [n + 4, n + 2, n + 3, n, n + 1]
theorem zFp_le {n c : Nat} (h : c ∈ zFp n) : n ≤ c ∧ c ≤ n + 4 := by
  simp only [List.mem_cons, List.not_mem_nil, or_false] at h
  omega
theorem zFp_out {n c : Nat} (h : c ∉ zFp n) : c ≠ n + 4 ∧ c ≠ n + 2 ∧ c ≠ n + 3 ∧ c ≠ n ∧ c ≠ n + 1 := by
  simp only [List.mem_cons, List.not_mem_nil, or_false, not_or] at h
  exact h
theorem ZSt.get {a b : Src} {n i c : Nat} {h : Heap} (z : ZSt a b n i h) (hc : c ∈ zFp n) : ∃ o, h.get? c = some o ∧ ∀ v, o.data ≠ .cell v := by
  obtain ⟨x, y, l⟩ := z.last
  cases hc with
  | head => exact ⟨_, z.zip, nofun⟩
  | tail _ hc => cases hc with
    | head => exact ⟨_, z.its, nofun⟩
    | tail _ hc => cases hc with
      | head => exact ⟨_, l, nofun⟩
      | tail _ hc => cases hc with
        | head => exact st_obj z.fst
        | tail _ hc => exact List.mem_singleton.mp hc ▸ st_obj z.snd
theorem ZSt.keep {a b : Src} {n i : Nat} {h h' : Heap} (z : ZSt a b n i h) (k : ∀ c ∈ zFp n, ∀ o, h.get? c = some o → h'.get? c = some o) : ZSt a b n i h' where
  zip := k _ (by simp) _ z.zip
  its := k _ (by simp) _ z.its
  last := let ⟨x, y, l⟩ := z.last; ⟨x, y, k _ (by simp) _ l⟩
  fst := st_at z.fst fun o q => k _ (by simp) o q
  snd := st_at z.snd fun o q => k _ (by simp) o q
/-- a turn: a pair of the two items is laid -/
theorem zip_item {a b : Src} {n : Nat} (ha : a.lt n) (hb : b.lt n) {elts : List Expr} {kk : Nat} {tpos : Pos} {X : Cx} (hc : X.calm = true) {i : Nat} {pins : List (Addr × Obj)} {s : Shared} {σ : L2.St} {H : Hp} {E : Value → Shared → Prop} (I : Inv X pins σ H s)
    (hf : ∀ c ∈ zFp n, FpOk X pins H c) (z : ZSt a b n i s.heap) {xs ys : List V} {x y : V} (qx : SrcAt X.K H xs a) (qy : SrcAt X.K H ys b) (hx : xs[i]? = some x) (hy : ys[i]? = some y) :
    wpAny (model X.prog X.w) X.A (pyNext (.ref (n + 4))) (fun r s1 => ∃ u, r = some u ∧ wpAny (model X.prog X.w) X.A (letOwnedTupleGo (.Tuple elts kk tpos) (.ref (n + 4)) u) (fun _ s2 => ∃ T, u = .ref T ∧ H T = none ∧ (∀ c ∈ zFp n, c ≠ T) ∧ Inv X pins σ (upd H T (.tup [x, y])) s2 ∧ ZSt a b n (i + 1) s2.heap) E s1) E s := by
  obtain ⟨P1, St1, D1, items1, in1, out1⟩ := draws_src I hc qx (it := n) (n := n) (Nat.le_refl _) ha
  obtain ⟨P2, St2, D2, items2, in2, out2⟩ := draws_src I hc qy (it := n + 1) (n := n) (Nat.le_succ _) hb
  obtain ⟨x0, y0, last⟩ := z.last
  have top : n + 4 < s.heap.objs.size := Heap.lt_size z.zip
  have below : ∀ c ∈ zFp n, c ≠ s.heap.objs.size := fun c hcm => Nat.ne_of_lt (Nat.lt_of_le_of_lt (zFp_le hcm).2 top)
  refine wpAny_pyNext_zipD2_item (sep_src ha hb) D1 D2 z.zip z.its last (in1 i z.fst) (in2 i z.snd) (List.getElem?_eq_some_iff.mp hx).1 (List.getElem?_eq_some_iff.mp hy).1 fun u1 u2 h1 tk p1 p2 zip1 last1 st1 st2 laid _ rest => ?_
  obtain ⟨_, ex, r1⟩ := items1 i u1 p1
  obtain ⟨_, ey, r2⟩ := items2 i u2 p2
  cases Option.some.inj (ex.symm.trans hx)
  cases Option.some.inj (ey.symm.trans hy)
  refine ⟨_, rfl, wpAny_letOwnedTupleGo_zip (s := { s with heap := h1, toks := tk }) zip1 fun h2 zip2 same => ?_⟩
  have keep2 : ∀ c, c ≠ n + 4 → ∀ o, h1.get? c = some o → h2.get? c = some o := fun c hne o q => (same.2 c hne).trans q
  have ok : ObjOk X.prog X.w (upd H s.heap.objs.size (.tup [x, y])) h2 s.heap.objs.size (.tup [x, y]) := by
    refine ⟨show 2 ≤ sizeLine by decide, [u1, u2], .cons r1 (.cons r2 .nil), _, keep2 _ (Nat.ne_of_gt top) _ laid, rfl, _, rfl⟩
  have far : ∀ c o, c ∉ zFp n → s.heap.get? c = some o → h2.get? c = some o := fun c o hcm q => by
    obtain ⟨c1, _, c3, c4, c5⟩ := zFp_out hcm
    exact keep2 c c1 o (rest c o c1 c3 c4 c5 q)
  have pair : h1.get? (n + 2) = some _ := rest (n + 2) _ (Nat.ne_of_lt (by omega)) (Nat.ne_of_lt (by omega)) (Nat.ne_of_gt (by omega)) (Nat.ne_of_gt (by omega)) z.its
  exact ⟨_, rfl, I.hok.fresh (Nat.le_refl _), below, I.turnedNew (t' := tk) (ch := zFp n) far hf (Nat.le_refl _) ok,
    ⟨zip2, keep2 _ (Nat.ne_of_lt (by omega)) _ pair, ⟨_, _, keep2 _ (Nat.ne_of_lt (by omega)) _ last1⟩, st_at (out1 _ _ st1) (keep2 _ (Nat.ne_of_lt (by omega))), st_at (out2 _ _ st2) (keep2 _ (Nat.ne_of_lt (by omega)))⟩⟩
theorem turn_src {P : Program} {w : World} {K : PySem.W.Frag} {elts : List Expr} {kk : Nat} {tpos : Pos} {a b : Src} {n : Nat} (ha : a.lt n) (hb : b.lt n) : Turn P w K (.Tuple elts kk tpos) (ItS K a b) (zFp n) (n + 4) (ZSt a b n) where
  mem := by simp
  obj := fun _ _ z c hc => z.get hc
  keep := fun _ _ _ z k => z.keep k
  item := fun X e1 e2 e3 hc i pins s σ H E I hf z ⟨xs, ys, x, y, qx, qy, hx, hy⟩ => by
    subst e1 e2 e3
    refine wpAny_mono (zip_item ha hb (elts := elts) (kk := kk) (tpos := tpos) hc I hf z qx qy hx hy) (fun r s1 ⟨u, e, q⟩ => ⟨u, e, wpAny_mono q (fun _ s2 ⟨T, eu, free, far, J, z2⟩ => ?_) fun _ _ q => q⟩) fun _ _ q => q
    exact ⟨.ref T, _, J, eu, ⟨T, x, y, rfl, free, rfl, fun l hl => src_inj I qx hl ▸ hx, fun l hl => src_inj I qy hl ▸ hy⟩, z2, fun c hcm => (upd_ne (far c hcm)).trans (hf c hcm).1⟩
  done := fun X e1 e2 e3 hc i pins s σ H E I hf z ⟨xs, ys, qx, qy, le1, le2, fin⟩ => by
    subst e1 e2 e3
    obtain ⟨P1, St1, D1, _, in1, _⟩ := draws_src I hc qx (it := n) (n := n) (Nat.le_refl _) ha
    obtain ⟨P2, St2, D2, _, in2, _⟩ := draws_src I hc qy (it := n + 1) (n := n) (Nat.le_succ _) hb
    obtain ⟨x0, y0, last⟩ := z.last
    refine wpAny_pyNext_zipD2_end (sep_src ha hb) D1 D2 z.zip z.its last (in1 i z.fst) (in2 i z.snd) le1 le2 fin fun h1 tk rest => ⟨rfl, I.turnedL (t' := tk) (ch := zFp n) (fun c o hcm q => ?_) hf⟩
    obtain ⟨c1, _, c3, c4, c5⟩ := zFp_out hcm
    exact rest c o c1 c3 c4 c5 q
  self := fun _ _ _ _ _ z q => wpAny_pyIter_zip z.zip q
/-- the sources of two values -/
def SrcV (K : PySem.W.Frag) (H : Hp) (v : V) (a : Src) : Prop := (∃ r t, v = .str (rs r) ∧ a = .str r t) ∨ ∃ l xs, v = .ref l ∧ a = .lst l ∧ SqL K H l xs
def iZipS (K : PySem.W.Frag) (ta : TA) : TI := fun σ H R => ta σ H fun vs H1 => ∃ v1 v2, vs = [v1, v2] ∧ (∀ a b : Src, SrcV K H1 v1 a → SrcV K H1 v2 b → R (ItS K a b) H1) ∧ ((∃ r, v1 = .str (rs r)) ∨ ∃ l xs, v1 = .ref l ∧ SqL K H1 l xs) ∧ ((∃ r, v2 = .str (rs r)) ∨ ∃ l xs, v2 = .ref l ∧ SqL K H1 l xs)
theorem src_of {X : Cx} {pins : List (Addr × Obj)} {σ : L2.St} {H : Hp} {s : Shared} (I : Inv X pins σ H s) {v : V} {u : Value} (r : RelV v u) (h : (∃ r, v = .str (rs r)) ∨ ∃ l xs, v = .ref l ∧ SqL X.K H l xs) :
    ∃ a : Src, u = a.val ∧ SrcV X.K H v a ∧ a.ok s.heap ∧ a.lt s.heap.objs.size := by
  rcases h with ⟨q, rfl⟩ | ⟨l, xs, rfl, hl⟩
  · obtain ⟨t, rfl⟩ := r
    exact ⟨.str q t, rfl, .inl ⟨q, t, rfl, rfl⟩, trivial, trivial⟩
  · cases r
    obtain ⟨its, rv, p, _⟩ := I.list hl
    exact ⟨.lst l, rfl, .inr ⟨l, xs, rfl, rfl, hl⟩, ⟨_, p.isList⟩, p.lt⟩
theorem pi_zipS {X : Cx} {e e2 : Expr} {ta : TA} {p pos tpos : Pos} {elts : List Expr} {kk : Nat} (hg : Gl X "zip") (hm : X.mg "zip" = none) (ha : PA X [e, e2] ta) (hs : starEach [e, e2] X.env = (false, eval e X.env) :: starEach [e2] X.env := by rfl)
    (hpl : (backTo pos (starEach [e2] X.env)).any (·.1) = false := by rfl) : PI X (.Tuple elts kk tpos) (.Call (.Name "zip" p) [e, e2] [] pos) (iZipS X.K ta) where
  run := fun pins s σ H R I h => by
    refine Call_ (ld_blt I hg hm PyProof.Rows.boot_zip (PyProof.Rows.callWith_type1 (thn (ha.run pos pins s σ H _ I h) ?_) hs hpl))
    rintro us s1 ⟨vs, H1, I1, r1, v1, v2, rfl, q, side1, side2⟩
    rcases r1 with _ | ⟨r, _ | ⟨r', ⟨⟩⟩⟩
    next =>
      obtain ⟨a, rfl, va, oa, la⟩ := src_of I1 r side1
      obtain ⟨b, rfl, vb, ob, lb⟩ := src_of I1 r' side2
      refine call_zip_src oa ob fun h' z old => wpAny_pyIter_zip z.zip ?_
      exact ⟨s1.heap.objs.size + 4, zFp s1.heap.objs.size, _, _, H1, rfl, I1.kept (t' := s1.toks) old, turn_src la lb, z, fun c hcm => I1.fpOk (zFp_le hcm).1 (I1.hok.fresh (zFp_le hcm).1), q a b va vb⟩
/-! ### comprehensions over it -/
def SrcOf (K : PySem.W.Frag) (H : Hp) (v : V) (xs : List V) : Prop := (∃ r, v = .str (rs r) ∧ xs = sgs r) ∨ ∃ l, v = .ref l ∧ SqL K H l xs
theorem SrcOf.mono {K : PySem.W.Frag} {H H' : Hp} {v : V} {xs : List V} (h : SrcOf K H v xs) (e : Ex H H') : SrcOf K H' v xs := by
  rcases h with ⟨r, h1, h2⟩ | ⟨l, h1, h2⟩
  · exact .inl ⟨r, h1, h2⟩
  · exact .inr ⟨l, h1, ex_l e h2⟩
theorem SrcOf.at {K : PySem.W.Frag} {H H' : Hp} {v : V} {xs : List V} {a : Src} (h : SrcOf K H v xs) (e : Ex H H') (g : SrcV K H v a) : SrcAt K H' xs a := by
  rcases h with ⟨r, rfl, h2⟩ | ⟨l, rfl, h2⟩
  · rcases g with ⟨r', t, e1, rfl⟩ | ⟨l', xs', e1, _⟩
    · have := rs_inj (V.str.inj e1)
      show xs = sgs r'
      rw [← this]; exact h2
    · cases e1
  · rcases g with ⟨r', t, e1, rfl⟩ | ⟨l', xs', e1, rfl, _⟩
    · cases e1
    · cases e1
      exact ex_l e h2
theorem SrcOf.side {K : PySem.W.Frag} {H : Hp} {v : V} {xs : List V} (h : SrcOf K H v xs) : (∃ r, v = .str (rs r)) ∨ ∃ l xs, v = .ref l ∧ SqL K H l xs := by
  rcases h with ⟨r, h1, _⟩ | ⟨l, h1, h2⟩
  · exact .inl ⟨r, h1⟩
  · exact .inr ⟨l, xs, h1, h2⟩
def EvSrc (K : PySem.W.Frag) (te : TE) (σ : L2.St) (H : Hp) (xs : List V) : Prop := ∀ H1, Ex H H1 → ∀ Q : VK, (∀ v H2, Ex H1 H2 → SrcOf K H2 v xs → Q v H2) → te σ H1 Q
section
variable {K : PySem.W.Frag} {σ : L2.St} {H H' : Hp} {ta tb te tl : TE} {tt : TT} {xs ys : List V} {vs : List Nat}
theorem esrc_l (h : EvS K te σ H xs) : EvSrc K te σ H xs := fun H1 e Q q => h H1 e Q fun p H2 e2 hp => q _ H2 e2 (.inr ⟨p, rfl, hp⟩)
theorem esrc_s {r : List Bool} (h : Ev te σ H (.str (rs r))) : EvSrc K te σ H (r.map fun b => V.str (s1 b)) := fun H1 e Q q => h H1 e Q fun H2 e2 => q _ H2 e2 (.inl ⟨r, rfl, rfl⟩)
theorem el_filtZS {α β : Type} {l : List α} {m : List β} {g : α → V} {g' : β → V} {f : α × β → V} {p : α × β → Bool} {i j : Nat} (h : EvSrc K ta σ H (l.map g)) (h' : EvSrc K tb σ H (m.map g')) (hz : l.length ≤ 40000) (hlm : l.length = m.length) (hw : ∀ x y, wipe (((wipe σ vs).set i (some x)).set j (some y)) vs = wipe σ vs)
    (ht : ∀ x y, (x, y) ∈ l.zip m → EvT tt (((wipe σ vs).set i (some (g x))).set j (some (g' y))) H (p (x, y))) (he : ∀ x y, (x, y) ∈ l.zip m → p (x, y) = true → Ev te (((wipe σ vs).set i (some (g x))).set j (some (g' y))) H (f (x, y))) :
    EvL (tLc (iZipS K (tCons ta (tCons tb tNil))) (gTup K 2 (gCons (gName i) (gCons (gName j) gNil))) tt te vs) σ H (fm p f (l.zip m)) := fun H0 e Q q =>
  h H0 e _ fun v1 H1 e1 hx => h' H1 (e.trans e1) _ fun v2 H2 e2 hy => ⟨v1, v2, rfl, fun a b va vb D hD => by
    have hx2 : ∀ H', Ex H2 H' → SrcAt K H' (l.map g) a := fun H' e3 => (hx.mono e2).at e3 va
    have hy2 : ∀ H', Ex H2 H' → SrcAt K H' (m.map g') b := fun H' e3 => hy.at e3 vb
    have hlen : (l.zip m).length = l.length := by rw [List.length_zip]; omega
    have e12 := e1.trans e2
    refine lc_it (J := ItS K a b) (n := l.length) (fun k H' => Lc H2 D (fm p f ((l.zip m).take k)) H') (fun H' pv => ⟨_, _, hx2 H' pv.2.1, hy2 H' pv.2.1, by rw [List.length_map]; omega, by rw [List.length_map]; omega, .inl (by rw [List.length_map])⟩)
      (fun k H' hk pv => ⟨_, _, g l[k], g' (m[k]'(by omega)), hx2 H' pv.2.1, hy2 H' pv.2.1, by rw [List.getElem?_map, List.getElem?_eq_getElem hk]; rfl, by rw [List.getElem?_map, List.getElem?_eq_getElem (show k < m.length by omega)]; rfl⟩) ⟨hD, Ex.new hD, upd_same⟩ (fun k x H' H'' hk pv hyl => ?_) (fun H' pv => ?_)
    · obtain ⟨T, x1, y1, rfl, hT, rfl, hf1, hf2⟩ := hyl
      have hk2 : k < m.length := by omega
      have hl : l[k]? = some l[k] := List.getElem?_eq_getElem hk
      have hm : m[k]? = some m[k] := List.getElem?_eq_getElem hk2
      have ex1 : x1 = g l[k] := by
        have z := hf1 _ (hx2 H' pv.2.1)
        rw [List.getElem?_map, hl] at z
        exact (Option.some.inj z).symm
      have ey1 : y1 = g' m[k] := by
        have z := hf2 _ (hy2 H' pv.2.1)
        rw [List.getElem?_map, hm] at z
        exact (Option.some.inj z).symm
      subst ex1 ey1
      have hz2 : (l.zip m)[k]? = some (l[k], m[k]) := by rw [List.getElem?_zip_eq_some]; exact ⟨hl, hm⟩
      have hmem := List.mem_of_getElem? hz2
      have nTD : D ≠ T := fun z => by rw [← z] at hT; rw [pv.2.2] at hT; cases hT
      have pv2 : Lc H2 D (fm p f ((l.zip m).take k)) (upd H' T (.tup [g l[k], g' m[k]])) := ⟨pv.1, pv.2.1.trans (Ex.new hT), by rw [upd_ne nTD]; exact pv.2.2⟩
      refine g_pair (st_of upd_same) ⟨hw _ _, lc_turn (acc' := []) pv2 (by have := fm_len p f (l.zip m) k; rw [hlen] at this; omega) ((ht _ _ hmem).mono (e.trans e12)) (fun hb => (he _ _ hmem hb).mono (e.trans e12)) fun H3 h3 => ?_⟩
      rw [fm_next hz2] at h3
      exact h3
    · have e3 : (l.zip m).take l.length = l.zip m := List.take_of_length_le (by rw [hlen]; exact Nat.le_refl _)
      rw [e3] at pv
      exact q D H' (fresh_back e12 pv.1) (e12.trans pv.2.1) pv.2.2, (hx.mono e2).side, hy.side⟩
theorem el_mapZS {α β : Type} {l : List α} {m : List β} {g : α → V} {g' : β → V} {f : α × β → V} {i j : Nat} (h : EvSrc K ta σ H (l.map g)) (h' : EvSrc K tb σ H (m.map g')) (hz : l.length ≤ 40000) (hlm : l.length = m.length) (hw : ∀ x y, wipe (((wipe σ vs).set i (some x)).set j (some y)) vs = wipe σ vs)
    (he : ∀ x y, (x, y) ∈ l.zip m → Ev te (((wipe σ vs).set i (some (g x))).set j (some (g' y))) H (f (x, y))) :
    EvL (tLc (iZipS K (tCons ta (tCons tb tNil))) (gTup K 2 (gCons (gName i) (gCons (gName j) gNil))) tYes te vs) σ H ((l.zip m).map f) := by
  rw [← fm_yes]
  exact el_filtZS h h' hz hlm hw (fun _ _ _ => et_yes) fun x y hx _ => he x y hx
end
/-- a row is not as told -/
theorem any_ne {r : List Bool} {ms : List Int} {p : Int → Bool} (h : r.length = ms.length) : ((r.zip ms).any fun x => !decide (x.1 = p x.2)) = !decide (ms.map p = r) := by
  induction r generalizing ms with
  | nil =>
    cases ms with
    | nil => rfl
    | cons m ms => cases h
  | cons b r ih =>
    cases ms with
    | nil => cases h
    | cons m ms =>
      have ih := ih (ms := ms) (by simpa using h)
      rw [List.zip_cons_cons, List.any_cons, ih, List.map_cons]
      by_cases h1 : b = p m
      · by_cases h2 : ms.map p = r
        · simp [h1, h2]
        · simp [h1, h2]
      · have h3 : ¬ p m = b := fun z => h1 z.symm
        simp [h1, h3]
end WA

namespace WA
open PySem PySem.Spec PyProof.Rows L2 Evl
/-! ### xs.count(True) -/
def rCountB (K : PySem.W.Frag) : V → List V → Hp → VK → Prop := fun x xs H Q => ∃ (p : Addr) (ys : List V) (k : V), x = .ref p ∧ xs = [k] ∧ SqL K H p ys ∧ flatV k = true ∧ ys.all flatV = true ∧ Q (.int (ys.countP (fun y => eqV y k) : Nat)) H
theorem countP_eqU {x : V} : ∀ {xs : List V} {us : List Value}, Vals xs us → xs.all flatV = true → us.countP (eqU x) = xs.countP fun y => eqV y x
  | _, _, .nil, _ => rfl
  | _, _, .cons r t, f => by
    have f := Bool.and_eq_true_iff.mp f
    rw [List.countP_cons, List.countP_cons, eqU_of r f.1, countP_eqU t f.2]
theorem mt_countB {X : Cx} : MtR X "list.count" (rCountB X.K) := by
  intro pins s σ H x xs v us Q I rx rxs h
  obtain ⟨p, ys, k, rfl, rfl, hs, fk, fs, q⟩ := h
  cases rx
  obtain ⟨u, rfl, ru⟩ := rxs.one
  obtain ⟨its, rv, ⟨⟨cls, dd, data, sl⟩, n, ho, hc, hdn, hd⟩, hlen⟩ := I.list hs
  simp only at hc hd
  subst hc hd
  refine call_meets PySem.F.slot_list_count ⟨_, ho, rfl⟩ PySem.F.entry_list_count (PySem.F.args_list_count_2 _ _)
    (SeqAt.list_countAt p its.toArray n dd sl u (eqU k)) ⟨ho, fun y hy => mem_eqAt ru fk rv fs y (by simpa using hy), ?_⟩
  refine ⟨.int (ys.countP (fun y => eqV y k) : Nat), H, I.tok _, ⟨s.toks, ?_⟩, q⟩
  show Value.int ((its.toArray.toList.countP (eqU k) : Nat) : Int) s.toks = Value.int ((ys.countP (fun y => eqV y k) : Nat) : Int) s.toks
  rw [← countP_eqU rv fs]
/-! ### joins, lists put together -/
/-- a tracked list -/
def EvM (te : TE) (σ : L2.St) (H : Hp) (xs : List V) : Prop := ∀ H1, Ex H H1 → ∀ Q : VK, (∀ p H2, Ex H1 H2 → H2 p = some (.lst xs) → Q (.ref p) H2) → te σ H1 Q
section
variable {K : PySem.W.Frag} {σ : L2.St} {H H' H0 : Hp} {ta tb te tx : TE} {t u : TT} {x y z v : V} {D : Ends} {tu tw tz : TS} {g : TG} {xs ys : List V} {ts : TA}
theorem em_l (h : EvL te σ H xs) : EvM te σ H xs := fun H1 e Q q => h H1 e Q fun p H2 _ e2 h2 => q p H2 e2 h2
theorem em_v {p : Addr} (h : Ev te σ H (.ref p)) (hp : H p = some (.lst xs)) : EvM te σ H xs := fun H1 e Q q => h H1 e Q fun H2 e2 => q p H2 e2 ((e.trans e2) _ _ hp)
theorem EvM.s (h : EvM te σ H xs) : EvS K te σ H xs := fun H1 e Q q => h H1 e Q fun p H2 e2 h2 => q p H2 e2 (sq_of h2)
theorem em_if {b : Bool} (h : EvT t σ H b) (h1 : b = true → EvM ta σ H xs) (h2 : b = false → EvM tb σ H xs) : EvM (tIf t ta tb) σ H xs := fun H1 e Q q => h H1 e _ fun H2 e2 => by
  cases b with
  | true =>
    show ta σ H2 Q
    exact h1 rfl H2 (e.trans e2) Q fun p H3 e3 h3 => q p H3 (e2.trans e3) h3
  | false =>
    show tb σ H2 Q
    exact h2 rfl H2 (e.trans e2) Q fun p H3 e3 h3 => q p H3 (e2.trans e3) h3
theorem el_catM (ha : EvM ta σ H xs) (hb : EvM tb σ H ys) (hz : xs.length + ys.length ≤ 1000) : EvL (tOp rCat ta tb) σ H (xs ++ ys) := fun H1 e Q q =>
  ha H1 e _ fun p H2 e2 h2 => hb H2 (e.trans e2) _ fun p' H3 e3 h3 => ⟨p, p', xs, ys, rfl, rfl, e3 p _ h2, h3, sz_of (by omega), fun l hl => q l _ (fresh_back (e2.trans e3) hl) ((e2.trans e3).trans (Ex.new hl)) upd_same⟩
theorem q_asgM {i : Nat} (h : EvM te σ H xs) (k : ∀ p H1, Ex H H1 → H1 p = some (.lst xs) → tz D (σ.set i (some (.ref p))) H1) : tSeq (tAsg te (gName i)) tz D σ H := h H (Ex.refl H) _ fun p H1 e1 h1 => k p H1 e1 h1
theorem s_asgM {i : Nat} (h : EvM te σ H xs) (k : ∀ p H1, Ex H H1 → H1 p = some (.lst xs) → D.nx (σ.set i (some (.ref p))) H1) : tAsg te (gName i) D σ H := h H (Ex.refl H) _ fun p H1 e1 h1 => k p H1 e1 h1
theorem q_asgSq {i : Nat} (h : EvS K te σ H xs) (k : ∀ p H1, Ex H H1 → SqL K H1 p xs → tz D (σ.set i (some (.ref p))) H1) : tSeq (tAsg te (gName i)) tz D σ H := h H (Ex.refl H) _ fun p H1 e1 h1 => k p H1 e1 h1
theorem s_asgSq {i : Nat} (h : EvS K te σ H xs) (k : ∀ p H1, Ex H H1 → SqL K H1 p xs → D.nx (σ.set i (some (.ref p))) H1) : tAsg te (gName i) D σ H := h H (Ex.refl H) _ fun p H1 e1 h1 => k p H1 e1 h1
/-- two ways that meet -/
theorem q_ifJ {b : Bool} (M : L2.St → Hp → Prop) (h : EvT t σ H b) (h1 : b = true → ∀ H1, Ex H H1 → ∀ D' : Ends, D'.rt = D.rt → (∀ σ' H', M σ' H' → D'.nx σ' H') → tu D' σ H1)
    (h2 : b = false → ∀ H1, Ex H H1 → ∀ D' : Ends, D'.rt = D.rt → (∀ σ' H', M σ' H' → D'.nx σ' H') → tw D' σ H1) (k : ∀ σ' H', M σ' H' → tz D σ' H') : tSeq (tIfS t tu tw) tz D σ H :=
  q_if h (fun hb H1 e1 => h1 hb H1 e1 _ rfl k) fun hb H1 e1 => h2 hb H1 e1 _ rfl k
theorem ev_countT {bs : List Bool} (h : EvS K ta σ H (bs.map V.bl)) : Ev (tBM K "list" (rCountB K) ta (tCons (tC (.bl true)) tNil)) σ H (.int (bs.countP id : Nat)) := fun H1 e Q q =>
  h H1 e _ fun p H2 e2 hp => ⟨.inl ⟨rfl, _, hp⟩, p, bs.map V.bl, .bl true, rfl, rfl, hp, rfl, by
    rw [List.all_eq_true]
    intro v hv
    obtain ⟨r, _, rfl⟩ := List.mem_map.mp hv
    rfl, by
    have e0 : (bs.map V.bl).countP (fun y => eqV y (.bl true)) = bs.countP id := by
      rw [List.countP_map]
      congr 1
      funext b
      show (b == true) = b
      cases b <;> rfl
    rw [e0]
    exact q H2 e2⟩
theorem rv_isB {a b : Bool} : RV rIsB (.bl a) (.bl b) H (.bl (decide (a = b))) := fun H1 _ _ q => ⟨a, b, rfl, rfl, q H1 (Ex.refl H1)⟩
theorem rv_notB {a b : Bool} : RV rNotB (.bl a) (.bl b) H (.bl (!decide (a = b))) := fun H1 _ _ q => ⟨a, b, rfl, rfl, q H1 (Ex.refl H1)⟩
theorem dec_bl (a b : Bool) : decide (V.bl a = V.bl b) = decide (a = b) := by
  by_cases h : a = b
  · subst h; simp
  · rw [decide_eq_false h, decide_eq_false fun e => h (V.bl.inj e)]
/-- does any sign part from what is told -/
theorem ev_anySL {r : List Bool} {ms : List Int} {p : Int → Bool} {i j : Nat} {vs : List Nat} (h : Ev ta σ H (.str (rs r))) (h' : EvS K tb σ H (ms.map V.int)) (hz : r.length ≤ 1000) (hlm : r.length = ms.length) (hw : ∀ x y, wipe (((wipe σ vs).set i (some x)).set j (some y)) vs = wipe σ vs)
    (he : ∀ (b : Bool) (m : Int), Ev te (((wipe σ vs).set i (some (.str (s1 b)))).set j (some (.int m))) H (.bl (!decide (b = p m)))) :
    Ev (tCB (rAny K) (tCons (tLc (iZipS K (tCons ta (tCons tb tNil))) (gTup K 2 (gCons (gName i) (gCons (gName j) gNil))) tYes te vs) tNil)) σ H (.bl (!decide (ms.map p = r))) := by
  refine ev_is (ev_anyM (l := r.zip ms) (p := fun x => !decide (x.1 = p x.2)) (els (el_mapZS (l := r) (m := ms) (g := fun b => V.str (s1 b)) (g' := V.int) (f := fun x => V.bl (!decide (x.1 = p x.2))) (esrc_s h) (esrc_l h') (by omega) hlm hw fun b m hx => he b m))) ?_
  rw [any_ne hlm]
theorem ev_neX {b c : Bool} (h : Ev ta σ H (.str (s1 b))) (h2 : Ev tb σ H (.bl c)) : Ev (tOp rNe (tOp rEq ta (tC (.str "x"))) tb) σ H (.bl (!decide (b = c))) :=
  ev_is (ev_op (ev_isX h) h2 (rv_ne rfl)) (by rw [dec_bl])
end
/-! ### the law's own look -/
def lawHas (T : Tb) (i j : Int) : Bool := inT T i && (inW T j && gi T i j)
def lawHasnt (T : Tb) (i j : Int) : Bool := inT T i && (inW T j && !gi T i j)
theorem inW_sq {T : Tb} (hr : Rect T T.length) {i j : Int} (h : inT T i = true) : inW T j = inT T j := by
  have hn := inT_ne h
  have hw : width T = T.length := by
    unfold width
    exact hr _ (mem_row (List.length_pos_iff.mpr hn))
  unfold inW inT
  rw [hw]
theorem lawHas_sq {T : Tb} (hr : Rect T T.length) (i j : Int) : lawHas T i j = (inT T i && (inT T j && gi T i j)) := by
  unfold lawHas
  cases h : inT T i with
  | false => rfl
  | true => rw [inW_sq hr h]
theorem lawHasnt_sq {T : Tb} (hr : Rect T T.length) (i j : Int) : lawHasnt T i j = (inT T i && (inT T j && !gi T i j)) := by
  unfold lawHasnt
  cases h : inT T i with
  | false => rfl
  | true => rw [inW_sq hr h]
theorem lt_three (i j k : Int) : decide (((diff [i, j, k] : Nat) : Int) < 3) = !(!decide (i = j) && !decide (i = k) && !decide (j = k)) := by
  have e : decide (V.int ((diff [i, j, k] : Nat) : Int) = V.int 3) = (!decide (i = j) && !decide (i = k) && !decide (j = k)) := dec_three i j k
  rw [← e, dec_int]
  have hle := diff_le [i, j, k]
  have : ([i, j, k] : List Int).length = 3 := rfl
  by_cases h3 : diff [i, j, k] = 3
  · rw [decide_eq_false (by omega), h3]; rfl
  · rw [decide_eq_true (by omega)]; simp; omega
theorem turnT_sq (T : Tb) : (turnT T T.length).length = T.length := by
  by_cases h : T = []
  · subst h; rfl
  · rw [turnT_ne h, turn_len]
/-! ### parts of a table -/
theorem take_min {α : Type} (l : List α) (k : Nat) : l.take (min k l.length) = l.take k := by
  by_cases h : k ≤ l.length
  · rw [Nat.min_eq_left h]
  · rw [Nat.min_eq_right (by omega), List.take_length, List.take_of_length_le (by omega)]
theorem cutV_take (T : Tb) (k : Nat) : cutV (tv T) none (some (k : Int)) = tv (T.take k) := by
  unfold cutV
  rw [HT.sIx_none, HT.sIx_nat, tv_len, List.drop_zero, Nat.sub_zero]
  unfold tv
  rw [← List.map_take, take_min]
theorem cutS_take (r : List Bool) (k : Nat) : cutS (rs r) none (some (k : Int)) = rs (r.take k) := by
  unfold cutS
  rw [HT.sIx_none, HT.sIx_nat, rs_len, rs_tl, List.drop_zero, Nat.sub_zero, ← List.map_take, take_min]
  rfl
/-- the first k things -/
def corner (T : Tb) (k : Nat) : Tb := (T.take k).map fun r => r.take k
theorem corner_len (T : Tb) (k : Nat) : (corner T k).length = min k T.length := by unfold corner; rw [List.length_map, List.length_take]
theorem corner_rect {T : Tb} (h : Rect T T.length) (k : Nat) : Rect (corner T k) (corner T k).length := fun r hr => by
  unfold corner at hr
  obtain ⟨q, hq, rfl⟩ := List.mem_map.mp hr
  rw [corner_len, List.length_take, h q (List.mem_of_mem_take hq)]
section
variable {K : PySem.W.Frag} {σ : L2.St} {H : Hp} {ta tb te : TE}
theorem ev_cutTo {r : List Bool} {k : Nat} (h : Ev ta σ H (.str (rs r))) (hj : Ev tb σ H (.int (k : Nat))) (hz : r.length ≤ 1000) : Ev (tSl rSlS ta tNoPart (tPart tb)) σ H (.str (rs (r.take k))) := fun H1 e Q q =>
  h H1 e _ fun H2 e2 => hj H2 (e.trans e2) _ fun H3 e3 => ⟨_, rfl, rs r, rfl, sz_of (by rw [rs_len]; omega), by rw [cutS_take]; exact q H3 (e2.trans e3)⟩
theorem el_cutTo {a : Addr} {T : Tb} {w k : Nat} (h : At K H a T w) (ha : Ev ta σ H (.ref a)) (hk : Ev tb σ H (.int (k : Nat))) : EvL (tSl (rSlL K) ta tNoPart (tPart tb)) σ H (tv (T.take k)) :=
  EvL.is (el_sl ha eo_none (eo_some hk) h.sq) (cutV_take T k)
end
theorem tv_two : [V.str "-x", V.str "x-"] = tv [[false, true], [true, false]] := by decide +kernel
theorem tv_one : [V.str "x"] = tv [[true]] := by decide +kernel
/-- the kinds as the law lists them -/
def kindsOf (k : Kd) : List Bool := [decide (k = .beside), decide (k = .cross), decide (k = .line), decide (k = .mutual)] ++ [decide (k = .neither), decide (k = .ranks), decide (k = .round)] ++ [decide (k = .self), decide (k = .steps), decide (k = .stretches)]
theorem kinds_one (k : Kd) : (kindsOf k).countP id = 1 := by cases k <;> rfl
end WA

namespace WA
open PySem PySem.Spec PyProof.Rows L2 Evl LamX
/-! ### a lambda of one parameter -/
structure LamS1 (sc scope : Scope) (y : Str) : Prop where
  kind : scope.kind = .function
  plain : scope.isCoroutine = false ∧ scope.isGenerator = false
  par : scope.names.lookup y = some .local
  each : ∀ z ∈ scope.names, z.2 ≠ .cell ∧ (z.2 = .local → z.1 = y) ∧ (z.2 = .free → Vis sc z.1 ∧ sc.names.lookup z.1 ≠ some .local)
def lamS1B (sc scope : Scope) (y : Str) : Bool :=
  decide (scope.kind = .function) && !scope.isCoroutine && !scope.isGenerator && decide (scope.names.lookup y = some .local) && scope.names.all fun z => match z.2 with
    | .cell => false
    | .local => decide (z.1 = y)
    | .free => decide (sc.names.lookup z.1 = some .cell) || decide (sc.names.lookup z.1 = some .free)
    | _ => true
theorem lamS1_by {sc scope : Scope} {y : Str} (h : lamS1B sc scope y = true) : LamS1 sc scope y := by
  unfold lamS1B at h
  obtain ⟨⟨⟨⟨h1, h2⟩, h3⟩, h4⟩, h5⟩ := by simpa [Bool.and_eq_true, -List.all_eq_true] using h
  refine ⟨h1, ⟨h2, h3⟩, h4, fun z hz => ?_⟩
  have q := List.all_eq_true.mp h5 z hz
  obtain ⟨z1, z2⟩ := z
  cases z2 with
  | cell => cases q
  | «local» => exact ⟨nofun, fun _ => of_decide_eq_true q, nofun⟩
  | free =>
    rcases (Bool.or_eq_true ..).mp q with e | e
    · exact ⟨nofun, nofun, fun _ => ⟨.inr (.inl (of_decide_eq_true e)), fun l => by rw [show sc.names.lookup z1 = some .cell from of_decide_eq_true e] at l; cases l⟩⟩
    · exact ⟨nofun, nofun, fun _ => ⟨.inr (.inr (of_decide_eq_true e)), fun l => by rw [show sc.names.lookup z1 = some .free from of_decide_eq_true e] at l; cases l⟩⟩
  | _ => exact ⟨nofun, nofun, nofun⟩
theorem LamS1.has {X : Cx} {scope : Scope} {y : Str} (L : LamS1 X.env.scope scope y) (ok : X.Ok) (z : Str × NameKind) (hz : z ∈ scope.names) (e : z.2 = .free) : ∃ c, X.env.cells.lookup z.1 = some c := by
  obtain ⟨v, n⟩ := (L.each z hz).2.2 e
  exact ok.has _ (v.resolve_left n)
/-- the cells that a lambda takes along are cells of the def around it .. -/
theorem clo_sub {cells : List (Str × Addr)} {names : List (Str × NameKind)} (has : ∀ z ∈ names, z.2 = .free → ∃ c, cells.lookup z.1 = some c) {z : Str} {c : Addr} (e : (cloFrom cells names []).lookup z = some c) : cells.lookup z = some c := by
  have m := (cloFrom_mem (PySem.mem_of_lookup e)).resolve_left (by simp)
  obtain ⟨d, hd⟩ := has _ m.1 rfl
  exact (show cells.lookup z = some d from hd).trans (congrArg some (by rw [m.2, show cells.lookup z = some d from hd]; rfl))
/-- .. and one for each of its free names -/
theorem clo_at {cells : List (Str × Addr)} {names : List (Str × NameKind)} {z : Str} (e : names.lookup z = some .free) : ∃ c, (cloFrom cells names []).lookup z = some c := mem_lookup (cloFrom_has (PySem.mem_of_lookup e))
theorem at_twice {N : List Str} {i j : Nat} {y : Str} (nd : N.Nodup) (hi : N[i]? = some y) (hj : N[j]? = some y) : i = j := by
  obtain ⟨h1, e1⟩ := List.getElem?_eq_some_iff.mp hi
  obtain ⟨h2, e2⟩ := List.getElem?_eq_some_iff.mp hj
  exact (List.getElem_inj nd).mp (e1.trans e2.symm)
section
variable {X : Cx} {pins : List (Addr × Obj)} {σ : L2.St} {H : Hp} {s : Shared} {A : Around} {scope : Scope} {f c' : Addr} {y : Str} {u : Value} {x : V} {j : Nat}
/-- the context of the lambda's body is a good one -/
theorem lam_ok {E : XK} (I : Inv X pins σ H s) (L : LamS1 X.env.scope scope y) (hfr : A.frames = some X.stack) (hd : A.handled = none) : (lamCx X A X.stack s H E scope f c').Ok := by
  have e0 := I.env0
  have none : ∀ b, b ∉ (lamCx X A X.stack s H E scope f c').ex := fun b m => by cases m
  exact {
    mod := e0.mod
    kind := L.kind
    glob := rfl
    blt := rfl
    above := Nat.le_refl _
    inj := fun a z c e1 e2 => I.ok.inj a z c (clo_sub (L.has I.ok) e1) (clo_sub (L.has I.ok) e2)
    has := fun a k => k.elim (fun k => absurd rfl (L.each _ (PySem.mem_of_lookup (show scope.names.lookup a = some .cell from k))).1) fun k => clo_at k
    cab := fun _ _ z => nomatch (show false = true from z)
    hd := fun _ => hd
    frames := Around.frames_deeper hfr
    stk := .inr ⟨rfl, rfl⟩
    exf := fun b m => absurd m (none b)
    bs := e0.bs
    bsz := e0.bsz
    noex := fun b _ _ => none b
    exfs := fun b m => absurd m (none b)
    funs := e0.funs
    frf := e0.frf }
/-- a name of the def around that the lambda reads -/
theorem lam_free {E : XK} {h₁ : Heap} {m₁ : Str → Option Value} (I : Inv X pins σ H s) (L : LamS1 X.env.scope scope y) (grow : ∀ b o, s.heap.get? b = some o → h₁.get? b = some o) {i : Nat} {a : Str} {v : V}
    (hk : scope.names.lookup a = some .free) (hN : X.N[i]? = some a) (hv : σ[i]? = some (some v)) : ∃ u, RelV v u ∧ Look (lamCx X A X.stack s H E scope f c').env h₁ m₁ a u := by
  obtain ⟨m, _, look⟩ := I.loc
  obtain ⟨vis, nl⟩ := (L.each _ (PySem.mem_of_lookup hk)).2.2 rfl
  obtain ⟨u, r, q⟩ := look i a v hN hv vis
  obtain ⟨_, c, ec, o, ho, hdat⟩ := q.resolve_left fun q => nl q.1
  obtain ⟨c2, e2⟩ := clo_at (cells := X.env.cells) hk
  cases Option.some.inj (ec.symm.trans (clo_sub (L.has I.ok) e2))
  exact ⟨u, r, .inr ⟨.inr hk, c, e2, o, grow c o ho, hdat⟩⟩
theorem lam_start1 {E : XK} {h₁ : Heap} {tk : Nat} (I : Inv X pins σ H s) (L : LamS1 X.env.scope scope y) (hfr : A.frames = some X.stack) (hd : A.handled = none) (hns : h₁.Ns s.heap.objs.size fun z => ([(y, u)] : List (Str × Value)).reverse.lookup z)
    (grow : ∀ b o, s.heap.get? b = some o → h₁.get? b = some o) (nd : X.N.Nodup) (hj : X.N[j]? = some y) (r : RelV x u) : Inv (lamCx X A X.stack s H E scope f c') [] (σ.set j (some x)) H { s with heap := h₁, toks := tk } where
  ok := lam_ok I L hfr hd
  os := rfl
  bare := I.env0.bare
  base := Un.kept grow
  loc := by
    refine ⟨_, hns, fun i a v hN hv vis => ?_⟩
    have hN : X.N[i]? = some a := hN
    by_cases same : i = j
    · subst same
      cases Option.some.inj (hN.symm.trans hj)
      rw [List.getElem?_set_self'] at hv
      obtain ⟨_, _, e⟩ := Option.map_eq_some_iff.mp hv
      cases e
      exact ⟨u, r, .inl ⟨L.par, by simp [List.lookup]⟩⟩
    · rw [List.getElem?_set_ne fun z => same z.symm] at hv
      rcases (show Vis scope a from vis) with k | k | k
      · have ea : a = y := (L.each _ (PySem.mem_of_lookup k)).2.1 rfl
        exact absurd (at_twice nd (ea ▸ hN) hj) same
      · exact absurd rfl (L.each _ (PySem.mem_of_lookup k)).1
      · exact lam_free I L grow k hN hv
  cell := fun a c e => let ⟨v, o, ho, d⟩ := I.cell a c (clo_sub (L.has I.ok) e); ⟨v, o, grow c o ho, d⟩
  free := I.env0.hok.fresh (Nat.le_refl _)
  freeC := fun a c e => I.freeC a c (clo_sub (L.has I.ok) e)
  pin := fun q m => nomatch (show q ∈ ([] : List (Addr × Obj)) from m)
  hok := I.env0.hok.kept grow
  len := by rw [List.length_set]; exact I.len
/-- the lambda called on one value -/
theorem lam_turn {params : Arguments} {body : Expr} {pm ctv : Value} {tb : TE} {Q : VK} {A : Around} (I : Inv X pins σ H s) (L : LamS1 X.env.scope scope y) (hfr : A.frames = some X.stack) (hd : A.handled = none) (hdp : A.depth < recursionLimit)
    (hf : s.heap.get? f = some (PySem.W.kla_obj "<lambda>" (X.env.qual ++ "<lambda>") params body scope (cloFrom X.env.cells scope.names []) pm c' ctv)) (hc : H c' = some (CodeO c' (X.env.qual ++ "<lambda>")))
    (hbind : bindArgs (PySem.W.kla_fn "<lambda>" (X.env.qual ++ "<lambda>") params body scope (cloFrom X.env.cells scope.names []) pm (.ref c') ctv) ⟨[u], []⟩ = pure [(y, u)]) (nd : X.N.Nodup) (hj : X.N[j]? = some y) (r : RelV x u)
    (hbody : PE (lamCx X A X.stack s H C8.E0 scope f c') body tb) (ht : tb (σ.set j (some x)) H Q) :
    wpAny (model X.prog X.w) A (call (.ref f) [u]) (CE X.stack X.prog X.w H s Q) (fun _ _ => False) s := by
  obtain ⟨⟨oc, vs, t, hoc, hdc, hvc⟩, _, _⟩ := I.hok c' _ hc
  have rc : codeAny (model X.prog X.w) A (.call (.ref f) ⟨[u], []⟩) (CR (L2.CX X.prog X.w) X.stack X.prog X.w H s Q C8.E0) s := by
    refine PySem.W.kla_callFunE hdp hf rfl L.plain.1 L.plain.2 rfl ⟨c', oc, vs, t, rfl, hoc, hdc, hvc⟩ ?_
    rw [hbind]
    refine wpAny_pure (wpAny_newFunctionEnv (fun z hz => (L.each z hz).1) (fun z hz => ?_) (fun h₁ hns hsb => ⟨I.nolimit.fresh _ hsb, ?_⟩) L.kind)
    · rw [List.mem_singleton.mp hz]
      exact L.par
    show codeAny _ _ (.expr body (lamEnv X scope s.heap.objs.size f c')) _ _
    have grow : ∀ b o, s.heap.get? b = some o → h₁.get? b = some o := fun b o e => (hsb.2 b (Nat.ne_of_lt (Heap.lt_size e))).trans (Heap.get?_push_of_some _ e)
    have J := lam_start1 (A := A) (E := C8.E0) (f := f) (c' := c') (tk := s.toks + ([(y, u)] : List (Str × Value)).length) I L hfr hd hns grow nd hj r
    exact PySem.W.kla_codeExpr (wpAny_mono (hbody.run [] _ _ H Q J ht) (fun v t ⟨v', H', J', rest⟩ => ⟨v', H', J'.os, J'.bare, J'.base, J'.hok, rest⟩) fun e t z => z)
  refine wpAny_call (codeAny_mono rc ?_)
  intro r s' hq
  cases r with
  | error e =>
    obtain ⟨_, _, _, _, _, _, _, _, _, _, _, _, z⟩ := hq
    exact z.elim
  | ok fl =>
    cases fl with
    | ret u => exact hq
    | next => exact False.elim hq
    | brk => exact False.elim hq
    | cont => exact False.elim hq
end
end WA

namespace WA
open PySem PySem.Spec PyProof.Rows L2 Evl LamX
/-! ### an address aside -/
theorem un_aside {fs : List Addr} {H H1 : Hp} {h h1 h2 : Heap} {a : Addr} (u : Un fs [] H H1 h h1) (ha : h.get? a = none) (k : ∀ b o, b ≠ a → h1.get? b = some o → h2.get? b = some o) : Un fs [] H H1 h h2 := by
  have ne : ∀ {b o}, h.get? b = some o → b ≠ a := fun {b o} e z => by rw [z, ha] at e; cases e
  refine ⟨fun b o q n hb hx => k b o (ne q) (u.keep b o q n hb hx), fun b o q n hb hx => ?_, u.free, fun b o q hx => ?_, u.tups, u.frzs, u.tbls⟩
  · obtain ⟨sl, e⟩ := u.slot b o q n hb hx
    exact ⟨sl, k b _ (ne q) e⟩
  · obtain ⟨o', e⟩ := u.there b o q hx
    exact ⟨o', k b _ (ne q) e⟩
theorem hok_aside {P : Program} {w : World} {H : Hp} {h h' : Heap} {a : Addr} (x : HOk P w H h) (n : H a = none) (k : ∀ b o, b ≠ a → h.get? b = some o → h'.get? b = some o) : HOk P w H h' := fun b o e =>
  (x b o e).stay (fun d u hd hu => k d u (fun z => by
    rcases hd with q | q
    · rw [← q, z, n] at e; cases e
    · rw [z, n] at q; cases q) hu) (fun _ q => q) fun _ _ q => q
theorem un_new {fs : List Addr} {H H1 : Hp} {h h1 : Heap} {a : Addr} {o : HO} (u : Un fs [] H H1 h h1) (ha : h.get? a = none) (n : H1 a = none) : Un fs [] H (upd H1 a o) h h1 := by
  have ne : ∀ {b v}, H1 b = some v → b ≠ a := fun {b v} e z => by rw [z, n] at e; cases e
  refine ⟨u.keep, u.slot, fun b v q m hx => ?_, u.there, fun b xs q => ?_, fun b v w q => ?_, fun b ps q => ?_⟩
  · rw [upd_ne (fun z => by rw [z, ha] at q; cases q)]
    exact u.free b v q m hx
  · rw [upd_ne (ne (u.tups b xs q))]; exact u.tups b xs q
  · rw [upd_ne (ne (u.frzs b v w q))]; exact u.frzs b v w q
  · obtain ⟨more, e⟩ := u.tbls b ps q
    exact ⟨more, by rw [upd_ne (ne e)]; exact e⟩
theorem hok_new {P : Program} {w : World} {H : Hp} {h : Heap} {a : Addr} {o : HO} (x : HOk P w H h) (n : H a = none) (new : ObjOk P w (upd H a o) h a o) : HOk P w (upd H a o) h := fun b u e => by
  by_cases hb : b = a
  · rw [hb, upd_same] at e
    cases e
    rw [hb]
    exact new
  · rw [upd_ne hb] at e
    exact (x b u e).stay (fun _ _ _ hu => hu) (fun d q => by rw [upd_ne (fun z => by rw [z, n] at q; cases q)]; exact q) fun d xs q => by rw [upd_ne (fun z => by rw [z, n] at q; cases q)]; exact q
/-! ### keys -/
def KeyAt (H : Hp) (v : V) (d : PyData) : Prop := (∃ n, v = .int n ∧ d = .int n) ∨ ∃ T n m, v = .ref T ∧ H T = some (.tup [.int n, .int m]) ∧ d = .tuple [.int n, .int m]
theorem KeyAt.mono {H H' : Hp} {v : V} {d : PyData} (h : KeyAt H v d) (e : Ex H H') : KeyAt H' v d := by
  rcases h with h | ⟨T, n, m, h1, h2, h3⟩
  · exact .inl h
  · exact .inr ⟨T, n, m, h1, e _ _ h2, h3⟩
theorem KeyAt.reads {P : Program} {w : World} {H : Hp} {h : Heap} {v : V} {u : Value} {d : PyData} (k : KeyAt H v d) (hok : HOk P w H h) (r : RelV v u) : ∃ as, Reads h u d as := by
  rcases k with ⟨n, rfl, rfl⟩ | ⟨T, n, m, rfl, hT, rfl⟩
  · obtain ⟨t, rfl⟩ := r
    exact ⟨[], .int n t⟩
  · cases r
    obtain ⟨_, its, r2, o, ho, hc, ep, hd⟩ := hok T _ hT
    obtain ⟨u1, u2, rfl, r1, r3⟩ := vals2 r2
    obtain ⟨t1, rfl⟩ := r1
    obtain ⟨t2, rfl⟩ := r3
    exact ⟨_, .tuple ho hc hd (.cons (.int n t1) (.cons (.int m t2) .nil))⟩
/-- the keys so far, the state -/
structure KeyS (X : Cx) (H : Hp) (s0 : Shared) (D kS f : Addr) (fo : Obj) (e1 : Nat) (kz : List PyData) (i : Nat) (s : Shared) : Prop where
  ex : ∃ (Hi : Hp) (ks : List V) (kA : Array Value) (e : Nat), s.os = s0.os ∧ AllBare s.gens ∧ Un (frs X.stack) [] H Hi s0.heap s.heap ∧ HOk X.prog X.w Hi s.heap ∧ Ex H Hi ∧ s.heap.get? kS = some (seqObj "list" kA e) ∧ Vals ks kA.toList ∧ kA.size = i ∧
    s.heap.get? D = some (seqObj "list" #[] e1) ∧ Hi kS = none ∧ Hi D = none ∧ s.heap.get? f = some fo ∧ Hi f = none ∧ ∀ (m : Nat) w d, ks[m]? = some w → kz[m]? = some d → KeyAt Hi w d
section
variable {X : Cx} {pins : List (Addr × Obj)} {σ : L2.St} {H : Hp} {s : Shared} {scope : Scope} {f c' : Addr} {y : Str} {j : Nat}
theorem sort_rest {params : Arguments} {body : Expr} {pm ctv : Value} {tb : TE} {A : Around} {n : Nat} {D kS : Addr} {e1 : Nat} {kz : Nat → PyData} {vs : List Value} {s1 : Shared} {Q : PySem.Fin → Shared → Prop}
    (I : Inv X pins σ H s) (L : LamS1 X.env.scope scope y) (hfr : A.frames = some X.stack) (hd : A.handled = none) (hdp : A.depth < recursionLimit) (hcu : A.units + 200 < cLine)
    (hf : s.heap.get? f = some (PySem.W.kla_obj "<lambda>" (X.env.qual ++ "<lambda>") params body scope (cloFrom X.env.cells scope.names []) pm c' ctv)) (hfn : H f = none) (hff : f ∉ frs X.stack) (hc : H c' = some (CodeO c' (X.env.qual ++ "<lambda>")))
    (hbind : ∀ u, bindArgs (PySem.W.kla_fn "<lambda>" (X.env.qual ++ "<lambda>") params body scope (cloFrom X.env.cells scope.names []) pm (.ref c') ctv) ⟨[u], []⟩ = pure [(y, u)]) (nd : X.N.Nodup) (hj : X.N[j]? = some y)
    (hbody : ∀ s' H', PE (lamCx X A X.stack s' H' C8.E0 scope f c') body tb)
    (turn : ∀ i, i < n → ∀ Hi, Ex H Hi → tb (σ.set j (some (.int (i : Nat)))) Hi fun w H' => Ex Hi H' ∧ KeyAt H' w (kz i))
    (hal : PySem.W.AllAlike ((List.range n).map kz)) (hsk : PySem.W.Sortable ((List.range n).map kz)) (hdk : ∀ i, i < n → (kz i).depth ≤ 1) (hn : n ≤ 1000)
    (hvs : ItemsOf (fun i v => ∃ t, v = .int (i : Nat) t) vs.toArray n)
    (hDn : s.heap.get? D = none) (hKn : s.heap.get? kS = none) (hDK : kS ≠ D) (hsz : s.heap.objs.size ≤ D ∧ s.heap.objs.size ≤ kS)
    (hs1 : s1.os = s.os ∧ AllBare s1.gens ∧ ∀ b o, s.heap.get? b = some o → s1.heap.get? b = some o) (hk0 : s1.heap.get? kS = some (seqObj "list" #[] 0)) (hd0 : s1.heap.get? D = some (seqObj "list" #[] e1))
    (hQ : ∀ (is : List Nat) (H2 : Hp) s2, is.Perm (List.range n) → is = (List.range n).mergeSort (PySem.W.dataLe false kz) → Ex H H2 → H2 D = none → Inv X pins σ (upd H2 D (.lst (nv is))) s2 → Q (.done (.ret .none)) s2) (E : Value → Shared → Prop) :
    wpAny (model X.prog X.w) A (ksk_rest D (.ref f) false vs.toArray e1 (.ref kS)) Q E s1 := by
  have hHD : H D = none := I.hok.fresh hsz.1
  have hHK : H kS = none := I.hok.fresh hsz.2
  have nfD : D ∉ frs X.stack := fun z => by
    rcases List.mem_cons.mp (I.stkSub _ z) with e | e
    · exact absurd (Nat.lt_of_lt_of_le I.lt hsz.1) (by rw [e]; exact Nat.lt_irrefl _)
    · exact I.nofs hsz.1 e
  have nfK : kS ∉ frs X.stack := fun z => by
    rcases List.mem_cons.mp (I.stkSub _ z) with e | e
    · exact absurd (Nat.lt_of_lt_of_le I.lt hsz.2) (by rw [e]; exact Nat.lt_irrefl _)
    · exact I.nofs hsz.2 e
  have hvl : vs.length = n := by have := hvs.1; rwa [List.size_toArray] at this
  unfold ksk_rest
  refine wpAny_bind (wpAny_rule ?_)
  rw [List.forIn_toArray]
  refine wpAny_bind (ksk_fold (fun i s' => KeyS X H s D kS f (PySem.W.kla_obj "<lambda>" (X.env.qual ++ "<lambda>") params body scope (cloFrom X.env.cells scope.names []) pm c' ctv) e1 ((List.range n).map kz) i s') vs 0 s1 ?start ?step ?done)
  case start =>
    exact ⟨H, [], #[], 0, hs1.1, hs1.2.1, Un.kept hs1.2.2, I.hok.kept hs1.2.2, Ex.refl H, hk0, .nil, rfl, hd0, hHK, hHD, hs1.2.2 _ _ hf, hfn, fun m w d h => by simp at h⟩
  case step =>
    rintro i x s' hx ⟨Hi, ks, kA, e, os, bare, un, hok, ex, hkS, vk, hkA, hD, nK, nD, hf', nf, keys⟩
    simp only [Nat.zero_add] at hkA ⊢
    have hin : i < n := by rw [← hvl]; exact (List.getElem?_eq_some_iff.mp hx).1
    obtain ⟨t, rfl⟩ := hvs.2 i x (by simpa using hx)
    have J : Inv X pins σ Hi s' := I.call' (ch := []) os un hok bare (fun b z => absurd z (by simp))
    refine wpAny_bind (wpAny_attempt (wpAny_mono (lam_turn J L hfr hd hdp hf' (ex _ _ hc) (hbind _) nd hj (x := .int (i : Nat)) ⟨t, rfl⟩ (hbody s' Hi) (turn i hin Hi ex)) (fun u s2 hce => ?_) fun _ _ hF => hF.elim))
    obtain ⟨w, H', os2, bare2, un2, hok2, rw2, ex2, hkey⟩ := hce
    try dsimp only
    have hkS2 : s2.heap.get? kS = some (seqObj "list" kA e) := un2.keep kS _ hkS nK nfK (by simp)
    have hD2 : s2.heap.get? D = some (seqObj "list" #[] e1) := un2.keep D _ hD nD nfD (by simp)
    have hf2 := un2.keep f _ hf' nf hff (by simp)
    have nK2 : H' kS = none := un2.free kS _ hkS nK (by simp)
    have nD2 : H' D = none := un2.free D _ hD nD (by simp)
    have nf2 : H' f = none := un2.free f _ hf' nf (by simp)
    have s1' := Heap.SameBut.update s2.heap kS (Obj.mapSeq (·.push u))
    obtain ⟨c2, hc2⟩ : ∃ c2, (s2.heap.update kS (Obj.mapSeq (·.push u))).get? kS = some (seqObj "list" (kA.push u) c2) := ⟨_, get?_update_seq hkS2 (·.push u)⟩
    have hks : f ≠ kS := fun z => by rw [z, hKn] at hf; cases hf
    have hlen : ks.length = i := vk.length.trans (by rw [Array.length_toList]; exact hkA)
    refine wpAny_bind (listUpdate_at hkS2 rfl ?_ (by rw [hkA, sizeLine_eq]; omega) (by rw [Array.size_push, hkA, sizeLine_eq]; omega))
    refine wpAny_pure ⟨rfl, H', ks ++ [w], kA.push u, c2, os2.trans os, bare2, un_aside (un.trans un2) hKn fun b o hb q => (s1'.2 b hb).trans q, hok_aside hok2 nK2 fun b o hb q => (s1'.2 b hb).trans q, ex.trans ex2, hc2, ?_, by rw [Array.size_push, hkA], (s1'.2 D hDK.symm).trans hD2, nK2, nD2, (s1'.2 f hks).trans hf2, nf2, fun m w' d h1 h2 => ?_⟩
    · rw [Array.toList_push]
      exact vk.append (.cons rw2 .nil)
    · by_cases hm : m < i
      · rw [List.getElem?_append_left (by omega)] at h1
        exact (keys m w' d h1 h2).mono ex2
      · have hme : m = i := by
          have h3 := (List.getElem?_eq_some_iff.mp h1).1
          rw [List.length_append, List.length_singleton] at h3
          omega
        subst hme
        rw [List.getElem?_append_right (by omega), hlen, Nat.sub_self] at h1
        cases h1
        rw [List.getElem?_map, List.getElem?_range hin] at h2
        cases h2
        exact hkey
  case done =>
    rintro s' ⟨Hi, ks, kA, e, os, bare, un, hok, ex, hkS, vk, hkA, hD, nK, nD, hf', nf, keys⟩
    rw [Nat.zero_add, hvl] at hkA
    try dsimp only
    refine wpAny_bind (listItems_at hkS rfl ?_)
    have hlen : ks.length = n := vk.length.trans (by rw [Array.length_toList]; exact hkA)
    have hrd : PySem.W.EachIs (fun v k => ∃ as, Reads s'.heap v k as) kA.toList ((List.range n).map kz) := by
      refine PySem.W.EachIs.of_zip (by rw [Array.length_toList, hkA, List.length_map, List.length_range]) fun p hp => ?_
      obtain ⟨m, hm⟩ := List.mem_iff_getElem?.mp hp
      rw [List.getElem?_zip_eq_some] at hm
      have hml : m < ks.length := by
        rw [hlen]
        have h3 := (List.getElem?_eq_some_iff.mp hm.2).1
        rwa [List.length_map, List.length_range] at h3
      obtain ⟨u, hu, ru⟩ := vk.get (List.getElem?_eq_getElem hml)
      rw [hm.1] at hu
      cases hu
      exact (keys m _ _ (List.getElem?_eq_getElem hml) hm.2).reads hok ru
    have hkp : PySem.W.KeepsBut D (PySem.W.hideAll s'.heap [kS]) s'.heap := fun b o hb q => PySem.W.of_hideAll [kS] q
    refine PySem.W.keyH_end (s := s') (κ := PySem.W.dataKind s'.heap ((List.range n).map kz)) (h₁ := PySem.W.hideAll s'.heap [kS]) hkp (PySem.W.hideAll_none [kS] (by simp)) hkS hD hDK (PySem.W.SortsAt.data (s := s') hrd hal hsk fun d hd' => ?_) (by rw [hkA, hvl]) (by rw [hvl, sizeLine_eq]; omega) fun h3 tk3 c k3 n3 => ?_
    · obtain ⟨i, hi, rfl⟩ := List.mem_map.mp hd'
      have := hdk i (List.mem_range.mp hi)
      omega
    · have ko : PySem.W.KeyedOut false ((List.range n).map kz) vs (PySem.W.sortVals (PySem.W.dataKind s'.heap ((List.range n).map kz)) false kA.toList vs) := ⟨s'.heap, kA.toList, hal, rfl, hrd⟩
      have hR : PySem.W.EachIs (fun v i => ∃ t, v = .int (i : Nat) t) vs (List.range n) := by
        refine PySem.W.EachIs.of_zip (by rw [hvl, List.length_range]) fun p hp => ?_
        obtain ⟨m, hm⟩ := List.mem_iff_getElem?.mp hp
        rw [List.getElem?_zip_eq_some] at hm
        have hmn : m < n := by
          have h3 := (List.getElem?_eq_some_iff.mp hm.2).1
          rwa [List.length_range] at h3
        have h4 := hm.2
        rw [List.getElem?_range hmn] at h4
        obtain ⟨t, ht⟩ := hvs.2 m p.1 (by simpa using hm.1)
        exact ⟨t, by rw [ht, ← Option.some.inj h4]⟩
      have out := PySem.W.keyedOut_each kz ko hR
      have hperm : ((List.range n).mergeSort (PySem.W.dataLe false kz)).Perm (List.range n) := List.mergeSort_perm _ _
      have kall : ∀ b o, b ≠ D → b ≠ kS → s'.heap.get? b = some o → h3.get? b = some o := fun b o h1 h2 q => k3 b o h1 (PySem.W.hideAll_get [kS] q (by simpa using h2))
      have hvo : Vals (nv ((List.range n).mergeSort (PySem.W.dataLe false kz))) (PySem.W.sortVals (PySem.W.dataKind s'.heap ((List.range n).map kz)) false kA.toList vs) := by
        revert out
        generalize (List.range n).mergeSort (PySem.W.dataLe false kz) = is
        generalize PySem.W.sortVals (PySem.W.dataKind s'.heap ((List.range n).map kz)) false kA.toList vs = us
        intro out
        induction out with
        | nil => exact .nil
        | cons h r ih => exact .cons h ih
      have hnl : (nv ((List.range n).mergeSort (PySem.W.dataLe false kz))).length ≤ sizeLine := by
        rw [nv_len, hperm.length_eq, List.length_range, sizeLine_eq]; omega
      have un1 : Un (frs X.stack) [] H Hi s.heap (s'.heap.update kS (Obj.mapSeq fun _ => #[])) := un_aside un hKn fun b o hb q => ((Heap.SameBut.update s'.heap kS (Obj.mapSeq fun _ => #[])).2 b hb).trans q
      have kk : ∀ b o, b ≠ D → b ≠ kS → (s'.heap.update kS (Obj.mapSeq fun _ => #[])).get? b = some o → h3.get? b = some o := fun b o h1 h2 q => kall b o h1 h2 (((Heap.SameBut.update s'.heap kS (Obj.mapSeq fun _ => #[])).2 b h2).symm.trans q)
      have un2 : Un (frs X.stack) [] H Hi s.heap h3 := by
        have ne : ∀ {b o}, s.heap.get? b = some o → b ≠ D ∧ b ≠ kS := fun {b o} e => ⟨fun z => (by rw [z, hDn] at e; cases e), fun z => (by rw [z, hKn] at e; cases e)⟩
        refine ⟨fun b o q n' hb hx => kall b o (ne q).1 (ne q).2 (un.keep b o q n' hb hx), fun b o q n' hb hx => ?_, un.free, fun b o q hx => ?_, un.tups, un.frzs, un.tbls⟩
        · obtain ⟨sl, e⟩ := un.slot b o q n' hb hx
          exact ⟨sl, kall b _ (ne q).1 (ne q).2 e⟩
        · obtain ⟨o', e⟩ := un.there b o q hx
          exact ⟨o', kall b _ (ne q).1 (ne q).2 e⟩
      have hok2 : HOk X.prog X.w Hi h3 := fun b o e' => (hok b o e').stay (fun d u hd' hu => kall d u (fun z => by
        rcases hd' with q | q
        · rw [← q, z, nD] at e'; cases e'
        · rw [z, nD] at q; cases q) (fun z => by
        rcases hd' with q | q
        · rw [← q, z, nK] at e'; cases e'
        · rw [z, nK] at q; cases q) hu) (fun _ q => q) fun _ _ q => q
      refine hQ _ Hi _ hperm rfl ex nD (I.call' (ch := []) (s' := { s' with heap := h3, toks := tk3 }) os (un_new un2 hDn nD) (hok_new hok2 nD ⟨hnl, _, c, hvo, n3⟩) bare fun b z => absurd z (by simp))
end
/-! ### range(n) as a tracked value -/
def tRng (ta : TE) : TE := fun σ H Q => ta σ H fun x H1 => ∃ n : Nat, x = .int (n : Nat) ∧ ∀ r, H1 r = none → Q (.ref r) (upd H1 r (.rng 0 n))
theorem pe_rng {X : Cx} {a : Expr} {ta : TE} {p pos : Pos} (hg : Gl X "range") (hm : X.mg "range" = none) (ha : PE X a ta) (na : starEach [a] X.env = (false, eval a X.env) :: starEach [] X.env := by rfl) : PE X (.Call (.Name "range" p) [a] [] pos) (tRng ta) := by
  refine ⟨fun pins s σ H Q I h => ?_⟩
  refine Call_ (ld_blt I hg hm boot_range (PyProof.Rows.callWith_type1 (one_arg ha I h (fun v s2 x H2 I2 r q => ?_) na) na))
  obtain ⟨n, rfl, q⟩ := q
  obtain ⟨t, rfl⟩ := r
  exact call_range_1 ⟨.ref s2.heap.objs.size, upd H2 s2.heap.objs.size (.rng 0 n), I2.laid (o := .rng 0 n) (fun b u e => Heap.get?_push_of_some _ e) (Nat.le_refl _) ⟨_, _, _, Heap.get?_push_size _ rfl⟩, rfl, q _ (I2.hok.fresh (Nat.le_refl _))⟩
/-! ### sorted(range(n), key=lambda y: body) -/
def tSortL (T : List (Addr × Str)) (j : Nat) (te t : TE) : TE := fun σ H Q => te σ H fun x H0 => ∃ (r : Addr) (n : Nat) (kz : Nat → PyData), x = .ref r ∧ H0 r = some (.rng 0 n) ∧ n ≤ 1000 ∧ Tabs T H0 ∧
  PySem.W.AllAlike ((List.range n).map kz) ∧ PySem.W.Sortable ((List.range n).map kz) ∧ (∀ i, i < n → (kz i).depth ≤ 1) ∧ ∀ H1, ExtN H0 H1 → Tabs T H1 →
    (∀ i, i < n → ∀ Hi, Ex H1 Hi → t (σ.set j (some (.int (i : Nat)))) Hi fun w H' => Ex Hi H' ∧ KeyAt H' w (kz i)) ∧
    ∀ (is : List Nat) (p : Addr) (H2 : Hp), is.Perm (List.range n) → is = (List.range n).mergeSort (PySem.W.dataLe false kz) → Ex H1 H2 → H2 p = none → Q (.ref p) (upd H2 p (.lst (nv is)))
theorem pe_sortL {X : Cx} {T : List (Addr × Str)} {c P : Addr} {e : Expr} {te t : TE} {p pos lpos kpos : Pos} {params : Arguments} {body : Expr} {scope : Scope} {y : Str} {j : Nat} (hg : Gl X "sorted") (hm : X.mg "sorted" = none) (he : PE X e te)
    (TB : TabB X.base X.mg c P) (hcode : X.env.code = .ref c) (hmT : (P, X.env.qual ++ "<lambda>") ∈ T) (hu : ∀ q ∈ T, q.1 = P → q.2 = X.env.qual ++ "<lambda>") (hr : Room 1 X.A) (hcalm : X.calm = true) (L : LamS1 X.env.scope scope y) (hdef : defaultsOf params X.env = ([], []))
    (hbind : ∀ (q : Str) (cl : List (Str × Addr)) (pm cv ctv u : Value), bindArgs (PySem.W.kla_fn "<lambda>" q params body scope cl pm cv ctv) ⟨[u], []⟩ = pure [(y, u)]) (nd : X.N.Nodup) (hj : X.N[j]? = some y)
    (hbody : ∀ (A : Around) (s : Shared) (H : Hp) (f c' : Addr), PE (lamCx X A X.stack s H C8.E0 scope f c') body t)
    (hn1 : starEach [e] X.env = (false, eval e X.env) :: starEach [] X.env := by rfl)
    (he1 : backTo pos (starEach [e] X.env) = (false, eval e X.env) :: backTo pos (starEach [] X.env) := by rfl) (hpl : (backTo pos (starEach [e] X.env)).any (·.1) = false := by rfl)
    (hall : (backToKw pos (keywordEach [⟨some "key", .Lambda params body scope lpos, kpos⟩] X.env)).all (·.1.isSome) = true := by rfl) (hnone : (backToKw pos (keywordEach [⟨some "key", .Lambda params body scope lpos, kpos⟩] X.env)).any (·.1.isNone) = false := by rfl)
    (hks : (backToKw pos (keywordEach [⟨some "key", .Lambda params body scope lpos, kpos⟩] X.env)).filterMap (·.1) = [Str.ofString "key"] := by rfl) :
    PE X (.Call (.Name "sorted" p) [e] [⟨some "key", .Lambda params body scope lpos, kpos⟩] pos) (tSortL T j te t) := by
  refine ⟨fun pins s σ H Q I h => ?_⟩
  refine wpAny_Call_Name_kw (ld_blt I hg hm (by decide +kernel : bootBuiltins "sorted" = some (.builtin "sorted")) ?_ (by decide) (by decide))
  refine PyProof.Rows.callWith_kw ?_ he1 hpl hall hnone
  rw [he1]
  refine Calls.spliced_cons (thn (he.run pins s σ H _ I h) fun v s1 ⟨x, H0, I0, r0, q0⟩ => ?_)
  refine Calls.spliced_nil ?_
  obtain ⟨r, n, kz, rfl, hrng, hn, hT, hal, hsk, hdk, q⟩ := q0
  cases r0
  show wpAny _ _ (evalAll ((do let v ← eval (.Lambda params body scope lpos) X.env; standAt pos; pure v) :: (backToKw pos (keywordEach [] X.env)).map (·.2))) _ _ s1
  refine wpAny_evalAll_cons (wpAny_bind (lam_make2 I0 TB hcode hmT hu hT hdef (L.has I0.ok) fun f c' pm ctv H1 s2 I1 eN T1 hf hfn hff hco => wpAny_bind (wpAny_standAt (wpAny_pure ?_))))
  refine wpAny_evalAll_nil ?_
  rw [hks]
  show wpAny _ _ (call (.builtin "sorted") [.ref r] [(Str.ofString "key", .ref f)]) _ _ s2
  obtain ⟨turn, hQ⟩ := q H1 eN T1
  have hrng1 : H1 r = some (.rng 0 n) := eN r _ hrng (fun ps z => by cases z)
  obtain ⟨t1, t2, t3, hro⟩ := I1.hok r _ hrng1
  have hh := I1.ok.hd hcalm
  refine call_function_entry_kw kind_sorted plain_sorted entry_sorted (ksk_s1 _ _) ?_
  unfold Builtin.«sorted»
  refine wpAny_bind (m := checkCount "sorted" 1 1 _) (wpAny_pure ?_)
  refine wpAny_bind (collect_range (A := X.A.in1) (n := n) hh hro (small_one (by decide) (by decide) (by omega) (by omega)) (by rw [rangeSize_nat]; simp) (by omega) fun h1 tk1 acc hk1 hi => ?_)
  have hal2 : acc.toList.length = n := by rw [Array.length_toList]; exact hi.1
  have hzl : n ≤ sizeLine := by rw [sizeLine_eq]; omega
  refine wpAny_bind (wpAny_newList ?_ (by rw [hal2]; exact hzl))
  have I2 : Inv X pins σ H1 { s2 with heap := h1, toks := tk1 } := I1.kept hk1
  have hDo : (h1.push (seqObj "list" acc.toList.toArray 0)).get? h1.objs.size = some (seqObj "list" acc.toList.toArray 0) := Heap.get?_push_size _ rfl
  have hAz : (h1.push (seqObj "list" acc.toList.toArray 0)).objs.size = h1.objs.size + 1 := size_push' _ _
  refine wpAny_bind (wpAny_holding (wpAny_call_entry_kw (s := { s2 with heap := h1.push (seqObj "list" acc.toList.toArray 0), toks := tk1 }) slot_list_sort ⟨_, hDo, rfl⟩ entry_list_sort ?_ (ksk_l1 _ _)))
  rw [ksk_t1]
  obtain ⟨e1, ho1⟩ : ∃ e1, ((h1.push (seqObj "list" acc.toList.toArray 0)).update h1.objs.size (Obj.mapSeq fun _ => (#[] : Array Value))).get? h1.objs.size = some (seqObj "list" #[] e1) := ⟨_, get?_update_seq hDo fun _ => #[]⟩
  have hkS : (((h1.push (seqObj "list" acc.toList.toArray 0)).update h1.objs.size (Obj.mapSeq fun _ => (#[] : Array Value))).push (seqObj "tuple" acc.toList.toArray 0)).objs.size = h1.objs.size + 2 := by rw [size_push', Heap.size_update, hAz]
  unfold ksk_tree
  refine wpAny_bind (listItems_at hDo rfl ?_)
  refine wpAny_bind (listUpdate_at hDo rfl ?_ (by rw [List.size_toArray, hal2]; exact hzl) (Nat.zero_le _))
  refine wpAny_bind (seqEpoch_at ho1 rfl ?_)
  refine wpAny_bind (wpAny_newTuple ?_ (by show acc.toList.toArray.toList.length ≤ _; simp; rw [hi.1]; exact hzl))
  refine wpAny_bind (wpAny_newList ?_ (Nat.zero_le _))
  refine wpAny_holding ?_
  show wpAny _ _ (ksk_rest h1.objs.size (.ref f) false acc.toList.toArray e1 (.ref (((h1.push (seqObj "list" acc.toList.toArray 0)).update h1.objs.size (Obj.mapSeq fun _ => (#[] : Array Value))).push (seqObj "tuple" acc.toList.toArray 0)).objs.size)) _ _ _
  have keep : ∀ b o, h1.get? b = some o → ((((h1.push (seqObj "list" acc.toList.toArray 0)).update h1.objs.size (Obj.mapSeq fun _ => (#[] : Array Value))).push (seqObj "tuple" acc.toList.toArray 0)).push (seqObj "list" #[] 0)).get? b = some o := fun b o q =>
    Heap.get?_push_of_some _ (Heap.get?_push_of_some _ ((Heap.get?_update_ne _ _ _ _ (Nat.ne_of_lt (Heap.lt_size q))).trans (Heap.get?_push_of_some _ q)))
  have hrd := hr.dp
  have hru := hr.un
  refine sort_rest (s := { s2 with heap := h1, toks := tk1 }) (D := h1.objs.size) (kS := (((h1.push (seqObj "list" acc.toList.toArray 0)).update h1.objs.size (Obj.mapSeq fun _ => (#[] : Array Value))).push (seqObj "tuple" acc.toList.toArray 0)).objs.size) (s1 := { s2 with heap := (((h1.push (seqObj "list" acc.toList.toArray 0)).update h1.objs.size (Obj.mapSeq fun _ => (#[] : Array Value))).push (seqObj "tuple" acc.toList.toArray 0)).push (seqObj "list" #[] 0), toks := tk1 }) (A := X.A.in1.in1) (n := n) (kz := kz) I2 L I1.ok.frames hh (by show X.A.depth < _; omega) (by show X.A.units + 1 + 1 + 200 < _; omega) (hk1 _ _ hf) hfn hff hco (fun u => hbind _ _ _ _ _ u) nd hj (hbody X.A.in1.in1 · · f c') turn hal hsk hdk hn
    ⟨by rw [List.size_toArray, hal2], fun i v hv => ?_⟩ (Heap.get?_none_of_le (Nat.le_refl _)) (Heap.get?_none_of_le (by rw [hkS]; exact Nat.le_add_right h1.objs.size 2)) (by rw [hkS]; exact Nat.ne_of_gt (Nat.lt_add_of_pos_right (by decide))) ⟨Nat.le_refl _, by rw [hkS]; exact Nat.le_add_right h1.objs.size 2⟩
    ⟨rfl, I1.bare, keep⟩ (Heap.get?_push_size _ rfl) (Heap.get?_push_of_some _ (Heap.get?_push_of_some _ ho1)) (fun is H2 s3 hperm his ex hn2 J => ?_) _
  · obtain ⟨t, e⟩ := hi.2 i v (by simpa using hv)
    exact ⟨t, by rw [e]; simp⟩
  · exact ⟨_, rfl, wpAny_pure ⟨_, rfl, .ref h1.objs.size, _, J, rfl, hQ is _ H2 hperm his ex hn2⟩⟩
end WA

namespace WA
open PySem PySem.Spec PyProof.Rows L2 Evl LamX
/-! ### all but the tables of code objects stays -/
def Xn (T : List (Addr × Str)) (H H' : Hp) : Prop := ExtN H H' ∧ (Tabs T H → Tabs T H')
section
variable {TT : List (Addr × Str)} {K : PySem.W.Frag} {σ : L2.St} {H H' H'' H0 H00 : Hp} {ta tb te tx : TE} {t u : L2.TT} {x y z v : V} {D : Ends} {tu tw tz : TS} {g : TG} {xs ys : List V} {ts : TA} {sp : Sp} {E : XK} {dvs : List V}
theorem Xn.refl (H : Hp) : Xn TT H H := ⟨ExtN.refl H, id⟩
theorem Xn.trans (a : Xn TT H H') (b : Xn TT H' H'') : Xn TT H H'' := ⟨a.1.trans b.1, b.2 ∘ a.2⟩
theorem xn_of (e : Ex H H') : Xn TT H H' := ⟨ExtN.of e, fun t => t.ext e⟩
theorem xn_lst {a : Addr} (e : Xn TT H H') (h : H a = some (.lst xs)) : H' a = some (.lst xs) := e.1 a _ h fun ps z => by cases z
theorem xn_l {a : Addr} (e : Xn TT H H') (h : SqL K H a xs) : SqL K H' a xs := by
  rcases h with (h | ⟨o, h⟩) | h
  · exact .inl (.inl (xn_lst e h))
  · exact .inl (.inr ⟨o, e.1 a _ h fun ps z => by cases z⟩)
  · exact .inr h
theorem At.xn {a : Addr} {T : Tb} {w : Nat} (h : At K H a T w) (e : Xn TT H H') : At K H' a T w := ⟨xn_l e h.sq, h.rect, h.ln, h.lw⟩
theorem InsAt.xn {a : Addr} {k : Kd} {fs : List (Str × V)} (h : InsAt K H a k fs) (e : Xn TT H H') : InsAt K H' a k fs := let ⟨dx, h⟩ := h; ⟨dx, e.1 a _ h fun ps z => by cases z⟩
theorem LF.xn {l : Addr} {ns : List Int} (h : LF H0 H l ns) (e : Xn TT H H') : LF H0 H' l ns := ⟨h.1, xn_lst e h.2⟩
theorem AnsAt.xn {o : Addr} {a : Ans} (h : AnsAt K H0 H o a) (e : Xn TT H H') : AnsAt K H0 H' o a := by
  cases a with
  | steps r c => obtain ⟨l, m, h1, h2, h3, h4⟩ := h; exact ⟨l, m, h1.xn e, h2.xn e, h3.xn e, h4⟩
  | stretches b e' u => obtain ⟨l, m, n, h1, h2, h3, h4, h5⟩ := h; exact ⟨l, m, n, h1.xn e, h2.xn e, h3.xn e, h4.xn e, h5⟩
  | ranks r => obtain ⟨l, h1, h2⟩ := h; exact ⟨l, h1.xn e, h2.xn e⟩
  | line r => obtain ⟨l, h1, h2⟩ := h; exact ⟨l, h1.xn e, h2.xn e⟩
  | _ => exact InsAt.xn h e
/-! ### evaluation, tables growing -/
def EvN (TT : List (Addr × Str)) (te : TE) (σ : L2.St) (H : Hp) (v : V) : Prop := ∀ H1, Xn TT H H1 → ∀ Q : VK, (∀ H2, Xn TT H1 H2 → Q v H2) → te σ H1 Q
def EtN (TT : List (Addr × Str)) (tt : L2.TT) (σ : L2.St) (H : Hp) (b : Bool) : Prop := ∀ H1, Xn TT H H1 → ∀ Q : Bool → Hp → Prop, (∀ H2, Xn TT H1 H2 → Q b H2) → tt σ H1 Q
def SpN (TT : List (Addr × Str)) (sp : Sp) (vs : List V) (H : Hp) (z : V) : Prop := ∀ Q : VK, (∀ H2, Xn TT H H2 → Q z H2) → ∀ E, sp vs H Q E
theorem evn_of (h : ∀ H1, Xn TT H H1 → Ev te σ H1 v) : EvN TT te σ H v := fun H1 e Q q => h H1 e H1 (Ex.refl H1) Q fun H2 e2 => q H2 (xn_of e2)
theorem etn_of {b : Bool} (h : ∀ H1, Xn TT H H1 → EvT t σ H1 b) : EtN TT t σ H b := fun H1 e Q q => h H1 e H1 (Ex.refl H1) Q fun H2 e2 => q H2 (xn_of e2)
theorem evn_c : EvN TT (tC v) σ H v := evn_of fun _ _ => ev_c
theorem EvN.mono (e : Xn TT H H') (h : EvN TT te σ H v) : EvN TT te σ H' v := fun H1 a Q q => h H1 (e.trans a) Q q
theorem EtN.mono {b : Bool} (e : Xn TT H H') (h : EtN TT t σ H b) : EtN TT t σ H' b := fun H1 a Q q => h H1 (e.trans a) Q q
theorem evn_callAv {as : List Av} (h : ∀ H1, Xn TT H H1 → EvAv K ts σ H1 as) (hs : ∀ vs H1, Xn TT H H1 → AvsAre K H1 as vs → SpN TT sp (vs ++ dvs) H1 z) : EvN TT (tCall sp dvs E ts) σ H z := fun H1 e Q q =>
  h H1 e H1 (Ex.refl H1) _ fun vs H2 e2 r => hs vs H2 (e.trans (xn_of e2)) r Q (fun H3 e3 => q H3 ((xn_of e2).trans e3)) E
theorem evn_andV {a b : Bool} (h1 : EvN TT ta σ H (.bl a)) (h2 : a = true → EvN TT tb σ H (.bl b)) : EvN TT (tAndV ta tb) σ H (.bl (a && b)) := fun H1 e Q q => h1 H1 e _ fun H2 e2 => ⟨a, rfl, by
  cases a with
  | true =>
    show tb σ H2 Q
    exact h2 rfl H2 (e.trans e2) Q fun H3 e3 => q H3 (e2.trans e3)
  | false =>
    show Q (.bl false) H2
    exact q H2 e2⟩
theorem etn_B {b : Bool} (h : EvN TT te σ H (.bl b)) : EtN TT (tB te) σ H b := fun H1 e _ q => h H1 e _ fun H2 e2 => ⟨b, rfl, q H2 e2⟩
theorem etn_not {a : Bool} (h1 : EtN TT t σ H a) : EtN TT (tNot t) σ H (!a) := fun H1 e _ q => h1 H1 e _ fun H2 e2 => q H2 e2
theorem etn_or {a b : Bool} (h1 : EtN TT t σ H a) (h2 : a = false → EtN TT u σ H b) : EtN TT (tOr t u) σ H (a || b) := fun H1 e Q q => h1 H1 e _ fun H2 e2 => by
  cases a with
  | true =>
    show Q true H2
    exact q H2 e2
  | false =>
    show u σ H2 Q
    exact h2 rfl H2 (e.trans e2) Q fun H3 e3 => q H3 (e2.trans e3)
theorem etn_is {a b : Bool} (h : EtN TT t σ H a) (e : a = b) : EtN TT t σ H b := e ▸ h
theorem evn_is {w : V} (h : EvN TT te σ H v) (e : v = w) : EvN TT te σ H w := e ▸ h
theorem qn_when {b : Bool} (h : EtN TT t σ H b) (h1 : b = true → ∀ H1, Xn TT H H1 → tu { D with nx := tz D } σ H1) (h2 : b = false → ∀ H1, Xn TT H H1 → tz D σ H1) : tSeq (tIfS t tu tNext) tz D σ H := h H (Xn.refl H) _ fun H1 e1 => by
  cases b with
  | true => exact h1 rfl H1 e1
  | false => exact h2 rfl H1 e1
theorem sn_when {b : Bool} (h : EtN TT t σ H b) (h1 : b = true → ∀ H1, Xn TT H H1 → tu D σ H1) (h2 : b = false → ∀ H1, Xn TT H H1 → D.nx σ H1) : tIfS t tu tNext D σ H := h H (Xn.refl H) _ fun H1 e1 => by
  cases b with
  | true => exact h1 rfl H1 e1
  | false => exact h2 rfl H1 e1
theorem sn_ret (h : EvN TT te σ H v) (k : ∀ H1, Xn TT H H1 → D.rt v H1) : tRet te D σ H := h H (Xn.refl H) _ fun H1 e1 => k H1 e1
/-! ### answers behind a jump -/
/-- an answer that is good, or None; tables may have grown -/
def EvOptN (TT : List (Addr × Str)) (K : PySem.W.Frag) (te : TE) (σ : L2.St) (H : Hp) (good : Ans → Prop) (nn : Prop) : Prop := ∀ Q : VK,
  (∀ ans x H0 H2, good ans → Xn TT H H0 → H0 x = none → Ex H0 H2 → AnsAt K H0 H2 x ans → Q (.ref x) H2) → (nn → ∀ H2, Xn TT H H2 → Q .non H2) → te σ H Q
def spOptN (TT : List (Addr × Str)) (K : PySem.W.Frag) (pre : List V → Hp → Tb → Prop) (good : Tb → Ans → Prop) (nn : Tb → Prop) : Sp := fun vs H Q _ => ∃ T, pre vs H T ∧ Tabs TT H ∧
  (∀ ans x H0 H2, good T ans → Xn TT H H0 → H0 x = none → Ex H0 H2 → AnsAt K H0 H2 x ans → Q (.ref x) H2) ∧ (nn T → ∀ H2, Xn TT H H2 → Q .non H2)
theorem eoptN_call {pre : List V → Hp → Tb → Prop} {good : Tb → Ans → Prop} {nn : Tb → Prop} {T : Tb} {vs : List V} (hT : Tabs TT H) (h : EvA ts σ H vs) (hp : ∀ H1, Ex H H1 → pre vs H1 T) : EvOptN TT K (tCall (spOptN TT K pre good nn) [] E ts) σ H (good T) (nn T) := fun Q q1 q2 =>
  h H (Ex.refl H) _ fun H2 e2 => by
    rw [List.append_nil]
    exact ⟨T, hp H2 e2, hT.ext e2, fun ans x H0 H3 hg e0 hx e3 hA => q1 ans x H0 H3 hg ((xn_of e2).trans e0) hx e3 hA, fun n H3 e3 => q2 n H3 ((xn_of e2).trans e3)⟩
theorem q_asgOptN {good : Ans → Prop} {nn : Prop} {i : Nat} (h : EvOptN TT K te σ H good nn) (k1 : ∀ ans x H0 H1, good ans → Xn TT H H0 → H0 x = none → Ex H0 H1 → AnsAt K H0 H1 x ans → tz D (σ.set i (some (.ref x))) H1) (k2 : nn → ∀ H1, Xn TT H H1 → tz D (σ.set i (some .non)) H1) : tSeq (tAsg te (gName i)) tz D σ H :=
  h _ (fun ans x H0 H1 hg e0 hx e1 hA => k1 ans x H0 H1 hg e0 hx e1 hA) fun n H1 e1 => k2 n H1 e1
theorem s_asgOptN {good : Ans → Prop} {nn : Prop} {i : Nat} (h : EvOptN TT K te σ H good nn) (k1 : ∀ ans x H0 H1, good ans → Xn TT H H0 → H0 x = none → Ex H0 H1 → AnsAt K H0 H1 x ans → D.nx (σ.set i (some (.ref x))) H1) (k2 : nn → ∀ H1, Xn TT H H1 → D.nx (σ.set i (some .non)) H1) : tAsg te (gName i) D σ H :=
  h _ (fun ans x H0 H1 hg e0 hx e1 hA => k1 ans x H0 H1 hg e0 hx e1 hA) fun n H1 e1 => k2 n H1 e1
/-! ### the sort, evaluated -/
theorem evs_rng {n : Nat} (h : Ev te σ H (.int (n : Nat))) : ∀ H1, Ex H H1 → ∀ Q : VK, (∀ r H2, Ex H1 H2 → H2 r = some (.rng 0 n) → Q (.ref r) H2) → tRng te σ H1 Q := fun H1 e Q q =>
  h H1 e _ fun H2 e2 => ⟨n, rfl, fun r hr => q r _ (e2.trans (Ex.new hr)) upd_same⟩
/-- sorted(range(n), key=lambda ..), the keys ints -/
theorem sortN {j n : Nat} {f : Nat → Nat} {tn : TE} (hT : Tabs TT H) (h : Ev tn σ H (.int (n : Nat))) (hn : n ≤ 1000) (hk : ∀ i, i < n → ∀ H1, Xn TT H H1 → Ev te (σ.set j (some (.int (i : Nat)))) H1 (.int (f i : Nat))) {Q : VK}
    (q : ∀ (is : List Nat) (p : Addr) H0 H2, is.Perm (List.range n) → is.Pairwise (fun a b => f a ≤ f b) → Xn TT H H0 → H0 p = none → Ex H0 H2 → H2 p = some (.lst (nv is)) → Q (.ref p) H2) : tSortL TT j (tRng tn) te σ H Q :=
  evs_rng h H (Ex.refl H) _ fun r H1 e1 hr => ⟨r, n, fun i => .int (f i : Nat), rfl, hr, hn, hT.ext e1, fun d hd d' hd' => by
      obtain ⟨i, _, rfl⟩ := List.mem_map.mp hd
      obtain ⟨i', _, rfl⟩ := List.mem_map.mp hd'
      simp [PySem.W.alike], .inr fun d hd => by
      obtain ⟨i, _, rfl⟩ := List.mem_map.mp hd
      exact ⟨by simp, fun xs => by simp⟩, fun i _ => by simp [PyData.depth], fun H2 eN T2 => by
      have e12 : Xn TT H H2 := (xn_of e1).trans ⟨eN, fun _ => T2⟩
      refine ⟨fun i hi Hi ei => ?_, fun is p H3 hp hs e3 hn3 => ?_⟩
      · have z := hk i hi Hi (e12.trans (xn_of ei))
        exact z Hi (Ex.refl Hi) _ fun H' e' => ⟨e', .inl ⟨_, rfl, rfl⟩⟩
      · refine q is p H3 _ hp ?_ (e12.trans (xn_of e3)) hn3 (Ex.new hn3) upd_same
        have e4 : PySem.W.dataLe false (fun i => PyData.int ((f i : Nat) : Int)) = fun a b => decide (((f a : Nat) : Int) ≤ (f b : Nat)) := PySem.W.dataLe_int _
        rw [e4] at hs
        have z := List.pairwise_mergeSort (le := fun a b : Nat => decide (((f a : Nat) : Int) ≤ (f b : Nat))) (fun a b c h1 h2 => by simp at h1 h2 ⊢; omega) (fun a b => by simp; omega) (List.range n)
        rw [← hs] at z
        exact z.imp fun h => by simpa using h⟩
/-- .. the keys pairs -/
theorem sortN2 {j n : Nat} {f g : Nat → Int} {tn : TE} (hT : Tabs TT H) (h : Ev tn σ H (.int (n : Nat))) (hn : n ≤ 1000) (hk : ∀ i, i < n → ∀ H1, Xn TT H H1 → EvU te (σ.set j (some (.int (i : Nat)))) H1 [.int (f i), .int (g i)]) {Q : VK}
    (q : ∀ (is : List Nat) (p : Addr) H0 H2, is.Perm (List.range n) → Xn TT H H0 → H0 p = none → Ex H0 H2 → H2 p = some (.lst (nv is)) → Q (.ref p) H2) : tSortL TT j (tRng tn) te σ H Q :=
  evs_rng h H (Ex.refl H) _ fun r H1 e1 hr => ⟨r, n, fun i => .tuple [.int (f i), .int (g i)], rfl, hr, hn, hT.ext e1, fun d hd d' hd' => by
      obtain ⟨i, _, rfl⟩ := List.mem_map.mp hd
      obtain ⟨i', _, rfl⟩ := List.mem_map.mp hd'
      simp [PySem.W.alike, PySem.W.alikeAll], .inl fun d hd => by
      obtain ⟨i, _, rfl⟩ := List.mem_map.mp hd
      exact ⟨_, _, rfl⟩, fun i _ => by simp [PyData.depth, PyData.depthAll], fun H2 eN T2 => by
      have e12 : Xn TT H H2 := (xn_of e1).trans ⟨eN, fun _ => T2⟩
      refine ⟨fun i hi Hi ei => ?_, fun is p H3 hp hs e3 hn3 => q is p H3 _ hp (e12.trans (xn_of e3)) hn3 (Ex.new hn3) upd_same⟩
      have z := hk i hi Hi (e12.trans (xn_of ei))
      exact z Hi (Ex.refl Hi) _ fun T H' _ e' hT' => ⟨e', .inr ⟨T, _, _, rfl, hT', rfl⟩⟩⟩
end
/-! ### a def that makes a lambda -/
theorem cal_tab {P : Program} {w : World} {K : PySem.W.Frag} {mg : Str → Option Value} {base : Heap} {x : Str} {st : Stmt} {N ps : List Str} {k : Nat} {sp : Sp} (D : ∃ fd, FunD K x x (defArgs st) (defBody st) (defScope st) [] [] (He.fAd K (x, none)) fd) (hm : mg x = some (.ref (He.ga K x))) (S : FnScope N ps (defScope st))
    (hb : ∀ (kV doc pm : Value) (an : Option Addr) (cdv ct : Value) (us : List Value), us.length = ps.length → bindArgs (PySem.W.fnOf x x (defArgs st) (defBody st) (defScope st) .none kV doc pm an cdv ct) ⟨us, []⟩ = pure (ps.zip us))
    (len : ∀ vs H Q E, sp vs H Q E → vs.length = ps.length)
    (hbody : ∀ (A : Around) (outer : List Env) (s : Shared) (H : Hp) (vs : List V) (Q : VK) (E : XK), Room k (A.deeper (envOfC x (defScope st) s.heap.objs.size (He.fAd K (x, none)) (.ref (He.cT K (x, none)).1))) → sp vs H Q E →
      ∃ t, PSs (cxOf C8.CX0 P w K mg base N x (defScope st) (He.fAd K (x, none)) (.ref (He.cT K (x, none)).1) A outer s H E).nox (defBody st) t ∧ t { nx := fun _ H' => Q .non H', rt := Q } (start N vs) H) : C8.Cal P w K mg base (k + 1) x sp [] := by
  obtain ⟨fd, F⟩ := D
  have kp := F.kp
  have bb := F.bindsN hb
  obtain ⟨oc, od, dV, kV, doc, pm, an, cdv, ct, osl, rfl, lk, hcd, _, _⟩ := F.ex
  obtain ⟨c, rfl⟩ := He.codeIn_ref hcd
  have ec : (He.cT K (x, none)).1 = c := He.codeOf_eq (p := (x, none)) lk rfl
  refine ⟨He.fAd K (x, none), _, ps, [], fn_of lk hcd S len fun A outer s H vs Q E hr h => ?_, hm, kp, bb, .nil⟩
  have hbody := hbody A outer s H vs Q E
  rw [ec] at hbody
  obtain ⟨t, h1, h2⟩ := hbody hr h
  exact ⟨t, h1.nox, h2⟩
end WA

namespace WA
open PySem PySem.Spec PyProof.Rows L2 Evl
/-! ### min(ns, default=d) -/
def minOr : List Int → Int → Int
  | [], d => d
  | y :: ys, _ => ys.foldl min y
theorem foldl_min_le : ∀ (ys : List Int) (y : Int), ys.foldl min y ≤ y ∧ (∀ z ∈ ys, ys.foldl min y ≤ z) ∧ (ys.foldl min y = y ∨ ys.foldl min y ∈ ys)
  | [], y => ⟨Int.le_refl _, fun z h => (by cases h), .inl rfl⟩
  | x :: ys, y => by
    obtain ⟨h1, h2, h3⟩ := foldl_min_le ys (min y x)
    rw [List.foldl_cons]
    have a1 : min y x ≤ y := Int.min_le_left _ _
    have a2 : min y x ≤ x := Int.min_le_right _ _
    refine ⟨Int.le_trans h1 a1, fun z hz => ?_, ?_⟩
    · rcases List.mem_cons.mp hz with rfl | hz
      · exact Int.le_trans h1 a2
      · exact h2 z hz
    · rcases h3 with h3 | h3
      · rw [h3]
        by_cases h : y ≤ x
        · exact .inl (Int.min_eq_left h)
        · exact .inr (by rw [Int.min_eq_right (by omega)]; exact List.mem_cons_self ..)
      · exact .inr (List.mem_cons_of_mem _ h3)
theorem minOr_le {ns : List Int} {d z : Int} (h : z ∈ ns) : minOr ns d ≤ z := by
  cases ns with
  | nil => cases h
  | cons y ys =>
    obtain ⟨h1, h2, _⟩ := foldl_min_le ys y
    rcases List.mem_cons.mp h with rfl | h
    · exact h1
    · exact h2 z h
theorem minOr_mem {ns : List Int} {d : Int} (h : ns ≠ []) : minOr ns d ∈ ns := by
  cases ns with
  | nil => exact absurd rfl h
  | cons y ys =>
    obtain ⟨_, _, h3⟩ := foldl_min_le ys y
    show ys.foldl min y ∈ y :: ys
    rcases h3 with h3 | h3
    · rw [h3]; exact List.mem_cons_self ..
    · exact List.mem_cons_of_mem _ h3
theorem reads_ints {h : Heap} : ∀ {us : List Value} {ns : List Int}, IntsAre us ns → ReadsAll h us (ns.map PyData.int) []
  | _, _, .nil => .nil
  | _, _, .cons n t r => by
    have := reads_ints (h := h) r
    exact .cons (.int n t) this
theorem depth_ints : ∀ ns : List Int, PyData.depthAll (ns.map PyData.int) = 0
  | [] => rfl
  | n :: ns => by
    show max (PyData.depth (.int n)) (PyData.depthAll (ns.map PyData.int)) = 0
    rw [depth_ints ns]
    simp [PyData.depth]
def rMinD (K : PySem.W.Frag) : List V → List V → Hp → VK → Prop := fun vs zs H Q => ∃ (p : Addr) (ns : List Int) (d : Int), vs = [.ref p] ∧ zs = [.int d] ∧ SqL K H p (ns.map V.int) ∧ Q (.int (minOr ns d)) H
theorem cr_minD {X : Cx} (hc : X.calm = true) (hu : X.A.units + 1 < cLine) : CallRK X (.builtin "min") [Str.ofString "default"] (rMinD X.K) := by
  intro pins s σ H vs zs us ws Q I r rz h
  obtain ⟨p, ns, d, rfl, rfl, hs, q⟩ := h
  obtain rfl := Vals.ref1 r
  obtain ⟨w1, rfl, t, rfl⟩ := vals1 rz
  obtain ⟨its, rv, pl, hlen⟩ := I.list hs
  have hi := ints_of_vals rv
  refine PySem.W.min_list_default (vs := its.toArray) (xs := ns.map PyData.int) (as := []) (I.ok.hd hc) pl.isList (reads_ints (by simpa using hi)) ⟨fun x hx y hy => ?_, fun x hx => ?_⟩ (by rw [depth_ints]; omega) (fun e h' tk hk => ?_) fun y ys i v h' tk bs e hv hr hk => ?_
  · obtain ⟨a, _, rfl⟩ := List.mem_map.mp hx
    obtain ⟨b, _, rfl⟩ := List.mem_map.mp hy
    simp [PySem.W.alike]
  · obtain ⟨a, _, rfl⟩ := List.mem_map.mp hx
    simp
  · have e2 : ns = [] := List.map_eq_nil_iff.mp e
    subst e2
    exact ⟨.int d, H, I.kept hk, ⟨t, rfl⟩, q⟩
  · cases ns with
    | nil => cases e
    | cons n ns =>
      injection e with e1 e2
      subst e1 e2
      rw [PySem.W.minD_ints] at hr
      cases hr with
      | int _ t' => exact ⟨.int (ns.foldl min n), H, I.kept hk, ⟨t', rfl⟩, q⟩
section
variable {K : PySem.W.Frag} {σ : L2.St} {H : Hp} {ta tb : TE}
theorem ev_minD {ns : List Int} {d : Int} (h : EvS K ta σ H (ns.map V.int)) (h2 : Ev tb σ H (.int d)) : Ev (tCKw (rMinD K) (tCons ta tNil) (tCons tb tNil)) σ H (.int (minOr ns d)) := fun H1 e Q q =>
  h H1 e _ fun p H2 e2 hp => h2 H2 (e.trans e2) _ fun H3 e3 => ⟨p, ns, d, rfl, rfl, ex_l e3 hp, q H3 (e2.trans e3)⟩
end
end WA

namespace WA
open PySem L2
/-! ### the signs of a row -/
def colsOf (T : Tb) (w i : Nat) : List Nat := (List.range w).filter fun c => gt T i c
def cntT (T : Tb) (i : Nat) : Nat := (T.getD i []).countP id
def cnts (T : Tb) : List Nat := T.map fun r => r.countP id
theorem mem_colsOf {T : Tb} {w i c : Nat} : c ∈ colsOf T w i ↔ c < w ∧ gt T i c = true := by
  unfold colsOf
  rw [List.mem_filter, List.mem_range]
theorem colsOf_nodup (T : Tb) (w i : Nat) : (colsOf T w i).Nodup := List.Pairwise.filter _ List.nodup_range
theorem cnt_cols {T : Tb} {w i : Nat} (hr : Rect T w) (hi : i < T.length) : cntT T i = (colsOf T w i).length := by
  have hl : (T.getD i []).length = w := hr _ (mem_row hi)
  unfold cntT colsOf
  rw [← List.countP_eq_length_filter]
  conv => lhs; rw [← row_ext hl]
  rw [List.countP_map]
  rfl
theorem cnts_at {T : Tb} {i : Nat} (hi : i < T.length) : (cnts T)[i]? = some (cntT T i) := by
  unfold cnts cntT
  rw [List.getElem?_map, row_at hi]; rfl
theorem cnts_len (T : Tb) : (cnts T).length = T.length := List.length_map _
theorem cntT_mem {T : Tb} {i : Nat} (hi : i < T.length) : cntT T i ∈ cnts T := List.mem_of_getElem? (cnts_at hi)
theorem count_rs (r : List Bool) : Txt.count (rs r) "x" = (r.countP id : Nat) := by
  have e : ("x" : Str) = ⟨#[120]⟩ := by decide +kernel
  rw [e, PyProof.Rows.count_cnt, rs_tl]
  induction r with
  | nil => rfl
  | cons b r ih =>
    rw [List.map_cons, PyProof.Rows.cnt_cons, ih, List.countP_cons]
    cases b
    · rw [if_neg (by decide)]; simp
    · rw [if_pos (by rfl)]; simp; omega
/-- columns that one has and the other has not -/
def onlyL (T : Tb) (w i j : Nat) : List Nat := (List.range w).filter fun c => gt T i c && !gt T j c
theorem mem_onlyL {T : Tb} {w i j c : Nat} : c ∈ onlyL T w i j ↔ c < w ∧ gt T i c = true ∧ gt T j c = false := by
  unfold onlyL
  rw [List.mem_filter, List.mem_range]
  simp
/-- rows in a chain -/
def Nested (T : Tb) (w : Nat) : Prop := ∀ i k, i < T.length → k < T.length → cntT T i ≤ cntT T k → ∀ c, c < w → gt T i c = true → gt T k c = true
theorem only_back {T : Tb} {w i j : Nat} (hr : Rect T w) (hi : i < T.length) (hj : j < T.length) (h : cntT T i ≤ cntT T j) (hm : onlyL T w i j ≠ []) : onlyL T w j i ≠ [] := fun hn => by
  obtain ⟨c, r, e⟩ := List.exists_cons_of_ne_nil hm
  have hc := mem_onlyL.mp (show c ∈ onlyL T w i j by rw [e]; exact List.mem_cons_self ..)
  have sub : ∀ d, d < w → gt T j d = true → gt T i d = true := fun d h1 h2 => by
    cases e2 : gt T i d with
    | true => rfl
    | false =>
      have : d ∈ onlyL T w j i := mem_onlyL.mpr ⟨h1, h2, e2⟩
      rw [hn] at this
      cases this
  have hnd : (colsOf T w j ++ [c]).Nodup := by
    rw [List.nodup_append]
    refine ⟨colsOf_nodup T w j, by simp, fun a ha b hb => ?_⟩
    rw [List.mem_singleton.mp hb]
    intro z
    rw [z] at ha
    have := (mem_colsOf.mp ha).2
    rw [hc.2.2] at this
    cases this
  have z := nodup_leA hnd (ns := colsOf T w i) fun k hk => by
    rcases List.mem_append.mp hk with hk | hk
    · have := mem_colsOf.mp hk
      exact mem_colsOf.mpr ⟨this.1, sub k this.1 this.2⟩
    · rw [List.mem_singleton.mp hk]
      exact mem_colsOf.mpr ⟨hc.1, hc.2.1⟩
  rw [List.length_append, List.length_singleton, ← cnt_cols hr hi, ← cnt_cols hr hj] at z
  omega
theorem sub_of_only {T : Tb} {w i j : Nat} (h : onlyL T w i j = []) : ∀ c, c < w → gt T i c = true → gt T j c = true := fun c h1 h2 => by
  cases e : gt T j c with
  | true => rfl
  | false =>
    have : c ∈ onlyL T w i j := mem_onlyL.mpr ⟨h1, h2, e⟩
    rw [h] at this
    cases this
/-- an order in which each row is in the next one -/
theorem nested_of {T : Tb} {w : Nat} {is : List Nat} (hr : Rect T w) (hp : is.Perm (List.range T.length)) (hs : is.Pairwise fun a b => cntT T a ≤ cntT T b)
    (h : ∀ (k a b : Nat), is[k]? = some a → is[k + 1]? = some b → onlyL T w a b = []) : Nested T w := by
  have chain : ∀ (d k a b : Nat), is[k]? = some a → is[k + d]? = some b → ∀ c, c < w → gt T a c = true → gt T b c = true := by
    intro d
    induction d with
    | zero =>
      intro k a b h1 h2 c hc hg
      rw [Nat.add_zero, h1] at h2
      cases h2
      exact hg
    | succ d ih =>
      intro k a b h1 h2 c hc hg
      have hlt : k + d < is.length := by
        have := (List.getElem?_eq_some_iff.mp h2).1
        omega
      have h3 := List.getElem?_eq_getElem hlt
      exact sub_of_only (h (k + d) _ b h3 h2) c hc (ih k a _ h1 h3 c hc hg)
  intro i k hi hk hle c hc hg
  have mi : i ∈ is := hp.mem_iff.mpr (List.mem_range.mpr hi)
  have mk : k ∈ is := hp.mem_iff.mpr (List.mem_range.mpr hk)
  obtain ⟨p, hpi⟩ := List.mem_iff_getElem?.mp mi
  obtain ⟨q, hqk⟩ := List.mem_iff_getElem?.mp mk
  by_cases hpq : p ≤ q
  · exact chain (q - p) p i k hpi (by rw [show p + (q - p) = q by omega]; exact hqk) c hc hg
  · have sub := chain (p - q) q k i hqk (by rw [show q + (p - q) = p by omega]; exact hpi)
    cases e : gt T k c with
    | true => rfl
    | false =>
      exfalso
      have hn : onlyL T w k i = [] := by
        refine List.eq_nil_iff_forall_not_mem.mpr fun d hd => ?_
        have := mem_onlyL.mp hd
        rw [sub d this.1 this.2.1] at this
        cases this.2.2
      have hm : onlyL T w i k ≠ [] := fun z => by
        have : c ∈ onlyL T w i k := mem_onlyL.mpr ⟨hc, hg, e⟩
        rw [z] at this
        cases this
      exact only_back hr hi hk hle hm hn
end WA

namespace WA
open PySem L2
/-! ### numbers of rows, of columns -/
def rowNum (T : Tb) (i : Nat) : Nat := lev (cnts T) (cntT T i)
def colNum (T : Tb) (c : Nat) : Int := minOr ((colOf T c).map fun i => (rowNum T i : Int)) (T.length : Nat) - 1
def colNums (T : Tb) (w : Nat) : List Int := (List.range w).map (colNum T)
theorem rowNum_at {T : Tb} {i : Nat} (h : i < T.length) : (levelsN (cnts T))[i]? = some (rowNum T i) := by
  unfold levelsN
  rw [List.getElem?_map, cnts_at h]; rfl
theorem col_iff {T : Tb} {w i c : Nat} (hn : Nested T w) (hi : i < T.length) (hc : c < w) : decide (colNum T c < (rowNum T i : Nat)) = gt T i c := by
  unfold colNum
  cases hg : gt T i c with
  | true =>
    have hm : (rowNum T i : Int) ∈ (colOf T c).map fun i => (rowNum T i : Int) := List.mem_map.mpr ⟨i, mem_colOf.mpr ⟨hi, hg⟩, rfl⟩
    have := minOr_le (d := ((T.length : Nat) : Int)) hm
    exact decide_eq_true (by omega)
  | false =>
    refine decide_eq_false fun hlt => ?_
    by_cases he : ((colOf T c).map fun i => (rowNum T i : Int)) = []
    · rw [he] at hlt
      have hb : rowNum T i < (cnts T).length := lev_bound (cntT_mem hi)
      rw [cnts_len] at hb
      have h2 : minOr [] ((T.length : Nat) : Int) = (T.length : Nat) := rfl
      rw [h2] at hlt
      omega
    · obtain ⟨k, hk, e⟩ := List.mem_map.mp (minOr_mem (d := ((T.length : Nat) : Int)) he)
      have hk' := mem_colOf.mp hk
      rw [← e] at hlt
      have hle : cntT T k ≤ cntT T i := by
        by_cases h3 : cntT T i < cntT T k
        · have h4 : rowNum T i < rowNum T k := lev_lt (cntT_mem hi) h3
          omega
        · omega
      rw [hn k i hk'.1 hi hle c hc hk'.2] at hg
      cases hg
theorem steps_of {T : Tb} (hr : Rect T (width T)) (hn : Nested T (width T)) : shown (.steps (intsOf (levelsN (cnts T))) (colNums T (width T))) T = true := by
  show stepsOk _ _ _ = true
  unfold stepsOk
  rw [decide_eq_true (show (intsOf (levelsN (cnts T))).length = T.length by rw [intsOf_len, levelsN_len, cnts_len]), decide_eq_true (show (colNums T (width T)).length = width T by unfold colNums; rw [List.length_map, List.length_range])]
  refine (rowsAre_iff (p := fun m => (colNums T (width T)).map fun t => decide (t < m))).mpr fun i row m h1 h2 => ?_
  have hi : i < T.length := (List.getElem?_eq_some_iff.mp h1).1
  have hlen : row.length = width T := hr row (List.mem_of_getElem? h1)
  have em : m = (rowNum T i : Nat) := by
    unfold intsOf at h2
    rw [List.getElem?_map, rowNum_at hi] at h2
    exact (Option.some.inj h2).symm
  rw [← row_ext hlen]
  unfold colNums
  rw [List.map_map]
  refine List.map_congr_left fun j hj => ?_
  have hj' := List.mem_range.mp hj
  have eg : row.getD j false = gt T i j := by
    unfold gt
    rw [List.getD_eq_getElem?_getD (l := T), h1]; rfl
  show decide (colNum T j < m) = row.getD j false
  rw [eg, em]
  exact col_iff hn hi hj'
end WA

namespace WA
open PySem PySem.Spec PyProof.Rows L2 Evl
/-! ### sorted(set(ns)), any number of them -/
theorem each_ints : ∀ {us : List Value} {ns : List Int}, IntsAre us ns → PySem.W.EachIs (fun v (b : Int) => ∃ t, v = .int b t) us ns
  | _, _, .nil => .nil
  | _, _, .cons n t r => by
    have := each_ints r
    exact .cons ⟨t, rfl⟩ this
theorem ints_each : ∀ {us : List Value} {ns : List Int}, PySem.W.EachIs (fun v (b : Int) => ∃ t, v = .int b t) us ns → IntsAre us ns
  | _, _, .nil => .nil
  | _, _, .cons ⟨t, e⟩ r => by
    have := ints_each r
    rw [e]
    exact .cons _ t this
/-- these are the members, from the least to the greatest -/
def Rises (S : Int → Bool) (n : Nat) (ns : List Int) : Prop := ns.length = n ∧ ns.Pairwise (· < ·) ∧ ∀ k, k ∈ ns ↔ S k = true
/-- a new list at p of the members in their order, and nothing else is changed -/
structure Told (S : Int → Bool) (n : Nat) (s : Shared) (p : Addr) (ns : List Int) (s' : Shared) : Prop where
  old : ∀ b o, s.heap.get? b = some o → s'.heap.get? b = some o
  new : s.heap.objs.size ≤ p
  gens : s'.gens = s.gens
  os : s'.os = s.os
  list : ∃ (out : Array Value) (c : Nat), s'.heap.get? p = some (seqObj "list" out c) ∧ IntsAre out.toList ns
  rises : Rises S n ns
/-- the values of the entries, as ints -/
theorem raw_ints {es : List (Int × Value)} (g : ∀ e ∈ es, ∃ k t, e.2 = Value.int k t) : ∀ {vs : List Value}, vs.Perm (es.map (·.2)) → IntsAre vs (vs.map Builtin.Re.reRawOf) := fun {vs} pm => by
  refine ints_of vs fun v hv => ?_
  rw [pm.mem_iff, List.mem_map] at hv
  obtain ⟨e, he, rfl⟩ := hv
  exact g e he
theorem sorted_lt {ns ms : List Int} (e : ns = ms.mergeSort fun a b : Int => decide (a ≤ b)) (nd : ms.Nodup) : ns.Perm ms ∧ ns.Pairwise (· < ·) := by
  have pm : ns.Perm ms := e ▸ List.mergeSort_perm ..
  have up : ns.Pairwise (· ≤ ·) := by
    rw [e]
    exact (List.pairwise_mergeSort (le := fun a b : Int => decide (a ≤ b)) (fun a b c h1 h2 => by simp at h1 h2 ⊢; omega) (fun a b => by simp; omega) ms).imp fun h => by simpa using h
  exact ⟨pm, lt_of_le_nodup ns up (pm.nodup_iff.mpr nd)⟩
section
variable {w : World} {P : Program} {A : Around} {s : Shared} {a : Addr} {E : Value → Shared → Prop}
/-- xs.sort(), xs a list of ints of any length -/
theorem sort_ints_at {vs : List Value} {ms : List Int} (ho : s.heap.get? a = some (seqObj "list" vs.toArray 0)) (hi : IntsAre vs ms) (hm : ms.length ≤ sizeLine) (hA : A.units + 9 < cLine) {Q : Value → Shared → Prop}
    (hQ : ∀ out, IntsAre out (ms.mergeSort fun a b : Int => decide (a ≤ b)) → Q .none { s with heap := sortedHeap s.heap a vs out.toArray }) : wpAny (model P w) A (call (.builtin "list.sort") [.ref a]) Q E s := by
  have each := each_ints hi
  refine PySem.W.list_sort_data (enc := PyData.int) (R := fun v (b : Int) => ∃ t, v = .int b t) ho each (each.mono fun v b ⟨t, e⟩ => ⟨[], e ▸ .int b t, by simp⟩) (PySem.W.AllAlike.of fun b b' => by simp [PySem.W.alike])
    (PySem.W.Sortable.others fun b => ⟨by simp, fun xs => by simp⟩) hm (fun b _ => by simp [PyData.depth]; omega) fun out _ r => ?_
  rw [show PySem.W.dataLe false PyData.int = fun a b : Int => decide (a ≤ b) from PySem.W.dataLe_int (β := Int) fun b => b] at r
  exact hQ out (ints_each r)
/-- sorted(x), x a set of ints -/
theorem sorted_setN {S : Int → Bool} {n : Nat} {Q : Value → Shared → Prop} (hh : A.handled = none) (hA : A.units + 10 < cLine) (hn1 : n ≤ 1000) (R : SetR w s.heap a S n) (hQ : ∀ p ns t, Told S n s p ns t → Q (.ref p) t) :
    wpAny (model P w) A (call (.builtin "sorted") [.ref a]) Q E s := by
  obtain ⟨ob, es, ep, ts, hob, hex, hda, eint, nd, mem, hb, fit, size, ris, led⟩ := R
  have toInts : ∀ e ∈ es.toList, ∃ k t, e.2 = Value.int k t := fun e he => let ⟨k, t, q, _⟩ := eint e he; ⟨k, t, q⟩
  refine Calls.call_function_entry kind_sorted plain_sorted entry_sorted (args_sorted1 (.ref a)) ?_
  show wpAny _ _ (checkCount "sorted" 1 1 _ >>= _) _ _ s
  refine wpAny_bind (wpAny_pure (wpAny_bind (collect_set (by simpa using hh) ⟨ob, hob, hex.1, hda⟩ fit hb ris led fun s1 vs old grown g1 o1 pm => ?_)))
  have len : vs.length = n := by
    have q := pm.length_eq
    rw [List.length_map] at q
    exact q.trans ((Array.length_toList ..).trans size)
  have keys : (vs.map Builtin.Re.reRawOf).Perm (es.toList.map keyOf) := (pm.map Builtin.Re.reRawOf).trans (by rw [List.map_map]; exact .refl _)
  have small : ∀ m : Nat, m = n → m ≤ sizeLine := fun m e => by rw [sizeLine_eq]; omega
  refine wpAny_bind (wpAny_newList (items := vs) (wpAny_bind (wpAny_holding (sort_ints_at (vs := vs) (Heap.get?_push_size _ rfl) (raw_ints toInts pm) (small _ (by rw [List.length_map]; exact len)) (by show A.units + 1 + 9 < cLine; omega) fun out io => ?_))) (small _ len))
  obtain ⟨c, hc⟩ := sortedHeap_at (vs := vs) (out := out.toArray) (h := s1.heap.push (seqObj "list" vs.toArray 0)) (a := s1.heap.objs.size) (n := 0) (Heap.get?_push_size _ rfl)
  obtain ⟨pn, up⟩ := sorted_lt (ns := (vs.map Builtin.Re.reRawOf).mergeSort fun a b : Int => decide (a ≤ b)) rfl (keys.nodup_iff.mpr nd)
  have all := pn.trans keys
  refine wpAny_pure ⟨_, rfl, hQ s1.heap.objs.size _ _ ⟨fun b o e => ?_, grown, g1, o1, ⟨out.toArray, c, hc, by simpa using io⟩, ?_, up, fun k => by rw [all.mem_iff, ← mem k]⟩⟩
  · have e1 := old b o e
    have lt := Heap.lt_size e1
    exact (sortedHeap_old (Nat.ne_of_lt lt) (by rw [size_push']; exact Nat.lt_succ_of_lt lt)).trans (Heap.get?_push_of_some _ e1)
  · have q := pn.length_eq
    rw [List.length_map, len] at q
    exact q
end
/-- the list stands among the lists -/
theorem Told.inv {X : Cx} {pins : List (Addr × Obj)} {σ : L2.St} {H : Hp} {s s' : Shared} {S : Int → Bool} {n : Nat} {p : Addr} {ns : List Int} (T : Told S n s p ns s') (I : Inv X pins σ H s) (hz : n ≤ 1000) :
    H p = none ∧ Inv X pins σ (upd H p (.lst (ns.map V.int))) s' := by
  obtain ⟨old, new, hg, hos, ⟨out, c, at1, hi⟩, len, _, _⟩ := T
  have free := I.hok.fresh new
  obtain ⟨h1, g1, d1, t1, o1⟩ := s'
  cases hos
  have hg : g1 = s.gens := hg
  have ok := I.hok.laid old new (o := .lst (ns.map V.int)) ⟨by rw [List.length_map, len, sizeLine_eq]; omega, _, c, vals_of_ints hi, at1⟩
  exact ⟨free, I.call (ch := []) (Un.laid old new free) ok (by rw [hg]; exact I.bare) fun _ z => nomatch z⟩
def rSortedSetN (w : World) : List V → Hp → VK → Prop := fun vs H Q => ∃ (n : Nat) (S : Int → Bool) (a : Addr), n ≤ 1000 ∧ H a = some (SetO w a S n) ∧ vs = [V.ref a] ∧ ∀ p ns, H p = none → Rises S n ns → Q (.ref p) (upd H p (.lst (ns.map V.int)))
theorem cr_sortedSetN {X : Cx} (hu : X.A.units + 10 < cLine) (hc : X.calm = true) : CallR X (.builtin "sorted") (rSortedSetN X.w) := by
  intro pins s σ H vs us Q I r ⟨n, S, a, hz, ha, ex, q⟩
  subst ex
  rw [Vals.ref1 r]
  refine sorted_setN (I.ok.hd hc) hu hz (setO_get I ha) fun p ns t T => ?_
  obtain ⟨free, J⟩ := T.inv I hz
  exact ⟨.ref p, _, J, rfl, q p ns free T.rises⟩
section
variable {K : PySem.W.Frag} {w : World} {σ : L2.St} {H : Hp} {te : TE}
theorem elp_sortedSetN {ns : List Int} (h : EvS K te σ H (ns.map V.int)) (hz : ns.length ≤ 1000) : EvLP (tCB (rSortedSetN w) (tCons (tCB (rSetI K w) (tCons te tNil)) tNil)) σ H (fun xs => ∃ ks, xs = ks.map V.int ∧ Sorted0 ns ks) := fun H1 e Q q =>
  h H1 e _ fun p H2 e2 hp => ⟨p, ns, rfl, hp, by omega, fun l ks hl hk => ⟨_, _, l, by have := hk.le; omega, upd_same, rfl, fun p' ms hn rs =>
    q _ p' _ ⟨ms, rfl, rs.2.1, fun k => by rw [rs.2.2 k, decide_eq_true_eq]⟩ (fresh_back (e2.trans (Ex.new hl)) hn) ((e2.trans (Ex.new hl)).trans (Ex.new hn)) upd_same⟩⟩
end
end WA

namespace WA
open PySem PySem.Spec PyProof.Rows L2 Evl
theorem room10 {k : Nat} {A : Around} (hr : Room k A) : A.units + 10 < cLine := by have := hr.un; omega
theorem room1 {k : Nat} {A : Around} (hr : Room k A) : A.units + 1 < cLine := by have := hr.un; omega
section
variable {K : PySem.W.Frag} {σ : L2.St} {H H' H0 : Hp} {ta tb te tx : TE} {t u : TT} {x y z v : V} {D : Ends} {tu tw tz : TS} {g : TG} {xs ys : List V} {ts : TA} {sp : Sp} {E : XK} {dvs : List V}
/-- a.count("x") -/
theorem ev_countS {r : List Bool} (h : Ev te σ H (.str (rs r))) : Ev (tM1 rCountS te (tC (.str "x"))) σ H (.int (r.countP id : Nat)) := fun H1 e Q q =>
  h H1 e _ fun H2 e2 => ⟨⟨_, rfl⟩, rs r, "x", rfl, rfl, by rw [count_rs]; exact q H2 e2⟩
/-- i, j = two new lists -/
theorem q_parLL {i j : Nat} (ha : EvL ta σ H xs) (hb : EvL tb σ H ys) (k : ∀ p q H1, Ex H H1 → H1 p = some (.lst xs) → H1 q = some (.lst ys) → tz D ((σ.set i (some (.ref p))).set j (some (.ref q))) H1) : tSeq (tPar i j (tCons ta (tCons tb tNil))) tz D σ H :=
  ha H (Ex.refl H) _ fun p H1 hp e1 h1 => hb H1 e1 _ fun q H2 hq e2 h2 => ⟨.ref p, .ref q, rfl, k p q H2 (e1.trans e2) (e2 _ _ h1) h2⟩
/-- over range(1, n), nothing is changed -/
theorem q_forRA {j n : Nat} {tn : TE} (h : Ev tn σ H (.int (n : Nat))) (hn : n ≤ 1000) (Pv : Nat → L2.St → Prop) (h0 : Pv 0 σ)
    (hs : ∀ k σ' H', k + 1 < n → Ex H H' → Pv k σ' → ∀ D' : Ends, D'.rt = D.rt → D'.bk = tz D → (∀ σ2 H2, Ex H' H2 → Pv (k + 1) σ2 → D'.nx σ2 H2) → tu D' (σ'.set j (some (.int ((k + 1 : Nat) : Int)))) H') (hd : ∀ σ' H', Ex H H' → Pv (n - 1) σ' → tz D σ' H') :
    tSeq (tFor (iRng2 (tCons (tC (.int 1)) (tCons tn tNil))) (gName j) tu) tz D σ H :=
  q_forR2 (lo := 1) (n := (n : Nat)) (ea_cons ev_c (ea_cons h ea_nil)) (by omega) (fun k σ' H' => Ex H H' ∧ Pv k σ') (fun H1 e1 => ⟨e1, h0⟩) (fun k σ' H' hk pv => by
    have z := hs k σ' H' (by omega) pv.1 pv.2 { D with nx := fun σ' H' => Ex H H' ∧ Pv (k + 1) σ', ct := fun σ' H' => Ex H H' ∧ Pv (k + 1) σ', bk := tz D } rfl rfl fun σ2 H2 e2 p2 => ⟨pv.1.trans e2, p2⟩
    have e : (((k + 1 : Nat) : Nat) : Int) = 1 + (k : Int) := by omega
    rw [e] at z
    exact z) fun σ' H' pv => hd σ' H' pv.1 (by
    have e : (((n : Nat) : Int) - 1).toNat = n - 1 := by omega
    rw [e] at pv
    exact pv.2)
end
section
variable {TT : List (Addr × Str)} {K : PySem.W.Frag} {σ : L2.St} {H : Hp} {te tn : TE} {D : Ends} {tz : TS}
/-- order = sorted(range(n), key=lambda ..) -/
theorem q_sortN {i j n : Nat} {f : Nat → Nat} (hT : LamX.Tabs TT H) (h : Ev tn σ H (.int (n : Nat))) (hn : n ≤ 1000) (hk : ∀ i, i < n → ∀ H1, Xn TT H H1 → Ev te (σ.set j (some (.int (i : Nat)))) H1 (.int (f i : Nat)))
    (q : ∀ (is : List Nat) (p : Addr) H0 H2, is.Perm (List.range n) → is.Pairwise (fun a b => f a ≤ f b) → Xn TT H H0 → H0 p = none → Ex H0 H2 → H2 p = some (.lst (nv is)) → tz D (σ.set i (some (.ref p))) H2) : tSeq (tAsg (tSortL TT j (tRng tn) te) (gName i)) tz D σ H :=
  sortN (Q := fun v H' => tz D (σ.set i (some v)) H') hT h hn hk q
end
theorem sq_ax {K : PySem.W.Frag} {H H' : Hp} {x p C dx : Addr} {fs : List (Str × V)} {xs : List V} (e : Ax x H H') (hx : H x = some (.ins C dx fs)) (h : SqL K H p xs) : SqL K H' p xs := by
  rcases h with (h | ⟨o, h⟩) | h
  · exact .inl (.inl (e p _ (fun z => by rw [z, hx] at h; cases h) h))
  · exact .inl (.inr ⟨o, e p _ (fun z => by rw [z, hx] at h; cases h) h⟩)
  · exact .inr h
theorem At.nrm {K : PySem.W.Frag} {H : Hp} {a : Addr} {T : Tb} {w : Nat} (h : At K H a T w) : At K H a T (width T) := by
  by_cases hn : T = []
  · subst hn
    exact ⟨h.sq, fun r hr => (by cases hr), h.ln, Nat.zero_le _⟩
  · rw [width_at h hn]; exact h
/-- a table -/
def preAt (K : PySem.W.Frag) (vs : List V) (H : Hp) (T : Tb) : Prop := ∃ a, vs = [.ref a] ∧ At K H a T (width T)
theorem inW_of {T : Tb} {c : Nat} (h : c < width T) : inW T (c : Nat) = true := by
  unfold inW
  rw [decide_eq_true (by omega), decide_eq_true (by omega)]; rfl
theorem nv_ne (l : List Nat) : nv l ≠ [] ↔ l ≠ [] := by
  unfold nv
  exact not_congr List.map_eq_nil_iff
theorem intsOf_nil (l : List Nat) : decide (intsOf l = []) = decide (l = []) := by
  unfold intsOf
  exact decide_eq_decide.mpr List.map_eq_nil_iff
theorem cross_shown {T : Tb} {i j c d : Nat} (hi : i < T.length) (hj : j < T.length) (hc : c ∈ onlyL T (width T) i j) (hd : d ∈ onlyL T (width T) j i) : shown (.cross (i : Nat) (c : Nat) (j : Nat) (d : Nat)) T = true := by
  have h1 := mem_onlyL.mp hc
  have h2 := mem_onlyL.mp hd
  simp only [shown, gi_nat]
  rw [inT_of hi, inT_of hj, inW_of h1.1, inW_of h2.1, h1.2.1, h1.2.2, h2.2.1, h2.2.2]; rfl
end WA

namespace WA
open PySem PySem.Spec PyProof.Rows L2 Evl LamX
section
variable {TT : List (Addr × Str)} {K : PySem.W.Frag} {σ : L2.St} {H H' H0 : Hp} {ta tb te tx : TE} {t u : L2.TT} {x y z v : V} {D : Ends} {tu tw tz : TS} {g : TG} {xs ys : List V} {ts : TA} {sp : Sp} {E : XK} {dvs : List V}
/-- i = [list, value] -/
theorem s_asg2 {i : Nat} (ha : EvM ta σ H xs) (hb : Ev tb σ H y) (k : ∀ q p H1, Ex H H1 → H1 q = some (.lst [.ref p, y]) → H1 p = some (.lst xs) → D.nx (σ.set i (some (.ref q))) H1) : tAsg (tLst (tCons ta (tCons tb tNil))) (gName i) D σ H :=
  ha H (Ex.refl H) _ fun p H1 e1 h1 => hb H1 e1 _ fun H2 e2 => ⟨sz_of (show 2 ≤ 100000 by decide), fun q hq => k q p _ ((e1.trans e2).trans (Ex.new hq)) upd_same (Ex.new hq _ _ (e2 _ _ h1))⟩
/-- a good table: few rows, few columns -/
def GoodT (T : Tb) : Prop := ∃ w, Rect T w ∧ T.length ≤ 64 ∧ w ≤ 64
theorem GoodT.at {T : Tb} {a : Addr} (h : GoodT T) (hp : SqL K H a (tv T)) : At K H a T (width T) ∧ T.length ≤ 64 ∧ width T ≤ 64 := by
  obtain ⟨w, h1, h2, h3⟩ := h
  have z : At K H a T w := ⟨hp, h1, by omega, by omega⟩
  refine ⟨z.nrm, h2, ?_⟩
  by_cases hn : T = []
  · subst hn; exact Nat.zero_le _
  · rw [width_at z hn]; exact h3
theorem avs_tabs : ∀ {Ts : List Tb} {vs : List V}, AvsAre K H (Ts.map fun T => Av.s (tv T)) vs → vs.length = Ts.length ∧ ∀ (i : Nat) x, vs[i]? = some x → ∃ T ∈ Ts, ∃ a, x = .ref a ∧ SqL K H a (tv T)
  | [], vs, h => by
    have h : vs = [] := h
    subst h
    exact ⟨rfl, fun i x hx => by simp at hx⟩
  | T :: Ts, vs, h => by
    obtain ⟨p, ws, rfl, hp, hr⟩ := h
    obtain ⟨h1, h2⟩ := avs_tabs hr
    refine ⟨by rw [List.length_cons, List.length_cons, h1], fun i x hx => ?_⟩
    cases i with
    | zero =>
      cases hx
      exact ⟨T, List.mem_cons_self .., p, rfl, hp⟩
    | succ i =>
      obtain ⟨T', hm, a, e, hs⟩ := h2 i x (by simpa using hx)
      exact ⟨T', List.mem_cons_of_mem _ hm, a, e, hs⟩
/-- over a display of tables; tables of code grow -/
theorem q_forTabsN {Ts : List Tb} {j : Nat} (h : EvAv K ts σ H (Ts.map fun T => Av.s (tv T))) (hz : Ts.length ≤ 1000) (Pv : L2.St → Prop) (h0 : Pv σ)
    (hs : ∀ T x σ' H', T ∈ Ts → Xn TT H H' → SqL K H' x (tv T) → Pv σ' → ∀ D' : Ends, D'.rt = D.rt → (∀ σ2 H2, Xn TT H' H2 → Pv σ2 → D'.nx σ2 H2) → tu D' (σ'.set j (some (.ref x))) H')
    (hd : ∀ σ' H', Xn TT H H' → Pv σ' → tz D σ' H') : tSeq (tFor (iList K (tLst ts)) (gName j) tu) tz D σ H :=
  h H (Ex.refl H) _ fun vs H1 e1 hv => by
    obtain ⟨hl, hx⟩ := avs_tabs hv
    refine ⟨sz_of (by omega), fun p hp => ⟨p, rfl, ⟨vs, sq_of upd_same⟩, ?_⟩⟩
    have e2 : Ex H1 (upd H1 p (.lst vs)) := Ex.new hp
    refine for_list (D := { D with nx := tz D }) (fun _ σ' H' => Xn TT (upd H1 p (.lst vs)) H' ∧ Pv σ') ⟨Xn.refl _, h0⟩ (fun i σ' H' _ q => sq_of (xn_lst q.1 upd_same)) (fun i x σ' H' hi q => ?_) fun σ' H' q => hd σ' H' ((xn_of (e1.trans e2)).trans q.1) q.2
    obtain ⟨T, hT, a, rfl, hs'⟩ := hx i x hi
    exact hs T a σ' H' hT ((xn_of (e1.trans e2)).trans q.1) (xn_l q.1 (ex_l e2 hs')) q.2 _ rfl fun σ2 H2 x2 pv => ⟨q.1.trans x2, pv⟩
end
theorem cross_law (T : Tb) (i j k l : Int) : ((lawHas T i j && lawHas T k l) && (lawHasnt T i l && lawHasnt T k j)) = shown (.cross i j k l) T := by
  simp only [shown, lawHas, lawHasnt]
  cases inT T i <;> cases inT T k <;> cases inW T j <;> cases inW T l <;> cases gi T i j <;> cases gi T k l <;> cases gi T i l <;> cases gi T k j <;> rfl
theorem step0 : ∀ n, n < 64 → 0 < n → (sliceRange (sliceBounds none none (some 2) n).1 (sliceBounds none none (some 2) n).2.1 (sliceBounds none none (some 2) n).2.2).contains 0 = true := by decide +kernel
theorem pick_ne {ns : List Int} (hz : ns.length < 64) (h : pick ns (some 1) none (some 2) ≠ []) : pick ns none none (some 2) ≠ [] := fun z => by
  obtain ⟨x, r, e⟩ := List.exists_cons_of_ne_nil h
  have hm : x ∈ ns := pick_mem (show x ∈ pick ns (some 1) none (some 2) by rw [e]; exact List.mem_cons_self ..)
  have hp := List.length_pos_of_mem hm
  have h0 := step0 ns.length hz hp
  have hin : ns[0] ∈ pick ns none none (some 2) := by
    unfold pick
    refine List.mem_filterMap.mpr ⟨0, by simpa using h0, ?_⟩
    rw [List.getElem?_eq_getElem hp]
  rw [z] at hin
  cases hin
end WA

namespace WA
open PySem PySem.Spec PyProof.Rows L2 Evl
/-! ### len(set(xs)), xs a list of texts -/
theorem diff_snoc {α : Type} [DecidableEq α] (l : List α) (k : α) : diff (l ++ [k]) = if k ∈ l then diff l else diff l + 1 := by
  by_cases h : k ∈ l
  · rw [if_pos h]
    exact (diff_of (uniq_nodup l) fun x => by
      rw [mem_uniq, List.mem_append, List.mem_singleton]
      exact ⟨.inl, fun z => z.elim id fun z => z ▸ h⟩).symm
  · rw [if_neg h]
    have nd : (uniq l ++ [k]).Nodup := by
      rw [List.nodup_append]
      refine ⟨uniq_nodup l, by simp, fun a ha b hb => ?_⟩
      rw [List.mem_singleton.mp hb]
      intro z
      exact h (by rw [← z]; exact mem_uniq.mp ha)
    have z := diff_of nd (l := l ++ [k]) fun x => by rw [List.mem_append, List.mem_append, mem_uniq]
    rw [← z, List.length_append]
    rfl
/-- behind the first i texts -/
def Mid (P : Program) (w : World) (ns : List Str) (a : Addr) (i : Nat) (h : Heap) : Prop := h.SetOf (strKind P w) a (fun j => decide (j ∈ ns.take i)) (diff (ns.take i))
theorem Mid.keep {P : Program} {w : World} {ns : List Str} {a : Addr} {i : Nat} {h h' : Heap} (m : Mid P w ns a i h) (k : ∀ o, h.get? a = some o → h'.get? a = some o) : Mid P w ns a i h' :=
  match m with
  | ⟨o, es, ep, t, ho, r⟩ => ⟨o, es, ep, t, k o ho, r⟩
theorem Mid.next {P : Program} {w : World} {ns : List Str} {a : Addr} {i : Nat} {h : Heap} {z : Str} (hz : ns[i]? = some z)
    (r : h.SetOf (strKind P w) a (fun j => decide (j ∈ ns.take i) || decide (j = z)) (if decide (z ∈ ns.take i) = true then diff (ns.take i) else diff (ns.take i) + 1)) : Mid P w ns a (i + 1) h := by
  have e1 : ns.take (i + 1) = ns.take i ++ [z] := by rw [List.take_add_one, hz]; rfl
  unfold Mid
  rw [e1, diff_snoc]
  exact SetOf_congr r (fun x => by simp) (by simp)
section
variable {w : World} {P : Program} {A : Around}
/-- one turn of the loop that fills a set -/
theorem fill_turn {a it : Addr} {t : Shared} {R : Result → Shared → Prop}
    (h : wpAny (model P w) A.in1 (pyNext (.ref it)) (fun o t1 => match o with
      | none => R (.ok (.ret .none)) t1
      | some x => wpAny (model P w) A.in1 (setAdd a x) (fun _ t2 => codeAny (model P w) A (.builtin "set.update.loop" ⟨[.ref a, .ref it], []⟩) R t2) (fun e t2 => R (.error e) t2) t1) (fun e t1 => R (.error e) t1) t) :
    codeAny (model P w) A (.builtin "set.update.loop" ⟨[.ref a, .ref it], []⟩) R t := by
  have ea := Around.under_plainId (A := A) F.plain_set_update_loop ⟨[.ref a, .ref it], []⟩
  refine codeAny_builtin F.entry_set_update_loop (ea ▸ wpAny_bind (wpAny_mono h (fun o t1 q => ?_) fun e t1 q => q))
  cases o with
  | none => exact wpAny_pure q
  | some x => exact wpAny_bind (wpAny_holding (wpAny_mono q (fun _ t2 r => wpAny_pure ⟨plainId_quiet F.plain_set_update_loop _, r⟩) fun e t2 r => r))
theorem moved_add {a it : Addr} {t t1 : Shared} {h' : Heap} (m : Moved [it] (fun g g' => g' = g) t t1) (sb : Heap.SameBut a t1.heap h') : Moved [a, it] (fun g g' => g' = g) t { t1 with heap := h', toks := t1.toks + 1 } where
  heap := fun b o hb e => (sb.2 b fun z => hb (by simp [z])).trans (m.heap b o (fun z => hb (by simp [List.mem_singleton.mp z])) e)
  gens := m.gens
  drawn := m.drawn
  os := m.os
  toks := Nat.le_succ_of_le m.toks
theorem fill_strs {l a it : Addr} {its : Array Value} {ns : List Str} (hh : A.handled = none) (hit : l ≠ it) (ha : a ∉ [it, l]) (hsz : its.size = ns.length) (val : ∀ (i : Nat) (v : Value), its[i]? = some v → ∃ k t, ns[i]? = some k ∧ v = .str k t)
    (hb : ns.length + 1 < scanBound) {R : Result → Shared → Prop} : ∀ (m i : Nat) (t : Shared), i + m = its.size → t.heap.IsListIter it l i → t.heap.IsList l its → Mid P w ns a i t.heap →
      (∀ t', Moved [a, it] (fun g g' => g' = g) t t' → Mid P w ns a its.size t'.heap → R (.ok (.ret .none)) t') → codeAny (model P w) A (.builtin "set.update.loop" ⟨[.ref a, .ref it], []⟩) R t
  | 0, i, t, e, h1, h2, mid, hR => by
    have W := (Walks.list (prog := P) (w := w) (A := A.in1) (by simp [hh]) it l hit its).toS
    have e : i = its.size := e
    subst e
    exact fill_turn (W.done t _ _ ⟨h1, h2⟩ fun t1 m => hR t1 (m.mono fun b hb => by simp [List.mem_singleton.mp hb]) (mid.keep fun o eo => m.heap a o (fun z => ha (by simp [List.mem_singleton.mp z])) eo))
  | m + 1, i, t, e, h1, h2, mid, hR => by
    have W := (Walks.list (prog := P) (w := w) (A := A.in1) (by simp [hh]) it l hit its).toS
    refine fill_turn (W.item i t _ _ (by omega) ⟨h1, h2⟩ fun v t1 pv st mv => ?_)
    obtain ⟨z, tk, hz, rfl⟩ := val i v pv
    have mid1 : Mid P w ns a i t1.heap := mid.keep fun o eo => mv.heap a o (fun q => ha (by simp [List.mem_singleton.mp q])) eo
    have few : diff (ns.take i) + 1 < scanBound := by
      have := diff_le (ns.take i)
      rw [List.length_take] at this
      omega
    have add : wpAny (model P w) A.in1 (setAddHashed a (.str z tk) ((strKind P w).hash z)) (fun _ t2 => codeAny (model P w) A (.builtin "set.update.loop" ⟨[.ref a, .ref it], []⟩) R t2) (fun e t2 => R (.error e) t2) { t1 with toks := t1.toks + 1 } :=
      wpAny_setAddHashed_of (knd := strKind P w) (strKind_is _ _ _ _) rfl mid1 few fun h' sb r =>
        fill_strs hh hit ha hsz val hb m (i + 1) _ (by omega) (st.1.at fun o eo => (sb.2 it fun q => ha (by simp [q])).trans eo) (st.2.at fun o eo => (sb.2 l fun q => ha (by simp [q])).trans eo) (Mid.next hz r)
          fun t' m' full => hR t' (Moved.trans (fun _ _ _ q q' => q'.trans q) (moved_add mv sb) m') full
    exact wpAny_holding (wpAny_bind ((strKind P w).pyHash (k := z) (strKind_is _ _ _ _) add))
theorem fills_strs {l : Addr} {its : Array Value} {ns : List Str} (hsz : its.size = ns.length) (val : ∀ (i : Nat) (v : Value), its[i]? = some v → ∃ k t, ns[i]? = some k ∧ v = .str k t) (hb : ns.length + 1 < scanBound) :
    Fills P w l its (SizeAt (diff ns)) := fun A a it t R hh hit ha h0 h1 h2 hR =>
  fill_strs hh hit ha hsz val hb its.size 0 t (Nat.zero_add _) h1 h2 ⟨_, #[], 0, _, h0, ⟨rfl, rfl, rfl⟩, rfl, fun e he => by simp at he, fun k => by simp, by decide, by rfl, by show (0 : Nat) = diff (ns.take 0); rw [List.take_zero]; rfl⟩
    fun t' m ⟨o, es, ep, ts, ho, hex, hd, _, _, _, hf, hn⟩ => hR t' m ⟨o, es, ep, ts, ho, hex, hd, hf, by rw [hn, hsz, List.take_length]⟩
end
theorem HasSet.strs {X : Cx} {H : Hp} {l : Addr} {ns : List Str} (h : SqL X.K H l (ns.map V.str)) (hz : ns.length ≤ 1000) : HasSet X H l (diff ns) := fun {pins σ s} I => by
  obtain ⟨its, r, pl, _⟩ := I.list h
  have hlen : its.length = ns.length := by rw [← r.length, List.length_map]
  refine ⟨_, pl.isList, fills_strs (by rw [List.size_toArray]; exact hlen) (fun i v hv => ?_) (by have : 1000 + 1 < scanBound := (by decide); omega)⟩
  have hv' : its[i]? = some v := by simpa using hv
  have hin : i < ns.length := by rw [← hlen]; exact (List.getElem?_eq_some_iff.mp hv').1
  obtain ⟨u, hu, ru⟩ := r.get (show (ns.map V.str)[i]? = some (V.str ns[i]) by rw [List.getElem?_map, List.getElem?_eq_getElem hin]; rfl)
  rw [hv'] at hu
  cases hu
  obtain ⟨t, rfl⟩ := ru
  exact ⟨ns[i], t, List.getElem?_eq_getElem hin, rfl⟩
def tLenSS (K : PySem.W.Frag) (ta : TE) : TE := fun σ H Q => ta σ H fun x H1 => ∃ (l : Addr) (ns : List Str), x = .ref l ∧ SqL K H1 l (ns.map V.str) ∧ ns.length ≤ 1000 ∧ Q (.int (diff ns : Nat)) H1
theorem pe_lenSS {X : Cx} {a : Expr} {ta : TE} {p p2 q pos : Pos} (hg : Gl X "len") (hm : X.mg "len" = none) (hg2 : Gl X "set") (hm2 : X.mg "set" = none) (ha : PE X a ta)
    (hc : X.calm = true := by rfl) (na : starEach [a] X.env = (false, eval a X.env) :: starEach [] X.env := by rfl) : PE X (.Call (.Name "len" p) [.Call (.Name "set" p2) [a] [] q] [] pos) (tLenSS X.K ta) :=
  pe_lenNew hg hm hg2 hm2 ha hc na fun Q x H ⟨l, ns, e, hq, hl, q1⟩ => ⟨l, _, e, HasSet.strs hq hl, Nat.le_trans (diff_le ns) hl, q1⟩
/-! ### tuple(xs), a dict of tuples -/
def rTupOf (K : PySem.W.Frag) : List V → Hp → VK → Prop := fun xs H Q => ∃ p ys, xs = [.ref p] ∧ ((SqL K H p ys ∧ ∀ l, H l = none → Q (.ref l) (upd H l (.tup ys))) ∨ (SqT K H p ys ∧ Q (.ref p) H))
theorem cl_tuple {X : Cx} : CallR X (.type "tuple") (rTupOf X.K) := call_tuple_of
section
variable {K : PySem.W.Frag} {σ : L2.St} {H : Hp} {te : TE} {xs : List V}
theorem ev_lenSetS {ns : List Str} (h : EvS K te σ H (ns.map V.str)) (hz : ns.length ≤ 1000) : Ev (tLenSS K te) σ H (.int (diff ns : Nat)) := fun H1 e Q q => h H1 e _ fun p H2 e2 hp => ⟨p, ns, rfl, hp, hz, q H2 e2⟩
theorem eu_tupOf (h : EvS K te σ H xs) : EvU (tCB (rTupOf K) (tCons te tNil)) σ H xs := fun H1 e Q q =>
  h H1 e _ fun p H2 e2 hp => ⟨p, xs, rfl, .inl ⟨hp, fun l hl => q l _ (fresh_back e2 hl) (e2.trans (Ex.new hl)) upd_same⟩⟩
end
end WA

namespace WA
open PySem PySem.Spec PyProof.Rows L2 Evl
/-! ### a dict of tuples -/
def keyN (l : List Nat) : List L2.Key := l.map fun i : Nat => (Sum.inl ((i : Nat) : Int) : L2.Key)
theorem keyN_kV (l : List Nat) : (keyN l).map kV = nv l := by
  unfold keyN nv
  rw [List.map_map]; rfl
theorem keyN_inj {l m : List Nat} (h : keyN l = keyN m) : l = m := by
  have e : ∀ l : List Nat, (keyN l).map (fun k => match k with | .inl i => i.toNat | .inr _ => 0) = l := fun l => by
    unfold keyN
    rw [List.map_map]
    exact (List.map_congr_left fun a _ => Int.toNat_natCast a).trans (List.map_id l)
  rw [← e l, h, e m]
theorem keys_in {kvs : List (List L2.Key × V)} {k : List L2.Key} {v : V} (hm : k ∈ kvs.map (·.1)) : (putK kvs k v).map (·.1) = kvs.map (·.1) := by
  unfold putK
  have h : (kvs.any fun kv => decide (kv.1 = k)) = true := by
    obtain ⟨p, hp, e⟩ := List.mem_map.mp hm
    exact List.any_eq_true.mpr ⟨p, hp, by simpa using e⟩
  rw [if_pos h, List.map_map]
  refine List.map_congr_left fun p hp => ?_
  show (if p.1 = k then (p.1, v) else p).1 = p.1
  by_cases e : p.1 = k
  · rw [if_pos e]
  · rw [if_neg e]
theorem keys_out {kvs : List (List L2.Key × V)} {k : List L2.Key} {v : V} (hm : ¬ k ∈ kvs.map (·.1)) : (putK kvs k v).map (·.1) = kvs.map (·.1) ++ [k] := by
  unfold putK
  have h : ¬ (kvs.any fun kv => decide (kv.1 = k)) = true := fun h => by
    obtain ⟨p, hp, e⟩ := List.any_eq_true.mp h
    exact hm (List.mem_map.mpr ⟨p, hp, by simpa using e⟩)
  rw [if_neg h, List.map_append]; rfl
/-- the keys so far -/
def KeysAre (kvs : List (List L2.Key × V)) (ks : List (List L2.Key)) : Prop := (kvs.map (·.1)).Nodup ∧ ∀ k, k ∈ kvs.map (·.1) ↔ k ∈ ks
theorem KeysAre.nil : KeysAre [] [] := ⟨List.nodup_nil, fun k => Iff.rfl⟩
theorem KeysAre.put {kvs : List (List L2.Key × V)} {ks : List (List L2.Key)} {k : List L2.Key} {v : V} (h : KeysAre kvs ks) : KeysAre (putK kvs k v) (ks ++ [k]) := by
  unfold KeysAre
  by_cases hm : k ∈ kvs.map (·.1)
  · rw [keys_in hm]
    refine ⟨h.1, fun x => ?_⟩
    rw [h.2 x, List.mem_append, List.mem_singleton]
    exact ⟨.inl, fun z => z.elim id fun z => by rw [z]; exact (h.2 k).mp hm⟩
  · rw [keys_out hm]
    refine ⟨?_, fun x => by rw [List.mem_append, List.mem_append, h.2 x]⟩
    rw [List.nodup_append]
    refine ⟨h.1, by simp, fun a ha b hb => ?_⟩
    rw [List.mem_singleton.mp hb]
    intro z
    exact hm (by rw [← z]; exact ha)
theorem KeysAre.len {kvs : List (List L2.Key × V)} {ks : List (List L2.Key)} (h : KeysAre kvs ks) : kvs.length = diff ks := by
  have z := diff_of h.1 h.2
  rw [List.length_map] at z
  exact z
section
variable {K : PySem.W.Frag} {σ : L2.St} {H H' H0 : Hp} {ta tb te tx td : TE} {v : V} {D : Ends} {tz : TS} {ys : List V}
theorem s_dput {d : Addr} {kvs : List (List L2.Key × V)} {k : List L2.Key} (hv : Ev te σ H v) (hd : Ev td σ H (.ref d)) (hk : EvU tx σ H (k.map kV)) (he : H d = some (.dT kvs)) (hl : kvs.length ≤ 1000) (q : ∀ H1, Ex H H1 → D.nx σ (upd H1 d (.dT (putK kvs k v)))) :
    sDPut td tx te D σ H := hv H (Ex.refl H) _ fun H1 e1 => hd H1 e1 _ fun H2 e2 => hk H2 (e1.trans e2) _ fun b H3 _ e3 hb => ⟨d, _, rfl, DPut.t (((e1.trans e2).trans e3) _ _ he) hb (by rw [sizeLine_eq]; omega), q H3 ((e1.trans e2).trans e3)⟩
theorem ev_lenD {d : Addr} {kvs : List (List L2.Key × V)} (h : Ev te σ H (.ref d)) (he : H d = some (.dT kvs)) : Ev (tCB rLenT (tCons te tNil)) σ H (.int (kvs.length : Nat)) := fun H1 e Q q =>
  h H1 e _ fun H2 e2 => ⟨d, kvs, rfl, (e.trans e2) _ _ he, q H2 e2⟩
theorem q_asgD {i : Nat} (k : ∀ d H1, H d = none → Ex H H1 → H1 d = some (.dT []) → tz D (σ.set i (some (.ref d))) H1) : tSeq (tAsg tDNewT (gName i)) tz D σ H :=
  fun d hd => k d _ hd (Ex.new hd) upd_same
/-- xs.pop() -/
theorem q_pop {l : Addr} {xs : List V} (hl : H l = some (.lst (xs ++ [v]))) (ha : Ev ta σ H (.ref l)) (k : ∀ H1, Ex H H1 → tz D σ (upd H1 l (.lst xs))) : tSeq (tDrop (tBM0 K "list" rPop ta)) tz D σ H := ha H (Ex.refl H) _ fun H1 e1 =>
  ⟨Or.inl ⟨rfl, _, sq_of (e1 l _ hl)⟩, l, xs ++ [v], v, rfl, rfl, e1 l _ hl, by rw [List.length_append, List.length_singleton, Nat.add_sub_cancel, List.getElem?_append_right (Nat.le_refl _), Nat.sub_self]; rfl, by rw [List.dropLast_concat]; exact k H1 e1⟩
end
theorem keys_diff {ls : List (List Nat)} : diff (ls.map keyN) = diff ls := by
  have nd : ((uniq ls).map keyN).Nodup := List.Pairwise.map _ (fun a b h z => h (keyN_inj z)) (uniq_nodup ls)
  have z := diff_of nd (l := ls.map keyN) fun k => by
    rw [List.mem_map, List.mem_map]
    exact ⟨fun ⟨a, h, e⟩ => ⟨a, mem_uniq.mp h, e⟩, fun ⟨a, h, e⟩ => ⟨a, mem_uniq.mpr h, e⟩⟩
  rw [List.length_map] at z
  exact z.symm
/-- what shows of Stretches asks at last -/
theorem unlike_eq (b : List Int) (ls : List (List Nat)) : (decide (diff ls = ls.length) && decide (diff ls = diff b)) = (decide ls.Nodup && decide (ls.length = diff b)) := by
  by_cases h : ls.Nodup
  · rw [decide_eq_true h, decide_eq_true (diff_nodup.mpr h), diff_nodup.mpr h]
  · rw [decide_eq_false h, decide_eq_false fun z => h (diff_nodup.mp z)]; rfl
theorem width_sq {T : Tb} (hr : Rect T T.length) : width T = T.length := by
  by_cases h : T = []
  · subst h; rfl
  · unfold width
    exact hr _ (mem_row (List.length_pos_iff.mpr h))
theorem cutV_map {α : Type} (l : List α) (f : α → V) (k : Nat) : cutV (l.map f) none (some (k : Int)) = (l.take k).map f := by
  unfold cutV
  rw [HT.sIx_none, HT.sIx_nat, List.length_map, List.drop_zero, Nat.sub_zero, ← List.map_take, take_min]
theorem inV_nv (b : Nat) (l : List Nat) : inV (.int (b : Nat)) (nv l) = decide (b ∈ l) := by
  unfold inV nv
  rw [List.any_map]
  induction l with
  | nil => rfl
  | cons x l ih =>
    rw [List.any_cons, ih]
    have e : ((fun y => eqV y (V.int (b : Nat))) ∘ fun i : Nat => V.int (i : Nat)) x = decide (b = x) := by
      show ((x : Int) == (b : Int)) = decide (b = x)
      by_cases h : b = x
      · subst h; simp
      · rw [decide_eq_false h]; exact beq_eq_false_iff_ne.mpr (by omega)
    rw [e]
    simp [List.mem_cons]
theorem ax_fresh {x m : Addr} {H H' : Hp} {o : HO} (a : Ax x H H') (hx : H' x = some o) (h : H' m = none) : H m = none := by
  cases e : H m with
  | none => rfl
  | some u =>
    by_cases z : m = x
    · rw [z, hx] at h; cases h
    · rw [a m u z e] at h; cases h
end WA

namespace WA
open PySem L2
/-! ### begins, ends, things that need unlike begins -/
def begs (T : Tb) : List Nat := levelsN (sizesT T)
def beg (T : Tb) (j : Nat) : Nat := lev (sizesT T) (szT T j)
theorem begs_len (T : Tb) : (begs T).length = T.length := by unfold begs; rw [levelsN_len, sizesT_len]
theorem beg_at {T : Tb} {j : Nat} (h : j < T.length) : (begs T)[j]? = some (beg T j) := by
  unfold begs levelsN
  rw [List.getElem?_map, sizesT_at h]; rfl
theorem beg_lt {T : Tb} {j : Nat} (h : j < T.length) : beg T j < T.length := by
  have z := lev_bound (szT_mem h)
  rwa [sizesT_len] at z
theorem beg_iff {T : Tb} {i j : Nat} (hi : i < T.length) : beg T i < beg T j ↔ szT T i < szT T j := lev_iff (szT_mem hi)
def endL (T : Tb) (row : List Bool) : List Int := (((intsOf (begs T)).zip row).filter fun x => x.2).map fun x => x.1
def endN (T : Tb) (row : List Bool) : Int := minOr (endL T row) (T.length : Nat) - 1
theorem mem_endL {T : Tb} {i : Nat} (hr : Rect T T.length) (hi : i < T.length) {x : Int} : x ∈ endL T (T.getD i []) ↔ ∃ j, j < T.length ∧ gt T i j = true ∧ x = (beg T j : Nat) := by
  have hlen : (T.getD i []).length = T.length := hr _ (mem_row hi)
  unfold endL
  constructor
  · intro h
    obtain ⟨p, hp, rfl⟩ := List.mem_map.mp h
    obtain ⟨h1, h2⟩ := List.mem_filter.mp hp
    obtain ⟨j, hj⟩ := List.mem_iff_getElem?.mp h1
    rw [List.getElem?_zip_eq_some] at hj
    have hjl : j < T.length := by rw [← hlen]; exact (List.getElem?_eq_some_iff.mp hj.2).1
    refine ⟨j, hjl, ?_, ?_⟩
    · unfold gt
      rw [List.getD_eq_getElem?_getD, hj.2]
      simpa using h2
    · have z := hj.1
      unfold intsOf at z
      rw [List.getElem?_map, beg_at hjl] at z
      exact (Option.some.inj z).symm
  · rintro ⟨j, hj, hg, rfl⟩
    refine List.mem_map.mpr ⟨((beg T j : Nat), true), List.mem_filter.mpr ⟨?_, rfl⟩, rfl⟩
    refine List.mem_iff_getElem?.mpr ⟨j, ?_⟩
    rw [List.getElem?_zip_eq_some]
    refine ⟨by unfold intsOf; rw [List.getElem?_map, beg_at hj]; rfl, ?_⟩
    unfold gt at hg
    rw [List.getD_eq_getElem?_getD, List.getElem?_eq_getElem (by omega)] at hg
    rw [List.getElem?_eq_getElem (by omega)]
    have hg : (T.getD i [])[j]'(by omega) = true := hg
    rw [hg]
def unl (l : List Nat) : List Nat := (((List.range l.length).zip l).filter fun x => !decide (x.2 ∈ l.take x.1)).map fun x => x.1
theorem mem_unl {l : List Nat} {i : Nat} : i ∈ unl l ↔ ∃ b, l[i]? = some b ∧ b ∉ l.take i := by
  unfold unl
  constructor
  · intro h
    obtain ⟨p, hp, rfl⟩ := List.mem_map.mp h
    obtain ⟨h1, h2⟩ := List.mem_filter.mp hp
    obtain ⟨j, hj⟩ := List.mem_iff_getElem?.mp h1
    rw [List.getElem?_zip_eq_some] at hj
    have hjl := (List.getElem?_eq_some_iff.mp hj.2).1
    have e := hj.1
    rw [List.getElem?_range hjl] at e
    have e := Option.some.inj e
    rw [← e] at h2 ⊢
    exact ⟨p.2, hj.2, by simpa using h2⟩
  · rintro ⟨b, hb, hn⟩
    have hil := (List.getElem?_eq_some_iff.mp hb).1
    refine List.mem_map.mpr ⟨(i, b), List.mem_filter.mpr ⟨List.mem_iff_getElem?.mpr ⟨i, ?_⟩, by simpa using hn⟩, rfl⟩
    rw [List.getElem?_zip_eq_some]
    exact ⟨List.getElem?_range hil, hb⟩
theorem zip_fst {α β : Type} : ∀ (l : List α) (m : List β), l.length = m.length → (l.zip m).map (fun x => x.1) = l
  | [], _, _ => rfl
  | a :: l, b :: m, h => by
    rw [List.zip_cons_cons, List.map_cons, zip_fst l m (by simpa using h)]
theorem unl_sorted (l : List Nat) : (unl l).Pairwise (· < ·) := by
  have h : (unl l).Sublist (List.range l.length) := by
    have z := (List.filter_sublist (l := (List.range l.length).zip l) (p := fun x => !decide (x.2 ∈ l.take x.1))).map fun x => x.1
    rw [zip_fst _ _ (by rw [List.length_range])] at z
    exact z
  exact List.Pairwise.sublist h List.pairwise_lt_range
theorem first_at {l : List Nat} {b : Nat} : ∀ (n i : Nat), i < n → l[i]? = some b → ∃ i, l[i]? = some b ∧ b ∉ l.take i := by
  intro n
  induction n with
  | zero => intro i h; exact absurd h (Nat.not_lt_zero _)
  | succ n ih =>
    intro i hi h
    by_cases hm : b ∈ l.take i
    · obtain ⟨k, hk⟩ := List.mem_iff_getElem?.mp hm
      rw [List.getElem?_take] at hk
      by_cases hki : k < i
      · rw [if_pos hki] at hk
        exact ih k (by omega) hk
      · rw [if_neg hki] at hk; cases hk
    · exact ⟨i, h, hm⟩
theorem unl_diff (l : List Nat) : (unl l).length = diff l := by
  have nd : ((unl l).map fun i => l.getD i 0).Nodup := by
    refine List.pairwise_map.mpr (List.Pairwise.imp_of_mem (fun {a b} ha hb hab e => ?_) (unl_sorted l))
    obtain ⟨x, hx, _⟩ := mem_unl.mp ha
    obtain ⟨y, hy, hn⟩ := mem_unl.mp hb
    rw [List.getD_eq_getElem?_getD, hx, List.getD_eq_getElem?_getD, hy] at e
    have e : x = y := e
    refine hn (List.mem_iff_getElem?.mpr ⟨a, ?_⟩)
    rw [List.getElem?_take, if_pos hab, hx, e]
  have z := diff_of nd (l := l) fun k => by
    constructor
    · intro h
      obtain ⟨i, hi, rfl⟩ := List.mem_map.mp h
      obtain ⟨x, hx, _⟩ := mem_unl.mp hi
      rw [List.getD_eq_getElem?_getD, hx]
      exact List.mem_of_getElem? hx
    · intro h
      obtain ⟨j, hj⟩ := List.mem_iff_getElem?.mp h
      obtain ⟨i, h1, h2⟩ := first_at (j + 1) j (Nat.lt_succ_self _) hj
      exact List.mem_map.mpr ⟨i, mem_unl.mpr ⟨k, h1, h2⟩, by rw [List.getD_eq_getElem?_getD, h1]; rfl⟩
  rw [List.length_map] at z
  exact z
theorem nested_or {T : Tb} {w i k : Nat} (hn : Nested T w) (hi : i < T.length) (hk : k < T.length) : (∀ c, c < w → gt T i c = true → gt T k c = true) ∨ (∀ c, c < w → gt T k c = true → gt T i c = true) := by
  by_cases h : cntT T i ≤ cntT T k
  · exact .inl (hn i k hi hk h)
  · exact .inr (hn k i hk hi (by omega))
theorem col_lt {T : Tb} (hs : NoSelf T) (hn : Nested T T.length) {i j : Nat} (hi : i < T.length) (hj : j < T.length) (hg : gt T i j = true) : szT T i < szT T j := by
  have sub : ∀ k, k ∈ colOf T i → k ∈ colOf T j := fun k hk => by
    have hk' := mem_colOf.mp hk
    refine mem_colOf.mpr ⟨hk'.1, ?_⟩
    rcases nested_or hn hi hk'.1 with h | h
    · exact h j hj hg
    · have := h i hi hk'.2
      rw [hs i hi] at this
      cases this
  have hnd : (colOf T i ++ [i]).Nodup := by
    rw [List.nodup_append]
    refine ⟨colOf_nodup T i, by simp, fun a ha b hb => ?_⟩
    rw [List.mem_singleton.mp hb]
    intro z
    rw [z] at ha
    have := (mem_colOf.mp ha).2
    rw [hs i hi] at this
    cases this
  have z := nodup_leA hnd (ns := colOf T j) fun k hk => by
    rcases List.mem_append.mp hk with hk | hk
    · exact sub k hk
    · rw [List.mem_singleton.mp hk]
      exact mem_colOf.mpr ⟨hi, hg⟩
  rw [List.length_append, List.length_singleton] at z
  exact z
theorem end_iff {T : Tb} (hr : Rect T T.length) (hn : Nested T T.length) {i j : Nat} (hi : i < T.length) (hj : j < T.length) : decide (endN T (T.getD i []) < (beg T j : Nat)) = gt T i j := by
  unfold endN
  cases hg : gt T i j with
  | true =>
    have := minOr_le (d := ((T.length : Nat) : Int)) ((mem_endL hr hi).mpr ⟨j, hj, hg, rfl⟩)
    exact decide_eq_true (by omega)
  | false =>
    refine decide_eq_false fun hlt => ?_
    by_cases he : endL T (T.getD i []) = []
    · rw [he] at hlt
      have hb := beg_lt hj
      have h2 : minOr [] ((T.length : Nat) : Int) = (T.length : Nat) := rfl
      rw [h2] at hlt
      omega
    · obtain ⟨j', hj', hg', e⟩ := (mem_endL hr hi).mp (minOr_mem (d := ((T.length : Nat) : Int)) he)
      rw [e] at hlt
      have hsz : szT T j' ≤ szT T j := by
        by_cases h3 : szT T j < szT T j'
        · have := (beg_iff hj).mpr h3
          omega
        · omega
      have sub : ∀ k, k ∈ colOf T j → k ∈ colOf T j' := fun k hk => by
        have hk' := mem_colOf.mp hk
        refine mem_colOf.mpr ⟨hk'.1, ?_⟩
        rcases nested_or hn hi hk'.1 with h | h
        · exact h j' hj' hg'
        · have := h j hj hk'.2
          rw [hg] at this
          cases this
      have hnd : (colOf T j ++ [i]).Nodup := by
        rw [List.nodup_append]
        refine ⟨colOf_nodup T j, by simp, fun a ha b hb => ?_⟩
        rw [List.mem_singleton.mp hb]
        intro z
        rw [z] at ha
        have := (mem_colOf.mp ha).2
        rw [hg] at this
        cases this
      have z := nodup_leA hnd (ns := colOf T j') fun k hk => by
        rcases List.mem_append.mp hk with hk | hk
        · exact sub k hk
        · rw [List.mem_singleton.mp hk]
          exact mem_colOf.mpr ⟨hi, hg'⟩
      rw [List.length_append, List.length_singleton] at z
      unfold szT at hsz
      omega
def endNs (T : Tb) : List Int := T.map (endN T)
theorem intsOf_inj {l : List Nat} : diff (intsOf l) = diff l := by
  have nd : ((uniq l).map fun i : Nat => (i : Int)).Nodup := List.Pairwise.map _ (fun a b h z => h (by omega)) (uniq_nodup l)
  have z := diff_of nd (l := intsOf l) fun k => by
    unfold intsOf
    rw [List.mem_map, List.mem_map]
    exact ⟨fun ⟨a, h, e⟩ => ⟨a, mem_uniq.mp h, e⟩, fun ⟨a, h, e⟩ => ⟨a, mem_uniq.mpr h, e⟩⟩
  rw [List.length_map] at z
  exact z.symm
theorem stretches_of {T : Tb} (hr : Rect T T.length) (hs : NoSelf T) (hn : Nested T T.length) : shown (.stretches (intsOf (begs T)) (endNs T) (intsOf (unl (begs T)))) T = true := by
  show stretchesOk _ _ _ _ = true
  unfold stretchesOk
  have l1 : (intsOf (begs T)).length = T.length := by rw [intsOf_len, begs_len]
  have l2 : (endNs T).length = T.length := by unfold endNs; rw [List.length_map]
  have hu : ∀ i, i ∈ unl (begs T) → i < T.length := fun i hi => by
    obtain ⟨b, hb, _⟩ := mem_unl.mp hi
    have := (List.getElem?_eq_some_iff.mp hb).1
    rwa [begs_len] at this
  have h3 : (intsOf (unl (begs T))).all (inT T) = true := by
    rw [List.all_eq_true]
    intro x hx
    obtain ⟨i, hi, rfl⟩ := List.mem_map.mp hx
    exact inT_of (hu i hi)
  have hend : ∀ (i : Nat) m, (endNs T)[i]? = some m → i < T.length ∧ m = endN T (T.getD i []) := fun i m h => by
    have hi : i < T.length := by have := (List.getElem?_eq_some_iff.mp h).1; omega
    refine ⟨hi, ?_⟩
    unfold endNs at h
    rw [List.getElem?_map, row_at hi] at h
    exact (Option.some.inj h).symm
  have h4 : ((intsOf (begs T)).zip (endNs T)).all (fun x => !decide (x.2 < x.1)) = true := by
    rw [List.all_eq_true]
    rintro ⟨b, e⟩ hx
    obtain ⟨i, hi⟩ := List.mem_iff_getElem?.mp hx
    rw [List.getElem?_zip_eq_some] at hi
    obtain ⟨hil, rfl⟩ := hend i e hi.2
    have hb := hi.1
    unfold intsOf at hb
    rw [List.getElem?_map, beg_at hil] at hb
    have hb := (Option.some.inj hb).symm
    subst hb
    have z := end_iff hr hn hil hil
    rw [hs i hil] at z
    rw [z]; rfl
  have h5 : rowsAre T (endNs T) (fun m => (intsOf (begs T)).map fun t => decide (m < t)) = true := by
    refine (rowsAre_iff (p := fun m => (intsOf (begs T)).map fun t => decide (m < t))).mpr fun i row m h1 h2 => ?_
    obtain ⟨hi, rfl⟩ := hend i m h2
    have hlen : row.length = T.length := hr row (List.mem_of_getElem? h1)
    have er : T.getD i [] = row := by rw [List.getD_eq_getElem?_getD, h1]; rfl
    rw [← row_ext hlen]
    have eb : begs T = (List.range T.length).map (beg T) := by
      unfold begs levelsN sizesT
      rw [List.map_map]; rfl
    unfold intsOf
    rw [List.map_map]
    conv => lhs; arg 2; rw [eb]
    rw [List.map_map]
    refine List.map_congr_left fun j hj => ?_
    have hj' := List.mem_range.mp hj
    show decide (endN T (T.getD i []) < ((beg T j : Nat) : Int)) = row.getD j false
    rw [end_iff hr hn hi hj']
    unfold gt
    rw [er]
  have h6 : ((intsOf (unl (begs T))).map (colI T)).Nodup := by
    unfold intsOf
    rw [List.map_map]
    refine List.pairwise_map.mpr (List.Pairwise.imp_of_mem (fun {a b} ha hb hab e => ?_) (unl_sorted (begs T)))
    have ha' := hu a ha
    obtain ⟨y, hy, hny⟩ := mem_unl.mp hb
    have hb' := hu b hb
    have e : colOf T a = colOf T b := e
    have eb : beg T a = beg T b := by unfold beg szT; rw [e]
    refine hny (List.mem_iff_getElem?.mpr ⟨a, ?_⟩)
    rw [beg_at hb'] at hy
    rw [List.getElem?_take, if_pos hab, beg_at ha', eb, hy]
  rw [decide_eq_true l1, decide_eq_true l2, h3, h4, h5, decide_eq_true h6, decide_eq_true (show (intsOf (unl (begs T))).length = diff (intsOf (begs T)) by rw [intsOf_len, intsOf_inj, unl_diff])]
  rfl
end WA

namespace WA
open PySem PySem.Spec PyProof.Rows L2 Evl LamX
/-! ### columns as texts -/
def colB (T : Tb) (j : Nat) : List Bool := T.map fun r => r.getD j false
theorem colB_at {T : Tb} {j k : Nat} (h : k < T.length) : (colB T j)[k]? = some (gt T k j) := by
  unfold colB gt
  rw [List.getElem?_map, row_at h]; rfl
theorem colB_iff {T : Tb} {i j : Nat} : colB T i = colB T j ↔ colOf T i = colOf T j := by
  constructor
  · intro h
    unfold colOf
    refine List.filter_congr fun k hk => ?_
    have hk := List.mem_range.mp hk
    have z := colB_at (j := i) hk
    rw [h, colB_at hk] at z
    exact (Option.some.inj z).symm
  · intro h
    refine List.ext_getElem? fun k => ?_
    by_cases hk : k < T.length
    · rw [colB_at hk, colB_at hk]
      congr 1
      have z : k ∈ colOf T i ↔ k ∈ colOf T j := by rw [h]
      rw [mem_colOf, mem_colOf] at z
      cases e1 : gt T k i <;> cases e2 : gt T k j <;> simp_all
    · rw [List.getElem?_eq_none (by unfold colB; rw [List.length_map]; omega), List.getElem?_eq_none (by unfold colB; rw [List.length_map]; omega)]
theorem nodup_map_iff {α β γ : Type} {l : List α} {f : α → β} {g : α → γ} (h : ∀ a ∈ l, ∀ b ∈ l, f a = f b ↔ g a = g b) : (l.map f).Nodup ↔ (l.map g).Nodup := by
  unfold List.Nodup
  rw [List.pairwise_map, List.pairwise_map]
  exact ⟨fun p => p.imp_of_mem fun ha hb n z => n ((h _ ha _ hb).mpr z), fun p => p.imp_of_mem fun ha hb n z => n ((h _ ha _ hb).mp z)⟩
theorem cols_nodup (T : Tb) (u : List Int) : decide (((u.map fun t => rs (colB T t.toNat)) : List Str).Nodup) = decide ((u.map (colI T)).Nodup) :=
  decide_eq_decide.mpr (nodup_map_iff fun a _ b _ => ⟨fun h => colB_iff.mp (rs_inj h), fun h => by rw [colB_iff.mpr h]⟩)
theorem any_rng {b e : List Int} {n : Nat} (h1 : b.length = n) (h2 : e.length = n) : ((List.range n).any fun i => decide (e.getD i 0 < b.getD i 0)) = !((b.zip e).all fun x => !decide (x.2 < x.1)) := by
  cases hz : (b.zip e).all fun x => !decide (x.2 < x.1) with
  | true =>
    rw [List.all_eq_true] at hz
    show _ = false
    rw [List.any_eq_false]
    intro i hi
    have hi := List.mem_range.mp hi
    have hb : b[i]? = some (b[i]'(by omega)) := List.getElem?_eq_getElem (by omega)
    have he : e[i]? = some (e[i]'(by omega)) := List.getElem?_eq_getElem (by omega)
    have := hz (b[i]'(by omega), e[i]'(by omega)) (List.mem_of_getElem? (i := i) (by rw [List.getElem?_zip_eq_some]; exact ⟨hb, he⟩))
    rw [List.getD_eq_getElem?_getD, he, List.getD_eq_getElem?_getD, hb]
    simpa using this
  | false =>
    obtain ⟨p, hp, h⟩ := List.all_eq_false.mp hz
    obtain ⟨i, hi⟩ := List.mem_iff_getElem?.mp hp
    rw [List.getElem?_zip_eq_some] at hi
    show _ = true
    refine List.any_eq_true.mpr ⟨i, List.mem_range.mpr ?_, ?_⟩
    · have := (List.getElem?_eq_some_iff.mp hi.1).1; omega
    · rw [List.getD_eq_getElem?_getD, hi.2, List.getD_eq_getElem?_getD, hi.1]; simpa using h
theorem int_at {l : List Int} {i : Nat} (h : i < l.length) : (l.map V.int)[i]? = some (V.int (l.getD i 0)) := by
  rw [List.getElem?_map, List.getD_eq_getElem?_getD, List.getElem?_eq_getElem h]; rfl
section
variable {TT : List (Addr × Str)} {K : PySem.W.Frag} {σ : L2.St} {H H' H0 : Hp} {ta tb te tx : TE} {D : Ends} {tz : TS} {xs : List V}
/-- i = [list] -/
theorem s_asgW {i : Nat} (ha : EvM ta σ H xs) (k : ∀ q p H1, Ex H H1 → H1 q = some (.lst [.ref p]) → H1 p = some (.lst xs) → D.nx (σ.set i (some (.ref q))) H1) : tAsg (tLst (tCons ta tNil)) (gName i) D σ H :=
  ha H (Ex.refl H) _ fun p H1 e1 h1 => ⟨sz_of (show 1 ≤ 100000 by decide), fun q hq => k q p _ (e1.trans (Ex.new hq)) upd_same (Ex.new hq _ _ h1)⟩
theorem el_slS {tl th : TO} {lo hi : Option Int} (h : EvS K te σ H xs) (h1 : Evl.EvO tl σ H lo) (h2 : Evl.EvO th σ H hi) : EvL (tSl (rSlL K) te tl th) σ H (cutV xs lo hi) := fun H1 e Q q =>
  h H1 e _ fun p H2 e2 hp => h1 H2 (e.trans e2) _ fun H3 e3 => h2 H3 ((e.trans e2).trans e3) _ fun H4 e4 =>
    ⟨p, xs, rfl, ex_l (e3.trans e4) hp, fun l hl => q l _ (fresh_back ((e2.trans e3).trans e4) hl) (((e2.trans e3).trans e4).trans (Ex.new hl)) upd_same⟩
/-! ### stretches, the lists changed -/
def StAt (K : PySem.W.Frag) (H0 H : Hp) (x l m n : Addr) (b e u : List Int) : Prop := InsAt K H x .stretches [("begins", .ref l), ("ends", .ref m), ("unlike", .ref n)] ∧ LF H0 H l b ∧ LF H0 H m e ∧ LF H0 H n u ∧ l ≠ m ∧ l ≠ n ∧ m ≠ n
theorem StAt.ans {x l m n : Addr} {b e u : List Int} (h : StAt K H0 H x l m n b e u) : AnsAt K H0 H x (.stretches b e u) := ⟨l, m, n, h⟩
theorem StAt.mono {x l m n : Addr} {b e u : List Int} (h : StAt K H0 H x l m n b e u) (ex : Ex H H') : StAt K H0 H' x l m n b e u := ⟨h.1.mono ex, h.2.1.mono ex, h.2.2.1.mono ex, h.2.2.2.1.mono ex, h.2.2.2.2⟩
theorem StAt.un {x l m n : Addr} {b e u : List Int} (h : StAt K H0 H x l m n b e u) (u' : List Int) : StAt K H0 (upd H n (.lst (u'.map V.int))) x l m n b e u' := by
  obtain ⟨⟨dx, hi⟩, hl, hm, hn, d1, d2, d3⟩ := h
  refine ⟨⟨dx, by rw [upd_ne (fun z => by rw [z, hn.2] at hi; cases hi)]; exact hi⟩, ⟨hl.1, by rw [upd_ne d2]; exact hl.2⟩, ⟨hm.1, by rw [upd_ne d3]; exact hm.2⟩, ⟨hn.1, upd_same⟩, d1, d2, d3⟩
theorem StAt.en {x l m n : Addr} {b e u : List Int} (h : StAt K H0 H x l m n b e u) (e' : List Int) : StAt K H0 (upd H m (.lst (e'.map V.int))) x l m n b e' u := by
  obtain ⟨⟨dx, hi⟩, hl, hm, hn, d1, d2, d3⟩ := h
  refine ⟨⟨dx, by rw [upd_ne (fun z => by rw [z, hm.2] at hi; cases hi)]; exact hi⟩, ⟨hl.1, by rw [upd_ne d1]; exact hl.2⟩, ⟨hm.1, upd_same⟩, ⟨hn.1, by rw [upd_ne (Ne.symm d3)]; exact hn.2⟩, d1, d2, d3⟩
end
theorem stretches_len {b e u : List Int} {T : Tb} (h : stretchesOk b e u T = true) : b.length = T.length ∧ e.length = T.length ∧ u.length = diff b := by
  unfold stretchesOk at h
  simp only [Bool.and_eq_true, decide_eq_true_eq] at h
  exact ⟨h.1.1.1.1.1.1, h.1.1.1.1.1.2, h.2⟩
theorem stretches_ub {b e u : List Int} {T : Tb} (h : stretchesOk b e u T = true) : u.length ≤ T.length := by
  obtain ⟨h1, _, h3⟩ := stretches_len h
  have := diff_le b
  omega
theorem stretches_un {b e u u' : List Int} {T : Tb} (h : stretchesOk b e u T = true) (hl : u'.length ≠ u.length) : stretchesOk b e u' T = false := by
  obtain ⟨_, _, h3⟩ := stretches_len h
  unfold stretchesOk
  rw [decide_eq_false (show ¬ u'.length = diff b by omega), Bool.and_false]
theorem stretches_en {b e e' u : List Int} {T : Tb} (h : stretchesOk b e u T = true) (hl : e'.length ≠ e.length) : stretchesOk b e' u T = false := by
  obtain ⟨_, h2, _⟩ := stretches_len h
  unfold stretchesOk
  rw [decide_eq_false (show ¬ e'.length = T.length by omega)]; simp
theorem tv_dash : [V.str "-"] = tv [[false]] := by decide +kernel
end WA

namespace WA
open PySem PySem.Spec PyProof.Rows L2 Evl LamX
/-! ### sorted(ns), any number of them -/
def sortI (ns : List Int) : List Int := ns.mergeSort fun a b : Int => decide (a ≤ b)
theorem sortI_perm (ns : List Int) : (sortI ns).Perm ns := List.mergeSort_perm _ _
theorem sortI_len (ns : List Int) : (sortI ns).length = ns.length := (sortI_perm ns).length_eq
theorem sortI_le (ns : List Int) : (sortI ns).Pairwise (· ≤ ·) :=
  (List.pairwise_mergeSort (le := fun a b : Int => decide (a ≤ b)) (fun a b c h1 h2 => by simp at h1 h2 ⊢; omega) (fun a b => by simp; omega) ns).imp fun h => by simpa using h
def rSortedLN (K : PySem.W.Frag) : List V → Hp → VK → Prop := fun vs H Q => ∃ (a : Addr) (ns : List Int), vs = [V.ref a] ∧ SqL K H a (ns.map V.int) ∧ ns.length ≤ 1000 ∧
  ∀ p, H p = none → Q (.ref p) (upd H p (.lst ((sortI ns).map V.int)))
theorem cr_sortedLN {X : Cx} (hu : X.A.units + 10 < cLine) : CallR X (.builtin "sorted") (rSortedLN X.K) := by
  intro pins s σ H vs us Q I r h
  obtain ⟨a, ns, rfl, hs, hz, q⟩ := h
  obtain ⟨its, rv, hl, _⟩ := I.list hs
  rw [Vals.ref1 r]
  have hi := ints_of_vals rv
  have e1 := each_ints (by simpa using hi : IntsAre its ns)
  refine PySem.W.sorted_data (vs := its) (enc := PyData.int) (R := fun v (b : Int) => ∃ t, v = .int b t) hl.isList e1 (e1.mono fun v b h => ?_) ?_ ?_ (by rw [sizeLine_eq]; omega) (fun b _ => ?_) fun out hol ho2 => ?_
  · obtain ⟨t, rfl⟩ := h
    exact ⟨[], .int b t⟩
  · exact PySem.W.AllAlike.of fun b b' => by simp [PySem.W.alike]
  · exact PySem.W.Sortable.others fun b => ⟨by simp, fun xs => by simp⟩
  · show X.A.units + 2 + (PyData.int b).depth < cLine
    simp [PyData.depth]; omega
  · have e4 : PySem.W.dataLe false PyData.int = fun a b : Int => decide (a ≤ b) := PySem.W.dataLe_int (β := Int) fun b => b
    rw [e4] at ho2
    have a1 : IntsAre out (sortI ns) := ints_each ho2
    obtain ⟨ep, he'⟩ := PyProof.Rows.sortedAll_at s.heap its out.toArray
    have hlen : ((sortI ns).map V.int).length ≤ sizeLine := by rw [List.length_map, sortI_len, sizeLine_eq]; omega
    exact ⟨.ref _, upd H (s.heap.objs.size + 1) (.lst ((sortI ns).map V.int)), I.laid (t' := s.toks) (fun _ _ => PyProof.Rows.sortedAll_old) (Nat.le_succ _) ⟨hlen, out, ep, vals_of_ints a1, he'⟩, rfl, q _ (I.hok.fresh (Nat.le_succ _))⟩
section
variable {K : PySem.W.Frag} {w : World} {σ : L2.St} {H : Hp} {te : TE}
theorem el_sortedL {ns : List Int} (h : EvS K te σ H (ns.map V.int)) (hz : ns.length ≤ 1000) : EvL (tCB (rSortedLN K) (tCons te tNil)) σ H ((sortI ns).map V.int) := fun H1 e Q q =>
  h H1 e _ fun p H2 e2 hp => ⟨p, ns, rfl, hp, hz, fun p' hn => q p' _ (fresh_back e2 hn) (e2.trans (Ex.new hn)) upd_same⟩
theorem rgV_ints (n : Nat) : rgV 0 (n : Int) = (intsOf (List.range n)).map V.int := by
  unfold rgV intsOf
  rw [List.map_map, Int.sub_zero, Int.toNat_natCast]
  refine List.map_congr_left fun i _ => ?_
  show V.int (0 + (i : Int)) = V.int (i : Int)
  rw [Int.zero_add]
/-- list(range(n)) -/
theorem el_listR {n : Nat} (h : Ev te σ H (.int (n : Nat))) (hn : n ≤ 1000) : EvL (tLstRg (tRg1 te)) σ H ((intsOf (List.range n)).map V.int) := fun H1 e Q q =>
  h H1 e _ fun H2 e2 => ⟨(n : Nat), rfl, RgOk.of_le (by omega) (by omega) (by omega) (by omega), fun p hp => q p _ (fresh_back e2 hp) (e2.trans (Ex.new hp)) (by rw [upd_same, rgV_ints])⟩
end
/-! ### all things, each once -/
theorem perm_of_nodup {α : Type} [DecidableEq α] : ∀ {ks ns : List α}, ks.Nodup → (∀ k, k ∈ ks → k ∈ ns) → ns.length ≤ ks.length → ks.Perm ns
  | [], ns, _, _, h => by
    have : ns = [] := List.length_eq_zero_iff.mp (by simpa using h)
    rw [this]
  | x :: r, ns, h, g, hl => by
    have h' := List.nodup_cons.mp h
    have hx : x ∈ ns := g x (List.mem_cons_self ..)
    have ih := perm_of_nodup (ks := r) (ns := ns.erase x) h'.2 (fun k hk => (List.mem_erase_of_ne (fun z : k = x => h'.1 (by rw [← z]; exact hk))).mpr (g k (List.mem_cons_of_mem _ hk))) (by
      rw [List.length_erase_of_mem hx]
      rw [List.length_cons] at hl
      omega)
    exact (ih.cons x).trans (List.perm_cons_erase hx).symm
theorem intsR_nodup (n : Nat) : (intsOf (List.range n)).Nodup := by
  unfold intsOf
  exact List.Pairwise.map _ (fun a b h z => h (by omega)) List.nodup_range
theorem mem_intsR {n : Nat} {x : Int} : x ∈ intsOf (List.range n) ↔ 0 ≤ x ∧ x < n := by
  unfold intsOf
  constructor
  · intro h
    obtain ⟨i, hi, rfl⟩ := List.mem_map.mp h
    have := List.mem_range.mp hi
    omega
  · intro h
    exact List.mem_map.mpr ⟨x.toNat, List.mem_range.mpr (by omega), by omega⟩
theorem isPerm_iff {o : List Int} {n : Nat} : isPerm o n = true ↔ o.Perm (intsOf (List.range n)) := by
  unfold isPerm
  rw [Bool.and_eq_true, List.all_eq_true, decide_eq_true_eq]
  constructor
  · rintro ⟨h, hl⟩
    refine (perm_of_nodup (intsR_nodup n) (fun k hk => ?_) (by rw [hl, intsOf_len, List.length_range]; exact Nat.le_refl _)).symm
    have hk := mem_intsR.mp hk
    have z := of_decide_eq_true (h k.toNat (List.mem_range.mpr (by omega)))
    rw [Int.toNat_of_nonneg hk.1] at z
    exact List.count_pos_iff.mp (by omega)
  · intro h
    refine ⟨fun t ht => decide_eq_true ?_, by rw [h.length_eq, intsOf_len, List.length_range]⟩
    have ht := List.mem_range.mp ht
    rw [h.count_eq]
    exact List.Nodup.count (intsR_nodup n) |>.trans (if_pos (mem_intsR.mpr ⟨by omega, by omega⟩))
theorem sorted_eq : ∀ {l m : List Int}, l.Pairwise (· ≤ ·) → m.Pairwise (· ≤ ·) → l.Perm m → l = m
  | [], m, _, _, h => by rw [List.nil_perm.mp h]
  | x :: l, [], _, _, h => absurd (List.perm_nil.mp h) (by simp)
  | x :: l, y :: m, hl, hm, h => by
    have hl' := List.pairwise_cons.mp hl
    have hm' := List.pairwise_cons.mp hm
    have hxy : x = y := by
      have h1 : x ∈ y :: m := h.mem_iff.mp (List.mem_cons_self ..)
      have h2 : y ∈ x :: l := h.mem_iff.mpr (List.mem_cons_self ..)
      rcases List.mem_cons.mp h1 with h1 | h1
      · exact h1
      · rcases List.mem_cons.mp h2 with h2 | h2
        · exact h2.symm
        · have := hl'.1 y h2
          have := hm'.1 x h1
          omega
    subst hxy
    rw [sorted_eq hl'.2 hm'.2 (List.perm_cons x |>.mp h)]
theorem range_le (n : Nat) : (intsOf (List.range n)).Pairwise (· ≤ ·) := by
  unfold intsOf
  exact List.pairwise_map.mpr (List.pairwise_lt_range.imp fun h => by omega)
theorem sort_perm (o : List Int) (n : Nat) : decide (sortI o = intsOf (List.range n)) = isPerm o n := by
  rw [Bool.eq_iff_iff, decide_eq_true_eq, isPerm_iff]
  constructor
  · intro h
    rw [← h]
    exact (sortI_perm o).symm
  · intro h
    exact sorted_eq (sortI_le o) (range_le n) ((sortI_perm o).trans h)
/-- where a thing stands -/
theorem nodup_at {o : List Int} (hd : o.Nodup) {i j : Nat} {x : Int} (hi : o[i]? = some x) (hj : o[j]? = some x) : i = j := by
  obtain ⟨h1, h2⟩ := List.getElem?_eq_some_iff.mp hi
  obtain ⟨h3, h4⟩ := List.getElem?_eq_some_iff.mp hj
  rcases Nat.lt_trichotomy i j with h | h | h
  · exact absurd (h2.trans h4.symm) (List.pairwise_iff_getElem.mp hd i j h1 h3 h)
  · exact h
  · exact absurd (h4.trans h2.symm) (List.pairwise_iff_getElem.mp hd j i h3 h1 h)
theorem isPerm_nodup {o : List Int} {n : Nat} (h : isPerm o n = true) : o.Nodup := (isPerm_iff.mp h).nodup_iff.mpr (intsR_nodup n)
theorem isPerm_len {o : List Int} {n : Nat} (h : isPerm o n = true) : o.length = n := by rw [(isPerm_iff.mp h).length_eq, intsOf_len, List.length_range]
theorem isPerm_mem {o : List Int} {n : Nat} (h : isPerm o n = true) {x : Int} : x ∈ o ↔ 0 ≤ x ∧ x < n := (isPerm_iff.mp h).mem_iff.trans mem_intsR
theorem find_at {o : List Int} {t : Int} (h : t ∈ o) : o[o.findIdx (fun z => decide (z = t))]? = some t := by
  have hl : o.findIdx (fun z => decide (z = t)) < o.length := List.findIdx_lt_length_of_exists ⟨t, h, by simp⟩
  have z := List.findIdx_getElem (w := hl)
  rw [List.getElem?_eq_getElem hl]
  congr 1
  simpa using z
/-- what the loop over a line leaves -/
theorem places_at {o L : List Int} {n : Nat} (h : isPerm o n = true) (hl : L.length = n) (hP : ∀ (j : Nat) (t : Int), o[j]? = some t → L[t.toNat]? = some (j : Int)) : L = placesOf o := by
  have hon := isPerm_len h
  refine List.ext_getElem? fun t => ?_
  unfold placesOf
  rw [List.getElem?_map, hon]
  by_cases ht : t < n
  · rw [List.getElem?_range ht]
    have hm : (t : Int) ∈ o := (isPerm_mem h).mpr ⟨by omega, by omega⟩
    have z := hP _ _ (find_at hm)
    rw [Int.toNat_natCast] at z
    rw [z]; rfl
  · rw [List.getElem?_eq_none (by omega), List.getElem?_eq_none (by rw [List.length_range]; omega)]; rfl
theorem placesOf_len (o : List Int) : (placesOf o).length = o.length := by unfold placesOf; rw [List.length_map, List.length_range]
theorem placesOf_at {o : List Int} {n j : Nat} {t : Nat} (h : isPerm o n = true) (hj : o[j]? = some (t : Int)) : (placesOf o)[t]? = some (j : Int) := by
  have hm : (t : Int) ∈ o := List.mem_of_getElem? hj
  have ht := (isPerm_mem h).mp hm
  have hon := isPerm_len h
  unfold placesOf
  rw [List.getElem?_map, List.getElem?_range (by omega)]
  have z := nodup_at (isPerm_nodup h) (find_at hm) hj
  show some (((o.findIdx (fun z => decide (z = (t : Int)))) : Nat) : Int) = some (j : Int)
  rw [z]
end WA

namespace WA
open PySem L2
/-! ### lines -/
/-- of two unlike things one is ahead -/
def NoNei (T : Tb) : Prop := ∀ i j, i < T.length → j < T.length → i ≠ j → gt T i j = true ∨ gt T j i = true
theorem noNei_of {T : Tb} (h : ∀ i j, i < T.length → j < i → ¬ (gt T i j = false ∧ gt T j i = false)) : NoNei T := fun i j hi hj hij => by
  have key : ∀ i j, i < T.length → j < i → gt T i j = true ∨ gt T j i = true := fun i j hi hji => by
    cases e1 : gt T i j with
    | true => exact .inl rfl
    | false =>
      cases e2 : gt T j i with
      | true => exact .inr rfl
      | false => exact absurd ⟨e1, e2⟩ (h i j hi hji)
  by_cases hlt : j < i
  · exact key i j hi hlt
  · exact (key j i hj (by omega)).symm
theorem round_of {T : Tb} {i j : Nat} (hs : NoSelf T) (hm : NoMut T) (hn : NoNei T) (hi : i < T.length) (hj : j < T.length) (hg : gt T i j = true) (h : FaEx T i j) : shown (.round (i : Nat) (j : Nat) (faT T i j : Nat)) T = true := by
  obtain ⟨_, h1, h2, h3⟩ := fa_head h
  have n0 : i ≠ j := fun z => by rw [← z, hs i hi] at hg; cases hg
  have n1 : i ≠ faT T i j := fun z => by rw [← z, hs i hi] at h2; cases h2
  have n2 : j ≠ faT T i j := fun z => by rw [← z, hm i j hi hj hg] at h2; cases h2
  have h4 : gt T j (faT T i j) = true := by
    rcases hn _ _ hj h1 n2 with h | h
    · exact h
    · rw [h3] at h; cases h
  simp only [shown, gi_nat]
  rw [three_of hi hj h1 n0 n1 n2, hg, h4, h2]; rfl
theorem line_of {T : Tb} {is : List Nat} (hr : Rect T T.length) (hs : NoSelf T) (hn : NoNei T) (hz : ∀ i j, i < T.length → j < T.length → gt T i j = true → szT T i < szT T j) (hp : is.Perm (List.range T.length)) (hso : is.Pairwise fun a b => szT T a ≤ szT T b) :
    shown (.line (intsOf is)) T = true := by
  have hP : isPerm (intsOf is) T.length = true := isPerm_iff.mpr (hp.map _)
  have hil : is.length = T.length := by rw [hp.length_eq, List.length_range]
  have hpl : (placesOf (intsOf is)).length = T.length := by rw [placesOf_len, intsOf_len, hil]
  show (isPerm (intsOf is) T.length && ranksOk (placesOf (intsOf is)) T) = true
  rw [hP, Bool.true_and]
  refine ranks_good hpl fun i row m h1 h2 => ?_
  have hi : i < T.length := (List.getElem?_eq_some_iff.mp h1).1
  have hlen : row.length = T.length := hr row (List.mem_of_getElem? h1)
  have pos : ∀ t, t < T.length → ∃ k : Nat, is[k]? = some t ∧ (placesOf (intsOf is))[t]? = some (k : Int) := fun t ht => by
    obtain ⟨k, hk⟩ := List.mem_iff_getElem?.mp (hp.mem_iff.mpr (List.mem_range.mpr ht))
    exact ⟨k, hk, placesOf_at hP (by unfold intsOf; rw [List.getElem?_map, hk]; rfl)⟩
  obtain ⟨k, hk, hk2⟩ := pos i hi
  rw [hk2] at h2
  cases h2
  refine List.ext_getElem? fun j => ?_
  rw [List.getElem?_map]
  by_cases hj : j < T.length
  · obtain ⟨l, hl, hl2⟩ := pos j hj
    have eg : row[j]? = some (gt T i j) := by
      unfold gt
      rw [List.getD_eq_getElem?_getD (l := T), h1, List.getElem?_eq_getElem (by omega)]
      show some row[j] = some (row.getD j false)
      rw [List.getD_eq_getElem?_getD, List.getElem?_eq_getElem (by omega)]; rfl
    rw [hl2, eg]
    show some (decide ((k : Int) < (l : Int))) = some (gt T i j)
    congr 1
    obtain ⟨hkl, hke⟩ := List.getElem?_eq_some_iff.mp hk
    obtain ⟨hll, hle⟩ := List.getElem?_eq_some_iff.mp hl
    have mono : ∀ {a b : Nat} (ha : a < is.length) (hb : b < is.length), a < b → szT T is[a] ≤ szT T is[b] := fun ha hb h => List.pairwise_iff_getElem.mp hso _ _ ha hb h
    cases hg : gt T i j with
    | true =>
      refine decide_eq_true ?_
      have h5 := hz i j hi hj hg
      rcases Nat.lt_trichotomy k l with h | h | h
      · omega
      · subst h
        rw [hke] at hle
        rw [hle, hs j hj] at hg
        cases hg
      · have := mono hll hkl h
        rw [hke, hle] at this
        omega
    | false =>
      refine decide_eq_false fun h => ?_
      have hij : i ≠ j := fun z => by
        subst z
        have := nodup_at (isPerm_nodup hP) (i := k) (j := l) (x := (i : Int)) (by unfold intsOf; rw [List.getElem?_map, hk]; rfl) (by unfold intsOf; rw [List.getElem?_map, hl]; rfl)
        omega
      rcases hn i j hi hj hij with h5 | h5
      · rw [hg] at h5; cases h5
      · have h6 := hz j i hj hi h5
        have := mono hkl hll (by omega)
        rw [hke, hle] at this
        omega
  · rw [List.getElem?_eq_none (by omega), List.getElem?_eq_none (by omega)]; rfl
/-- of a table of a strict order of all things only a line is told -/
theorem only_line {T : Tb} {ans : Ans} (hs : NoSelf T) (hm : NoMut T) (hn : NoNei T) (ht : ∀ i j k, i < T.length → j < T.length → k < T.length → gt T i j = true → gt T j k = true → gt T i k = true)
    (hk : ans.kd = .line ∨ ans.kd = .self ∨ ans.kd = .mutual ∨ ans.kd = .neither ∨ ans.kd = .round) (h : shown ans T = true) : ans.kd = .line := by
  cases ans with
  | line o => rfl
  | self a =>
    simp only [shown, Bool.and_eq_true] at h
    obtain ⟨i, rfl, hi⟩ := inT_nat h.1
    rw [gi_nat, hs i hi] at h
    cases h.2
  | «mutual» a b =>
    simp only [shown, Bool.and_eq_true] at h
    obtain ⟨i, rfl, hi⟩ := inT_nat h.1.2.1
    obtain ⟨j, rfl, hj⟩ := inT_nat h.1.2.2
    rw [gi_nat, gi_nat] at h
    have := hm i j hi hj h.2.1
    rw [h.2.2] at this
    cases this
  | neither a b =>
    simp only [shown, Bool.and_eq_true] at h
    obtain ⟨i, rfl, hi⟩ := inT_nat h.1.2.1
    obtain ⟨j, rfl, hj⟩ := inT_nat h.1.2.2
    rw [gi_nat, gi_nat] at h
    have hij : i ≠ j := fun z => by rw [z] at h; simp at h
    rcases hn i j hi hj hij with z | z
    · rw [z] at h; cases h.2.1
    · rw [z] at h; cases h.2.2
  | round a b c =>
    simp only [shown, Bool.and_eq_true] at h
    obtain ⟨q1, q2, q3⟩ := three_in h.1.1
    obtain ⟨i, rfl, hi⟩ := inT_nat q1
    obtain ⟨j, rfl, hj⟩ := inT_nat q2
    obtain ⟨k, rfl, hk'⟩ := inT_nat q3
    rw [gi_nat, gi_nat, gi_nat] at h
    have z := ht i j k hi hj hk' h.1.2.1 h.1.2.2
    have := hm i k hi hk' z
    rw [h.2] at this
    cases this
  | _ => rcases hk with h | h | h | h | h <;> cases h
end WA
namespace WA
open PySem PySem.Spec PyProof.Rows L2 Evl LamX
section
variable {K : PySem.W.Frag} {σ : L2.St} {H H' Hb : Hp} {ta tb te tl : TE} {D : Ends} {tz : TS}
/-- for place, thing in enumerate(order): places[thing] = place -/
theorem s_forPlaces {a p : Addr} {o L0 : List Int} {n : Nat} (Sg : L2.St → Prop) (he : Ex Hb H) (hb : Hb p = none) (hs : SqL K Hb a (o.map V.int)) (ha : Ev tl σ H (.ref a)) (hP : isPerm o n = true) (hn : n ≤ 1000) (hL : L0.length = n) (hp : H p = some (.lst (L0.map V.int)))
    (g0 : Sg σ) (gs : ∀ σ' x y, Sg σ' → Sg ((σ'.set 4 (some x)).set 2 (some y))) (gv : ∀ σ' x y, Sg σ' → ((σ'.set 4 (some x)).set 2 (some y))[4]? = some (some x) ∧ ((σ'.set 4 (some x)).set 2 (some y))[2]? = some (some y) ∧ ((σ'.set 4 (some x)).set 2 (some y))[3]? = some (some (.ref p)))
    (hd : ∀ σ' H1, Ex Hb H1 → Sg σ' → H1 p = some (.lst ((placesOf o).map V.int)) → D.nx σ' H1) :
    tFor (iEnum K (tCons tl tNil)) (gTup K 2 (gCons (gName 4) (gCons (gName 2) gNil))) (tAsg (tVar 4) (gSub (tVar 3) (tVar 2) rSetL)) D σ H :=
  ha H (Ex.refl H) _ fun H1 e1 => ⟨a, _, rfl, ex_l (he.trans e1) hs, by
    have hon := isPerm_len hP
    refine for_itS (J := Ite K a) (n := o.length) (fun k σ' H' => Ex Hb H' ∧ Sg σ' ∧ ∃ L : List Int, L.length = n ∧ H' p = some (.lst (L.map V.int)) ∧ ∀ (j : Nat) (t : Int), j < k → o[j]? = some t → L[t.toNat]? = some (j : Int)) ⟨he.trans e1, g0, L0, hL, e1 _ _ hp, fun j t hj => absurd hj (Nat.not_lt_zero _)⟩
      (fun σ' H' pv => ⟨_, ex_l pv.1 hs, by rw [List.length_map]; exact Nat.le_refl _⟩) (fun k σ' H' hk pv => ⟨_, V.int o[k], ex_l pv.1 hs, by rw [List.getElem?_map, List.getElem?_eq_getElem hk]; rfl⟩) (fun k x σ' H' H'' hk pv hyl => ?_) fun σ' H' pv => ?_
    · obtain ⟨ex, sg, L, hl, hp', hpt⟩ := pv
      obtain ⟨T, y1, rfl, hT, rfl, hf⟩ := hyl
      have ey1 := hf _ (ex_l ex hs)
      rw [List.getElem?_map, List.getElem?_eq_getElem hk] at ey1
      have ey1 := (Option.some.inj ey1).symm
      subst ey1
      obtain ⟨v1, v2, v3⟩ := gv σ' (.int (k : Nat)) (.int o[k]) sg
      have hk2 : o[k]? = some o[k] := List.getElem?_eq_getElem hk
      generalize o[k] = t at *
      have ht := (isPerm_mem hP).mp (List.mem_of_getElem? hk2)
      obtain ⟨m, rfl⟩ : ∃ m : Nat, t = (m : Int) := ⟨t.toNat, by omega⟩
      have hpT : p ≠ T := fun z => by rw [z, hT] at hp'; cases hp'
      refine g_pair (st_of upd_same) (s_setL (j := m) (v := .int (k : Nat)) (xs := L.map V.int) (by rw [upd_ne hpT]; exact hp') (ev_var v1) (ev_var v3) (ev_var v2) (by rw [List.length_map]; omega) fun H7 e7 => ⟨Ex.mut ((ex.trans (Ex.new hT)).trans e7) hb, gs _ _ _ sg, L.set m (k : Int), by rw [List.length_set]; exact hl, by rw [upd_same, List.map_set], fun j t hj ho => ?_⟩)
      by_cases hjk : j = k
      · subst hjk
        rw [hk2] at ho
        cases ho
        rw [Int.toNat_natCast, List.getElem?_set, if_pos rfl, if_pos (by omega)]
      · have ht2 := (isPerm_mem hP).mp (List.mem_of_getElem? ho)
        have hne : m ≠ t.toNat := fun z => hjk (nodup_at (isPerm_nodup hP) (ho.trans (by rw [show t = (m : Int) by omega])) hk2)
        rw [List.getElem?_set_ne hne]
        exact hpt j t (by omega) ho
    · obtain ⟨ex, sg, L, hl, hp', hpt⟩ := pv
      have e := places_at hP hl fun j t h => hpt j t (List.getElem?_eq_some_iff.mp h).1 h
      rw [e] at hp'
      exact hd σ' H' ex sg hp'⟩
theorem q_forPlaces {a p : Addr} {o L0 : List Int} {n : Nat} (Sg : L2.St → Prop) (he : Ex Hb H) (hb : Hb p = none) (hs : SqL K Hb a (o.map V.int)) (ha : Ev tl σ H (.ref a)) (hP : isPerm o n = true) (hn : n ≤ 1000) (hL : L0.length = n) (hp : H p = some (.lst (L0.map V.int)))
    (g0 : Sg σ) (gs : ∀ σ' x y, Sg σ' → Sg ((σ'.set 4 (some x)).set 2 (some y))) (gv : ∀ σ' x y, Sg σ' → ((σ'.set 4 (some x)).set 2 (some y))[4]? = some (some x) ∧ ((σ'.set 4 (some x)).set 2 (some y))[2]? = some (some y) ∧ ((σ'.set 4 (some x)).set 2 (some y))[3]? = some (some (.ref p)))
    (hd : ∀ σ' H1, Ex Hb H1 → Sg σ' → H1 p = some (.lst ((placesOf o).map V.int)) → tz D σ' H1) :
    tSeq (tFor (iEnum K (tCons tl tNil)) (gTup K 2 (gCons (gName 4) (gCons (gName 2) gNil))) (tAsg (tVar 4) (gSub (tVar 3) (tVar 2) rSetL))) tz D σ H := s_forPlaces (D := { D with nx := tz D }) Sg he hb hs ha hP hn hL hp g0 gs gv hd
end
end WA

namespace WA
open PySem PySem.Spec PyProof.Rows L2 Evl LamX
section
variable {K : PySem.W.Frag} {σ : L2.St} {H H' Hb : Hp} {ta tb te tl : TE} {D : Ends} {tz : TS} {vs : List Nat}
/-- a list of new lists, all alike -/
theorem lc_rows {a : Addr} {ns : List Int} {row : List V} {j : Nat} (ha : Ev tl σ H (.ref a)) (hs : SqL K H a (ns.map V.int)) (hz : ns.length ≤ 1000) (hw : ∀ x, wipe ((wipe σ vs).set j (some x)) vs = wipe σ vs) (he : ∀ c : Int, EvL te ((wipe σ vs).set j (some (.int c))) H row) {Q : VK}
    (q : ∀ R (as : List Addr) H1, H R = none → Ex H H1 → H1 R = some (.lst (as.map V.ref)) → as.length = ns.length → (∀ b ∈ as, H b = none ∧ b ≠ R ∧ H1 b = some (.lst row)) → Q (.ref R) H1) : tLc (iList K tl) (gName j) tYes te vs σ H Q :=
  ha H (Ex.refl H) _ fun H0 e0 => ⟨a, rfl, ⟨_, ex_l e0 hs⟩, fun D hD => lc_list (xs := ns.map V.int) (fun i H' => ∃ as : List Addr, as.length = i ∧ Ex H0 H' ∧ H' D = some (.lst (as.map V.ref)) ∧ ∀ b ∈ as, H b = none ∧ b ≠ D ∧ H' b = some (.lst row)) ⟨[], rfl, Ex.new hD, upd_same, fun b hb => by cases hb⟩
    (fun i H' _ pv => by obtain ⟨as, _, e, _⟩ := pv; exact ex_l (e0.trans e) hs)
    (fun i x H' hi pv => by
      obtain ⟨as, hl, e, hd, hb⟩ := pv
      have hil := (List.getElem?_eq_some_iff.mp hi).1
      rw [List.length_map] at hil
      rw [List.getElem?_map] at hi
      obtain ⟨c, hc, rfl⟩ := Option.map_eq_some_iff.mp hi
      refine ⟨hw _, et_yes H' (Ex.refl H') _ fun H3 e3 => ?_⟩
      rw [if_pos rfl]
      have e03 := (e0.trans e).trans e3
      refine he c H3 e03 _ fun p H4 hp e4 h4 => ?_
      have hD4 := e4 D _ (e3 D _ hd)
      have hpD : p ≠ D := fun z => by rw [z, e3 D _ hd] at hp; cases hp
      refine ⟨as.map V.ref, hD4, sz_lt (by rw [List.length_map]; omega), as ++ [p], by rw [List.length_append, hl]; rfl, Ex.mut ((e.trans e3).trans e4) hD, by rw [upd_same, List.map_append]; rfl, fun b hbm => ?_⟩
      rcases List.mem_append.mp hbm with hbm | hbm
      · obtain ⟨z1, z2, z3⟩ := hb b hbm
        exact ⟨z1, z2, by rw [upd_ne z2]; exact e4 b _ (e3 b _ z3)⟩
      · rw [List.mem_singleton.mp hbm]
        exact ⟨fresh_back e03 hp, hpD, by rw [upd_ne hpD]; exact h4⟩)
    (fun H' pv => by
      obtain ⟨as, hl, e, hd, hb⟩ := pv
      rw [List.length_map] at hl
      exact q D as H' (fresh_back e0 hD) (e0.trans e) hd hl hb)⟩
/-- a list of new pairs of ints, over enumerate -/
theorem lc_pairs {l : List Int} {f : Nat → Int → Int} {i j : Nat} (h : EvS K tl σ H (l.map V.int)) (hz : l.length ≤ 1000) (hw : ∀ x y, wipe (((wipe σ vs).set i (some x)).set j (some y)) vs = wipe σ vs)
    (he : ∀ (k : Nat) (x : Int), EvU te (((wipe σ vs).set i (some (.int (k : Nat)))).set j (some (.int x))) H [.int (f k x), .int (k : Nat)]) {Q : VK}
    (q : ∀ R (ks : List (Addr × (Int × Int))) H1, Ex H H1 → H1 R = some (.lst (ks.map fun x => V.ref x.1)) → ks.map (fun x => x.2) = ((List.range l.length).zip l).map (fun x => (f x.1 x.2, (x.1 : Int))) → (∀ x ∈ ks, H1 x.1 = some (.tup [.int x.2.1, .int x.2.2])) → Q (.ref R) H1) :
    tLc (iEnum K (tCons tl tNil)) (gTup K 2 (gCons (gName i) (gCons (gName j) gNil))) tYes te vs σ H Q :=
  h H (Ex.refl H) _ fun a H1 e1 hx => ⟨a, _, rfl, hx, fun D hD => by
    have hlen : ((List.range l.length).zip l).length = l.length := by rw [List.length_zip, List.length_range]; omega
    refine lc_it (J := Ite K a) (n := l.length) (fun k H' => ∃ ks : List (Addr × (Int × Int)), Ex H1 H' ∧ H' D = some (.lst (ks.map fun x => V.ref x.1)) ∧ ks.map (fun x => x.2) = (((List.range l.length).zip l).take k).map (fun x => (f x.1 x.2, (x.1 : Int))) ∧ ∀ x ∈ ks, x.1 ≠ D ∧ H' x.1 = some (.tup [.int x.2.1, .int x.2.2]))
      (fun H' pv => by obtain ⟨ks, e, _⟩ := pv; exact ⟨_, ex_l e hx, by rw [List.length_map]; exact Nat.le_refl _⟩)
      (fun k H' hk pv => by obtain ⟨ks, e, _⟩ := pv; exact ⟨_, V.int l[k], ex_l e hx, by rw [List.getElem?_map, List.getElem?_eq_getElem hk]; rfl⟩) ⟨[], Ex.new hD, upd_same, rfl, fun x hx => by cases hx⟩ (fun k x H' H'' hk pv hy => ?_) (fun H' pv => ?_)
    · obtain ⟨ks, e, hd, hks, hkt⟩ := pv
      obtain ⟨T, y, rfl, hT, rfl, hf⟩ := hy
      have hl : l[k]? = some l[k] := List.getElem?_eq_getElem hk
      have ey := hf _ (ex_l e hx)
      rw [List.getElem?_map, hl] at ey
      have ey := (Option.some.inj ey).symm
      subst ey
      have hz2 : ((List.range l.length).zip l)[k]? = some (k, l[k]) := by rw [List.getElem?_zip_eq_some]; exact ⟨List.getElem?_range hk, hl⟩
      have hkl : ks.length = k := by
        have z := congrArg List.length hks
        rw [List.length_map, List.length_map, List.length_take, hlen] at z
        omega
      have nTD : D ≠ T := fun z => by rw [← z, hd] at hT; cases hT
      refine g_pair (st_of upd_same) ⟨hw _ _, et_yes _ (Ex.refl _) _ fun H3 e3 => ?_⟩
      rw [if_pos rfl]
      have eT : Ex H' H3 := (Ex.new hT).trans e3
      refine he k l[k] H3 ((e1.trans e).trans eT) _ fun p H4 hp e4 h4 => ?_
      have hD4 := e4 D _ (eT D _ hd)
      have hpD : p ≠ D := fun z => by rw [z, eT D _ hd] at hp; cases hp
      refine ⟨ks.map fun x => V.ref x.1, hD4, sz_lt (by rw [List.length_map]; omega), ks ++ [(p, (f k l[k], (k : Int)))], Ex.mut ((e.trans eT).trans e4) hD, by rw [upd_same, List.map_append]; rfl, ?_, fun x hxm => ?_⟩
      · rw [List.map_append, hks, List.take_add_one, hz2, List.map_append]; rfl
      · rcases List.mem_append.mp hxm with hxm | hxm
        · obtain ⟨z1, z2⟩ := hkt x hxm
          exact ⟨z1, by rw [upd_ne z1]; exact e4 _ _ (eT _ _ z2)⟩
        · rw [List.mem_singleton.mp hxm]
          exact ⟨hpD, by rw [upd_ne hpD]; exact h4⟩
    · obtain ⟨ks, e, hd, hks, hkt⟩ := pv
      have e2 : ((List.range l.length).zip l).take l.length = (List.range l.length).zip l := List.take_of_length_le (by rw [hlen]; exact Nat.le_refl _)
      rw [e2] at hks
      exact q D ks H' (e1.trans e) hd hks fun x hxm => (hkt x hxm).2⟩
theorem q_asgE {i : Nat} (h : te σ H (fun v H1 => tz D (σ.set i (some v)) H1)) : tSeq (tAsg te (gName i)) tz D σ H := h
theorem rv_ltT {a b : Addr} {i j k l : Int} (ha : H a = some (.tup [.int i, .int j])) (hb : H b = some (.tup [.int k, .int l])) : RV (rLtT K) (.ref a) (.ref b) H (.bl (HT.lexLt [i, j] [k, l])) := fun H1 e Q q =>
  ⟨a, b, [i, j], [k, l], rfl, rfl, st_of (e _ _ ha), st_of (e _ _ hb), q H1 (Ex.refl H1)⟩
end
/-! ### a table in a line, by keys -/
def ltP (x y : Int × Int) : Bool := HT.lexLt [x.1, x.2] [y.1, y.2]
theorem ltP_iff {x y : Int × Int} : ltP x y = true ↔ x.1 < y.1 ∨ (x.1 = y.1 ∧ x.2 < y.2) := by
  unfold ltP
  rw [HT.lexLt_cons]
  by_cases h : x.1 = y.1
  · rw [if_pos h, HT.lexLt_cons]
    by_cases h2 : x.2 = y.2
    · rw [if_pos h2, HT.lexLt_nil_nil]; simp; omega
    · rw [if_neg h2, decide_eq_true_eq]; omega
  · rw [if_neg h, decide_eq_true_eq]; omega
def keyT (ks : List (Int × Int)) : Tb := ks.map fun x => ks.map fun y => ltP x y
theorem keyT_len (ks : List (Int × Int)) : (keyT ks).length = ks.length := List.length_map _
theorem keyT_rect (ks : List (Int × Int)) : Rect (keyT ks) (keyT ks).length := by
  rw [keyT_len]
  exact rect_signs ks ks _
theorem keyT_at {ks : List (Int × Int)} {i j : Nat} (hi : i < ks.length) (hj : j < ks.length) : gt (keyT ks) i j = ltP ks[i] ks[j] := by
  unfold gt keyT
  rw [List.getD_eq_getElem?_getD (l := ks.map _), List.getElem?_map, List.getElem?_eq_getElem hi]
  show ((ks.map fun y => ltP ks[i] y).getD j false) = _
  rw [List.getD_eq_getElem?_getD, List.getElem?_map, List.getElem?_eq_getElem hj]; rfl
theorem keyT_line {ks : List (Int × Int)} {ans : Ans} (hn : ∀ (i j : Nat) (hi : i < ks.length) (hj : j < ks.length), ks[i] = ks[j] → i = j) (hk : ans.kd = .line ∨ ans.kd = .self ∨ ans.kd = .mutual ∨ ans.kd = .neither ∨ ans.kd = .round) (h : shown ans (keyT ks) = true) : ans.kd = .line := by
  refine only_line (T := keyT ks) (fun i hi => ?_) (fun i j hi hj hg => ?_) (fun i j hi hj hij => ?_) (fun i j k hi hj hkl h1 h2 => ?_) hk h
  · rw [keyT_len] at hi
    rw [keyT_at hi hi]
    cases e : ltP ks[i] ks[i] with
    | false => rfl
    | true => have := ltP_iff.mp e; omega
  · rw [keyT_len] at hi hj
    rw [keyT_at hi hj] at hg
    rw [keyT_at hj hi]
    cases e : ltP ks[j] ks[i] with
    | false => rfl
    | true =>
      have := ltP_iff.mp e
      have := ltP_iff.mp hg
      omega
  · rw [keyT_len] at hi hj
    rw [keyT_at hi hj, keyT_at hj hi, ltP_iff, ltP_iff]
    by_cases h1 : ks[i].1 = ks[j].1
    · by_cases h2 : ks[i].2 = ks[j].2
      · exact absurd (hn i j hi hj (Prod.ext h1 h2)) hij
      · omega
    · omega
  · rw [keyT_len] at hi hj hkl
    rw [keyT_at hi hj, ltP_iff] at h1
    rw [keyT_at hj hkl, ltP_iff] at h2
    rw [keyT_at hi hkl, ltP_iff]
    omega
end WA

namespace WA
open PySem PySem.Spec PyProof.Rows L2 Evl LamX
/-! ### slices of lists of ints -/
def cutI (ns : List Int) (lo hi : Option Int) : List Int := (ns.drop (HT.sIx ns.length 0 lo)).take (HT.sIx ns.length ns.length hi - HT.sIx ns.length 0 lo)
theorem cutV_ints (ns : List Int) (lo hi : Option Int) : cutV (ns.map V.int) lo hi = (cutI ns lo hi).map V.int := by
  unfold cutV cutI
  rw [List.length_map, ← List.map_drop, ← List.map_take]
theorem cutI_len (ns : List Int) (lo hi : Option Int) : (cutI ns lo hi).length ≤ ns.length := by
  unfold cutI
  rw [List.length_take, List.length_drop]
  omega
theorem back_le : ∀ n, n < 300 → stepLen none none (some (-1)) n ≤ n := by decide +kernel
theorem pick_back {ns : List Int} (h : ns.length < 300) : (pick ns none none (some (-1))).length ≤ ns.length := Nat.le_trans (pick_len _ _ _ _) (back_le _ h)
section
variable {K : PySem.W.Frag} {σ : L2.St} {H H' H0 Hb : Hp} {ta tb te tl : TE} {ts : TA} {t u : L2.TT} {D : Ends} {tu tz : TS} {k n m : Nat} {g : TG}
/-! ### lists of ints of a bounded length -/
def EvB (K : PySem.W.Frag) (te : TE) (σ : L2.St) (H : Hp) (k : Nat) : Prop := ∀ H1, Ex H H1 → ∀ Q : VK, (∀ p (ns : List Int) H2, Ex H1 H2 → SqL K H2 p (ns.map V.int) → ns.length ≤ k → Q (.ref p) H2) → te σ H1 Q
theorem evb_s {ns : List Int} (h : EvS K te σ H (ns.map V.int)) (hl : ns.length ≤ k) : EvB K te σ H k := fun H1 e Q q => h H1 e Q fun p H2 e2 hp => q p ns H2 e2 hp hl
theorem evb_lp {P : List V → Prop} (h : EvLP te σ H P) (hP : ∀ xs, P xs → ∃ ns : List Int, xs = ns.map V.int ∧ ns.length ≤ k) : EvB K te σ H k := fun H1 e Q q => h H1 e Q fun xs p H2 px _ e2 hp => by
  obtain ⟨ns, rfl, hl⟩ := hP xs px
  exact q p ns H2 e2 (sq_of hp) hl
/-- some such lists as arguments -/
def BsAre (K : PySem.W.Frag) (H : Hp) (k : Nat) : Nat → List V → Prop
  | 0, vs => vs = []
  | n + 1, vs => ∃ p, ∃ ns : List Int, ∃ ws, vs = .ref p :: ws ∧ SqL K H p (ns.map V.int) ∧ ns.length ≤ k ∧ BsAre K H k n ws
theorem BsAre.mono (e : Ex H H') : ∀ {n : Nat} {vs : List V}, BsAre K H k n vs → BsAre K H' k n vs
  | 0, _, h => h
  | n + 1, _, ⟨p, ns, ws, h1, h2, h3, h4⟩ => ⟨p, ns, ws, h1, ex_l e h2, h3, h4.mono e⟩
theorem BsAre.len : ∀ {n : Nat} {vs : List V}, BsAre K H k n vs → vs.length = n
  | 0, vs, h => by rw [show vs = [] from h]; rfl
  | n + 1, _, ⟨p, ns, ws, h1, h2, h3, h4⟩ => by rw [h1, List.length_cons, h4.len]
def EvBs (K : PySem.W.Frag) (ts : TA) (σ : L2.St) (H : Hp) (k n : Nat) : Prop := ∀ H1, Ex H H1 → ∀ Q : List V → Hp → Prop, (∀ vs H2, Ex H1 H2 → BsAre K H2 k n vs → Q vs H2) → ts σ H1 Q
theorem ebs_nil : EvBs K tNil σ H k 0 := fun H1 _ _ q => q [] H1 (Ex.refl H1) rfl
theorem ebs_cons (h : EvB K te σ H k) (hr : EvBs K ts σ H k n) : EvBs K (tCons te ts) σ H k (n + 1) := fun H1 e _ q =>
  h H1 e _ fun p ns H2 e2 hp hl => hr H2 (e.trans e2) _ fun vs H3 e3 r => q _ H3 (e2.trans e3) ⟨p, ns, vs, rfl, ex_l e3 hp, hl, r⟩
/-- a tuple of such lists -/
def TupAt (K : PySem.W.Frag) (H : Hp) (k n : Nat) (v : V) : Prop := ∃ T ws, v = .ref T ∧ SqT K H T ws ∧ BsAre K H k n ws
theorem TupAt.mono {v : V} (e : Ex H H') (h : TupAt K H k n v) : TupAt K H' k n v := let ⟨T, ws, h1, h2, h3⟩ := h; ⟨T, ws, h1, ex_t e h2, h3.mono e⟩
def EvTp (K : PySem.W.Frag) (te : TE) (σ : L2.St) (H : Hp) (k n : Nat) : Prop := ∀ H1, Ex H H1 → ∀ Q : VK, (∀ v H2, Ex H1 H2 → TupAt K H2 k n v → Q v H2) → te σ H1 Q
theorem etp (h : EvBs K ts σ H k n) (hn : n ≤ 1000) : EvTp K (tTup ts) σ H k n := fun H1 e Q q => h H1 e _ fun vs H2 e2 r =>
  ⟨sz_of (by rw [r.len]; omega), fun T hT => q (.ref T) _ (e2.trans (Ex.new hT)) ⟨T, vs, rfl, st_of upd_same, r.mono (Ex.new hT)⟩⟩
/-- a list of m such tuples -/
def EvTs (K : PySem.W.Frag) (ts : TA) (σ : L2.St) (H : Hp) (k n m : Nat) : Prop := ∀ H1, Ex H H1 → ∀ Q : List V → Hp → Prop, (∀ vs H2, Ex H1 H2 → (∀ v ∈ vs, TupAt K H2 k n v) → vs.length = m → Q vs H2) → ts σ H1 Q
theorem ets_nil : EvTs K tNil σ H k n 0 := fun H1 _ _ q => q [] H1 (Ex.refl H1) (fun v hv => by cases hv) rfl
theorem ets_cons (h : EvTp K te σ H k n) (hr : EvTs K ts σ H k n m) : EvTs K (tCons te ts) σ H k n (m + 1) := fun H1 e _ q =>
  h H1 e _ fun v H2 e2 hv => hr H2 (e.trans e2) _ fun vs H3 e3 r hl => q _ H3 (e2.trans e3) (fun x hx => by
    rcases List.mem_cons.mp hx with rfl | hx
    · exact hv.mono e3
    · exact r x hx) (by rw [List.length_cons, hl])
def EvTl (K : PySem.W.Frag) (te : TE) (σ : L2.St) (H : Hp) (k n m : Nat) : Prop := ∀ H1, Ex H H1 → ∀ Q : VK, (∀ p vs H2, Ex H1 H2 → H2 p = some (.lst vs) → (∀ v ∈ vs, TupAt K H2 k n v) → vs.length = m → Q (.ref p) H2) → te σ H1 Q
theorem etl_lst (h : EvTs K ts σ H k n m) (hm : m ≤ 1000) : EvTl K (tLst ts) σ H k n m := fun H1 e Q q => h H1 e _ fun vs H2 e2 r hl =>
  ⟨sz_of (by omega), fun p hp => q p vs _ (e2.trans (Ex.new hp)) upd_same (fun v hv => (r v hv).mono (Ex.new hp)) hl⟩
theorem etl_var {p : Addr} {vs : List V} (h : Ev te σ H (.ref p)) (hp : H p = some (.lst vs)) (hv : ∀ v ∈ vs, TupAt K H k n v) (hl : vs.length = m) : EvTl K te σ H k n m := fun H1 e Q q => h H1 e Q fun H2 e2 => q p vs H2 e2 ((e.trans e2) _ _ hp) (fun v hm => (hv v hm).mono (e.trans e2)) hl
theorem etl_cat {m' : Nat} (ha : EvTl K ta σ H k n m) (hb : EvTl K tb σ H k n m') (hz : m + m' ≤ 1000) : EvTl K (tOp rCat ta tb) σ H k n (m + m') := fun H1 e Q q =>
  ha H1 e _ fun p vs H2 e2 hp hv hl => hb H2 (e.trans e2) _ fun p' vs' H3 e3 hp' hv' hl' => ⟨p, p', vs, vs', rfl, rfl, e3 p _ hp, hp', sz_of (by omega), fun l hll => q l _ _ ((e2.trans e3).trans (Ex.new hll)) upd_same (fun v hm => by
    rcases List.mem_append.mp hm with hm | hm
    · exact (hv v hm).mono (e3.trans (Ex.new hll))
    · exact (hv' v hm).mono (Ex.new hll)) (by rw [List.length_append, hl, hl'])⟩
theorem q_asgTl {i : Nat} (h : EvTl K te σ H k n m) (q : ∀ p vs H1, Ex H H1 → H1 p = some (.lst vs) → (∀ v ∈ vs, TupAt K H1 k n v) → vs.length = m → tz D (σ.set i (some (.ref p))) H1) : tSeq (tAsg te (gName i)) tz D σ H :=
  h H (Ex.refl H) _ fun p vs H1 e1 hp hv hl => q p vs H1 e1 hp hv hl
/-- over such a list; nothing is changed but what a turn makes -/
theorem q_forTl (h : EvTl K tl σ H k n m) (Pv : L2.St → Prop) (h0 : Pv σ)
    (hs : ∀ v σ' H', Ex H H' → TupAt K H' k n v → Pv σ' → ∀ D' : Ends, D'.rt = D.rt → (∀ σ2 H2, Ex H' H2 → Pv σ2 → D'.nx σ2 H2) → g v σ' H' fun σ2 H2 => tu D' σ2 H2) (hd : ∀ σ' H', Ex H H' → Pv σ' → tz D σ' H') : tSeq (tFor (iList K tl) g tu) tz D σ H :=
  h H (Ex.refl H) _ fun p vs H1 e1 hp hv hl => ⟨p, rfl, ⟨vs, sq_of hp⟩, by
    refine for_list (D := { D with nx := tz D }) (fun _ σ' H' => Ex H1 H' ∧ Pv σ') ⟨Ex.refl _, h0⟩ (fun i σ' H' _ q => sq_of (q.1 _ _ hp)) (fun i x σ' H' hi q => ?_) fun σ' H' q => hd σ' H' (e1.trans q.1) q.2
    exact hs x σ' H' (e1.trans q.1) ((hv x (List.mem_of_getElem? hi)).mono q.1) q.2 _ rfl fun σ2 H2 x2 pv => ⟨q.1.trans x2, pv⟩⟩
/-- over a display of bounded lists -/
theorem q_forBs {j : Nat} (h : EvBs K ts σ H k n) (hn : n ≤ 1000) (Pv : L2.St → Prop) (h0 : Pv σ)
    (hs : ∀ p (ns : List Int) σ' H', Ex H H' → SqL K H' p (ns.map V.int) → ns.length ≤ k → Pv σ' → ∀ D' : Ends, D'.rt = D.rt → (∀ σ2 H2, Ex H' H2 → Pv σ2 → D'.nx σ2 H2) → tu D' (σ'.set j (some (.ref p))) H') (hd : ∀ σ' H', Ex H H' → Pv σ' → tz D σ' H') : tSeq (tFor (iList K (tLst ts)) (gName j) tu) tz D σ H :=
  h H (Ex.refl H) _ fun vs H1 e1 r => ⟨sz_of (by rw [r.len]; omega), fun q hq => ⟨q, rfl, ⟨vs, sq_of upd_same⟩, by
    have all : ∀ {n : Nat} {vs : List V}, BsAre K H1 k n vs → ∀ v ∈ vs, ∃ p, ∃ ns : List Int, v = .ref p ∧ SqL K H1 p (ns.map V.int) ∧ ns.length ≤ k := by
      intro n
      induction n with
      | zero => intro vs h v hv; rw [show vs = [] from h] at hv; cases hv
      | succ n ih =>
        rintro vs ⟨p, ns, ws, rfl, h2, h3, h4⟩ v hv
        rcases List.mem_cons.mp hv with rfl | hv
        · exact ⟨p, ns, rfl, h2, h3⟩
        · exact ih h4 v hv
    have e2 : Ex H1 (upd H1 q (.lst vs)) := Ex.new hq
    refine for_list (D := { D with nx := tz D }) (fun _ σ' H' => Ex (upd H1 q (.lst vs)) H' ∧ Pv σ') ⟨Ex.refl _, h0⟩ (fun i σ' H' _ z => sq_of (z.1 _ _ upd_same)) (fun i x σ' H' hi z => ?_) fun σ' H' z => hd σ' H' ((e1.trans e2).trans z.1) z.2
    obtain ⟨p, ns, rfl, hp, hl⟩ := all r x (List.mem_of_getElem? hi)
    exact hs p ns σ' H' ((e1.trans e2).trans z.1) (ex_l (e2.trans z.1) hp) hl z.2 _ rfl fun σ2 H2 x2 pv => ⟨z.1.trans x2, pv⟩⟩⟩
theorem g_tup2 {i j : Nat} {v : V} {Q : L2.St → Hp → Prop} (h : TupAt K H k 2 v) (q : ∀ p p' (a b : List Int), SqL K H p (a.map V.int) → SqL K H p' (b.map V.int) → a.length ≤ k → b.length ≤ k → Q ((σ.set i (some (.ref p))).set j (some (.ref p'))) H) : gTup K 2 (gCons (gName i) (gCons (gName j) gNil)) v σ H Q := by
  obtain ⟨T, ws, rfl, hT, p, a, _, rfl, hp, ha, p', b, _, rfl, hp', hb, rfl⟩ := h
  exact g_pair hT (q p p' a b hp hp' ha hb)
theorem g_tup3 {i j l : Nat} {v : V} {Q : L2.St → Hp → Prop} (h : TupAt K H k 3 v) (q : ∀ p p' p'' (a b c : List Int), SqL K H p (a.map V.int) → SqL K H p' (b.map V.int) → SqL K H p'' (c.map V.int) → a.length ≤ k → b.length ≤ k → c.length ≤ k → Q (((σ.set i (some (.ref p))).set j (some (.ref p'))).set l (some (.ref p''))) H) : gTup K 3 (gCons (gName i) (gCons (gName j) (gCons (gName l) gNil))) v σ H Q := by
  obtain ⟨T, ws, rfl, hT, p, a, _, rfl, hp, ha, p', b, _, rfl, hp', hb, p'', c, _, rfl, hp'', hc, rfl⟩ := h
  exact ⟨T, _, rfl, hT, rfl, _, _, rfl, _, _, rfl, _, [], rfl, rfl, q p p' p'' a b c hp hp' hp'' ha hb hc⟩
/-! ### lists of lists, compared -/
/-- evaluates to a list of these lists -/
def EvNs (K : PySem.W.Frag) (te : TE) (σ : L2.St) (H : Hp) (ls : List (List Int)) : Prop := ∀ H1, Ex H H1 → ∀ Q : VK, (∀ p vs H2, Ex H1 H2 → SqL K H2 p vs → AvsAre K H2 (ls.map fun l => Av.s (l.map V.int)) vs → Q (.ref p) H2) → te σ H1 Q
theorem avs_len : ∀ {as : List Av} {vs : List V}, AvsAre K H as vs → vs.length = as.length
  | [], vs, h => by rw [show vs = [] from h]; rfl
  | .v x :: r, vs, ⟨ws, h1, h2⟩ => by rw [h1, List.length_cons, List.length_cons, avs_len h2]
  | .s xs :: r, vs, ⟨p, ws, h1, h2, h3⟩ => by rw [h1, List.length_cons, List.length_cons, avs_len h3]
theorem AvsAre.mono' (e : Ex H H') : ∀ {as : List Av} {vs : List V}, AvsAre K H as vs → AvsAre K H' as vs
  | [], _, h => h
  | .v _ :: _, _, ⟨ws, h1, h2⟩ => ⟨ws, h1, h2.mono' e⟩
  | .s _ :: _, _, ⟨p, ws, h1, h2, h3⟩ => ⟨p, ws, h1, ex_l e h2, h3.mono' e⟩
theorem ens_lst {ls : List (List Int)} (h : EvAv K ts σ H (ls.map fun l => Av.s (l.map V.int))) (hl : ls.length ≤ 1000) : EvNs K (tLst ts) σ H ls := fun H1 e Q q =>
  h H1 e _ fun vs H2 e2 r => ⟨sz_of (by rw [avs_len r, List.length_map]; omega), fun p hp => q p vs _ (e2.trans (Ex.new hp)) (sq_of upd_same) (r.mono' (Ex.new hp))⟩
def dN (ls : List (List Int)) : List PyData := ls.map fun l => PyData.list ((l.map V.int).map dat)
theorem dp_nest : ∀ {ls : List (List Int)} {vs : List V}, AvsAre K H (ls.map fun l => Av.s (l.map V.int)) vs → DpAll K H vs (dN ls)
  | [], vs, h => by rw [show vs = [] from h]; exact .nil
  | l :: ls, vs, ⟨p, ws, h1, h2, h3⟩ => by
    rw [h1]
    exact .cons (.lst h2 (dp_all (si_ints l))) (dp_nest h3)
theorem nest_shape : ∀ ls : List (List Int), PyData.canLayAll0 (dN ls) = true ∧ PyData.depthAll (dN ls) ≤ 1
  | [] => ⟨rfl, Nat.zero_le _⟩
  | l :: ls => by
    have a := lay_all (si_ints l)
    have b := nest_shape ls
    refine ⟨?_, ?_⟩
    · show (PyData.canLay0 (.list ((l.map V.int).map dat)) && PyData.canLayAll0 (dN ls)) = true
      have e1 : PyData.canLay0 (.list ((l.map V.int).map dat)) = PyData.canLayAll0 ((l.map V.int).map dat) := by simp [PyData.canLay0]
      rw [e1, a.1, b.1]; rfl
    · show max (PyData.depth (.list ((l.map V.int).map dat))) (PyData.depthAll (dN ls)) ≤ 1
      have e2 : PyData.depth (.list ((l.map V.int).map dat)) = PyData.depthAll ((l.map V.int).map dat) + 1 := by simp [PyData.depth]
      rw [e2, a.2]
      exact Nat.max_le.mpr ⟨Nat.le_refl _, b.2⟩
theorem nest_shaped (ls : List (List Int)) : SeqAt.shaped (.list (dN ls)) = true := by
  have a := nest_shape ls
  unfold SeqAt.shaped
  have e1 : PyData.canLay0 (.list (dN ls)) = PyData.canLayAll0 (dN ls) := by simp [PyData.canLay0]
  have e2 : PyData.depth (.list (dN ls)) = PyData.depthAll (dN ls) + 1 := by simp [PyData.depth]
  rw [e1, e2, a.1, decide_eq_true (by omega)]; rfl
theorem nest_eqv : ∀ ls : List (List Int), PyData.eqvAll (dN ls) (dN ls) = true
  | [] => rfl
  | l :: ls => by
    show PyData.eqvAll (PyData.list ((l.map V.int).map dat) :: dN ls) (PyData.list ((l.map V.int).map dat) :: dN ls) = true
    rw [PyData.eqvAll, eqv_list (si_ints l) (si_ints l), nest_eqv ls]; simp
theorem ev_neNs {ls : List (List Int)} (h : EvNs K ta σ H ls) (g : EvNs K tb σ H ls) : Ev (tOp (rNeD K) ta tb) σ H (.bl false) := fun H1 e Q q =>
  h H1 e _ fun p vs H2 e2 hp hv => g H2 (e.trans e2) _ fun p' vs' H3 e3 hp' hv' =>
    ⟨.list (dN ls), .list (dN ls), .lst (ex_l e3 hp) (dp_nest (hv.mono' e3)), .lst hp' (dp_nest hv'), nest_shaped ls, nest_shaped ls, by rw [PyData.eqv, nest_eqv]; exact q H3 (e2.trans e3)⟩
/-! ### an answer stays, an older list is changed -/
theorem AnsAt.old {x p : Addr} {a : Ans} {o : HO} {xs ys : List V} (h : AnsAt K H0 H x a) (h0 : H0 p = some o) (hp : H p = some (.lst xs)) : AnsAt K H0 (upd H p (.lst ys)) x a := by
  have ne : ∀ {l : Addr} {ns : List Int}, LF H0 H l ns → l ≠ p := fun hl z => by rw [← z, hl.1] at h0; cases h0
  have lf : ∀ {l : Addr} {ns : List Int}, LF H0 H l ns → LF H0 (upd H p (.lst ys)) l ns := fun hl => ⟨hl.1, by rw [upd_ne (ne hl)]; exact hl.2⟩
  have ins : ∀ {k : Kd} {fs : List (Str × V)}, InsAt K H x k fs → InsAt K (upd H p (.lst ys)) x k fs := fun ⟨dx, hi⟩ => ⟨dx, by rw [upd_ne (fun z => by rw [z, hp] at hi; cases hi)]; exact hi⟩
  cases a with
  | steps r c => obtain ⟨l, m, h1, h2, h3, h4⟩ := h; exact ⟨l, m, ins h1, lf h2, lf h3, h4⟩
  | stretches b e' u => obtain ⟨l, m, n, h1, h2, h3, h4, h5⟩ := h; exact ⟨l, m, n, ins h1, lf h2, lf h3, lf h4, h5⟩
  | ranks r => obtain ⟨l, h1, h2⟩ := h; exact ⟨l, ins h1, lf h2⟩
  | line r => obtain ⟨l, h1, h2⟩ := h; exact ⟨l, ins h1, lf h2⟩
  | _ => exact ins h
/-- i = [new list, new list] -/
theorem q_asgLL {i : Nat} {xs ys : List V} (ha : EvL ta σ H xs) (hb : EvL tb σ H ys) (q : ∀ R p p' H1, H R = none → H p = none → H p' = none → Ex H H1 → H1 R = some (.lst [.ref p, .ref p']) → H1 p = some (.lst xs) → H1 p' = some (.lst ys) → p ≠ p' → p ≠ R → p' ≠ R → tz D (σ.set i (some (.ref R))) H1) : tSeq (tAsg (tLst (tCons ta (tCons tb tNil))) (gName i)) tz D σ H :=
  ha H (Ex.refl H) _ fun p H1 fp e1 h1 => hb H1 e1 _ fun p' H2 fp' e2 h2 => ⟨sz_of (show 2 ≤ 100000 by decide), fun R hR => by
    have h1' := e2 _ _ h1
    have n1 : p ≠ p' := fun z => by rw [← z, h1] at fp'; cases fp'
    have n2 : p ≠ R := fun z => by rw [← z, h1'] at hR; cases hR
    have n3 : p' ≠ R := fun z => by rw [← z, h2] at hR; cases hR
    exact q R p p' _ (fresh_back (e1.trans e2) hR) fp (fresh_back e1 fp') ((e1.trans e2).trans (Ex.new hR)) upd_same (by rw [upd_ne n2]; exact h1') (by rw [upd_ne n3]; exact h2) n1 n2 n3⟩
theorem q_asgLLL {i : Nat} {tc : TE} {xs ys zs : List V} (ha : EvL ta σ H xs) (hb : EvL tb σ H ys) (hc : EvL tc σ H zs) (q : ∀ R p p' p'' H1, H R = none → H p = none → H p' = none → H p'' = none → Ex H H1 → H1 R = some (.lst [.ref p, .ref p', .ref p'']) → H1 p = some (.lst xs) → H1 p' = some (.lst ys) → H1 p'' = some (.lst zs) → p ≠ p' ∧ p ≠ p'' ∧ p' ≠ p'' ∧ p ≠ R ∧ p' ≠ R ∧ p'' ≠ R → tz D (σ.set i (some (.ref R))) H1) : tSeq (tAsg (tLst (tCons ta (tCons tb (tCons tc tNil)))) (gName i)) tz D σ H :=
  ha H (Ex.refl H) _ fun p H1 fp e1 h1 => hb H1 e1 _ fun p' H2 fp' e2 h2 => hc H2 (e1.trans e2) _ fun p'' H3 fp'' e3 h3 => ⟨sz_of (show 3 ≤ 100000 by decide), fun R hR => by
    have h1' := e3 _ _ (e2 _ _ h1)
    have h2' := e3 _ _ h2
    have n1 : p ≠ p' := fun z => by rw [← z, h1] at fp'; cases fp'
    have n4 : p ≠ p'' := fun z => by rw [← z, e2 _ _ h1] at fp''; cases fp''
    have n5 : p' ≠ p'' := fun z => by rw [← z, h2] at fp''; cases fp''
    have n2 : p ≠ R := fun z => by rw [← z, h1'] at hR; cases hR
    have n3 : p' ≠ R := fun z => by rw [← z, h2'] at hR; cases hR
    have n6 : p'' ≠ R := fun z => by rw [← z, h3] at hR; cases hR
    have e13 := (e1.trans e2).trans e3
    exact q R p p' p'' _ (fresh_back e13 hR) fp (fresh_back e1 fp') (fresh_back (e1.trans e2) fp'') (e13.trans (Ex.new hR)) upd_same (by rw [upd_ne n2]; exact h1') (by rw [upd_ne n3]; exact h2') (by rw [upd_ne n6]; exact h3) ⟨n1, n4, n5, n2, n3, n6⟩⟩
/-- a text of signs, the other one counted -/
theorem count_d (r : List Bool) : Txt.count (rs r) "-" = (r.countP (fun b => !b) : Nat) := by
  have e : ("-" : Str) = ⟨#[45]⟩ := by decide +kernel
  rw [e, PyProof.Rows.count_cnt, rs_tl]
  induction r with
  | nil => rfl
  | cons b r ih =>
    rw [List.map_cons, PyProof.Rows.cnt_cons, ih, List.countP_cons]
    cases b
    · rw [if_pos (by rfl)]; simp; omega
    · rw [if_neg (by decide)]; simp
theorem ev_countD {r : List Bool} (h : Ev te σ H (.str (rs r))) : Ev (tM1 rCountS te (tC (.str "-"))) σ H (.int (r.countP (fun b => !b) : Nat)) := fun H1 e Q q =>
  h H1 e _ fun H2 e2 => ⟨⟨_, rfl⟩, rs r, "-", rfl, rfl, by rw [count_d]; exact q H2 e2⟩
/-! ### several at once -/
theorem ev_neg1 : Ev (tUn rNegI (tC (.int 1))) σ H (.int (-1)) := ev_un ev_c fun H1 e Q q => ⟨1, rfl, q H1 (Ex.refl H1)⟩
theorem s_parA {i j : Nat} {x y : V} (h : EvA ts σ H [x, y]) (q : ∀ H1, Ex H H1 → D.nx ((σ.set i (some x)).set j (some y)) H1) : tPar i j ts D σ H := h H (Ex.refl H) _ fun H1 e1 => ⟨x, y, rfl, q H1 e1⟩
theorem s_par3B {i j l : Nat} (h : EvBs K ts σ H k 3) (q : ∀ p p' p'' (b e u : List Int) H1, Ex H H1 → SqL K H1 p (b.map V.int) → SqL K H1 p' (e.map V.int) → SqL K H1 p'' (u.map V.int) → b.length ≤ k → e.length ≤ k → u.length ≤ k → D.nx (((σ.set i (some (.ref p))).set j (some (.ref p'))).set l (some (.ref p''))) H1) : tPar3 i j l ts D σ H :=
  h H (Ex.refl H) _ fun vs H1 e1 r => by
    obtain ⟨p, b, _, rfl, hp, hb, p', e, _, rfl, hp', he, p'', u, _, rfl, hp'', hu, rfl⟩ := r
    exact ⟨_, _, _, rfl, q p p' p'' b e u H1 e1 hp hp' hp'' hb he hu⟩
theorem q_par3B {i j l : Nat} (h : EvBs K ts σ H k 3) (q : ∀ p p' p'' (b e u : List Int) H1, Ex H H1 → SqL K H1 p (b.map V.int) → SqL K H1 p' (e.map V.int) → SqL K H1 p'' (u.map V.int) → b.length ≤ k → e.length ≤ k → u.length ≤ k → tz D (((σ.set i (some (.ref p))).set j (some (.ref p'))).set l (some (.ref p''))) H1) : tSeq (tPar3 i j l ts) tz D σ H :=
  s_par3B (D := { D with nx := tz D }) h q
theorem q_parN {TT : List (Addr × Str)} {i j : Nat} {good good2 : Ans → Prop} {nn nn2 : Prop} (h : EvOptN TT K ta σ H good nn) (hn : ¬ nn) (h2 : ∀ H1, Xn TT H H1 → EvOptN TT K tb σ H1 good2 nn2) (hn2 : ¬ nn2)
    (q : ∀ ans x H0 H1 ans2 y H2 H3, good ans → good2 ans2 → Xn TT H H0 → Ex H0 H1 → AnsAt K H0 H1 x ans → Xn TT H1 H2 → Ex H2 H3 → AnsAt K H2 H3 y ans2 → tz D ((σ.set i (some (.ref x))).set j (some (.ref y))) H3) : tSeq (tPar i j (tCons ta (tCons tb tNil))) tz D σ H :=
  h _ (fun ans x H0 H1 hg x0 hx e1 hA => h2 H1 (x0.trans (xn_of e1)) _ (fun ans2 y H2 H3 hg2 x2 hy e3 hA2 => ⟨_, _, rfl, q ans x H0 H1 ans2 y H2 H3 hg hg2 x0 e1 hA x2 e3 hA2⟩) fun z => (hn2 z).elim) fun z => (hn z).elim
/-- i = [new object, new object] -/
theorem q_asgOO {i : Nat} {P1 P2 : Hp → Hp → Addr → Prop} (ha : EvO ta σ H P1) (hb : ∀ H1, Ex H H1 → EvO tb σ H1 P2) (q : ∀ R x y H1 H2 H3, Ex H H1 → P1 H H1 x → Ex H1 H2 → P2 H1 H2 y → H2 R = none → Ex H2 H3 → H3 R = some (.lst [.ref x, .ref y]) → tz D (σ.set i (some (.ref R))) H3) : tSeq (tAsg (tLst (tCons ta (tCons tb tNil))) (gName i)) tz D σ H :=
  ha H (Ex.refl H) _ fun x H1 _ e1 p1 => hb H1 e1 H1 (Ex.refl H1) _ fun y H2 _ e2 p2 => ⟨sz_of (show 2 ≤ 100000 by decide), fun R hR => q R x y H1 H2 _ e1 p1 e2 p2 hR (Ex.new hR) upd_same⟩
theorem q_sortN2 {TT : List (Addr × Str)} {i j n : Nat} {f g : Nat → Int} {tn : TE} (hT : Tabs TT H) (h : Ev tn σ H (.int (n : Nat))) (hn : n ≤ 1000) (hk : ∀ i, i < n → ∀ H1, Xn TT H H1 → EvU te (σ.set j (some (.int (i : Nat)))) H1 [.int (f i), .int (g i)])
    (q : ∀ (is : List Nat) (p : Addr) H0 H2, is.Perm (List.range n) → Xn TT H H0 → H0 p = none → Ex H0 H2 → H2 p = some (.lst (nv is)) → tz D (σ.set i (some (.ref p))) H2) : tSeq (tAsg (tSortL TT j (tRng tn) te) (gName i)) tz D σ H :=
  sortN2 (Q := fun v H' => tz D (σ.set i (some v)) H') hT h hn hk q
end
end WA
namespace WA
open PySem PySem.Spec PyProof.Rows L2 Evl LamX
theorem pe_c0 {X : Cx} {x : Str} {sp : Sp} {dvs : List V} {k j : Nat} {p pos : Pos} (c : C8.Cal X.prog X.w X.K X.mg X.base k x sp dvs) (hr : Room j X.A) (hk : k ≤ j) (hg : Gl X x) (hdb : (x == ("__debug__" : Str)) = false := by decide) : PE X (.Call (.Name x p) [] [] pos) (tCall sp dvs C8.E0 tNil) := by
  obtain ⟨f, fd, ps, ds, F, hm, kp, b, d⟩ := c.ex
  exact pe_call0 F (hr.mono hk) hg hm kp b d C8.pass0 hdb
end WA

namespace WA
open PySem PySem.Spec PyProof.Rows L2 Evl

def topS (i : Nat) : Stmt := PySem.Challenge.pw_wholeahead_k06_answers_by_hand.main.body.getD i (.Pass ⟨0, 0, 0, 0⟩)
abbrev s_check_table : Stmt := topS 5
abbrev nm_check_table : List Str := ["table", "row"]
theorem sc_check_table : FnScope nm_check_table ["table"] (defScope s_check_table) := ⟨rfl, rfl, rfl, by decide +kernel, rfl, by decide +kernel, by decide +kernel⟩
abbrev s_check_square : Stmt := topS 6
abbrev nm_check_square : List Str := ["table"]
theorem sc_check_square : FnScope nm_check_square ["table"] (defScope s_check_square) := ⟨rfl, rfl, rfl, by decide +kernel, rfl, by decide +kernel, by decide +kernel⟩
abbrev s_has : Stmt := topS 7
abbrev nm_has : List Str := ["table", "row", "column"]
theorem sc_has : FnScope nm_has ["table", "row", "column"] (defScope s_has) := ⟨rfl, rfl, rfl, by decide +kernel, rfl, by decide +kernel, by decide +kernel⟩
abbrev s_rows_with : Stmt := topS 8
abbrev nm_rows_with : List Str := ["table", "column", "row"]
theorem sc_rows_with : FnScope nm_rows_with ["table", "column"] (defScope s_rows_with) := ⟨rfl, rfl, rfl, by decide +kernel, rfl, by decide +kernel, by decide +kernel⟩
abbrev s_are_things : Stmt := topS 11
abbrev nm_are_things : List Str := ["table", "things", "one"]
theorem sc_are_things : FnScope nm_are_things ["table", "things"] (defScope s_are_things) := ⟨rfl, rfl, rfl, by decide +kernel, rfl, by decide +kernel, by decide +kernel⟩
abbrev s_are_three : Stmt := topS 12
abbrev nm_are_three : List Str := ["table", "one", "other", "third"]
theorem sc_are_three : FnScope nm_are_three ["table", "one", "other", "third"] (defScope s_are_three) := ⟨rfl, rfl, rfl, by decide +kernel, rfl, by decide +kernel, by decide +kernel⟩
abbrev s_Steps_init : Stmt := inClass (topS 13) 0
abbrev nm_Steps_init : List Str := ["self", "rows", "columns"]
theorem sc_Steps_init : FnScope nm_Steps_init ["self", "rows", "columns"] (defScope s_Steps_init) := ⟨rfl, rfl, rfl, by decide +kernel, rfl, by decide +kernel, by decide +kernel⟩
abbrev s_Steps_shows : Stmt := inClass (topS 13) 1
abbrev nm_Steps_shows : List Str := ["self", "table", "row", "mine", "theirs"]
theorem sc_Steps_shows : FnScope nm_Steps_shows ["self", "table"] (defScope s_Steps_shows) := ⟨rfl, rfl, rfl, by decide +kernel, rfl, by decide +kernel, by decide +kernel⟩
abbrev s_Cross_init : Stmt := inClass (topS 14) 0
abbrev nm_Cross_init : List Str := ["self", "one", "first", "other", "second"]
theorem sc_Cross_init : FnScope nm_Cross_init ["self", "one", "first", "other", "second"] (defScope s_Cross_init) := ⟨rfl, rfl, rfl, by decide +kernel, rfl, by decide +kernel, by decide +kernel⟩
abbrev s_Cross_shows : Stmt := inClass (topS 14) 1
abbrev nm_Cross_shows : List Str := ["self", "table", "column"]
theorem sc_Cross_shows : FnScope nm_Cross_shows ["self", "table"] (defScope s_Cross_shows) := ⟨rfl, rfl, rfl, by decide +kernel, rfl, by decide +kernel, by decide +kernel⟩
abbrev s_Stretches_init : Stmt := inClass (topS 15) 0
abbrev nm_Stretches_init : List Str := ["self", "begins", "ends", "unlike"]
theorem sc_Stretches_init : FnScope nm_Stretches_init ["self", "begins", "ends", "unlike"] (defScope s_Stretches_init) := ⟨rfl, rfl, rfl, by decide +kernel, rfl, by decide +kernel, by decide +kernel⟩
abbrev s_Stretches_shows : Stmt := inClass (topS 15) 1
abbrev nm_Stretches_shows : List Str := ["self", "table", "many", "begin", "end", "row", "met", "thing"]
theorem sc_Stretches_shows : FnScope nm_Stretches_shows ["self", "table"] (defScope s_Stretches_shows) := ⟨rfl, rfl, rfl, by decide +kernel, rfl, by decide +kernel, by decide +kernel⟩
abbrev s_Self_init : Stmt := inClass (topS 16) 0
abbrev nm_Self_init : List Str := ["self", "one"]
theorem sc_Self_init : FnScope nm_Self_init ["self", "one"] (defScope s_Self_init) := ⟨rfl, rfl, rfl, by decide +kernel, rfl, by decide +kernel, by decide +kernel⟩
abbrev s_Self_shows : Stmt := inClass (topS 16) 1
abbrev nm_Self_shows : List Str := ["self", "table"]
theorem sc_Self_shows : FnScope nm_Self_shows ["self", "table"] (defScope s_Self_shows) := ⟨rfl, rfl, rfl, by decide +kernel, rfl, by decide +kernel, by decide +kernel⟩
abbrev s_Ranks_init : Stmt := inClass (topS 17) 0
abbrev nm_Ranks_init : List Str := ["self", "ranks"]
theorem sc_Ranks_init : FnScope nm_Ranks_init ["self", "ranks"] (defScope s_Ranks_init) := ⟨rfl, rfl, rfl, by decide +kernel, rfl, by decide +kernel, by decide +kernel⟩
abbrev s_Ranks_shows : Stmt := inClass (topS 17) 1
abbrev nm_Ranks_shows : List Str := ["self", "table", "row", "mine", "theirs"]
theorem sc_Ranks_shows : FnScope nm_Ranks_shows ["self", "table"] (defScope s_Ranks_shows) := ⟨rfl, rfl, rfl, by decide +kernel, rfl, by decide +kernel, by decide +kernel⟩
abbrev s_Mutual_init : Stmt := inClass (topS 18) 0
abbrev nm_Mutual_init : List Str := ["self", "one", "other"]
theorem sc_Mutual_init : FnScope nm_Mutual_init ["self", "one", "other"] (defScope s_Mutual_init) := ⟨rfl, rfl, rfl, by decide +kernel, rfl, by decide +kernel, by decide +kernel⟩
abbrev s_Mutual_shows : Stmt := inClass (topS 18) 1
abbrev nm_Mutual_shows : List Str := ["self", "table"]
theorem sc_Mutual_shows : FnScope nm_Mutual_shows ["self", "table"] (defScope s_Mutual_shows) := ⟨rfl, rfl, rfl, by decide +kernel, rfl, by decide +kernel, by decide +kernel⟩
abbrev s_Beside_init : Stmt := inClass (topS 19) 0
abbrev nm_Beside_init : List Str := ["self", "one", "other", "third"]
theorem sc_Beside_init : FnScope nm_Beside_init ["self", "one", "other", "third"] (defScope s_Beside_init) := ⟨rfl, rfl, rfl, by decide +kernel, rfl, by decide +kernel, by decide +kernel⟩
abbrev s_Beside_shows : Stmt := inClass (topS 19) 1
abbrev nm_Beside_shows : List Str := ["self", "table"]
theorem sc_Beside_shows : FnScope nm_Beside_shows ["self", "table"] (defScope s_Beside_shows) := ⟨rfl, rfl, rfl, by decide +kernel, rfl, by decide +kernel, by decide +kernel⟩
abbrev s_Line_init : Stmt := inClass (topS 20) 0
abbrev nm_Line_init : List Str := ["self", "order"]
theorem sc_Line_init : FnScope nm_Line_init ["self", "order"] (defScope s_Line_init) := ⟨rfl, rfl, rfl, by decide +kernel, rfl, by decide +kernel, by decide +kernel⟩
abbrev s_Line_shows : Stmt := inClass (topS 20) 1
abbrev nm_Line_shows : List Str := ["self", "table", "thing", "ranks", "place"]
theorem sc_Line_shows : FnScope nm_Line_shows ["self", "table"] (defScope s_Line_shows) := ⟨rfl, rfl, rfl, by decide +kernel, rfl, by decide +kernel, by decide +kernel⟩
abbrev s_Neither_init : Stmt := inClass (topS 21) 0
abbrev nm_Neither_init : List Str := ["self", "one", "other"]
theorem sc_Neither_init : FnScope nm_Neither_init ["self", "one", "other"] (defScope s_Neither_init) := ⟨rfl, rfl, rfl, by decide +kernel, rfl, by decide +kernel, by decide +kernel⟩
abbrev s_Neither_shows : Stmt := inClass (topS 21) 1
abbrev nm_Neither_shows : List Str := ["self", "table"]
theorem sc_Neither_shows : FnScope nm_Neither_shows ["self", "table"] (defScope s_Neither_shows) := ⟨rfl, rfl, rfl, by decide +kernel, rfl, by decide +kernel, by decide +kernel⟩
abbrev s_Round_init : Stmt := inClass (topS 22) 0
abbrev nm_Round_init : List Str := ["self", "one", "other", "third"]
theorem sc_Round_init : FnScope nm_Round_init ["self", "one", "other", "third"] (defScope s_Round_init) := ⟨rfl, rfl, rfl, by decide +kernel, rfl, by decide +kernel, by decide +kernel⟩
abbrev s_Round_shows : Stmt := inClass (topS 22) 1
abbrev nm_Round_shows : List Str := ["self", "table"]
theorem sc_Round_shows : FnScope nm_Round_shows ["self", "table"] (defScope s_Round_shows) := ⟨rfl, rfl, rfl, by decide +kernel, rfl, by decide +kernel, by decide +kernel⟩
abbrev s_only_in : Stmt := topS 24
abbrev nm_only_in : List Str := ["table", "one", "other", "at"]
theorem sc_only_in : FnScope nm_only_in ["table", "one", "other"] (defScope s_only_in) := ⟨rfl, rfl, rfl, by decide +kernel, rfl, by decide +kernel, by decide +kernel⟩
abbrev s_cross_of : Stmt := topS 25
abbrev nm_cross_of : List Str := ["table", "row", "order", "at", "one", "other", "mine", "theirs"]
theorem sc_cross_of : FnScope nm_cross_of ["table"] (defScope s_cross_of) := ⟨rfl, rfl, rfl, by decide +kernel, rfl, by decide +kernel, by decide +kernel⟩
abbrev s_levels_of : Stmt := topS 26
abbrev nm_levels_of : List Str := ["sizes", "different", "size"]
theorem sc_levels_of : FnScope nm_levels_of ["sizes"] (defScope s_levels_of) := ⟨rfl, rfl, rfl, by decide +kernel, rfl, by decide +kernel, by decide +kernel⟩
abbrev s_steps : Stmt := topS 27
abbrev nm_steps : List Str := ["table", "cross", "row", "rows", "columns", "column"]
theorem sc_steps : FnScope nm_steps ["table"] (defScope s_steps) := ⟨rfl, rfl, rfl, by decide +kernel, rfl, by decide +kernel, by decide +kernel⟩
abbrev s_self_of : Stmt := topS 28
abbrev nm_self_of : List Str := ["table", "thing"]
theorem sc_self_of : FnScope nm_self_of ["table"] (defScope s_self_of) := ⟨rfl, rfl, rfl, by decide +kernel, rfl, by decide +kernel, by decide +kernel⟩
abbrev s_sizes_of : Stmt := topS 29
abbrev nm_sizes_of : List Str := ["table", "thing"]
theorem sc_sizes_of : FnScope nm_sizes_of ["table"] (defScope s_sizes_of) := ⟨rfl, rfl, rfl, by decide +kernel, rfl, by decide +kernel, by decide +kernel⟩
abbrev s_stretches : Stmt := topS 30
abbrev nm_stretches : List Str := ["table", "found", "begins", "ends", "row", "begin", "sign", "thing", "unlike"]
theorem sc_stretches : FnScope nm_stretches ["table"] (defScope s_stretches) := ⟨rfl, rfl, rfl, by decide +kernel, rfl, by decide +kernel, by decide +kernel⟩
abbrev s_law_table : Stmt := topS 32
abbrev nm_law_table : List Str := ["_law_script", "_law_code", "_law_many", "_law_cell", "_law_at", "_law_begins", "_law_begin", "_law_ends", "_law_end", "_law_table_here", "_law_turn", "_law_row"]
theorem sc_law_table : FnScope nm_law_table ["_law_script"] (defScope s_law_table) := ⟨rfl, rfl, rfl, by decide +kernel, rfl, by decide +kernel, by decide +kernel⟩
abbrev s_law_has : Stmt := topS 33
abbrev nm_law_has : List Str := ["_law_table_here", "_law_row", "_law_column"]
theorem sc_law_has : FnScope nm_law_has ["_law_table_here", "_law_row", "_law_column"] (defScope s_law_has) := ⟨rfl, rfl, rfl, by decide +kernel, rfl, by decide +kernel, by decide +kernel⟩
abbrev s_law_hasnt : Stmt := topS 34
abbrev nm_law_hasnt : List Str := ["_law_table_here", "_law_row", "_law_column"]
theorem sc_law_hasnt : FnScope nm_law_hasnt ["_law_table_here", "_law_row", "_law_column"] (defScope s_law_hasnt) := ⟨rfl, rfl, rfl, by decide +kernel, rfl, by decide +kernel, by decide +kernel⟩
abbrev s_law_cross : Stmt := topS 35
abbrev nm_law_cross : List Str := ["_law_table_here", "_law_one", "_law_first", "_law_other", "_law_second"]
theorem sc_law_cross : FnScope nm_law_cross ["_law_table_here", "_law_one", "_law_first", "_law_other", "_law_second"] (defScope s_law_cross) := ⟨rfl, rfl, rfl, by decide +kernel, rfl, by decide +kernel, by decide +kernel⟩
abbrev s_law_steps : Stmt := topS 36
abbrev nm_law_steps : List Str := ["_law_table_here", "_law_rows", "_law_columns", "_law_row", "_law_mine", "_law_sign", "_law_theirs"]
theorem sc_law_steps : FnScope nm_law_steps ["_law_table_here", "_law_rows", "_law_columns"] (defScope s_law_steps) := ⟨rfl, rfl, rfl, by decide +kernel, rfl, by decide +kernel, by decide +kernel⟩
abbrev s_law_stretches : Stmt := topS 37
abbrev nm_law_stretches : List Str := ["_law_table_here", "_law_begins", "_law_ends", "_law_unlike", "_law_many", "_law_thing", "_law_at", "_law_row", "_law_end", "_law_sign", "_law_begin", "_law_columns"]
theorem sc_law_stretches : FnScope nm_law_stretches ["_law_table_here", "_law_begins", "_law_ends", "_law_unlike"] (defScope s_law_stretches) := ⟨rfl, rfl, rfl, by decide +kernel, rfl, by decide +kernel, by decide +kernel⟩
abbrev s_law_ranks : Stmt := topS 38
abbrev nm_law_ranks : List Str := ["_law_table_here", "_law_numbers", "_law_row", "_law_mine", "_law_sign", "_law_theirs"]
theorem sc_law_ranks : FnScope nm_law_ranks ["_law_table_here", "_law_numbers"] (defScope s_law_ranks) := ⟨rfl, rfl, rfl, by decide +kernel, rfl, by decide +kernel, by decide +kernel⟩
abbrev s_law_line : Stmt := topS 39
abbrev nm_law_line : List Str := ["_law_table_here", "_law_order", "_law_thing", "_law_places", "_law_place"]
theorem sc_law_line : FnScope nm_law_line ["_law_table_here", "_law_order"] (defScope s_law_line) := ⟨rfl, rfl, rfl, by decide +kernel, rfl, by decide +kernel, by decide +kernel⟩
abbrev s_law_says : Stmt := topS 40
abbrev nm_law_says : List Str := ["_law_said", "_law_due"]
theorem sc_law_says : FnScope nm_law_says ["_law_said", "_law_due"] (defScope s_law_says) := ⟨rfl, rfl, rfl, by decide +kernel, rfl, by decide +kernel, by decide +kernel⟩
abbrev s_law_bent : Stmt := topS 41
abbrev nm_law_bent : List Str := ["_law_some", "_law_script", "_law_found", "_law_cell", "_law_at"]
theorem sc_law_bent : FnScope nm_law_bent ["_law_some", "_law_script"] (defScope s_law_bent) := ⟨rfl, rfl, rfl, by decide +kernel, rfl, by decide +kernel, by decide +kernel⟩
abbrev s_law_lists_right : Stmt := topS 42
abbrev nm_law_lists_right : List Str := ["_law_table_here", "_law_script", "_law_found", "_law_other", "_law_row", "_law_rows", "_law_columns", "_law_some", "_law_others", "_law_handed", "_law_answer", "_law_begins", "_law_ends", "_law_unlike", "_law_begin", "_law_twice", "_law_end", "_law_later", "_law_starts", "_law_stops", "_law_alone", "_law_part"]
theorem sc_law_lists_right : FnScope nm_law_lists_right ["_law_table_here", "_law_script"] (defScope s_law_lists_right) := ⟨rfl, rfl, rfl, by decide +kernel, rfl, by decide +kernel, by decide +kernel⟩
abbrev s_law_orders_right : Stmt := topS 43
abbrev nm_law_orders_right : List Str := ["_law_table_here", "_law_script", "_law_thing", "_law_order", "_law_row", "_law_sizes", "_law_size", "_law_some", "_law_handed", "_law_answers"]
theorem sc_law_orders_right : FnScope nm_law_orders_right ["_law_table_here", "_law_script"] (defScope s_law_orders_right) := ⟨rfl, rfl, rfl, by decide +kernel, rfl, by decide +kernel, by decide +kernel⟩
abbrev s_law_few_right : Stmt := topS 44
abbrev nm_law_few_right : List Str := ["_law_table_here", "_law_one", "_law_other", "_law_third", "_law_more", "_law_due", "_law_three", "_law_answer"]
theorem sc_law_few_right : FnScope nm_law_few_right ["_law_table_here", "_law_one", "_law_other", "_law_third", "_law_more"] (defScope s_law_few_right) := ⟨rfl, rfl, rfl, by decide +kernel, rfl, by decide +kernel, by decide +kernel⟩
abbrev s_law_outright : Stmt := topS 45
abbrev nm_law_outright : List Str := ["_law_three", "_law_wide", "_law_bad", "_law_good", "_law_said"]
theorem sc_law_outright : FnScope nm_law_outright [] (defScope s_law_outright) := ⟨rfl, rfl, rfl, by decide +kernel, rfl, by decide +kernel, by decide +kernel⟩
abbrev s_law : Stmt := topS 46
abbrev nm_law : List Str := ["_law_script", "_law_table_here", "_law_many", "_law_row", "_law_part", "_law_at", "_law_cell", "_law_things"]
theorem sc_law : FnScope nm_law ["_law_script"] (defScope s_law) := ⟨rfl, rfl, rfl, by decide +kernel, rfl, by decide +kernel, by decide +kernel⟩
def tfL : List He.Defn := [("cross_of", none), ("_law_orders_right", none)]
abbrev tabsL (K : PySem.W.Frag) : List (Addr × Str) := [((He.cT K ("cross_of", none)).2, ((("cross_of" : Str) ++ ".<locals>.") ++ "<lambda>")), ((He.cT K ("_law_orders_right", none)).2, ((("_law_orders_right" : Str) ++ ".<locals>.") ++ "<lambda>"))]
def Tbl (K : PySem.W.Frag) (mg : Str → Option Value) (base : Heap) : Prop := ∀ p ∈ tfL.map (He.cT K), LamX.TabB base mg p.1 p.2
def exB (K : PySem.W.Frag) : Bool := kindB K && decide ((He.cT K ("cross_of", none)).2 ≠ (He.cT K ("_law_orders_right", none)).2)
structure Tx (K : PySem.W.Frag) (mg : Str → Option Value) : Prop where
  len : mg "len" = none
  sum : mg "sum" = none
  all : mg "all" = none
  any : mg "any" = none
  sorted : mg "sorted" = none
  max : mg "max" = none
  min : mg "min" = none
  isinstance : mg "isinstance" = none
  list : mg "list" = none
  set : mg "set" = none
  tuple : mg "tuple" = none
  range : mg "range" = none
  enumerate : mg "enumerate" = none
  zip : mg "zip" = none
  str : mg "str" = none
  bool : mg "bool" = none
  d_check_table : Dn K mg "check_table" s_check_table
  d_check_square : Dn K mg "check_square" s_check_square
  d_has : Dn K mg "has" s_has
  d_rows_with : Dn K mg "rows_with" s_rows_with
  d_are_things : Dn K mg "are_things" s_are_things
  d_are_three : Dn K mg "are_three" s_are_three
  d_only_in : Dn K mg "only_in" s_only_in
  d_cross_of : Dn K mg "cross_of" s_cross_of
  d_levels_of : Dn K mg "levels_of" s_levels_of
  d_steps : Dn K mg "steps" s_steps
  d_self_of : Dn K mg "self_of" s_self_of
  d_sizes_of : Dn K mg "sizes_of" s_sizes_of
  d_stretches : Dn K mg "stretches" s_stretches
  d__law_table : Dn K mg "_law_table" s_law_table
  d__law_has : Dn K mg "_law_has" s_law_has
  d__law_hasnt : Dn K mg "_law_hasnt" s_law_hasnt
  d__law_cross : Dn K mg "_law_cross" s_law_cross
  d__law_steps : Dn K mg "_law_steps" s_law_steps
  d__law_stretches : Dn K mg "_law_stretches" s_law_stretches
  d__law_ranks : Dn K mg "_law_ranks" s_law_ranks
  d__law_line : Dn K mg "_law_line" s_law_line
  d__law_says : Dn K mg "_law_says" s_law_says
  d__law_bent : Dn K mg "_law_bent" s_law_bent
  d__law_lists_right : Dn K mg "_law_lists_right" s_law_lists_right
  d__law_orders_right : Dn K mg "_law_orders_right" s_law_orders_right
  d__law_few_right : Dn K mg "_law_few_right" s_law_few_right
  d__law_outright : Dn K mg "_law_outright" s_law_outright
  d_law : Dn K mg "law" s_law
  g_Answer : mg "Answer" = some (.ref (He.ga K "Answer"))
  g_Steps : mg "Steps" = some (.ref (He.ga K "Steps"))
  cl_Steps : Cls K (He.ga K "Steps")
  mk_Steps : Mk K (He.ga K "Steps") (He.ma K (He.ga K "Steps") "__init__")
  sh_Steps : Meth K (He.ga K "Steps") "shows" (He.ma K (He.ga K "Steps") "shows")
  n_Steps_rows : NoAttr K (He.ga K "Steps") "rows"
  n_Steps_columns : NoAttr K (He.ga K "Steps") "columns"
  f_Steps_init : ∃ fd, FunD K "__init__" "Steps.__init__" (defArgs s_Steps_init) (defBody s_Steps_init) (defScope s_Steps_init) [] [] (He.ma K (He.ga K "Steps") "__init__") fd
  f_Steps_shows : ∃ fd, FunD K "shows" "Steps.shows" (defArgs s_Steps_shows) (defBody s_Steps_shows) (defScope s_Steps_shows) [] [] (He.ma K (He.ga K "Steps") "shows") fd
  g_Cross : mg "Cross" = some (.ref (He.ga K "Cross"))
  cl_Cross : Cls K (He.ga K "Cross")
  mk_Cross : Mk K (He.ga K "Cross") (He.ma K (He.ga K "Cross") "__init__")
  sh_Cross : Meth K (He.ga K "Cross") "shows" (He.ma K (He.ga K "Cross") "shows")
  n_Cross_one : NoAttr K (He.ga K "Cross") "one"
  n_Cross_first : NoAttr K (He.ga K "Cross") "first"
  n_Cross_other : NoAttr K (He.ga K "Cross") "other"
  n_Cross_second : NoAttr K (He.ga K "Cross") "second"
  f_Cross_init : ∃ fd, FunD K "__init__" "Cross.__init__" (defArgs s_Cross_init) (defBody s_Cross_init) (defScope s_Cross_init) [] [] (He.ma K (He.ga K "Cross") "__init__") fd
  f_Cross_shows : ∃ fd, FunD K "shows" "Cross.shows" (defArgs s_Cross_shows) (defBody s_Cross_shows) (defScope s_Cross_shows) [] [] (He.ma K (He.ga K "Cross") "shows") fd
  g_Stretches : mg "Stretches" = some (.ref (He.ga K "Stretches"))
  cl_Stretches : Cls K (He.ga K "Stretches")
  mk_Stretches : Mk K (He.ga K "Stretches") (He.ma K (He.ga K "Stretches") "__init__")
  sh_Stretches : Meth K (He.ga K "Stretches") "shows" (He.ma K (He.ga K "Stretches") "shows")
  n_Stretches_begins : NoAttr K (He.ga K "Stretches") "begins"
  n_Stretches_ends : NoAttr K (He.ga K "Stretches") "ends"
  n_Stretches_unlike : NoAttr K (He.ga K "Stretches") "unlike"
  f_Stretches_init : ∃ fd, FunD K "__init__" "Stretches.__init__" (defArgs s_Stretches_init) (defBody s_Stretches_init) (defScope s_Stretches_init) [] [] (He.ma K (He.ga K "Stretches") "__init__") fd
  f_Stretches_shows : ∃ fd, FunD K "shows" "Stretches.shows" (defArgs s_Stretches_shows) (defBody s_Stretches_shows) (defScope s_Stretches_shows) [] [] (He.ma K (He.ga K "Stretches") "shows") fd
  g_Self : mg "Self" = some (.ref (He.ga K "Self"))
  cl_Self : Cls K (He.ga K "Self")
  mk_Self : Mk K (He.ga K "Self") (He.ma K (He.ga K "Self") "__init__")
  sh_Self : Meth K (He.ga K "Self") "shows" (He.ma K (He.ga K "Self") "shows")
  n_Self_one : NoAttr K (He.ga K "Self") "one"
  f_Self_init : ∃ fd, FunD K "__init__" "Self.__init__" (defArgs s_Self_init) (defBody s_Self_init) (defScope s_Self_init) [] [] (He.ma K (He.ga K "Self") "__init__") fd
  f_Self_shows : ∃ fd, FunD K "shows" "Self.shows" (defArgs s_Self_shows) (defBody s_Self_shows) (defScope s_Self_shows) [] [] (He.ma K (He.ga K "Self") "shows") fd
  g_Ranks : mg "Ranks" = some (.ref (He.ga K "Ranks"))
  cl_Ranks : Cls K (He.ga K "Ranks")
  mk_Ranks : Mk K (He.ga K "Ranks") (He.ma K (He.ga K "Ranks") "__init__")
  sh_Ranks : Meth K (He.ga K "Ranks") "shows" (He.ma K (He.ga K "Ranks") "shows")
  n_Ranks_ranks : NoAttr K (He.ga K "Ranks") "ranks"
  f_Ranks_init : ∃ fd, FunD K "__init__" "Ranks.__init__" (defArgs s_Ranks_init) (defBody s_Ranks_init) (defScope s_Ranks_init) [] [] (He.ma K (He.ga K "Ranks") "__init__") fd
  f_Ranks_shows : ∃ fd, FunD K "shows" "Ranks.shows" (defArgs s_Ranks_shows) (defBody s_Ranks_shows) (defScope s_Ranks_shows) [] [] (He.ma K (He.ga K "Ranks") "shows") fd
  g_Mutual : mg "Mutual" = some (.ref (He.ga K "Mutual"))
  cl_Mutual : Cls K (He.ga K "Mutual")
  mk_Mutual : Mk K (He.ga K "Mutual") (He.ma K (He.ga K "Mutual") "__init__")
  sh_Mutual : Meth K (He.ga K "Mutual") "shows" (He.ma K (He.ga K "Mutual") "shows")
  n_Mutual_one : NoAttr K (He.ga K "Mutual") "one"
  n_Mutual_other : NoAttr K (He.ga K "Mutual") "other"
  f_Mutual_init : ∃ fd, FunD K "__init__" "Mutual.__init__" (defArgs s_Mutual_init) (defBody s_Mutual_init) (defScope s_Mutual_init) [] [] (He.ma K (He.ga K "Mutual") "__init__") fd
  f_Mutual_shows : ∃ fd, FunD K "shows" "Mutual.shows" (defArgs s_Mutual_shows) (defBody s_Mutual_shows) (defScope s_Mutual_shows) [] [] (He.ma K (He.ga K "Mutual") "shows") fd
  g_Beside : mg "Beside" = some (.ref (He.ga K "Beside"))
  cl_Beside : Cls K (He.ga K "Beside")
  mk_Beside : Mk K (He.ga K "Beside") (He.ma K (He.ga K "Beside") "__init__")
  sh_Beside : Meth K (He.ga K "Beside") "shows" (He.ma K (He.ga K "Beside") "shows")
  n_Beside_one : NoAttr K (He.ga K "Beside") "one"
  n_Beside_other : NoAttr K (He.ga K "Beside") "other"
  n_Beside_third : NoAttr K (He.ga K "Beside") "third"
  f_Beside_init : ∃ fd, FunD K "__init__" "Beside.__init__" (defArgs s_Beside_init) (defBody s_Beside_init) (defScope s_Beside_init) [] [] (He.ma K (He.ga K "Beside") "__init__") fd
  f_Beside_shows : ∃ fd, FunD K "shows" "Beside.shows" (defArgs s_Beside_shows) (defBody s_Beside_shows) (defScope s_Beside_shows) [] [] (He.ma K (He.ga K "Beside") "shows") fd
  g_Line : mg "Line" = some (.ref (He.ga K "Line"))
  cl_Line : Cls K (He.ga K "Line")
  mk_Line : Mk K (He.ga K "Line") (He.ma K (He.ga K "Line") "__init__")
  sh_Line : Meth K (He.ga K "Line") "shows" (He.ma K (He.ga K "Line") "shows")
  n_Line_order : NoAttr K (He.ga K "Line") "order"
  f_Line_init : ∃ fd, FunD K "__init__" "Line.__init__" (defArgs s_Line_init) (defBody s_Line_init) (defScope s_Line_init) [] [] (He.ma K (He.ga K "Line") "__init__") fd
  f_Line_shows : ∃ fd, FunD K "shows" "Line.shows" (defArgs s_Line_shows) (defBody s_Line_shows) (defScope s_Line_shows) [] [] (He.ma K (He.ga K "Line") "shows") fd
  g_Neither : mg "Neither" = some (.ref (He.ga K "Neither"))
  cl_Neither : Cls K (He.ga K "Neither")
  mk_Neither : Mk K (He.ga K "Neither") (He.ma K (He.ga K "Neither") "__init__")
  sh_Neither : Meth K (He.ga K "Neither") "shows" (He.ma K (He.ga K "Neither") "shows")
  n_Neither_one : NoAttr K (He.ga K "Neither") "one"
  n_Neither_other : NoAttr K (He.ga K "Neither") "other"
  f_Neither_init : ∃ fd, FunD K "__init__" "Neither.__init__" (defArgs s_Neither_init) (defBody s_Neither_init) (defScope s_Neither_init) [] [] (He.ma K (He.ga K "Neither") "__init__") fd
  f_Neither_shows : ∃ fd, FunD K "shows" "Neither.shows" (defArgs s_Neither_shows) (defBody s_Neither_shows) (defScope s_Neither_shows) [] [] (He.ma K (He.ga K "Neither") "shows") fd
  g_Round : mg "Round" = some (.ref (He.ga K "Round"))
  cl_Round : Cls K (He.ga K "Round")
  mk_Round : Mk K (He.ga K "Round") (He.ma K (He.ga K "Round") "__init__")
  sh_Round : Meth K (He.ga K "Round") "shows" (He.ma K (He.ga K "Round") "shows")
  n_Round_one : NoAttr K (He.ga K "Round") "one"
  n_Round_other : NoAttr K (He.ga K "Round") "other"
  n_Round_third : NoAttr K (He.ga K "Round") "third"
  f_Round_init : ∃ fd, FunD K "__init__" "Round.__init__" (defArgs s_Round_init) (defBody s_Round_init) (defScope s_Round_init) [] [] (He.ma K (He.ga K "Round") "__init__") fd
  f_Round_shows : ∃ fd, FunD K "shows" "Round.shows" (defArgs s_Round_shows) (defBody s_Round_shows) (defScope s_Round_shows) [] [] (He.ma K (He.ga K "Round") "shows") fd
  c_cross_of : ∃ fd, FunD K "cross_of" "cross_of" (defArgs s_cross_of) (defBody s_cross_of) (defScope s_cross_of) [] [] (He.fAd K ("cross_of", none)) fd
  gg_cross_of : mg "cross_of" = some (.ref (He.ga K "cross_of"))
  c__law_orders_right : ∃ fd, FunD K "_law_orders_right" "_law_orders_right" (defArgs s_law_orders_right) (defBody s_law_orders_right) (defScope s_law_orders_right) [] [] (He.fAd K ("_law_orders_right", none)) fd
  gg__law_orders_right : mg "_law_orders_right" = some (.ref (He.ga K "_law_orders_right"))
  tn : (He.cT K ("cross_of", none)).2 ≠ (He.cT K ("_law_orders_right", none)).2
  kf : KindF K
theorem tb_cross_of {K : PySem.W.Frag} {mg : Str → Option Value} {base : Heap} (B : Tbl K mg base) : LamX.TabB base mg (He.cT K ("cross_of", none)).1 (He.cT K ("cross_of", none)).2 := B _ (List.mem_map.mpr ⟨("cross_of", none), by simp [tfL], rfl⟩)
theorem tm_cross_of (K : PySem.W.Frag) : ((He.cT K ("cross_of", none)).2, ((("cross_of" : Str) ++ ".<locals>.") ++ "<lambda>")) ∈ tabsL K := by simp [tabsL]
theorem tu_cross_of {K : PySem.W.Frag} {mg : Str → Option Value} (T : Tx K mg) : ∀ q ∈ tabsL K, q.1 = (He.cT K ("cross_of", none)).2 → q.2 = ((("cross_of" : Str) ++ ".<locals>.") ++ "<lambda>") := fun q hq e => by
  have tn := T.tn
  rcases List.mem_cons.mp hq with rfl | hq
  · rfl
  · rw [List.mem_singleton.mp hq] at e ⊢
    exact absurd e.symm tn
theorem tb__law_orders_right {K : PySem.W.Frag} {mg : Str → Option Value} {base : Heap} (B : Tbl K mg base) : LamX.TabB base mg (He.cT K ("_law_orders_right", none)).1 (He.cT K ("_law_orders_right", none)).2 := B _ (List.mem_map.mpr ⟨("_law_orders_right", none), by simp [tfL], rfl⟩)
theorem tm__law_orders_right (K : PySem.W.Frag) : ((He.cT K ("_law_orders_right", none)).2, ((("_law_orders_right" : Str) ++ ".<locals>.") ++ "<lambda>")) ∈ tabsL K := by simp [tabsL]
theorem tu__law_orders_right {K : PySem.W.Frag} {mg : Str → Option Value} (T : Tx K mg) : ∀ q ∈ tabsL K, q.1 = (He.cT K ("_law_orders_right", none)).2 → q.2 = ((("_law_orders_right" : Str) ++ ".<locals>.") ++ "<lambda>") := fun q hq e => by
  have tn := T.tn
  rcases List.mem_cons.mp hq with rfl | hq
  · exact absurd e tn
  · rw [List.mem_singleton.mp hq]
theorem tabs_of {K : PySem.W.Frag} {H : Hp} (h : ∀ p ∈ tfL.map (He.cT K), H p.2 = some (.tbl #[])) : LamX.Tabs (tabsL K) H := fun q hq => by
  rcases List.mem_cons.mp hq with rfl | hq
  · exact LamX.TabS.nil (h _ (List.mem_map.mpr ⟨("cross_of", none), by simp [tfL], rfl⟩))
  · rw [List.mem_singleton.mp hq]
    exact LamX.TabS.nil (h _ (List.mem_map.mpr ⟨("_law_orders_right", none), by simp [tfL], rfl⟩))

end WA

namespace WA
open PySem PySem.Spec PyProof.Rows L2 Evl

section
variable {P : Program} {w : World} {K : PySem.W.Frag} {mg : Str → Option Value} {base : Heap}
/-! ### check_table -/
def sp_check_table (K : PySem.W.Frag) : Sp := spV fun vs H z => ∃ a T w, vs = [.ref a] ∧ At K H a T w ∧ z = .non
theorem sv_check_table {H : Hp} {a : Addr} {T : Tb} {n : Nat} (h : At K H a T n) : SpV (sp_check_table K) ([.ref a] ++ []) H .non := spV_of fun _ e => ⟨a, T, n, rfl, h.mono e, rfl⟩
theorem cal_check_table (T : Tx K mg) : C8.Cal P w K mg base (0 + 1) "check_table" (sp_check_table K) [] := by
  refine T.d_check_table.cal sc_check_table (fun _ _ _ _ _ _ us hl => match us, hl with | [_], _ => rfl) ?_ ?_
  · rintro vs H Q E ⟨z, ⟨a, T, n, rfl, _⟩, _⟩; rfl
  · rintro f cdv A outer s H vs Q E hr ⟨z, ⟨a, Tb, n, rfl, hT, rfl⟩, q⟩
    refine ⟨(tSeq (tIfS (tOr (tNot (tB (tCB (rIsi K) (tCons (tVar 0) (tCons (tC (.ty "list")) tNil))))) (tNot (tB (tCB (rAll K) (tCons (tLc (iList K (tVar 0)) (gName 1) tYes (tCB (rIsi K) (tCons (tVar 1) (tCons (tC (.ty "str")) tNil))) [1]) tNil))))) tNever tNext) (tFor (iList K (tVar 0)) (gName 1) (tIfS (tOr (tTest (tOp rNe (tCB (rLn K) (tCons (tVar 1) tNil)) (tCB (rLn K) (tCons (tOp (rIxL K) (tVar 0) (tC (.int 0))) tNil)))) (tTest (tOp rNe (tM1 rStripC (tVar 1) (tC (.str "x-"))) (tC (.str ""))))) tNever tNext))), (pss_cons (ps_if (PW.pt (pw_or (pt_not (pt_val (pe_callB (id := "isinstance") call_isi (by rfl) T.isinstance (by decide +kernel) (pa_cons (pv 0) (pa_cons (pe_bltn (v := .ty "list") (by rfl) T.list (by decide +kernel) rfl) pa_nil))))) (pw_or1 (pt_not (pt_val (pe_callB (id := "all") (cr_all rfl) (by rfl) T.all (by decide +kernel) (pa_cons (pe_lc (own := [("row", 1)]) rfl sc_check_table.nd (pi_list (pv 0)) (blkOk_by (own := [("row", 1)]) (by kernel_rfl)) (fun _ _ _ _ _ => (pg_name (i := 1) sc_check_table.nd rfl (Or.inl rfl))) (fun _ _ _ _ _ => pts_nil) (fun _ _ _ _ _ => (pe_callB (id := "isinstance") call_isi (by rfl) T.isinstance (by decide +kernel) (pa_cons (pv 1) (pa_cons (pe_bltn (v := .ty "str") (by rfl) T.str (by decide +kernel) rfl) pa_nil))))) pa_nil))))))) (pss_one ps_never) pss_nil) (pss_one (ps_for PassesOwn.never rfl (pi_list (pv 0)) (pg_name (i := 1) sc_check_table.nd rfl (Or.inl rfl)) (pss_one (ps_if (PW.pt (pw_or (pt_cmpR op_ne (pe_callB (id := "len") cl_len (by rfl) T.len (by decide +kernel) (pa_cons (pv 1) pa_nil)) (pe_callB (id := "len") cl_len (by rfl) T.len (by decide +kernel) (pa_cons (pe_ix ix_list (pv 0) pe_int (fun _ _ => rfl)) pa_nil)) (nomark _)) (pw_or1 (pt_cmpR op_ne (pe_stripC (pv 1) pe_str) pe_str (nomark _))))) (pss_one ps_never) pss_nil))))), ?_⟩
    have hl := hT.ln
    have hw := hT.lw
    refine q_when (b := false) (et_is (et_or (et_not (et_B (ev_isiL (evs_var rfl hT.sq)))) fun _ => et_not (et_B (ev_allM (l := Tb) (p := fun _ => true) (els (el_map (g := fun r => V.str (rs r)) (evs_var rfl hT.sq) (by omega) (fun _ => rfl) fun r hr => ev_isiStr (ev_var rfl)))))) (by simp)) (fun hb => nomatch hb) fun _ H1 e1 => ?_
    have h1 := hT.mono e1
    refine s_forLn (ev_var rfl) h1.sq (fun i σ' H' => Ex H1 H' ∧ ∃ y, σ' = [some (.ref a), y]) (fun H2 e2 => ⟨e2, none, rfl⟩) (fun i σ' H' _ p => ex_l p.1 h1.sq) ?_ ?_
    · rintro i x σ' H' hx ⟨e2, y, rfl⟩
      have h2 := h1.mono e2
      obtain ⟨r, hr, rfl⟩ := List.mem_map.mp (List.mem_of_getElem? hx)
      have hlen : r.length = n := hT.rect r hr
      have hne : Tb ≠ [] := List.ne_nil_of_mem hr
      refine s_when (b := false) (et_is (et_or (et_test (ev_op (ev_lenRow (ev_var (v := .str (rs r)) rfl) (by omega)) (ev_len0 h2 (ev_var rfl) hne) (rv_ne rfl))) fun _ => et_test (ev_op (ev_strip (ev_var (v := .str (rs r)) rfl) (by omega)) ev_c (rv_ne rfl))) ?_) (fun hb => nomatch hb) fun _ H3 e3 => ⟨e2.trans e3, _, rfl⟩
      rw [hlen]; simp
    · rintro σ' H' ⟨e2, y, rfl⟩
      exact q H' (e1.trans e2)
/-! ### check_square -/
def sp_check_square (K : PySem.W.Frag) : Sp := spV fun vs H z => ∃ a T, vs = [.ref a] ∧ At K H a T T.length ∧ z = .non
theorem sv_check_square {H : Hp} {a : Addr} {T : Tb} (h : At K H a T T.length) : SpV (sp_check_square K) ([.ref a] ++ []) H .non := spV_of fun _ e => ⟨a, T, rfl, h.mono e, rfl⟩
theorem cal_check_square (T : Tx K mg) : C8.Cal P w K mg base (1 + 1) "check_square" (sp_check_square K) [] := by
  refine T.d_check_square.cal sc_check_square (fun _ _ _ _ _ _ us hl => match us, hl with | [_], _ => rfl) ?_ ?_
  · rintro vs H Q E ⟨z, ⟨a, T, rfl, _⟩, _⟩; rfl
  · rintro f cdv A outer s H vs Q E hr ⟨z, ⟨a, Tb, rfl, hT, rfl⟩, q⟩
    refine ⟨(tSeq (tDrop (tCall (sp_check_table K) [] C8.E0 (tCons (tVar 0) tNil))) (tIfS (tAnd (tTest (tOp (rNeD K) (tVar 0) (tLst tNil))) (tTest (tOp rNe (tCB (rLn K) (tCons (tOp (rIxL K) (tVar 0) (tC (.int 0))) tNil)) (tCB (rLn K) (tCons (tVar 0) tNil))))) tNever tNext)), (pss_cons (ps_expr (C8.pe_c (cal_check_table T) hr (by decide) (by rfl) (pa_cons (pv 0) pa_nil))) (pss_one (ps_if (PW.pt (pw_and (pt_cmpR (op_neD hr.units) (pv 0) (pe_lst pa_nil) (nomark _)) (pw_and1 (pt_cmpR op_ne (pe_callB (id := "len") cl_len (by rfl) T.len (by decide +kernel) (pa_cons (pe_ix ix_list (pv 0) pe_int (fun _ _ => rfl)) pa_nil)) (pe_callB (id := "len") cl_len (by rfl) T.len (by decide +kernel) (pa_cons (pv 0) pa_nil)) (nomark _))))) (pss_one ps_never) pss_nil))), ?_⟩
    refine q_drop (ev_call (ea_cons (ev_var rfl) ea_nil) (sv_check_table hT)) fun H1 e1 => ?_
    have h1 := hT.mono e1
    refine s_when (b := false) (et_is (et_and (et_test (ev_nempty (evs_var rfl h1.sq))) fun hne => et_test (ev_op (ev_len0 h1 (ev_var rfl) (by simpa using hne)) (ev_lenTab h1 (ev_var rfl)) (rv_ne rfl))) (by simp)) (fun hb => nomatch hb) fun _ H2 e2 => q H2 (e1.trans e2)
/-! ### has -/
def sp_has (K : PySem.W.Frag) : Sp := spV fun vs H z => ∃ a T w i j, vs = [.ref a, .int (i : Nat), .int (j : Nat)] ∧ At K H a T w ∧ i < T.length ∧ j < w ∧ z = .bl (gt T i j)
theorem sv_has {H : Hp} {a : Addr} {T : Tb} {n i j : Nat} (h : At K H a T n) (hi : i < T.length) (hj : j < n) : SpV (sp_has K) ([.ref a, .int (i : Nat), .int (j : Nat)] ++ []) H (.bl (gt T i j)) :=
  spV_of fun _ e => ⟨a, T, n, i, j, rfl, h.mono e, hi, hj, rfl⟩
theorem cal_has (T : Tx K mg) : C8.Cal P w K mg base (0 + 1) "has" (sp_has K) [] := by
  refine T.d_has.cal sc_has (fun _ _ _ _ _ _ us hl => match us, hl with | [_, _, _], _ => rfl) ?_ ?_
  · rintro vs H Q E ⟨z, ⟨a, T, n, i, j, rfl, _⟩, _⟩; rfl
  · rintro f cdv A outer s H vs Q E hr ⟨z, ⟨a, Tb, n, i, j, rfl, hT, hi, hj, rfl⟩, q⟩
    refine ⟨(tRet (tOp rEq (tOp rIxS (tOp (rIxL K) (tVar 0) (tVar 1)) (tVar 2)) (tC (.str "x")))), (pss_one (ps_ret (pe_cmpR op_eq (pe_ix ix_str (pe_ix ix_list (pv 0) (pv 1) (fun _ _ => rfl)) (pv 2) (fun _ _ => rfl)) pe_str (nomark _)))), ?_⟩
    exact s_ret (ev_isX (ev_cell hT (ev_var rfl) (ev_var rfl) (ev_var rfl) hi hj)) q
/-! ### rows_with -/
def sp_rows_with (K : PySem.W.Frag) : Sp := spL fun vs H xs => ∃ a T w j, vs = [.ref a, .int (j : Nat)] ∧ At K H a T w ∧ (T ≠ [] → j < w) ∧ xs = nv (colOf T j)
theorem sl_rows_with {H : Hp} {a : Addr} {T : Tb} {n j : Nat} (h : At K H a T n) (hj : T ≠ [] → j < n) : SpL (sp_rows_with K) ([.ref a, .int (j : Nat)] ++ []) H (nv (colOf T j)) :=
  spL_of fun _ e => ⟨a, T, n, j, rfl, h.mono e, hj, rfl⟩
theorem cal_rows_with (T : Tx K mg) : C8.Cal P w K mg base (1 + 1) "rows_with" (sp_rows_with K) [] := by
  refine T.d_rows_with.cal sc_rows_with (fun _ _ _ _ _ _ us hl => match us, hl with | [_, _], _ => rfl) ?_ ?_
  · rintro vs H Q E ⟨z, ⟨a, T, n, j, rfl, _⟩, _⟩; rfl
  · rintro f cdv A outer s H vs Q E hr ⟨z, ⟨a, Tb, n, j, rfl, hT, hj, rfl⟩, q⟩
    refine ⟨(tRet (tLc (iRng1 (tCons (tCB (rLn K) (tCons (tVar 0) tNil)) tNil)) (gName 2) (tB (tCall (sp_has K) [] C8.E0 (tCons (tVar 0) (tCons (tVar 2) (tCons (tVar 1) tNil))))) (tVar 2) [2])), (pss_one (ps_ret (pe_lc (own := [("row", 2)]) rfl sc_rows_with.nd (pi_range1 (by rfl) T.range (pa_cons (pe_callB (id := "len") cl_len (by rfl) T.len (by decide +kernel) (pa_cons (pv 0) pa_nil)) pa_nil)) (blkOk_by (own := [("row", 2)]) (by kernel_rfl)) (fun _ _ _ _ _ => (pg_name (i := 2) sc_rows_with.nd rfl (Or.inl rfl))) (fun _ _ _ _ _ => (pts_one (pt_val (C8.pe_c (cal_has T) hr (by decide) (by rfl) (pa_cons (pv 0) (pa_cons (pv 2) (pa_cons (pv 1) pa_nil))))))) (fun _ _ _ _ _ => (pv 2))))), ?_⟩
    have hl := hT.ln
    refine s_retL (el_filtR (p := fun i => gt Tb i j) (f := fun i : Nat => V.int (i : Nat)) (ev_lenTab hT (ev_var rfl)) (by omega) (fun _ => rfl) (fun i hi => ?_) (fun i hi _ => ev_var rfl)) q
    exact et_B (ev_call (ea_cons (ev_var rfl) (ea_cons (ev_var rfl) (ea_cons (ev_var rfl) ea_nil))) (sv_has hT hi (hj (List.length_pos_iff.mp (by omega)))))
end

section
variable {P : Program} {w : World} {K : PySem.W.Frag} {mg : Str → Option Value} {base : Heap}

/-! ### has, by ints -/
theorem sv_hasI {H : Hp} {a : Addr} {T : Tb} {n : Nat} {i j : Int} (h : At K H a T n) (hi : inT T i = true) (hj : ∃ k : Nat, j = (k : Nat) ∧ k < n) : SpV (sp_has K) ([.ref a, .int i, .int j] ++ []) H (.bl (gi T i j)) := by
  obtain ⟨i', rfl, hi'⟩ := inT_nat hi
  obtain ⟨j', rfl, hj'⟩ := hj
  rw [gi_nat]
  exact sv_has h hi' hj'
/-! ### are_things -/
def sp_are_things (K : PySem.W.Frag) : Sp := spV fun vs H z => ∃ a p T w, ∃ ns : List Int, vs = [.ref a, .ref p] ∧ At K H a T w ∧ SqL K H p (ns.map V.int) ∧ ns.length ≤ 1000 ∧ z = .bl (ns.all (inT T))
theorem sv_are_things {H : Hp} {a : Addr} {T : Tb} {n : Nat} {ns : List Int} {vs : List V} (h : At K H a T n) (hv : AvsAre K H [.v (.ref a), .s (ns.map V.int)] vs) (hz : ns.length ≤ 1000) : SpV (sp_are_things K) (vs ++ []) H (.bl (ns.all (inT T))) := by
  obtain ⟨_, rfl, p, _, rfl, hp, rfl⟩ := hv
  exact spV_of fun _ e => ⟨a, p, T, n, ns, rfl, h.mono e, ex_l e hp, hz, rfl⟩
theorem cal_are_things (T : Tx K mg) : C8.Cal P w K mg base (0 + 1) "are_things" (sp_are_things K) [] := by
  refine T.d_are_things.cal sc_are_things (fun _ _ _ _ _ _ us hl => match us, hl with | [_, _], _ => rfl) ?_ ?_
  · rintro vs H Q E ⟨z, ⟨a, p, T, n, ns, rfl, _⟩, _⟩; rfl
  · rintro f cdv A outer s H vs Q E hr ⟨z, ⟨a, p, Tb, n, ns, rfl, hT, hs, hz, rfl⟩, q⟩
    refine ⟨(tRet (tCB (rAll K) (tCons (tLc (iList K (tVar 1)) (gName 2) tYes (tChain rLeI rLtI (tC (.int 0)) (tVar 2) (tCB (rLn K) (tCons (tVar 0) tNil))) [2]) tNil))), (pss_one (ps_ret (pe_callB (id := "all") (cr_all rfl) (by rfl) T.all (by decide +kernel) (pa_cons (pe_lc (own := [("one", 2)]) rfl sc_are_things.nd (pi_list (pv 1)) (blkOk_by (own := [("one", 2)]) (by kernel_rfl)) (fun _ _ _ _ _ => (pg_name (i := 2) sc_are_things.nd rfl (Or.inl rfl))) (fun _ _ _ _ _ => pts_nil) (fun _ _ _ _ _ => (pe_chain op_le op_lt pe_int (pv 2) (pe_callB (id := "len") cl_len (by rfl) T.len (by decide +kernel) (pa_cons (pv 0) pa_nil))))) pa_nil)))), ?_⟩
    exact s_ret (ev_allM (l := ns) (p := inT Tb) (els (el_map (g := V.int) (f := fun x => V.bl (inT Tb x)) (evs_var rfl hs) (by omega) (fun _ => rfl) fun c hc => ev_chain ev_c (ev_var rfl) (fun _ => ev_lenTab hT (ev_var rfl)) rv_I0 fun _ => rv_I0))) q
theorem ev_things {σ : L2.St} {H : Hp} {a : Addr} {T : Tb} {n : Nat} {ns : List Int} {te tl : TE} {E : XK} (ha : Ev te σ H (.ref a)) (h : EvS K tl σ H (ns.map V.int)) (hT : At K H a T n) (hz : ns.length ≤ 1000) : Ev (tCall (sp_are_things K) [] E (tCons te (tCons tl tNil))) σ H (.bl (ns.all (inT T))) :=
  ev_callAv (eav_v ha (eav_s h eav_nil)) fun vs H1 e r => sv_are_things (hT.mono e) r hz
theorem ev_hasI {σ : L2.St} {H : Hp} {a : Addr} {T : Tb} {n : Nat} {i j : Int} {ta tb tc : TE} {E : XK} (h : At K H a T n) (ha : Ev ta σ H (.ref a)) (hb : Ev tb σ H (.int i)) (hc : Ev tc σ H (.int j)) (hi : inT T i = true) (hj : ∃ k : Nat, j = (k : Nat) ∧ k < n) :
    Ev (tCall (sp_has K) [] E (tCons ta (tCons tb (tCons tc tNil)))) σ H (.bl (gi T i j)) := ev_call (ea_cons ha (ea_cons hb (ea_cons hc ea_nil))) (sv_hasI h hi hj)
theorem evs_ints1 {σ : L2.St} {H : Hp} {i : Int} {ta : TE} (h : Ev ta σ H (.int i)) : EvS K (tLst (tCons ta tNil)) σ H ([i].map V.int) := els (el_lst (ea_cons h ea_nil) (show 1 ≤ 100000 by decide))
theorem evs_ints2 {σ : L2.St} {H : Hp} {i j : Int} {ta tb : TE} (h : Ev ta σ H (.int i)) (h2 : Ev tb σ H (.int j)) : EvS K (tLst (tCons ta (tCons tb tNil))) σ H ([i, j].map V.int) := els (el_lst (ea_cons h (ea_cons h2 ea_nil)) (show 2 ≤ 100000 by decide))
theorem evs_ints3 {σ : L2.St} {H : Hp} {i j k : Int} {ta tb tc : TE} (h : Ev ta σ H (.int i)) (h2 : Ev tb σ H (.int j)) (h3 : Ev tc σ H (.int k)) : EvS K (tLst (tCons ta (tCons tb (tCons tc tNil)))) σ H ([i, j, k].map V.int) := els (el_lst (ea_cons h (ea_cons h2 (ea_cons h3 ea_nil))) (show 3 ≤ 100000 by decide))
theorem evs_ints4 {σ : L2.St} {H : Hp} {i j k l : Int} {ta tb tc td : TE} (h : Ev ta σ H (.int i)) (h2 : Ev tb σ H (.int j)) (h3 : Ev tc σ H (.int k)) (h4 : Ev td σ H (.int l)) : EvS K (tLst (tCons ta (tCons tb (tCons tc (tCons td tNil))))) σ H ([i, j, k, l].map V.int) := els (el_lst (ea_cons h (ea_cons h2 (ea_cons h3 (ea_cons h4 ea_nil)))) (show 4 ≤ 100000 by decide))
/-! ### are_three -/
def sp_are_three (K : PySem.W.Frag) : Sp := spV fun vs H z => ∃ a T w i j k, vs = [.ref a, .int i, .int j, .int k] ∧ At K H a T w ∧ z = .bl (threeT T i j k)
theorem sv_are_three {H : Hp} {a : Addr} {T : Tb} {n : Nat} {i j k : Int} (h : At K H a T n) : SpV (sp_are_three K) ([.ref a, .int i, .int j, .int k] ++ []) H (.bl (threeT T i j k)) := spV_of fun _ e => ⟨a, T, n, i, j, k, rfl, h.mono e, rfl⟩
theorem cal_are_three (T : Tx K mg) : C8.Cal P w K mg base (1 + 1) "are_three" (sp_are_three K) [] := by
  refine T.d_are_three.cal sc_are_three (fun _ _ _ _ _ _ us hl => match us, hl with | [_, _, _, _], _ => rfl) ?_ ?_
  · rintro vs H Q E ⟨z, ⟨a, T, n, i, j, k, rfl, _⟩, _⟩; rfl
  · rintro f cdv A outer s H vs Q E hr ⟨z, ⟨a, Tb, n, i, j, k, rfl, hT, rfl⟩, q⟩
    refine ⟨(tRet (tAndV (tCall (sp_are_things K) [] C8.E0 (tCons (tVar 0) (tCons (tLst (tCons (tVar 1) (tCons (tVar 2) (tCons (tVar 3) tNil)))) tNil))) (tOp rEq (tLenS K (tLst (tCons (tVar 1) (tCons (tVar 2) (tCons (tVar 3) tNil))))) (tC (.int 3))))), (pss_one (ps_ret (pe_and (C8.pe_c (cal_are_things T) hr (by decide) (by rfl) (pa_cons (pv 0) (pa_cons (pe_lst (pa_cons (pv 1) (pa_cons (pv 2) (pa_cons (pv 3) pa_nil)))) pa_nil))) (pe_one (pe_cmpR op_eq (pe_lenS (by rfl) T.len (by rfl) T.set (pe_lst (pa_cons (pv 1) (pa_cons (pv 2) (pa_cons (pv 3) pa_nil))))) pe_int (nomark _)))))), ?_⟩
    exact s_ret (ev_is (ev_andV (ev_things (ev_var rfl) (evs_ints3 (ev_var rfl) (ev_var rfl) (ev_var rfl)) hT (Nat.le_of_ble_eq_true rfl)) fun _ => ev_op (ev_lenSet (ns := [i, j, k]) (evs_ints3 (ev_var rfl) (ev_var rfl) (ev_var rfl)) (Nat.le_of_ble_eq_true rfl)) ev_c (rv_eq rfl)) (by rw [three_diff])) q

end

end WA

namespace WA
open PySem PySem.Spec PyProof.Rows L2 Evl

section
variable {P : Program} {w : World} {K : PySem.W.Frag} {mg : Str → Option Value} {base : Heap}

/-! ### Self -/
theorem mak_Self (T : Tx K mg) : C8.Mak P w K mg base (0 + 1) "Self" (gaK K .self) (sp_init K .self) [] := by
  refine mak_of T.mk_Self T.g_Self T.f_Self_init sc_Self_init (fun _ _ _ _ _ _ us hl => match us, hl with | [_, _], _ => rfl) ?_ ?_
  · rintro vs H Q E ⟨x, dx, ans, ws, rfl, hk, hx, r, q⟩
    match ans, ws, hk, r with
    | .self i, _, _, ⟨_, rfl, rfl⟩ => rfl
  · rintro f cdv A outer s H vs Q E hr ⟨x, dx, ans, ws, rfl, hk, hx, r, q⟩
    refine ⟨(sFld K (tVar 0) (tVar 1) "one"), (pss_one (ps_fld (pv 0) (pv 1) rfl)), ?_⟩
    match ans, ws, hk, r, q with
    | .self i, _, _, ⟨_, rfl, rfl⟩, q => exact s_fld (ev_var rfl) (ev_var rfl) hx T.cl_Self T.n_Self_one (Nat.le_of_ble_eq_true rfl) fun H1 e1 => q _ ⟨dx, upd_same⟩ (Ax.upd e1)
theorem met_Self (T : Tx K mg) : C8.Met P w K mg base (1 + 1) (gaK K .self) "shows" (sp_shows K .self) [] := by
  refine met_of T.cl_Self T.sh_Self T.f_Self_shows sc_Self_shows (fun _ _ _ _ _ _ us hl => match us, hl with | [_, _], _ => rfl) ?_ ?_
  · rintro vs H Q E ⟨z, ⟨x, a, T, n, ans, H0, rfl, _⟩, _⟩; rfl
  · rintro f cdv A outer s H vs Q E hr ⟨z, ⟨x, a, Tb, n, ans, H0, rfl, hk, hA, hT, hs, rfl⟩, q⟩
    refine ⟨(tRet (tAndV (tCall (sp_are_things K) [] C8.E0 (tCons (tVar 1) (tCons (tLst (tCons (tFld K (tVar 0) "one") tNil)) tNil))) (tCall (sp_has K) [] C8.E0 (tCons (tVar 1) (tCons (tFld K (tVar 0) "one") (tCons (tFld K (tVar 0) "one") tNil)))))), (pss_one (ps_ret (pe_and (C8.pe_c (cal_are_things T) hr (by decide) (by rfl) (pa_cons (pv 1) (pa_cons (pe_lst (pa_cons (pe_fld (pv 0) rfl) pa_nil)) pa_nil))) (pe_one (C8.pe_c (cal_has T) hr (by decide) (by rfl) (pa_cons (pv 1) (pa_cons (pe_fld (pv 0) rfl) (pa_cons (pe_fld (pv 0) rfl) pa_nil)))))))), ?_⟩
    match ans, hk, hA, q with
    | .self i, _, hA, q =>
      have hs : n = Tb.length := hs.1
      subst hs
      have fo : Ev (tFld K (tVar 0) "one") (start nm_Self_shows [.ref x, .ref a]) H (.int i) := ev_fld (ev_var rfl) hA T.cl_Self T.n_Self_one rfl
      refine s_ret (ev_is (ev_andV (b := gi Tb i i) (ev_things (ev_var rfl) (evs_ints1 fo) hT (Nat.le_of_ble_eq_true rfl)) fun hb => ?_) (by simp [shown])) q
      have hi : inT Tb i = true := by simpa using hb
      exact ev_hasI hT (ev_var rfl) fo fo hi (inT_nat hi)
/-! ### Mutual -/
theorem mak_Mutual (T : Tx K mg) : C8.Mak P w K mg base (0 + 1) "Mutual" (gaK K .mutual) (sp_init K .mutual) [] := by
  refine mak_of T.mk_Mutual T.g_Mutual T.f_Mutual_init sc_Mutual_init (fun _ _ _ _ _ _ us hl => match us, hl with | [_, _, _], _ => rfl) ?_ ?_
  · rintro vs H Q E ⟨x, dx, ans, ws, rfl, hk, hx, r, q⟩
    match ans, ws, hk, r with
    | .mutual i j, _, _, ⟨_, rfl, _, rfl, rfl⟩ => rfl
  · rintro f cdv A outer s H vs Q E hr ⟨x, dx, ans, ws, rfl, hk, hx, r, q⟩
    refine ⟨(tSeq (sFld K (tVar 0) (tVar 1) "one") (sFld K (tVar 0) (tVar 2) "other")), (pss_cons (ps_fld (pv 0) (pv 1) rfl) (pss_one (ps_fld (pv 0) (pv 2) rfl))), ?_⟩
    match ans, ws, hk, r, q with
    | .mutual i j, _, _, ⟨_, rfl, _, rfl, rfl⟩, q => exact q_fld (ev_var rfl) (ev_var rfl) hx T.cl_Mutual T.n_Mutual_one (Nat.le_of_ble_eq_true rfl) fun H1 e1 => s_fld (ev_var rfl) (ev_var rfl) upd_same T.cl_Mutual T.n_Mutual_other (Nat.le_of_ble_eq_true rfl) fun H2 e2 => q _ ⟨dx, upd_same⟩ ((Ax.upd e1).trans (Ax.upd e2))
theorem met_Mutual (T : Tx K mg) : C8.Met P w K mg base (1 + 1) (gaK K .mutual) "shows" (sp_shows K .mutual) [] := by
  refine met_of T.cl_Mutual T.sh_Mutual T.f_Mutual_shows sc_Mutual_shows (fun _ _ _ _ _ _ us hl => match us, hl with | [_, _], _ => rfl) ?_ ?_
  · rintro vs H Q E ⟨z, ⟨x, a, T, n, ans, H0, rfl, _⟩, _⟩; rfl
  · rintro f cdv A outer s H vs Q E hr ⟨z, ⟨x, a, Tb, n, ans, H0, rfl, hk, hA, hT, hs, rfl⟩, q⟩
    refine ⟨(tSeq (tIfS (tOr (tTest (tOp rEq (tFld K (tVar 0) "one") (tFld K (tVar 0) "other"))) (tNot (tB (tCall (sp_are_things K) [] C8.E0 (tCons (tVar 1) (tCons (tLst (tCons (tFld K (tVar 0) "one") (tCons (tFld K (tVar 0) "other") tNil))) tNil)))))) (tRet (tC (.bl false))) tNext) (tRet (tAndV (tCall (sp_has K) [] C8.E0 (tCons (tVar 1) (tCons (tFld K (tVar 0) "one") (tCons (tFld K (tVar 0) "other") tNil)))) (tCall (sp_has K) [] C8.E0 (tCons (tVar 1) (tCons (tFld K (tVar 0) "other") (tCons (tFld K (tVar 0) "one") tNil))))))), (pss_cons (ps_if (PW.pt (pw_or (pt_cmpR op_eq (pe_fld (pv 0) rfl) (pe_fld (pv 0) rfl) (nomark _)) (pw_or1 (pt_not (pt_val (C8.pe_c (cal_are_things T) hr (by decide) (by rfl) (pa_cons (pv 1) (pa_cons (pe_lst (pa_cons (pe_fld (pv 0) rfl) (pa_cons (pe_fld (pv 0) rfl) pa_nil))) pa_nil)))))))) (pss_one (ps_ret pe_bl)) pss_nil) (pss_one (ps_ret (pe_and (C8.pe_c (cal_has T) hr (by decide) (by rfl) (pa_cons (pv 1) (pa_cons (pe_fld (pv 0) rfl) (pa_cons (pe_fld (pv 0) rfl) pa_nil)))) (pe_one (C8.pe_c (cal_has T) hr (by decide) (by rfl) (pa_cons (pv 1) (pa_cons (pe_fld (pv 0) rfl) (pa_cons (pe_fld (pv 0) rfl) pa_nil))))))))), ?_⟩
    match ans, hk, hA, q with
    | .mutual i j, _, hA, q =>
      have hs : n = Tb.length := hs.1
      subst hs
      have fo : ∀ H1, Ex H H1 → Ev (tFld K (tVar 0) "one") (start nm_Mutual_shows [.ref x, .ref a]) H1 (.int i) := fun H1 e => ev_fld (ev_var rfl) (hA.mono e) T.cl_Mutual T.n_Mutual_one rfl
      have ft : ∀ H1, Ex H H1 → Ev (tFld K (tVar 0) "other") (start nm_Mutual_shows [.ref x, .ref a]) H1 (.int j) := fun H1 e => ev_fld (ev_var rfl) (hA.mono e) T.cl_Mutual T.n_Mutual_other rfl
      have e0 := Ex.refl H
      refine q_when (et_or (et_test (ev_op (fo H e0) (ft H e0) (rv_eq rfl))) fun _ => et_not (et_B (ev_things (ev_var rfl) (evs_ints2 (fo H e0) (ft H e0)) hT (Nat.le_of_ble_eq_true rfl)))) (fun hb H1 e1 => ?_) fun hb H1 e1 => ?_
      · refine s_ret (ev_is ev_c (by rw [dec_int] at hb; simp [shown] at hb ⊢; grind)) fun H2 e2 => q H2 (e1.trans e2)
      · rw [dec_int] at hb
        have hb' : ¬ i = j ∧ inT Tb i = true ∧ inT Tb j = true := by simpa using hb
        obtain ⟨h0, h1, h2⟩ := hb'
        have hT1 := hT.mono e1
        exact s_ret (ev_is (ev_andV (ev_hasI hT1 (ev_var rfl) (fo H1 e1) (ft H1 e1) h1 (inT_nat h2)) fun _ => ev_hasI hT1 (ev_var rfl) (ft H1 e1) (fo H1 e1) h2 (inT_nat h1)) (by simp [shown, h1, h2, h0])) fun H2 e2 => q H2 (e1.trans e2)
/-! ### Beside -/
theorem mak_Beside (T : Tx K mg) : C8.Mak P w K mg base (0 + 1) "Beside" (gaK K .beside) (sp_init K .beside) [] := by
  refine mak_of T.mk_Beside T.g_Beside T.f_Beside_init sc_Beside_init (fun _ _ _ _ _ _ us hl => match us, hl with | [_, _, _, _], _ => rfl) ?_ ?_
  · rintro vs H Q E ⟨x, dx, ans, ws, rfl, hk, hx, r, q⟩
    match ans, ws, hk, r with
    | .beside i j k, _, _, ⟨_, rfl, _, rfl, _, rfl, rfl⟩ => rfl
  · rintro f cdv A outer s H vs Q E hr ⟨x, dx, ans, ws, rfl, hk, hx, r, q⟩
    refine ⟨(tSeq (sFld K (tVar 0) (tVar 1) "one") (tSeq (sFld K (tVar 0) (tVar 2) "other") (sFld K (tVar 0) (tVar 3) "third"))), (pss_cons (ps_fld (pv 0) (pv 1) rfl) (pss_cons (ps_fld (pv 0) (pv 2) rfl) (pss_one (ps_fld (pv 0) (pv 3) rfl)))), ?_⟩
    match ans, ws, hk, r, q with
    | .beside i j k, _, _, ⟨_, rfl, _, rfl, _, rfl, rfl⟩, q => exact q_fld (ev_var rfl) (ev_var rfl) hx T.cl_Beside T.n_Beside_one (Nat.le_of_ble_eq_true rfl) fun H1 e1 => q_fld (ev_var rfl) (ev_var rfl) upd_same T.cl_Beside T.n_Beside_other (Nat.le_of_ble_eq_true rfl) fun H2 e2 => s_fld (ev_var rfl) (ev_var rfl) upd_same T.cl_Beside T.n_Beside_third (Nat.le_of_ble_eq_true rfl) fun H3 e3 => q _ ⟨dx, upd_same⟩ (((Ax.upd e1).trans (Ax.upd e2)).trans (Ax.upd e3))
theorem met_Beside (T : Tx K mg) : C8.Met P w K mg base (2 + 1) (gaK K .beside) "shows" (sp_shows K .beside) [] := by
  refine met_of T.cl_Beside T.sh_Beside T.f_Beside_shows sc_Beside_shows (fun _ _ _ _ _ _ us hl => match us, hl with | [_, _], _ => rfl) ?_ ?_
  · rintro vs H Q E ⟨z, ⟨x, a, T, n, ans, H0, rfl, _⟩, _⟩; rfl
  · rintro f cdv A outer s H vs Q E hr ⟨z, ⟨x, a, Tb, n, ans, H0, rfl, hk, hA, hT, hs, rfl⟩, q⟩
    refine ⟨(tSeq (tIfS (tOr (tNot (tB (tCall (sp_are_three K) [] C8.E0 (tCons (tVar 1) (tCons (tFld K (tVar 0) "one") (tCons (tFld K (tVar 0) "other") (tCons (tFld K (tVar 0) "third") tNil))))))) (tNot (tB (tCall (sp_has K) [] C8.E0 (tCons (tVar 1) (tCons (tFld K (tVar 0) "one") (tCons (tFld K (tVar 0) "other") tNil))))))) (tRet (tC (.bl false))) tNext) (tRet (tAndV (tNotV (tCall (sp_has K) [] C8.E0 (tCons (tVar 1) (tCons (tFld K (tVar 0) "one") (tCons (tFld K (tVar 0) "third") tNil))))) (tNotV (tCall (sp_has K) [] C8.E0 (tCons (tVar 1) (tCons (tFld K (tVar 0) "third") (tCons (tFld K (tVar 0) "other") tNil)))))))), (pss_cons (ps_if (PW.pt (pw_or (pt_not (pt_val (C8.pe_c (cal_are_three T) hr (by decide) (by rfl) (pa_cons (pv 1) (pa_cons (pe_fld (pv 0) rfl) (pa_cons (pe_fld (pv 0) rfl) (pa_cons (pe_fld (pv 0) rfl) pa_nil))))))) (pw_or1 (pt_not (pt_val (C8.pe_c (cal_has T) hr (by decide) (by rfl) (pa_cons (pv 1) (pa_cons (pe_fld (pv 0) rfl) (pa_cons (pe_fld (pv 0) rfl) pa_nil))))))))) (pss_one (ps_ret pe_bl)) pss_nil) (pss_one (ps_ret (pe_and (pe_not (C8.pe_c (cal_has T) hr (by decide) (by rfl) (pa_cons (pv 1) (pa_cons (pe_fld (pv 0) rfl) (pa_cons (pe_fld (pv 0) rfl) pa_nil))))) (pe_one (pe_not (C8.pe_c (cal_has T) hr (by decide) (by rfl) (pa_cons (pv 1) (pa_cons (pe_fld (pv 0) rfl) (pa_cons (pe_fld (pv 0) rfl) pa_nil)))))))))), ?_⟩
    match ans, hk, hA, q with
    | .beside i j k, _, hA, q =>
      have hs : n = Tb.length := hs.1
      subst hs
      have f1 : ∀ H1, Ex H H1 → Ev (tFld K (tVar 0) "one") (start nm_Beside_shows [.ref x, .ref a]) H1 (.int i) := fun H1 e => ev_fld (ev_var rfl) (hA.mono e) T.cl_Beside T.n_Beside_one rfl
      have f2 : ∀ H1, Ex H H1 → Ev (tFld K (tVar 0) "other") (start nm_Beside_shows [.ref x, .ref a]) H1 (.int j) := fun H1 e => ev_fld (ev_var rfl) (hA.mono e) T.cl_Beside T.n_Beside_other rfl
      have f3 : ∀ H1, Ex H H1 → Ev (tFld K (tVar 0) "third") (start nm_Beside_shows [.ref x, .ref a]) H1 (.int k) := fun H1 e => ev_fld (ev_var rfl) (hA.mono e) T.cl_Beside T.n_Beside_third rfl
      have e0 := Ex.refl H
      refine q_when (b := !threeT Tb i j k || !gi Tb i j) (et_or (et_not (et_B (ev_call (ea_cons (ev_var rfl) (ea_cons (f1 H e0) (ea_cons (f2 H e0) (ea_cons (f3 H e0) ea_nil)))) (sv_are_three hT)))) fun hb => et_not (et_B (ev_hasI hT (ev_var rfl) (f1 H e0) (f2 H e0) ?_ ?_))) (fun hb H1 e1 => ?_) fun hb H1 e1 => ?_
      · have hb' : threeT Tb i j k = true := by simpa using hb
        exact (three_in hb').1
      · have hb' : threeT Tb i j k = true := by simpa using hb
        exact inT_nat (three_in hb').2.1
      · exact s_ret (ev_is ev_c (by cases h1 : threeT Tb i j k <;> cases h2 : gi Tb i j <;> simp [shown, h1, h2] at hb ⊢)) fun H2 e2 => q H2 (e1.trans e2)
      · have hb' : threeT Tb i j k = true ∧ gi Tb i j = true := by simpa using hb
        obtain ⟨h1, h2, h3⟩ := three_in hb'.1
        have hT1 := hT.mono e1
        exact s_ret (ev_is (ev_andV (ev_notV (ev_hasI hT1 (ev_var rfl) (f1 H1 e1) (f3 H1 e1) h1 (inT_nat h3))) fun _ => ev_notV (ev_hasI hT1 (ev_var rfl) (f3 H1 e1) (f2 H1 e1) h3 (inT_nat h2))) (by simp [shown, hb'])) fun H2 e2 => q H2 (e1.trans e2)
/-! ### Ranks -/
theorem mak_Ranks (T : Tx K mg) : C8.Mak P w K mg base (0 + 1) "Ranks" (gaK K .ranks) (sp_init K .ranks) [] := by
  refine mak_of T.mk_Ranks T.g_Ranks T.f_Ranks_init sc_Ranks_init (fun _ _ _ _ _ _ us hl => match us, hl with | [_, _], _ => rfl) ?_ ?_
  · rintro vs H Q E ⟨x, dx, ans, ws, rfl, hk, hx, r, q⟩
    match ans, ws, hk, r with
    | .ranks l, _, _, ⟨_, _, rfl, _, rfl⟩ => rfl
  · rintro f cdv A outer s H vs Q E hr ⟨x, dx, ans, ws, rfl, hk, hx, r, q⟩
    refine ⟨(sFld K (tVar 0) (tCB (rLs K) (tCons (tVar 1) tNil)) "ranks"), (pss_one (ps_fld (pv 0) (pe_callTy (T := "list") cl_list (by rfl) T.list (by decide +kernel) (pa_cons (pv 1) pa_nil)) rfl)), ?_⟩
    match ans, ws, hk, r, q with
    | .ranks l, _, _, ⟨p, _, rfl, hp, rfl⟩, q => exact s_fldL (el_copy (evs_var rfl hp)) (ev_var rfl) hx T.cl_Ranks T.n_Ranks_ranks (Nat.le_of_ble_eq_true rfl) fun m H1 hm e1 h1 => q _ ⟨m, ⟨dx, upd_same⟩, hm, by rw [upd_ne (fun z => by rw [z, hx] at hm; cases hm)]; exact h1⟩ (Ax.upd e1)
theorem met_Ranks (T : Tx K mg) : C8.Met P w K mg base (0 + 1) (gaK K .ranks) "shows" (sp_shows K .ranks) [] := by
  refine met_of T.cl_Ranks T.sh_Ranks T.f_Ranks_shows sc_Ranks_shows (fun _ _ _ _ _ _ us hl => match us, hl with | [_, _], _ => rfl) ?_ ?_
  · rintro vs H Q E ⟨z, ⟨x, a, T, n, ans, H0, rfl, _⟩, _⟩; rfl
  · rintro f cdv A outer s H vs Q E hr ⟨z, ⟨x, a, Tb, n, ans, H0, rfl, hk, hA, hT, hs, rfl⟩, q⟩
    refine ⟨(tSeq (tIfS (tTest (tOp rNe (tCB (rLn K) (tCons (tFld K (tVar 0) "ranks") tNil)) (tCB (rLn K) (tCons (tVar 1) tNil)))) (tRet (tC (.bl false))) tNext) (tSeq (tFor (iZip K (tCons (tVar 1) (tCons (tFld K (tVar 0) "ranks") tNil))) (gTup K 2 (gCons (gName 2) (gCons (gName 3) gNil))) (tIfS (tTest (tOp rNe (tM1 (rJoin K) (tC (.str "")) (tLc (iList K (tFld K (tVar 0) "ranks")) (gName 4) tYes (tIf (tTest (tOp rLtI (tVar 3) (tVar 4))) (tC (.str "x")) (tC (.str "-"))) [4])) (tVar 2))) (tRet (tC (.bl false))) tNext)) (tRet (tC (.bl true))))), (pss_cons (ps_if (pt_cmpR op_ne (pe_callB (id := "len") cl_len (by rfl) T.len (by decide +kernel) (pa_cons (pe_fld (pv 0) rfl) pa_nil)) (pe_callB (id := "len") cl_len (by rfl) T.len (by decide +kernel) (pa_cons (pv 1) pa_nil)) (nomark _)) (pss_one (ps_ret pe_bl)) pss_nil) (pss_cons (ps_for PassesOwn.never rfl (pi_zip (by rfl) T.zip (pa_cons (pv 1) (pa_cons (pe_fld (pv 0) rfl) pa_nil))) (pg_tup rfl (pgs_cons (pg_name (i := 2) sc_Ranks_shows.nd rfl (Or.inl rfl)) (pgs_cons (pg_name (i := 3) sc_Ranks_shows.nd rfl (Or.inr rfl)) pgs_nil))) (pss_one (ps_if (pt_cmpR op_ne (pe_joinR pe_str (pe_lc (own := [("theirs", 4)]) rfl sc_Ranks_shows.nd (pi_list (pe_fld (pv 0) rfl)) (blkOk_by (own := [("theirs", 4)]) (by kernel_rfl)) (fun _ _ _ _ _ => (pg_name (i := 4) sc_Ranks_shows.nd rfl (Or.inl rfl))) (fun _ _ _ _ _ => pts_nil) (fun _ _ _ _ _ => (pe_ifExp (pt_cmpR op_lt (pv 3) (pv 4) (nomark _)) pe_str pe_str)))) (pv 2) (nomark _)) (pss_one (ps_ret pe_bl)) pss_nil))) (pss_one (ps_ret pe_bl)))), ?_⟩
    match ans, hk, hA, q with
    | .ranks r, _, ⟨l, hA, hl⟩, q =>
      have hs : n = Tb.length := hs.1
      subst hs
      have hln := hT.ln
      have fr : ∀ {σ : L2.St} (H1 : Hp), Ex H H1 → σ[0]? = some (some (.ref x)) → EvS K (tFld K (tVar 0) "ranks") σ H1 (r.map V.int) := fun H1 e h => evs_fld (ev_var h) (hA.mono e) T.cl_Ranks T.n_Ranks_ranks rfl (hl.mono e)
      refine q_when (et_test (ev_op (ev_lenInts (fr H (Ex.refl H) rfl)) (ev_lenTab hT (ev_var rfl)) (rv_ne rfl))) (fun hb H1 e1 => ?_) fun hb H1 e1 => ?_
      · have hb' : r.length ≠ Tb.length := by rw [dec_int] at hb; intro z; simp [z] at hb
        exact s_ret (ev_is ev_c (by simp [shown, ranksOk, hb'])) fun H2 e2 => q H2 (e1.trans e2)
      · have hb' : r.length = Tb.length := by rw [dec_int] at hb; simp at hb; omega
        have hT1 := hT.mono e1
        refine q_forZ (l := Tb) (m := r) (f := fun r => V.str (rs r)) (f' := V.int) (evs_var rfl hT1.sq) (fr H1 e1 rfl) hb'.symm (fun k σ' => (∀ i, i < k → ∀ row m, Tb[i]? = some row → r[i]? = some m → (r.map fun t => decide (m < t)) = row) ∧ ∃ y2 y3, σ' = [some (.ref x), some (.ref a), y2, y3, none]) ⟨fun i hi => absurd hi (Nat.not_lt_zero _), _, _, rfl⟩ ?_ ?_
        · rintro k row m σ' H2 hrow hm e2 ⟨hP, y2, y3, rfl⟩ D' hrt hbk hnx
          have e12 := e1.trans e2
          refine s_when (b := !decide ((r.map fun t => decide (m < t)) = row)) (et_is (et_test (ev_op (ev_signsL (f := V.int) (p := fun t => decide (m < t)) (fr H2 e12 rfl) (by omega) (fun _ => rfl) fun t ht => et_test (ev_op (ev_var rfl) (ev_var rfl) rv_I0)) (ev_var rfl) (rv_ne rfl))) (by rw [dec_rs])) (fun hb3 H3 e3 => ?_) fun hb3 H3 e3 => ?_
          · refine s_ret ev_c fun H4 e4 => ?_
            rw [hrt]
            have hf : ranksOk r Tb = false := ranks_bad hrow hm (by simpa using hb3)
            have q' := q H4 ((e12.trans e3).trans e4)
            simp only [shown, hf] at q'
            exact q'
          · refine hnx _ _ e3 ⟨fun i hi row' m' h1 h2 => ?_, _, _, rfl⟩
            by_cases hik : i < k
            · exact hP i hik row' m' h1 h2
            · have : i = k := by omega
              subst this
              rw [hrow] at h1; rw [hm] at h2
              cases h1; cases h2
              simpa using hb3
        · rintro σ' H2 e2 ⟨hP, y2, y3, rfl⟩
          have hf : ranksOk r Tb = true := ranks_good hb' fun i row m h1 h2 => hP i (List.getElem?_eq_some_iff.mp h1).1 row m h1 h2
          refine s_ret ev_c fun H3 e3 => ?_
          have q' := q H3 ((e1.trans e2).trans e3)
          simp only [shown, hf] at q'
          exact q'

/-! ### Cross -/
theorem mak_Cross (T : Tx K mg) : C8.Mak P w K mg base (0 + 1) "Cross" (gaK K .cross) (sp_init K .cross) [] := by
  refine mak_of T.mk_Cross T.g_Cross T.f_Cross_init sc_Cross_init (fun _ _ _ _ _ _ us hl => match us, hl with | [_, _, _, _, _], _ => rfl) ?_ ?_
  · rintro vs H Q E ⟨x, dx, ans, ws, rfl, hk, hx, r, q⟩
    match ans, ws, hk, r with
    | .cross i j k l, _, _, ⟨_, rfl, _, rfl, _, rfl, _, rfl, rfl⟩ => rfl
  · rintro f cdv A outer s H vs Q E hr ⟨x, dx, ans, ws, rfl, hk, hx, r, q⟩
    refine ⟨(tSeq (sFld K (tVar 0) (tVar 1) "one") (tSeq (sFld K (tVar 0) (tVar 2) "first") (tSeq (sFld K (tVar 0) (tVar 3) "other") (sFld K (tVar 0) (tVar 4) "second")))), (pss_cons (ps_fld (pv 0) (pv 1) rfl) (pss_cons (ps_fld (pv 0) (pv 2) rfl) (pss_cons (ps_fld (pv 0) (pv 3) rfl) (pss_one (ps_fld (pv 0) (pv 4) rfl))))), ?_⟩
    match ans, ws, hk, r, q with
    | .cross i j k l, _, _, ⟨_, rfl, _, rfl, _, rfl, _, rfl, rfl⟩, q => exact q_fld (ev_var rfl) (ev_var rfl) hx T.cl_Cross T.n_Cross_one (Nat.le_of_ble_eq_true rfl) fun H1 e1 => q_fld (ev_var rfl) (ev_var rfl) upd_same T.cl_Cross T.n_Cross_first (Nat.le_of_ble_eq_true rfl) fun H2 e2 => q_fld (ev_var rfl) (ev_var rfl) upd_same T.cl_Cross T.n_Cross_other (Nat.le_of_ble_eq_true rfl) fun H3 e3 => s_fld (ev_var rfl) (ev_var rfl) upd_same T.cl_Cross T.n_Cross_second (Nat.le_of_ble_eq_true rfl) fun H4 e4 => q _ ⟨dx, upd_same⟩ ((((Ax.upd e1).trans (Ax.upd e2)).trans (Ax.upd e3)).trans (Ax.upd e4))
theorem met_Cross (T : Tx K mg) : C8.Met P w K mg base (1 + 1) (gaK K .cross) "shows" (sp_shows K .cross) [] := by
  refine met_of T.cl_Cross T.sh_Cross T.f_Cross_shows sc_Cross_shows (fun _ _ _ _ _ _ us hl => match us, hl with | [_, _], _ => rfl) ?_ ?_
  · rintro vs H Q E ⟨z, ⟨x, a, T, n, ans, H0, rfl, _⟩, _⟩; rfl
  · rintro f cdv A outer s H vs Q E hr ⟨z, ⟨x, a, Tb, n, ans, H0, rfl, hk, hA, hT, hs, rfl⟩, q⟩
    refine ⟨(tSeq (tIfS (tNot (tB (tCall (sp_are_things K) [] C8.E0 (tCons (tVar 1) (tCons (tLst (tCons (tFld K (tVar 0) "one") (tCons (tFld K (tVar 0) "other") tNil))) tNil))))) (tRet (tC (.bl false))) tNext) (tSeq (tIfS (tNot (tB (tCB (rAll K) (tCons (tLc (iList K (tLst (tCons (tFld K (tVar 0) "first") (tCons (tFld K (tVar 0) "second") tNil)))) (gName 2) tYes (tChain rLeI rLtI (tC (.int 0)) (tVar 2) (tCB (rLn K) (tCons (tOp (rIxL K) (tVar 1) (tC (.int 0))) tNil))) [2]) tNil)))) (tRet (tC (.bl false))) tNext) (tSeq (tIfS (tOr (tNot (tB (tCall (sp_has K) [] C8.E0 (tCons (tVar 1) (tCons (tFld K (tVar 0) "one") (tCons (tFld K (tVar 0) "first") tNil)))))) (tNot (tB (tCall (sp_has K) [] C8.E0 (tCons (tVar 1) (tCons (tFld K (tVar 0) "other") (tCons (tFld K (tVar 0) "second") tNil))))))) (tRet (tC (.bl false))) tNext) (tRet (tAndV (tNotV (tCall (sp_has K) [] C8.E0 (tCons (tVar 1) (tCons (tFld K (tVar 0) "one") (tCons (tFld K (tVar 0) "second") tNil))))) (tNotV (tCall (sp_has K) [] C8.E0 (tCons (tVar 1) (tCons (tFld K (tVar 0) "other") (tCons (tFld K (tVar 0) "first") tNil)))))))))), (pss_cons (ps_if (pt_not (pt_val (C8.pe_c (cal_are_things T) hr (by decide) (by rfl) (pa_cons (pv 1) (pa_cons (pe_lst (pa_cons (pe_fld (pv 0) rfl) (pa_cons (pe_fld (pv 0) rfl) pa_nil))) pa_nil))))) (pss_one (ps_ret pe_bl)) pss_nil) (pss_cons (ps_if (pt_not (pt_val (pe_callB (id := "all") (cr_all rfl) (by rfl) T.all (by decide +kernel) (pa_cons (pe_lc (own := [("column", 2)]) rfl sc_Cross_shows.nd (pi_list (pe_lst (pa_cons (pe_fld (pv 0) rfl) (pa_cons (pe_fld (pv 0) rfl) pa_nil)))) (blkOk_by (own := [("column", 2)]) (by kernel_rfl)) (fun _ _ _ _ _ => (pg_name (i := 2) sc_Cross_shows.nd rfl (Or.inl rfl))) (fun _ _ _ _ _ => pts_nil) (fun _ _ _ _ _ => (pe_chain op_le op_lt pe_int (pv 2) (pe_callB (id := "len") cl_len (by rfl) T.len (by decide +kernel) (pa_cons (pe_ix ix_list (pv 1) pe_int (fun _ _ => rfl)) pa_nil))))) pa_nil)))) (pss_one (ps_ret pe_bl)) pss_nil) (pss_cons (ps_if (PW.pt (pw_or (pt_not (pt_val (C8.pe_c (cal_has T) hr (by decide) (by rfl) (pa_cons (pv 1) (pa_cons (pe_fld (pv 0) rfl) (pa_cons (pe_fld (pv 0) rfl) pa_nil)))))) (pw_or1 (pt_not (pt_val (C8.pe_c (cal_has T) hr (by decide) (by rfl) (pa_cons (pv 1) (pa_cons (pe_fld (pv 0) rfl) (pa_cons (pe_fld (pv 0) rfl) pa_nil))))))))) (pss_one (ps_ret pe_bl)) pss_nil) (pss_one (ps_ret (pe_and (pe_not (C8.pe_c (cal_has T) hr (by decide) (by rfl) (pa_cons (pv 1) (pa_cons (pe_fld (pv 0) rfl) (pa_cons (pe_fld (pv 0) rfl) pa_nil))))) (pe_one (pe_not (C8.pe_c (cal_has T) hr (by decide) (by rfl) (pa_cons (pv 1) (pa_cons (pe_fld (pv 0) rfl) (pa_cons (pe_fld (pv 0) rfl) pa_nil)))))))))))), ?_⟩
    have hT := hT.nrm
    match ans, hk, hA, q with
    | .cross i j k l, _, hA, q =>
      have f1 : ∀ H1, Ex H H1 → Ev (tFld K (tVar 0) "one") (start nm_Cross_shows [.ref x, .ref a]) H1 (.int i) := fun H1 e => ev_fld (ev_var rfl) (hA.mono e) T.cl_Cross T.n_Cross_one rfl
      have f2 : ∀ H1, Ex H H1 → Ev (tFld K (tVar 0) "first") (start nm_Cross_shows [.ref x, .ref a]) H1 (.int j) := fun H1 e => ev_fld (ev_var rfl) (hA.mono e) T.cl_Cross T.n_Cross_first rfl
      have f3 : ∀ H1, Ex H H1 → Ev (tFld K (tVar 0) "other") (start nm_Cross_shows [.ref x, .ref a]) H1 (.int k) := fun H1 e => ev_fld (ev_var rfl) (hA.mono e) T.cl_Cross T.n_Cross_other rfl
      have f4 : ∀ H1, Ex H H1 → Ev (tFld K (tVar 0) "second") (start nm_Cross_shows [.ref x, .ref a]) H1 (.int l) := fun H1 e => ev_fld (ev_var rfl) (hA.mono e) T.cl_Cross T.n_Cross_second rfl
      have e0 := Ex.refl H
      refine q_when (et_not (et_B (ev_things (ev_var rfl) (evs_ints2 (f1 H e0) (f3 H e0)) hT (Nat.le_of_ble_eq_true rfl)))) (fun hb H1 e1 => ?_) fun hb H1 e1 => ?_
      · exact s_ret (ev_is ev_c (by cases h1 : inT Tb i <;> cases h2 : inT Tb k <;> simp [shown, h1, h2] at hb ⊢)) fun H2 e2 => q H2 (e1.trans e2)
      · have hb' : inT Tb i = true ∧ inT Tb k = true := by simpa using hb
        obtain ⟨h1, h3⟩ := hb'
        have hne := inT_ne h1
        have hT1 := hT.mono e1
        refine q_when (b := !([j, l].all (inW Tb))) (et_not (et_B (ev_allM (l := [j, l]) (p := inW Tb) (els (el_map (g := V.int) (f := fun x => V.bl (inW Tb x)) (evs_ints2 (f2 H1 e1) (f4 H1 e1)) (Nat.le_of_ble_eq_true rfl) (fun _ => rfl) fun c hc => ev_chain ev_c (ev_var rfl) (fun _ => ev_len0 hT1 (ev_var rfl) hne) rv_I0 fun _ => rv_I0))))) (fun hb2 H2 e2 => ?_) fun hb2 H2 e2 => ?_
        · exact s_ret (ev_is ev_c (by cases h2 : inW Tb j <;> cases h4 : inW Tb l <;> simp [shown, h2, h4] at hb2 ⊢)) fun H3 e3 => q H3 ((e1.trans e2).trans e3)
        · have hb2' : inW Tb j = true ∧ inW Tb l = true := by simpa using hb2
          obtain ⟨h2, h4⟩ := hb2'
          have e12 := e1.trans e2
          have hT2 := hT.mono e12
          refine q_when (b := !gi Tb i j || !gi Tb k l) (et_or (et_not (et_B (ev_hasI hT2 (ev_var rfl) (f1 H2 e12) (f2 H2 e12) h1 (inW_nat h2)))) fun _ => et_not (et_B (ev_hasI hT2 (ev_var rfl) (f3 H2 e12) (f4 H2 e12) h3 (inW_nat h4)))) (fun hb3 H3 e3 => ?_) fun hb3 H3 e3 => ?_
          · exact s_ret (ev_is ev_c (by cases g1 : gi Tb i j <;> cases g2 : gi Tb k l <;> simp [shown, g1, g2] at hb3 ⊢)) fun H4 e4 => q H4 ((e12.trans e3).trans e4)
          · have hb3' : gi Tb i j = true ∧ gi Tb k l = true := by simpa using hb3
            have e13 := e12.trans e3
            have hT3 := hT.mono e13
            exact s_ret (ev_is (ev_andV (ev_notV (ev_hasI hT3 (ev_var rfl) (f1 H3 e13) (f4 H3 e13) h1 (inW_nat h4))) fun _ => ev_notV (ev_hasI hT3 (ev_var rfl) (f3 H3 e13) (f2 H3 e13) h3 (inW_nat h2))) (by simp [shown, h1, h2, h3, h4, hb3'])) fun H4 e4 => q H4 (e13.trans e4)
/-! ### Steps -/
theorem mak_Steps (T : Tx K mg) : C8.Mak P w K mg base (0 + 1) "Steps" (gaK K .steps) (sp_init K .steps) [] := by
  refine mak_of T.mk_Steps T.g_Steps T.f_Steps_init sc_Steps_init (fun _ _ _ _ _ _ us hl => match us, hl with | [_, _, _], _ => rfl) ?_ ?_
  · rintro vs H Q E ⟨x, dx, ans, ws, rfl, hk, hx, r, q⟩
    match ans, ws, hk, r with
    | .steps l m, _, _, ⟨_, _, rfl, _, _, _, rfl, _, rfl⟩ => rfl
  · rintro f cdv A outer s H vs Q E hr ⟨x, dx, ans, ws, rfl, hk, hx, r, q⟩
    refine ⟨(tSeq (sFld K (tVar 0) (tCB (rLs K) (tCons (tVar 1) tNil)) "rows") (sFld K (tVar 0) (tCB (rLs K) (tCons (tVar 2) tNil)) "columns")), (pss_cons (ps_fld (pv 0) (pe_callTy (T := "list") cl_list (by rfl) T.list (by decide +kernel) (pa_cons (pv 1) pa_nil)) rfl) (pss_one (ps_fld (pv 0) (pe_callTy (T := "list") cl_list (by rfl) T.list (by decide +kernel) (pa_cons (pv 2) pa_nil)) rfl))), ?_⟩
    match ans, ws, hk, r, q with
    | .steps l m, _, _, ⟨p, _, rfl, hp, p2, _, rfl, hp2, rfl⟩, q =>
      refine q_fldL (el_copy (evs_var rfl hp)) (ev_var rfl) hx T.cl_Steps T.n_Steps_rows (Nat.le_of_ble_eq_true rfl) fun m1 H1 hm1 e1 h1 => ?_
      have a1 : Ax x H (upd H1 x (.ins (gaK K .steps) dx (putF "rows" (.ref m1) []))) := Ax.upd e1
      refine s_fldL (el_copy (evs_var rfl (sq_ax a1 hx hp2))) (ev_var rfl) upd_same T.cl_Steps T.n_Steps_columns (Nat.le_of_ble_eq_true rfl) fun m2 H2 hm2 e2 h2 => ?_
      have n1 : m1 ≠ x := fun z => by rw [z, hx] at hm1; cases hm1
      have n2 : m2 ≠ x := fun z => by rw [z, upd_same] at hm2; cases hm2
      have hm2' : H m2 = none := fresh_back e1 (by rw [upd_ne n2] at hm2; exact hm2)
      have h1' : H2 m1 = some (.lst (l.map V.int)) := e2 _ _ (by rw [upd_ne n1]; exact h1)
      exact q _ ⟨m1, m2, ⟨dx, upd_same⟩, ⟨hm1, by rw [upd_ne n1]; exact h1'⟩, ⟨hm2', by rw [upd_ne n2]; exact h2⟩, fun z => by rw [← z, upd_ne n1, h1] at hm2; cases hm2⟩ (a1.trans (Ax.upd e2))
theorem met_Steps (T : Tx K mg) : C8.Met P w K mg base (0 + 1) (gaK K .steps) "shows" (sp_shows K .steps) [] := by
  refine met_of T.cl_Steps T.sh_Steps T.f_Steps_shows sc_Steps_shows (fun _ _ _ _ _ _ us hl => match us, hl with | [_, _], _ => rfl) ?_ ?_
  · rintro vs H Q E ⟨z, ⟨x, a, T, n, ans, H0, rfl, _⟩, _⟩; rfl
  · rintro f cdv A outer s H vs Q E hr ⟨z, ⟨x, a, Tb, n, ans, H0, rfl, hk, hA, hT, hs, rfl⟩, q⟩
    refine ⟨(tSeq (tIfS (tOr (tTest (tOp rNe (tCB (rLn K) (tCons (tFld K (tVar 0) "rows") tNil)) (tCB (rLn K) (tCons (tVar 1) tNil)))) (tAnd (tTest (tOp (rEqD K) (tVar 1) (tLst tNil))) (tTest (tOp (rNeD K) (tFld K (tVar 0) "columns") (tLst tNil))))) (tRet (tC (.bl false))) tNext) (tSeq (tFor (iEnum K (tCons (tFld K (tVar 0) "rows") tNil)) (gTup K 2 (gCons (gName 2) (gCons (gName 3) gNil))) (tSeq (tIfS (tTest (tOp rNe (tCB (rLn K) (tCons (tFld K (tVar 0) "columns") tNil)) (tCB (rLn K) (tCons (tOp (rIxL K) (tVar 1) (tVar 2)) tNil)))) (tRet (tC (.bl false))) tNext) (tIfS (tTest (tOp rNe (tM1 (rJoin K) (tC (.str "")) (tLc (iList K (tFld K (tVar 0) "columns")) (gName 4) tYes (tIf (tTest (tOp rGtI (tVar 3) (tVar 4))) (tC (.str "x")) (tC (.str "-"))) [4])) (tOp (rIxL K) (tVar 1) (tVar 2)))) (tRet (tC (.bl false))) tNext))) (tRet (tC (.bl true))))), (pss_cons (ps_if (PW.pt (pw_or (pt_cmpR op_ne (pe_callB (id := "len") cl_len (by rfl) T.len (by decide +kernel) (pa_cons (pe_fld (pv 0) rfl) pa_nil)) (pe_callB (id := "len") cl_len (by rfl) T.len (by decide +kernel) (pa_cons (pv 1) pa_nil)) (nomark _)) (pw_or1 (PW.pt (pw_and (pt_cmpR (op_eqD hr.units) (pv 1) (pe_lst pa_nil) (nomark _)) (pw_and1 (pt_cmpR (op_neD hr.units) (pe_fld (pv 0) rfl) (pe_lst pa_nil) (nomark _)))))))) (pss_one (ps_ret pe_bl)) pss_nil) (pss_cons (ps_for PassesOwn.never rfl (pi_enum (by rfl) T.enumerate (pa_cons (pe_fld (pv 0) rfl) pa_nil)) (pg_tup rfl (pgs_cons (pg_name (i := 2) sc_Steps_shows.nd rfl (Or.inl rfl)) (pgs_cons (pg_name (i := 3) sc_Steps_shows.nd rfl (Or.inr rfl)) pgs_nil))) (pss_cons (ps_if (pt_cmpR op_ne (pe_callB (id := "len") cl_len (by rfl) T.len (by decide +kernel) (pa_cons (pe_fld (pv 0) rfl) pa_nil)) (pe_callB (id := "len") cl_len (by rfl) T.len (by decide +kernel) (pa_cons (pe_ix ix_list (pv 1) (pv 2) (fun _ _ => rfl)) pa_nil)) (nomark _)) (pss_one (ps_ret pe_bl)) pss_nil) (pss_one (ps_if (pt_cmpR op_ne (pe_joinR pe_str (pe_lc (own := [("theirs", 4)]) rfl sc_Steps_shows.nd (pi_list (pe_fld (pv 0) rfl)) (blkOk_by (own := [("theirs", 4)]) (by kernel_rfl)) (fun _ _ _ _ _ => (pg_name (i := 4) sc_Steps_shows.nd rfl (Or.inl rfl))) (fun _ _ _ _ _ => pts_nil) (fun _ _ _ _ _ => (pe_ifExp (pt_cmpR op_gt (pv 3) (pv 4) (nomark _)) pe_str pe_str)))) (pe_ix ix_list (pv 1) (pv 2) (fun _ _ => rfl)) (nomark _)) (pss_one (ps_ret pe_bl)) pss_nil)))) (pss_one (ps_ret pe_bl)))), ?_⟩
    have hT := hT.nrm
    match ans, hk, hA, q with
    | .steps r c, _, ⟨l, m, hA, hl, hm, _⟩, q =>
      have hln := hT.ln
      have hlw := hT.lw
      have fr : ∀ {σ : L2.St} (H1 : Hp), Ex H H1 → σ[0]? = some (some (.ref x)) → EvS K (tFld K (tVar 0) "rows") σ H1 (r.map V.int) := fun H1 e h => evs_fld (ev_var h) (hA.mono e) T.cl_Steps T.n_Steps_rows rfl (hl.mono e)
      have fc : ∀ {σ : L2.St} (H1 : Hp), Ex H H1 → σ[0]? = some (some (.ref x)) → EvS K (tFld K (tVar 0) "columns") σ H1 (c.map V.int) := fun H1 e h => evs_fld (ev_var h) (hA.mono e) T.cl_Steps T.n_Steps_columns rfl (hm.mono e)
      have e0 := Ex.refl H
      refine q_when (et_or (et_test (ev_op (ev_lenInts (fr H e0 rfl)) (ev_lenTab hT (ev_var rfl)) (rv_ne rfl))) fun _ => et_and (et_test (ev_empty (evs_var rfl hT.sq))) fun _ => et_test (ev_neInts (T' := []) (fc H e0 rfl) (els el_nil))) (fun hb H1 e1 => ?_) fun hb H1 e1 => ?_
      · have hf : stepsOk r c Tb = false := by
          rw [dec_int] at hb
          by_cases h1 : r.length = Tb.length
          · have h2 : Tb = [] ∧ c ≠ [] := by simpa [h1] using hb
            obtain ⟨rfl, h3⟩ := h2
            unfold stepsOk
            rw [decide_eq_false (p := c.length = width []) (fun z => h3 (List.length_eq_zero_iff.mp z))]; simp
          · unfold stepsOk; rw [decide_eq_false h1]; rfl
        exact s_ret (ev_is ev_c (by simp [shown, hf])) fun H2 e2 => q H2 (e1.trans e2)
      · have hb' : r.length = Tb.length ∧ (Tb = [] → c = []) := by
          rw [dec_int] at hb
          by_cases h1 : r.length = Tb.length
          · exact ⟨h1, fun h2 => by simpa [h1, h2] using hb⟩
          · exfalso; simp at hb; omega
        obtain ⟨hrl, hec⟩ := hb'
        refine q_forE (l := r) (f := V.int) (fr H1 e1 rfl) (fun k σ' => (0 < k → c.length = width Tb) ∧ (∀ i, i < k → ∀ row m, Tb[i]? = some row → r[i]? = some m → (c.map fun t => decide (t < m)) = row) ∧ ∃ y2 y3, σ' = [some (.ref x), some (.ref a), y2, y3, none]) ⟨fun h => absurd h (Nat.lt_irrefl _), fun i hi => absurd hi (Nat.not_lt_zero _), _, _, rfl⟩ ?_ ?_
        · rintro k mk σ' H2 hmk e2 ⟨hW, hP, y2, y3, rfl⟩ D' hrt hbk hnx
          have hk : k < Tb.length := by have := (List.getElem?_eq_some_iff.mp hmk).1; omega
          have e12 := e1.trans e2
          have hT2 := hT.mono e12
          have hlen : (Tb.getD k []).length = width Tb := hT.rect _ (mem_row hk)
          have hrow : Tb[k]? = some (Tb.getD k []) := row_at hk
          refine q_when (b := !(((c.length : Nat) : Int) == (width Tb : Nat))) (et_is (et_test (ev_op (ev_lenInts (fc H2 e12 rfl)) (ev_lenRow (ev_rowI (v := .non) (evs_var rfl hT2.sq) hk (ev_var rfl)) (by omega)) (rv_ne rfl))) (by rw [dec_int, hlen])) (fun hb2 H3 e3 => ?_) fun hb2 H3 e3 => ?_
          · refine s_ret ev_c fun H4 e4 => ?_
            show D'.rt _ _
            rw [hrt]
            have hf : stepsOk r c Tb = false := by
              have h1 : c.length ≠ width Tb := by simp at hb2; omega
              unfold stepsOk
              rw [decide_eq_false h1]; simp
            have q' := q H4 ((e12.trans e3).trans e4)
            simp only [shown, hf] at q'
            exact q'
          · have hcw : c.length = width Tb := by simp at hb2; omega
            have e13 := e12.trans e3
            have hT3 := hT.mono e13
            refine s_when (b := !decide ((c.map fun t => decide (t < mk)) = Tb.getD k [])) (et_is (et_test (ev_op (ev_signsL (f := V.int) (p := fun t => decide (t < mk)) (fc H3 e13 rfl) (by omega) (fun _ => rfl) fun t ht => et_test (ev_op (ev_var rfl) (ev_var rfl) rv_I0)) (ev_rowI (v := .non) (evs_var rfl hT3.sq) hk (ev_var rfl)) (rv_ne rfl))) (by rw [dec_rs])) (fun hb3 H4 e4 => ?_) fun hb3 H4 e4 => ?_
            · refine s_ret ev_c fun H5 e5 => ?_
              rw [hrt]
              have hf : stepsOk r c Tb = false := by
                unfold stepsOk
                rw [rowsAre_bad (p := fun m => c.map fun t => decide (t < m)) hrow hmk (by simpa using hb3)]; simp
              have q' := q H5 ((e13.trans e4).trans e5)
              simp only [shown, hf] at q'
              exact q'
            · refine hnx _ _ (e3.trans e4) ⟨fun _ => hcw, fun i hi row' m' h1 h2 => ?_, _, _, rfl⟩
              by_cases hik : i < k
              · exact hP i hik row' m' h1 h2
              · have : i = k := by omega
                subst this
                rw [hrow] at h1; rw [hmk] at h2
                cases h1; cases h2
                simpa using hb3
        · rintro σ' H2 e2 ⟨hW, hP, y2, y3, rfl⟩
          have hcw : c.length = width Tb := by
            by_cases h0 : Tb = []
            · rw [hec h0, h0]; rfl
            · have := List.length_pos_iff.mpr h0
              exact hW (by omega)
          have hf : stepsOk r c Tb = true := by
            unfold stepsOk
            rw [decide_eq_true hrl, decide_eq_true hcw, (rowsAre_iff (p := fun m => c.map fun t => decide (t < m))).mpr fun i row m h1 h2 => hP i (List.getElem?_eq_some_iff.mp h2).1 row m h1 h2]; rfl
          refine s_ret ev_c fun H3 e3 => ?_
          have q' := q H3 ((e1.trans e2).trans e3)
          simp only [shown, hf] at q'
          exact q'

/-! ### Stretches -/
theorem mak_Stretches (T : Tx K mg) : C8.Mak P w K mg base (0 + 1) "Stretches" (gaK K .stretches) (sp_init K .stretches) [] := by
  refine mak_of T.mk_Stretches T.g_Stretches T.f_Stretches_init sc_Stretches_init (fun _ _ _ _ _ _ us hl => match us, hl with | [_, _, _, _], _ => rfl) ?_ ?_
  · rintro vs H Q E ⟨x, dx, ans, ws, rfl, hk, hx, r, q⟩
    match ans, ws, hk, r with
    | .stretches b e u, _, _, ⟨_, _, rfl, _, _, _, rfl, _, _, _, rfl, _, rfl⟩ => rfl
  · rintro f cdv A outer s H vs Q E hr ⟨x, dx, ans, ws, rfl, hk, hx, r, q⟩
    refine ⟨(tSeq (sFld K (tVar 0) (tCB (rLs K) (tCons (tVar 1) tNil)) "begins") (tSeq (sFld K (tVar 0) (tCB (rLs K) (tCons (tVar 2) tNil)) "ends") (sFld K (tVar 0) (tCB (rLs K) (tCons (tVar 3) tNil)) "unlike"))), (pss_cons (ps_fld (pv 0) (pe_callTy (T := "list") cl_list (by rfl) T.list (by decide +kernel) (pa_cons (pv 1) pa_nil)) rfl) (pss_cons (ps_fld (pv 0) (pe_callTy (T := "list") cl_list (by rfl) T.list (by decide +kernel) (pa_cons (pv 2) pa_nil)) rfl) (pss_one (ps_fld (pv 0) (pe_callTy (T := "list") cl_list (by rfl) T.list (by decide +kernel) (pa_cons (pv 3) pa_nil)) rfl)))), ?_⟩
    match ans, ws, hk, r, q with
    | .stretches b e u, _, _, ⟨p, _, rfl, hp, p2, _, rfl, hp2, p3, _, rfl, hp3, rfl⟩, q =>
      refine q_fldL (el_copy (evs_var rfl hp)) (ev_var rfl) hx T.cl_Stretches T.n_Stretches_begins (Nat.le_of_ble_eq_true rfl) fun m1 H1 hm1 e1 h1 => ?_
      have a1 : Ax x H (upd H1 x (.ins (gaK K .stretches) dx (putF "begins" (.ref m1) []))) := Ax.upd e1
      refine q_fldL (el_copy (evs_var rfl (sq_ax a1 hx hp2))) (ev_var rfl) upd_same T.cl_Stretches T.n_Stretches_ends (Nat.le_of_ble_eq_true rfl) fun m2 H2 hm2 e2 h2 => ?_
      have a2 : Ax x (upd H1 x (.ins (gaK K .stretches) dx (putF "begins" (.ref m1) []))) (upd H2 x (.ins (gaK K .stretches) dx (putF "ends" (.ref m2) (putF "begins" (.ref m1) [])))) := Ax.upd e2
      refine s_fldL (el_copy (evs_var rfl (sq_ax (a1.trans a2) hx hp3))) (ev_var rfl) upd_same T.cl_Stretches T.n_Stretches_unlike (Nat.le_of_ble_eq_true rfl) fun m3 H3 hm3 e3 h3 => ?_
      have a3 : Ax x (upd H2 x (.ins (gaK K .stretches) dx (putF "ends" (.ref m2) (putF "begins" (.ref m1) [])))) (upd H3 x (.ins (gaK K .stretches) dx (putF "unlike" (.ref m3) (putF "ends" (.ref m2) (putF "begins" (.ref m1) []))))) := Ax.upd e3
      have n1 : m1 ≠ x := fun z => by rw [z, hx] at hm1; cases hm1
      have n2 : m2 ≠ x := fun z => by rw [z, upd_same] at hm2; cases hm2
      have n3 : m3 ≠ x := fun z => by rw [z, upd_same] at hm3; cases hm3
      have f2 : H m2 = none := ax_fresh a1 upd_same hm2
      have f3 : H m3 = none := ax_fresh (a1.trans a2) upd_same hm3
      have l1 : upd H1 x (.ins (gaK K .stretches) dx (putF "begins" (.ref m1) [])) m1 = some (.lst (b.map V.int)) := by rw [upd_ne n1]; exact h1
      have l12 := a2 m1 _ n1 l1
      have l2 : upd H2 x (.ins (gaK K .stretches) dx (putF "ends" (.ref m2) (putF "begins" (.ref m1) []))) m2 = some (.lst (e.map V.int)) := by rw [upd_ne n2]; exact h2
      exact q _ ⟨m1, m2, m3, ⟨dx, upd_same⟩, ⟨hm1, a3 m1 _ n1 l12⟩, ⟨f2, a3 m2 _ n2 l2⟩, ⟨f3, by rw [upd_ne n3]; exact h3⟩, (fun z => by rw [← z, l1] at hm2; cases hm2), (fun z => by rw [← z, l12] at hm3; cases hm3), (fun z => by rw [← z, l2] at hm3; cases hm3)⟩ ((a1.trans a2).trans a3)
theorem met_Stretches (T : Tx K mg) : C8.Met P w K mg base (2 + 1) (gaK K .stretches) "shows" (sp_shows K .stretches) [] := by
  refine met_of T.cl_Stretches T.sh_Stretches T.f_Stretches_shows sc_Stretches_shows (fun _ _ _ _ _ _ us hl => match us, hl with | [_, _], _ => rfl) ?_ ?_
  · rintro vs H Q E ⟨z, ⟨x, a, T, n, ans, H0, rfl, _⟩, _⟩; rfl
  · rintro f cdv A outer s H vs Q E hr ⟨z, ⟨x, a, Tb, n, ans, H0, rfl, hk, hA, hT, hs, rfl⟩, q⟩
    refine ⟨(tSeq (tAsg (tCB (rLn K) (tCons (tVar 1) tNil)) (gName 2)) (tSeq (tIfS (tOr (tTest (tOp rNe (tCB (rLn K) (tCons (tFld K (tVar 0) "begins") tNil)) (tVar 2))) (tOr (tTest (tOp rNe (tCB (rLn K) (tCons (tFld K (tVar 0) "ends") tNil)) (tVar 2))) (tNot (tB (tCall (sp_are_things K) [] C8.E0 (tCons (tVar 1) (tCons (tFld K (tVar 0) "unlike") tNil))))))) (tRet (tC (.bl false))) tNext) (tSeq (tIfS (tB (tCB (rAny K) (tCons (tLc (iZip K (tCons (tFld K (tVar 0) "begins") (tCons (tFld K (tVar 0) "ends") tNil))) (gTup K 2 (gCons (gName 3) (gCons (gName 4) gNil))) tYes (tOp rGtI (tVar 3) (tVar 4)) [3, 4]) tNil))) (tRet (tC (.bl false))) tNext) (tSeq (tFor (iZip K (tCons (tVar 1) (tCons (tFld K (tVar 0) "ends") tNil))) (gTup K 2 (gCons (gName 5) (gCons (gName 4) gNil))) (tIfS (tTest (tOp rNe (tM1 (rJoin K) (tC (.str "")) (tLc (iList K (tFld K (tVar 0) "begins")) (gName 3) tYes (tIf (tTest (tOp rLtI (tVar 4) (tVar 3))) (tC (.str "x")) (tC (.str "-"))) [3])) (tVar 5))) (tRet (tC (.bl false))) tNext)) (tSeq (tAsg tDNewT (gName 6)) (tSeq (tFor (iList K (tFld K (tVar 0) "unlike")) (gName 7) (sDPut (tVar 6) (tCB (rTupOf K) (tCons (tCall (sp_rows_with K) [] C8.E0 (tCons (tVar 1) (tCons (tVar 7) tNil))) tNil)) (tC (.bl true)))) (tRet (tAndV (tOp rEq (tCB rLenT (tCons (tVar 6) tNil)) (tCB (rLn K) (tCons (tFld K (tVar 0) "unlike") tNil))) (tOp rEq (tCB rLenT (tCons (tVar 6) tNil)) (tLenS K (tFld K (tVar 0) "begins"))))))))))), (pss_cons (ps_set (i := 2) sc_Stretches_shows.nd rfl (Or.inl rfl) (pe_callB (id := "len") cl_len (by rfl) T.len (by decide +kernel) (pa_cons (pv 1) pa_nil))) (pss_cons (ps_if (PW.pt (pw_or (pt_cmpR op_ne (pe_callB (id := "len") cl_len (by rfl) T.len (by decide +kernel) (pa_cons (pe_fld (pv 0) rfl) pa_nil)) (pv 2) (nomark _)) (pw_or (pt_cmpR op_ne (pe_callB (id := "len") cl_len (by rfl) T.len (by decide +kernel) (pa_cons (pe_fld (pv 0) rfl) pa_nil)) (pv 2) (nomark _)) (pw_or1 (pt_not (pt_val (C8.pe_c (cal_are_things T) hr (by decide) (by rfl) (pa_cons (pv 1) (pa_cons (pe_fld (pv 0) rfl) pa_nil))))))))) (pss_one (ps_ret pe_bl)) pss_nil) (pss_cons (ps_if (pt_val (pe_callB (id := "any") (cr_any rfl) (by rfl) T.any (by decide +kernel) (pa_cons (pe_lc (own := [("begin", 3), ("end", 4)]) rfl sc_Stretches_shows.nd (pi_zip (by rfl) T.zip (pa_cons (pe_fld (pv 0) rfl) (pa_cons (pe_fld (pv 0) rfl) pa_nil))) (blkOk_by (own := [("begin", 3), ("end", 4)]) (by kernel_rfl)) (fun _ _ _ _ _ => (pg_tup rfl (pgs_cons (pg_name (i := 3) sc_Stretches_shows.nd rfl (Or.inl rfl)) (pgs_cons (pg_name (i := 4) sc_Stretches_shows.nd rfl (Or.inl rfl)) pgs_nil)))) (fun _ _ _ _ _ => pts_nil) (fun _ _ _ _ _ => (pe_cmpR op_gt (pv 3) (pv 4) (nomark _)))) pa_nil))) (pss_one (ps_ret pe_bl)) pss_nil) (pss_cons (ps_for PassesOwn.never rfl (pi_zip (by rfl) T.zip (pa_cons (pv 1) (pa_cons (pe_fld (pv 0) rfl) pa_nil))) (pg_tup rfl (pgs_cons (pg_name (i := 5) sc_Stretches_shows.nd rfl (Or.inl rfl)) (pgs_cons (pg_name (i := 4) sc_Stretches_shows.nd rfl (Or.inr rfl)) pgs_nil))) (pss_one (ps_if (pt_cmpR op_ne (pe_joinR pe_str (pe_lc (own := [("begin", 3)]) rfl sc_Stretches_shows.nd (pi_list (pe_fld (pv 0) rfl)) (blkOk_by (own := [("begin", 3)]) (by kernel_rfl)) (fun _ _ _ _ _ => (pg_name (i := 3) sc_Stretches_shows.nd rfl (Or.inl rfl))) (fun _ _ _ _ _ => pts_nil) (fun _ _ _ _ _ => (pe_ifExp (pt_cmpR op_lt (pv 4) (pv 3) (nomark _)) pe_str pe_str)))) (pv 5) (nomark _)) (pss_one (ps_ret pe_bl)) pss_nil))) (pss_cons (ps_set (i := 6) sc_Stretches_shows.nd rfl (Or.inl rfl) pe_dnewT) (pss_cons (ps_for PassesOwn.never rfl (pi_list (pe_fld (pv 0) rfl)) (pg_name (i := 7) sc_Stretches_shows.nd rfl (Or.inl rfl)) (pss_one (ps_dput (hu_of hr) (pv 6) (pe_callTy (T := "tuple") cl_tuple (by rfl) T.tuple (by decide +kernel) (pa_cons (C8.pe_c (cal_rows_with T) hr (by decide) (by rfl) (pa_cons (pv 1) (pa_cons (pv 7) pa_nil))) pa_nil)) pe_bl rfl))) (pss_one (ps_ret (pe_and (pe_cmpR op_eq (pe_callB (id := "len") call_len_dT (by rfl) T.len (by decide +kernel) (pa_cons (pv 6) pa_nil)) (pe_callB (id := "len") cl_len (by rfl) T.len (by decide +kernel) (pa_cons (pe_fld (pv 0) rfl) pa_nil)) (nomark _)) (pe_one (pe_cmpR op_eq (pe_callB (id := "len") call_len_dT (by rfl) T.len (by decide +kernel) (pa_cons (pv 6) pa_nil)) (pe_lenS (by rfl) T.len (by rfl) T.set (pe_fld (pv 0) rfl)) (nomark _)))))))))))), ?_⟩
    match ans, hk, hA, hs, q with
    | .stretches b e u, _, ⟨lb, le, lu, hA, hb, he, hu, _⟩, hs, q =>
      have hul : u.length ≤ 1000 := hs.2
      have hs : n = Tb.length := hs.1
      subst hs
      have hln := hT.ln
      have fb : ∀ {σ : L2.St} (H1 : Hp), Ex H H1 → σ[0]? = some (some (.ref x)) → EvS K (tFld K (tVar 0) "begins") σ H1 (b.map V.int) := fun H1 ex h => evs_fld (ev_var h) (hA.mono ex) T.cl_Stretches T.n_Stretches_begins rfl (hb.mono ex)
      have fe : ∀ {σ : L2.St} (H1 : Hp), Ex H H1 → σ[0]? = some (some (.ref x)) → EvS K (tFld K (tVar 0) "ends") σ H1 (e.map V.int) := fun H1 ex h => evs_fld (ev_var h) (hA.mono ex) T.cl_Stretches T.n_Stretches_ends rfl (he.mono ex)
      have fu : ∀ {σ : L2.St} (H1 : Hp), Ex H H1 → σ[0]? = some (some (.ref x)) → EvS K (tFld K (tVar 0) "unlike") σ H1 (u.map V.int) := fun H1 ex h => evs_fld (ev_var h) (hA.mono ex) T.cl_Stretches T.n_Stretches_unlike rfl (hu.mono ex)
      refine q_asg (ev_lenTab hT (ev_var rfl)) fun H1 e1 => ?_
      have hT1 := hT.mono e1
      refine q_when (et_or (et_test (ev_op (ev_lenInts (fb H1 e1 rfl)) (ev_var (v := .int (Tb.length : Nat)) rfl) (rv_ne rfl))) fun _ => et_or (et_test (ev_op (ev_lenInts (fe H1 e1 rfl)) (ev_var (v := .int (Tb.length : Nat)) rfl) (rv_ne rfl))) fun _ => et_not (et_B (ev_things (ev_var rfl) (fu H1 e1 rfl) hT1 hul))) (fun hbb H2 e2 => ?_) fun hbb H2 e2 => ?_
      · have hf : stretchesOk b e u Tb = false := by
          rw [dec_int, dec_int] at hbb
          unfold stretchesOk
          by_cases h1 : b.length = Tb.length
          · by_cases h2 : e.length = Tb.length
            · have h3 : u.all (inT Tb) = false := by simpa [h1, h2] using hbb
              rw [h3]; simp
            · rw [decide_eq_false h2]; simp
          · rw [decide_eq_false h1]; rfl
        exact s_ret (ev_is ev_c (by simp [shown, hf])) fun H3 e3 => q H3 ((e1.trans e2).trans e3)
      have hbb' : b.length = Tb.length ∧ e.length = Tb.length ∧ u.all (inT Tb) = true := by
        rw [dec_int, dec_int] at hbb
        by_cases h1 : b.length = Tb.length
        · by_cases h2 : e.length = Tb.length
          · exact ⟨h1, h2, by simpa [h1, h2] using hbb⟩
          · exfalso; simp [h1] at hbb; omega
        · exfalso; simp at hbb; omega
      obtain ⟨hbl, hel, hui⟩ := hbb'
      have e12 := e1.trans e2
      refine q_when (et_B (ev_anyM (l := b.zip e) (p := fun x => decide (x.2 < x.1)) (els (el_mapZ (l := b) (m := e) (g := V.int) (g' := V.int) (f := fun x => V.bl (decide (x.2 < x.1))) (fb H2 e12 rfl) (fe H2 e12 rfl) (by omega) (by omega) (fun _ _ => rfl) fun x y hx => ev_op (ev_var rfl) (ev_var rfl) rv_I0)))) (fun hc H3 e3 => ?_) fun hc H3 e3 => ?_
      · have hz : (b.zip e).all (fun x => !decide (x.2 < x.1)) = false := by
          obtain ⟨p, hp, hpp⟩ := List.any_eq_true.mp hc
          exact List.all_eq_false.mpr ⟨p, hp, by rw [hpp]; simp⟩
        have hf : stretchesOk b e u Tb = false := by unfold stretchesOk; rw [hz]; simp
        exact s_ret (ev_is ev_c (by simp [shown, hf])) fun H4 e4 => q H4 ((e12.trans e3).trans e4)
      have hz : (b.zip e).all (fun x => !decide (x.2 < x.1)) = true := by
        rw [List.all_eq_true]
        intro p hp
        cases hd : decide (p.2 < p.1) with
        | false => rfl
        | true => rw [List.any_eq_true.mpr ⟨p, hp, hd⟩] at hc; cases hc
      have e13 := e12.trans e3
      refine q_forZ (l := Tb) (m := e) (f := fun r => V.str (rs r)) (f' := V.int) (evs_var rfl (hT.mono e13).sq) (fe H3 e13 rfl) hel.symm (fun k σ' => (∀ i, i < k → ∀ row m, Tb[i]? = some row → e[i]? = some m → (b.map fun t => decide (m < t)) = row) ∧ ∃ y4 y5, σ' = [some (.ref x), some (.ref a), some (.int (Tb.length : Nat)), none, y4, y5, none, none]) ⟨fun i hi => absurd hi (Nat.not_lt_zero _), _, _, rfl⟩ ?_ ?_
      · rintro k row m σ' H4 hrow hm e4 ⟨hP, y4, y5, rfl⟩ D' hrt hbk hnx
        have e14 := e13.trans e4
        refine s_when (b := !decide ((b.map fun t => decide (m < t)) = row)) (et_is (et_test (ev_op (ev_signsL (f := V.int) (p := fun t => decide (m < t)) (fb H4 e14 rfl) (by omega) (fun _ => rfl) fun t ht => et_test (ev_op (ev_var rfl) (ev_var rfl) rv_I0)) (ev_var rfl) (rv_ne rfl))) (by rw [dec_rs])) (fun hb3 H5 e5 => ?_) fun hb3 H5 e5 => ?_
        · refine s_ret ev_c fun H6 e6 => ?_
          rw [hrt]
          have hf : stretchesOk b e u Tb = false := by
            unfold stretchesOk
            rw [rowsAre_bad (p := fun m => b.map fun t => decide (m < t)) hrow hm (by simpa using hb3)]; simp
          have q' := q H6 ((e14.trans e5).trans e6)
          simp only [shown, hf] at q'
          exact q'
        · refine hnx _ _ e5 ⟨fun i hi row' m' h1 h2 => ?_, _, _, rfl⟩
          by_cases hik : i < k
          · exact hP i hik row' m' h1 h2
          · have : i = k := by omega
            subst this
            rw [hrow] at h1; rw [hm] at h2
            cases h1; cases h2
            simpa using hb3
      rintro σ' H4 e4 ⟨hP, y4, y5, rfl⟩
      have hra : rowsAre Tb e (fun m => b.map fun t => decide (m < t)) = true := (rowsAre_iff (p := fun m => b.map fun t => decide (m < t))).mpr fun i row m h1 h2 => hP i (List.getElem?_eq_some_iff.mp h1).1 row m h1 h2
      have e14 := e13.trans e4
      refine q_asgD fun d H5 hd e5 hd0 => ?_
      have e15 := e14.trans e5
      refine q_forLn (xs := u.map V.int) (ev_fld (ev_var rfl) (hA.mono e15) T.cl_Stretches T.n_Stretches_unlike rfl) (sq_of (hu.mono e15).2) (fun i σ' H' => Ex H4 H' ∧ ∃ kvs y7, H' d = some (.dT kvs) ∧ KeysAre kvs ((u.take i).map fun t => keyN (colI Tb t)) ∧ σ' = [some (.ref x), some (.ref a), some (.int (Tb.length : Nat)), none, y4, y5, some (.ref d), y7]) (fun H6 e6 => ⟨e5.trans e6, [], none, e6 _ _ hd0, by rw [List.take_zero]; exact KeysAre.nil, rfl⟩) (fun i σ' H' _ p => sq_of (hu.mono (e14.trans p.1)).2) ?_ ?_
      · rintro i v σ' H6 hv ⟨e6, kvs, y7, hkv, hka, rfl⟩
        rw [List.getElem?_map] at hv
        obtain ⟨t, ht, rfl⟩ := Option.map_eq_some_iff.mp hv
        have hti : inT Tb t = true := List.all_eq_true.mp hui t (List.mem_of_getElem? ht)
        obtain ⟨j, rfl, hj⟩ := inT_nat hti
        have e16 := e14.trans e6
        have hcl := colOf_len Tb j
        have hkl : kvs.length ≤ 1000 := by
          rw [hka.len]
          exact Nat.le_trans (diff_le _) (by rw [List.length_map, List.length_take]; omega)
        refine s_dput (k := keyN (colOf Tb j)) ev_c (ev_var rfl) (by rw [keyN_kV]; exact eu_tupOf (els (el_call (ea_cons (ev_var rfl) (ea_cons (ev_var rfl) ea_nil)) (sl_rows_with (hT.mono e16) fun _ => hj)))) hkv hkl fun H7 e7 => ⟨Ex.mut (e6.trans e7) hd, _, _, upd_same, ?_, rfl⟩
        have z := hka.put (k := keyN (colOf Tb j)) (v := .bl true)
        rw [List.take_add_one, ht, List.map_append]
        exact z
      · rintro σ' H6 ⟨e6, kvs, y7, hkv, hka, rfl⟩
        have e16 := e14.trans e6
        rw [List.length_map, List.take_length] at hka
        have hkl : kvs.length = diff (u.map (colI Tb)) := by
          rw [hka.len, ← keys_diff, List.map_map]; rfl
        refine s_ret (ev_is (ev_andV (ev_op (ev_lenD (ev_var rfl) hkv) (ev_lenInts (fu H6 e16 rfl)) (rv_eq rfl)) fun _ => ev_op (ev_lenD (ev_var rfl) hkv) (ev_lenSet (fb H6 e16 rfl) (by omega)) (rv_eq rfl)) ?_) fun H7 e7 => q H7 (e16.trans e7)
        have z := unlike_eq b (u.map (colI Tb))
        rw [List.length_map, ← hkl] at z
        have i1 : decide (V.int (kvs.length : Nat) = V.int (u.length : Nat)) = decide (kvs.length = u.length) := decide_eq_decide.mpr ⟨fun h => by have := V.int.inj h; omega, fun h => by rw [h]⟩
        have i2 : decide (V.int (kvs.length : Nat) = V.int (diff b : Nat)) = decide (kvs.length = diff b) := decide_eq_decide.mpr ⟨fun h => by have := V.int.inj h; omega, fun h => by rw [h]⟩
        rw [i1, i2, z]
        simp only [shown, stretchesOk]
        rw [decide_eq_true hbl, decide_eq_true hel, hui, hz, hra]
        simp

/-! ### Neither -/
theorem mak_Neither (T : Tx K mg) : C8.Mak P w K mg base (0 + 1) "Neither" (gaK K .neither) (sp_init K .neither) [] := by
  refine mak_of T.mk_Neither T.g_Neither T.f_Neither_init sc_Neither_init (fun _ _ _ _ _ _ us hl => match us, hl with | [_, _, _], _ => rfl) ?_ ?_
  · rintro vs H Q E ⟨x, dx, ans, ws, rfl, hk, hx, r, q⟩
    match ans, ws, hk, r with
    | .neither i j, _, _, ⟨_, rfl, _, rfl, rfl⟩ => rfl
  · rintro f cdv A outer s H vs Q E hr ⟨x, dx, ans, ws, rfl, hk, hx, r, q⟩
    refine ⟨(tSeq (sFld K (tVar 0) (tVar 1) "one") (sFld K (tVar 0) (tVar 2) "other")), (pss_cons (ps_fld (pv 0) (pv 1) rfl) (pss_one (ps_fld (pv 0) (pv 2) rfl))), ?_⟩
    match ans, ws, hk, r, q with
    | .neither i j, _, _, ⟨_, rfl, _, rfl, rfl⟩, q => exact q_fld (ev_var rfl) (ev_var rfl) hx T.cl_Neither T.n_Neither_one (Nat.le_of_ble_eq_true rfl) fun H1 e1 => s_fld (ev_var rfl) (ev_var rfl) upd_same T.cl_Neither T.n_Neither_other (Nat.le_of_ble_eq_true rfl) fun H2 e2 => q _ ⟨dx, upd_same⟩ ((Ax.upd e1).trans (Ax.upd e2))
theorem met_Neither (T : Tx K mg) : C8.Met P w K mg base (1 + 1) (gaK K .neither) "shows" (sp_shows K .neither) [] := by
  refine met_of T.cl_Neither T.sh_Neither T.f_Neither_shows sc_Neither_shows (fun _ _ _ _ _ _ us hl => match us, hl with | [_, _], _ => rfl) ?_ ?_
  · rintro vs H Q E ⟨z, ⟨x, a, T, n, ans, H0, rfl, _⟩, _⟩; rfl
  · rintro f cdv A outer s H vs Q E hr ⟨z, ⟨x, a, Tb, n, ans, H0, rfl, hk, hA, hT, hs, rfl⟩, q⟩
    refine ⟨(tSeq (tIfS (tOr (tTest (tOp rEq (tFld K (tVar 0) "one") (tFld K (tVar 0) "other"))) (tNot (tB (tCall (sp_are_things K) [] C8.E0 (tCons (tVar 1) (tCons (tLst (tCons (tFld K (tVar 0) "one") (tCons (tFld K (tVar 0) "other") tNil))) tNil)))))) (tRet (tC (.bl false))) tNext) (tRet (tAndV (tNotV (tCall (sp_has K) [] C8.E0 (tCons (tVar 1) (tCons (tFld K (tVar 0) "one") (tCons (tFld K (tVar 0) "other") tNil))))) (tNotV (tCall (sp_has K) [] C8.E0 (tCons (tVar 1) (tCons (tFld K (tVar 0) "other") (tCons (tFld K (tVar 0) "one") tNil)))))))), (pss_cons (ps_if (PW.pt (pw_or (pt_cmpR op_eq (pe_fld (pv 0) rfl) (pe_fld (pv 0) rfl) (nomark _)) (pw_or1 (pt_not (pt_val (C8.pe_c (cal_are_things T) hr (by decide) (by rfl) (pa_cons (pv 1) (pa_cons (pe_lst (pa_cons (pe_fld (pv 0) rfl) (pa_cons (pe_fld (pv 0) rfl) pa_nil))) pa_nil)))))))) (pss_one (ps_ret pe_bl)) pss_nil) (pss_one (ps_ret (pe_and (pe_not (C8.pe_c (cal_has T) hr (by decide) (by rfl) (pa_cons (pv 1) (pa_cons (pe_fld (pv 0) rfl) (pa_cons (pe_fld (pv 0) rfl) pa_nil))))) (pe_one (pe_not (C8.pe_c (cal_has T) hr (by decide) (by rfl) (pa_cons (pv 1) (pa_cons (pe_fld (pv 0) rfl) (pa_cons (pe_fld (pv 0) rfl) pa_nil)))))))))), ?_⟩
    match ans, hk, hA, q with
    | .neither i j, _, hA, q =>
      have hs : n = Tb.length := hs.1
      subst hs
      have fo : ∀ H1, Ex H H1 → Ev (tFld K (tVar 0) "one") (start nm_Neither_shows [.ref x, .ref a]) H1 (.int i) := fun H1 e => ev_fld (ev_var rfl) (hA.mono e) T.cl_Neither T.n_Neither_one rfl
      have ft : ∀ H1, Ex H H1 → Ev (tFld K (tVar 0) "other") (start nm_Neither_shows [.ref x, .ref a]) H1 (.int j) := fun H1 e => ev_fld (ev_var rfl) (hA.mono e) T.cl_Neither T.n_Neither_other rfl
      have e0 := Ex.refl H
      refine q_when (et_or (et_test (ev_op (fo H e0) (ft H e0) (rv_eq rfl))) fun _ => et_not (et_B (ev_things (ev_var rfl) (evs_ints2 (fo H e0) (ft H e0)) hT (Nat.le_of_ble_eq_true rfl)))) (fun hb H1 e1 => ?_) fun hb H1 e1 => ?_
      · refine s_ret (ev_is ev_c (by rw [dec_int] at hb; simp [shown] at hb ⊢; grind)) fun H2 e2 => q H2 (e1.trans e2)
      · rw [dec_int] at hb
        have hb' : ¬ i = j ∧ inT Tb i = true ∧ inT Tb j = true := by simpa using hb
        obtain ⟨h0, h1, h2⟩ := hb'
        have hT1 := hT.mono e1
        exact s_ret (ev_is (ev_andV (ev_notV (ev_hasI hT1 (ev_var rfl) (fo H1 e1) (ft H1 e1) h1 (inT_nat h2))) fun _ => ev_notV (ev_hasI hT1 (ev_var rfl) (ft H1 e1) (fo H1 e1) h2 (inT_nat h1))) (by simp [shown, h1, h2, h0])) fun H2 e2 => q H2 (e1.trans e2)
/-! ### Round -/
theorem mak_Round (T : Tx K mg) : C8.Mak P w K mg base (0 + 1) "Round" (gaK K .round) (sp_init K .round) [] := by
  refine mak_of T.mk_Round T.g_Round T.f_Round_init sc_Round_init (fun _ _ _ _ _ _ us hl => match us, hl with | [_, _, _, _], _ => rfl) ?_ ?_
  · rintro vs H Q E ⟨x, dx, ans, ws, rfl, hk, hx, r, q⟩
    match ans, ws, hk, r with
    | .round i j k, _, _, ⟨_, rfl, _, rfl, _, rfl, rfl⟩ => rfl
  · rintro f cdv A outer s H vs Q E hr ⟨x, dx, ans, ws, rfl, hk, hx, r, q⟩
    refine ⟨(tSeq (sFld K (tVar 0) (tVar 1) "one") (tSeq (sFld K (tVar 0) (tVar 2) "other") (sFld K (tVar 0) (tVar 3) "third"))), (pss_cons (ps_fld (pv 0) (pv 1) rfl) (pss_cons (ps_fld (pv 0) (pv 2) rfl) (pss_one (ps_fld (pv 0) (pv 3) rfl)))), ?_⟩
    match ans, ws, hk, r, q with
    | .round i j k, _, _, ⟨_, rfl, _, rfl, _, rfl, rfl⟩, q => exact q_fld (ev_var rfl) (ev_var rfl) hx T.cl_Round T.n_Round_one (Nat.le_of_ble_eq_true rfl) fun H1 e1 => q_fld (ev_var rfl) (ev_var rfl) upd_same T.cl_Round T.n_Round_other (Nat.le_of_ble_eq_true rfl) fun H2 e2 => s_fld (ev_var rfl) (ev_var rfl) upd_same T.cl_Round T.n_Round_third (Nat.le_of_ble_eq_true rfl) fun H3 e3 => q _ ⟨dx, upd_same⟩ (((Ax.upd e1).trans (Ax.upd e2)).trans (Ax.upd e3))
theorem met_Round (T : Tx K mg) : C8.Met P w K mg base (2 + 1) (gaK K .round) "shows" (sp_shows K .round) [] := by
  refine met_of T.cl_Round T.sh_Round T.f_Round_shows sc_Round_shows (fun _ _ _ _ _ _ us hl => match us, hl with | [_, _], _ => rfl) ?_ ?_
  · rintro vs H Q E ⟨z, ⟨x, a, T, n, ans, H0, rfl, _⟩, _⟩; rfl
  · rintro f cdv A outer s H vs Q E hr ⟨z, ⟨x, a, Tb, n, ans, H0, rfl, hk, hA, hT, hs, rfl⟩, q⟩
    refine ⟨(tSeq (tIfS (tNot (tB (tCall (sp_are_three K) [] C8.E0 (tCons (tVar 1) (tCons (tFld K (tVar 0) "one") (tCons (tFld K (tVar 0) "other") (tCons (tFld K (tVar 0) "third") tNil))))))) (tRet (tC (.bl false))) tNext) (tSeq (tIfS (tOr (tNot (tB (tCall (sp_has K) [] C8.E0 (tCons (tVar 1) (tCons (tFld K (tVar 0) "one") (tCons (tFld K (tVar 0) "other") tNil)))))) (tNot (tB (tCall (sp_has K) [] C8.E0 (tCons (tVar 1) (tCons (tFld K (tVar 0) "other") (tCons (tFld K (tVar 0) "third") tNil))))))) (tRet (tC (.bl false))) tNext) (tRet (tCall (sp_has K) [] C8.E0 (tCons (tVar 1) (tCons (tFld K (tVar 0) "third") (tCons (tFld K (tVar 0) "one") tNil))))))), (pss_cons (ps_if (pt_not (pt_val (C8.pe_c (cal_are_three T) hr (by decide) (by rfl) (pa_cons (pv 1) (pa_cons (pe_fld (pv 0) rfl) (pa_cons (pe_fld (pv 0) rfl) (pa_cons (pe_fld (pv 0) rfl) pa_nil))))))) (pss_one (ps_ret pe_bl)) pss_nil) (pss_cons (ps_if (PW.pt (pw_or (pt_not (pt_val (C8.pe_c (cal_has T) hr (by decide) (by rfl) (pa_cons (pv 1) (pa_cons (pe_fld (pv 0) rfl) (pa_cons (pe_fld (pv 0) rfl) pa_nil)))))) (pw_or1 (pt_not (pt_val (C8.pe_c (cal_has T) hr (by decide) (by rfl) (pa_cons (pv 1) (pa_cons (pe_fld (pv 0) rfl) (pa_cons (pe_fld (pv 0) rfl) pa_nil))))))))) (pss_one (ps_ret pe_bl)) pss_nil) (pss_one (ps_ret (C8.pe_c (cal_has T) hr (by decide) (by rfl) (pa_cons (pv 1) (pa_cons (pe_fld (pv 0) rfl) (pa_cons (pe_fld (pv 0) rfl) pa_nil)))))))), ?_⟩
    match ans, hk, hA, q with
    | .round i j k, _, hA, q =>
      have hs : n = Tb.length := hs.1
      subst hs
      have f1 : ∀ H1, Ex H H1 → Ev (tFld K (tVar 0) "one") (start nm_Round_shows [.ref x, .ref a]) H1 (.int i) := fun H1 e => ev_fld (ev_var rfl) (hA.mono e) T.cl_Round T.n_Round_one rfl
      have f2 : ∀ H1, Ex H H1 → Ev (tFld K (tVar 0) "other") (start nm_Round_shows [.ref x, .ref a]) H1 (.int j) := fun H1 e => ev_fld (ev_var rfl) (hA.mono e) T.cl_Round T.n_Round_other rfl
      have f3 : ∀ H1, Ex H H1 → Ev (tFld K (tVar 0) "third") (start nm_Round_shows [.ref x, .ref a]) H1 (.int k) := fun H1 e => ev_fld (ev_var rfl) (hA.mono e) T.cl_Round T.n_Round_third rfl
      have e0 := Ex.refl H
      refine q_when (et_not (et_B (ev_call (ea_cons (ev_var rfl) (ea_cons (f1 H e0) (ea_cons (f2 H e0) (ea_cons (f3 H e0) ea_nil)))) (sv_are_three hT)))) (fun hb H1 e1 => ?_) fun hb H1 e1 => ?_
      · exact s_ret (ev_is ev_c (by cases h1 : threeT Tb i j k <;> simp [shown, h1] at hb ⊢)) fun H2 e2 => q H2 (e1.trans e2)
      · have hb' : threeT Tb i j k = true := by simpa using hb
        obtain ⟨h1, h2, h3⟩ := three_in hb'
        have hT1 := hT.mono e1
        refine q_when (et_or (et_not (et_B (ev_hasI hT1 (ev_var rfl) (f1 H1 e1) (f2 H1 e1) h1 (inT_nat h2)))) fun _ => et_not (et_B (ev_hasI hT1 (ev_var rfl) (f2 H1 e1) (f3 H1 e1) h2 (inT_nat h3)))) (fun hb2 H2 e2 => ?_) fun hb2 H2 e2 => ?_
        · exact s_ret (ev_is ev_c (by cases g1 : gi Tb i j <;> cases g2 : gi Tb j k <;> simp [shown, g1, g2] at hb2 ⊢)) fun H3 e3 => q H3 ((e1.trans e2).trans e3)
        · have hb2' : gi Tb i j = true ∧ gi Tb j k = true := by simpa using hb2
          have e12 := e1.trans e2
          have hT2 := hT.mono e12
          exact s_ret (ev_is (ev_hasI hT2 (ev_var rfl) (f3 H2 e12) (f1 H2 e12) h3 (inT_nat h1)) (by simp [shown, hb', hb2'])) fun H3 e3 => q H3 (e12.trans e3)
/-! ### Line -/
theorem mak_Line (T : Tx K mg) : C8.Mak P w K mg base (0 + 1) "Line" (gaK K .line) (sp_init K .line) [] := by
  refine mak_of T.mk_Line T.g_Line T.f_Line_init sc_Line_init (fun _ _ _ _ _ _ us hl => match us, hl with | [_, _], _ => rfl) ?_ ?_
  · rintro vs H Q E ⟨x, dx, ans, ws, rfl, hk, hx, r, q⟩
    match ans, ws, hk, r with
    | .line l, _, _, ⟨_, _, rfl, _, rfl⟩ => rfl
  · rintro f cdv A outer s H vs Q E hr ⟨x, dx, ans, ws, rfl, hk, hx, r, q⟩
    refine ⟨(sFld K (tVar 0) (tCB (rLs K) (tCons (tVar 1) tNil)) "order"), (pss_one (ps_fld (pv 0) (pe_callTy (T := "list") cl_list (by rfl) T.list (by decide +kernel) (pa_cons (pv 1) pa_nil)) rfl)), ?_⟩
    match ans, ws, hk, r, q with
    | .line l, _, _, ⟨p, _, rfl, hp, rfl⟩, q => exact s_fldL (el_copy (evs_var rfl hp)) (ev_var rfl) hx T.cl_Line T.n_Line_order (Nat.le_of_ble_eq_true rfl) fun m H1 hm e1 h1 => q _ ⟨m, ⟨dx, upd_same⟩, hm, by rw [upd_ne (fun z => by rw [z, hx] at hm; cases hm)]; exact h1⟩ (Ax.upd e1)
theorem met_Line (T : Tx K mg) : C8.Met P w K mg base (2 + 1) (gaK K .line) "shows" (sp_shows K .line) [] := by
  refine met_of T.cl_Line T.sh_Line T.f_Line_shows sc_Line_shows (fun _ _ _ _ _ _ us hl => match us, hl with | [_, _], _ => rfl) ?_ ?_
  · rintro vs H Q E ⟨z, ⟨x, a, T, n, ans, H0, rfl, _⟩, _⟩; rfl
  · rintro f cdv A outer s H vs Q E hr ⟨z, ⟨x, a, Tb, n, ans, H0, rfl, hk, hA, hT, hs, rfl⟩, q⟩
    refine ⟨(tSeq (tIfS (tTest (tOp (rNeD K) (tCB (rSortedLN K) (tCons (tFld K (tVar 0) "order") tNil)) (tLstRg (tRg1 (tCB (rLn K) (tCons (tVar 1) tNil)))))) (tRet (tC (.bl false))) tNext) (tSeq (tAsg (tLc (iList K (tFld K (tVar 0) "order")) (gName 2) tYes (tC (.int 0)) [2]) (gName 3)) (tSeq (tFor (iEnum K (tCons (tFld K (tVar 0) "order") tNil)) (gTup K 2 (gCons (gName 4) (gCons (gName 2) gNil))) (tAsg (tVar 4) (gSub (tVar 3) (tVar 2) rSetL))) (tRet (tMeth (gaK K .ranks) "shows" (sp_shows K .ranks) [] C8.E0 (tMake (gaK K .ranks) (sp_init K .ranks) [] C8.E0 (tCons (tVar 3) tNil)) (tCons (tVar 1) tNil)))))), (pss_cons (ps_if (pt_cmpR (op_neD hr.units) (pe_callB (id := "sorted") (cr_sortedLN (room10 hr)) (by rfl) T.sorted (by decide +kernel) (pa_cons (pe_fld (pv 0) rfl) pa_nil)) (pe_listRg rfl (by rfl) T.list (prg_1 (by rfl) T.range (pe_callB (id := "len") cl_len (by rfl) T.len (by decide +kernel) (pa_cons (pv 1) pa_nil)))) (nomark _)) (pss_one (ps_ret pe_bl)) pss_nil) (pss_cons (ps_setLc (i := 3) (own := [("thing", 2)]) rfl sc_Line_shows.nd rfl rfl (sw_true rfl rfl rfl (by decide +kernel)) (pi_list (pe_fld (pv 0) rfl)) (blkOk_by (own := [("thing", 2)]) (by kernel_rfl)) (fun _ _ _ _ _ => (pg_name (i := 2) sc_Line_shows.nd rfl (Or.inl rfl))) (fun _ _ _ _ _ => pts_nil) (fun _ _ _ _ _ => pe_int)) (pss_cons (ps_for PassesOwn.never rfl (pi_enum (by rfl) T.enumerate (pa_cons (pe_fld (pv 0) rfl) pa_nil)) (pg_tup rfl (pgs_cons (pg_name (i := 4) sc_Line_shows.nd rfl (Or.inl rfl)) (pgs_cons (pg_name (i := 2) sc_Line_shows.nd rfl (Or.inl rfl)) pgs_nil))) (pss_one (ps_asg (pv 4) (pg_sub (pv 3) (pv 2) set_list)))) (pss_one (ps_ret (C8.pe_mt (met_Ranks T) hr (by decide) (C8.pe_mk (mak_Ranks T) hr (by decide) (by rfl) (pa_cons (pv 3) pa_nil)) (pa_cons (pv 1) pa_nil))))))), ?_⟩
    match ans, hk, hA, hs, q with
    | .line o, _, ⟨l, hA, hl⟩, hs, q =>
      have hol : o.length ≤ 1000 := hs.2
      have hs : n = Tb.length := hs.1
      subst hs
      have hln := hT.ln
      have fr : ∀ {σ : L2.St} (H1 : Hp), Ex H H1 → σ[0]? = some (some (.ref x)) → EvS K (tFld K (tVar 0) "order") σ H1 (o.map V.int) := fun H1 e h => evs_fld (ev_var h) (hA.mono e) T.cl_Line T.n_Line_order rfl (hl.mono e)
      refine q_when (et_is (et_test (ev_neInts (els (el_sortedL (fr H (Ex.refl H) rfl) hol)) (els (el_listR (ev_lenTab hT (ev_var rfl)) hln)))) (by rw [sort_perm])) (fun hb H1 e1 => ?_) fun hb H1 e1 => ?_
      · have hf : isPerm o Tb.length = false := by simpa using hb
        exact s_ret (ev_is ev_c (by simp [shown, hf])) fun H2 e2 => q H2 (e1.trans e2)
      have hP : isPerm o Tb.length = true := by simpa using hb
      have hon := isPerm_len hP
      refine q_asgL (EvL.is (el_map (l := o) (g := V.int) (f := fun _ => V.int 0) (fr H1 e1 rfl) (by omega) (fun _ => rfl) fun _ _ => ev_c) (show _ = (o.map fun _ => (0 : Int)).map V.int by rw [List.map_map]; rfl)) fun p H2 hp e2 h2 => ?_
      have e12 := e1.trans e2
      have fo : ∀ {σ : L2.St} (H3 : Hp), Ex H H3 → σ[0]? = some (some (.ref x)) → Ev (tFld K (tVar 0) "order") σ H3 (.ref l) := fun H3 e h => ev_fld (ev_var h) (hA.mono e) T.cl_Line T.n_Line_order rfl
      refine q_forPlaces (Hb := H1) (p := p) (K := K) (a := l) (o := o) (n := Tb.length) (L0 := o.map fun _ => (0 : Int)) (fun σ' => ∃ y2 y4, σ' = [some (.ref x), some (.ref a), y2, some (.ref p), y4]) e2 hp (sq_of (hl.mono e1).2) (fo H2 e12 rfl) hP hln (by rw [List.length_map]; exact hon) h2 ⟨_, _, rfl⟩ (by rintro σ' j t ⟨y2, y4, rfl⟩; exact ⟨_, _, rfl⟩) (by rintro σ' j t ⟨y2, y4, rfl⟩; exact ⟨rfl, rfl, rfl⟩) ?_
      rintro σ' H3 e3 ⟨y2, y4, rfl⟩ h3
      have e13 := e1.trans e3
      exact s_ret (ev_is (ev_showsN (k := .ranks) (ans := .ranks (placesOf o)) (eo_make (ans := .ranks (placesOf o)) (ear_l (evs_var rfl (sq_of h3)) ear_nil) rfl) rfl (ev_var rfl) (hT.mono e13) rfl) (by simp [shown, hP])) fun H4 e4 => q H4 (e13.trans e4)

end

end WA

namespace WA
open PySem PySem.Spec PyProof.Rows L2 Evl

section
variable {P : Program} {w : World} {K : PySem.W.Frag} {mg : Str → Option Value} {base : Heap}

/-! ### levels_of -/
def sp_levels_of (K : PySem.W.Frag) : Sp := spL fun vs H xs => ∃ a sz, vs = [.ref a] ∧ SqL K H a (nv sz) ∧ sz.length ≤ 1000 ∧ xs = nv (levelsN sz)
theorem el_levels {σ : L2.St} {H : Hp} {sz : List Nat} {te : TE} {E : XK} (h : EvS K te σ H (nv sz)) (hz : sz.length ≤ 1000) : EvL (tCall (sp_levels_of K) [] E (tCons te tNil)) σ H (nv (levelsN sz)) :=
  el_callAv (eav_s h eav_nil) fun vs H1 e r => by
    obtain ⟨p, _, rfl, hp, rfl⟩ := r
    exact spL_of fun _ e2 => ⟨p, sz, rfl, ex_l e2 hp, hz, rfl⟩
theorem cal_levels_of (T : Tx K mg) : C8.Cal P w K mg base (0 + 1) "levels_of" (sp_levels_of K) [] := by
  refine T.d_levels_of.cal sc_levels_of (fun _ _ _ _ _ _ us hl => match us, hl with | [_], _ => rfl) ?_ ?_
  · rintro vs H Q E ⟨z, ⟨a, sz, rfl, _⟩, _⟩; rfl
  · rintro f cdv A outer s H vs Q E hr ⟨z, ⟨a, sz, rfl, hs, hz, rfl⟩, q⟩
    refine ⟨(tSeq (tAsg (tCB (rSortedSetN w) (tCons (tCB (rSetI K w) (tCons (tVar 0) tNil)) tNil)) (gName 1)) (tRet (tLc (iList K (tVar 0)) (gName 2) tYes (tBM K "list" (rIndex K) (tVar 1) (tCons (tVar 2) tNil)) [2]))), (pss_cons (ps_set (i := 1) sc_levels_of.nd rfl (Or.inr rfl) (pe_callB (id := "sorted") (cr_sortedSetN (room10 hr) rfl) (by rfl) T.sorted (by decide +kernel) (pa_cons (pe_callTy (T := "set") (cr_setI rfl) (by rfl) T.set (by decide +kernel) (pa_cons (pv 0) pa_nil)) pa_nil))) (pss_one (ps_ret (pe_lc (own := [("size", 2)]) rfl sc_levels_of.nd (pi_list (pv 0)) (blkOk_by (own := [("size", 2)]) (by kernel_rfl)) (fun _ _ _ _ _ => (pg_name (i := 2) sc_levels_of.nd rfl (Or.inl rfl))) (fun _ _ _ _ _ => pts_nil) (fun _ _ _ _ _ => (pe_bm PySem.F.plainAttrs_list PySem.F.slot_list_index PySem.F.type_list_index mt_index (pv 1) (pa_cons (pv 2) pa_nil))))))), ?_⟩
    have hs' : SqL K H a ((intsOf sz).map V.int) := by rw [← nv_int]; exact hs
    refine q_asgLP (elp_sortedSetN (ns := intsOf sz) (evs_var rfl hs') (by rw [intsOf_len]; omega)) fun xs p H1 hP hp e1 h1 => ?_
    obtain ⟨ks, rfl, hk⟩ := hP
    exact s_retL (EvL.is (el_map (l := sz) (g := fun i : Nat => V.int (i : Nat)) (f := fun s => V.int (lev sz s : Nat)) (evs_var rfl (ex_l e1 hs)) (by omega) (fun _ => rfl) fun s hm =>
      ev_index (evs_var rfl (sq_of h1)) (ev_var rfl) (lev_at hk.1 hk.2 hm).1 fun m z hml hzz => Int.ne_of_lt ((lev_at hk.1 hk.2 hm).2 m z hml hzz)) (by unfold nv levelsN; rw [List.map_map]; rfl)) fun p2 H2 hp2 e2 h2 => q p2 H2 (fresh_back e1 hp2) (e1.trans e2) h2
/-! ### sizes_of -/
def sp_sizes_of (K : PySem.W.Frag) : Sp := spL fun vs H xs => ∃ a T, vs = [.ref a] ∧ At K H a T T.length ∧ xs = nv (sizesT T)
theorem sl_sizes_of {H : Hp} {a : Addr} {T : Tb} (h : At K H a T T.length) : SpL (sp_sizes_of K) ([.ref a] ++ []) H (nv (sizesT T)) := spL_of fun _ e => ⟨a, T, rfl, h.mono e, rfl⟩
theorem cal_sizes_of (T : Tx K mg) : C8.Cal P w K mg base (2 + 1) "sizes_of" (sp_sizes_of K) [] := by
  refine T.d_sizes_of.cal sc_sizes_of (fun _ _ _ _ _ _ us hl => match us, hl with | [_], _ => rfl) ?_ ?_
  · rintro vs H Q E ⟨z, ⟨a, T, rfl, _⟩, _⟩; rfl
  · rintro f cdv A outer s H vs Q E hr ⟨z, ⟨a, Tb, rfl, hT, rfl⟩, q⟩
    refine ⟨(tRet (tLc (iRng1 (tCons (tCB (rLn K) (tCons (tVar 0) tNil)) tNil)) (gName 1) tYes (tCB (rLn K) (tCons (tCall (sp_rows_with K) [] C8.E0 (tCons (tVar 0) (tCons (tVar 1) tNil))) tNil)) [1])), (pss_one (ps_ret (pe_lc (own := [("thing", 1)]) rfl sc_sizes_of.nd (pi_range1 (by rfl) T.range (pa_cons (pe_callB (id := "len") cl_len (by rfl) T.len (by decide +kernel) (pa_cons (pv 0) pa_nil)) pa_nil)) (blkOk_by (own := [("thing", 1)]) (by kernel_rfl)) (fun _ _ _ _ _ => (pg_name (i := 1) sc_sizes_of.nd rfl (Or.inl rfl))) (fun _ _ _ _ _ => pts_nil) (fun _ _ _ _ _ => (pe_callB (id := "len") cl_len (by rfl) T.len (by decide +kernel) (pa_cons (C8.pe_c (cal_rows_with T) hr (by decide) (by rfl) (pa_cons (pv 0) (pa_cons (pv 1) pa_nil))) pa_nil)))))), ?_⟩
    have hl := hT.ln
    refine s_retL (EvL.is (el_mapR (f := fun i : Nat => V.int (szT Tb i : Nat)) (ev_lenTab hT (ev_var rfl)) (by omega) (fun _ => rfl) fun i hi => ?_) (by unfold nv sizesT; rw [List.map_map]; rfl)) q
    refine ev_is (ev_lenS (els (el_call (ea_cons (ev_var rfl) (ea_cons (ev_var rfl) ea_nil)) (sl_rows_with hT fun _ => hi)))) ?_
    rw [nv_len]; rfl
/-! ### self_of -/
def sp_self_of (K : PySem.W.Frag) : Sp := spOpt K (preSq K) (fun T ans => ans.kd = .self ∧ shown ans T = true) NoSelf
theorem cal_self_of (T : Tx K mg) : C8.Cal P w K mg base (2 + 1) "self_of" (sp_self_of K) [] := by
  refine T.d_self_of.cal sc_self_of (fun _ _ _ _ _ _ us hl => match us, hl with | [_], _ => rfl) ?_ ?_
  · rintro vs H Q E ⟨T, ⟨a, rfl, _⟩, _⟩; rfl
  · rintro f cdv A outer s H vs Q E hr ⟨Tb, ⟨a, rfl, hT, hz⟩, q1, q2⟩
    refine ⟨(tSeq (tFor (iRng1 (tCons (tCB (rLn K) (tCons (tVar 0) tNil)) tNil)) (gName 1) (tIfS (tB (tCall (sp_has K) [] C8.E0 (tCons (tVar 0) (tCons (tVar 1) (tCons (tVar 1) tNil))))) (tRet (tMake (gaK K .self) (sp_init K .self) [] C8.E0 (tCons (tVar 1) tNil))) tNext)) (tRet (tC .non))), (pss_cons (ps_for PassesOwn.never rfl (pi_range1 (by rfl) T.range (pa_cons (pe_callB (id := "len") cl_len (by rfl) T.len (by decide +kernel) (pa_cons (pv 0) pa_nil)) pa_nil)) (pg_name (i := 1) sc_self_of.nd rfl (Or.inl rfl)) (pss_one (ps_if (pt_val (C8.pe_c (cal_has T) hr (by decide) (by rfl) (pa_cons (pv 0) (pa_cons (pv 1) (pa_cons (pv 1) pa_nil))))) (pss_one (ps_ret (C8.pe_mk (mak_Self T) hr (by decide) (by rfl) (pa_cons (pv 1) pa_nil)))) pss_nil))) (pss_one (ps_ret pe_non))), ?_⟩
    have hl := hT.ln
    refine q_forR (ev_lenTab hT (ev_var rfl)) (by omega) (fun k σ' => (∀ i, i < k → gt Tb i i = false) ∧ ∃ y1, σ' = [some (.ref a), y1]) ⟨fun i hi => absurd hi (Nat.not_lt_zero _), _, rfl⟩ ?_ ?_
    · rintro k σ' H1 hk e1 ⟨hP, y1, rfl⟩ D' hrt hbk hnx
      have h1 := hT.mono e1
      refine s_when (et_B (ev_call (ea_cons (ev_var rfl) (ea_cons (ev_var rfl) (ea_cons (ev_var rfl) ea_nil))) (sv_has h1 hk hk))) (fun hb H2 e2 => ?_) fun hb H2 e2 => ?_
      · refine s_retO (eo_make (ans := .self (k : Nat)) (ear_i (ev_var rfl) ear_nil) rfl) fun x H3 hx e3 hA => ?_
        rw [hrt]
        have e12 := e1.trans e2
        exact q1 _ x H3 ⟨rfl, by simp only [shown, gi_nat]; rw [inT_of hk, hb]; rfl⟩ (fresh_back e12 hx) (e12.trans e3) (hA.back e12)
      · refine hnx _ _ e2 ⟨fun i hi => ?_, _, rfl⟩
        by_cases hik : i < k
        · exact hP i hik
        · have : i = k := by omega
          rw [this]; exact hb
    · rintro σ' H1 e1 ⟨hP, y1, rfl⟩
      exact s_ret ev_c fun H2 e2 => q2 hP H2 (e1.trans e2)

/-! ### only_in -/
def sp_only_in (K : PySem.W.Frag) : Sp := spL fun vs H xs => ∃ a T w i j, vs = [.ref a, .int (i : Nat), .int (j : Nat)] ∧ At K H a T w ∧ i < T.length ∧ j < T.length ∧ xs = nv (onlyL T w i j)
theorem sl_only_in {H : Hp} {a : Addr} {T : Tb} {n i j : Nat} (h : At K H a T n) (hi : i < T.length) (hj : j < T.length) : SpL (sp_only_in K) ([.ref a, .int (i : Nat), .int (j : Nat)] ++ []) H (nv (onlyL T n i j)) :=
  spL_of fun _ e => ⟨a, T, n, i, j, rfl, h.mono e, hi, hj, rfl⟩
theorem cal_only_in (T : Tx K mg) : C8.Cal P w K mg base (1 + 1) "only_in" (sp_only_in K) [] := by
  refine T.d_only_in.cal sc_only_in (fun _ _ _ _ _ _ us hl => match us, hl with | [_, _, _], _ => rfl) ?_ ?_
  · rintro vs H Q E ⟨z, ⟨a, T, n, i, j, rfl, _⟩, _⟩; rfl
  · rintro f cdv A outer s H vs Q E hr ⟨z, ⟨a, Tb, n, i, j, rfl, hT, hi, hj, rfl⟩, q⟩
    refine ⟨(tRet (tLc (iRng1 (tCons (tCB (rLn K) (tCons (tOp (rIxL K) (tVar 0) (tVar 1)) tNil)) tNil)) (gName 3) (tAnd (tB (tCall (sp_has K) [] C8.E0 (tCons (tVar 0) (tCons (tVar 1) (tCons (tVar 3) tNil))))) (tNot (tB (tCall (sp_has K) [] C8.E0 (tCons (tVar 0) (tCons (tVar 2) (tCons (tVar 3) tNil))))))) (tVar 3) [3])), (pss_one (ps_ret (pe_lc (own := [("at", 3)]) rfl sc_only_in.nd (pi_range1 (by rfl) T.range (pa_cons (pe_callB (id := "len") cl_len (by rfl) T.len (by decide +kernel) (pa_cons (pe_ix ix_list (pv 0) (pv 1) (fun _ _ => rfl)) pa_nil)) pa_nil)) (blkOk_by (own := [("at", 3)]) (by kernel_rfl)) (fun _ _ _ _ _ => (pg_name (i := 3) sc_only_in.nd rfl (Or.inl rfl))) (fun _ _ _ _ _ => (pts_one (PW.pt (pw_and (pt_val (C8.pe_c (cal_has T) hr (by decide) (by rfl) (pa_cons (pv 0) (pa_cons (pv 1) (pa_cons (pv 3) pa_nil))))) (pw_and1 (pt_not (pt_val (C8.pe_c (cal_has T) hr (by decide) (by rfl) (pa_cons (pv 0) (pa_cons (pv 2) (pa_cons (pv 3) pa_nil))))))))))) (fun _ _ _ _ _ => (pv 3))))), ?_⟩
    have hlw := hT.lw
    have hlen : (Tb.getD i []).length = n := hT.rect _ (mem_row hi)
    refine s_retL (el_filtR (n := n) (p := fun c => gt Tb i c && !gt Tb j c) (f := fun c : Nat => V.int (c : Nat)) (ev_is (ev_lenRow (ev_rowI (v := .non) (evs_var rfl hT.sq) hi (ev_var rfl)) (by omega)) (by rw [hlen])) (by omega) (fun _ => rfl) (fun c hc => ?_) (fun c hc _ => ev_var rfl)) q
    exact et_and (et_B (ev_call (ea_cons (ev_var rfl) (ea_cons (ev_var rfl) (ea_cons (ev_var rfl) ea_nil))) (sv_has hT hi hc))) fun _ => et_not (et_B (ev_call (ea_cons (ev_var rfl) (ea_cons (ev_var rfl) (ea_cons (ev_var rfl) ea_nil))) (sv_has hT hj hc)))
/-! ### cross_of -/
def sp_cross_of (K : PySem.W.Frag) : Sp := spOptN (tabsL K) K (preAt K) (fun T ans => ans.kd = .cross ∧ shown ans T = true) (fun T => Nested T (width T))
theorem cal_cross_of (T : Tx K mg) (B : Tbl K mg base) : C8.Cal P w K mg base (2 + 1) "cross_of" (sp_cross_of K) [] := by
  refine cal_tab T.c_cross_of T.gg_cross_of sc_cross_of (fun _ _ _ _ _ _ us hl => match us, hl with | [_], _ => rfl) ?_ ?_
  · rintro vs H Q E ⟨T, ⟨a, rfl, _⟩, _⟩; rfl
  · rintro A outer s H vs Q E hr ⟨Tb, ⟨a, rfl, hT⟩, hTs, q1, q2⟩
    refine ⟨(tSeq (tAsg (tSortL (tabsL K) 1 (tRng (tCB (rLn K) (tCons (tVar 0) tNil))) (tM1 rCountS (tOp (rIxL K) (tVar 0) (tVar 1)) (tC (.str "x")))) (gName 2)) (tSeq (tFor (iRng2 (tCons (tC (.int 1)) (tCons (tCB (rLn K) (tCons (tVar 2) tNil)) tNil))) (gName 3) (tSeq (tPar 4 5 (tCons (tOp (rIxL K) (tVar 2) (tOp rSubI (tVar 3) (tC (.int 1)))) (tCons (tOp (rIxL K) (tVar 2) (tVar 3)) tNil))) (tSeq (tPar 6 7 (tCons (tCall (sp_only_in K) [] C8.E0 (tCons (tVar 0) (tCons (tVar 4) (tCons (tVar 5) tNil)))) (tCons (tCall (sp_only_in K) [] C8.E0 (tCons (tVar 0) (tCons (tVar 5) (tCons (tVar 4) tNil)))) tNil))) (tIfS (tTest (tOp (rNeD K) (tVar 6) (tLst tNil))) (tRet (tMake (gaK K .cross) (sp_init K .cross) [] C8.E0 (tCons (tVar 4) (tCons (tOp (rIxL K) (tVar 6) (tC (.int 0))) (tCons (tVar 5) (tCons (tOp (rIxL K) (tVar 7) (tC (.int 0))) tNil)))))) tNext)))) (tRet (tC .non)))), (pss_cons (ps_set (i := 2) sc_cross_of.nd rfl (Or.inl rfl) (pe_sortL (T := tabsL K) (j := 1) (y := "row") (by rfl) T.sorted (pe_rng (by rfl) T.range (pe_callB (id := "len") cl_len (by rfl) T.len (by decide +kernel) (pa_cons (pv 0) pa_nil))) (tb_cross_of B) (by rfl) (tm_cross_of K) (tu_cross_of T) (hr.mono (by decide)) rfl (lamS1_by (by show lamS1B (defScope s_cross_of) _ _ = true; decide +kernel)) rfl (fun _ _ _ _ _ _ => rfl) sc_cross_of.nd rfl (fun _ _ _ _ _ => (pe_countS (pe_ix ix_list (pv 0) (pv 1) (fun _ _ => rfl)) pe_str)))) (pss_cons (ps_for PassesOwn.never rfl (pi_range2 (by rfl) T.range (pa_cons pe_int (pa_cons (pe_callB (id := "len") cl_len (by rfl) T.len (by decide +kernel) (pa_cons (pv 2) pa_nil)) pa_nil))) (pg_name (i := 3) sc_cross_of.nd rfl (Or.inl rfl)) (pss_cons (ps_par (i := 4) (j := 5) rfl sc_cross_of.nd rfl rfl (by decide) rfl rfl (pa_cons (pe_ix ix_list (pv 2) (pe_op op_sub (pv 3) pe_int) (fun _ _ => rfl)) (pa_cons (pe_ix ix_list (pv 2) (pv 3) (fun _ _ => rfl)) pa_nil)) (by rfl)) (pss_cons (ps_par (i := 6) (j := 7) rfl sc_cross_of.nd rfl rfl (by decide) rfl rfl (pa_cons (C8.pe_c (cal_only_in T) hr (by decide) (by rfl) (pa_cons (pv 0) (pa_cons (pv 4) (pa_cons (pv 5) pa_nil)))) (pa_cons (C8.pe_c (cal_only_in T) hr (by decide) (by rfl) (pa_cons (pv 0) (pa_cons (pv 5) (pa_cons (pv 4) pa_nil)))) pa_nil)) (by rfl)) (pss_one (ps_if (pt_cmpR (op_neD hr.units) (pv 6) (pe_lst pa_nil) (nomark _)) (pss_one (ps_ret (C8.pe_mk (mak_Cross T) hr (by decide) (by rfl) (pa_cons (pv 4) (pa_cons (pe_ix ix_list (pv 6) pe_int (fun _ _ => rfl)) (pa_cons (pv 5) (pa_cons (pe_ix ix_list (pv 7) pe_int (fun _ _ => rfl)) pa_nil))))))) pss_nil))))) (pss_one (ps_ret pe_non)))), ?_⟩
    have hl := hT.ln
    refine q_sortN (f := cntT Tb) hTs (ev_lenTab hT (ev_var rfl)) hl (fun i hi H1 e1 => ?_) fun is p H0 H1 hp hs e0 hp0 e1 hpp => ?_
    · exact ev_countS (ev_rowI (v := .non) (evs_var rfl (hT.xn e1).sq) hi (ev_var rfl))
    · have e01 : Xn (tabsL K) H H1 := e0.trans (xn_of e1)
      have h1 := hT.xn e01
      have hil : is.length = Tb.length := by rw [hp.length_eq, List.length_range]
      have hin : ∀ (k i : Nat), is[k]? = some i → i < Tb.length := fun k i hk => List.mem_range.mp (hp.mem_iff.mp (List.mem_of_getElem? hk))
      have hso : ∀ {σ : L2.St} (H2 : Hp), Ex H1 H2 → σ[2]? = some (some (.ref p)) → EvS K (tVar 2) σ H2 (nv is) := fun H2 e h => evs_var h (sq_of (e _ _ hpp))
      refine q_forRA (n := Tb.length) (ev_is (ev_lenS (hso H1 (Ex.refl H1) rfl)) (by rw [nv_len, hil])) hl (fun k σ' => (∀ (m i j : Nat), m < k → is[m]? = some i → is[m + 1]? = some j → onlyL Tb (width Tb) i j = []) ∧ ∃ y3 y4 y5 y6 y7, σ' = [some (.ref a), none, some (.ref p), y3, y4, y5, y6, y7]) ⟨fun m i j hm => absurd hm (Nat.not_lt_zero _), _, _, _, _, _, rfl⟩ ?_ ?_
      · rintro k σ' H2 hk e2 ⟨hP, y3, y4, y5, y6, y7, rfl⟩ D' hrt hbk hnx
        have hk1 : k < is.length := by omega
        have hk2 : k + 1 < is.length := by omega
        have g1 := List.getElem?_eq_getElem hk1
        have g2 := List.getElem?_eq_getElem hk2
        generalize is[k] = i at g1
        generalize is[k + 1] = j at g2
        have hi := hin k i g1
        have hj := hin (k + 1) j g2
        refine q_par (ev_ixLS (hso H2 e2 rfl) (ev_is (ev_op (ev_var rfl) ev_c rv_I0) (show V.int (((k + 1 : Nat) : Int) - 1) = V.int (k : Nat) by rw [show ((k + 1 : Nat) : Int) - 1 = (k : Nat) by omega])) (atI_nat (v := .int (i : Nat)) (by unfold nv; rw [List.getElem?_map, g1]; rfl))) (ev_ixLS (hso H2 e2 rfl) (ev_var rfl) (atI_nat (v := .int (j : Nat)) (by unfold nv; rw [List.getElem?_map, g2]; rfl))) fun H3 e3 => ?_
        have h3 := h1.mono (e2.trans e3)
        refine q_parLL (el_call (ea_cons (ev_var rfl) (ea_cons (ev_var rfl) (ea_cons (ev_var rfl) ea_nil))) (sl_only_in h3 hi hj)) (el_call (ea_cons (ev_var rfl) (ea_cons (ev_var rfl) (ea_cons (ev_var rfl) ea_nil))) (sl_only_in h3 hj hi)) fun pm pt H4 e4 hm ht => ?_
        refine s_when (b := !decide (onlyL Tb (width Tb) i j = [])) (et_is (et_test (ev_neInts (T := intsOf (onlyL Tb (width Tb) i j)) (T' := []) (EvS.is (evs_var rfl (sq_of hm)) (nv_int _)) (els el_nil))) (by rw [intsOf_nil])) (fun hb H5 e5 => ?_) fun hb H5 e5 => ?_
        · have hne : onlyL Tb (width Tb) i j ≠ [] := by simpa using hb
          have hle : cntT Tb i ≤ cntT Tb j := by
            have z := List.pairwise_iff_getElem.mp hs k (k + 1) hk1 hk2 (by omega)
            rw [List.getElem?_eq_getElem hk1] at g1
            rw [List.getElem?_eq_getElem hk2] at g2
            cases g1; cases g2
            exact z
          have hne2 := only_back hT.rect hi hj hle hne
          obtain ⟨c, cr, ec⟩ := List.exists_cons_of_ne_nil hne
          obtain ⟨d, dr, ed⟩ := List.exists_cons_of_ne_nil hne2
          have e35 := e3.trans (e4.trans e5)
          have e15 := e2.trans e35
          have vm : EvS K (tVar 6) [some (.ref a), none, some (.ref p), some (.int ((k + 1 : Nat) : Int)), some (.int (i : Nat)), some (.int (j : Nat)), some (.ref pm), some (.ref pt)] H5 (nv (onlyL Tb (width Tb) i j)) := evs_var rfl (sq_of (e5 _ _ hm))
          have vt : EvS K (tVar 7) [some (.ref a), none, some (.ref p), some (.int ((k + 1 : Nat) : Int)), some (.int (i : Nat)), some (.int (j : Nat)), some (.ref pm), some (.ref pt)] H5 (nv (onlyL Tb (width Tb) j i)) := evs_var rfl (sq_of (e5 _ _ ht))
          refine s_retO (eo_make (ans := .cross (i : Nat) (c : Nat) (j : Nat) (d : Nat)) (ear_i (ev_var rfl) (ear_i (ev_ixLS vm (i := ((0 : Nat) : Int)) ev_c (atI_nat (by rw [ec]; rfl))) (ear_i (ev_var rfl) (ear_i (ev_ixLS vt (i := ((0 : Nat) : Int)) ev_c (atI_nat (by rw [ed]; rfl))) ear_nil)))) rfl) fun x H6 hx e6 hA => ?_
          rw [hrt]
          exact q1 _ x H5 H6 ⟨rfl, cross_shown hi hj (by rw [ec]; exact List.mem_cons_self ..) (by rw [ed]; exact List.mem_cons_self ..)⟩ (e01.trans (xn_of e15)) hx e6 hA
        · refine hnx _ _ (e3.trans (e4.trans e5)) ⟨fun m i' j' hm' h1' h2' => ?_, _, _, _, _, _, rfl⟩
          by_cases hmk : m < k
          · exact hP m i' j' hmk h1' h2'
          · have : m = k := by omega
            subst this
            rw [g1] at h1'; rw [g2] at h2'
            cases h1'; cases h2'
            simpa using hb
      · rintro σ' H2 e2 ⟨hP, y3, y4, y5, y6, y7, rfl⟩
        refine s_ret ev_c fun H3 e3 => q2 (nested_of hT.rect hp hs fun k i j g1 g2 => ?_) H3 (e01.trans (xn_of (e2.trans e3)))
        have := (List.getElem?_eq_some_iff.mp g2).1
        exact hP k i j (by omega) g1 g2

/-! ### steps -/
def sp_steps (K : PySem.W.Frag) : Sp := spOptN (tabsL K) K (preAt K) (fun T ans => (ans.kd = .steps ∨ ans.kd = .cross) ∧ shown ans T = true) (fun _ => False)
theorem cal_steps (T : Tx K mg) (B : Tbl K mg base) : C8.Cal P w K mg base (3 + 1) "steps" (sp_steps K) [] := by
  refine T.d_steps.cal sc_steps (fun _ _ _ _ _ _ us hl => match us, hl with | [_], _ => rfl) ?_ ?_
  · rintro vs H Q E ⟨T, ⟨a, rfl, _⟩, _⟩; rfl
  · rintro f cdv A outer s H vs Q E hr ⟨Tb, ⟨a, rfl, hT⟩, hTs, q1, _⟩
    refine ⟨(tSeq (tDrop (tCall (sp_check_table K) [] C8.E0 (tCons (tVar 0) tNil))) (tSeq (tAsg (tCall (sp_cross_of K) [] C8.E0 (tCons (tVar 0) tNil)) (gName 1)) (tSeq (tIfS (tTest (tOp rNotN (tVar 1) (tC .non))) (tRet (tVar 1)) tNext) (tSeq (tAsg (tCall (sp_levels_of K) [] C8.E0 (tCons (tLc (iList K (tVar 0)) (gName 2) tYes (tM1 rCountS (tVar 2) (tC (.str "x"))) [2]) tNil)) (gName 3)) (tSeq (tAsg (tLst tNil) (gName 4)) (tSeq (tFor (iRng1 (tCons (tIf (tTest (tOp (rNeD K) (tVar 0) (tLst tNil))) (tCB (rLn K) (tCons (tOp (rIxL K) (tVar 0) (tC (.int 0))) tNil)) (tC (.int 0))) tNil)) (gName 5) (tDrop (tBM K "list" rAppend (tVar 4) (tCons (tOp rSubI (tCKw (rMinD K) (tCons (tLc (iList K (tCall (sp_rows_with K) [] C8.E0 (tCons (tVar 0) (tCons (tVar 5) tNil)))) (gName 2) tYes (tOp (rIxL K) (tVar 3) (tVar 2)) [2]) tNil) (tCons (tCB (rLn K) (tCons (tVar 0) tNil)) tNil)) (tC (.int 1))) tNil)))) (tRet (tMake (gaK K .steps) (sp_init K .steps) [] C8.E0 (tCons (tVar 3) (tCons (tVar 4) tNil)))))))))), (pss_cons (ps_expr (C8.pe_c (cal_check_table T) hr (by decide) (by rfl) (pa_cons (pv 0) pa_nil))) (pss_cons (ps_set (i := 1) sc_steps.nd rfl (Or.inl rfl) (C8.pe_c (cal_cross_of T B) hr (by decide) (by rfl) (pa_cons (pv 0) pa_nil))) (pss_cons (ps_if (pt_cmpR op_notN1 (pv 1) pe_non (nomark _)) (pss_one (ps_ret (pv 1))) pss_nil) (pss_cons (ps_set (i := 3) sc_steps.nd rfl (Or.inr rfl) (C8.pe_c (cal_levels_of T) hr (by decide) (by rfl) (pa_cons (pe_lc (own := [("row", 2)]) rfl sc_steps.nd (pi_list (pv 0)) (blkOk_by (own := [("row", 2)]) (by kernel_rfl)) (fun _ _ _ _ _ => (pg_name (i := 2) sc_steps.nd rfl (Or.inl rfl))) (fun _ _ _ _ _ => pts_nil) (fun _ _ _ _ _ => (pe_countS (pv 2) pe_str))) pa_nil))) (pss_cons (ps_set (i := 4) sc_steps.nd rfl (Or.inl rfl) (pe_lst pa_nil)) (pss_cons (ps_for PassesOwn.never rfl (pi_range1 (by rfl) T.range (pa_cons (pe_ifExp (pt_cmpR (op_neD hr.units) (pv 0) (pe_lst pa_nil) (nomark _)) (pe_callB (id := "len") cl_len (by rfl) T.len (by decide +kernel) (pa_cons (pe_ix ix_list (pv 0) pe_int (fun _ _ => rfl)) pa_nil)) pe_int) pa_nil)) (pg_name (i := 5) sc_steps.nd rfl (Or.inl rfl)) (pss_one (ps_expr (pe_bm PySem.F.plainAttrs_list PySem.F.slot_list_append PySem.F.type_list_append mt_append (pv 4) (pa_cons (pe_op op_sub (pe_callBK (id := "min") (ks := [Str.ofString "default"]) (cr_minD rfl (room1 hr)) (by rfl) T.min (by decide +kernel) (pa_cons (pe_lc (own := [("row", 2)]) rfl sc_steps.nd (pi_list (C8.pe_c (cal_rows_with T) hr (by decide) (by rfl) (pa_cons (pv 0) (pa_cons (pv 5) pa_nil)))) (blkOk_by (own := [("row", 2)]) (by kernel_rfl)) (fun _ _ _ _ _ => (pg_name (i := 2) sc_steps.nd rfl (Or.inl rfl))) (fun _ _ _ _ _ => pts_nil) (fun _ _ _ _ _ => (pe_ix ix_list (pv 3) (pv 2) (fun _ _ => rfl)))) pa_nil) (pk_cons (pe_callB (id := "len") cl_len (by rfl) T.len (by decide +kernel) (pa_cons (pv 0) pa_nil)) pk_nil)) pe_int) pa_nil))))) (pss_one (ps_ret (C8.pe_mk (mak_Steps T) hr (by decide) (by rfl) (pa_cons (pv 3) (pa_cons (pv 4) pa_nil))))))))))), ?_⟩
    have hl := hT.ln
    have hlw := hT.lw
    refine q_drop (ev_call (ea_cons (ev_var rfl) ea_nil) (sv_check_table hT)) fun H1 e1 => ?_
    have h1 := hT.mono e1
    refine q_asgOptN (eoptN_call (T := Tb) (hTs.ext e1) (ea_cons (ev_var rfl) ea_nil) fun H2 e2 => ⟨a, rfl, h1.mono e2⟩) (fun ans x H0 H2 hg e0 hx e2 hA => ?_) fun hn H2 e2 => ?_
    · refine q_when (et_notNone (ev_var rfl)) (fun _ H4 e4 => ?_) fun hb => nomatch hb
      exact s_ret (ev_var rfl) fun H5 e5 => q1 ans x H0 H5 ⟨.inr hg.1, hg.2⟩ ((xn_of e1).trans e0) hx ((e2.trans e4).trans e5) (hA.mono (e4.trans e5))
    · refine q_when (et_notNone' (ev_var rfl)) (fun hb => nomatch hb) fun _ H3 e3 => ?_
      have x3 : Xn (tabsL K) H H3 := ((xn_of e1).trans e2).trans (xn_of e3)
      have h3 := hT.xn x3
      refine q_asgL (el_levels (sz := cnts Tb) (els (EvL.is (el_map (l := Tb) (g := fun r => V.str (rs r)) (f := fun r : List Bool => V.int (r.countP id : Nat)) (evs_var rfl h3.sq) (by omega) (fun _ => rfl) fun r _ => ev_countS (ev_var rfl)) (by unfold nv cnts; rw [List.map_map]; rfl))) (by rw [cnts_len]; omega)) fun p H4 hp e4 h4 => ?_
      refine q_asgL el_nil fun l H5 hl5 e5 h5 => ?_
      have h4' := h3.mono e4
      refine q_forR1 (n := (width Tb : Nat)) (ea_cons (x := .int (width Tb : Nat)) (ev_if (b := !decide (Tb = [])) (et_test (ev_nempty (evs_var rfl (h4'.mono e5).sq))) (fun hb => ev_len0 (h4'.mono e5) (ev_var rfl) (by simpa using hb)) fun hb => ev_is ev_c (by have h0 : Tb = [] := (by simpa using hb); subst h0; rfl)) ea_nil) (by omega)
        (fun k σ' H' => Ex H4 H' ∧ H' l = some (.lst (((List.range k).map (colNum Tb)).map V.int)) ∧ ∃ y5, σ' = [some (.ref a), some .non, none, some (.ref p), some (.ref l), y5]) (fun H6 e6 => ⟨e5.trans e6, e6 _ _ h5, _, rfl⟩) ?_ ?_
      · rintro k σ' H6 hk ⟨e6, hl6, y5, rfl⟩
        have hk' : k < width Tb := by omega
        have h6 := h4'.mono e6
        have hcl := colOf_len Tb k
        refine s_app hl6 (ev_var rfl) (v := .int (colNum Tb k)) (ev_op (ev_minD (ns := (colOf Tb k).map fun i => (rowNum Tb i : Int)) (els (EvL.is (el_map (l := colOf Tb k) (g := fun i : Nat => V.int (i : Nat)) (f := fun i : Nat => V.int (rowNum Tb i : Nat)) (els (el_call (ea_cons (ev_var rfl) (ea_cons (ev_var rfl) ea_nil)) (sl_rows_with h6 fun _ => hk'))) (by omega) (fun _ => rfl) fun i hi => ?_) (by rw [List.map_map]; rfl))) (ev_lenTab h6 (ev_var rfl))) ev_c rv_I0) (by rw [List.length_map, List.length_map, List.length_range]; omega) fun H7 e7 => ⟨Ex.mut (e6.trans e7) hl5, ?_, _, rfl⟩
        · exact ev_ixLS (evs_var rfl (sq_of (e6 _ _ h4))) (ev_var rfl) (atI_nat (by unfold nv; rw [List.getElem?_map, rowNum_at (mem_colOf.mp hi).1]; rfl))
        · rw [upd_same, List.range_succ, List.map_append, List.map_append]; rfl
      · rintro σ' H6 ⟨e6, hl6, y5, rfl⟩
        rw [Int.toNat_natCast] at hl6
        refine s_retO (eo_make (ans := .steps (intsOf (levelsN (cnts Tb))) (colNums Tb (width Tb))) (ear_l (EvS.is (evs_var rfl (sq_of (e6 _ _ h4))) (nv_int _)) (ear_l (evs_var rfl (sq_of hl6)) ear_nil)) rfl) fun x H7 hx7 e7 hA => ?_
        exact q1 _ x H6 H7 ⟨.inl rfl, steps_of hT.rect hn⟩ (x3.trans (xn_of (e4.trans e6))) hx7 e7 hA

/-! ### stretches -/
theorem ev_notInN {σ : L2.St} {H : Hp} {l : List Nat} {b : Nat} {ta tb : TE} (ha : Ev ta σ H (.int (b : Nat))) (hb : EvS K tb σ H (nv l)) : Ev (tOp (rIn K true) ta tb) σ H (.bl (!decide (b ∈ l))) := fun H1 e Q q =>
  ha H1 e _ fun H2 e2 => hb H2 (e.trans e2) _ fun p H3 e3 hp => ⟨p, nv l, rfl, .inl hp, rfl, by
    rw [List.all_eq_true]
    intro v hv
    unfold nv at hv
    obtain ⟨r, _, rfl⟩ := List.mem_map.mp hv
    rfl, by rw [inV_nv]; exact q H3 (e2.trans e3)⟩
def sp_stretches (K : PySem.W.Frag) : Sp := spOptN (tabsL K) K (preSq K) (fun T ans => (ans.kd = .stretches ∨ ans.kd = .self ∨ ans.kd = .cross) ∧ shown ans T = true) (fun _ => False)
theorem cal_stretches (T : Tx K mg) (B : Tbl K mg base) : C8.Cal P w K mg base (3 + 1) "stretches" (sp_stretches K) [] := by
  refine T.d_stretches.cal sc_stretches (fun _ _ _ _ _ _ us hl => match us, hl with | [_], _ => rfl) ?_ ?_
  · rintro vs H Q E ⟨T, ⟨a, rfl, _⟩, _⟩; rfl
  · rintro f cdv A outer s H vs Q E hr ⟨Tb, ⟨a, rfl, hT, hz⟩, hTs, q1, _⟩
    refine ⟨(tSeq (tDrop (tCall (sp_check_square K) [] C8.E0 (tCons (tVar 0) tNil))) (tSeq (tAsg (tCall (sp_self_of K) [] C8.E0 (tCons (tVar 0) tNil)) (gName 1)) (tSeq (tIfS (tTest (tOp rIsN (tVar 1) (tC .non))) (tAsg (tCall (sp_cross_of K) [] C8.E0 (tCons (tVar 0) tNil)) (gName 1)) tNext) (tSeq (tIfS (tTest (tOp rNotN (tVar 1) (tC .non))) (tRet (tVar 1)) tNext) (tSeq (tAsg (tCall (sp_levels_of K) [] C8.E0 (tCons (tCall (sp_sizes_of K) [] C8.E0 (tCons (tVar 0) tNil)) tNil)) (gName 2)) (tSeq (tAsg (tLst tNil) (gName 3)) (tSeq (tFor (iList K (tVar 0)) (gName 4) (tDrop (tBM K "list" rAppend (tVar 3) (tCons (tOp rSubI (tCKw (rMinD K) (tCons (tLc (iZipS K (tCons (tVar 2) (tCons (tVar 4) tNil))) (gTup K 2 (gCons (gName 5) (gCons (gName 6) gNil))) (tTest (tOp rEq (tVar 6) (tC (.str "x")))) (tVar 5) [5, 6]) tNil) (tCons (tCB (rLn K) (tCons (tVar 0) tNil)) tNil)) (tC (.int 1))) tNil)))) (tSeq (tAsg (tLc (iEnum K (tCons (tVar 2) tNil)) (gTup K 2 (gCons (gName 7) (gCons (gName 5) gNil))) (tTest (tOp (rIn K true) (tVar 5) (tSl (rSlL K) (tVar 2) tNoPart (tPart (tVar 7))))) (tVar 7) [7, 5]) (gName 8)) (tRet (tMake (gaK K .stretches) (sp_init K .stretches) [] C8.E0 (tCons (tVar 2) (tCons (tVar 3) (tCons (tVar 8) tNil))))))))))))), (pss_cons (ps_expr (C8.pe_c (cal_check_square T) hr (by decide) (by rfl) (pa_cons (pv 0) pa_nil))) (pss_cons (ps_set (i := 1) sc_stretches.nd rfl (Or.inl rfl) (C8.pe_c (cal_self_of T) hr (by decide) (by rfl) (pa_cons (pv 0) pa_nil))) (pss_cons (ps_if (pt_cmpR op_isN1 (pv 1) pe_non (nomark _)) (pss_one (ps_set (i := 1) sc_stretches.nd rfl (Or.inl rfl) (C8.pe_c (cal_cross_of T B) hr (by decide) (by rfl) (pa_cons (pv 0) pa_nil)))) pss_nil) (pss_cons (ps_if (pt_cmpR op_notN1 (pv 1) pe_non (nomark _)) (pss_one (ps_ret (pv 1))) pss_nil) (pss_cons (ps_set (i := 2) sc_stretches.nd rfl (Or.inr rfl) (C8.pe_c (cal_levels_of T) hr (by decide) (by rfl) (pa_cons (C8.pe_c (cal_sizes_of T) hr (by decide) (by rfl) (pa_cons (pv 0) pa_nil)) pa_nil))) (pss_cons (ps_set (i := 3) sc_stretches.nd rfl (Or.inl rfl) (pe_lst pa_nil)) (pss_cons (ps_for PassesOwn.never rfl (pi_list (pv 0)) (pg_name (i := 4) sc_stretches.nd rfl (Or.inl rfl)) (pss_one (ps_expr (pe_bm PySem.F.plainAttrs_list PySem.F.slot_list_append PySem.F.type_list_append mt_append (pv 3) (pa_cons (pe_op op_sub (pe_callBK (id := "min") (ks := [Str.ofString "default"]) (cr_minD rfl (room1 hr)) (by rfl) T.min (by decide +kernel) (pa_cons (pe_lc (own := [("begin", 5), ("sign", 6)]) rfl sc_stretches.nd (pi_zipS (by rfl) T.zip (pa_cons (pv 2) (pa_cons (pv 4) pa_nil))) (blkOk_by (own := [("begin", 5), ("sign", 6)]) (by kernel_rfl)) (fun _ _ _ _ _ => (pg_tup rfl (pgs_cons (pg_name (i := 5) sc_stretches.nd rfl (Or.inl rfl)) (pgs_cons (pg_name (i := 6) sc_stretches.nd rfl (Or.inl rfl)) pgs_nil)))) (fun _ _ _ _ _ => (pts_one (pt_cmpR op_eq (pv 6) pe_str (nomark _)))) (fun _ _ _ _ _ => (pv 5))) pa_nil) (pk_cons (pe_callB (id := "len") cl_len (by rfl) T.len (by decide +kernel) (pa_cons (pv 0) pa_nil)) pk_nil)) pe_int) pa_nil))))) (pss_cons (ps_setLc (i := 8) (own := [("thing", 7), ("begin", 5)]) rfl sc_stretches.nd rfl rfl (sw_true rfl rfl rfl (by decide +kernel)) (pi_enum (by rfl) T.enumerate (pa_cons (pv 2) pa_nil)) (blkOk_by (own := [("thing", 7), ("begin", 5)]) (by kernel_rfl)) (fun _ _ _ _ _ => (pg_tup rfl (pgs_cons (pg_name (i := 7) sc_stretches.nd rfl (Or.inl rfl)) (pgs_cons (pg_name (i := 5) sc_stretches.nd rfl (Or.inl rfl)) pgs_nil)))) (fun _ _ _ _ _ => (pts_one (pt_cmpR op_notIn_seq (pv 5) (pe_slice sl_list (pv 2) po_none (po_some (pv 7))) (by rfl)))) (fun _ _ _ _ _ => (pv 7))) (pss_one (ps_ret (C8.pe_mk (mak_Stretches T) hr (by decide) (by rfl) (pa_cons (pv 2) (pa_cons (pv 3) (pa_cons (pv 8) pa_nil)))))))))))))), ?_⟩
    have hl := hT.ln
    refine q_drop (ev_call (ea_cons (ev_var rfl) ea_nil) (sv_check_square hT)) fun H1 e1 => ?_
    have h1 := hT.mono e1
    refine q_asgOpt (eopt_call (T := Tb) (ea_cons (ev_var rfl) ea_nil) fun H2 e2 => ⟨a, rfl, h1.mono e2, hz⟩) (fun ans x H2 hg hx e2 hA => ?_) fun hself H2 e2 => ?_
    · refine q_when (et_isNone (ev_var rfl)) (fun hb => nomatch hb) fun _ H3 e3 => ?_
      refine q_when (et_notNone (ev_var rfl)) (fun _ H4 e4 => ?_) fun hb => nomatch hb
      exact s_ret (ev_var rfl) fun H5 e5 => q1 ans x H1 H5 ⟨.inr (.inl hg.1), hg.2⟩ (xn_of e1) hx (((e2.trans e3).trans e4).trans e5) (hA.mono ((e3.trans e4).trans e5))
    · have e12 := e1.trans e2
      refine q_when (et_isNone' (ev_var rfl)) (fun _ H3 e3 => ?_) fun hb => nomatch hb
      have e13 := e12.trans e3
      have h3 := hT.mono e13
      refine s_asgOptN (eoptN_call (T := Tb) (hTs.ext e13) (ea_cons (ev_var rfl) ea_nil) fun H4 e4 => ⟨a, rfl, (h3.mono e4).nrm⟩) (fun ans x H0 H4 hg x0 hx e4 hA => ?_) fun hn H4 x4 => ?_
      · refine q_when (et_notNone (ev_var rfl)) (fun _ H5 e5 => ?_) fun hb => nomatch hb
        exact s_ret (ev_var rfl) fun H6 e6 => q1 ans x H0 H6 ⟨.inr (.inr hg.1), hg.2⟩ ((xn_of e13).trans x0) hx ((e4.trans e5).trans e6) (hA.mono (e5.trans e6))
      · refine q_when (et_notNone' (ev_var rfl)) (fun hb => nomatch hb) fun _ H5 e5 => ?_
        have x5 : Xn (tabsL K) H H5 := ((xn_of e13).trans x4).trans (xn_of e5)
        have h5 := hT.xn x5
        have hn' : Nested Tb Tb.length := by rw [width_sq hT.rect] at hn; exact hn
        refine q_asgL (el_levels (sz := sizesT Tb) (els (el_call (ea_cons (ev_var rfl) ea_nil) (sl_sizes_of h5))) (by rw [sizesT_len]; omega)) fun p H6 hp e6 h6 => ?_
        refine q_asgL el_nil fun l H7 hl7 e7 h7 => ?_
        have h6' := h5.mono e6
        have lB : (intsOf (begs Tb)).length = Tb.length := by rw [intsOf_len, begs_len]
        have vB : ∀ {σ : L2.St} (H8 : Hp), Ex H6 H8 → σ[2]? = some (some (.ref p)) → EvS K (tVar 2) σ H8 ((intsOf (begs Tb)).map V.int) := fun H8 e h => EvS.is (evs_var h (sq_of (e _ _ h6))) (nv_int _)
        refine q_forLn (xs := tv Tb) (ev_var rfl) (h6'.mono e7).sq (fun i σ' H' => Ex H6 H' ∧ H' l = some (.lst (((Tb.take i).map (endN Tb)).map V.int)) ∧ ∃ y4, σ' = [some (.ref a), some .non, some (.ref p), some (.ref l), y4, none, none, none, none]) (fun H8 e8 => ⟨e7.trans e8, e8 _ _ h7, none, rfl⟩) (fun i σ' H' _ q => (h6'.mono q.1).sq) ?_ ?_
        · rintro i v σ' H8 hv ⟨e8, hl8, y4, rfl⟩
          rw [tv_map, List.getElem?_map] at hv
          obtain ⟨row, hrow, rfl⟩ := Option.map_eq_some_iff.mp hv
          have h8 := h6'.mono e8
          have hlen : row.length = Tb.length := hT.rect row (List.mem_of_getElem? hrow)
          refine s_app hl8 (ev_var rfl) (v := .int (endN Tb row)) (ev_op (ev_minD (ns := endL Tb row) (els (EvL.is (el_filtZS (l := intsOf (begs Tb)) (m := row) (g := V.int) (g' := fun b => V.str (s1 b)) (f := fun x => V.int x.1) (p := fun x => x.2) (esrc_l (vB H8 e8 rfl)) (esrc_s (ev_var rfl)) (by omega) (by omega) (fun _ _ => rfl) (fun x y hx => et_test (ev_isX (ev_var rfl))) fun x y hx _ => ev_var rfl) (by unfold endL fm; rw [List.map_map]; rfl))) (ev_lenTab h8 (ev_var rfl))) ev_c rv_I0) (by rw [List.length_map, List.length_map, List.length_take]; omega) fun H9 e9 => ⟨Ex.mut (e8.trans e9) hl7, ?_, _, rfl⟩
          rw [upd_same, List.take_add_one, hrow, List.map_append, List.map_append]; rfl
        · rintro σ' H8 ⟨e8, hl8, y4, rfl⟩
          rw [tv_len, List.take_length] at hl8
          refine q_asgL (EvL.is (el_filtE (l := begs Tb) (g := fun i : Nat => V.int (i : Nat)) (f := fun x => V.int (x.1 : Nat)) (p := fun x => !decide (x.2 ∈ (begs Tb).take x.1)) (evs_var rfl (sq_of (e8 _ _ h6))) (by rw [begs_len]; omega) (fun _ _ => rfl) (fun k x hx => et_test (ev_notInN (ev_var rfl) (els (EvL.is (el_sl (ev_var rfl) eo_none (eo_some (ev_var rfl)) (sq_of (e8 _ _ h6))) (cutV_map _ _ _))))) fun k x hx _ => ev_var rfl) (show _ = nv (unl (begs Tb)) by unfold unl nv fm; rw [List.map_map]; rfl)) fun u H9 hu9 e9 h9 => ?_
          have e69 := e8.trans e9
          refine s_retO (eo_make (ans := .stretches (intsOf (begs Tb)) (endNs Tb) (intsOf (unl (begs Tb)))) (ear_l (vB H9 e69 rfl) (ear_l (evs_var rfl (sq_of (e9 _ _ hl8))) (ear_l (EvS.is (evs_var rfl (sq_of h9)) (nv_int _)) ear_nil))) rfl) fun x H10 hx10 e10 hA => ?_
          exact q1 _ x H9 H10 ⟨.inl rfl, stretches_of hT.rect hself hn'⟩ (x5.trans (xn_of (e6.trans e69))) hx10 e10 hA

end

end WA

namespace WA
open PySem PySem.Spec PyProof.Rows L2 Evl

section
variable {P : Program} {w : World} {K : PySem.W.Frag} {mg : Str → Option Value} {base : Heap}

/-! ### _law_table -/
def sp_law_table (K : PySem.W.Frag) : Sp := fun vs H Q _ => ∃ (a : Addr) (ns : List Int), vs = [.ref a] ∧ SqL K H a (ns.map V.int) ∧ ns.length ≤ 63 ∧
  ∀ (T : Tb) p H2, T.length = ns.length → Rect T ns.length → H p = none → Ex H H2 → H2 p = some (.lst (tv T)) → Q (.ref p) H2
theorem q_law_table {σ : L2.St} {H : Hp} {te : TE} {a : Addr} {ns : List Int} {D : Ends} {tz : TS} {i : Nat} (h : Ev te σ H (.ref a)) (hs : SqL K H a (ns.map V.int)) (hz : ns.length ≤ 63)
    (k : ∀ (T : Tb) p H2, T.length = ns.length → Rect T ns.length → H p = none → Ex H H2 → H2 p = some (.lst (tv T)) → tz D (σ.set i (some (.ref p))) H2) : tSeq (tAsg (tCall (sp_law_table K) [] C8.E0 (tCons te tNil)) (gName i)) tz D σ H :=
  h H (Ex.refl H) _ fun H1 e1 => ⟨a, ns, rfl, ex_l e1 hs, hz, fun T p H2 hl hr hp e2 h2 => k T p H2 hl hr (fresh_back e1 hp) (e1.trans e2) h2⟩
theorem cal__law_table (T : Tx K mg) : C8.Cal P w K mg base (0 + 1) "_law_table" (sp_law_table K) [] := by
  refine T.d__law_table.cal sc_law_table (fun _ _ _ _ _ _ us hl => match us, hl with | [_], _ => rfl) ?_ ?_
  · rintro vs H Q E ⟨a, ns, rfl, _⟩; rfl
  · rintro f cdv A outer s H vs Q E hr ⟨a, ns, rfl, hs, hz, q⟩
    refine ⟨(tSeq (tAsg (tTup (tCons (tCB (rSum K) (tCons (tVar 0) tNil)) (tCons (tCB (rLn K) (tCons (tVar 0) tNil)) tNil))) (gTup K 2 (gCons (gName 1) (gCons (gName 2) gNil)))) (tSeq (tIfS (tTest (tOp rEq (tOp rModI (tOp rDivI (tVar 1) (tC (.int 36))) (tC (.int 3))) (tC (.int 1)))) (tRet (tLc (iList K (tVar 0)) (gName 3) tYes (tM1 (rJoin K) (tC (.str "")) (tLc (iRng1 (tCons (tVar 2) tNil)) (gName 4) tYes (tOp rIxS (tC (.str "-x")) (tOp rAndI (tOp rShrI (tVar 3) (tVar 4)) (tC (.int 1)))) [4])) [3])) tNext) (tSeq (tAsg (tLc (iEnum K (tCons (tVar 0) tNil)) (gTup K 2 (gCons (gName 4) (gCons (gName 3) gNil))) tYes (tOp (rIxT K) (tTup (tCons (tOp rModI (tVar 3) (tC (.int 17))) (tCons (tOp rModI (tVar 3) (tC (.int 6))) (tCons (tOp rAddI (tOp rMulI (tOp rModI (tVar 3) (tC (.int 97))) (tC (.int 100))) (tVar 4)) tNil)))) (tOp rModI (tVar 1) (tC (.int 3)))) [4, 3]) (gName 5)) (tSeq (tAsg (tLc (iZip K (tCons (tVar 5) (tCons (tVar 0) tNil))) (gTup K 2 (gCons (gName 6) (gCons (gName 3) gNil))) tYes (tOp rAddI (tVar 6) (tOp (rIxT K) (tTup (tCons (tOp rModI (tOp rDivI (tVar 3) (tC (.int 17))) (tC (.int 6))) (tCons (tC (.int 0)) (tCons (tC (.int 0)) tNil)))) (tOp rModI (tVar 1) (tC (.int 3))))) [6, 3]) (gName 7)) (tSeq (tAsg (tLc (iList K (tVar 7)) (gName 8) tYes (tM1 (rJoin K) (tC (.str "")) (tLc (iList K (tVar 5)) (gName 6) tYes (tIf (tTest (tOp rLtI (tVar 8) (tVar 6))) (tC (.str "x")) (tC (.str "-"))) [6])) [8]) (gName 9)) (tSeq (tFor (iRng1 (tCons (tIf (tTest (tOp rGtI (tVar 2) (tC (.int 0)))) (tOp (rIxT K) (tTup (tCons (tC (.int 0)) (tCons (tC (.int 1)) (tCons (tC (.int 0)) (tCons (tC (.int 2)) tNil))))) (tOp rModI (tOp rDivI (tVar 1) (tC (.int 3))) (tC (.int 4)))) (tC (.int 0))) tNil)) (gName 10) (tSeq (tPar 11 4 (tCons (tOp rModI (tOp rAddI (tOp rDivI (tVar 1) (tC (.int 12))) (tOp rMulI (tC (.int 5)) (tVar 10))) (tVar 2)) (tCons (tOp rModI (tOp rAddI (tOp rDivI (tVar 1) (tC (.int 7))) (tOp rMulI (tC (.int 3)) (tVar 10))) (tVar 2)) tNil))) (tAsg (tOp rCatS (tOp rCatS (tSl rSlS (tOp (rIxL K) (tVar 9) (tVar 11)) tNoPart (tPart (tVar 4))) (tDGet (tDisp [((tC (.str "x")), (tC (.str "-"))), ((tC (.str "-")), (tC (.str "x")))]) (tOp rIxS (tOp (rIxL K) (tVar 9) (tVar 11)) (tVar 4)))) (tSl rSlS (tOp (rIxL K) (tVar 9) (tVar 11)) (tPart (tOp rAddI (tVar 4) (tC (.int 1)))) tNoPart)) (gSub (tVar 9) (tVar 11) rSetL)))) (tRet (tVar 9)))))))), (pss_cons (ps_asg (pe_tup (pa_cons (pe_callB (id := "sum") (cr_sum rfl) (by rfl) T.sum (by decide +kernel) (pa_cons (pv 0) pa_nil)) (pa_cons (pe_callB (id := "len") cl_len (by rfl) T.len (by decide +kernel) (pa_cons (pv 0) pa_nil)) pa_nil))) (pg_tup rfl (pgs_cons (pg_name (i := 1) sc_law_table.nd rfl (Or.inr rfl)) (pgs_cons (pg_name (i := 2) sc_law_table.nd rfl (Or.inr rfl)) pgs_nil)))) (pss_cons (ps_if (pt_cmpR op_eq (pe_op op_mod (pe_op op_fdiv (pv 1) pe_int) pe_int) pe_int (nomark _)) (pss_one (ps_ret (pe_lc (own := [("_law_cell", 3)]) rfl sc_law_table.nd (pi_list (pv 0)) (blkOk_by (own := [("_law_cell", 3)]) (by kernel_rfl)) (fun _ _ _ _ _ => (pg_name (i := 3) sc_law_table.nd rfl (Or.inr rfl))) (fun _ _ _ _ _ => pts_nil) (fun _ _ _ _ _ => (pe_joinR pe_str (pe_lc (own := [("_law_at", 4)]) rfl sc_law_table.nd (pi_range1 (by rfl) T.range (pa_cons (pv 2) pa_nil)) (blkOk_by (own := [("_law_at", 4)]) (by kernel_rfl)) (fun _ _ _ _ _ => (pg_name (i := 4) sc_law_table.nd rfl (Or.inl rfl))) (fun _ _ _ _ _ => pts_nil) (fun _ _ _ _ _ => (pe_ix ix_str pe_str (pe_op op_and (pe_op op_shr (pv 3) (pv 4)) pe_int) (fun _ _ => rfl))))))))) pss_nil) (pss_cons (ps_set (i := 5) sc_law_table.nd rfl (Or.inr rfl) (pe_lc (own := [("_law_at", 4), ("_law_cell", 3)]) rfl sc_law_table.nd (pi_enum (by rfl) T.enumerate (pa_cons (pv 0) pa_nil)) (blkOk_by (own := [("_law_at", 4), ("_law_cell", 3)]) (by kernel_rfl)) (fun _ _ _ _ _ => (pg_tup rfl (pgs_cons (pg_name (i := 4) sc_law_table.nd rfl (Or.inl rfl)) (pgs_cons (pg_name (i := 3) sc_law_table.nd rfl (Or.inl rfl)) pgs_nil)))) (fun _ _ _ _ _ => pts_nil) (fun _ _ _ _ _ => (pe_ix ix_tup (pe_tup (pa_cons (pe_op op_mod (pv 3) pe_int) (pa_cons (pe_op op_mod (pv 3) pe_int) (pa_cons (pe_op op_add (pe_op op_mul (pe_op op_mod (pv 3) pe_int) pe_int) (pv 4)) pa_nil)))) (pe_op op_mod (pv 1) pe_int) (fun _ _ => rfl))))) (pss_cons (ps_setLc (i := 7) (own := [("_law_begin", 6), ("_law_cell", 3)]) rfl sc_law_table.nd rfl rfl (sw_true rfl rfl rfl (by decide +kernel)) (pi_zip (by rfl) T.zip (pa_cons (pv 5) (pa_cons (pv 0) pa_nil))) (blkOk_by (own := [("_law_begin", 6), ("_law_cell", 3)]) (by kernel_rfl)) (fun _ _ _ _ _ => (pg_tup rfl (pgs_cons (pg_name (i := 6) sc_law_table.nd rfl (Or.inl rfl)) (pgs_cons (pg_name (i := 3) sc_law_table.nd rfl (Or.inl rfl)) pgs_nil)))) (fun _ _ _ _ _ => pts_nil) (fun _ _ _ _ _ => (pe_op op_add (pv 6) (pe_ix ix_tup (pe_tup (pa_cons (pe_op op_mod (pe_op op_fdiv (pv 3) pe_int) pe_int) (pa_cons pe_int (pa_cons pe_int pa_nil)))) (pe_op op_mod (pv 1) pe_int) (fun _ _ => rfl))))) (pss_cons (ps_setLc (i := 9) (own := [("_law_end", 8)]) rfl sc_law_table.nd rfl rfl (sw_true rfl rfl rfl (by decide +kernel)) (pi_list (pv 7)) (blkOk_by (own := [("_law_end", 8)]) (by kernel_rfl)) (fun _ _ _ _ _ => (pg_name (i := 8) sc_law_table.nd rfl (Or.inr rfl))) (fun _ _ _ _ _ => pts_nil) (fun _ _ _ _ _ => (pe_joinR pe_str (pe_lc (own := [("_law_begin", 6)]) rfl sc_law_table.nd (pi_list (pv 5)) (blkOk_by (own := [("_law_begin", 6)]) (by kernel_rfl)) (fun _ _ _ _ _ => (pg_name (i := 6) sc_law_table.nd rfl (Or.inl rfl))) (fun _ _ _ _ _ => pts_nil) (fun _ _ _ _ _ => (pe_ifExp (pt_cmpR op_lt (pv 8) (pv 6) (nomark _)) pe_str pe_str)))))) (pss_cons (ps_for PassesOwn.never rfl (pi_range1 (by rfl) T.range (pa_cons (pe_ifExp (pt_cmpR op_gt (pv 2) pe_int (nomark _)) (pe_ix ix_tup (pe_tup (pa_cons pe_int (pa_cons pe_int (pa_cons pe_int (pa_cons pe_int pa_nil))))) (pe_op op_mod (pe_op op_fdiv (pv 1) pe_int) pe_int) (fun _ _ => rfl)) pe_int) pa_nil)) (pg_name (i := 10) sc_law_table.nd rfl (Or.inl rfl)) (pss_cons (ps_par (i := 11) (j := 4) rfl sc_law_table.nd rfl rfl (by decide) rfl rfl (pa_cons (pe_op op_mod (pe_op op_add (pe_op op_fdiv (pv 1) pe_int) (pe_op op_mul pe_int (pv 10))) (pv 2)) (pa_cons (pe_op op_mod (pe_op op_add (pe_op op_fdiv (pv 1) pe_int) (pe_op op_mul pe_int (pv 10))) (pv 2)) pa_nil)) (by rfl)) (pss_one (ps_asg (pe_op op_catS (pe_op op_catS (pe_slice sl_str (pe_ix ix_list (pv 9) (pv 11) (fun _ _ => rfl)) po_none (po_some (pv 4))) (pe_dget (hu_of hr) (pe_disp (pps_cons pe_str pe_str (pps_cons pe_str pe_str pps_nil)) (by rfl) (by rfl) (fun z => by cases z) (by decide)) (pe_ix ix_str (pe_ix ix_list (pv 9) (pv 11) (fun _ _ => rfl)) (pv 4) (fun _ _ => rfl)) (fun _ _ => rfl))) (pe_slice sl_str (pe_ix ix_list (pv 9) (pv 11) (fun _ _ => rfl)) (po_some (pe_op op_add (pv 4) pe_int)) po_none)) (pg_sub (pv 9) (pv 11) set_list))))) (pss_one (ps_ret (pv 9))))))))), ?_⟩
    refine q_pair (ev_sum (evs_var rfl hs)) (ev_lenInts (evs_var rfl hs)) fun H1 e1 => ?_
    have h1 := ex_l e1 hs
    refine q_when (et_test (ev_op (ev_op (ev_op (ev_var (v := .int ns.sum) rfl) ev_c (rv_I ⟨by decide, by decide⟩)) ev_c (rv_I (by decide))) ev_c (rv_eq rfl))) (fun _ H2 e2 => ?_) fun _ H2 e2 => ?_
    · have e12 := e1.trans e2
      have h2 := ex_l e2 h1
      exact s_retL (el_bits (w := ns.length) (evs_var rfl h2) ⟨by omega, by omega⟩ (fun _ => rfl) (fun _ => ev_var rfl) (fun _ _ => rfl) (fun _ _ => ev_var rfl) fun _ _ => ev_var rfl) fun p H3 hp e3 h3 =>
        q _ p H3 (bitsT_len _ _) (bitsT_rect _ _) (fresh_back e12 hp) (e12.trans e3) h3
    have e12 := e1.trans e2
    have h2 := ex_l e12 hs
    have hm : 0 ≤ ns.sum % 3 ∧ ns.sum % 3 < 3 := ⟨by omega, by omega⟩
    refine q_asgL (el_mapE (l := ns) (g := V.int) (f := fun x => V.int (pick3 (ns.sum % 3) (x.2 % 17) (x.2 % 6) (x.2 % 97 * 100 + (x.1 : Nat)))) (evs_var rfl h2) (by omega) (fun _ _ => rfl) fun k x hx =>
      ev_pick3 (ev_op (ev_var rfl) ev_c (rv_I (by decide))) (ev_op (ev_var rfl) ev_c (rv_I (by decide))) (ev_op (ev_op (ev_op (ev_var rfl) ev_c (rv_I (by decide))) ev_c (rv_I (.inr ⟨by decide, by decide⟩))) (ev_var rfl) rv_I0) (ev_op (ev_var (v := .int ns.sum) rfl) ev_c (rv_I (by decide))) hm) fun b H3 hb e3 h3 => ?_
    generalize hB : ((List.range ns.length).zip ns).map (fun x => pick3 (ns.sum % 3) (x.2 % 17) (x.2 % 6) (x.2 % 97 * 100 + (x.1 : Nat))) = B
    have lB : B.length = ns.length := by rw [← hB, List.length_map, List.length_zip, List.length_range]; omega
    have h3' : H3 b = some (.lst (B.map V.int)) := by rw [h3, ← hB, List.map_map]; rfl
    clear h3 hB
    have e13 := e12.trans e3
    have hs3 := ex_l e13 hs
    refine q_asgL (el_mapZ (l := B) (m := ns) (g := V.int) (g' := V.int) (f := fun x => V.int (x.1 + pick3 (ns.sum % 3) (x.2 / 17 % 6) 0 0)) (evs_var rfl (sq_of h3')) (evs_var rfl hs3) (by omega) lB (fun _ _ => rfl) fun x y hx =>
      ev_op (ev_var rfl) (ev_pick3 (ev_op (ev_op (ev_var rfl) ev_c (rv_I ⟨by decide, by decide⟩)) ev_c (rv_I (by decide))) ev_c ev_c (ev_op (ev_var (v := .int ns.sum) rfl) ev_c (rv_I (by decide))) hm) rv_I0) fun c H4 hc e4 h4 => ?_
    generalize hC : (B.zip ns).map (fun x => x.1 + pick3 (ns.sum % 3) (x.2 / 17 % 6) 0 0) = C
    have lC : C.length = ns.length := by rw [← hC, List.length_map, List.length_zip]; omega
    have h4' : H4 c = some (.lst (C.map V.int)) := by rw [h4, ← hC, List.map_map]; rfl
    clear h4 hC
    have h34 := ex_l e4 (sq_of (K := K) h3')
    refine q_asgL (el_signs (l := C) (m := B) (g := V.int) (g' := V.int) (p := fun x y => decide (x < y)) (evs_var rfl (sq_of h4')) ⟨by omega, by omega⟩ (fun _ => rfl) (fun _ _ => evs_var rfl h34) (fun _ _ => rfl) fun x hx y hy =>
      et_test (ev_op (ev_var rfl) (ev_var rfl) rv_I0)) fun p H5 hp e5 h5 => ?_
    have lT : (C.map fun x => B.map fun y => decide (x < y)).length = ns.length := by rw [List.length_map, lC]
    have rT : Rect (C.map fun x => B.map fun y => decide (x < y)) ns.length := lB ▸ rect_signs C B _
    revert h5 lT rT
    generalize (C.map fun x => B.map fun y => decide (x < y)) = T0
    intro h5 lT rT
    have hp4 := fresh_back (e13.trans e4) hp
    have e15 := (e13.trans e4).trans e5
    have hmv : ∃ m : Int, (if decide (0 < (ns.length : Int)) = true then pick4 (ns.sum / 3 % 4) else 0) = m ∧ 0 ≤ m ∧ m ≤ 2 ∧ (0 < m → 0 < ns.length) := by
      refine ⟨_, rfl, ?_⟩
      have := pick4_ok (ns.sum / 3 % 4)
      by_cases h0 : 0 < ns.length
      · rw [if_pos (decide_eq_true (by omega))]; omega
      · rw [if_neg (by rw [decide_eq_true_eq]; omega)]; omega
    obtain ⟨m, hmE, m0, m2, mn⟩ := hmv
    refine q_forR1 (n := m) (ea_cons (ev_if (et_test (ev_op (ev_var (v := .int (ns.length : Nat)) rfl) ev_c rv_I0)) (fun hb => ev_is (ev_pick4 (m := ns.sum / 3 % 4) (ev_op (ev_op (ev_var (v := .int ns.sum) rfl) ev_c (rv_I ⟨by decide, by decide⟩)) ev_c (rv_I (by decide))) ⟨by omega, by omega⟩) (by rw [← hmE, if_pos hb])) (fun hb => ev_is ev_c (by rw [← hmE, if_neg (by rw [hb]; decide)]))) ea_nil) ⟨by omega, by omega⟩
      (fun _ σ' H' => ∃ T y4 y10 y11, T.length = ns.length ∧ Rect T ns.length ∧ Ex H H' ∧ H' p = some (.lst (tv T)) ∧
        σ' = [some (.ref a), some (.int ns.sum), some (.int (ns.length : Nat)), none, y4, some (.ref b), none, some (.ref c), none, some (.ref p), y10, y11])
      (fun H6 e6 => ⟨T0, none, none, none, lT, rT, e15.trans e6, e6 p _ h5, rfl⟩) ?_ ?_
    · rintro i σ' H' hi ⟨T, y4, y10, y11, hl, hr', ex, hp', rfl⟩
      have hn : 0 < ns.length := mn (by omega)
      obtain ⟨r1, hr1, lr1⟩ := md_ok (a := ns.sum / 12 + 5 * (i : Int)) hn
      obtain ⟨r2, hr2, lr2⟩ := md_ok (a := ns.sum / 7 + 3 * (i : Int)) hn
      have hn' : (0 : Int) < ((ns.length : Nat) : Int) := by omega
      refine q_par (x := .int (r1 : Nat)) (y := .int (r2 : Nat))
        (ev_is (ev_op (ev_op (ev_op (ev_var (v := .int ns.sum) rfl) ev_c (rv_I ⟨by decide, by decide⟩)) (ev_op ev_c (ev_var rfl) (rv_I (.inl ⟨by decide, by decide⟩))) rv_I0) (ev_var (v := .int (ns.length : Nat)) rfl) (rv_I hn')) (by rw [hr1]))
        (ev_is (ev_op (ev_op (ev_op (ev_var (v := .int ns.sum) rfl) ev_c (rv_I ⟨by decide, by decide⟩)) (ev_op ev_c (ev_var rfl) (rv_I (.inl ⟨by decide, by decide⟩))) rv_I0) (ev_var (v := .int (ns.length : Nat)) rfl) (rv_I hn')) (by rw [hr2])) fun H6 e6 => ?_
      have hp6 := e6 p _ hp'
      have hA : At K H6 p T ns.length := ⟨sq_of hp6, hr', by omega, by omega⟩
      have hr1T : r1 < T.length := by omega
      have hrow := hA.row hr1T
      have row : ∀ {σ : L2.St}, σ[9]? = some (some (.ref p)) → σ[11]? = some (some (.int (r1 : Nat))) → Ev (tOp (rIxL K) (tVar 9) (tVar 11)) σ H6 (.str (rs (T.getD r1 []))) := fun h9 h11 => ev_rowI (v := .non) (evs_var h9 hA.sq) hr1T (ev_var h11)
      refine s_setL (j := r1) (v := .str (rs (flip (T.getD r1 []) r2))) hp6 ?_ (ev_var rfl) (ev_var rfl) (by rw [tv_len]; omega) fun H7 e7 => ?_
      · show Ev _ _ H6 (.str (rs ((T.getD r1 []).take r2 ++ [!(T.getD r1 []).getD r2 false] ++ (T.getD r1 []).drop (r2 + 1))))
        exact ev_catS (ev_catS (ev_cutLo (row rfl rfl) (ev_var rfl) (by omega) (by omega)) (ev_other (ev_ixSg (row rfl rfl) (ev_var rfl) (by omega) (by omega))) ⟨by rw [List.length_take]; omega, by simp⟩)
          (ev_cutHi (row rfl rfl) (ev_is (ev_op (ev_var (v := .int (r2 : Nat)) rfl) ev_c rv_I0) (by rw [Int.natCast_add]; rfl)) (by omega) (by omega)) ⟨by rw [List.length_append, List.length_take]; simp; omega, by rw [List.length_drop]; omega⟩
      · refine ⟨T.set r1 (flip (T.getD r1 []) r2), _, _, _, by rw [List.length_set, hl], rect_set hr' (by rw [flip_len (by omega)]; exact hrow), Ex.mut ((ex.trans e6).trans e7) hp4, ?_, rfl⟩
        rw [tv_set]; exact upd_same
    · rintro σ' H' ⟨T, y4, y10, y11, hl, hr', ex, hp', rfl⟩
      exact s_ret (ev_var rfl) fun H6 e6 => q T p H6 hl hr' hp4 (ex.trans e6) (e6 p _ hp')

end

end WA

namespace WA
open PySem PySem.Spec PyProof.Rows L2 Evl

section
variable {P : Program} {w : World} {K : PySem.W.Frag} {mg : Str → Option Value} {base : Heap}

/-! ### _law_has -/
def sp_law_has (K : PySem.W.Frag) : Sp := spV fun vs H z => ∃ a T w i j, vs = [.ref a, .int i, .int j] ∧ At K H a T w ∧ z = .bl (lawHas T i j)
theorem ev_lawHas {σ : L2.St} {H : Hp} {a : Addr} {T : Tb} {n : Nat} {i j : Int} {ta tb tc : TE} {E : XK} (h : At K H a T n) (ha : Ev ta σ H (.ref a)) (hb : Ev tb σ H (.int i)) (hc : Ev tc σ H (.int j)) :
    Ev (tCall (sp_law_has K) [] E (tCons ta (tCons tb (tCons tc tNil)))) σ H (.bl (lawHas T i j)) := ev_call (ea_cons ha (ea_cons hb (ea_cons hc ea_nil))) (spV_of fun _ e => ⟨a, T, n, i, j, rfl, h.mono e, rfl⟩)
theorem cal__law_has (T : Tx K mg) : C8.Cal P w K mg base (0 + 1) "_law_has" (sp_law_has K) [] := by
  refine T.d__law_has.cal sc_law_has (fun _ _ _ _ _ _ us hl => match us, hl with | [_, _, _], _ => rfl) ?_ ?_
  · rintro vs H Q E ⟨z, ⟨a, T, n, i, j, rfl, _⟩, _⟩; rfl
  · rintro f cdv A outer s H vs Q E hr ⟨z, ⟨a, Tb, n, i, j, rfl, hT, rfl⟩, q⟩
    refine ⟨(tRet (tAndV (tChain rLeI rLtI (tC (.int 0)) (tVar 1) (tCB (rLn K) (tCons (tVar 0) tNil))) (tAndV (tChain rLeI rLtI (tC (.int 0)) (tVar 2) (tCB (rLn K) (tCons (tOp (rIxL K) (tVar 0) (tVar 1)) tNil))) (tOp rEq (tOp rIxS (tOp (rIxL K) (tVar 0) (tVar 1)) (tVar 2)) (tC (.str "x")))))), (pss_one (ps_ret (pe_and (pe_chain op_le op_lt pe_int (pv 1) (pe_callB (id := "len") cl_len (by rfl) T.len (by decide +kernel) (pa_cons (pv 0) pa_nil))) (pe_and (pe_chain op_le op_lt pe_int (pv 2) (pe_callB (id := "len") cl_len (by rfl) T.len (by decide +kernel) (pa_cons (pe_ix ix_list (pv 0) (pv 1) (fun _ _ => rfl)) pa_nil))) (pe_one (pe_cmpR op_eq (pe_ix ix_str (pe_ix ix_list (pv 0) (pv 1) (fun _ _ => rfl)) (pv 2) (fun _ _ => rfl)) pe_str (nomark _))))))), ?_⟩
    refine s_ret (ev_andV (b := inW Tb j && gi Tb i j) (ev_chain (p := decide (0 ≤ i)) (q := decide (i < (Tb.length : Int))) ev_c (ev_var rfl) (fun _ => ev_lenTab hT (ev_var rfl)) rv_I0 fun _ => rv_I0) fun h1 => ?_) q
    obtain ⟨i', rfl, hi⟩ := inT_nat (T := Tb) (a := i) h1
    have hw := width_at hT (List.length_pos_iff.mp (by omega))
    have hlw := hT.lw
    refine ev_andV (ev_chain (p := decide (0 ≤ j)) (q := decide (j < (width Tb : Int))) ev_c (ev_var rfl) (fun _ => ?_) rv_I0 fun _ => rv_I0) fun h2 => ?_
    · rw [hw]
      have hrow := hT.row hi
      have z := ev_lenRow (K := K) (ev_rowI (v := .non) (evs_var rfl hT.sq) hi (ev_var rfl) : Ev (tOp (rIxL K) (tVar 0) (tVar 1)) (start nm_law_has [.ref a, .int (i' : Nat), .int j]) H _) (by omega)
      rw [hrow] at z
      exact z
    · obtain ⟨j', rfl, hj⟩ := inW_nat (T := Tb) (a := j) h2
      rw [gi_nat]
      exact ev_isX (ev_cell hT (ev_var rfl) (ev_var rfl) (ev_var rfl) hi (by omega))
/-! ### _law_hasnt -/
def sp_law_hasnt (K : PySem.W.Frag) : Sp := spV fun vs H z => ∃ a T w i j, vs = [.ref a, .int i, .int j] ∧ At K H a T w ∧ z = .bl (lawHasnt T i j)
theorem ev_lawHasnt {σ : L2.St} {H : Hp} {a : Addr} {T : Tb} {n : Nat} {i j : Int} {ta tb tc : TE} {E : XK} (h : At K H a T n) (ha : Ev ta σ H (.ref a)) (hb : Ev tb σ H (.int i)) (hc : Ev tc σ H (.int j)) :
    Ev (tCall (sp_law_hasnt K) [] E (tCons ta (tCons tb (tCons tc tNil)))) σ H (.bl (lawHasnt T i j)) := ev_call (ea_cons ha (ea_cons hb (ea_cons hc ea_nil))) (spV_of fun _ e => ⟨a, T, n, i, j, rfl, h.mono e, rfl⟩)
theorem cal__law_hasnt (T : Tx K mg) : C8.Cal P w K mg base (0 + 1) "_law_hasnt" (sp_law_hasnt K) [] := by
  refine T.d__law_hasnt.cal sc_law_hasnt (fun _ _ _ _ _ _ us hl => match us, hl with | [_, _, _], _ => rfl) ?_ ?_
  · rintro vs H Q E ⟨z, ⟨a, T, n, i, j, rfl, _⟩, _⟩; rfl
  · rintro f cdv A outer s H vs Q E hr ⟨z, ⟨a, Tb, n, i, j, rfl, hT, rfl⟩, q⟩
    refine ⟨(tRet (tAndV (tChain rLeI rLtI (tC (.int 0)) (tVar 1) (tCB (rLn K) (tCons (tVar 0) tNil))) (tAndV (tChain rLeI rLtI (tC (.int 0)) (tVar 2) (tCB (rLn K) (tCons (tOp (rIxL K) (tVar 0) (tVar 1)) tNil))) (tOp rEq (tOp rIxS (tOp (rIxL K) (tVar 0) (tVar 1)) (tVar 2)) (tC (.str "-")))))), (pss_one (ps_ret (pe_and (pe_chain op_le op_lt pe_int (pv 1) (pe_callB (id := "len") cl_len (by rfl) T.len (by decide +kernel) (pa_cons (pv 0) pa_nil))) (pe_and (pe_chain op_le op_lt pe_int (pv 2) (pe_callB (id := "len") cl_len (by rfl) T.len (by decide +kernel) (pa_cons (pe_ix ix_list (pv 0) (pv 1) (fun _ _ => rfl)) pa_nil))) (pe_one (pe_cmpR op_eq (pe_ix ix_str (pe_ix ix_list (pv 0) (pv 1) (fun _ _ => rfl)) (pv 2) (fun _ _ => rfl)) pe_str (nomark _))))))), ?_⟩
    refine s_ret (ev_andV (b := inW Tb j && !gi Tb i j) (ev_chain (p := decide (0 ≤ i)) (q := decide (i < (Tb.length : Int))) ev_c (ev_var rfl) (fun _ => ev_lenTab hT (ev_var rfl)) rv_I0 fun _ => rv_I0) fun h1 => ?_) q
    obtain ⟨i', rfl, hi⟩ := inT_nat (T := Tb) (a := i) h1
    have hw := width_at hT (List.length_pos_iff.mp (by omega))
    have hlw := hT.lw
    refine ev_andV (ev_chain (p := decide (0 ≤ j)) (q := decide (j < (width Tb : Int))) ev_c (ev_var rfl) (fun _ => ?_) rv_I0 fun _ => rv_I0) fun h2 => ?_
    · rw [hw]
      have hrow := hT.row hi
      have z := ev_lenRow (K := K) (ev_rowI (v := .non) (evs_var rfl hT.sq) hi (ev_var rfl) : Ev (tOp (rIxL K) (tVar 0) (tVar 1)) (start nm_law_hasnt [.ref a, .int (i' : Nat), .int j]) H _) (by omega)
      rw [hrow] at z
      exact z
    · obtain ⟨j', rfl, hj⟩ := inW_nat (T := Tb) (a := j) h2
      rw [gi_nat]
      exact ev_isD (ev_cell hT (ev_var rfl) (ev_var rfl) (ev_var rfl) hi (by omega))
/-! ### _law_ranks -/
def sp_law_ranks (K : PySem.W.Frag) : Sp := spV fun vs H z => ∃ a p T, ∃ r : List Int, vs = [.ref a, .ref p] ∧ At K H a T T.length ∧ SqL K H p (r.map V.int) ∧ r.length ≤ 1000 ∧ z = .bl (ranksOk r T)
theorem ev_lawRanks {σ : L2.St} {H : Hp} {a : Addr} {T : Tb} {r : List Int} {ta tb : TE} {E : XK} (h : At K H a T T.length) (ha : Ev ta σ H (.ref a)) (hb : EvS K tb σ H (r.map V.int)) (hz : r.length ≤ 1000) :
    Ev (tCall (sp_law_ranks K) [] E (tCons ta (tCons tb tNil))) σ H (.bl (ranksOk r T)) := ev_callAv (eav_v ha (eav_s hb eav_nil)) fun vs H1 e hv => by
  obtain ⟨_, rfl, p, _, rfl, hp, rfl⟩ := hv
  exact spV_of fun _ e2 => ⟨a, p, T, r, rfl, h.mono (e.trans e2), ex_l e2 hp, hz, rfl⟩
theorem cal__law_ranks (T : Tx K mg) : C8.Cal P w K mg base (0 + 1) "_law_ranks" (sp_law_ranks K) [] := by
  refine T.d__law_ranks.cal sc_law_ranks (fun _ _ _ _ _ _ us hl => match us, hl with | [_, _], _ => rfl) ?_ ?_
  · rintro vs H Q E ⟨z, ⟨a, p, T, r, rfl, _⟩, _⟩; rfl
  · rintro f cdv A outer s H vs Q E hr ⟨z, ⟨a, p, Tb, r, rfl, hT, hs, hz, rfl⟩, q⟩
    refine ⟨(tSeq (tIfS (tTest (tOp rNe (tCB (rLn K) (tCons (tVar 1) tNil)) (tCB (rLn K) (tCons (tVar 0) tNil)))) (tRet (tC (.bl false))) tNext) (tSeq (tFor (iZip K (tCons (tVar 0) (tCons (tVar 1) tNil))) (gTup K 2 (gCons (gName 2) (gCons (gName 3) gNil))) (tIfS (tB (tCB (rAny K) (tCons (tLc (iZipS K (tCons (tVar 2) (tCons (tVar 1) tNil))) (gTup K 2 (gCons (gName 4) (gCons (gName 5) gNil))) tYes (tOp rNe (tOp rEq (tVar 4) (tC (.str "x"))) (tOp rLtI (tVar 3) (tVar 5))) [4, 5]) tNil))) (tRet (tC (.bl false))) tNext)) (tRet (tC (.bl true))))), (pss_cons (ps_if (pt_cmpR op_ne (pe_callB (id := "len") cl_len (by rfl) T.len (by decide +kernel) (pa_cons (pv 1) pa_nil)) (pe_callB (id := "len") cl_len (by rfl) T.len (by decide +kernel) (pa_cons (pv 0) pa_nil)) (nomark _)) (pss_one (ps_ret pe_bl)) pss_nil) (pss_cons (ps_for PassesOwn.never rfl (pi_zip (by rfl) T.zip (pa_cons (pv 0) (pa_cons (pv 1) pa_nil))) (pg_tup rfl (pgs_cons (pg_name (i := 2) sc_law_ranks.nd rfl (Or.inl rfl)) (pgs_cons (pg_name (i := 3) sc_law_ranks.nd rfl (Or.inr rfl)) pgs_nil))) (pss_one (ps_if (pt_val (pe_callB (id := "any") (cr_any rfl) (by rfl) T.any (by decide +kernel) (pa_cons (pe_lc (own := [("_law_sign", 4), ("_law_theirs", 5)]) rfl sc_law_ranks.nd (pi_zipS (by rfl) T.zip (pa_cons (pv 2) (pa_cons (pv 1) pa_nil))) (blkOk_by (own := [("_law_sign", 4), ("_law_theirs", 5)]) (by kernel_rfl)) (fun _ _ _ _ _ => (pg_tup rfl (pgs_cons (pg_name (i := 4) sc_law_ranks.nd rfl (Or.inl rfl)) (pgs_cons (pg_name (i := 5) sc_law_ranks.nd rfl (Or.inl rfl)) pgs_nil)))) (fun _ _ _ _ _ => pts_nil) (fun _ _ _ _ _ => (pe_cmpR op_ne (pe_cmpR op_eq (pv 4) pe_str (nomark _)) (pe_cmpR op_lt (pv 3) (pv 5) (nomark _)) (nomark _)))) pa_nil))) (pss_one (ps_ret pe_bl)) pss_nil))) (pss_one (ps_ret pe_bl)))), ?_⟩
    refine q_when (et_test (ev_op (ev_lenInts (evs_var rfl hs)) (ev_lenTab hT (ev_var rfl)) (rv_ne rfl))) (fun hb H1 e1 => ?_) fun hb H1 e1 => ?_
    · have hb' : r.length ≠ Tb.length := by rw [dec_int] at hb; intro z; simp [z] at hb
      exact s_ret (ev_is ev_c (by simp [ranksOk, hb'])) fun H2 e2 => q H2 (e1.trans e2)
    · have hb' : r.length = Tb.length := by rw [dec_int] at hb; simp at hb; omega
      have hT1 := hT.mono e1
      have hs1 := ex_l e1 hs
      refine q_forZ (l := Tb) (m := r) (f := fun r => V.str (rs r)) (f' := V.int) (evs_var rfl hT1.sq) (evs_var rfl hs1) hb'.symm (fun k σ' => (∀ (i : Nat), i < k → ∀ row m, Tb[i]? = some row → r[i]? = some m → (r.map fun t => decide (m < t)) = row) ∧ ∃ y2 y3, σ' = [some (.ref a), some (.ref p), y2, y3, none, none]) ⟨fun i hi => absurd hi (Nat.not_lt_zero _), _, _, rfl⟩ ?_ ?_
      · rintro k row m σ' H2 hrow hm e2 ⟨hP, y2, y3, rfl⟩ D' hrt hbk hnx
        have e12 := e1.trans e2
        have hlen : row.length = Tb.length := hT.rect row (List.mem_of_getElem? hrow)
        refine s_when (et_B (ev_anySL (r := row) (ms := r) (p := fun t => decide (m < t)) (ev_var rfl) (evs_var rfl (ex_l e12 hs)) (by omega) (by omega) (fun _ _ => rfl) fun b t => ev_neX (ev_var rfl) (ev_op (ev_var rfl) (ev_var rfl) rv_I0))) (fun hb3 H3 e3 => ?_) fun hb3 H3 e3 => ?_
        · refine s_ret ev_c fun H4 e4 => ?_
          rw [hrt]
          have hf : ranksOk r Tb = false := ranks_bad hrow hm (by simpa using hb3)
          rw [hf] at q
          exact q H4 ((e12.trans e3).trans e4)
        · refine hnx _ _ e3 ⟨fun i hi row' m' h1 h2 => ?_, _, _, rfl⟩
          by_cases hik : i < k
          · exact hP i hik row' m' h1 h2
          · have : i = k := by omega
            subst this
            rw [hrow] at h1; rw [hm] at h2
            cases h1; cases h2
            simpa using hb3
      · rintro σ' H2 e2 ⟨hP, y2, y3, rfl⟩
        have hf : ranksOk r Tb = true := ranks_good hb' fun i row m h1 h2 => hP i (List.getElem?_eq_some_iff.mp h1).1 row m h1 h2
        rw [hf] at q
        exact s_ret ev_c fun H3 e3 => q H3 ((e1.trans e2).trans e3)

/-! ### _law_cross -/
def sp_law_cross (K : PySem.W.Frag) : Sp := spV fun vs H z => ∃ a T w i j k l, vs = [.ref a, .int i, .int j, .int k, .int l] ∧ At K H a T w ∧ z = .bl (shown (.cross i j k l) T)
theorem ev_lawCross {σ : L2.St} {H : Hp} {a : Addr} {T : Tb} {n : Nat} {i j k l : Int} {ta t1 t2 t3 t4 : TE} {E : XK} (h : At K H a T n) (ha : Ev ta σ H (.ref a)) (h1 : Ev t1 σ H (.int i)) (h2 : Ev t2 σ H (.int j)) (h3 : Ev t3 σ H (.int k)) (h4 : Ev t4 σ H (.int l)) :
    Ev (tCall (sp_law_cross K) [] E (tCons ta (tCons t1 (tCons t2 (tCons t3 (tCons t4 tNil)))))) σ H (.bl (shown (.cross i j k l) T)) := ev_call (ea_cons ha (ea_cons h1 (ea_cons h2 (ea_cons h3 (ea_cons h4 ea_nil))))) (spV_of fun _ e => ⟨a, T, n, i, j, k, l, rfl, h.mono e, rfl⟩)
theorem cal__law_cross (T : Tx K mg) : C8.Cal P w K mg base (1 + 1) "_law_cross" (sp_law_cross K) [] := by
  refine T.d__law_cross.cal sc_law_cross (fun _ _ _ _ _ _ us hl => match us, hl with | [_, _, _, _, _], _ => rfl) ?_ ?_
  · rintro vs H Q E ⟨z, ⟨a, T, n, i, j, k, l, rfl, _⟩, _⟩; rfl
  · rintro f cdv A outer s H vs Q E hr ⟨z, ⟨a, Tb, n, i, j, k, l, rfl, hT, rfl⟩, q⟩
    refine ⟨(tSeq (tIfS (tOr (tNot (tB (tCall (sp_law_has K) [] C8.E0 (tCons (tVar 0) (tCons (tVar 1) (tCons (tVar 2) tNil)))))) (tNot (tB (tCall (sp_law_has K) [] C8.E0 (tCons (tVar 0) (tCons (tVar 3) (tCons (tVar 4) tNil))))))) (tRet (tC (.bl false))) tNext) (tRet (tAndV (tCall (sp_law_hasnt K) [] C8.E0 (tCons (tVar 0) (tCons (tVar 1) (tCons (tVar 4) tNil)))) (tCall (sp_law_hasnt K) [] C8.E0 (tCons (tVar 0) (tCons (tVar 3) (tCons (tVar 2) tNil))))))), (pss_cons (ps_if (PW.pt (pw_or (pt_not (pt_val (C8.pe_c (cal__law_has T) hr (by decide) (by rfl) (pa_cons (pv 0) (pa_cons (pv 1) (pa_cons (pv 2) pa_nil)))))) (pw_or1 (pt_not (pt_val (C8.pe_c (cal__law_has T) hr (by decide) (by rfl) (pa_cons (pv 0) (pa_cons (pv 3) (pa_cons (pv 4) pa_nil))))))))) (pss_one (ps_ret pe_bl)) pss_nil) (pss_one (ps_ret (pe_and (C8.pe_c (cal__law_hasnt T) hr (by decide) (by rfl) (pa_cons (pv 0) (pa_cons (pv 1) (pa_cons (pv 4) pa_nil)))) (pe_one (C8.pe_c (cal__law_hasnt T) hr (by decide) (by rfl) (pa_cons (pv 0) (pa_cons (pv 3) (pa_cons (pv 2) pa_nil))))))))), ?_⟩
    refine q_when (b := !lawHas Tb i j || !lawHas Tb k l) (et_or (et_not (et_B (ev_lawHas hT (ev_var rfl) (ev_var rfl) (ev_var rfl)))) fun _ => et_not (et_B (ev_lawHas hT (ev_var rfl) (ev_var rfl) (ev_var rfl)))) (fun hb H1 e1 => ?_) fun hb H1 e1 => ?_
    · exact s_ret (ev_is ev_c (by rw [← cross_law]; cases h1 : lawHas Tb i j <;> cases h2 : lawHas Tb k l <;> simp [h1, h2] at hb ⊢)) fun H2 e2 => q H2 (e1.trans e2)
    · have hT1 := hT.mono e1
      exact s_ret (ev_is (ev_andV (ev_lawHasnt hT1 (ev_var rfl) (ev_var rfl) (ev_var rfl)) fun _ => ev_lawHasnt hT1 (ev_var rfl) (ev_var rfl) (ev_var rfl)) (by rw [← cross_law]; cases h1 : lawHas Tb i j <;> cases h2 : lawHas Tb k l <;> simp [h1, h2] at hb ⊢)) fun H2 e2 => q H2 (e1.trans e2)
/-! ### _law_steps -/
def sp_law_steps (K : PySem.W.Frag) : Sp := spV fun vs H z => ∃ a p p2 T w, ∃ r c : List Int, vs = [.ref a, .ref p, .ref p2] ∧ At K H a T w ∧ SqL K H p (r.map V.int) ∧ SqL K H p2 (c.map V.int) ∧ z = .bl (stepsOk r c T)
theorem ev_lawSteps {σ : L2.St} {H : Hp} {a : Addr} {T : Tb} {n : Nat} {r c : List Int} {ta tb tc : TE} {E : XK} (h : At K H a T n) (ha : Ev ta σ H (.ref a)) (hb : EvS K tb σ H (r.map V.int)) (hc : EvS K tc σ H (c.map V.int)) :
    Ev (tCall (sp_law_steps K) [] E (tCons ta (tCons tb (tCons tc tNil)))) σ H (.bl (stepsOk r c T)) := ev_callAv (eav_v ha (eav_s hb (eav_s hc eav_nil))) fun vs H1 e hv => by
  obtain ⟨_, rfl, p, _, rfl, hp, p2, _, rfl, hp2, rfl⟩ := hv
  exact spV_of fun _ e2 => ⟨a, p, p2, T, n, r, c, rfl, h.mono (e.trans e2), ex_l e2 hp, ex_l e2 hp2, rfl⟩
theorem cal__law_steps (T : Tx K mg) : C8.Cal P w K mg base (0 + 1) "_law_steps" (sp_law_steps K) [] := by
  refine T.d__law_steps.cal sc_law_steps (fun _ _ _ _ _ _ us hl => match us, hl with | [_, _, _], _ => rfl) ?_ ?_
  · rintro vs H Q E ⟨z, ⟨a, p, p2, T, n, r, c, rfl, _⟩, _⟩; rfl
  · rintro f cdv A outer s H vs Q E hr ⟨z, ⟨a, p, p2, Tb, n, r, c, rfl, hT, hp, hp2, rfl⟩, q⟩
    refine ⟨(tSeq (tIfS (tOr (tTest (tOp rNe (tCB (rLn K) (tCons (tVar 1) tNil)) (tCB (rLn K) (tCons (tVar 0) tNil)))) (tTest (tOp rNe (tCB (rLn K) (tCons (tVar 2) tNil)) (tIf (tTest (tOp (rNeD K) (tVar 0) (tLst tNil))) (tCB (rLn K) (tCons (tOp (rIxL K) (tVar 0) (tC (.int 0))) tNil)) (tC (.int 0)))))) (tRet (tC (.bl false))) tNext) (tSeq (tFor (iZip K (tCons (tVar 0) (tCons (tVar 1) tNil))) (gTup K 2 (gCons (gName 3) (gCons (gName 4) gNil))) (tIfS (tB (tCB (rAny K) (tCons (tLc (iZipS K (tCons (tVar 3) (tCons (tVar 2) tNil))) (gTup K 2 (gCons (gName 5) (gCons (gName 6) gNil))) tYes (tOp rNe (tOp rEq (tVar 5) (tC (.str "x"))) (tOp rGtI (tVar 4) (tVar 6))) [5, 6]) tNil))) (tRet (tC (.bl false))) tNext)) (tRet (tC (.bl true))))), (pss_cons (ps_if (PW.pt (pw_or (pt_cmpR op_ne (pe_callB (id := "len") cl_len (by rfl) T.len (by decide +kernel) (pa_cons (pv 1) pa_nil)) (pe_callB (id := "len") cl_len (by rfl) T.len (by decide +kernel) (pa_cons (pv 0) pa_nil)) (nomark _)) (pw_or1 (pt_cmpR op_ne (pe_callB (id := "len") cl_len (by rfl) T.len (by decide +kernel) (pa_cons (pv 2) pa_nil)) (pe_ifExp (pt_cmpR (op_neD hr.units) (pv 0) (pe_lst pa_nil) (nomark _)) (pe_callB (id := "len") cl_len (by rfl) T.len (by decide +kernel) (pa_cons (pe_ix ix_list (pv 0) pe_int (fun _ _ => rfl)) pa_nil)) pe_int) (nomark _))))) (pss_one (ps_ret pe_bl)) pss_nil) (pss_cons (ps_for PassesOwn.never rfl (pi_zip (by rfl) T.zip (pa_cons (pv 0) (pa_cons (pv 1) pa_nil))) (pg_tup rfl (pgs_cons (pg_name (i := 3) sc_law_steps.nd rfl (Or.inl rfl)) (pgs_cons (pg_name (i := 4) sc_law_steps.nd rfl (Or.inr rfl)) pgs_nil))) (pss_one (ps_if (pt_val (pe_callB (id := "any") (cr_any rfl) (by rfl) T.any (by decide +kernel) (pa_cons (pe_lc (own := [("_law_sign", 5), ("_law_theirs", 6)]) rfl sc_law_steps.nd (pi_zipS (by rfl) T.zip (pa_cons (pv 3) (pa_cons (pv 2) pa_nil))) (blkOk_by (own := [("_law_sign", 5), ("_law_theirs", 6)]) (by kernel_rfl)) (fun _ _ _ _ _ => (pg_tup rfl (pgs_cons (pg_name (i := 5) sc_law_steps.nd rfl (Or.inl rfl)) (pgs_cons (pg_name (i := 6) sc_law_steps.nd rfl (Or.inl rfl)) pgs_nil)))) (fun _ _ _ _ _ => pts_nil) (fun _ _ _ _ _ => (pe_cmpR op_ne (pe_cmpR op_eq (pv 5) pe_str (nomark _)) (pe_cmpR op_gt (pv 4) (pv 6) (nomark _)) (nomark _)))) pa_nil))) (pss_one (ps_ret pe_bl)) pss_nil))) (pss_one (ps_ret pe_bl)))), ?_⟩
    have hT := hT.nrm
    have hln := hT.ln
    have hlw := hT.lw
    refine q_when (et_or (et_test (ev_op (ev_lenInts (evs_var rfl hp)) (ev_lenTab hT (ev_var rfl)) (rv_ne rfl))) fun _ => et_test (ev_op (ev_lenInts (evs_var rfl hp2)) (ev_if (v := .int (width Tb : Nat)) (b := !decide (Tb = [])) (et_test (ev_nempty (evs_var rfl hT.sq))) (fun hb => ev_len0 hT (ev_var rfl) (by simpa using hb)) fun hb => ev_is ev_c (by have h0 : Tb = [] := (by simpa using hb); subst h0; rfl)) (rv_ne rfl))) (fun hb H1 e1 => ?_) fun hb H1 e1 => ?_
    · have hf : stepsOk r c Tb = false := by
        rw [dec_int, dec_int] at hb
        unfold stepsOk
        by_cases h1 : r.length = Tb.length
        · rw [decide_eq_false (p := c.length = width Tb) (fun z => by simp [h1, z] at hb)]; simp
        · rw [decide_eq_false h1]; rfl
      exact s_ret (ev_is ev_c (by rw [hf])) fun H2 e2 => q H2 (e1.trans e2)
    · have hb' : r.length = Tb.length ∧ c.length = width Tb := by
        rw [dec_int, dec_int] at hb
        simp at hb
        omega
      obtain ⟨hrl, hcw⟩ := hb'
      refine q_forZ (l := Tb) (m := r) (f := fun r => V.str (rs r)) (f' := V.int) (evs_var rfl (hT.mono e1).sq) (evs_var rfl (ex_l e1 hp)) hrl.symm (fun k σ' => (∀ (i : Nat), i < k → ∀ row m, Tb[i]? = some row → r[i]? = some m → (c.map fun t => decide (t < m)) = row) ∧ ∃ y2 y3, σ' = [some (.ref a), some (.ref p), some (.ref p2), y2, y3, none, none]) ⟨fun i hi => absurd hi (Nat.not_lt_zero _), _, _, rfl⟩ ?_ ?_
      · rintro k row m σ' H2 hrow hm e2 ⟨hP, y2, y3, rfl⟩ D' hrt hbk hnx
        have e12 := e1.trans e2
        have hlen : row.length = width Tb := hT.rect row (List.mem_of_getElem? hrow)
        refine s_when (et_B (ev_anySL (r := row) (ms := c) (p := fun t => decide (t < m)) (ev_var rfl) (evs_var rfl (ex_l e12 hp2)) (by omega) (by omega) (fun _ _ => rfl) fun b t => ev_neX (ev_var rfl) (ev_op (ev_var rfl) (ev_var rfl) rv_I0))) (fun hb3 H3 e3 => ?_) fun hb3 H3 e3 => ?_
        · refine s_ret ev_c fun H4 e4 => ?_
          rw [hrt]
          have hf : stepsOk r c Tb = false := by
            unfold stepsOk
            rw [rowsAre_bad (p := fun m => c.map fun t => decide (t < m)) hrow hm (by simpa using hb3)]; simp
          rw [hf] at q
          exact q H4 ((e12.trans e3).trans e4)
        · refine hnx _ _ e3 ⟨fun i hi row' m' h1 h2 => ?_, _, _, rfl⟩
          by_cases hik : i < k
          · exact hP i hik row' m' h1 h2
          · have : i = k := by omega
            subst this
            rw [hrow] at h1; rw [hm] at h2
            cases h1; cases h2
            simpa using hb3
      · rintro σ' H2 e2 ⟨hP, y2, y3, rfl⟩
        have hf : stepsOk r c Tb = true := by
          unfold stepsOk
          rw [decide_eq_true hrl, decide_eq_true hcw, (rowsAre_iff (p := fun m => c.map fun t => decide (t < m))).mpr fun i row m h1 h2 => hP i (List.getElem?_eq_some_iff.mp h1).1 row m h1 h2]; rfl
        rw [hf] at q
        exact s_ret ev_c fun H3 e3 => q H3 ((e1.trans e2).trans e3)

/-! ### _law_stretches -/
def sp_law_stretches (K : PySem.W.Frag) : Sp := spV fun vs H z => ∃ a p p2 p3 T, ∃ b e u : List Int, vs = [.ref a, .ref p, .ref p2, .ref p3] ∧ At K H a T T.length ∧ SqL K H p (b.map V.int) ∧ SqL K H p2 (e.map V.int) ∧ SqL K H p3 (u.map V.int) ∧ z = .bl (stretchesOk b e u T)
theorem ev_lawStretches {σ : L2.St} {H : Hp} {a : Addr} {T : Tb} {b e u : List Int} {ta tb tc td : TE} {E : XK} (h : At K H a T T.length) (ha : Ev ta σ H (.ref a)) (hb : EvS K tb σ H (b.map V.int)) (hc : EvS K tc σ H (e.map V.int)) (hd : EvS K td σ H (u.map V.int)) :
    Ev (tCall (sp_law_stretches K) [] E (tCons ta (tCons tb (tCons tc (tCons td tNil))))) σ H (.bl (stretchesOk b e u T)) := ev_callAv (eav_v ha (eav_s hb (eav_s hc (eav_s hd eav_nil)))) fun vs H1 ex hv => by
  obtain ⟨_, rfl, p, _, rfl, hp, p2, _, rfl, hp2, p3, _, rfl, hp3, rfl⟩ := hv
  exact spV_of fun _ e2 => ⟨a, p, p2, p3, T, b, e, u, rfl, h.mono (ex.trans e2), ex_l e2 hp, ex_l e2 hp2, ex_l e2 hp3, rfl⟩
theorem cal__law_stretches (T : Tx K mg) : C8.Cal P w K mg base (0 + 1) "_law_stretches" (sp_law_stretches K) [] := by
  refine T.d__law_stretches.cal sc_law_stretches (fun _ _ _ _ _ _ us hl => match us, hl with | [_, _, _, _], _ => rfl) ?_ ?_
  · rintro vs H Q E ⟨z, ⟨a, p, p2, p3, T, b, e, u, rfl, _⟩, _⟩; rfl
  · rintro f cdv A outer s H vs Q E hr ⟨z, ⟨a, p, p2, p3, Tb, b, e, u, rfl, hT, hp, hp2, hp3, rfl⟩, q⟩
    refine ⟨(tSeq (tAsg (tCB (rLn K) (tCons (tVar 0) tNil)) (gName 4)) (tSeq (tIfS (tOr (tTest (tOp rNe (tCB (rLn K) (tCons (tVar 1) tNil)) (tVar 4))) (tOr (tTest (tOp rNe (tCB (rLn K) (tCons (tVar 2) tNil)) (tVar 4))) (tTest (tOp rNe (tCB (rLn K) (tCons (tVar 3) tNil)) (tLenS K (tVar 1)))))) (tRet (tC (.bl false))) tNext) (tSeq (tIfS (tOr (tB (tCB (rAny K) (tCons (tLc (iList K (tVar 3)) (gName 5) tYes (tNotV (tChain rLeI rLtI (tC (.int 0)) (tVar 5) (tVar 4))) [5]) tNil))) (tB (tCB (rAny K) (tCons (tLc (iRng1 (tCons (tVar 4) tNil)) (gName 6) tYes (tOp rLtI (tOp (rIxL K) (tVar 2) (tVar 6)) (tOp (rIxL K) (tVar 1) (tVar 6))) [6]) tNil)))) (tRet (tC (.bl false))) tNext) (tSeq (tFor (iZip K (tCons (tVar 0) (tCons (tVar 2) tNil))) (gTup K 2 (gCons (gName 7) (gCons (gName 8) gNil))) (tIfS (tB (tCB (rAny K) (tCons (tLc (iZipS K (tCons (tVar 7) (tCons (tVar 1) tNil))) (gTup K 2 (gCons (gName 9) (gCons (gName 10) gNil))) tYes (tOp rNe (tOp rEq (tVar 9) (tC (.str "x"))) (tOp rLtI (tVar 8) (tVar 10))) [9, 10]) tNil))) (tRet (tC (.bl false))) tNext)) (tSeq (tAsg (tLc (iList K (tVar 3)) (gName 5) tYes (tM1 (rJoin K) (tC (.str "")) (tLc (iList K (tVar 0)) (gName 7) tYes (tOp rIxS (tVar 7) (tVar 5)) [7])) [5]) (gName 11)) (tRet (tOp rEq (tLenSS K (tVar 11)) (tCB (rLn K) (tCons (tVar 11) tNil))))))))), (pss_cons (ps_set (i := 4) sc_law_stretches.nd rfl (Or.inr rfl) (pe_callB (id := "len") cl_len (by rfl) T.len (by decide +kernel) (pa_cons (pv 0) pa_nil))) (pss_cons (ps_if (PW.pt (pw_or (pt_cmpR op_ne (pe_callB (id := "len") cl_len (by rfl) T.len (by decide +kernel) (pa_cons (pv 1) pa_nil)) (pv 4) (nomark _)) (pw_or (pt_cmpR op_ne (pe_callB (id := "len") cl_len (by rfl) T.len (by decide +kernel) (pa_cons (pv 2) pa_nil)) (pv 4) (nomark _)) (pw_or1 (pt_cmpR op_ne (pe_callB (id := "len") cl_len (by rfl) T.len (by decide +kernel) (pa_cons (pv 3) pa_nil)) (pe_lenS (by rfl) T.len (by rfl) T.set (pv 1)) (nomark _)))))) (pss_one (ps_ret pe_bl)) pss_nil) (pss_cons (ps_if (PW.pt (pw_or (pt_val (pe_callB (id := "any") (cr_any rfl) (by rfl) T.any (by decide +kernel) (pa_cons (pe_lc (own := [("_law_thing", 5)]) rfl sc_law_stretches.nd (pi_list (pv 3)) (blkOk_by (own := [("_law_thing", 5)]) (by kernel_rfl)) (fun _ _ _ _ _ => (pg_name (i := 5) sc_law_stretches.nd rfl (Or.inl rfl))) (fun _ _ _ _ _ => pts_nil) (fun _ _ _ _ _ => (pe_not (pe_chain op_le op_lt pe_int (pv 5) (pv 4))))) pa_nil))) (pw_or1 (pt_val (pe_callB (id := "any") (cr_any rfl) (by rfl) T.any (by decide +kernel) (pa_cons (pe_lc (own := [("_law_at", 6)]) rfl sc_law_stretches.nd (pi_range1 (by rfl) T.range (pa_cons (pv 4) pa_nil)) (blkOk_by (own := [("_law_at", 6)]) (by kernel_rfl)) (fun _ _ _ _ _ => (pg_name (i := 6) sc_law_stretches.nd rfl (Or.inl rfl))) (fun _ _ _ _ _ => pts_nil) (fun _ _ _ _ _ => (pe_cmpR op_lt (pe_ix ix_list (pv 2) (pv 6) (fun _ _ => rfl)) (pe_ix ix_list (pv 1) (pv 6) (fun _ _ => rfl)) (nomark _)))) pa_nil)))))) (pss_one (ps_ret pe_bl)) pss_nil) (pss_cons (ps_for PassesOwn.never rfl (pi_zip (by rfl) T.zip (pa_cons (pv 0) (pa_cons (pv 2) pa_nil))) (pg_tup rfl (pgs_cons (pg_name (i := 7) sc_law_stretches.nd rfl (Or.inl rfl)) (pgs_cons (pg_name (i := 8) sc_law_stretches.nd rfl (Or.inr rfl)) pgs_nil))) (pss_one (ps_if (pt_val (pe_callB (id := "any") (cr_any rfl) (by rfl) T.any (by decide +kernel) (pa_cons (pe_lc (own := [("_law_sign", 9), ("_law_begin", 10)]) rfl sc_law_stretches.nd (pi_zipS (by rfl) T.zip (pa_cons (pv 7) (pa_cons (pv 1) pa_nil))) (blkOk_by (own := [("_law_sign", 9), ("_law_begin", 10)]) (by kernel_rfl)) (fun _ _ _ _ _ => (pg_tup rfl (pgs_cons (pg_name (i := 9) sc_law_stretches.nd rfl (Or.inl rfl)) (pgs_cons (pg_name (i := 10) sc_law_stretches.nd rfl (Or.inl rfl)) pgs_nil)))) (fun _ _ _ _ _ => pts_nil) (fun _ _ _ _ _ => (pe_cmpR op_ne (pe_cmpR op_eq (pv 9) pe_str (nomark _)) (pe_cmpR op_lt (pv 8) (pv 10) (nomark _)) (nomark _)))) pa_nil))) (pss_one (ps_ret pe_bl)) pss_nil))) (pss_cons (ps_setLc (i := 11) (own := [("_law_thing", 5)]) rfl sc_law_stretches.nd rfl rfl (sw_true rfl rfl rfl (by decide +kernel)) (pi_list (pv 3)) (blkOk_by (own := [("_law_thing", 5)]) (by kernel_rfl)) (fun _ _ _ _ _ => (pg_name (i := 5) sc_law_stretches.nd rfl (Or.inr rfl))) (fun _ _ _ _ _ => pts_nil) (fun _ _ _ _ _ => (pe_joinR pe_str (pe_lc (own := [("_law_row", 7)]) rfl sc_law_stretches.nd (pi_list (pv 0)) (blkOk_by (own := [("_law_row", 7)]) (by kernel_rfl)) (fun _ _ _ _ _ => (pg_name (i := 7) sc_law_stretches.nd rfl (Or.inl rfl))) (fun _ _ _ _ _ => pts_nil) (fun _ _ _ _ _ => (pe_ix ix_str (pv 7) (pv 5) (fun _ _ => rfl))))))) (pss_one (ps_ret (pe_cmpR op_eq (pe_lenSS (by rfl) T.len (by rfl) T.set (pv 11)) (pe_callB (id := "len") cl_len (by rfl) T.len (by decide +kernel) (pa_cons (pv 11) pa_nil)) (nomark _))))))))), ?_⟩
    have hln := hT.ln
    refine q_asg (ev_lenTab hT (ev_var rfl)) fun H1 e1 => ?_
    have hT1 := hT.mono e1
    refine q_when (et_or (et_test (ev_op (ev_lenInts (evs_var rfl (ex_l e1 hp))) (ev_var (v := .int (Tb.length : Nat)) rfl) (rv_ne rfl))) fun hb0 => et_or (et_test (ev_op (ev_lenInts (evs_var rfl (ex_l e1 hp2))) (ev_var (v := .int (Tb.length : Nat)) rfl) (rv_ne rfl))) fun _ => et_test (ev_op (ev_lenInts (evs_var rfl (ex_l e1 hp3))) (ev_lenSet (evs_var rfl (ex_l e1 hp)) (by rw [dec_int] at hb0; simp at hb0; omega)) (rv_ne rfl))) (fun hbb H2 e2 => ?_) fun hbb H2 e2 => ?_
    · have hf : stretchesOk b e u Tb = false := by
        rw [dec_int, dec_int, dec_int] at hbb
        unfold stretchesOk
        by_cases h1 : b.length = Tb.length
        · by_cases h2 : e.length = Tb.length
          · rw [decide_eq_false (p := u.length = diff b) (fun z => by simp [h1, h2, z] at hbb)]; simp
          · rw [decide_eq_false h2]; simp
        · rw [decide_eq_false h1]; rfl
      exact s_ret (ev_is ev_c (by rw [hf])) fun H3 e3 => q H3 ((e1.trans e2).trans e3)
    have hbb' : b.length = Tb.length ∧ e.length = Tb.length ∧ u.length = diff b := by
      rw [dec_int, dec_int, dec_int] at hbb
      simp at hbb
      omega
    obtain ⟨hbl, hel, hud⟩ := hbb'
    have hdl := diff_le b
    have e12 := e1.trans e2
    refine q_when (b := !(u.all (inT Tb)) || !((b.zip e).all fun x => !decide (x.2 < x.1))) (et_or (et_is (et_B (ev_anyM (l := u) (p := fun t => !inT Tb t) (els (el_map (g := V.int) (f := fun t => V.bl (!inT Tb t)) (evs_var rfl (ex_l e12 hp3)) (by omega) (fun _ => rfl) fun t ht => ev_notV (ev_chain ev_c (ev_var rfl) (fun _ => ev_var rfl) rv_I0 fun _ => rv_I0))))) (by rw [List.not_all_eq_any_not])) fun _ =>
      et_is (et_B (ev_anyM (l := List.range Tb.length) (p := fun i => decide (e.getD i 0 < b.getD i 0)) (els (el_mapR (n := Tb.length) (f := fun i => V.bl (decide (e.getD i 0 < b.getD i 0))) (ev_var rfl) (by omega) (fun _ => rfl) fun i hi => ev_op (ev_ixLS (evs_var rfl (ex_l e12 hp2)) (ev_var rfl) (atI_nat (int_at (by omega)))) (ev_ixLS (evs_var rfl (ex_l e12 hp)) (ev_var rfl) (atI_nat (int_at (by omega)))) rv_I0)))) (any_rng hbl hel)) (fun hb2 H3 e3 => ?_) fun hb2 H3 e3 => ?_
    · have hf : stretchesOk b e u Tb = false := by
        unfold stretchesOk
        cases h1 : u.all (inT Tb) <;> cases h2 : (b.zip e).all (fun x => !decide (x.2 < x.1)) <;> simp [h1, h2] at hb2 ⊢
      exact s_ret (ev_is ev_c (by rw [hf])) fun H4 e4 => q H4 ((e12.trans e3).trans e4)
    have hb2' : u.all (inT Tb) = true ∧ (b.zip e).all (fun x => !decide (x.2 < x.1)) = true := by
      cases h1 : u.all (inT Tb) <;> cases h2 : (b.zip e).all (fun x => !decide (x.2 < x.1)) <;> simp [h1, h2] at hb2 ⊢
    obtain ⟨hui, hz⟩ := hb2'
    have e13 := e12.trans e3
    refine q_forZ (l := Tb) (m := e) (f := fun r => V.str (rs r)) (f' := V.int) (evs_var rfl (hT.mono e13).sq) (evs_var rfl (ex_l e13 hp2)) hel.symm (fun k σ' => (∀ (i : Nat), i < k → ∀ row m, Tb[i]? = some row → e[i]? = some m → (b.map fun t => decide (m < t)) = row) ∧ ∃ y7 y8, σ' = [some (.ref a), some (.ref p), some (.ref p2), some (.ref p3), some (.int (Tb.length : Nat)), none, none, y7, y8, none, none, none]) ⟨fun i hi => absurd hi (Nat.not_lt_zero _), _, _, rfl⟩ ?_ ?_
    · rintro k row m σ' H4 hrow hm e4 ⟨hP, y7, y8, rfl⟩ D' hrt hbk hnx
      have e14 := e13.trans e4
      have hlen : row.length = Tb.length := hT.rect row (List.mem_of_getElem? hrow)
      refine s_when (et_B (ev_anySL (r := row) (ms := b) (p := fun t => decide (m < t)) (ev_var rfl) (evs_var rfl (ex_l e14 hp)) (by omega) (by omega) (fun _ _ => rfl) fun b t => ev_neX (ev_var rfl) (ev_op (ev_var rfl) (ev_var rfl) rv_I0))) (fun hb3 H5 e5 => ?_) fun hb3 H5 e5 => ?_
      · refine s_ret ev_c fun H6 e6 => ?_
        rw [hrt]
        have hf : stretchesOk b e u Tb = false := by
          unfold stretchesOk
          rw [rowsAre_bad (p := fun m => b.map fun t => decide (m < t)) hrow hm (by simpa using hb3)]; simp
        rw [hf] at q
        exact q H6 ((e14.trans e5).trans e6)
      · refine hnx _ _ e5 ⟨fun i hi row' m' h1 h2 => ?_, _, _, rfl⟩
        by_cases hik : i < k
        · exact hP i hik row' m' h1 h2
        · have : i = k := by omega
          subst this
          rw [hrow] at h1; rw [hm] at h2
          cases h1; cases h2
          simpa using hb3
    rintro σ' H4 e4 ⟨hP, y7, y8, rfl⟩
    have hra : rowsAre Tb e (fun m => b.map fun t => decide (m < t)) = true := (rowsAre_iff (p := fun m => b.map fun t => decide (m < t))).mpr fun i row m h1 h2 => hP i (List.getElem?_eq_some_iff.mp h1).1 row m h1 h2
    have e14 := e13.trans e4
    have hT4 := hT.mono e14
    refine q_asgL (el_map (l := u) (g := V.int) (f := fun t => V.str (rs (colB Tb t.toNat))) (evs_var rfl (ex_l e14 hp3)) (by omega) (fun _ => rfl) fun t ht => ?_) fun o H5 ho e5 h5 => ?_
    · obtain ⟨j, rfl, hj⟩ := inT_nat (List.all_eq_true.mp hui t ht)
      rw [Int.toNat_natCast]
      refine ev_joinS (bs := colB Tb j) ?_ (by unfold colB; rw [List.length_map]; omega)
      unfold colB
      rw [List.map_map]
      refine els (el_map (l := Tb) (g := fun r => V.str (rs r)) (f := fun r => V.str (s1 (r.getD j false))) (evs_var rfl hT4.sq) (by omega) (fun _ => rfl) fun r hr => ?_)
      have := hT.rect r hr
      exact ev_ixSg (ev_var (v := .str (rs r)) rfl) (ev_var rfl) (by omega) (by omega)
    have vO : EvS K (tVar 11) [some (.ref a), some (.ref p), some (.ref p2), some (.ref p3), some (.int (Tb.length : Nat)), none, none, y7, y8, none, none, some (.ref o)] H5 ((u.map fun t : Int => rs (colB Tb t.toNat)).map V.str) := EvS.is (evs_var rfl (sq_of h5)) (by rw [List.map_map]; rfl)
    refine s_ret (ev_is (ev_op (ev_lenSetS (ns := u.map fun t : Int => rs (colB Tb t.toNat)) vO (by rw [List.length_map]; omega)) (ev_lenS vO) (rv_eq rfl)) ?_) fun H6 e6 => q H6 ((e14.trans e5).trans e6)
    have i1 : decide (V.int (diff (u.map fun t : Int => rs (colB Tb t.toNat)) : Nat) = V.int (((u.map fun t : Int => rs (colB Tb t.toNat)).map V.str).length : Nat)) = decide ((u.map (colI Tb)).Nodup) := by
      rw [← cols_nodup, List.length_map]
      exact decide_eq_decide.mpr ⟨fun h => diff_nodup.mp (by have := V.int.inj h; omega), fun h => by rw [diff_nodup.mpr h]⟩
    rw [i1]
    unfold stretchesOk
    rw [decide_eq_true hbl, decide_eq_true hel, hui, hz, hra, decide_eq_true hud]
    simp

/-! ### _law_line -/
def sp_law_line (K : PySem.W.Frag) : Sp := spV fun vs H z => ∃ a p T, ∃ o : List Int, vs = [.ref a, .ref p] ∧ At K H a T T.length ∧ SqL K H p (o.map V.int) ∧ o.length ≤ 1000 ∧ z = .bl (shown (.line o) T)
theorem ev_lawLine {σ : L2.St} {H : Hp} {a : Addr} {T : Tb} {o : List Int} {ta tb : TE} {E : XK} (h : At K H a T T.length) (ha : Ev ta σ H (.ref a)) (hb : EvS K tb σ H (o.map V.int)) (hz : o.length ≤ 1000) :
    Ev (tCall (sp_law_line K) [] E (tCons ta (tCons tb tNil))) σ H (.bl (shown (.line o) T)) := ev_callAv (eav_v ha (eav_s hb eav_nil)) fun vs H1 e hv => by
  obtain ⟨_, rfl, p, _, rfl, hp, rfl⟩ := hv
  exact spV_of fun _ e2 => ⟨a, p, T, o, rfl, h.mono (e.trans e2), ex_l e2 hp, hz, rfl⟩
theorem cal__law_line (T : Tx K mg) : C8.Cal P w K mg base (1 + 1) "_law_line" (sp_law_line K) [] := by
  refine T.d__law_line.cal sc_law_line (fun _ _ _ _ _ _ us hl => match us, hl with | [_, _], _ => rfl) ?_ ?_
  · rintro vs H Q E ⟨z, ⟨a, p, T, o, rfl, _⟩, _⟩; rfl
  · rintro f cdv A outer s H vs Q E hr ⟨z, ⟨a, l, Tb, o, rfl, hT, hs, hz, rfl⟩, q⟩
    refine ⟨(tSeq (tIfS (tTest (tOp (rNeD K) (tCB (rSortedLN K) (tCons (tVar 1) tNil)) (tLstRg (tRg1 (tCB (rLn K) (tCons (tVar 0) tNil)))))) (tRet (tC (.bl false))) tNext) (tSeq (tAsg (tLc (iList K (tVar 1)) (gName 2) tYes (tC (.int 0)) [2]) (gName 3)) (tSeq (tFor (iEnum K (tCons (tVar 1) tNil)) (gTup K 2 (gCons (gName 4) (gCons (gName 2) gNil))) (tAsg (tVar 4) (gSub (tVar 3) (tVar 2) rSetL))) (tRet (tCall (sp_law_ranks K) [] C8.E0 (tCons (tVar 0) (tCons (tVar 3) tNil))))))), (pss_cons (ps_if (pt_cmpR (op_neD hr.units) (pe_callB (id := "sorted") (cr_sortedLN (room10 hr)) (by rfl) T.sorted (by decide +kernel) (pa_cons (pv 1) pa_nil)) (pe_listRg rfl (by rfl) T.list (prg_1 (by rfl) T.range (pe_callB (id := "len") cl_len (by rfl) T.len (by decide +kernel) (pa_cons (pv 0) pa_nil)))) (nomark _)) (pss_one (ps_ret pe_bl)) pss_nil) (pss_cons (ps_setLc (i := 3) (own := [("_law_thing", 2)]) rfl sc_law_line.nd rfl rfl (sw_true rfl rfl rfl (by decide +kernel)) (pi_list (pv 1)) (blkOk_by (own := [("_law_thing", 2)]) (by kernel_rfl)) (fun _ _ _ _ _ => (pg_name (i := 2) sc_law_line.nd rfl (Or.inl rfl))) (fun _ _ _ _ _ => pts_nil) (fun _ _ _ _ _ => pe_int)) (pss_cons (ps_for PassesOwn.never rfl (pi_enum (by rfl) T.enumerate (pa_cons (pv 1) pa_nil)) (pg_tup rfl (pgs_cons (pg_name (i := 4) sc_law_line.nd rfl (Or.inl rfl)) (pgs_cons (pg_name (i := 2) sc_law_line.nd rfl (Or.inl rfl)) pgs_nil))) (pss_one (ps_asg (pv 4) (pg_sub (pv 3) (pv 2) set_list)))) (pss_one (ps_ret (C8.pe_c (cal__law_ranks T) hr (by decide) (by rfl) (pa_cons (pv 0) (pa_cons (pv 3) pa_nil)))))))), ?_⟩
    have hln := hT.ln
    refine q_when (et_is (et_test (ev_neInts (els (el_sortedL (evs_var rfl hs) hz)) (els (el_listR (ev_lenTab hT (ev_var rfl)) hln)))) (by rw [sort_perm])) (fun hb H1 e1 => ?_) fun hb H1 e1 => ?_
    · have hf : isPerm o Tb.length = false := by simpa using hb
      exact s_ret (ev_is ev_c (by simp [shown, hf])) fun H2 e2 => q H2 (e1.trans e2)
    have hP : isPerm o Tb.length = true := by simpa using hb
    have hon := isPerm_len hP
    refine q_asgL (EvL.is (el_map (l := o) (g := V.int) (f := fun _ => V.int 0) (evs_var rfl (ex_l e1 hs)) (by omega) (fun _ => rfl) fun _ _ => ev_c) (show _ = (o.map fun _ => (0 : Int)).map V.int by rw [List.map_map]; rfl)) fun p H2 hp e2 h2 => ?_
    refine q_forPlaces (Hb := H1) (p := p) (K := K) (a := l) (o := o) (n := Tb.length) (L0 := o.map fun _ => (0 : Int)) (fun σ' => ∃ y2 y4, σ' = [some (.ref a), some (.ref l), y2, some (.ref p), y4]) e2 hp (ex_l e1 hs) (ev_var rfl) hP hln (by rw [List.length_map]; exact hon) h2 ⟨_, _, rfl⟩ (by rintro σ' j t ⟨y2, y4, rfl⟩; exact ⟨_, _, rfl⟩) (by rintro σ' j t ⟨y2, y4, rfl⟩; exact ⟨rfl, rfl, rfl⟩) ?_
    rintro σ' H3 e3 ⟨y2, y4, rfl⟩ h3
    have e13 := e1.trans e3
    exact s_ret (ev_is (ev_lawRanks (r := placesOf o) (hT.mono e13) (ev_var rfl) (evs_var rfl (sq_of h3)) (by rw [placesOf_len]; exact hz)) (by simp [shown, hP])) fun H4 e4 => q H4 (e13.trans e4)

end

end WA

namespace WA
open PySem PySem.Spec PyProof.Rows L2 Evl

section
variable {P : Program} {w : World} {K : PySem.W.Frag} {mg : Str → Option Value} {base : Heap}

/-! ### _law_says -/
def sp_law_says (K : PySem.W.Frag) : Sp := spV fun vs _ z => ∃ a b : Bool, vs = [.bl a, .bl b] ∧ z = .bl (decide (a = b))
theorem ev_says {σ : L2.St} {H : Hp} {a b : Bool} {ta tb : TE} {E : XK} (h : Ev ta σ H (.bl a)) (h2 : Ev tb σ H (.bl b)) : Ev (tCall (sp_law_says K) [] E (tCons ta (tCons tb tNil))) σ H (.bl (decide (a = b))) :=
  ev_call (ea_cons h (ea_cons h2 ea_nil)) (spV_of fun _ _ => ⟨a, b, rfl, rfl⟩)
theorem ev_isiBl {σ : L2.St} {H : Hp} {te : TE} {b : Bool} (h : Ev te σ H (.bl b)) : Ev (tCB (rIsi K) (tCons te (tCons (tC (.ty "bool")) tNil))) σ H (.bl true) := ev_isi h (.ty _) (fun _ _ => .base (.bl b)) (kit_ty (by decide +kernel))
theorem cal__law_says (T : Tx K mg) : C8.Cal P w K mg base (0 + 1) "_law_says" (sp_law_says K) [] := by
  refine T.d__law_says.cal sc_law_says (fun _ _ _ _ _ _ us hl => match us, hl with | [_, _], _ => rfl) ?_ ?_
  · rintro vs H Q E ⟨z, ⟨a, b, rfl, _⟩, _⟩; rfl
  · rintro f cdv A outer s H vs Q E hr ⟨z, ⟨a, b, rfl, rfl⟩, q⟩
    refine ⟨(tRet (tAndV (tCB (rIsi K) (tCons (tVar 0) (tCons (tC (.ty "bool")) tNil))) (tOp rEq (tVar 0) (tVar 1)))), (pss_one (ps_ret (pe_and (pe_callB (id := "isinstance") call_isi (by rfl) T.isinstance (by decide +kernel) (pa_cons (pv 0) (pa_cons (pe_bltn (v := .ty "bool") (by rfl) T.bool (by decide +kernel) rfl) pa_nil))) (pe_one (pe_cmpR op_eq (pv 0) (pv 1) (nomark _)))))), ?_⟩
    exact s_ret (ev_is (ev_andV (ev_isiBl (ev_var rfl)) fun _ => ev_op (ev_var rfl) (ev_var rfl) (rv_eq rfl)) (by rw [dec_bl]; rfl)) q
/-! ### _law_bent -/
def sp_law_bent (K : PySem.W.Frag) : Sp := fun vs H Q _ => ∃ (a b : Addr) (xs ns : List Int), vs = [.ref a, .ref b] ∧ SqL K H a (xs.map V.int) ∧ SqL K H b (ns.map V.int) ∧ xs.length ≤ 400 ∧ ns.length ≤ 63 ∧
  ∀ (ys : List Int) p H2, ys.length ≤ xs.length + ns.length → H p = none → Ex H H2 → H2 p = some (.lst (ys.map V.int)) → Q (.ref p) H2
theorem evb_bent {σ : L2.St} {H : Hp} {xs ns : List Int} {ta tb : TE} {E : XK} {k : Nat} (h : EvS K ta σ H (xs.map V.int)) (h2 : EvS K tb σ H (ns.map V.int)) (hx : xs.length ≤ 400) (hn : ns.length ≤ 63) (hk : xs.length + ns.length ≤ k) : EvB K (tCall (sp_law_bent K) [] E (tCons ta (tCons tb tNil))) σ H k := fun H1 e Q q =>
  h H1 e _ fun p H2 e2 hp => h2 H2 (e.trans e2) _ fun p' H3 e3 hp' => ⟨p, p', xs, ns, rfl, ex_l e3 hp, hp', hx, hn, fun ys o H4 hy ho e4 h4 => q o ys H4 ((e2.trans e3).trans e4) (sq_of h4) (by omega)⟩
theorem max_len (n : Nat) : (if ((n : Nat) : Int) > 1 then ((n : Nat) : Int) else 1) = ((max 1 n : Nat) : Int) := by
  by_cases h : ((n : Nat) : Int) > 1
  · rw [if_pos h]; omega
  · rw [if_neg h]; omega
theorem cal__law_bent (T : Tx K mg) : C8.Cal P w K mg base (0 + 1) "_law_bent" (sp_law_bent K) [] := by
  refine T.d__law_bent.cal sc_law_bent (fun _ _ _ _ _ _ us hl => match us, hl with | [_, _], _ => rfl) ?_ ?_
  · rintro vs H Q E ⟨a, b, xs, ns, rfl, _⟩; rfl
  · rintro f cdv A outer s H vs Q E hr ⟨a, b, xs, ns, rfl, ha, hb, hx, hn, q⟩
    refine ⟨(tSeq (tAsg (tCB (rLs K) (tCons (tVar 0) tNil)) (gName 2)) (tSeq (tFor (iList K (tVar 1)) (gName 3) (tSeq (tAsg (tOp rModI (tOp rDivI (tVar 3) (tC (.int 23))) (tCB rMax2 (tCons (tC (.int 1)) (tCons (tCB (rLn K) (tCons (tVar 2) tNil)) tNil)))) (gName 4)) (tSeq (tIfS (tTest (tOp rEq (tOp rModI (tVar 3) (tC (.int 23))) (tC (.int 0)))) (tAsg (tOp rCat (tSl (rSlL K) (tVar 2) tNoPart (tPart (tVar 4))) (tSl (rSlL K) (tVar 2) (tPart (tOp rAddI (tVar 4) (tC (.int 1)))) tNoPart)) (gName 2)) tNext) (tSeq (tIfS (tTest (tOp rEq (tOp rModI (tVar 3) (tC (.int 23))) (tC (.int 1)))) (tAsg (tOp rCat (tOp rCat (tSl (rSlL K) (tVar 2) tNoPart (tPart (tVar 4))) (tLst (tCons (tOp rSubI (tOp rModI (tOp rDivI (tVar 3) (tC (.int 121))) (tC (.int 9))) (tC (.int 1))) tNil))) (tSl (rSlL K) (tVar 2) (tPart (tVar 4)) tNoPart)) (gName 2)) tNext) (tSeq (tIfS (tAnd (tTest (tOp rEq (tOp rModI (tVar 3) (tC (.int 23))) (tC (.int 2)))) (tTest (tOp (rNeD K) (tVar 2) (tLst tNil)))) (tAsg (tOp rSubI (tOp rAddI (tOp (rIxL K) (tVar 2) (tVar 4)) (tOp rModI (tOp rDivI (tVar 3) (tC (.int 121))) (tC (.int 3)))) (tC (.int 1))) (gSub (tVar 2) (tVar 4) rSetL)) tNext) (tIfS (tAnd (tTest (tOp rEq (tOp rModI (tVar 3) (tC (.int 23))) (tC (.int 3)))) (tTest (tOp (rNeD K) (tVar 2) (tLst tNil)))) (tAsg (tTup (tCons (tOp (rIxL K) (tVar 2) (tC (.int 0))) (tCons (tOp (rIxL K) (tVar 2) (tVar 4)) tNil))) (gTup K 2 (gCons (gSub (tVar 2) (tVar 4) rSetL) (gCons (gSub (tVar 2) (tC (.int 0)) rSetL) gNil)))) tNext)))))) (tRet (tVar 2)))), (pss_cons (ps_set (i := 2) sc_law_bent.nd rfl (Or.inl rfl) (pe_callTy (T := "list") cl_list (by rfl) T.list (by decide +kernel) (pa_cons (pv 0) pa_nil))) (pss_cons (ps_for PassesOwn.never rfl (pi_list (pv 1)) (pg_name (i := 3) sc_law_bent.nd rfl (Or.inl rfl)) (pss_cons (ps_set (i := 4) sc_law_bent.nd rfl (Or.inl rfl) (pe_op op_mod (pe_op op_fdiv (pv 3) pe_int) (pe_callB (id := "max") (call_max2 rfl) (by rfl) T.max (by decide +kernel) (pa_cons pe_int (pa_cons (pe_callB (id := "len") cl_len (by rfl) T.len (by decide +kernel) (pa_cons (pv 2) pa_nil)) pa_nil))))) (pss_cons (ps_if (pt_cmpR op_eq (pe_op op_mod (pv 3) pe_int) pe_int (nomark _)) (pss_one (ps_set (i := 2) sc_law_bent.nd rfl (Or.inl rfl) (pe_op op_cat (pe_slice sl_list (pv 2) po_none (po_some (pv 4))) (pe_slice sl_list (pv 2) (po_some (pe_op op_add (pv 4) pe_int)) po_none)))) pss_nil) (pss_cons (ps_if (pt_cmpR op_eq (pe_op op_mod (pv 3) pe_int) pe_int (nomark _)) (pss_one (ps_set (i := 2) sc_law_bent.nd rfl (Or.inl rfl) (pe_op op_cat (pe_op op_cat (pe_slice sl_list (pv 2) po_none (po_some (pv 4))) (pe_lst (pa_cons (pe_op op_sub (pe_op op_mod (pe_op op_fdiv (pv 3) pe_int) pe_int) pe_int) pa_nil))) (pe_slice sl_list (pv 2) (po_some (pv 4)) po_none)))) pss_nil) (pss_cons (ps_if (PW.pt (pw_and (pt_cmpR op_eq (pe_op op_mod (pv 3) pe_int) pe_int (nomark _)) (pw_and1 (pt_cmpR (op_neD hr.units) (pv 2) (pe_lst pa_nil) (nomark _))))) (pss_one (ps_asg (pe_op op_sub (pe_op op_add (pe_ix ix_list (pv 2) (pv 4) (fun _ _ => rfl)) (pe_op op_mod (pe_op op_fdiv (pv 3) pe_int) pe_int)) pe_int) (pg_sub (pv 2) (pv 4) set_list))) pss_nil) (pss_one (ps_if (PW.pt (pw_and (pt_cmpR op_eq (pe_op op_mod (pv 3) pe_int) pe_int (nomark _)) (pw_and1 (pt_cmpR (op_neD hr.units) (pv 2) (pe_lst pa_nil) (nomark _))))) (pss_one (ps_asg (pe_tup (pa_cons (pe_ix ix_list (pv 2) pe_int (fun _ _ => rfl)) (pa_cons (pe_ix ix_list (pv 2) (pv 4) (fun _ _ => rfl)) pa_nil))) (pg_tup rfl (pgs_cons (pg_sub (pv 2) (pv 4) set_list) (pgs_cons (pg_sub (pv 2) pe_int set_list) pgs_nil))))) pss_nil))))))) (pss_one (ps_ret (pv 2))))), ?_⟩
    refine q_asgL (el_copy (evs_var rfl ha)) fun p H1 hp e1 h1 => ?_
    refine q_forLn (xs := ns.map V.int) (ev_var rfl) (ex_l e1 hb) (fun i σ' H' => Ex H H' ∧ ∃ (p : Addr) (ys : List Int) (y3 y4 : Option V), σ' = [some (.ref a), some (.ref b), some (.ref p), y3, y4] ∧ H p = none ∧ H' p = some (.lst (ys.map V.int)) ∧ ys.length ≤ xs.length + i) (fun H2 e2 => ⟨e1.trans e2, p, xs, none, none, rfl, hp, e2 _ _ h1, Nat.le_refl _⟩) (fun i σ' H' _ pv => ex_l pv.1 hb) ?_ ?_
    · rintro i v σ' H2 hv ⟨e2, p, ys, y3, y4, rfl, hp, h2, hyl⟩
      have hil := (List.getElem?_eq_some_iff.mp hv).1
      rw [List.length_map] at hil
      rw [List.getElem?_map] at hv
      obtain ⟨c, hc, rfl⟩ := Option.map_eq_some_iff.mp hv
      have hm : 0 < max 1 ys.length := by omega
      obtain ⟨j, hj, hjl⟩ := md_ok (a := c / 23) hm
      refine q_asg (v := .int (j : Nat)) (ev_is (ev_op (ev_op (ev_var (v := .int c) rfl) ev_c (rv_I ⟨by decide, by decide⟩)) (ev_is (ev_max2 ev_c (ev_lenInts (evs_var rfl (sq_of h2)))) (by rw [max_len])) (rv_I (by omega))) (by rw [hj])) fun H3 e3 => ?_
      have h3 := e3 _ _ h2
      have e23 := e2.trans e3
      refine q_ifJ (b := decide (c % 23 = 0)) (fun σ' H' => Ex H H' ∧ ∃ (p : Addr) (zs : List Int), σ' = [some (.ref a), some (.ref b), some (.ref p), some (.int c), some (.int (j : Nat))] ∧ H p = none ∧ H' p = some (.lst (zs.map V.int)) ∧ zs.length ≤ ys.length ∧ (c % 23 ≠ 0 → zs = ys)) (et_is (et_test (ev_op (ev_op (ev_var (v := .int c) rfl) ev_c (rv_I (by decide))) ev_c (rv_eq rfl))) (by rw [dec_int]; exact (decide_eq_decide.mpr Iff.rfl))) (fun hb1 H4 e4 D' hrt hnx => ?_) (fun hb1 H4 e4 D' hrt hnx => hnx _ _ ⟨e23.trans e4, p, ys, rfl, hp, e4 _ _ h3, Nat.le_refl _, fun _ => rfl⟩) ?_
      · have vF : EvS K (tVar 2) [some (.ref a), some (.ref b), some (.ref p), some (.int c), some (.int (j : Nat))] H4 (ys.map V.int) := evs_var rfl (sq_of (e4 _ _ h3))
        refine s_asgL (xs := (cutI ys none (some (j : Int)) ++ cutI ys (some ((j : Int) + 1)) none).map V.int) (EvL.is (el_catM (em_l (EvL.is (el_slS vF eo_none (eo_some (ev_var rfl))) (cutV_ints _ _ _))) (em_l (EvL.is (el_slS vF (eo_some (ev_op (ev_var (v := .int (j : Nat)) rfl) ev_c rv_I0)) eo_none) (cutV_ints _ _ _))) (by rw [List.length_map, List.length_map]; have := cutI_len ys none (some (j : Int)); have := cutI_len ys (some ((j : Int) + 1)) none; omega)) (by rw [List.map_append])) fun o H5 ho e5 h5 => hnx _ _ ⟨(e23.trans e4).trans e5, o, _, rfl, fresh_back (e23.trans e4) ho, h5, ?_, fun z => absurd (of_decide_eq_true hb1) z⟩
        unfold cutI
        rw [HT.sIx_none, HT.sIx_nat, HT.sIx_none, show ((j : Int) + 1) = ((j + 1 : Nat) : Int) by omega, HT.sIx_nat, List.length_append, List.length_take, List.length_take, List.length_drop, List.length_drop]
        by_cases h0 : ys.length = 0
        · omega
        · have : j < ys.length := by omega
          omega
      rintro σ' H4 ⟨e4, p, zs, rfl, hp, h4, hzl, hz0⟩
      refine q_ifJ (b := decide (c % 23 = 1)) (fun σ' H' => Ex H H' ∧ ∃ (p : Addr) (ws : List Int), σ' = [some (.ref a), some (.ref b), some (.ref p), some (.int c), some (.int (j : Nat))] ∧ H p = none ∧ H' p = some (.lst (ws.map V.int)) ∧ ws.length ≤ ys.length + 1 ∧ (c % 23 ≠ 0 → c % 23 ≠ 1 → ws = ys)) (et_is (et_test (ev_op (ev_op (ev_var (v := .int c) rfl) ev_c (rv_I (by decide))) ev_c (rv_eq rfl))) (by rw [dec_int]; exact (decide_eq_decide.mpr Iff.rfl))) (fun hb1 H5 e5 D' hrt hnx => ?_) (fun hb1 H5 e5 D' hrt hnx => hnx _ _ ⟨e4.trans e5, p, zs, rfl, hp, e5 _ _ h4, by omega, fun z _ => hz0 z⟩) ?_
      · have vF : EvS K (tVar 2) [some (.ref a), some (.ref b), some (.ref p), some (.int c), some (.int (j : Nat))] H5 (zs.map V.int) := evs_var rfl (sq_of (e5 _ _ h4))
        refine s_asgL (xs := ((cutI zs none (some (j : Int)) ++ [c / 121 % 9 - 1]) ++ cutI zs (some (j : Int)) none).map V.int) (EvL.is (el_catM (em_l (el_catM (em_l (EvL.is (el_slS vF eo_none (eo_some (ev_var rfl))) (cutV_ints _ _ _))) (em_l (el_lst (ea_cons (ev_op (ev_op (ev_op (ev_var (v := .int c) rfl) ev_c (rv_I ⟨by decide, by decide⟩)) ev_c (rv_I (by decide))) ev_c rv_I0) ea_nil) (show 1 ≤ 100000 by decide))) (by rw [List.length_map]; have := cutI_len zs none (some (j : Int)); simp; omega))) (em_l (EvL.is (el_slS vF (eo_some (ev_var rfl)) eo_none) (cutV_ints _ _ _))) (by rw [List.length_append, List.length_map, List.length_map]; have := cutI_len zs none (some (j : Int)); have := cutI_len zs (some (j : Int)) none; simp; omega)) (by rw [List.map_append, List.map_append]; rfl)) fun o H6 ho e6 h6 => hnx _ _ ⟨(e4.trans e5).trans e6, o, _, rfl, fresh_back (e4.trans e5) ho, h6, ?_, fun _ z => absurd (of_decide_eq_true hb1) z⟩
        unfold cutI
        rw [HT.sIx_none, HT.sIx_nat, HT.sIx_none, HT.sIx_nat, List.length_append, List.length_append, List.length_take, List.length_take, List.length_drop, List.length_drop]
        simp only [List.length_cons, List.length_nil]
        omega
      rintro σ' H5 ⟨e5, p, ws, rfl, hp, h5, hwl, hw0⟩
      refine q_ifJ (b := decide (c % 23 = 2) && !decide (ws = [])) (fun σ' H' => Ex H H' ∧ ∃ (us : List Int), σ' = [some (.ref a), some (.ref b), some (.ref p), some (.int c), some (.int (j : Nat))] ∧ H' p = some (.lst (us.map V.int)) ∧ us.length ≤ ys.length + 1 ∧ (c % 23 = 3 → us = ys)) (et_and (et_is (et_test (ev_op (ev_op (ev_var (v := .int c) rfl) ev_c (rv_I (by decide))) ev_c (rv_eq rfl))) (by rw [dec_int]; exact (decide_eq_decide.mpr Iff.rfl))) fun _ => et_test (ev_neInts (T := ws) (T' := []) (evs_var rfl (sq_of h5)) (els el_nil))) (fun hb1 H6 e6 D' hrt hnx => ?_) (fun hb1 H6 e6 D' hrt hnx => hnx _ _ ⟨e5.trans e6, ws, rfl, e6 _ _ h5, hwl, fun z => hw0 (by omega) (by omega)⟩) ?_
      · have hb1' : c % 23 = 2 ∧ ws ≠ [] := by simpa using hb1
        have hwy : ws = ys := hw0 (by omega) (by omega)
        have hjw : j < ws.length := by
          have := List.length_pos_iff.mpr hb1'.2
          rw [hwy] at this ⊢
          omega
        have h6 := e6 _ _ h5
        have vF : EvS K (tVar 2) [some (.ref a), some (.ref b), some (.ref p), some (.int c), some (.int (j : Nat))] H6 (ws.map V.int) := evs_var rfl (sq_of h6)
        refine s_setL (j := j) (v := .int (ws.getD j 0 + c / 121 % 3 - 1)) h6 (ev_op (ev_op (ev_ixLS vF (ev_var rfl) (atI_nat (int_at hjw))) (ev_op (ev_op (ev_var (v := .int c) rfl) ev_c (rv_I ⟨by decide, by decide⟩)) ev_c (rv_I (by decide))) rv_I0) ev_c rv_I0) (ev_var rfl) (ev_var rfl) (by rw [List.length_map]; exact hjw) fun H7 e7 => hnx _ _ ⟨Ex.mut ((e5.trans e6).trans e7) hp, ws.set j (ws.getD j 0 + c / 121 % 3 - 1), rfl, by rw [upd_same, List.map_set], by rw [List.length_set]; exact hwl, fun z => by omega⟩
      rintro σ' H6 ⟨e6, us, rfl, h6, hul, hu0⟩
      refine s_when (b := decide (c % 23 = 3) && !decide (us = [])) (et_and (et_is (et_test (ev_op (ev_op (ev_var (v := .int c) rfl) ev_c (rv_I (by decide))) ev_c (rv_eq rfl))) (by rw [dec_int]; exact (decide_eq_decide.mpr Iff.rfl))) fun _ => et_test (ev_neInts (T := us) (T' := []) (evs_var rfl (sq_of h6)) (els el_nil))) (fun hb1 H7 e7 => ?_) fun hb1 H7 e7 => ⟨e6.trans e7, p, us, _, _, rfl, hp, e7 _ _ h6, by omega⟩
      have hb1' : c % 23 = 3 ∧ us ≠ [] := by simpa using hb1
      have huy : us = ys := hu0 hb1'.1
      have hpos := List.length_pos_iff.mpr hb1'.2
      have hju : j < us.length := by
        rw [huy] at hpos ⊢
        omega
      have h7 := e7 _ _ h6
      have vF : EvS K (tVar 2) [some (.ref a), some (.ref b), some (.ref p), some (.int c), some (.int (j : Nat))] H7 (us.map V.int) := evs_var rfl (sq_of h7)
      refine eu_tup (ea_cons (ev_ixLS vF (i := ((0 : Nat) : Int)) ev_c (atI_nat (int_at hpos))) (ea_cons (ev_ixLS vF (ev_var rfl) (atI_nat (int_at hju))) ea_nil)) (show 2 ≤ 100000 by decide) H7 (Ex.refl H7) _ fun T H8 _ e8 hT => ?_
      have h8 := e8 _ _ h7
      refine ⟨T, _, rfl, st_of hT, rfl, _, _, rfl, ev_var rfl H8 (Ex.refl H8) _ fun H9 e9 => ev_var rfl H9 (Ex.refl H9) _ fun H10 e10 => ⟨p, us.map V.int, (j : Int), j, rfl, rfl, e10 _ _ (e9 _ _ h8), ixN_nat (by rw [List.length_map]; exact hju), ?_⟩⟩
      refine ⟨_, _, rfl, ev_var rfl _ (Ex.refl _) _ fun H11 e11 => ev_c _ (Ex.refl _) _ fun H12 e12 => ⟨p, (us.map V.int).set j (.int (us.getD 0 0)), ((0 : Nat) : Int), 0, rfl, rfl, e12 _ _ (e11 _ _ upd_same), ixN_nat (by rw [List.length_set, List.length_map]; exact hpos), ?_⟩⟩
      have e70 : Ex H (upd H10 p (.lst ((us.map V.int).set j (.int (us.getD 0 0))))) := Ex.mut ((((e6.trans e7).trans e8).trans e9).trans e10) hp
      exact ⟨rfl, Ex.mut ((e70.trans e11).trans e12) hp, p, (us.set j (us.getD 0 0)).set 0 (us.getD j 0), _, _, rfl, hp, by rw [upd_same, List.map_set, List.map_set], by rw [List.length_set, List.length_set]; omega⟩
    · rintro σ' H2 ⟨e2, p, ys, y3, y4, rfl, hp, h2, hyl⟩
      rw [List.length_map] at hyl
      exact s_ret (ev_var rfl) fun H3 e3 => q ys p H3 hyl hp (e2.trans e3) (e3 _ _ h2)

/-! ### _law_lists_right -/
def sp_law_lists_right (K : PySem.W.Frag) : Sp := fun vs H Q _ => ∃ (a b : Addr) (T : Tb) (ns : List Int), vs = [.ref a, .ref b] ∧ At K H a T T.length ∧ T.length ≤ 20 ∧ SqL K H b (ns.map V.int) ∧ ns.length ≤ 63 ∧ LamX.Tabs (tabsL K) H ∧ ∀ H', Xn (tabsL K) H H' → Q (.bl true) H'
theorem cal__law_lists_right (T : Tx K mg) (B : Tbl K mg base) : C8.Cal P w K mg base (5 + 1) "_law_lists_right" (sp_law_lists_right K) [] := by
  refine T.d__law_lists_right.cal sc_law_lists_right (fun _ _ _ _ _ _ us hl => match us, hl with | [_, _], _ => rfl) ?_ ?_
  · rintro vs H Q E ⟨a, b, T, ns, rfl, _⟩; rfl
  · rintro f cdv A outer s H vs Q E hr ⟨a, b, Tb, ns, rfl, hT, hz, hs, hn, hTs, q⟩
    refine ⟨(tSeq (tPar 2 3 (tCons (tCall (sp_steps K) [] C8.E0 (tCons (tVar 0) tNil)) (tCons (tCall (sp_stretches K) [] C8.E0 (tCons (tVar 0) tNil)) tNil))) (tSeq (tPar 5 6 (tCons (tLc (iList K (tVar 0)) (gName 4) tYes (tC (.int 0)) [4]) (tCons (tLc (iList K (tVar 0)) (gName 4) tYes (tCB (rLn K) (tCons (tVar 4) tNil)) [4]) tNil))) (tSeq (tIfS (tB (tCB (rIsi K) (tCons (tVar 2) (tCons (tC (.ref (He.ga K "Steps"))) tNil)))) (tPar 5 6 (tCons (tFld K (tVar 2) "rows") (tCons (tFld K (tVar 2) "columns") tNil))) tNext) (tSeq (tFor (iList K (tLst (tCons (tTup (tCons (tVar 5) (tCons (tVar 6) tNil))) (tCons (tTup (tCons (tCall (sp_law_bent K) [] C8.E0 (tCons (tVar 5) (tCons (tVar 1) tNil))) (tCons (tVar 6) tNil))) (tCons (tTup (tCons (tVar 5) (tCons (tCall (sp_law_bent K) [] C8.E0 (tCons (tVar 6) (tCons (tVar 1) tNil))) tNil))) tNil))))) (gTup K 2 (gCons (gName 7) (gCons (gName 8) gNil))) (tSeq (tAsg (tLst (tCons (tCB (rLs K) (tCons (tVar 7) tNil)) (tCons (tCB (rLs K) (tCons (tVar 8) tNil)) tNil))) (gName 9)) (tSeq (tAsg (tMake (gaK K .steps) (sp_init K .steps) [] C8.E0 (tCons (tOp (rIxL K) (tVar 9) (tC (.int 0))) (tCons (tOp (rIxL K) (tVar 9) (tC (.int 1))) tNil))) (gName 10)) (tSeq (tDrop (tBM K "list" rAppend (tOp (rIxL K) (tVar 9) (tC (.int 0))) (tCons (tC (.int 0)) tNil))) (tSeq (tDrop (tBM K "list" rAppend (tOp (rIxL K) (tVar 9) (tC (.int 1))) (tCons (tC (.int 0)) tNil))) (tSeq (tIfS (tOr (tTest (tOp (rNeD K) (tFld K (tVar 10) "rows") (tVar 7))) (tTest (tOp (rNeD K) (tFld K (tVar 10) "columns") (tVar 8)))) (tRet (tC (.bl false))) tNext) (tIfS (tNot (tB (tCall (sp_law_says K) [] C8.E0 (tCons (tMeth (gaK K .steps) "shows" (sp_shows K .steps) [] C8.E0 (tVar 10) (tCons (tVar 0) tNil)) (tCons (tCall (sp_law_steps K) [] C8.E0 (tCons (tVar 0) (tCons (tVar 7) (tCons (tVar 8) tNil)))) tNil))))) (tRet (tC (.bl false))) tNext))))))) (tSeq (tPar3 11 12 13 (tCons (tVar 5) (tCons (tVar 5) (tCons (tSl (rSlL K) (tVar 5) tNoPart (tPart (tC (.int 1)))) tNil)))) (tSeq (tIfS (tB (tCB (rIsi K) (tCons (tVar 3) (tCons (tC (.ref (He.ga K "Stretches"))) tNil)))) (tPar3 11 12 13 (tCons (tFld K (tVar 3) "begins") (tCons (tFld K (tVar 3) "ends") (tCons (tFld K (tVar 3) "unlike") tNil)))) tNext) (tSeq (tAsg (tLc (iList K (tVar 11)) (gName 14) tYes (tOp rMulI (tC (.int 2)) (tVar 14)) [14]) (gName 15)) (tSeq (tAsg (tLc (iList K (tVar 12)) (gName 16) tYes (tOp rAddI (tOp rMulI (tC (.int 2)) (tVar 16)) (tC (.int 1))) [16]) (gName 17)) (tSeq (tAsg (tLst (tCons (tTup (tCons (tVar 11) (tCons (tVar 12) (tCons (tVar 13) tNil)))) (tCons (tTup (tCons (tVar 15) (tCons (tVar 17) (tCons (tSl3 K (tVar 13) tNoPart tNoPart (tPart (tUn rNegI (tC (.int 1))))) tNil)))) (tCons (tTup (tCons (tCall (sp_law_bent K) [] C8.E0 (tCons (tVar 11) (tCons (tVar 1) tNil))) (tCons (tVar 12) (tCons (tVar 13) tNil)))) tNil)))) (gName 7)) (tSeq (tAsg (tOp rCat (tVar 7) (tLst (tCons (tTup (tCons (tVar 11) (tCons (tCall (sp_law_bent K) [] C8.E0 (tCons (tVar 12) (tCons (tVar 1) tNil))) (tCons (tVar 13) tNil)))) (tCons (tTup (tCons (tVar 11) (tCons (tVar 12) (tCons (tCall (sp_law_bent K) [] C8.E0 (tCons (tVar 13) (tCons (tVar 1) tNil))) tNil)))) tNil)))) (gName 7)) (tSeq (tFor (iList K (tOp rCat (tVar 7) (tLst (tCons (tTup (tCons (tVar 11) (tCons (tVar 12) (tCons (tOp rCat (tSl (rSlL K) (tVar 13) tNoPart (tPart (tUn rNegI (tC (.int 1))))) (tSl (rSlL K) (tVar 13) tNoPart (tPart (tC (.int 1))))) tNil)))) (tCons (tTup (tCons (tVar 11) (tCons (tVar 11) (tCons (tVar 13) tNil)))) tNil))))) (gTup K 3 (gCons (gName 18) (gCons (gName 19) (gCons (gName 20) gNil)))) (tSeq (tAsg (tLst (tCons (tCB (rLs K) (tCons (tVar 18) tNil)) (tCons (tCB (rLs K) (tCons (tVar 19) tNil)) (tCons (tCB (rLs K) (tCons (tVar 20) tNil)) tNil)))) (gName 9)) (tSeq (tAsg (tMake (gaK K .stretches) (sp_init K .stretches) [] C8.E0 (tCons (tOp (rIxL K) (tVar 9) (tC (.int 0))) (tCons (tOp (rIxL K) (tVar 9) (tC (.int 1))) (tCons (tOp (rIxL K) (tVar 9) (tC (.int 2))) tNil)))) (gName 10)) (tSeq (tFor (iList K (tVar 9)) (gName 21) (tDrop (tBM K "list" rAppend (tVar 21) (tCons (tC (.int 0)) tNil)))) (tSeq (tIfS (tTest (tOp (rNeD K) (tLst (tCons (tFld K (tVar 10) "begins") (tCons (tFld K (tVar 10) "ends") (tCons (tFld K (tVar 10) "unlike") tNil)))) (tLst (tCons (tVar 18) (tCons (tVar 19) (tCons (tVar 20) tNil)))))) (tRet (tC (.bl false))) tNext) (tIfS (tNot (tB (tCall (sp_law_says K) [] C8.E0 (tCons (tMeth (gaK K .stretches) "shows" (sp_shows K .stretches) [] C8.E0 (tVar 10) (tCons (tVar 0) tNil)) (tCons (tCall (sp_law_stretches K) [] C8.E0 (tCons (tVar 0) (tCons (tVar 18) (tCons (tVar 19) (tCons (tVar 20) tNil))))) tNil))))) (tRet (tC (.bl false))) tNext)))))) (tRet (tC (.bl true)))))))))))))), (pss_cons (ps_par (i := 2) (j := 3) rfl sc_law_lists_right.nd rfl rfl (by decide) rfl rfl (pa_cons (C8.pe_c (cal_steps T B) hr (by decide) (by rfl) (pa_cons (pv 0) pa_nil)) (pa_cons (C8.pe_c (cal_stretches T B) hr (by decide) (by rfl) (pa_cons (pv 0) pa_nil)) pa_nil)) (by rfl)) (pss_cons (ps_par (i := 5) (j := 6) rfl sc_law_lists_right.nd rfl rfl (by decide) rfl rfl (pa_cons (pe_lc (own := [("_law_row", 4)]) rfl sc_law_lists_right.nd (pi_list (pv 0)) (blkOk_by (own := [("_law_row", 4)]) (by kernel_rfl)) (fun _ _ _ _ _ => (pg_name (i := 4) sc_law_lists_right.nd rfl (Or.inl rfl))) (fun _ _ _ _ _ => pts_nil) (fun _ _ _ _ _ => pe_int)) (pa_cons (pe_lc (own := [("_law_row", 4)]) rfl sc_law_lists_right.nd (pi_list (pv 0)) (blkOk_by (own := [("_law_row", 4)]) (by kernel_rfl)) (fun _ _ _ _ _ => (pg_name (i := 4) sc_law_lists_right.nd rfl (Or.inl rfl))) (fun _ _ _ _ _ => pts_nil) (fun _ _ _ _ _ => (pe_callB (id := "len") cl_len (by rfl) T.len (by decide +kernel) (pa_cons (pv 4) pa_nil)))) pa_nil)) (by rfl)) (pss_cons (ps_if (pt_val (pe_callB (id := "isinstance") call_isi (by rfl) T.isinstance (by decide +kernel) (pa_cons (pv 2) (pa_cons (pe_glob (by rfl) T.g_Steps rfl) pa_nil)))) (pss_one (ps_par (i := 5) (j := 6) rfl sc_law_lists_right.nd rfl rfl (by decide) rfl rfl (pa_cons (pe_fld (pv 2) rfl) (pa_cons (pe_fld (pv 2) rfl) pa_nil)) (by rfl))) pss_nil) (pss_cons (ps_for PassesOwn.never rfl (pi_list (pe_lst (pa_cons (pe_tup (pa_cons (pv 5) (pa_cons (pv 6) pa_nil))) (pa_cons (pe_tup (pa_cons (C8.pe_c (cal__law_bent T) hr (by decide) (by rfl) (pa_cons (pv 5) (pa_cons (pv 1) pa_nil))) (pa_cons (pv 6) pa_nil))) (pa_cons (pe_tup (pa_cons (pv 5) (pa_cons (C8.pe_c (cal__law_bent T) hr (by decide) (by rfl) (pa_cons (pv 6) (pa_cons (pv 1) pa_nil))) pa_nil))) pa_nil))))) (pg_tup rfl (pgs_cons (pg_name (i := 7) sc_law_lists_right.nd rfl (Or.inl rfl)) (pgs_cons (pg_name (i := 8) sc_law_lists_right.nd rfl (Or.inl rfl)) pgs_nil))) (pss_cons (ps_set (i := 9) sc_law_lists_right.nd rfl (Or.inl rfl) (pe_lst (pa_cons (pe_callTy (T := "list") cl_list (by rfl) T.list (by decide +kernel) (pa_cons (pv 7) pa_nil)) (pa_cons (pe_callTy (T := "list") cl_list (by rfl) T.list (by decide +kernel) (pa_cons (pv 8) pa_nil)) pa_nil)))) (pss_cons (ps_set (i := 10) sc_law_lists_right.nd rfl (Or.inl rfl) (C8.pe_mk (mak_Steps T) hr (by decide) (by rfl) (pa_cons (pe_ix ix_list (pv 9) pe_int (fun _ _ => rfl)) (pa_cons (pe_ix ix_list (pv 9) pe_int (fun _ _ => rfl)) pa_nil)))) (pss_cons (ps_expr (pe_bm PySem.F.plainAttrs_list PySem.F.slot_list_append PySem.F.type_list_append mt_append (pe_ix ix_list (pv 9) pe_int (fun _ _ => rfl)) (pa_cons pe_int pa_nil))) (pss_cons (ps_expr (pe_bm PySem.F.plainAttrs_list PySem.F.slot_list_append PySem.F.type_list_append mt_append (pe_ix ix_list (pv 9) pe_int (fun _ _ => rfl)) (pa_cons pe_int pa_nil))) (pss_cons (ps_if (PW.pt (pw_or (pt_cmpR (op_neD hr.units) (pe_fld (pv 10) rfl) (pv 7) (nomark _)) (pw_or1 (pt_cmpR (op_neD hr.units) (pe_fld (pv 10) rfl) (pv 8) (nomark _))))) (pss_one (ps_ret pe_bl)) pss_nil) (pss_one (ps_if (pt_not (pt_val (C8.pe_c (cal__law_says T) hr (by decide) (by rfl) (pa_cons (C8.pe_mt (met_Steps T) hr (by decide) (pv 10) (pa_cons (pv 0) pa_nil)) (pa_cons (C8.pe_c (cal__law_steps T) hr (by decide) (by rfl) (pa_cons (pv 0) (pa_cons (pv 7) (pa_cons (pv 8) pa_nil)))) pa_nil))))) (pss_one (ps_ret pe_bl)) pss_nil)))))))) (pss_cons (ps_par3 (i := 11) (j := 12) (l := 13) rfl sc_law_lists_right.nd rfl rfl rfl (by decide) (by decide) (by decide) rfl rfl rfl (pa_cons (pv 5) (pa_cons (pv 5) (pa_cons (pe_slice sl_list (pv 5) po_none (po_some pe_int)) pa_nil))) (by rfl)) (pss_cons (ps_if (pt_val (pe_callB (id := "isinstance") call_isi (by rfl) T.isinstance (by decide +kernel) (pa_cons (pv 3) (pa_cons (pe_glob (by rfl) T.g_Stretches rfl) pa_nil)))) (pss_one (ps_par3 (i := 11) (j := 12) (l := 13) rfl sc_law_lists_right.nd rfl rfl rfl (by decide) (by decide) (by decide) rfl rfl rfl (pa_cons (pe_fld (pv 3) rfl) (pa_cons (pe_fld (pv 3) rfl) (pa_cons (pe_fld (pv 3) rfl) pa_nil))) (by rfl))) pss_nil) (pss_cons (ps_setLc (i := 15) (own := [("_law_begin", 14)]) rfl sc_law_lists_right.nd rfl rfl (sw_true rfl rfl rfl (by decide +kernel)) (pi_list (pv 11)) (blkOk_by (own := [("_law_begin", 14)]) (by kernel_rfl)) (fun _ _ _ _ _ => (pg_name (i := 14) sc_law_lists_right.nd rfl (Or.inl rfl))) (fun _ _ _ _ _ => pts_nil) (fun _ _ _ _ _ => (pe_op op_mul pe_int (pv 14)))) (pss_cons (ps_setLc (i := 17) (own := [("_law_end", 16)]) rfl sc_law_lists_right.nd rfl rfl (sw_true rfl rfl rfl (by decide +kernel)) (pi_list (pv 12)) (blkOk_by (own := [("_law_end", 16)]) (by kernel_rfl)) (fun _ _ _ _ _ => (pg_name (i := 16) sc_law_lists_right.nd rfl (Or.inl rfl))) (fun _ _ _ _ _ => pts_nil) (fun _ _ _ _ _ => (pe_op op_add (pe_op op_mul pe_int (pv 16)) pe_int))) (pss_cons (ps_set (i := 7) sc_law_lists_right.nd rfl (Or.inl rfl) (pe_lst (pa_cons (pe_tup (pa_cons (pv 11) (pa_cons (pv 12) (pa_cons (pv 13) pa_nil)))) (pa_cons (pe_tup (pa_cons (pv 15) (pa_cons (pv 17) (pa_cons (pe_slice3 (pv 13) po_none po_none (po_some (pe_un un_neg pe_int))) pa_nil)))) (pa_cons (pe_tup (pa_cons (C8.pe_c (cal__law_bent T) hr (by decide) (by rfl) (pa_cons (pv 11) (pa_cons (pv 1) pa_nil))) (pa_cons (pv 12) (pa_cons (pv 13) pa_nil)))) pa_nil))))) (pss_cons (ps_set (i := 7) sc_law_lists_right.nd rfl (Or.inl rfl) (pe_op op_cat (pv 7) (pe_lst (pa_cons (pe_tup (pa_cons (pv 11) (pa_cons (C8.pe_c (cal__law_bent T) hr (by decide) (by rfl) (pa_cons (pv 12) (pa_cons (pv 1) pa_nil))) (pa_cons (pv 13) pa_nil)))) (pa_cons (pe_tup (pa_cons (pv 11) (pa_cons (pv 12) (pa_cons (C8.pe_c (cal__law_bent T) hr (by decide) (by rfl) (pa_cons (pv 13) (pa_cons (pv 1) pa_nil))) pa_nil)))) pa_nil))))) (pss_cons (ps_for PassesOwn.never rfl (pi_list (pe_op op_cat (pv 7) (pe_lst (pa_cons (pe_tup (pa_cons (pv 11) (pa_cons (pv 12) (pa_cons (pe_op op_cat (pe_slice sl_list (pv 13) po_none (po_some (pe_un un_neg pe_int))) (pe_slice sl_list (pv 13) po_none (po_some pe_int))) pa_nil)))) (pa_cons (pe_tup (pa_cons (pv 11) (pa_cons (pv 11) (pa_cons (pv 13) pa_nil)))) pa_nil))))) (pg_tup rfl (pgs_cons (pg_name (i := 18) sc_law_lists_right.nd rfl (Or.inl rfl)) (pgs_cons (pg_name (i := 19) sc_law_lists_right.nd rfl (Or.inl rfl)) (pgs_cons (pg_name (i := 20) sc_law_lists_right.nd rfl (Or.inl rfl)) pgs_nil)))) (pss_cons (ps_set (i := 9) sc_law_lists_right.nd rfl (Or.inl rfl) (pe_lst (pa_cons (pe_callTy (T := "list") cl_list (by rfl) T.list (by decide +kernel) (pa_cons (pv 18) pa_nil)) (pa_cons (pe_callTy (T := "list") cl_list (by rfl) T.list (by decide +kernel) (pa_cons (pv 19) pa_nil)) (pa_cons (pe_callTy (T := "list") cl_list (by rfl) T.list (by decide +kernel) (pa_cons (pv 20) pa_nil)) pa_nil))))) (pss_cons (ps_set (i := 10) sc_law_lists_right.nd rfl (Or.inl rfl) (C8.pe_mk (mak_Stretches T) hr (by decide) (by rfl) (pa_cons (pe_ix ix_list (pv 9) pe_int (fun _ _ => rfl)) (pa_cons (pe_ix ix_list (pv 9) pe_int (fun _ _ => rfl)) (pa_cons (pe_ix ix_list (pv 9) pe_int (fun _ _ => rfl)) pa_nil))))) (pss_cons (ps_for PassesOwn.never rfl (pi_list (pv 9)) (pg_name (i := 21) sc_law_lists_right.nd rfl (Or.inl rfl)) (pss_one (ps_expr (pe_bm PySem.F.plainAttrs_list PySem.F.slot_list_append PySem.F.type_list_append mt_append (pv 21) (pa_cons pe_int pa_nil))))) (pss_cons (ps_if (pt_cmpR (op_neD hr.units) (pe_lst (pa_cons (pe_fld (pv 10) rfl) (pa_cons (pe_fld (pv 10) rfl) (pa_cons (pe_fld (pv 10) rfl) pa_nil)))) (pe_lst (pa_cons (pv 18) (pa_cons (pv 19) (pa_cons (pv 20) pa_nil)))) (nomark _)) (pss_one (ps_ret pe_bl)) pss_nil) (pss_one (ps_if (pt_not (pt_val (C8.pe_c (cal__law_says T) hr (by decide) (by rfl) (pa_cons (C8.pe_mt (met_Stretches T) hr (by decide) (pv 10) (pa_cons (pv 0) pa_nil)) (pa_cons (C8.pe_c (cal__law_stretches T) hr (by decide) (by rfl) (pa_cons (pv 0) (pa_cons (pv 18) (pa_cons (pv 19) (pa_cons (pv 20) pa_nil))))) pa_nil))))) (pss_one (ps_ret pe_bl)) pss_nil))))))) (pss_one (ps_ret pe_bl))))))))))))), ?_⟩
    refine q_parN (eoptN_call (T := Tb) hTs (ea_cons (ev_var rfl) ea_nil) fun H2 e2 => ⟨a, rfl, (hT.mono e2).nrm⟩) id (fun H1 x1 => eoptN_call (T := Tb) (x1.2 hTs) (ea_cons (ev_var rfl) ea_nil) fun H2 e2 => ⟨a, rfl, (hT.xn x1).mono e2, by omega⟩) id fun ans x H0 H1 ans2 y H2 H3 hg hg2 x0 e1 hA x2 e3 hA2 => ?_
    have x3 : Xn (tabsL K) H H3 := (x0.trans (xn_of e1)).trans (x2.trans (xn_of e3))
    have hA : AnsAt K H0 H3 x ans := (hA.xn x2).mono e3
    have hT3 := hT.xn x3
    have hs3 := xn_l x3 hs
    have hln := hT.ln
    have hk1 : ans.kd = .steps ∨ ans.kd = .cross := hg.1
    have hk2 : ans2.kd = .stretches ∨ ans2.kd = .self ∨ ans2.kd = .cross := hg2.1
    have F1 : ClsF K (gaK K ans.kd) := by
      have := T.kf.cls ans.kd
      rcases hk1 with h | h <;> rw [h] at this ⊢
      · exact clsB_ok T.cl_Steps this
      · exact clsB_ok T.cl_Cross this
    have F2 : ClsF K (gaK K ans2.kd) := by
      have := T.kf.cls ans2.kd
      rcases hk2 with h | h | h <;> rw [h] at this ⊢
      · exact clsB_ok T.cl_Stretches this
      · exact clsB_ok T.cl_Self this
      · exact clsB_ok T.cl_Cross this
    replace q : ∀ H', Ex H3 H' → Q (.bl true) H' := fun H' e => q H' (x3.trans (xn_of e))
    clear hTs x0 x2 x3 hT hs
    -- rows, columns
    refine q_parLL (xs := (Tb.map fun _ => (0 : Int)).map V.int) (ys := (Tb.map fun r => ((r.length : Nat) : Int)).map V.int) (EvL.is (el_map (l := Tb) (g := fun r => V.str (rs r)) (f := fun _ => V.int 0) (evs_var rfl hT3.sq) (by omega) (fun _ => rfl) fun _ _ => ev_c) (by rw [List.map_map]; rfl))
      (EvL.is (el_map (l := Tb) (g := fun r => V.str (rs r)) (f := fun r => V.int (r.length : Nat)) (evs_var rfl hT3.sq) (by omega) (fun _ => rfl) fun r hr => ev_lenRow (ev_var rfl) (by have := hT3.rect r hr; omega)) (by rw [List.map_map]; rfl)) fun p p' H4 e4 hp hp' => ?_
    refine q_ifJ (fun σ' H' => Ex H3 H' ∧ ∃ (p p' : Addr) (r c : List Int), σ' = [some (.ref a), some (.ref b), some (.ref x), some (.ref y), none, some (.ref p), some (.ref p'), none, none, none, none, none, none, none, none, none, none, none, none, none, none, none] ∧ SqL K H' p (r.map V.int) ∧ SqL K H' p' (c.map V.int) ∧ r.length ≤ 20 ∧ c.length ≤ 20) (et_B (ev_isA (c := .steps) F1 T.kf (ev_var rfl) (hA.mono e4))) (fun hb H5 e5 D' hrt hnx => ?_) (fun hb H5 e5 D' hrt hnx => hnx _ _ ⟨e4.trans e5, p, p', _, _, rfl, sq_of (e5 _ _ hp), sq_of (e5 _ _ hp'), by rw [List.length_map]; exact hz, by rw [List.length_map]; exact hz⟩) ?_
    · have e45 := e4.trans e5
      match ans, hA, of_decide_eq_true hb, hg with
      | .steps r c, ⟨l, m, hI, hl, hm, _⟩, _, hg =>
        have hst : stepsOk r c Tb = true := hg.2
        unfold stepsOk at hst
        simp only [Bool.and_eq_true, decide_eq_true_eq] at hst
        refine s_parA (x := .ref l) (y := .ref m) (ea_cons (ev_fld (ev_var rfl) (hI.mono e45) T.cl_Steps T.n_Steps_rows rfl) (ea_cons (ev_fld (ev_var rfl) (hI.mono e45) T.cl_Steps T.n_Steps_columns rfl) ea_nil)) fun H6 e6 => hnx _ _ ⟨e45.trans e6, l, m, r, c, rfl, sq_of (hl.mono (e45.trans e6)).2, sq_of (hm.mono (e45.trans e6)).2, by omega, ?_⟩
        have : width Tb ≤ Tb.length := by rw [width_sq hT3.rect]; exact Nat.le_refl _
        omega
    rintro σ' H5 ⟨e5, p, p', r, c, rfl, hp, hp', hrl, hcl⟩
    have hs5 := ex_l e5 hs3
    -- steps by hand
    refine q_forTl (K := K) (k := 500) (n := 2) (m := 3) (etl_lst (ets_cons (etp (ebs_cons (evb_s (ns := r) (evs_var rfl hp) (by omega)) (ebs_cons (evb_s (ns := c) (evs_var rfl hp') (by omega)) ebs_nil)) (by decide)) (ets_cons (etp (ebs_cons (evb_bent (xs := r) (ns := ns) (evs_var rfl hp) (evs_var rfl hs5) (by omega) hn (by omega)) (ebs_cons (evb_s (ns := c) (evs_var rfl hp') (by omega)) ebs_nil)) (by decide))
      (ets_cons (etp (ebs_cons (evb_s (ns := r) (evs_var rfl hp) (by omega)) (ebs_cons (evb_bent (xs := c) (ns := ns) (evs_var rfl hp') (evs_var rfl hs5) (by omega) hn (by omega)) ebs_nil)) (by decide)) ets_nil))) (by decide))
      (fun σ' => ∃ y7 y8 y9 y10, σ' = [some (.ref a), some (.ref b), some (.ref x), some (.ref y), none, some (.ref p), some (.ref p'), y7, y8, y9, y10, none, none, none, none, none, none, none, none, none, none, none]) ⟨_, _, _, _, rfl⟩ ?_ ?_
    · rintro v σ' H6 e6 hv ⟨y7, y8, y9, y10, rfl⟩ D' hrt hnx
      have hT6 := hT3.mono (e5.trans e6)
      refine g_tup2 hv fun w w' r' c' hw hw' hrl' hcl' => ?_
      refine q_asgLL (el_copy (evs_var rfl hw)) (el_copy (evs_var rfl hw')) fun R u u' H7 fR fu fu' e7 hR hu hu' n1 n2 n3 => ?_
      refine q_asgO (eo_make (ans := .steps r' c') (ear_l (evs (ev_ixLS (evs_var rfl (sq_of hR)) (i := ((0 : Nat) : Int)) ev_c (atI_nat rfl)) (sq_of hu)) (ear_l (evs (ev_ixLS (evs_var rfl (sq_of hR)) (i := ((1 : Nat) : Int)) ev_c (atI_nat rfl)) (sq_of hu')) ear_nil)) rfl) fun z H8 hz8 e8 hA8 => ?_
      have e68 := e7.trans e8
      refine q_app (l := u) (xs := r'.map V.int) (e8 _ _ hu) (ev_ixLS (evs_var rfl (sq_of (e8 _ _ hR))) (i := ((0 : Nat) : Int)) ev_c (atI_nat rfl)) ev_c (by rw [List.length_map]; omega) fun H9 e9 => ?_
      have eK1 : Ex H6 (upd H9 u (.lst (r'.map V.int ++ [.int 0]))) := Ex.mut (e68.trans e9) fu
      have hA9 : AnsAt K H7 (upd H9 u (.lst (r'.map V.int ++ [.int 0]))) z (.steps r' c') := (hA8.mono e9).old hu (e9 _ _ (e8 _ _ hu))
      have hR9 : upd H9 u (.lst (r'.map V.int ++ [.int 0])) R = some (.lst [.ref u, .ref u']) := by rw [upd_ne (Ne.symm n2)]; exact e9 _ _ (e8 _ _ hR)
      have hu9 : upd H9 u (.lst (r'.map V.int ++ [.int 0])) u' = some (.lst (c'.map V.int)) := by rw [upd_ne (Ne.symm n1)]; exact e9 _ _ (e8 _ _ hu')
      revert hA9 hR9 hu9 eK1
      generalize upd H9 u (.lst (r'.map V.int ++ [.int 0])) = K1
      intro eK1 hA9 hR9 hu9
      refine q_app (l := u') (xs := c'.map V.int) hu9 (ev_ixLS (evs_var rfl (sq_of hR9)) (i := ((1 : Nat) : Int)) ev_c (atI_nat rfl)) ev_c (by rw [List.length_map]; omega) fun H10 e10 => ?_
      have eK2 : Ex H6 (upd H10 u' (.lst (c'.map V.int ++ [.int 0]))) := Ex.mut (eK1.trans e10) fu'
      have hA10 : AnsAt K H7 (upd H10 u' (.lst (c'.map V.int ++ [.int 0]))) z (.steps r' c') := (hA9.mono e10).old hu' (e10 _ _ hu9)
      revert hA10 eK2
      generalize upd H10 u' (.lst (c'.map V.int ++ [.int 0])) = K2
      intro eK2 hA10
      obtain ⟨l, m, hI, hl, hm, _⟩ := id hA10
      refine q_when (b := false) (et_is (et_or (et_test (ev_neInts (T := r') (T' := r') (evs_fld (ev_var rfl) hI T.cl_Steps T.n_Steps_rows rfl hl) (evs_var rfl (ex_l eK2 hw)))) fun _ => et_test (ev_neInts (T := c') (T' := c') (evs_fld (ev_var rfl) hI T.cl_Steps T.n_Steps_columns rfl hm) (evs_var rfl (ex_l eK2 hw')))) (by simp)) (fun hb => nomatch hb) fun _ H11 e11 => ?_
      have eK3 := eK2.trans e11
      exact s_when (b := false) (et_is (et_not (et_B (ev_says (a := stepsOk r' c' Tb) (b := stepsOk r' c' Tb) (ev_shows (k := .steps) (ev_var rfl) rfl (hA10.mono e11) (ev_var rfl) (hT6.mono eK3) trivial) (ev_lawSteps (hT6.mono eK3) (ev_var rfl) (evs_var rfl (ex_l eK3 hw)) (evs_var rfl (ex_l eK3 hw')))))) (by simp)) (fun hb => nomatch hb) fun _ H12 e12 => hnx _ _ (eK3.trans e12) ⟨_, _, _, _, rfl⟩
    rintro σ' H6 e6 ⟨y7, y8, y9, y10, rfl⟩
    have e56 := e5.trans e6
    have hp6 := ex_l e6 hp
    refine q_par3B (k := 20) (ebs_cons (evb_s (ns := r) (evs_var rfl hp6) hrl) (ebs_cons (evb_s (ns := r) (evs_var rfl hp6) hrl) (ebs_cons (evb_s (ns := cutI r none (some ((1 : Nat) : Int))) (els (EvL.is (el_slS (evs_var rfl hp6) eo_none (eo_some ev_c)) (cutV_ints _ _ _))) (Nat.le_trans (cutI_len _ _ _) hrl)) ebs_nil))) fun w w' w'' b0 e0 u0 H7 e7 hw hw' hw'' hb0 he0 hu0 => ?_
    refine q_ifJ (fun σ' H' => Ex H3 H' ∧ ∃ (w w' w'' : Addr) (be en un : List Int), σ' = [some (.ref a), some (.ref b), some (.ref x), some (.ref y), none, some (.ref p), some (.ref p'), y7, y8, y9, y10, some (.ref w), some (.ref w'), some (.ref w''), none, none, none, none, none, none, none, none] ∧ SqL K H' w (be.map V.int) ∧ SqL K H' w' (en.map V.int) ∧ SqL K H' w'' (un.map V.int) ∧ be.length ≤ 20 ∧ en.length ≤ 20 ∧ un.length ≤ 20) (et_B (ev_isA (c := .stretches) F2 T.kf (ev_var rfl) (hA2.mono (e56.trans e7)))) (fun hb H8 e8 D' hrt hnx => ?_) (fun hb H8 e8 D' hrt hnx => hnx _ _ ⟨(e56.trans e7).trans e8, w, w', w'', b0, e0, u0, rfl, ex_l e8 hw, ex_l e8 hw', ex_l e8 hw'', hb0, he0, hu0⟩) ?_
    · have e38 := (e56.trans e7).trans e8
      match ans2, hA2, of_decide_eq_true hb, hg2 with
      | .stretches be en un, ⟨l, m, n, hI, hl, hm, hn', _⟩, _, hg2 =>
        have hub := stretches_ub (show stretchesOk be en un Tb = true from hg2.2)
        have hlen := stretches_len (show stretchesOk be en un Tb = true from hg2.2)
        exact s_par3B (k := 20) (ebs_cons (evb_s (ns := be) (evs_fld (ev_var rfl) (hI.mono e38) T.cl_Stretches T.n_Stretches_begins rfl (hl.mono e38)) (by omega)) (ebs_cons (evb_s (ns := en) (evs_fld (ev_var rfl) (hI.mono e38) T.cl_Stretches T.n_Stretches_ends rfl (hm.mono e38)) (by omega)) (ebs_cons (evb_s (ns := un) (evs_fld (ev_var rfl) (hI.mono e38) T.cl_Stretches T.n_Stretches_unlike rfl (hn'.mono e38)) (by omega)) ebs_nil))) fun w w' w'' b1 e1 u1 H9 e9 h1 h2 h3 l1 l2 l3 => hnx _ _ ⟨e38.trans e9, w, w', w'', b1, e1, u1, rfl, h1, h2, h3, l1, l2, l3⟩
    rintro σ' H8 ⟨e8, w, w', w'', be, en, un, rfl, hw, hw', hw'', hbl, hel, hul⟩
    refine q_asgL (EvL.is (el_map (l := be) (g := V.int) (f := fun z => V.int (2 * z)) (evs_var rfl hw) (by omega) (fun _ => rfl) fun z _ => ev_op ev_c (ev_var rfl) (rv_I (.inl ⟨by decide, by decide⟩))) (show _ = (be.map fun z => 2 * z).map V.int by rw [List.map_map]; rfl)) fun t H9 ht e9 h9 => ?_
    refine q_asgL (EvL.is (el_map (l := en) (g := V.int) (f := fun z => V.int (2 * z + 1)) (evs_var rfl (ex_l e9 hw')) (by omega) (fun _ => rfl) fun z _ => ev_op (ev_op ev_c (ev_var rfl) (rv_I (.inl ⟨by decide, by decide⟩))) ev_c rv_I0) (show _ = (en.map fun z => 2 * z + 1).map V.int by rw [List.map_map]; rfl)) fun t' H10 ht' e10 h10 => ?_
    have e810 := e9.trans e10
    have h9' := e10 _ _ h9
    have e310 := e8.trans e810
    have hs10 := ex_l e310 hs3
    have tb : ∀ {σ : L2.St} (H' : Hp), Ex H10 H' → σ[11]? = some (some (.ref w)) → EvB K (tVar 11) σ H' 500 := fun H' e h => evb_s (ns := be) (evs_var h (ex_l (e810.trans e) hw)) (by omega)
    have te : ∀ {σ : L2.St} (H' : Hp), Ex H10 H' → σ[12]? = some (some (.ref w')) → EvB K (tVar 12) σ H' 500 := fun H' e h => evb_s (ns := en) (evs_var h (ex_l (e810.trans e) hw')) (by omega)
    have tu : ∀ {σ : L2.St} (H' : Hp), Ex H10 H' → σ[13]? = some (some (.ref w'')) → EvB K (tVar 13) σ H' 500 := fun H' e h => evb_s (ns := un) (evs_var h (ex_l (e810.trans e) hw'')) (by omega)
    have eR := Ex.refl H10
    refine q_asgTl (K := K) (k := 500) (n := 3) (m := 3) (etl_lst (ets_cons (etp (ebs_cons (tb H10 eR rfl) (ebs_cons (te H10 eR rfl) (ebs_cons (tu H10 eR rfl) ebs_nil))) (by decide)) (ets_cons (etp (ebs_cons (evb_s (ns := be.map fun z => 2 * z) (evs_var rfl (sq_of h9')) (by rw [List.length_map]; omega)) (ebs_cons (evb_s (ns := en.map fun z => 2 * z + 1) (evs_var rfl (sq_of h10)) (by rw [List.length_map]; omega)) (ebs_cons (evb_s (ns := pick un none none (some (-1))) (els (EvL.is (el_sl3 (evs_var rfl (ex_l e810 hw'')) eo_none eo_none (eo_some ev_neg1) (by decide) (by rw [List.length_map]; have := back_le un.length (by omega); omega)) (pick_int _ _ _ _))) (by have := pick_back (ns := un) (by omega); omega)) ebs_nil))) (by decide))
      (ets_cons (etp (ebs_cons (evb_bent (xs := be) (ns := ns) (evs_var rfl (ex_l e810 hw)) (evs_var rfl hs10) (by omega) hn (by omega)) (ebs_cons (te H10 eR rfl) (ebs_cons (tu H10 eR rfl) ebs_nil))) (by decide)) ets_nil))) (by decide)) fun o vs1 H11 e11 ho hv1 hl1 => ?_
    have hs11 := ex_l e11 hs10
    refine q_asgTl (K := K) (k := 500) (n := 3) (m := 3 + 2) (etl_cat (etl_var (ev_var rfl) ho hv1 hl1) (etl_lst (ets_cons (etp (ebs_cons (tb H11 e11 rfl) (ebs_cons (evb_bent (xs := en) (ns := ns) (evs_var rfl (ex_l (e810.trans e11) hw')) (evs_var rfl hs11) (by omega) hn (by omega)) (ebs_cons (tu H11 e11 rfl) ebs_nil))) (by decide)) (ets_cons (etp (ebs_cons (tb H11 e11 rfl) (ebs_cons (te H11 e11 rfl) (ebs_cons (evb_bent (xs := un) (ns := ns) (evs_var rfl (ex_l (e810.trans e11) hw'')) (evs_var rfl hs11) (by omega) hn (by omega)) ebs_nil))) (by decide)) ets_nil)) (by decide)) (by decide)) fun o2 vs2 H12 e12 ho2 hv2 hl2 => ?_
    have e1012 := e11.trans e12
    have e312 := e310.trans e1012
    have vU : EvS K (tVar 13) [some (.ref a), some (.ref b), some (.ref x), some (.ref y), none, some (.ref p), some (.ref p'), some (.ref o2), y8, y9, y10, some (.ref w), some (.ref w'), some (.ref w''), none, some (.ref t), none, some (.ref t'), none, none, none, none] H12 (un.map V.int) := evs_var rfl (ex_l (e810.trans e1012) hw'')
    -- stretches by hand
    refine q_forTl (K := K) (k := 500) (n := 3) (m := 5 + 2) (etl_cat (etl_var (ev_var rfl) ho2 hv2 hl2) (etl_lst (ets_cons (etp (ebs_cons (tb H12 e1012 rfl) (ebs_cons (te H12 e1012 rfl) (ebs_cons (evb_s (ns := cutI un none (some (-1)) ++ cutI un none (some 1)) (els (EvL.is (el_catM (em_l (EvL.is (el_slS vU eo_none (eo_some ev_neg1)) (cutV_ints _ _ _))) (em_l (EvL.is (el_slS vU eo_none (eo_some ev_c)) (cutV_ints _ _ _))) (by rw [List.length_map, List.length_map]; have := cutI_len un none (some (-1)); have := cutI_len un none (some 1); omega)) (by rw [List.map_append]))) (by rw [List.length_append]; have := cutI_len un none (some (-1)); have := cutI_len un none (some 1); omega)) ebs_nil))) (by decide)) (ets_cons (etp (ebs_cons (tb H12 e1012 rfl) (ebs_cons (tb H12 e1012 rfl) (ebs_cons (tu H12 e1012 rfl) ebs_nil))) (by decide)) ets_nil)) (by decide)) (by decide))
      (fun σ' => ∃ y9 y10 y18 y19 y20 y21, σ' = [some (.ref a), some (.ref b), some (.ref x), some (.ref y), none, some (.ref p), some (.ref p'), some (.ref o2), y8, y9, y10, some (.ref w), some (.ref w'), some (.ref w''), none, some (.ref t), none, some (.ref t'), y18, y19, y20, y21]) ⟨_, _, _, _, _, _, rfl⟩ ?_ ?_
    · rintro v σ' H13 e13 hv ⟨y9, y10, y18, y19, y20, y21, rfl⟩ D' hrt hnx
      have hT13 := hT3.mono (e312.trans e13)
      refine g_tup3 hv fun z1 z2 z3 b1 e1 u1 hz1 hz2 hz3 lb le lu => ?_
      refine q_asgLLL (el_copy (evs_var rfl hz1)) (el_copy (evs_var rfl hz2)) (el_copy (evs_var rfl hz3)) fun R v1 v2 v3 H14 fR f1 f2 f3 e14 hR hv1 hv2 hv3 hne => ?_
      obtain ⟨n12, n13, n23, n1R, n2R, n3R⟩ := hne
      refine q_asgO (eo_make (ans := .stretches b1 e1 u1) (ear_l (evs (ev_ixLS (evs_var rfl (sq_of hR)) (i := ((0 : Nat) : Int)) ev_c (atI_nat rfl)) (sq_of hv1)) (ear_l (evs (ev_ixLS (evs_var rfl (sq_of hR)) (i := ((1 : Nat) : Int)) ev_c (atI_nat rfl)) (sq_of hv2)) (ear_l (evs (ev_ixLS (evs_var rfl (sq_of hR)) (i := ((2 : Nat) : Int)) ev_c (atI_nat rfl)) (sq_of hv3)) ear_nil))) rfl) fun z H15 hz15 e15 hA15 => ?_
      refine q_forLn (xs := [V.ref v1, V.ref v2, V.ref v3]) (ev_var rfl) (sq_of (e15 _ _ hR)) (fun i σ' H' => Ex H13 H' ∧ AnsAt K H14 H' z (.stretches b1 e1 u1) ∧ H' R = some (.lst [V.ref v1, V.ref v2, V.ref v3]) ∧ (∀ v ∈ [v1, v2, v3], ∃ xs : List V, H' v = some (.lst xs) ∧ xs.length ≤ 500 + i) ∧ ∃ y21, σ' = [some (.ref a), some (.ref b), some (.ref x), some (.ref y), none, some (.ref p), some (.ref p'), some (.ref o2), y8, some (.ref R), some (.ref z), some (.ref w), some (.ref w'), some (.ref w''), none, some (.ref t), none, some (.ref t'), some (.ref z1), some (.ref z2), some (.ref z3), y21])
        (fun H16 e16 => ⟨(e14.trans e15).trans e16, hA15.mono e16, e16 _ _ (e15 _ _ hR), fun v hvm => ?_, _, rfl⟩) (fun i σ' H' _ pv => sq_of pv.2.2.1) ?_ ?_
      · simp only [List.mem_cons, List.not_mem_nil, or_false] at hvm
        rcases hvm with rfl | rfl | rfl
        · exact ⟨_, e16 _ _ (e15 _ _ hv1), by rw [List.length_map]; omega⟩
        · exact ⟨_, e16 _ _ (e15 _ _ hv2), by rw [List.length_map]; omega⟩
        · exact ⟨_, e16 _ _ (e15 _ _ hv3), by rw [List.length_map]; omega⟩
      · rintro i vv σ' H16 hi ⟨e16, hA16, hR16, hall, y21', rfl⟩
        have hi3 := (List.getElem?_eq_some_iff.mp hi).1
        have hmem := List.mem_of_getElem? hi
        have hvr : ∃ v, vv = V.ref v ∧ v ∈ [v1, v2, v3] := by
          simp only [List.mem_cons, List.not_mem_nil, or_false] at hmem
          rcases hmem with rfl | rfl | rfl
          · exact ⟨v1, rfl, by simp⟩
          · exact ⟨v2, rfl, by simp⟩
          · exact ⟨v3, rfl, by simp⟩
        obtain ⟨v, rfl, hvm⟩ := hvr
        obtain ⟨xs, hxs, hxl⟩ := hall v hvm
        have fv : H13 v = none ∧ v ≠ R ∧ ∃ o, H14 v = some o := by
          simp only [List.mem_cons, List.not_mem_nil, or_false] at hvm
          rcases hvm with rfl | rfl | rfl
          · exact ⟨f1, n1R, _, hv1⟩
          · exact ⟨f2, n2R, _, hv2⟩
          · exact ⟨f3, n3R, _, hv3⟩
        obtain ⟨f0, nR, o0, ho0⟩ := fv
        have hi3' : i < 3 := hi3
        refine s_app (l := v) (xs := xs) hxs (ev_var rfl) ev_c (by omega) fun H17 e17 => ⟨Ex.mut (e16.trans e17) f0, (hA16.mono e17).old ho0 (e17 _ _ hxs), by rw [upd_ne (Ne.symm nR)]; exact e17 _ _ hR16, fun v' hv' => ?_, _, rfl⟩
        by_cases hvv : v' = v
        · subst hvv
          exact ⟨_, upd_same, by rw [List.length_append]; simp; omega⟩
        · obtain ⟨xs', hx', hl'⟩ := hall v' hv'
          exact ⟨xs', by rw [upd_ne hvv]; exact e17 _ _ hx', by omega⟩
      rintro σ' H16 ⟨e16, hA16, hR16, _, y21', rfl⟩
      obtain ⟨l, m, n, hI, hl, hm, hn', _⟩ := id hA16
      refine q_when (b := false) (et_is (et_test (ev_neNs (ls := [b1, e1, u1]) (ens_lst (eav_s (evs_fld (ev_var rfl) hI T.cl_Stretches T.n_Stretches_begins rfl hl) (eav_s (evs_fld (ev_var rfl) hI T.cl_Stretches T.n_Stretches_ends rfl hm) (eav_s (evs_fld (ev_var rfl) hI T.cl_Stretches T.n_Stretches_unlike rfl hn') eav_nil))) (Nat.le_of_ble_eq_true rfl)) (ens_lst (eav_s (evs_var rfl (ex_l e16 hz1)) (eav_s (evs_var rfl (ex_l e16 hz2)) (eav_s (evs_var rfl (ex_l e16 hz3)) eav_nil))) (Nat.le_of_ble_eq_true rfl)))) rfl) (fun hb => nomatch hb) fun _ H17 e17 => ?_
      have e1317 := e16.trans e17
      exact s_when (b := false) (et_is (et_not (et_B (ev_says (a := stretchesOk b1 e1 u1 Tb) (b := stretchesOk b1 e1 u1 Tb) (ev_shows (k := .stretches) (ev_var rfl) rfl (hA16.mono e17) (ev_var rfl) (hT13.mono e1317) rfl (show u1.length ≤ 1000 by omega)) (ev_lawStretches (hT13.mono e1317) (ev_var rfl) (evs_var rfl (ex_l e1317 hz1)) (evs_var rfl (ex_l e1317 hz2)) (evs_var rfl (ex_l e1317 hz3)))))) (by simp)) (fun hb => nomatch hb) fun _ H18 e18 => hnx _ _ (e1317.trans e18) ⟨_, _, _, _, _, _, rfl⟩
    rintro σ' H13 e13 ⟨y9, y10, y18, y19, y20, y21, rfl⟩
    exact s_ret ev_c fun H14 e14 => q H14 ((e312.trans e13).trans e14)

/-! ### _law_orders_right -/
def sp_law_orders_right (K : PySem.W.Frag) : Sp := fun vs H Q _ => ∃ (a b : Addr) (T : Tb) (ns : List Int), vs = [.ref a, .ref b] ∧ At K H a T T.length ∧ T.length ≤ 20 ∧ SqL K H b (ns.map V.int) ∧ ns.length ≤ 63 ∧ LamX.Tabs (tabsL K) H ∧ ∀ H', Xn (tabsL K) H H' → Q (.bl true) H'
theorem cal__law_orders_right (T : Tx K mg) (B : Tbl K mg base) : C8.Cal P w K mg base (4 + 1) "_law_orders_right" (sp_law_orders_right K) [] := by
  refine cal_tab T.c__law_orders_right T.gg__law_orders_right sc_law_orders_right (fun _ _ _ _ _ _ us hl => match us, hl with | [_, _], _ => rfl) ?_ ?_
  · rintro vs H Q E ⟨a, b, T, ns, rfl, _⟩; rfl
  · rintro A outer s H vs Q E hr ⟨a, b, Tb, ns, rfl, hT, hz, hs, hn, hTs, q⟩
    refine ⟨(tSeq (tAsg (tSortL (tabsL K) 2 (tRng (tCB (rLn K) (tCons (tVar 0) tNil))) (tTup (tCons (tM1 rCountS (tOp (rIxL K) (tVar 0) (tVar 2)) (tC (.str "-"))) (tCons (tVar 2) tNil)))) (gName 3)) (tSeq (tAsg (tLc (iList K (tVar 0)) (gName 4) tYes (tM1 rCountS (tVar 4) (tC (.str "-"))) [4]) (gName 5)) (tSeq (tFor (iList K (tLst (tCons (tVar 3) (tCons (tSl3 K (tVar 3) tNoPart tNoPart (tPart (tUn rNegI (tC (.int 1))))) (tCons (tCall (sp_law_bent K) [] C8.E0 (tCons (tVar 3) (tCons (tVar 1) tNil))) (tCons (tVar 5) (tCons (tLc (iList K (tVar 5)) (gName 6) tYes (tOp rMulI (tC (.int 2)) (tVar 6)) [6]) (tCons (tSl (rSlL K) (tVar 3) (tPart (tC (.int 1))) tNoPart) tNil)))))))) (gName 7) (tSeq (tAsg (tCB (rLs K) (tCons (tVar 7) tNil)) (gName 8)) (tSeq (tAsg (tLst (tCons (tMake (gaK K .line) (sp_init K .line) [] C8.E0 (tCons (tVar 8) tNil)) (tCons (tMake (gaK K .ranks) (sp_init K .ranks) [] C8.E0 (tCons (tVar 8) tNil)) tNil))) (gName 9)) (tSeq (tDrop (tBM K "list" rAppend (tVar 8) (tCons (tC (.int 0)) tNil))) (tSeq (tIfS (tOr (tTest (tOp (rNeD K) (tFld K (tOp (rIxL K) (tVar 9) (tC (.int 0))) "order") (tVar 7))) (tTest (tOp (rNeD K) (tFld K (tOp (rIxL K) (tVar 9) (tC (.int 1))) "ranks") (tVar 7)))) (tRet (tC (.bl false))) tNext) (tSeq (tIfS (tNot (tB (tCall (sp_law_says K) [] C8.E0 (tCons (tMeth (gaK K .line) "shows" (sp_shows K .line) [] C8.E0 (tOp (rIxL K) (tVar 9) (tC (.int 0))) (tCons (tVar 0) tNil)) (tCons (tCall (sp_law_line K) [] C8.E0 (tCons (tVar 0) (tCons (tVar 7) tNil))) tNil))))) (tRet (tC (.bl false))) tNext) (tIfS (tNot (tB (tCall (sp_law_says K) [] C8.E0 (tCons (tMeth (gaK K .ranks) "shows" (sp_shows K .ranks) [] C8.E0 (tOp (rIxL K) (tVar 9) (tC (.int 1))) (tCons (tVar 0) tNil)) (tCons (tCall (sp_law_ranks K) [] C8.E0 (tCons (tVar 0) (tCons (tVar 7) tNil))) tNil))))) (tRet (tC (.bl false))) tNext))))))) (tRet (tC (.bl true)))))), (pss_cons (ps_set (i := 3) sc_law_orders_right.nd rfl (Or.inl rfl) (pe_sortL (T := tabsL K) (j := 2) (y := "_law_thing") (by rfl) T.sorted (pe_rng (by rfl) T.range (pe_callB (id := "len") cl_len (by rfl) T.len (by decide +kernel) (pa_cons (pv 0) pa_nil))) (tb__law_orders_right B) (by rfl) (tm__law_orders_right K) (tu__law_orders_right T) (hr.mono (by decide)) rfl (lamS1_by (by show lamS1B (defScope s_law_orders_right) _ _ = true; decide +kernel)) rfl (fun _ _ _ _ _ _ => rfl) sc_law_orders_right.nd rfl (fun _ _ _ _ _ => (pe_tup (pa_cons (pe_countS (pe_ix ix_list (pv 0) (pv 2) (fun _ _ => rfl)) pe_str) (pa_cons (pv 2) pa_nil)))))) (pss_cons (ps_setLc (i := 5) (own := [("_law_row", 4)]) rfl sc_law_orders_right.nd rfl rfl (sw_true rfl rfl rfl (by decide +kernel)) (pi_list (pv 0)) (blkOk_by (own := [("_law_row", 4)]) (by kernel_rfl)) (fun _ _ _ _ _ => (pg_name (i := 4) sc_law_orders_right.nd rfl (Or.inl rfl))) (fun _ _ _ _ _ => pts_nil) (fun _ _ _ _ _ => (pe_countS (pv 4) pe_str))) (pss_cons (ps_for PassesOwn.never rfl (pi_list (pe_lst (pa_cons (pv 3) (pa_cons (pe_slice3 (pv 3) po_none po_none (po_some (pe_un un_neg pe_int))) (pa_cons (C8.pe_c (cal__law_bent T) hr (by decide) (by rfl) (pa_cons (pv 3) (pa_cons (pv 1) pa_nil))) (pa_cons (pv 5) (pa_cons (pe_lc (own := [("_law_size", 6)]) rfl sc_law_orders_right.nd (pi_list (pv 5)) (blkOk_by (own := [("_law_size", 6)]) (by kernel_rfl)) (fun _ _ _ _ _ => (pg_name (i := 6) sc_law_orders_right.nd rfl (Or.inl rfl))) (fun _ _ _ _ _ => pts_nil) (fun _ _ _ _ _ => (pe_op op_mul pe_int (pv 6)))) (pa_cons (pe_slice sl_list (pv 3) (po_some pe_int) po_none) pa_nil)))))))) (pg_name (i := 7) sc_law_orders_right.nd rfl (Or.inl rfl)) (pss_cons (ps_set (i := 8) sc_law_orders_right.nd rfl (Or.inl rfl) (pe_callTy (T := "list") cl_list (by rfl) T.list (by decide +kernel) (pa_cons (pv 7) pa_nil))) (pss_cons (ps_set (i := 9) sc_law_orders_right.nd rfl (Or.inl rfl) (pe_lst (pa_cons (C8.pe_mk (mak_Line T) hr (by decide) (by rfl) (pa_cons (pv 8) pa_nil)) (pa_cons (C8.pe_mk (mak_Ranks T) hr (by decide) (by rfl) (pa_cons (pv 8) pa_nil)) pa_nil)))) (pss_cons (ps_expr (pe_bm PySem.F.plainAttrs_list PySem.F.slot_list_append PySem.F.type_list_append mt_append (pv 8) (pa_cons pe_int pa_nil))) (pss_cons (ps_if (PW.pt (pw_or (pt_cmpR (op_neD hr.units) (pe_fld (pe_ix ix_list (pv 9) pe_int (fun _ _ => rfl)) rfl) (pv 7) (nomark _)) (pw_or1 (pt_cmpR (op_neD hr.units) (pe_fld (pe_ix ix_list (pv 9) pe_int (fun _ _ => rfl)) rfl) (pv 7) (nomark _))))) (pss_one (ps_ret pe_bl)) pss_nil) (pss_cons (ps_if (pt_not (pt_val (C8.pe_c (cal__law_says T) hr (by decide) (by rfl) (pa_cons (C8.pe_mt (met_Line T) hr (by decide) (pe_ix ix_list (pv 9) pe_int (fun _ _ => rfl)) (pa_cons (pv 0) pa_nil)) (pa_cons (C8.pe_c (cal__law_line T) hr (by decide) (by rfl) (pa_cons (pv 0) (pa_cons (pv 7) pa_nil))) pa_nil))))) (pss_one (ps_ret pe_bl)) pss_nil) (pss_one (ps_if (pt_not (pt_val (C8.pe_c (cal__law_says T) hr (by decide) (by rfl) (pa_cons (C8.pe_mt (met_Ranks T) hr (by decide) (pe_ix ix_list (pv 9) pe_int (fun _ _ => rfl)) (pa_cons (pv 0) pa_nil)) (pa_cons (C8.pe_c (cal__law_ranks T) hr (by decide) (by rfl) (pa_cons (pv 0) (pa_cons (pv 7) pa_nil))) pa_nil))))) (pss_one (ps_ret pe_bl)) pss_nil)))))))) (pss_one (ps_ret pe_bl))))), ?_⟩
    have hln := hT.ln
    refine q_sortN2 (n := Tb.length) (f := fun i => (((Tb.getD i []).countP (fun b => !b) : Nat) : Int)) (g := fun i => (i : Int)) hTs (ev_lenTab hT (ev_var rfl)) hln (fun i hi H1 x1 => ?_) fun is p H0 H2 hp x0 _ e2 h2 => ?_
    · exact eu_tup (ea_cons (ev_countD (ev_rowI (v := .non) (evs_var rfl (hT.xn x1).sq) hi (ev_var rfl))) (ea_cons (ev_var rfl) ea_nil)) (show 2 ≤ 100000 by decide)
    have x2 : Xn (tabsL K) H H2 := x0.trans (xn_of e2)
    have hT2 := hT.xn x2
    have hs2 := xn_l x2 hs
    have hil : is.length = Tb.length := by rw [hp.length_eq, List.length_range]
    have hO : H2 p = some (.lst ((intsOf is).map V.int)) := by rw [h2, nv_int]
    have hOl : (intsOf is).length = Tb.length := by rw [intsOf_len, hil]
    revert hO hOl
    generalize intsOf is = O
    intro hO hOl
    replace q : ∀ H', Ex H2 H' → Q (.bl true) H' := fun H' e => q H' (x2.trans (xn_of e))
    refine q_asgL (EvL.is (el_map (l := Tb) (g := fun r => V.str (rs r)) (f := fun r => V.int (r.countP (fun b => !b) : Nat)) (evs_var rfl hT2.sq) (by omega) (fun _ => rfl) fun r _ => ev_countD (ev_var rfl)) (show _ = (Tb.map fun r => ((r.countP (fun b => !b) : Nat) : Int)).map V.int by rw [List.map_map]; rfl)) fun z H3 hz3 e3 h3 => ?_
    have lS : (Tb.map fun r => ((r.countP (fun b => !b) : Nat) : Int)).length = Tb.length := List.length_map _
    revert h3 lS
    generalize (Tb.map fun r => ((r.countP (fun b => !b) : Nat) : Int)) = S
    intro h3 lS
    have hO3 := e3 _ _ hO
    refine q_forBs (K := K) (k := 400) (n := 6) (ebs_cons (evb_s (ns := O) (evs_var rfl (sq_of hO3)) (by omega)) (ebs_cons (evb_s (ns := pick O none none (some (-1))) (els (EvL.is (el_sl3 (evs_var rfl (sq_of hO3)) eo_none eo_none (eo_some ev_neg1) (by decide) (by rw [List.length_map]; have := back_le O.length (by omega); omega)) (pick_int _ _ _ _))) (by have := pick_back (ns := O) (by omega); omega)) (ebs_cons (evb_bent (xs := O) (ns := ns) (evs_var rfl (sq_of hO3)) (evs_var rfl (ex_l e3 hs2)) (by omega) hn (by omega)) (ebs_cons (evb_s (ns := S) (evs_var rfl (sq_of h3)) (by omega))
      (ebs_cons (evb_s (ns := S.map fun z => 2 * z) (els (EvL.is (el_map (l := S) (g := V.int) (f := fun z => V.int (2 * z)) (evs_var rfl (sq_of h3)) (by omega) (fun _ => rfl) fun z _ => ev_op ev_c (ev_var rfl) (rv_I (.inl ⟨by decide, by decide⟩))) (by rw [List.map_map]; rfl))) (by rw [List.length_map]; omega)) (ebs_cons (evb_s (ns := cutI O (some 1) none) (els (EvL.is (el_slS (evs_var rfl (sq_of hO3)) (eo_some ev_c) eo_none) (cutV_ints _ _ _))) (by have := cutI_len O (some 1) none; omega)) ebs_nil)))))) (by decide)
      (fun σ' => ∃ y7 y8 y9, σ' = [some (.ref a), some (.ref b), none, some (.ref p), none, some (.ref z), none, y7, y8, y9]) ⟨_, _, _, rfl⟩ ?_ ?_
    · rintro w o σ' H4 e4 hw hol ⟨y7, y8, y9, rfl⟩ D' hrt hnx
      have hT4 := hT2.mono (e3.trans e4)
      refine q_asgL (el_copy (evs_var rfl hw)) fun u H5 hu5 e5 hu => ?_
      refine q_asgOO (eo_make (ans := .line o) (ear_l (evs_var rfl (sq_of hu)) ear_nil) rfl) (fun H6 e6 => eo_make (ans := .ranks o) (ear_l (evs_var rfl (sq_of (e6 _ _ hu))) ear_nil) rfl) fun R x y H6 H7 H8 e6 hA e7 hB hR7 e8 hR => ?_
      have e58 := (e6.trans e7).trans e8
      refine q_app (l := u) (xs := o.map V.int) (e58 _ _ hu) (ev_var rfl) ev_c (by rw [List.length_map]; omega) fun H9 e9 => ?_
      have eK : Ex H4 (upd H9 u (.lst (o.map V.int ++ [.int 0]))) := Ex.mut ((e5.trans e58).trans e9) hu5
      have huR : u ≠ R := fun z => by rw [z] at hu; rw [e7 _ _ (e6 _ _ hu)] at hR7; cases hR7
      have hA9 : AnsAt K H5 (upd H9 u (.lst (o.map V.int ++ [.int 0]))) x (.line o) := (hA.mono ((e7.trans e8).trans e9)).old hu (e9 _ _ (e58 _ _ hu))
      have hB9 : AnsAt K H6 (upd H9 u (.lst (o.map V.int ++ [.int 0]))) y (.ranks o) := (hB.mono (e8.trans e9)).old (e6 _ _ hu) (e9 _ _ (e58 _ _ hu))
      have hR9 : upd H9 u (.lst (o.map V.int ++ [.int 0])) R = some (.lst [.ref x, .ref y]) := by rw [upd_ne (Ne.symm huR)]; exact e9 _ _ hR
      revert eK hA9 hB9 hR9
      generalize upd H9 u (.lst (o.map V.int ++ [.int 0])) = K1
      intro eK hA9 hB9 hR9
      obtain ⟨l, hI, hl⟩ := id hA9
      obtain ⟨m, hJ, hm⟩ := id hB9
      have g0 : ∀ {σ : L2.St} (H' : Hp), Ex K1 H' → σ[9]? = some (some (.ref R)) → Ev (tOp (rIxL K) (tVar 9) (tC (.int 0))) σ H' (.ref x) := fun H' e h => ev_ixLS (evs_var h (sq_of (e _ _ hR9))) (i := ((0 : Nat) : Int)) ev_c (atI_nat rfl)
      have g1 : ∀ {σ : L2.St} (H' : Hp), Ex K1 H' → σ[9]? = some (some (.ref R)) → Ev (tOp (rIxL K) (tVar 9) (tC (.int 1))) σ H' (.ref y) := fun H' e h => ev_ixLS (evs_var h (sq_of (e _ _ hR9))) (i := ((1 : Nat) : Int)) ev_c (atI_nat rfl)
      have eR := Ex.refl K1
      refine q_when (b := false) (et_is (et_or (et_test (ev_neInts (T := o) (T' := o) (evs_fld (g0 K1 eR rfl) hI T.cl_Line T.n_Line_order rfl hl) (evs_var rfl (ex_l eK hw)))) fun _ => et_test (ev_neInts (T := o) (T' := o) (evs_fld (g1 K1 eR rfl) hJ T.cl_Ranks T.n_Ranks_ranks rfl hm) (evs_var rfl (ex_l eK hw)))) (by simp)) (fun hb => nomatch hb) fun _ H10 e10 => ?_
      have eK1 := eK.trans e10
      refine q_when (b := false) (et_is (et_not (et_B (ev_says (a := shown (.line o) Tb) (b := shown (.line o) Tb) (ev_shows (k := .line) (g0 H10 e10 rfl) rfl (hA9.mono e10) (ev_var rfl) (hT4.mono eK1) rfl (show o.length ≤ 1000 by omega)) (ev_lawLine (hT4.mono eK1) (ev_var rfl) (evs_var rfl (ex_l eK1 hw)) (by omega))))) (by simp)) (fun hb => nomatch hb) fun _ H11 e11 => ?_
      have eK2 := eK1.trans e11
      exact s_when (b := false) (et_is (et_not (et_B (ev_says (a := ranksOk o Tb) (b := ranksOk o Tb) (ev_shows (k := .ranks) (ans := .ranks o) (g1 H11 (e10.trans e11) rfl) rfl (hB9.mono (e10.trans e11)) (ev_var rfl) (hT4.mono eK2) rfl) (ev_lawRanks (hT4.mono eK2) (ev_var rfl) (evs_var rfl (ex_l eK2 hw)) (by omega))))) (by simp)) (fun hb => nomatch hb) fun _ H12 e12 => hnx _ _ (eK2.trans e12) ⟨_, _, _, rfl⟩
    rintro σ' H4 e4 ⟨y7, y8, y9, rfl⟩
    exact s_ret ev_c fun H5 e5 => q H5 ((e3.trans e4).trans e5)

end

end WA

namespace WA
open PySem PySem.Spec PyProof.Rows L2 Evl

section
variable {P : Program} {w : World} {K : PySem.W.Frag} {mg : Str → Option Value} {base : Heap}

/-! ### _law_few_right -/
def sp_law_few_right (K : PySem.W.Frag) : Sp := spV fun vs H z => ∃ (a : Addr) (T : Tb) (i j k l : Int), vs = [.ref a, .int i, .int j, .int k, .int l] ∧ At K H a T T.length ∧ z = .bl true
theorem sv_few {H : Hp} {a : Addr} {T : Tb} {i j k l : Int} (h : At K H a T T.length) : SpV (sp_law_few_right K) ([.ref a, .int i, .int j, .int k, .int l] ++ []) H (.bl true) := spV_of fun _ e => ⟨a, T, i, j, k, l, rfl, h.mono e, rfl⟩
theorem evs_few {σ : L2.St} {H : Hp} {i j k : Int} {ta tb tc : TE} (h : Ev ta σ H (.int i)) (h2 : Ev tb σ H (.int j)) (h3 : Ev tc σ H (.int k)) : EvS K (tLst (tCons ta (tCons tb (tCons tc tNil)))) σ H ([i, j, k].map V.int) := els (el_lst (ea_cons h (ea_cons h2 (ea_cons h3 ea_nil))) (show 3 ≤ 100000 by decide))
theorem says_no {a b : Bool} (h : a = b) : (!decide (a = b)) = false := by rw [decide_eq_true h]; rfl
theorem cal__law_few_right (T : Tx K mg) : C8.Cal P w K mg base (4 + 1) "_law_few_right" (sp_law_few_right K) [] := by
  refine T.d__law_few_right.cal sc_law_few_right (fun _ _ _ _ _ _ us hl => match us, hl with | [_, _, _, _, _], _ => rfl) ?_ ?_
  · rintro vs H Q E ⟨z, ⟨a, T, i, j, k, l, rfl, _⟩, _⟩; rfl
  · rintro f cdv A outer s H vs Q E hr ⟨z, ⟨a, Tb, i, j, k, l, rfl, hT, rfl⟩, q⟩
    refine ⟨(tSeq (tAsg (tCall (sp_law_has K) [] C8.E0 (tCons (tVar 0) (tCons (tVar 1) (tCons (tVar 1) tNil)))) (gName 5)) (tSeq (tIfS (tNot (tB (tCall (sp_law_says K) [] C8.E0 (tCons (tMeth (gaK K .self) "shows" (sp_shows K .self) [] C8.E0 (tMake (gaK K .self) (sp_init K .self) [] C8.E0 (tCons (tVar 1) tNil)) (tCons (tVar 0) tNil)) (tCons (tVar 5) tNil))))) (tRet (tC (.bl false))) tNext) (tSeq (tAsg (tAndV (tOp rNe (tVar 1) (tVar 2)) (tAndV (tCall (sp_law_has K) [] C8.E0 (tCons (tVar 0) (tCons (tVar 1) (tCons (tVar 2) tNil)))) (tCall (sp_law_has K) [] C8.E0 (tCons (tVar 0) (tCons (tVar 2) (tCons (tVar 1) tNil)))))) (gName 5)) (tSeq (tIfS (tNot (tB (tCall (sp_law_says K) [] C8.E0 (tCons (tMeth (gaK K .mutual) "shows" (sp_shows K .mutual) [] C8.E0 (tMake (gaK K .mutual) (sp_init K .mutual) [] C8.E0 (tCons (tVar 1) (tCons (tVar 2) tNil))) (tCons (tVar 0) tNil)) (tCons (tVar 5) tNil))))) (tRet (tC (.bl false))) tNext) (tSeq (tAsg (tAndV (tOp rNe (tVar 1) (tVar 2)) (tAndV (tCall (sp_law_hasnt K) [] C8.E0 (tCons (tVar 0) (tCons (tVar 1) (tCons (tVar 2) tNil)))) (tCall (sp_law_hasnt K) [] C8.E0 (tCons (tVar 0) (tCons (tVar 2) (tCons (tVar 1) tNil)))))) (gName 5)) (tSeq (tIfS (tNot (tB (tCall (sp_law_says K) [] C8.E0 (tCons (tMeth (gaK K .neither) "shows" (sp_shows K .neither) [] C8.E0 (tMake (gaK K .neither) (sp_init K .neither) [] C8.E0 (tCons (tVar 1) (tCons (tVar 2) tNil))) (tCons (tVar 0) tNil)) (tCons (tVar 5) tNil))))) (tRet (tC (.bl false))) tNext) (tSeq (tAsg (tOp rEq (tLenS K (tLst (tCons (tVar 1) (tCons (tVar 2) (tCons (tVar 3) tNil))))) (tC (.int 3))) (gName 6)) (tSeq (tAsg (tAndV (tVar 6) (tAndV (tCall (sp_law_has K) [] C8.E0 (tCons (tVar 0) (tCons (tVar 1) (tCons (tVar 2) tNil)))) (tAndV (tCall (sp_law_hasnt K) [] C8.E0 (tCons (tVar 0) (tCons (tVar 1) (tCons (tVar 3) tNil)))) (tCall (sp_law_hasnt K) [] C8.E0 (tCons (tVar 0) (tCons (tVar 3) (tCons (tVar 2) tNil))))))) (gName 5)) (tSeq (tIfS (tNot (tB (tCall (sp_law_says K) [] C8.E0 (tCons (tMeth (gaK K .beside) "shows" (sp_shows K .beside) [] C8.E0 (tMake (gaK K .beside) (sp_init K .beside) [] C8.E0 (tCons (tVar 1) (tCons (tVar 2) (tCons (tVar 3) tNil)))) (tCons (tVar 0) tNil)) (tCons (tVar 5) tNil))))) (tRet (tC (.bl false))) tNext) (tSeq (tAsg (tAndV (tVar 6) (tAndV (tCall (sp_law_has K) [] C8.E0 (tCons (tVar 0) (tCons (tVar 1) (tCons (tVar 2) tNil)))) (tAndV (tCall (sp_law_has K) [] C8.E0 (tCons (tVar 0) (tCons (tVar 2) (tCons (tVar 3) tNil)))) (tCall (sp_law_has K) [] C8.E0 (tCons (tVar 0) (tCons (tVar 3) (tCons (tVar 1) tNil))))))) (gName 5)) (tSeq (tIfS (tNot (tB (tCall (sp_law_says K) [] C8.E0 (tCons (tMeth (gaK K .round) "shows" (sp_shows K .round) [] C8.E0 (tMake (gaK K .round) (sp_init K .round) [] C8.E0 (tCons (tVar 1) (tCons (tVar 2) (tCons (tVar 3) tNil)))) (tCons (tVar 0) tNil)) (tCons (tVar 5) tNil))))) (tRet (tC (.bl false))) tNext) (tSeq (tAsg (tMake (gaK K .cross) (sp_init K .cross) [] C8.E0 (tCons (tVar 1) (tCons (tVar 2) (tCons (tVar 3) (tCons (tVar 4) tNil))))) (gName 7)) (tSeq (tIfS (tTest (tOp (rNeD K) (tLst (tCons (tFld K (tVar 7) "one") (tCons (tFld K (tVar 7) "first") (tCons (tFld K (tVar 7) "other") (tCons (tFld K (tVar 7) "second") tNil))))) (tLst (tCons (tVar 1) (tCons (tVar 2) (tCons (tVar 3) (tCons (tVar 4) tNil))))))) (tRet (tC (.bl false))) tNext) (tRet (tCall (sp_law_says K) [] C8.E0 (tCons (tMeth (gaK K .cross) "shows" (sp_shows K .cross) [] C8.E0 (tVar 7) (tCons (tVar 0) tNil)) (tCons (tCall (sp_law_cross K) [] C8.E0 (tCons (tVar 0) (tCons (tVar 1) (tCons (tVar 2) (tCons (tVar 3) (tCons (tVar 4) tNil)))))) tNil))))))))))))))))), (pss_cons (ps_set (i := 5) sc_law_few_right.nd rfl (Or.inl rfl) (C8.pe_c (cal__law_has T) hr (by decide) (by rfl) (pa_cons (pv 0) (pa_cons (pv 1) (pa_cons (pv 1) pa_nil))))) (pss_cons (ps_if (pt_not (pt_val (C8.pe_c (cal__law_says T) hr (by decide) (by rfl) (pa_cons (C8.pe_mt (met_Self T) hr (by decide) (C8.pe_mk (mak_Self T) hr (by decide) (by rfl) (pa_cons (pv 1) pa_nil)) (pa_cons (pv 0) pa_nil)) (pa_cons (pv 5) pa_nil))))) (pss_one (ps_ret pe_bl)) pss_nil) (pss_cons (ps_set (i := 5) sc_law_few_right.nd rfl (Or.inl rfl) (pe_and (pe_cmpR op_ne (pv 1) (pv 2) (nomark _)) (pe_and (C8.pe_c (cal__law_has T) hr (by decide) (by rfl) (pa_cons (pv 0) (pa_cons (pv 1) (pa_cons (pv 2) pa_nil)))) (pe_one (C8.pe_c (cal__law_has T) hr (by decide) (by rfl) (pa_cons (pv 0) (pa_cons (pv 2) (pa_cons (pv 1) pa_nil)))))))) (pss_cons (ps_if (pt_not (pt_val (C8.pe_c (cal__law_says T) hr (by decide) (by rfl) (pa_cons (C8.pe_mt (met_Mutual T) hr (by decide) (C8.pe_mk (mak_Mutual T) hr (by decide) (by rfl) (pa_cons (pv 1) (pa_cons (pv 2) pa_nil))) (pa_cons (pv 0) pa_nil)) (pa_cons (pv 5) pa_nil))))) (pss_one (ps_ret pe_bl)) pss_nil) (pss_cons (ps_set (i := 5) sc_law_few_right.nd rfl (Or.inl rfl) (pe_and (pe_cmpR op_ne (pv 1) (pv 2) (nomark _)) (pe_and (C8.pe_c (cal__law_hasnt T) hr (by decide) (by rfl) (pa_cons (pv 0) (pa_cons (pv 1) (pa_cons (pv 2) pa_nil)))) (pe_one (C8.pe_c (cal__law_hasnt T) hr (by decide) (by rfl) (pa_cons (pv 0) (pa_cons (pv 2) (pa_cons (pv 1) pa_nil)))))))) (pss_cons (ps_if (pt_not (pt_val (C8.pe_c (cal__law_says T) hr (by decide) (by rfl) (pa_cons (C8.pe_mt (met_Neither T) hr (by decide) (C8.pe_mk (mak_Neither T) hr (by decide) (by rfl) (pa_cons (pv 1) (pa_cons (pv 2) pa_nil))) (pa_cons (pv 0) pa_nil)) (pa_cons (pv 5) pa_nil))))) (pss_one (ps_ret pe_bl)) pss_nil) (pss_cons (ps_set (i := 6) sc_law_few_right.nd rfl (Or.inl rfl) (pe_cmpR op_eq (pe_lenS (by rfl) T.len (by rfl) T.set (pe_lst (pa_cons (pv 1) (pa_cons (pv 2) (pa_cons (pv 3) pa_nil))))) pe_int (nomark _))) (pss_cons (ps_set (i := 5) sc_law_few_right.nd rfl (Or.inl rfl) (pe_and (pv 6) (pe_and (C8.pe_c (cal__law_has T) hr (by decide) (by rfl) (pa_cons (pv 0) (pa_cons (pv 1) (pa_cons (pv 2) pa_nil)))) (pe_and (C8.pe_c (cal__law_hasnt T) hr (by decide) (by rfl) (pa_cons (pv 0) (pa_cons (pv 1) (pa_cons (pv 3) pa_nil)))) (pe_one (C8.pe_c (cal__law_hasnt T) hr (by decide) (by rfl) (pa_cons (pv 0) (pa_cons (pv 3) (pa_cons (pv 2) pa_nil))))))))) (pss_cons (ps_if (pt_not (pt_val (C8.pe_c (cal__law_says T) hr (by decide) (by rfl) (pa_cons (C8.pe_mt (met_Beside T) hr (by decide) (C8.pe_mk (mak_Beside T) hr (by decide) (by rfl) (pa_cons (pv 1) (pa_cons (pv 2) (pa_cons (pv 3) pa_nil)))) (pa_cons (pv 0) pa_nil)) (pa_cons (pv 5) pa_nil))))) (pss_one (ps_ret pe_bl)) pss_nil) (pss_cons (ps_set (i := 5) sc_law_few_right.nd rfl (Or.inl rfl) (pe_and (pv 6) (pe_and (C8.pe_c (cal__law_has T) hr (by decide) (by rfl) (pa_cons (pv 0) (pa_cons (pv 1) (pa_cons (pv 2) pa_nil)))) (pe_and (C8.pe_c (cal__law_has T) hr (by decide) (by rfl) (pa_cons (pv 0) (pa_cons (pv 2) (pa_cons (pv 3) pa_nil)))) (pe_one (C8.pe_c (cal__law_has T) hr (by decide) (by rfl) (pa_cons (pv 0) (pa_cons (pv 3) (pa_cons (pv 1) pa_nil))))))))) (pss_cons (ps_if (pt_not (pt_val (C8.pe_c (cal__law_says T) hr (by decide) (by rfl) (pa_cons (C8.pe_mt (met_Round T) hr (by decide) (C8.pe_mk (mak_Round T) hr (by decide) (by rfl) (pa_cons (pv 1) (pa_cons (pv 2) (pa_cons (pv 3) pa_nil)))) (pa_cons (pv 0) pa_nil)) (pa_cons (pv 5) pa_nil))))) (pss_one (ps_ret pe_bl)) pss_nil) (pss_cons (ps_set (i := 7) sc_law_few_right.nd rfl (Or.inl rfl) (C8.pe_mk (mak_Cross T) hr (by decide) (by rfl) (pa_cons (pv 1) (pa_cons (pv 2) (pa_cons (pv 3) (pa_cons (pv 4) pa_nil)))))) (pss_cons (ps_if (pt_cmpR (op_neD hr.units) (pe_lst (pa_cons (pe_fld (pv 7) rfl) (pa_cons (pe_fld (pv 7) rfl) (pa_cons (pe_fld (pv 7) rfl) (pa_cons (pe_fld (pv 7) rfl) pa_nil))))) (pe_lst (pa_cons (pv 1) (pa_cons (pv 2) (pa_cons (pv 3) (pa_cons (pv 4) pa_nil))))) (nomark _)) (pss_one (ps_ret pe_bl)) pss_nil) (pss_one (ps_ret (C8.pe_c (cal__law_says T) hr (by decide) (by rfl) (pa_cons (C8.pe_mt (met_Cross T) hr (by decide) (pv 7) (pa_cons (pv 0) pa_nil)) (pa_cons (C8.pe_c (cal__law_cross T) hr (by decide) (by rfl) (pa_cons (pv 0) (pa_cons (pv 1) (pa_cons (pv 2) (pa_cons (pv 3) (pa_cons (pv 4) pa_nil)))))) pa_nil)))))))))))))))))), ?_⟩
    have hsq : ∀ i j, lawHas Tb i j = (inT Tb i && (inT Tb j && gi Tb i j)) := lawHas_sq hT.rect
    have hsqn : ∀ i j, lawHasnt Tb i j = (inT Tb i && (inT Tb j && !gi Tb i j)) := lawHasnt_sq hT.rect
    -- Self
    refine q_asg (v := .bl (lawHas Tb i i)) (ev_lawHas hT (ev_var rfl) (ev_var rfl) (ev_var rfl)) fun H1 e1 => ?_
    have h1 := hT.mono e1
    refine q_when (b := false) (et_is (et_not (et_B (ev_says (a := shown (.self i) Tb) (ev_showsN (k := .self) (eo_make (ans := .self i) (ear_i (ev_var rfl) ear_nil) rfl) rfl (ev_var rfl) h1 rfl) (ev_var rfl)))) (says_no (by rw [hsq]; simp only [shown]; cases inT Tb i <;> rfl))) (fun hb => nomatch hb) fun _ H2 e2 => ?_
    have e12 := e1.trans e2
    have h2 := hT.mono e12
    -- Mutual
    refine q_asg (v := .bl (!decide (i = j) && (lawHas Tb i j && lawHas Tb j i))) (ev_andV (ev_is (ev_op (ev_var (v := .int i) rfl) (ev_var (v := .int j) rfl) (rv_ne rfl)) (by rw [dec_int]; first | rfl | simp)) fun _ => ev_andV (ev_lawHas h2 (ev_var rfl) (ev_var rfl) (ev_var rfl)) fun _ => ev_lawHas h2 (ev_var rfl) (ev_var rfl) (ev_var rfl)) fun H3 e3 => ?_
    have e13 := e12.trans e3
    refine q_when (b := false) (et_is (et_not (et_B (ev_says (a := shown (.mutual i j) Tb) (ev_showsN (k := .mutual) (eo_make (ans := .mutual i j) (ear_i (ev_var rfl) (ear_i (ev_var rfl) ear_nil)) rfl) rfl (ev_var rfl) (hT.mono e13) rfl) (ev_var rfl)))) (says_no (by rw [hsq, hsq]; simp only [shown]; cases decide (i = j) <;> cases inT Tb i <;> cases inT Tb j <;> cases gi Tb i j <;> cases gi Tb j i <;> rfl))) (fun hb => nomatch hb) fun _ H4 e4 => ?_
    have e14 := e13.trans e4
    have h4 := hT.mono e14
    -- Neither
    refine q_asg (v := .bl (!decide (i = j) && (lawHasnt Tb i j && lawHasnt Tb j i))) (ev_andV (ev_is (ev_op (ev_var (v := .int i) rfl) (ev_var (v := .int j) rfl) (rv_ne rfl)) (by rw [dec_int]; first | rfl | simp)) fun _ => ev_andV (ev_lawHasnt h4 (ev_var rfl) (ev_var rfl) (ev_var rfl)) fun _ => ev_lawHasnt h4 (ev_var rfl) (ev_var rfl) (ev_var rfl)) fun H5 e5 => ?_
    have e15 := e14.trans e5
    refine q_when (b := false) (et_is (et_not (et_B (ev_says (a := shown (.neither i j) Tb) (ev_showsN (k := .neither) (eo_make (ans := .neither i j) (ear_i (ev_var rfl) (ear_i (ev_var rfl) ear_nil)) rfl) rfl (ev_var rfl) (hT.mono e15) rfl) (ev_var rfl)))) (says_no (by rw [hsqn, hsqn]; simp only [shown]; cases decide (i = j) <;> cases inT Tb i <;> cases inT Tb j <;> cases gi Tb i j <;> cases gi Tb j i <;> rfl))) (fun hb => nomatch hb) fun _ H6 e6 => ?_
    have e16 := e15.trans e6
    -- three
    refine q_asg (v := .bl (!decide (i = j) && !decide (i = k) && !decide (j = k))) (ev_is (ev_op (ev_lenSet (ns := [i, j, k]) (evs_few (ev_var rfl) (ev_var rfl) (ev_var rfl)) (Nat.le_of_ble_eq_true rfl)) ev_c (rv_eq rfl)) (by rw [dec_three])) fun H7 e7 => ?_
    have e17 := e16.trans e7
    have h7 := hT.mono e17
    refine q_asg (v := .bl ((!decide (i = j) && !decide (i = k) && !decide (j = k)) && (lawHas Tb i j && (lawHasnt Tb i k && lawHasnt Tb k j)))) (ev_andV (ev_var rfl) fun _ => ev_andV (ev_lawHas h7 (ev_var rfl) (ev_var rfl) (ev_var rfl)) fun _ => ev_andV (ev_lawHasnt h7 (ev_var rfl) (ev_var rfl) (ev_var rfl)) fun _ => ev_lawHasnt h7 (ev_var rfl) (ev_var rfl) (ev_var rfl)) fun H8 e8 => ?_
    have e18 := e17.trans e8
    refine q_when (b := false) (et_is (et_not (et_B (ev_says (a := shown (.beside i j k) Tb) (ev_showsN (k := .beside) (eo_make (ans := .beside i j k) (ear_i (ev_var rfl) (ear_i (ev_var rfl) (ear_i (ev_var rfl) ear_nil))) rfl) rfl (ev_var rfl) (hT.mono e18) rfl) (ev_var rfl)))) (says_no (by rw [hsq, hsqn, hsqn]; simp only [shown, threeT]; cases decide (i = j) <;> cases decide (i = k) <;> cases decide (j = k) <;> cases inT Tb i <;> cases inT Tb j <;> cases inT Tb k <;> cases gi Tb i j <;> cases gi Tb i k <;> cases gi Tb k j <;> rfl))) (fun hb => nomatch hb) fun _ H9 e9 => ?_
    have e19 := e18.trans e9
    have h9 := hT.mono e19
    refine q_asg (v := .bl ((!decide (i = j) && !decide (i = k) && !decide (j = k)) && (lawHas Tb i j && (lawHas Tb j k && lawHas Tb k i)))) (ev_andV (ev_var rfl) fun _ => ev_andV (ev_lawHas h9 (ev_var rfl) (ev_var rfl) (ev_var rfl)) fun _ => ev_andV (ev_lawHas h9 (ev_var rfl) (ev_var rfl) (ev_var rfl)) fun _ => ev_lawHas h9 (ev_var rfl) (ev_var rfl) (ev_var rfl)) fun H10 e10 => ?_
    have e110 := e19.trans e10
    refine q_when (b := false) (et_is (et_not (et_B (ev_says (a := shown (.round i j k) Tb) (ev_showsN (k := .round) (eo_make (ans := .round i j k) (ear_i (ev_var rfl) (ear_i (ev_var rfl) (ear_i (ev_var rfl) ear_nil))) rfl) rfl (ev_var rfl) (hT.mono e110) rfl) (ev_var rfl)))) (says_no (by rw [hsq, hsq, hsq]; simp only [shown, threeT]; cases decide (i = j) <;> cases decide (i = k) <;> cases decide (j = k) <;> cases inT Tb i <;> cases inT Tb j <;> cases inT Tb k <;> cases gi Tb i j <;> cases gi Tb j k <;> cases gi Tb k i <;> rfl))) (fun hb => nomatch hb) fun _ H11 e11 => ?_
    have e111 := e110.trans e11
    -- Cross
    refine q_asgO (eo_make (ans := .cross i j k l) (ear_i (ev_var rfl) (ear_i (ev_var rfl) (ear_i (ev_var rfl) (ear_i (ev_var rfl) ear_nil)))) rfl) fun x H12 _ e12' hA => ?_
    have e112 := e111.trans e12'
    refine q_when (b := false) (et_is (et_test (ev_neInts (T := [i, j, k, l]) (T' := [i, j, k, l]) (els (el_lst (ea_cons (ev_fld (ev_var rfl) hA T.cl_Cross T.n_Cross_one rfl) (ea_cons (ev_fld (ev_var rfl) hA T.cl_Cross T.n_Cross_first rfl) (ea_cons (ev_fld (ev_var rfl) hA T.cl_Cross T.n_Cross_other rfl) (ea_cons (ev_fld (ev_var rfl) hA T.cl_Cross T.n_Cross_second rfl) ea_nil)))) (show 4 ≤ 100000 by decide))) (els (el_lst (ea_cons (ev_var rfl) (ea_cons (ev_var rfl) (ea_cons (ev_var rfl) (ea_cons (ev_var rfl) ea_nil)))) (show 4 ≤ 100000 by decide))))) (by simp)) (fun hb => nomatch hb) fun _ H13 e13' => ?_
    have e113 := e112.trans e13'
    exact s_ret (ev_is (ev_says (a := shown (.cross i j k l) Tb) (b := shown (.cross i j k l) Tb) (ev_shows (k := .cross) (ev_var rfl) rfl (hA.mono e13') (ev_var rfl) (hT.mono e113) trivial) (ev_lawCross (hT.mono e113) (ev_var rfl) (ev_var rfl) (ev_var rfl) (ev_var rfl) (ev_var rfl))) (by simp)) fun H14 e14 => q H14 (e113.trans e14)

/-! ### _law_outright -/
def sp_law_outright (K : PySem.W.Frag) : Sp := spV fun vs _ z => vs = [] ∧ z = .bl true
theorem ev_negN {σ : L2.St} {H : Hp} (n : Int) : Ev (tUn rNegI (tC (.int n))) σ H (.int (-n)) := ev_un ev_c fun H1 e Q q => ⟨n, rfl, q H1 (Ex.refl H1)⟩
theorem cal__law_outright (T : Tx K mg) : C8.Cal P w K mg base (4 + 1) "_law_outright" (sp_law_outright K) [] := by
  refine T.d__law_outright.cal sc_law_outright (fun _ _ _ _ _ _ us hl => match us, hl with | [], _ => rfl) ?_ ?_
  · rintro vs H Q E ⟨z, ⟨rfl, _⟩, _⟩; rfl
  · rintro f cdv A outer s H vs Q E hr ⟨z, ⟨rfl, rfl⟩, q⟩
    refine ⟨(tSeq (tPar 0 1 (tCons (tLst (tCons (tC (.str "-x-")) (tCons (tC (.str "--x")) (tCons (tC (.str "x--")) tNil)))) (tCons (tLst (tCons (tC (.str "x-x")) (tCons (tC (.str "-xx")) tNil))) tNil))) (tSeq (tAsg (tLst (tCons (tMeth (gaK K .line) "shows" (sp_shows K .line) [] C8.E0 (tMake (gaK K .line) (sp_init K .line) [] C8.E0 (tCons (tLst (tCons (tC (.int 0)) (tCons (tC (.int 1)) (tCons (tC (.int 2)) tNil)))) tNil)) (tCons (tVar 0) tNil)) (tCons (tMeth (gaK K .steps) "shows" (sp_shows K .steps) [] C8.E0 (tMake (gaK K .steps) (sp_init K .steps) [] C8.E0 (tCons (tLst (tCons (tC (.int 1)) (tCons (tC (.int 1)) tNil))) (tCons (tLst (tCons (tC (.int 0)) (tCons (tC (.int 0)) (tCons (tC (.int 0)) tNil)))) tNil))) (tCons (tVar 1) tNil)) (tCons (tMeth (gaK K .self) "shows" (sp_shows K .self) [] C8.E0 (tMake (gaK K .self) (sp_init K .self) [] C8.E0 (tCons (tUn rNegI (tC (.int 1))) tNil)) (tCons (tLst (tCons (tC (.str "x")) tNil)) tNil)) tNil)))) (gName 2)) (tSeq (tAsg (tOp rCat (tVar 2) (tLst (tCons (tMeth (gaK K .neither) "shows" (sp_shows K .neither) [] C8.E0 (tMake (gaK K .neither) (sp_init K .neither) [] C8.E0 (tCons (tC (.int 0)) (tCons (tC (.int 0)) tNil))) (tCons (tLst (tCons (tC (.str "-")) tNil)) tNil)) (tCons (tMeth (gaK K .mutual) "shows" (sp_shows K .mutual) [] C8.E0 (tMake (gaK K .mutual) (sp_init K .mutual) [] C8.E0 (tCons (tC (.int 0)) (tCons (tC (.int 0)) tNil))) (tCons (tLst (tCons (tC (.str "x")) tNil)) tNil)) (tCons (tMeth (gaK K .round) "shows" (sp_shows K .round) [] C8.E0 (tMake (gaK K .round) (sp_init K .round) [] C8.E0 (tCons (tC (.int 0)) (tCons (tC (.int 0)) (tCons (tC (.int 0)) tNil)))) (tCons (tLst (tCons (tC (.str "x")) tNil)) tNil)) tNil))))) (gName 2)) (tSeq (tAsg (tOp rCat (tVar 2) (tLst (tCons (tMeth (gaK K .round) "shows" (sp_shows K .round) [] C8.E0 (tMake (gaK K .round) (sp_init K .round) [] C8.E0 (tCons (tC (.int 0)) (tCons (tC (.int 2)) (tCons (tC (.int 1)) tNil)))) (tCons (tVar 0) tNil)) (tCons (tMeth (gaK K .cross) "shows" (sp_shows K .cross) [] C8.E0 (tMake (gaK K .cross) (sp_init K .cross) [] C8.E0 (tCons (tC (.int 0)) (tCons (tC (.int 0)) (tCons (tC (.int 1)) (tCons (tC (.int 2)) tNil))))) (tCons (tVar 1) tNil)) (tCons (tMeth (gaK K .cross) "shows" (sp_shows K .cross) [] C8.E0 (tMake (gaK K .cross) (sp_init K .cross) [] C8.E0 (tCons (tC (.int 0)) (tCons (tUn rNegI (tC (.int 3))) (tCons (tC (.int 1)) (tCons (tC (.int 1)) tNil))))) (tCons (tVar 1) tNil)) tNil))))) (gName 2)) (tSeq (tDrop (tBM K "list" rAppend (tVar 2) (tCons (tMeth (gaK K .stretches) "shows" (sp_shows K .stretches) [] C8.E0 (tMake (gaK K .stretches) (sp_init K .stretches) [] C8.E0 (tCons (tLst (tCons (tC (.int 0)) (tCons (tC (.int 0)) tNil))) (tCons (tLst (tCons (tC (.int 0)) (tCons (tC (.int 0)) tNil))) (tCons (tLst (tCons (tC (.int 0)) (tCons (tC (.int 1)) tNil))) tNil)))) (tCons (tLst (tCons (tC (.str "--")) (tCons (tC (.str "--")) tNil))) tNil)) tNil))) (tSeq (tDrop (tBM K "list" rAppend (tVar 2) (tCons (tMeth (gaK K .stretches) "shows" (sp_shows K .stretches) [] C8.E0 (tMake (gaK K .stretches) (sp_init K .stretches) [] C8.E0 (tCons (tLst (tCons (tC (.int 0)) (tCons (tC (.int 1)) tNil))) (tCons (tLst (tCons (tC (.int 0)) (tCons (tC (.int 1)) tNil))) (tCons (tLst (tCons (tC (.int 0)) tNil)) tNil)))) (tCons (tLst (tCons (tC (.str "-x")) (tCons (tC (.str "--")) tNil))) tNil)) tNil))) (tSeq (tAsg (tOp rCat (tVar 2) (tLst (tCons (tMeth (gaK K .mutual) "shows" (sp_shows K .mutual) [] C8.E0 (tMake (gaK K .mutual) (sp_init K .mutual) [] C8.E0 (tCons (tC (.int 0)) (tCons (tC (.int 1)) tNil))) (tCons (tLst (tCons (tC (.str "-x")) (tCons (tC (.str "--")) tNil))) tNil)) (tCons (tMeth (gaK K .ranks) "shows" (sp_shows K .ranks) [] C8.E0 (tMake (gaK K .ranks) (sp_init K .ranks) [] C8.E0 (tCons (tLst (tCons (tC (.int 0)) (tCons (tC (.int 0)) (tCons (tC (.int 0)) tNil)))) tNil)) (tCons (tVar 0) tNil)) (tCons (tMeth (gaK K .steps) "shows" (sp_shows K .steps) [] C8.E0 (tMake (gaK K .steps) (sp_init K .steps) [] C8.E0 (tCons (tLst tNil) (tCons (tLst (tCons (tC (.int 1)) tNil)) tNil))) (tCons (tLst tNil) tNil)) tNil))))) (gName 2)) (tSeq (tAsg (tOp rCat (tVar 2) (tLst (tCons (tMeth (gaK K .stretches) "shows" (sp_shows K .stretches) [] C8.E0 (tMake (gaK K .stretches) (sp_init K .stretches) [] C8.E0 (tCons (tLst (tCons (tC (.int 0)) (tCons (tC (.int 0)) tNil))) (tCons (tLst (tCons (tUn rNegI (tC (.int 1))) (tCons (tC (.int 0)) tNil))) (tCons (tLst (tCons (tC (.int 0)) tNil)) tNil)))) (tCons (tLst (tCons (tC (.str "xx")) (tCons (tC (.str "--")) tNil))) tNil)) (tCons (tMeth (gaK K .beside) "shows" (sp_shows K .beside) [] C8.E0 (tMake (gaK K .beside) (sp_init K .beside) [] C8.E0 (tCons (tC (.int 0)) (tCons (tC (.int 1)) (tCons (tC (.int 2)) tNil)))) (tCons (tLst (tCons (tC (.str "-xx")) (tCons (tC (.str "---")) (tCons (tC (.str "---")) tNil)))) tNil)) tNil)))) (gName 2)) (tSeq (tAsg (tOp rCat (tVar 2) (tLst (tCons (tMeth (gaK K .cross) "shows" (sp_shows K .cross) [] C8.E0 (tMake (gaK K .cross) (sp_init K .cross) [] C8.E0 (tCons (tC (.int 0)) (tCons (tC (.int 2)) (tCons (tC (.int 1)) (tCons (tC (.int 1)) tNil))))) (tCons (tVar 1) tNil)) (tCons (tMeth (gaK K .beside) "shows" (sp_shows K .beside) [] C8.E0 (tMake (gaK K .beside) (sp_init K .beside) [] C8.E0 (tCons (tC (.int 0)) (tCons (tC (.int 1)) (tCons (tC (.int 2)) tNil)))) (tCons (tLst (tCons (tC (.str "-x-")) (tCons (tC (.str "---")) (tCons (tC (.str "-x-")) tNil)))) tNil)) tNil)))) (gName 2)) (tSeq (tDrop (tBM K "list" rAppend (tVar 2) (tCons (tMeth (gaK K .line) "shows" (sp_shows K .line) [] C8.E0 (tMake (gaK K .line) (sp_init K .line) [] C8.E0 (tCons (tLst (tCons (tC (.int 0)) (tCons (tC (.int 0)) tNil))) tNil)) (tCons (tLst (tCons (tC (.str "--")) (tCons (tC (.str "x-")) tNil))) tNil)) tNil))) (tSeq (tAsg (tLst (tCons (tMeth (gaK K .round) "shows" (sp_shows K .round) [] C8.E0 (tMake (gaK K .round) (sp_init K .round) [] C8.E0 (tCons (tC (.int 0)) (tCons (tC (.int 1)) (tCons (tC (.int 2)) tNil)))) (tCons (tVar 0) tNil)) (tCons (tMeth (gaK K .cross) "shows" (sp_shows K .cross) [] C8.E0 (tMake (gaK K .cross) (sp_init K .cross) [] C8.E0 (tCons (tC (.int 0)) (tCons (tC (.int 0)) (tCons (tC (.int 1)) (tCons (tC (.int 1)) tNil))))) (tCons (tVar 1) tNil)) (tCons (tMeth (gaK K .steps) "shows" (sp_shows K .steps) [] C8.E0 (tMake (gaK K .steps) (sp_init K .steps) [] C8.E0 (tCons (tLst tNil) (tCons (tLst tNil) tNil))) (tCons (tLst tNil) tNil)) (tCons (tMeth (gaK K .line) "shows" (sp_shows K .line) [] C8.E0 (tMake (gaK K .line) (sp_init K .line) [] C8.E0 (tCons (tLst tNil) tNil)) (tCons (tLst tNil) tNil)) tNil))))) (gName 3)) (tSeq (tAsg (tOp rCat (tVar 3) (tLst (tCons (tMeth (gaK K .stretches) "shows" (sp_shows K .stretches) [] C8.E0 (tMake (gaK K .stretches) (sp_init K .stretches) [] C8.E0 (tCons (tLst (tCons (tC (.int 0)) (tCons (tC (.int 1)) tNil))) (tCons (tLst (tCons (tC (.int 0)) (tCons (tC (.int 1)) tNil))) (tCons (tLst (tCons (tC (.int 0)) (tCons (tC (.int 1)) tNil))) tNil)))) (tCons (tLst (tCons (tC (.str "-x")) (tCons (tC (.str "--")) tNil))) tNil)) (tCons (tMeth (gaK K .beside) "shows" (sp_shows K .beside) [] C8.E0 (tMake (gaK K .beside) (sp_init K .beside) [] C8.E0 (tCons (tC (.int 0)) (tCons (tC (.int 1)) (tCons (tC (.int 2)) tNil)))) (tCons (tLst (tCons (tC (.str "-x-")) (tCons (tC (.str "---")) (tCons (tC (.str "---")) tNil)))) tNil)) tNil)))) (gName 3)) (tSeq (tAsg (tOp rCat (tVar 3) (tLst (tCons (tMeth (gaK K .neither) "shows" (sp_shows K .neither) [] C8.E0 (tMake (gaK K .neither) (sp_init K .neither) [] C8.E0 (tCons (tC (.int 1)) (tCons (tC (.int 2)) tNil))) (tCons (tLst (tCons (tC (.str "-x-")) (tCons (tC (.str "---")) (tCons (tC (.str "---")) tNil)))) tNil)) (tCons (tMeth (gaK K .line) "shows" (sp_shows K .line) [] C8.E0 (tMake (gaK K .line) (sp_init K .line) [] C8.E0 (tCons (tLst (tCons (tC (.int 1)) (tCons (tC (.int 0)) tNil))) tNil)) (tCons (tLst (tCons (tC (.str "--")) (tCons (tC (.str "x-")) tNil))) tNil)) (tCons (tMeth (gaK K .ranks) "shows" (sp_shows K .ranks) [] C8.E0 (tMake (gaK K .ranks) (sp_init K .ranks) [] C8.E0 (tCons (tLst tNil) tNil)) (tCons (tLst tNil) tNil)) tNil))))) (gName 3)) (tRet (tAndV (tCB (rAll K) (tCons (tLc (iList K (tVar 2)) (gName 4) tYes (tCall (sp_law_says K) [] C8.E0 (tCons (tVar 4) (tCons (tC (.bl false)) tNil))) [4]) tNil)) (tCB (rAll K) (tCons (tLc (iList K (tVar 3)) (gName 4) tYes (tCall (sp_law_says K) [] C8.E0 (tCons (tVar 4) (tCons (tC (.bl true)) tNil))) [4]) tNil))))))))))))))))), (pss_cons (ps_par (i := 0) (j := 1) rfl sc_law_outright.nd rfl rfl (by decide) rfl rfl (pa_cons (pe_lst (pa_cons pe_str (pa_cons pe_str (pa_cons pe_str pa_nil)))) (pa_cons (pe_lst (pa_cons pe_str (pa_cons pe_str pa_nil))) pa_nil)) (by rfl)) (pss_cons (ps_set (i := 2) sc_law_outright.nd rfl (Or.inl rfl) (pe_lst (pa_cons (C8.pe_mt (met_Line T) hr (by decide) (C8.pe_mk (mak_Line T) hr (by decide) (by rfl) (pa_cons (pe_lst (pa_cons pe_int (pa_cons pe_int (pa_cons pe_int pa_nil)))) pa_nil)) (pa_cons (pv 0) pa_nil)) (pa_cons (C8.pe_mt (met_Steps T) hr (by decide) (C8.pe_mk (mak_Steps T) hr (by decide) (by rfl) (pa_cons (pe_lst (pa_cons pe_int (pa_cons pe_int pa_nil))) (pa_cons (pe_lst (pa_cons pe_int (pa_cons pe_int (pa_cons pe_int pa_nil)))) pa_nil))) (pa_cons (pv 1) pa_nil)) (pa_cons (C8.pe_mt (met_Self T) hr (by decide) (C8.pe_mk (mak_Self T) hr (by decide) (by rfl) (pa_cons (pe_un un_neg pe_int) pa_nil)) (pa_cons (pe_lst (pa_cons pe_str pa_nil)) pa_nil)) pa_nil))))) (pss_cons (ps_set (i := 2) sc_law_outright.nd rfl (Or.inl rfl) (pe_op op_cat (pv 2) (pe_lst (pa_cons (C8.pe_mt (met_Neither T) hr (by decide) (C8.pe_mk (mak_Neither T) hr (by decide) (by rfl) (pa_cons pe_int (pa_cons pe_int pa_nil))) (pa_cons (pe_lst (pa_cons pe_str pa_nil)) pa_nil)) (pa_cons (C8.pe_mt (met_Mutual T) hr (by decide) (C8.pe_mk (mak_Mutual T) hr (by decide) (by rfl) (pa_cons pe_int (pa_cons pe_int pa_nil))) (pa_cons (pe_lst (pa_cons pe_str pa_nil)) pa_nil)) (pa_cons (C8.pe_mt (met_Round T) hr (by decide) (C8.pe_mk (mak_Round T) hr (by decide) (by rfl) (pa_cons pe_int (pa_cons pe_int (pa_cons pe_int pa_nil)))) (pa_cons (pe_lst (pa_cons pe_str pa_nil)) pa_nil)) pa_nil)))))) (pss_cons (ps_set (i := 2) sc_law_outright.nd rfl (Or.inl rfl) (pe_op op_cat (pv 2) (pe_lst (pa_cons (C8.pe_mt (met_Round T) hr (by decide) (C8.pe_mk (mak_Round T) hr (by decide) (by rfl) (pa_cons pe_int (pa_cons pe_int (pa_cons pe_int pa_nil)))) (pa_cons (pv 0) pa_nil)) (pa_cons (C8.pe_mt (met_Cross T) hr (by decide) (C8.pe_mk (mak_Cross T) hr (by decide) (by rfl) (pa_cons pe_int (pa_cons pe_int (pa_cons pe_int (pa_cons pe_int pa_nil))))) (pa_cons (pv 1) pa_nil)) (pa_cons (C8.pe_mt (met_Cross T) hr (by decide) (C8.pe_mk (mak_Cross T) hr (by decide) (by rfl) (pa_cons pe_int (pa_cons (pe_un un_neg pe_int) (pa_cons pe_int (pa_cons pe_int pa_nil))))) (pa_cons (pv 1) pa_nil)) pa_nil)))))) (pss_cons (ps_expr (pe_bm PySem.F.plainAttrs_list PySem.F.slot_list_append PySem.F.type_list_append mt_append (pv 2) (pa_cons (C8.pe_mt (met_Stretches T) hr (by decide) (C8.pe_mk (mak_Stretches T) hr (by decide) (by rfl) (pa_cons (pe_lst (pa_cons pe_int (pa_cons pe_int pa_nil))) (pa_cons (pe_lst (pa_cons pe_int (pa_cons pe_int pa_nil))) (pa_cons (pe_lst (pa_cons pe_int (pa_cons pe_int pa_nil))) pa_nil)))) (pa_cons (pe_lst (pa_cons pe_str (pa_cons pe_str pa_nil))) pa_nil)) pa_nil))) (pss_cons (ps_expr (pe_bm PySem.F.plainAttrs_list PySem.F.slot_list_append PySem.F.type_list_append mt_append (pv 2) (pa_cons (C8.pe_mt (met_Stretches T) hr (by decide) (C8.pe_mk (mak_Stretches T) hr (by decide) (by rfl) (pa_cons (pe_lst (pa_cons pe_int (pa_cons pe_int pa_nil))) (pa_cons (pe_lst (pa_cons pe_int (pa_cons pe_int pa_nil))) (pa_cons (pe_lst (pa_cons pe_int pa_nil)) pa_nil)))) (pa_cons (pe_lst (pa_cons pe_str (pa_cons pe_str pa_nil))) pa_nil)) pa_nil))) (pss_cons (ps_set (i := 2) sc_law_outright.nd rfl (Or.inl rfl) (pe_op op_cat (pv 2) (pe_lst (pa_cons (C8.pe_mt (met_Mutual T) hr (by decide) (C8.pe_mk (mak_Mutual T) hr (by decide) (by rfl) (pa_cons pe_int (pa_cons pe_int pa_nil))) (pa_cons (pe_lst (pa_cons pe_str (pa_cons pe_str pa_nil))) pa_nil)) (pa_cons (C8.pe_mt (met_Ranks T) hr (by decide) (C8.pe_mk (mak_Ranks T) hr (by decide) (by rfl) (pa_cons (pe_lst (pa_cons pe_int (pa_cons pe_int (pa_cons pe_int pa_nil)))) pa_nil)) (pa_cons (pv 0) pa_nil)) (pa_cons (C8.pe_mt (met_Steps T) hr (by decide) (C8.pe_mk (mak_Steps T) hr (by decide) (by rfl) (pa_cons (pe_lst pa_nil) (pa_cons (pe_lst (pa_cons pe_int pa_nil)) pa_nil))) (pa_cons (pe_lst pa_nil) pa_nil)) pa_nil)))))) (pss_cons (ps_set (i := 2) sc_law_outright.nd rfl (Or.inl rfl) (pe_op op_cat (pv 2) (pe_lst (pa_cons (C8.pe_mt (met_Stretches T) hr (by decide) (C8.pe_mk (mak_Stretches T) hr (by decide) (by rfl) (pa_cons (pe_lst (pa_cons pe_int (pa_cons pe_int pa_nil))) (pa_cons (pe_lst (pa_cons (pe_un un_neg pe_int) (pa_cons pe_int pa_nil))) (pa_cons (pe_lst (pa_cons pe_int pa_nil)) pa_nil)))) (pa_cons (pe_lst (pa_cons pe_str (pa_cons pe_str pa_nil))) pa_nil)) (pa_cons (C8.pe_mt (met_Beside T) hr (by decide) (C8.pe_mk (mak_Beside T) hr (by decide) (by rfl) (pa_cons pe_int (pa_cons pe_int (pa_cons pe_int pa_nil)))) (pa_cons (pe_lst (pa_cons pe_str (pa_cons pe_str (pa_cons pe_str pa_nil)))) pa_nil)) pa_nil))))) (pss_cons (ps_set (i := 2) sc_law_outright.nd rfl (Or.inl rfl) (pe_op op_cat (pv 2) (pe_lst (pa_cons (C8.pe_mt (met_Cross T) hr (by decide) (C8.pe_mk (mak_Cross T) hr (by decide) (by rfl) (pa_cons pe_int (pa_cons pe_int (pa_cons pe_int (pa_cons pe_int pa_nil))))) (pa_cons (pv 1) pa_nil)) (pa_cons (C8.pe_mt (met_Beside T) hr (by decide) (C8.pe_mk (mak_Beside T) hr (by decide) (by rfl) (pa_cons pe_int (pa_cons pe_int (pa_cons pe_int pa_nil)))) (pa_cons (pe_lst (pa_cons pe_str (pa_cons pe_str (pa_cons pe_str pa_nil)))) pa_nil)) pa_nil))))) (pss_cons (ps_expr (pe_bm PySem.F.plainAttrs_list PySem.F.slot_list_append PySem.F.type_list_append mt_append (pv 2) (pa_cons (C8.pe_mt (met_Line T) hr (by decide) (C8.pe_mk (mak_Line T) hr (by decide) (by rfl) (pa_cons (pe_lst (pa_cons pe_int (pa_cons pe_int pa_nil))) pa_nil)) (pa_cons (pe_lst (pa_cons pe_str (pa_cons pe_str pa_nil))) pa_nil)) pa_nil))) (pss_cons (ps_set (i := 3) sc_law_outright.nd rfl (Or.inl rfl) (pe_lst (pa_cons (C8.pe_mt (met_Round T) hr (by decide) (C8.pe_mk (mak_Round T) hr (by decide) (by rfl) (pa_cons pe_int (pa_cons pe_int (pa_cons pe_int pa_nil)))) (pa_cons (pv 0) pa_nil)) (pa_cons (C8.pe_mt (met_Cross T) hr (by decide) (C8.pe_mk (mak_Cross T) hr (by decide) (by rfl) (pa_cons pe_int (pa_cons pe_int (pa_cons pe_int (pa_cons pe_int pa_nil))))) (pa_cons (pv 1) pa_nil)) (pa_cons (C8.pe_mt (met_Steps T) hr (by decide) (C8.pe_mk (mak_Steps T) hr (by decide) (by rfl) (pa_cons (pe_lst pa_nil) (pa_cons (pe_lst pa_nil) pa_nil))) (pa_cons (pe_lst pa_nil) pa_nil)) (pa_cons (C8.pe_mt (met_Line T) hr (by decide) (C8.pe_mk (mak_Line T) hr (by decide) (by rfl) (pa_cons (pe_lst pa_nil) pa_nil)) (pa_cons (pe_lst pa_nil) pa_nil)) pa_nil)))))) (pss_cons (ps_set (i := 3) sc_law_outright.nd rfl (Or.inl rfl) (pe_op op_cat (pv 3) (pe_lst (pa_cons (C8.pe_mt (met_Stretches T) hr (by decide) (C8.pe_mk (mak_Stretches T) hr (by decide) (by rfl) (pa_cons (pe_lst (pa_cons pe_int (pa_cons pe_int pa_nil))) (pa_cons (pe_lst (pa_cons pe_int (pa_cons pe_int pa_nil))) (pa_cons (pe_lst (pa_cons pe_int (pa_cons pe_int pa_nil))) pa_nil)))) (pa_cons (pe_lst (pa_cons pe_str (pa_cons pe_str pa_nil))) pa_nil)) (pa_cons (C8.pe_mt (met_Beside T) hr (by decide) (C8.pe_mk (mak_Beside T) hr (by decide) (by rfl) (pa_cons pe_int (pa_cons pe_int (pa_cons pe_int pa_nil)))) (pa_cons (pe_lst (pa_cons pe_str (pa_cons pe_str (pa_cons pe_str pa_nil)))) pa_nil)) pa_nil))))) (pss_cons (ps_set (i := 3) sc_law_outright.nd rfl (Or.inl rfl) (pe_op op_cat (pv 3) (pe_lst (pa_cons (C8.pe_mt (met_Neither T) hr (by decide) (C8.pe_mk (mak_Neither T) hr (by decide) (by rfl) (pa_cons pe_int (pa_cons pe_int pa_nil))) (pa_cons (pe_lst (pa_cons pe_str (pa_cons pe_str (pa_cons pe_str pa_nil)))) pa_nil)) (pa_cons (C8.pe_mt (met_Line T) hr (by decide) (C8.pe_mk (mak_Line T) hr (by decide) (by rfl) (pa_cons (pe_lst (pa_cons pe_int (pa_cons pe_int pa_nil))) pa_nil)) (pa_cons (pe_lst (pa_cons pe_str (pa_cons pe_str pa_nil))) pa_nil)) (pa_cons (C8.pe_mt (met_Ranks T) hr (by decide) (C8.pe_mk (mak_Ranks T) hr (by decide) (by rfl) (pa_cons (pe_lst pa_nil) pa_nil)) (pa_cons (pe_lst pa_nil) pa_nil)) pa_nil)))))) (pss_one (ps_ret (pe_and (pe_callB (id := "all") (cr_all rfl) (by rfl) T.all (by decide +kernel) (pa_cons (pe_lc (own := [("_law_said", 4)]) rfl sc_law_outright.nd (pi_list (pv 2)) (blkOk_by (own := [("_law_said", 4)]) (by kernel_rfl)) (fun _ _ _ _ _ => (pg_name (i := 4) sc_law_outright.nd rfl (Or.inl rfl))) (fun _ _ _ _ _ => pts_nil) (fun _ _ _ _ _ => (C8.pe_c (cal__law_says T) hr (by decide) (by rfl) (pa_cons (pv 4) (pa_cons pe_bl pa_nil))))) pa_nil)) (pe_one (pe_callB (id := "all") (cr_all rfl) (by rfl) T.all (by decide +kernel) (pa_cons (pe_lc (own := [("_law_said", 4)]) rfl sc_law_outright.nd (pi_list (pv 3)) (blkOk_by (own := [("_law_said", 4)]) (by kernel_rfl)) (fun _ _ _ _ _ => (pg_name (i := 4) sc_law_outright.nd rfl (Or.inl rfl))) (fun _ _ _ _ _ => pts_nil) (fun _ _ _ _ _ => (C8.pe_c (cal__law_says T) hr (by decide) (by rfl) (pa_cons (pv 4) (pa_cons pe_bl pa_nil))))) pa_nil))))))))))))))))))), ?_⟩
    refine q_parLL (xs := tv [[false, true, false], [false, false, true], [true, false, false]]) (ys := tv [[true, false, true], [false, true, true]]) (EvL.is (el_lst (ea_cons ev_c (ea_cons ev_c (ea_cons ev_c ea_nil))) (show 3 ≤ 100000 by decide)) (by decide +kernel)) (EvL.is (el_lst (ea_cons ev_c (ea_cons ev_c ea_nil)) (show 2 ≤ 100000 by decide)) (by decide +kernel)) fun p3 pw H1 e1 h3 hw => ?_
    have a3 : At K H1 p3 [[false, true, false], [false, false, true], [true, false, false]] 3 := ⟨sq_of h3, show ∀ r ∈ ([[false, true, false], [false, false, true], [true, false, false]] : Tb), r.length = 3 by decide, by decide, by decide⟩
    have aw : At K H1 pw [[true, false, true], [false, true, true]] 3 := ⟨sq_of hw, show ∀ r ∈ ([[true, false, true], [false, true, true]] : Tb), r.length = 3 by decide, by decide, by decide⟩
    refine q_asgL (xs := ((List.replicate 3 false).map V.bl)) (el_lst (ea_cons (ev_is (ev_showsN (k := .line) (T := [[false, true, false], [false, false, true], [true, false, false]]) (eo_make (ans := (.line [0, 1, 2])) (ear_l (els (el_lst (ea_cons ev_c (ea_cons ev_c (ea_cons ev_c ea_nil))) (show 3 ≤ 100000 by decide))) ear_nil) rfl) rfl (ev_var rfl) (a3) rfl (show (3 : Nat) ≤ 1000 by decide)) (congrArg V.bl (show shown (.line [0, 1, 2]) [[false, true, false], [false, false, true], [true, false, false]] = false by decide +kernel))) (ea_cons (ev_is (ev_showsN (k := .steps) (T := [[true, false, true], [false, true, true]]) (eo_make (ans := (.steps [1, 1] [0, 0, 0])) (ear_l (els (el_lst (ea_cons ev_c (ea_cons ev_c ea_nil)) (show 2 ≤ 100000 by decide))) (ear_l (els (el_lst (ea_cons ev_c (ea_cons ev_c (ea_cons ev_c ea_nil))) (show 3 ≤ 100000 by decide))) ear_nil)) rfl) rfl (ev_var rfl) (aw) trivial) (congrArg V.bl (show shown (.steps [1, 1] [0, 0, 0]) [[true, false, true], [false, true, true]] = false by decide +kernel))) (ea_cons (ev_is (ev_showsNL (k := .self) (T := [[true]]) (w := 1) (eo_make (ans := (.self (-1))) (ear_i (ev_negN 1) ear_nil) rfl) rfl (els (EvL.is (el_lst (ea_cons ev_c ea_nil) (show 1 ≤ 100000 by decide)) (show _ = tv [[true]] by decide +kernel))) ⟨show ∀ r ∈ ([[true]] : Tb), r.length = 1 by decide, show 1 ≤ 1000 by decide, show 1 ≤ 1000 by decide⟩ rfl) (congrArg V.bl (show shown (.self (-1)) [[true]] = false by decide +kernel))) ea_nil))) (show 3 ≤ 100000 by decide)) fun p2 H2 f2 e2 l2 => ?_
    have g2 : H1 p2 = none := f2
    refine q_asgL (xs := ((List.replicate 6 false).map V.bl)) (el_catM (xs := ((List.replicate 3 false).map V.bl)) (ys := ((List.replicate 3 false).map V.bl)) (em_v (ev_var rfl) l2) (em_l (el_lst (ea_cons (ev_is (ev_showsNL (k := .neither) (T := [[false]]) (w := 1) (eo_make (ans := (.neither 0 0)) (ear_i ev_c (ear_i ev_c ear_nil)) rfl) rfl (els (EvL.is (el_lst (ea_cons ev_c ea_nil) (show 1 ≤ 100000 by decide)) (show _ = tv [[false]] by decide +kernel))) ⟨show ∀ r ∈ ([[false]] : Tb), r.length = 1 by decide, show 1 ≤ 1000 by decide, show 1 ≤ 1000 by decide⟩ rfl) (congrArg V.bl (show shown (.neither 0 0) [[false]] = false by decide +kernel))) (ea_cons (ev_is (ev_showsNL (k := .mutual) (T := [[true]]) (w := 1) (eo_make (ans := (.mutual 0 0)) (ear_i ev_c (ear_i ev_c ear_nil)) rfl) rfl (els (EvL.is (el_lst (ea_cons ev_c ea_nil) (show 1 ≤ 100000 by decide)) (show _ = tv [[true]] by decide +kernel))) ⟨show ∀ r ∈ ([[true]] : Tb), r.length = 1 by decide, show 1 ≤ 1000 by decide, show 1 ≤ 1000 by decide⟩ rfl) (congrArg V.bl (show shown (.mutual 0 0) [[true]] = false by decide +kernel))) (ea_cons (ev_is (ev_showsNL (k := .round) (T := [[true]]) (w := 1) (eo_make (ans := (.round 0 0 0)) (ear_i ev_c (ear_i ev_c (ear_i ev_c ear_nil))) rfl) rfl (els (EvL.is (el_lst (ea_cons ev_c ea_nil) (show 1 ≤ 100000 by decide)) (show _ = tv [[true]] by decide +kernel))) ⟨show ∀ r ∈ ([[true]] : Tb), r.length = 1 by decide, show 1 ≤ 1000 by decide, show 1 ≤ 1000 by decide⟩ rfl) (congrArg V.bl (show shown (.round 0 0 0) [[true]] = false by decide +kernel))) ea_nil))) (show 3 ≤ 100000 by decide))) (by decide)) fun p3 H3 f3 e3 l3 => ?_
    have x3 := e2.trans e3
    have g3 : H1 p3 = none := fresh_back e2 f3
    refine q_asgL (xs := ((List.replicate 9 false).map V.bl)) (el_catM (xs := ((List.replicate 6 false).map V.bl)) (ys := ((List.replicate 3 false).map V.bl)) (em_v (ev_var rfl) l3) (em_l (el_lst (ea_cons (ev_is (ev_showsN (k := .round) (T := [[false, true, false], [false, false, true], [true, false, false]]) (eo_make (ans := (.round 0 2 1)) (ear_i ev_c (ear_i ev_c (ear_i ev_c ear_nil))) rfl) rfl (ev_var rfl) (a3.mono x3) rfl) (congrArg V.bl (show shown (.round 0 2 1) [[false, true, false], [false, false, true], [true, false, false]] = false by decide +kernel))) (ea_cons (ev_is (ev_showsN (k := .cross) (T := [[true, false, true], [false, true, true]]) (eo_make (ans := (.cross 0 0 1 2)) (ear_i ev_c (ear_i ev_c (ear_i ev_c (ear_i ev_c ear_nil)))) rfl) rfl (ev_var rfl) (aw.mono x3) trivial) (congrArg V.bl (show shown (.cross 0 0 1 2) [[true, false, true], [false, true, true]] = false by decide +kernel))) (ea_cons (ev_is (ev_showsN (k := .cross) (T := [[true, false, true], [false, true, true]]) (eo_make (ans := (.cross 0 (-3) 1 1)) (ear_i ev_c (ear_i (ev_negN 3) (ear_i ev_c (ear_i ev_c ear_nil)))) rfl) rfl (ev_var rfl) (aw.mono x3) trivial) (congrArg V.bl (show shown (.cross 0 (-3) 1 1) [[true, false, true], [false, true, true]] = false by decide +kernel))) ea_nil))) (show 3 ≤ 100000 by decide))) (by decide)) fun p4 H4 f4 e4 l4 => ?_
    have x4 := x3.trans e4
    have g4 : H1 p4 = none := fresh_back x3 f4
    refine q_app (l := p4) (xs := ((List.replicate 9 false).map V.bl)) l4 (ev_var rfl) (ev_is (ev_showsNL (k := .stretches) (T := [[false, false], [false, false]]) (w := 2) (eo_make (ans := (.stretches [0, 0] [0, 0] [0, 1])) (ear_l (els (el_lst (ea_cons ev_c (ea_cons ev_c ea_nil)) (show 2 ≤ 100000 by decide))) (ear_l (els (el_lst (ea_cons ev_c (ea_cons ev_c ea_nil)) (show 2 ≤ 100000 by decide))) (ear_l (els (el_lst (ea_cons ev_c (ea_cons ev_c ea_nil)) (show 2 ≤ 100000 by decide))) ear_nil))) rfl) rfl (els (EvL.is (el_lst (ea_cons ev_c (ea_cons ev_c ea_nil)) (show 2 ≤ 100000 by decide)) (show _ = tv [[false, false], [false, false]] by decide +kernel))) ⟨show ∀ r ∈ ([[false, false], [false, false]] : Tb), r.length = 2 by decide, show 2 ≤ 1000 by decide, show 2 ≤ 1000 by decide⟩ rfl (show (2 : Nat) ≤ 1000 by decide)) (congrArg V.bl (show shown (.stretches [0, 0] [0, 0] [0, 1]) [[false, false], [false, false]] = false by decide +kernel))) (by decide) fun J5 e5 => ?_
    have x5 : Ex H1 (upd J5 p4 (.lst (((List.replicate 9 false).map V.bl) ++ [.bl false]))) := Ex.mut (x4.trans e5) g4
    have l5 : upd J5 p4 (.lst (((List.replicate 9 false).map V.bl) ++ [.bl false])) p4 = some (.lst ((List.replicate 10 false).map V.bl)) := upd_same
    revert x5 l5
    generalize upd J5 p4 (.lst (((List.replicate 9 false).map V.bl) ++ [.bl false])) = H5
    intro x5 l5
    refine q_app (l := p4) (xs := ((List.replicate 10 false).map V.bl)) l5 (ev_var rfl) (ev_is (ev_showsNL (k := .stretches) (T := [[false, true], [false, false]]) (w := 2) (eo_make (ans := (.stretches [0, 1] [0, 1] [0])) (ear_l (els (el_lst (ea_cons ev_c (ea_cons ev_c ea_nil)) (show 2 ≤ 100000 by decide))) (ear_l (els (el_lst (ea_cons ev_c (ea_cons ev_c ea_nil)) (show 2 ≤ 100000 by decide))) (ear_l (els (el_lst (ea_cons ev_c ea_nil) (show 1 ≤ 100000 by decide))) ear_nil))) rfl) rfl (els (EvL.is (el_lst (ea_cons ev_c (ea_cons ev_c ea_nil)) (show 2 ≤ 100000 by decide)) (show _ = tv [[false, true], [false, false]] by decide +kernel))) ⟨show ∀ r ∈ ([[false, true], [false, false]] : Tb), r.length = 2 by decide, show 2 ≤ 1000 by decide, show 2 ≤ 1000 by decide⟩ rfl (show (1 : Nat) ≤ 1000 by decide)) (congrArg V.bl (show shown (.stretches [0, 1] [0, 1] [0]) [[false, true], [false, false]] = false by decide +kernel))) (by decide) fun J6 e6 => ?_
    have x6 : Ex H1 (upd J6 p4 (.lst (((List.replicate 10 false).map V.bl) ++ [.bl false]))) := Ex.mut (x5.trans e6) g4
    have l6 : upd J6 p4 (.lst (((List.replicate 10 false).map V.bl) ++ [.bl false])) p4 = some (.lst ((List.replicate 11 false).map V.bl)) := upd_same
    revert x6 l6
    generalize upd J6 p4 (.lst (((List.replicate 10 false).map V.bl) ++ [.bl false])) = H6
    intro x6 l6
    refine q_asgL (xs := ((List.replicate 14 false).map V.bl)) (el_catM (xs := ((List.replicate 11 false).map V.bl)) (ys := ((List.replicate 3 false).map V.bl)) (em_v (ev_var rfl) l6) (em_l (el_lst (ea_cons (ev_is (ev_showsNL (k := .mutual) (T := [[false, true], [false, false]]) (w := 2) (eo_make (ans := (.mutual 0 1)) (ear_i ev_c (ear_i ev_c ear_nil)) rfl) rfl (els (EvL.is (el_lst (ea_cons ev_c (ea_cons ev_c ea_nil)) (show 2 ≤ 100000 by decide)) (show _ = tv [[false, true], [false, false]] by decide +kernel))) ⟨show ∀ r ∈ ([[false, true], [false, false]] : Tb), r.length = 2 by decide, show 2 ≤ 1000 by decide, show 2 ≤ 1000 by decide⟩ rfl) (congrArg V.bl (show shown (.mutual 0 1) [[false, true], [false, false]] = false by decide +kernel))) (ea_cons (ev_is (ev_showsN (k := .ranks) (T := [[false, true, false], [false, false, true], [true, false, false]]) (eo_make (ans := (.ranks [0, 0, 0])) (ear_l (els (el_lst (ea_cons ev_c (ea_cons ev_c (ea_cons ev_c ea_nil))) (show 3 ≤ 100000 by decide))) ear_nil) rfl) rfl (ev_var rfl) (a3.mono x6) rfl) (congrArg V.bl (show shown (.ranks [0, 0, 0]) [[false, true, false], [false, false, true], [true, false, false]] = false by decide +kernel))) (ea_cons (ev_is (ev_showsNL (k := .steps) (T := []) (w := 0) (eo_make (ans := (.steps [] [1])) (ear_l (els el_nil) (ear_l (els (el_lst (ea_cons ev_c ea_nil) (show 1 ≤ 100000 by decide))) ear_nil)) rfl) rfl (els (el_nil : EvL _ _ _ (tv []))) ⟨show ∀ r ∈ ([] : Tb), r.length = 0 by decide, show 0 ≤ 1000 by decide, show 0 ≤ 1000 by decide⟩ trivial) (congrArg V.bl (show shown (.steps [] [1]) [] = false by decide +kernel))) ea_nil))) (show 3 ≤ 100000 by decide))) (by decide)) fun p7 H7 f7 e7 l7 => ?_
    have x7 := x6.trans e7
    have g7 : H1 p7 = none := fresh_back x6 f7
    refine q_asgL (xs := ((List.replicate 16 false).map V.bl)) (el_catM (xs := ((List.replicate 14 false).map V.bl)) (ys := ((List.replicate 2 false).map V.bl)) (em_v (ev_var rfl) l7) (em_l (el_lst (ea_cons (ev_is (ev_showsNL (k := .stretches) (T := [[true, true], [false, false]]) (w := 2) (eo_make (ans := (.stretches [0, 0] [(-1), 0] [0])) (ear_l (els (el_lst (ea_cons ev_c (ea_cons ev_c ea_nil)) (show 2 ≤ 100000 by decide))) (ear_l (els (el_lst (ea_cons (ev_negN 1) (ea_cons ev_c ea_nil)) (show 2 ≤ 100000 by decide))) (ear_l (els (el_lst (ea_cons ev_c ea_nil) (show 1 ≤ 100000 by decide))) ear_nil))) rfl) rfl (els (EvL.is (el_lst (ea_cons ev_c (ea_cons ev_c ea_nil)) (show 2 ≤ 100000 by decide)) (show _ = tv [[true, true], [false, false]] by decide +kernel))) ⟨show ∀ r ∈ ([[true, true], [false, false]] : Tb), r.length = 2 by decide, show 2 ≤ 1000 by decide, show 2 ≤ 1000 by decide⟩ rfl (show (1 : Nat) ≤ 1000 by decide)) (congrArg V.bl (show shown (.stretches [0, 0] [(-1), 0] [0]) [[true, true], [false, false]] = false by decide +kernel))) (ea_cons (ev_is (ev_showsNL (k := .beside) (T := [[false, true, true], [false, false, false], [false, false, false]]) (w := 3) (eo_make (ans := (.beside 0 1 2)) (ear_i ev_c (ear_i ev_c (ear_i ev_c ear_nil))) rfl) rfl (els (EvL.is (el_lst (ea_cons ev_c (ea_cons ev_c (ea_cons ev_c ea_nil))) (show 3 ≤ 100000 by decide)) (show _ = tv [[false, true, true], [false, false, false], [false, false, false]] by decide +kernel))) ⟨show ∀ r ∈ ([[false, true, true], [false, false, false], [false, false, false]] : Tb), r.length = 3 by decide, show 3 ≤ 1000 by decide, show 3 ≤ 1000 by decide⟩ rfl) (congrArg V.bl (show shown (.beside 0 1 2) [[false, true, true], [false, false, false], [false, false, false]] = false by decide +kernel))) ea_nil)) (show 2 ≤ 100000 by decide))) (by decide)) fun p8 H8 f8 e8 l8 => ?_
    have x8 := x7.trans e8
    have g8 : H1 p8 = none := fresh_back x7 f8
    refine q_asgL (xs := ((List.replicate 18 false).map V.bl)) (el_catM (xs := ((List.replicate 16 false).map V.bl)) (ys := ((List.replicate 2 false).map V.bl)) (em_v (ev_var rfl) l8) (em_l (el_lst (ea_cons (ev_is (ev_showsN (k := .cross) (T := [[true, false, true], [false, true, true]]) (eo_make (ans := (.cross 0 2 1 1)) (ear_i ev_c (ear_i ev_c (ear_i ev_c (ear_i ev_c ear_nil)))) rfl) rfl (ev_var rfl) (aw.mono x8) trivial) (congrArg V.bl (show shown (.cross 0 2 1 1) [[true, false, true], [false, true, true]] = false by decide +kernel))) (ea_cons (ev_is (ev_showsNL (k := .beside) (T := [[false, true, false], [false, false, false], [false, true, false]]) (w := 3) (eo_make (ans := (.beside 0 1 2)) (ear_i ev_c (ear_i ev_c (ear_i ev_c ear_nil))) rfl) rfl (els (EvL.is (el_lst (ea_cons ev_c (ea_cons ev_c (ea_cons ev_c ea_nil))) (show 3 ≤ 100000 by decide)) (show _ = tv [[false, true, false], [false, false, false], [false, true, false]] by decide +kernel))) ⟨show ∀ r ∈ ([[false, true, false], [false, false, false], [false, true, false]] : Tb), r.length = 3 by decide, show 3 ≤ 1000 by decide, show 3 ≤ 1000 by decide⟩ rfl) (congrArg V.bl (show shown (.beside 0 1 2) [[false, true, false], [false, false, false], [false, true, false]] = false by decide +kernel))) ea_nil)) (show 2 ≤ 100000 by decide))) (by decide)) fun p9 H9 f9 e9 l9 => ?_
    have x9 := x8.trans e9
    have g9 : H1 p9 = none := fresh_back x8 f9
    refine q_app (l := p9) (xs := ((List.replicate 18 false).map V.bl)) l9 (ev_var rfl) (ev_is (ev_showsNL (k := .line) (T := [[false, false], [true, false]]) (w := 2) (eo_make (ans := (.line [0, 0])) (ear_l (els (el_lst (ea_cons ev_c (ea_cons ev_c ea_nil)) (show 2 ≤ 100000 by decide))) ear_nil) rfl) rfl (els (EvL.is (el_lst (ea_cons ev_c (ea_cons ev_c ea_nil)) (show 2 ≤ 100000 by decide)) (show _ = tv [[false, false], [true, false]] by decide +kernel))) ⟨show ∀ r ∈ ([[false, false], [true, false]] : Tb), r.length = 2 by decide, show 2 ≤ 1000 by decide, show 2 ≤ 1000 by decide⟩ rfl (show (2 : Nat) ≤ 1000 by decide)) (congrArg V.bl (show shown (.line [0, 0]) [[false, false], [true, false]] = false by decide +kernel))) (by decide) fun J10 e10 => ?_
    have x10 : Ex H1 (upd J10 p9 (.lst (((List.replicate 18 false).map V.bl) ++ [.bl false]))) := Ex.mut (x9.trans e10) g9
    have l10 : upd J10 p9 (.lst (((List.replicate 18 false).map V.bl) ++ [.bl false])) p9 = some (.lst ((List.replicate 19 false).map V.bl)) := upd_same
    revert x10 l10
    generalize upd J10 p9 (.lst (((List.replicate 18 false).map V.bl) ++ [.bl false])) = H10
    intro x10 l10
    refine q_asgL (xs := ((List.replicate 4 true).map V.bl)) (el_lst (ea_cons (ev_is (ev_showsN (k := .round) (T := [[false, true, false], [false, false, true], [true, false, false]]) (eo_make (ans := (.round 0 1 2)) (ear_i ev_c (ear_i ev_c (ear_i ev_c ear_nil))) rfl) rfl (ev_var rfl) (a3.mono x10) rfl) (congrArg V.bl (show shown (.round 0 1 2) [[false, true, false], [false, false, true], [true, false, false]] = true by decide +kernel))) (ea_cons (ev_is (ev_showsN (k := .cross) (T := [[true, false, true], [false, true, true]]) (eo_make (ans := (.cross 0 0 1 1)) (ear_i ev_c (ear_i ev_c (ear_i ev_c (ear_i ev_c ear_nil)))) rfl) rfl (ev_var rfl) (aw.mono x10) trivial) (congrArg V.bl (show shown (.cross 0 0 1 1) [[true, false, true], [false, true, true]] = true by decide +kernel))) (ea_cons (ev_is (ev_showsNL (k := .steps) (T := []) (w := 0) (eo_make (ans := (.steps [] [])) (ear_l (els el_nil) (ear_l (els el_nil) ear_nil)) rfl) rfl (els (el_nil : EvL _ _ _ (tv []))) ⟨show ∀ r ∈ ([] : Tb), r.length = 0 by decide, show 0 ≤ 1000 by decide, show 0 ≤ 1000 by decide⟩ trivial) (congrArg V.bl (show shown (.steps [] []) [] = true by decide +kernel))) (ea_cons (ev_is (ev_showsNL (k := .line) (T := []) (w := 0) (eo_make (ans := (.line [])) (ear_l (els el_nil) ear_nil) rfl) rfl (els (el_nil : EvL _ _ _ (tv []))) ⟨show ∀ r ∈ ([] : Tb), r.length = 0 by decide, show 0 ≤ 1000 by decide, show 0 ≤ 1000 by decide⟩ rfl (show (0 : Nat) ≤ 1000 by decide)) (congrArg V.bl (show shown (.line []) [] = true by decide +kernel))) ea_nil)))) (show 4 ≤ 100000 by decide)) fun p11 H11 f11 e11 l11 => ?_
    have x11 := x10.trans e11
    have g11 : H1 p11 = none := fresh_back x10 f11
    refine q_asgL (xs := ((List.replicate 6 true).map V.bl)) (el_catM (xs := ((List.replicate 4 true).map V.bl)) (ys := ((List.replicate 2 true).map V.bl)) (em_v (ev_var rfl) l11) (em_l (el_lst (ea_cons (ev_is (ev_showsNL (k := .stretches) (T := [[false, true], [false, false]]) (w := 2) (eo_make (ans := (.stretches [0, 1] [0, 1] [0, 1])) (ear_l (els (el_lst (ea_cons ev_c (ea_cons ev_c ea_nil)) (show 2 ≤ 100000 by decide))) (ear_l (els (el_lst (ea_cons ev_c (ea_cons ev_c ea_nil)) (show 2 ≤ 100000 by decide))) (ear_l (els (el_lst (ea_cons ev_c (ea_cons ev_c ea_nil)) (show 2 ≤ 100000 by decide))) ear_nil))) rfl) rfl (els (EvL.is (el_lst (ea_cons ev_c (ea_cons ev_c ea_nil)) (show 2 ≤ 100000 by decide)) (show _ = tv [[false, true], [false, false]] by decide +kernel))) ⟨show ∀ r ∈ ([[false, true], [false, false]] : Tb), r.length = 2 by decide, show 2 ≤ 1000 by decide, show 2 ≤ 1000 by decide⟩ rfl (show (2 : Nat) ≤ 1000 by decide)) (congrArg V.bl (show shown (.stretches [0, 1] [0, 1] [0, 1]) [[false, true], [false, false]] = true by decide +kernel))) (ea_cons (ev_is (ev_showsNL (k := .beside) (T := [[false, true, false], [false, false, false], [false, false, false]]) (w := 3) (eo_make (ans := (.beside 0 1 2)) (ear_i ev_c (ear_i ev_c (ear_i ev_c ear_nil))) rfl) rfl (els (EvL.is (el_lst (ea_cons ev_c (ea_cons ev_c (ea_cons ev_c ea_nil))) (show 3 ≤ 100000 by decide)) (show _ = tv [[false, true, false], [false, false, false], [false, false, false]] by decide +kernel))) ⟨show ∀ r ∈ ([[false, true, false], [false, false, false], [false, false, false]] : Tb), r.length = 3 by decide, show 3 ≤ 1000 by decide, show 3 ≤ 1000 by decide⟩ rfl) (congrArg V.bl (show shown (.beside 0 1 2) [[false, true, false], [false, false, false], [false, false, false]] = true by decide +kernel))) ea_nil)) (show 2 ≤ 100000 by decide))) (by decide)) fun p12 H12 f12 e12 l12 => ?_
    have x12 := x11.trans e12
    have g12 : H1 p12 = none := fresh_back x11 f12
    refine q_asgL (xs := ((List.replicate 9 true).map V.bl)) (el_catM (xs := ((List.replicate 6 true).map V.bl)) (ys := ((List.replicate 3 true).map V.bl)) (em_v (ev_var rfl) l12) (em_l (el_lst (ea_cons (ev_is (ev_showsNL (k := .neither) (T := [[false, true, false], [false, false, false], [false, false, false]]) (w := 3) (eo_make (ans := (.neither 1 2)) (ear_i ev_c (ear_i ev_c ear_nil)) rfl) rfl (els (EvL.is (el_lst (ea_cons ev_c (ea_cons ev_c (ea_cons ev_c ea_nil))) (show 3 ≤ 100000 by decide)) (show _ = tv [[false, true, false], [false, false, false], [false, false, false]] by decide +kernel))) ⟨show ∀ r ∈ ([[false, true, false], [false, false, false], [false, false, false]] : Tb), r.length = 3 by decide, show 3 ≤ 1000 by decide, show 3 ≤ 1000 by decide⟩ rfl) (congrArg V.bl (show shown (.neither 1 2) [[false, true, false], [false, false, false], [false, false, false]] = true by decide +kernel))) (ea_cons (ev_is (ev_showsNL (k := .line) (T := [[false, false], [true, false]]) (w := 2) (eo_make (ans := (.line [1, 0])) (ear_l (els (el_lst (ea_cons ev_c (ea_cons ev_c ea_nil)) (show 2 ≤ 100000 by decide))) ear_nil) rfl) rfl (els (EvL.is (el_lst (ea_cons ev_c (ea_cons ev_c ea_nil)) (show 2 ≤ 100000 by decide)) (show _ = tv [[false, false], [true, false]] by decide +kernel))) ⟨show ∀ r ∈ ([[false, false], [true, false]] : Tb), r.length = 2 by decide, show 2 ≤ 1000 by decide, show 2 ≤ 1000 by decide⟩ rfl (show (2 : Nat) ≤ 1000 by decide)) (congrArg V.bl (show shown (.line [1, 0]) [[false, false], [true, false]] = true by decide +kernel))) (ea_cons (ev_is (ev_showsNL (k := .ranks) (T := []) (w := 0) (eo_make (ans := (.ranks [])) (ear_l (els el_nil) ear_nil) rfl) rfl (els (el_nil : EvL _ _ _ (tv []))) ⟨show ∀ r ∈ ([] : Tb), r.length = 0 by decide, show 0 ≤ 1000 by decide, show 0 ≤ 1000 by decide⟩ rfl) (congrArg V.bl (show shown (.ranks []) [] = true by decide +kernel))) ea_nil))) (show 3 ≤ 100000 by decide))) (by decide)) fun p13 H13 f13 e13 l13 => ?_
    have x13 := x12.trans e13
    have g13 : H1 p13 = none := fresh_back x12 f13
    have hb : H13 p9 = some (.lst ((List.replicate 19 false).map V.bl)) := e13 _ _ (e12 _ _ (e11 _ _ l10))
    refine s_ret (ev_is (ev_andV (ev_allM (l := List.replicate 19 false) (p := fun b => decide (b = false)) (els (el_map (g := V.bl) (f := fun b => V.bl (decide (b = false))) (evs_var rfl (sq_of hb)) (by decide) (fun _ => rfl) fun b _ => ev_says (ev_var rfl) ev_c))) fun _ => ev_allM (l := List.replicate 9 true) (p := fun b => decide (b = true)) (els (el_map (g := V.bl) (f := fun b => V.bl (decide (b = true))) (evs_var rfl (sq_of l13)) (by decide) (fun _ => rfl) fun b _ => ev_says (ev_var rfl) ev_c))) (by rfl)) fun H' e' => q H' ((e1.trans x13).trans e')

/-! ### the law -/
theorem elp_tableN {σ : L2.St} {H : Hp} {te : TE} {a : Addr} {ns : List Int} {E : XK} (h : Ev te σ H (.ref a)) (hs : SqL K H a (ns.map V.int)) (hz : ns.length ≤ 63) : EvLP (tCall (sp_law_table K) [] E (tCons te tNil)) σ H (fun xs => ∃ T : Tb, xs = tv T ∧ Rect T T.length ∧ T.length = ns.length) := fun H1 e Q q =>
  h H1 e _ fun H2 e2 => ⟨a, ns, rfl, ex_l (e.trans e2) hs, hz, fun T p H3 hl hr hp e3 h3 => q _ p H3 ⟨T, rfl, by rw [hl]; exact hr, hl⟩ (fresh_back e2 hp) (e2.trans e3) h3⟩
theorem q_parLP {σ : L2.St} {H : Hp} {ta tb : TE} {D : Ends} {tz : TS} {i j : Nat} {P : List V → Prop} {y : V} (ha : EvLP ta σ H P) (hb : Ev tb σ H y) (q : ∀ xs p H1, P xs → Ex H H1 → H1 p = some (.lst xs) → tz D ((σ.set i (some (.ref p))).set j (some y)) H1) : tSeq (tPar i j (tCons ta (tCons tb tNil))) tz D σ H :=
  ha H (Ex.refl H) _ fun xs p H1 px _ e1 hp => hb H1 e1 _ fun H2 e2 => ⟨_, _, rfl, q xs p H2 px (e1.trans e2) (e2 _ _ hp)⟩
theorem ev_outright {σ : L2.St} {H : Hp} {E : XK} : Ev (tCall (sp_law_outright K) [] E tNil) σ H (.bl true) := ev_call ea_nil (spV_of fun _ _ => ⟨rfl, rfl⟩)
theorem evn_lists {σ : L2.St} {H : Hp} {T : Tb} {b : Addr} {ns : List Int} {te tb : TE} {E : XK} (hg : Rect T T.length) (hz : T.length ≤ 20) (hs : SqL K H b (ns.map V.int)) (hn : ns.length ≤ 63) (hTs : LamX.Tabs (tabsL K) H) (h : ∀ H1, Xn (tabsL K) H H1 → EvS K te σ H1 (tv T)) (h2 : ∀ H1, Ev tb σ H1 (.ref b)) :
    EvN (tabsL K) (tCall (sp_law_lists_right K) [] E (tCons te (tCons tb tNil))) σ H (.bl true) :=
  evn_callAv (K := K) (as := [.s (tv T), .v (.ref b)]) (fun H1 x1 => eav_s (h H1 x1) (eav_v (h2 H1) eav_nil)) fun vs H1 x1 hv => by
    obtain ⟨p, _, rfl, hp, _, rfl, rfl⟩ := hv
    exact fun Q q E => ⟨p, b, T, ns, rfl, ⟨hp, hg, by omega, by omega⟩, hz, xn_l x1 hs, hn, x1.2 hTs, q⟩
theorem evn_orders {σ : L2.St} {H : Hp} {T : Tb} {b : Addr} {ns : List Int} {te tb : TE} {E : XK} (hg : Rect T T.length) (hz : T.length ≤ 20) (hs : SqL K H b (ns.map V.int)) (hn : ns.length ≤ 63) (hTs : LamX.Tabs (tabsL K) H) (h : ∀ H1, Xn (tabsL K) H H1 → EvS K te σ H1 (tv T)) (h2 : ∀ H1, Ev tb σ H1 (.ref b)) :
    EvN (tabsL K) (tCall (sp_law_orders_right K) [] E (tCons te (tCons tb tNil))) σ H (.bl true) :=
  evn_callAv (K := K) (as := [.s (tv T), .v (.ref b)]) (fun H1 x1 => eav_s (h H1 x1) (eav_v (h2 H1) eav_nil)) fun vs H1 x1 hv => by
    obtain ⟨p, _, rfl, hp, _, rfl, rfl⟩ := hv
    exact fun Q q E => ⟨p, b, T, ns, rfl, ⟨hp, hg, by omega, by omega⟩, hz, xn_l x1 hs, hn, x1.2 hTs, q⟩
def sp_law (K : PySem.W.Frag) : Sp := fun vs H Q _ => ∃ (a : Addr) (ns : List Int), vs = [.ref a] ∧ SqL K H a (ns.map V.int) ∧ ns.length ≤ 63 ∧ LamX.Tabs (tabsL K) H ∧ ∀ H', Q (.bl true) H'
theorem ok_law (T : Tx K mg) (B : Tbl K mg base) {f : Addr} {fd : FuncData} (F : FunD K "law" "law" (defArgs s_law) (defBody s_law) (defScope s_law) [] [] f fd) : FnOk P w K mg base C8.CX0 (6 + 1) f fd ["_law_script"] (sp_law K) := by
  refine fn_ok F sc_law ?_ ?_
  · rintro vs H Q E ⟨a, ns, rfl, _⟩; rfl
  · rintro f cdv A outer s H vs Q E hr ⟨a, ns, rfl, hs, hz, hTs, q⟩
    refine ⟨(tSeq (tPar 1 2 (tCons (tCall (sp_law_table K) [] C8.E0 (tCons (tVar 0) tNil)) (tCons (tCB (rLn K) (tCons (tVar 0) tNil)) tNil))) (tSeq (tIfS (tOr (tNot (tB (tCall (sp_law_outright K) [] C8.E0 tNil))) (tNot (tB (tCall (sp_law_lists_right K) [] C8.E0 (tCons (tLst tNil) (tCons (tVar 0) tNil)))))) (tRet (tC (.bl false))) tNext) (tSeq (tIfS (tTest (tOp rEq (tVar 2) (tC (.int 0)))) (tRet (tC (.bl true))) tNext) (tSeq (tAsg (tLc (iList K (tSl (rSlL K) (tVar 1) tNoPart (tPart (tC (.int 20))))) (gName 3) tYes (tSl rSlS (tVar 3) tNoPart (tPart (tC (.int 20)))) [3]) (gName 4)) (tSeq (tIfS (tOr (tNot (tB (tCall (sp_law_lists_right K) [] C8.E0 (tCons (tVar 4) (tCons (tVar 0) tNil))))) (tNot (tB (tCall (sp_law_orders_right K) [] C8.E0 (tCons (tVar 4) (tCons (tVar 0) tNil)))))) (tRet (tC (.bl false))) tNext) (tSeq (tFor (iEnum K (tCons (tVar 0) tNil)) (gTup K 2 (gCons (gName 5) (gCons (gName 6) gNil))) (tSeq (tAsg (tLst (tCons (tOp rSubI (tOp rModI (tVar 6) (tOp rAddI (tVar 2) (tC (.int 2)))) (tC (.int 1))) (tCons (tOp rModI (tOp rDivI (tVar 6) (tC (.int 7))) (tVar 2)) (tCons (tOp rModI (tOp rDivI (tVar 6) (tC (.int 29))) (tVar 2)) (tCons (tOp rModI (tOp rDivI (tVar 6) (tC (.int 83))) (tVar 2)) tNil))))) (gName 7)) (tSeq (tIfS (tNot (tB (tCall (sp_law_few_right K) [] C8.E0 (tCons (tVar 1) (tCons (tOp (rIxL K) (tVar 7) (tC (.int 0))) (tCons (tOp (rIxL K) (tVar 7) (tC (.int 1))) (tCons (tOp (rIxL K) (tVar 7) (tC (.int 2))) (tCons (tOp (rIxL K) (tVar 7) (tC (.int 3))) tNil)))))))) (tRet (tC (.bl false))) tNext) (tIfS (tNot (tB (tCall (sp_law_few_right K) [] C8.E0 (tCons (tVar 1) (tCons (tVar 5) (tCons (tOp (rIxL K) (tVar 7) (tC (.int 2))) (tCons (tOp (rIxL K) (tVar 7) (tC (.int 1))) (tCons (tOp (rIxL K) (tVar 7) (tC (.int 0))) tNil)))))))) (tRet (tC (.bl false))) tNext)))) (tRet (tC (.bl true))))))))), (pss_cons (ps_par (i := 1) (j := 2) rfl sc_law.nd rfl rfl (by decide) rfl rfl (pa_cons (C8.pe_c (cal__law_table T) hr (by decide) (by rfl) (pa_cons (pv 0) pa_nil)) (pa_cons (pe_callB (id := "len") cl_len (by rfl) T.len (by decide +kernel) (pa_cons (pv 0) pa_nil)) pa_nil)) (by rfl)) (pss_cons (ps_if (PW.pt (pw_or (pt_not (pt_val (pe_c0 (cal__law_outright T) hr (by decide) (by rfl)))) (pw_or1 (pt_not (pt_val (C8.pe_c (cal__law_lists_right T B) hr (by decide) (by rfl) (pa_cons (pe_lst pa_nil) (pa_cons (pv 0) pa_nil)))))))) (pss_one (ps_ret pe_bl)) pss_nil) (pss_cons (ps_if (pt_cmpR op_eq (pv 2) pe_int (nomark _)) (pss_one (ps_ret pe_bl)) pss_nil) (pss_cons (ps_setLc (i := 4) (own := [("_law_row", 3)]) rfl sc_law.nd rfl rfl (sw_true rfl rfl rfl (by decide +kernel)) (pi_list (pe_slice sl_list (pv 1) po_none (po_some pe_int))) (blkOk_by (own := [("_law_row", 3)]) (by kernel_rfl)) (fun _ _ _ _ _ => (pg_name (i := 3) sc_law.nd rfl (Or.inl rfl))) (fun _ _ _ _ _ => pts_nil) (fun _ _ _ _ _ => (pe_slice sl_str (pv 3) po_none (po_some pe_int)))) (pss_cons (ps_if (PW.pt (pw_or (pt_not (pt_val (C8.pe_c (cal__law_lists_right T B) hr (by decide) (by rfl) (pa_cons (pv 4) (pa_cons (pv 0) pa_nil))))) (pw_or1 (pt_not (pt_val (C8.pe_c (cal__law_orders_right T B) hr (by decide) (by rfl) (pa_cons (pv 4) (pa_cons (pv 0) pa_nil)))))))) (pss_one (ps_ret pe_bl)) pss_nil) (pss_cons (ps_for PassesOwn.never rfl (pi_enum (by rfl) T.enumerate (pa_cons (pv 0) pa_nil)) (pg_tup rfl (pgs_cons (pg_name (i := 5) sc_law.nd rfl (Or.inl rfl)) (pgs_cons (pg_name (i := 6) sc_law.nd rfl (Or.inl rfl)) pgs_nil))) (pss_cons (ps_set (i := 7) sc_law.nd rfl (Or.inl rfl) (pe_lst (pa_cons (pe_op op_sub (pe_op op_mod (pv 6) (pe_op op_add (pv 2) pe_int)) pe_int) (pa_cons (pe_op op_mod (pe_op op_fdiv (pv 6) pe_int) (pv 2)) (pa_cons (pe_op op_mod (pe_op op_fdiv (pv 6) pe_int) (pv 2)) (pa_cons (pe_op op_mod (pe_op op_fdiv (pv 6) pe_int) (pv 2)) pa_nil)))))) (pss_cons (ps_if (pt_not (pt_val (C8.pe_c (cal__law_few_right T) hr (by decide) (by rfl) (pa_cons (pv 1) (pa_cons (pe_ix ix_list (pv 7) pe_int (fun _ _ => rfl)) (pa_cons (pe_ix ix_list (pv 7) pe_int (fun _ _ => rfl)) (pa_cons (pe_ix ix_list (pv 7) pe_int (fun _ _ => rfl)) (pa_cons (pe_ix ix_list (pv 7) pe_int (fun _ _ => rfl)) pa_nil)))))))) (pss_one (ps_ret pe_bl)) pss_nil) (pss_one (ps_if (pt_not (pt_val (C8.pe_c (cal__law_few_right T) hr (by decide) (by rfl) (pa_cons (pv 1) (pa_cons (pv 5) (pa_cons (pe_ix ix_list (pv 7) pe_int (fun _ _ => rfl)) (pa_cons (pe_ix ix_list (pv 7) pe_int (fun _ _ => rfl)) (pa_cons (pe_ix ix_list (pv 7) pe_int (fun _ _ => rfl)) pa_nil)))))))) (pss_one (ps_ret pe_bl)) pss_nil))))) (pss_one (ps_ret pe_bl)))))))), ?_⟩
    refine q_parLP (elp_tableN (ev_var rfl) hs hz) (ev_lenInts (evs_var rfl hs)) fun xs t H1 px e1 ht => ?_
    obtain ⟨Tb, rfl, hTr, hTl⟩ := px
    have hs1 := ex_l e1 hs
    have hTs1 := hTs.ext e1
    have hT1 : At K H1 t Tb Tb.length := ⟨sq_of ht, hTr, by omega, by omega⟩
    refine qn_when (TT := tabsL K) (b := false) (etn_is (etn_or (etn_not (etn_B (evn_of fun H2 _ => ev_outright))) fun _ => etn_not (etn_B (evn_lists (T := []) (fun r hr => by cases hr) (by decide) hs1 hz hTs1 (fun H2 x2 => els el_nil) fun H2 => ev_var rfl))) rfl) (fun hb => nomatch hb) fun _ H2 x2 => ?_
    have hs2 := xn_l x2 hs1
    have hTs2 := x2.2 hTs1
    have hT2 := hT1.xn x2
    refine q_when (et_test (ev_op (ev_var (v := .int (ns.length : Nat)) rfl) ev_c (rv_eq rfl))) (fun hb H3 e3 => s_ret ev_c fun H4 e4 => q H4) fun hb H3 e3 => ?_
    have hpos : 0 < ns.length := by
      rw [dec_int] at hb
      have : ¬ ((ns.length : Nat) : Int) = 0 := by simpa using hb
      omega
    have hT3 := hT2.mono e3
    have hs3 := ex_l e3 hs2
    refine q_asgL (xs := tv (corner Tb 20)) (EvL.is (el_map (l := Tb.take 20) (g := fun r => V.str (rs r)) (f := fun r => V.str (rs (r.take 20))) (els (el_cutTo (k := 20) hT3 (ev_var rfl) ev_c)) (by rw [List.length_take]; omega) (fun _ => rfl) fun r hr => ev_cutTo (k := 20) (ev_var rfl) ev_c (by rw [hT3.rect r (List.mem_of_mem_take hr)]; omega)) (by unfold tv corner; rw [List.map_map]; rfl)) fun c H4 _ e4 hc => ?_
    have hT4 := hT3.mono e4
    have hs4 := ex_l e4 hs3
    have hTs4 := hTs2.ext (e3.trans e4)
    have hcl : (corner Tb 20).length ≤ 20 := by rw [corner_len]; omega
    refine qn_when (TT := tabsL K) (b := false) (etn_is (etn_or (etn_not (etn_B (evn_lists (T := corner Tb 20) (corner_rect hTr 20) hcl hs4 hz hTs4 (fun H5 x5 => evs_var rfl (xn_l x5 (sq_of hc))) fun H5 => ev_var rfl))) fun _ => etn_not (etn_B (evn_orders (T := corner Tb 20) (corner_rect hTr 20) hcl hs4 hz hTs4 (fun H5 x5 => evs_var rfl (xn_l x5 (sq_of hc))) fun H5 => ev_var rfl))) rfl) (fun hb => nomatch hb) fun _ H5 x5 => ?_
    have hT5 := hT4.xn x5
    have hs5 := xn_l x5 hs4
    refine q_forE (l := ns) (f := V.int) (evs_var rfl hs5) (fun _ σ' => ∃ y5 y6 y7, σ' = [some (.ref a), some (.ref t), some (.int (ns.length : Nat)), none, some (.ref c), y5, y6, y7]) ⟨_, _, _, rfl⟩ ?_ ?_
    · rintro k x σ' H6 hx e6 ⟨y5, y6, y7, rfl⟩ D' hrt hbk hnx
      have hT6 := hT5.mono e6
      have hn0 : (0 : Int) < ((ns.length : Nat) : Int) := by omega
      have vx : ∀ {σ : L2.St}, σ[6]? = some (some (.int x)) → Ev (tVar 6) σ H6 (.int x) := fun h => ev_var h
      have vm : ∀ {σ : L2.St}, σ[2]? = some (some (.int (ns.length : Nat))) → Ev (tVar 2) σ H6 (.int (ns.length : Nat)) := fun h => ev_var h
      refine q_asgL (xs := [V.int (x % ((ns.length : Nat) + 2) - 1), V.int (x / 7 % (ns.length : Nat)), V.int (x / 29 % (ns.length : Nat)), V.int (x / 83 % (ns.length : Nat))]) (el_lst (ea_cons (ev_op (ev_op (vx rfl) (ev_op (vm rfl) ev_c rv_I0) (rv_I (by omega))) ev_c rv_I0) (ea_cons (ev_op (ev_op (vx rfl) ev_c (rv_I ⟨by decide, by decide⟩)) (vm rfl) (rv_I hn0)) (ea_cons (ev_op (ev_op (vx rfl) ev_c (rv_I ⟨by decide, by decide⟩)) (vm rfl) (rv_I hn0)) (ea_cons (ev_op (ev_op (vx rfl) ev_c (rv_I ⟨by decide, by decide⟩)) (vm rfl) (rv_I hn0)) ea_nil)))) (show 4 ≤ 100000 by decide)) fun o H7 _ e7 ho => ?_
      have hT7 := hT6.mono e7
      generalize x % ((ns.length : Nat) + 2) - 1 = t0 at ho
      generalize x / 7 % (ns.length : Nat) = t1 at ho
      generalize x / 29 % (ns.length : Nat) = t2 at ho
      generalize x / 83 % (ns.length : Nat) = t3 at ho
      have g0 : ∀ {σ : L2.St} (H' : Hp), Ex H7 H' → σ[7]? = some (some (.ref o)) → Ev (tOp (rIxL K) (tVar 7) (tC (.int 0))) σ H' (.int t0) := fun H' e h => ev_ixLS (evs_var h (sq_of (e _ _ ho))) (i := ((0 : Nat) : Int)) ev_c (atI_nat rfl)
      have g1 : ∀ {σ : L2.St} (H' : Hp), Ex H7 H' → σ[7]? = some (some (.ref o)) → Ev (tOp (rIxL K) (tVar 7) (tC (.int 1))) σ H' (.int t1) := fun H' e h => ev_ixLS (evs_var h (sq_of (e _ _ ho))) (i := ((1 : Nat) : Int)) ev_c (atI_nat rfl)
      have g2 : ∀ {σ : L2.St} (H' : Hp), Ex H7 H' → σ[7]? = some (some (.ref o)) → Ev (tOp (rIxL K) (tVar 7) (tC (.int 2))) σ H' (.int t2) := fun H' e h => ev_ixLS (evs_var h (sq_of (e _ _ ho))) (i := ((2 : Nat) : Int)) ev_c (atI_nat rfl)
      have g3 : ∀ {σ : L2.St} (H' : Hp), Ex H7 H' → σ[7]? = some (some (.ref o)) → Ev (tOp (rIxL K) (tVar 7) (tC (.int 3))) σ H' (.int t3) := fun H' e h => ev_ixLS (evs_var h (sq_of (e _ _ ho))) (i := ((3 : Nat) : Int)) ev_c (atI_nat rfl)
      have eR := Ex.refl H7
      refine q_when (b := false) (et_is (et_not (et_B (ev_call (ea_cons (ev_var rfl) (ea_cons (g0 H7 eR rfl) (ea_cons (g1 H7 eR rfl) (ea_cons (g2 H7 eR rfl) (ea_cons (g3 H7 eR rfl) ea_nil))))) (sv_few hT7)))) rfl) (fun hb => nomatch hb) fun _ H8 e8 => ?_
      exact s_when (b := false) (et_is (et_not (et_B (ev_call (ea_cons (ev_var rfl) (ea_cons (ev_var rfl) (ea_cons (g2 H8 e8 rfl) (ea_cons (g1 H8 e8 rfl) (ea_cons (g0 H8 e8 rfl) ea_nil))))) (sv_few (hT7.mono e8))))) rfl) (fun hb => nomatch hb) fun _ H9 e9 => hnx _ _ ((e7.trans e8).trans e9) ⟨_, _, _, rfl⟩
    · rintro σ' H6 e6 ⟨y5, y6, y7, rfl⟩
      exact s_ret ev_c fun H7 e7 => q H7

end

end WA

namespace WA
open PySem PySem.Spec PyProof.Rows L2 Evl

def dd_check_table : He.DefD := ⟨("check_table", none), "check_table", "check_table", defArgs s_check_table, defBody s_check_table, defScope s_check_table, [], []⟩
def dd_check_square : He.DefD := ⟨("check_square", none), "check_square", "check_square", defArgs s_check_square, defBody s_check_square, defScope s_check_square, [], []⟩
def dd_has : He.DefD := ⟨("has", none), "has", "has", defArgs s_has, defBody s_has, defScope s_has, [], []⟩
def dd_rows_with : He.DefD := ⟨("rows_with", none), "rows_with", "rows_with", defArgs s_rows_with, defBody s_rows_with, defScope s_rows_with, [], []⟩
def dd_are_things : He.DefD := ⟨("are_things", none), "are_things", "are_things", defArgs s_are_things, defBody s_are_things, defScope s_are_things, [], []⟩
def dd_are_three : He.DefD := ⟨("are_three", none), "are_three", "are_three", defArgs s_are_three, defBody s_are_three, defScope s_are_three, [], []⟩
def dd_only_in : He.DefD := ⟨("only_in", none), "only_in", "only_in", defArgs s_only_in, defBody s_only_in, defScope s_only_in, [], []⟩
def dd_cross_of : He.DefD := ⟨("cross_of", none), "cross_of", "cross_of", defArgs s_cross_of, defBody s_cross_of, defScope s_cross_of, [], []⟩
def dd_levels_of : He.DefD := ⟨("levels_of", none), "levels_of", "levels_of", defArgs s_levels_of, defBody s_levels_of, defScope s_levels_of, [], []⟩
def dd_steps : He.DefD := ⟨("steps", none), "steps", "steps", defArgs s_steps, defBody s_steps, defScope s_steps, [], []⟩
def dd_self_of : He.DefD := ⟨("self_of", none), "self_of", "self_of", defArgs s_self_of, defBody s_self_of, defScope s_self_of, [], []⟩
def dd_sizes_of : He.DefD := ⟨("sizes_of", none), "sizes_of", "sizes_of", defArgs s_sizes_of, defBody s_sizes_of, defScope s_sizes_of, [], []⟩
def dd_stretches : He.DefD := ⟨("stretches", none), "stretches", "stretches", defArgs s_stretches, defBody s_stretches, defScope s_stretches, [], []⟩
def dd_law_table : He.DefD := ⟨("_law_table", none), "_law_table", "_law_table", defArgs s_law_table, defBody s_law_table, defScope s_law_table, [], []⟩
def dd_law_has : He.DefD := ⟨("_law_has", none), "_law_has", "_law_has", defArgs s_law_has, defBody s_law_has, defScope s_law_has, [], []⟩
def dd_law_hasnt : He.DefD := ⟨("_law_hasnt", none), "_law_hasnt", "_law_hasnt", defArgs s_law_hasnt, defBody s_law_hasnt, defScope s_law_hasnt, [], []⟩
def dd_law_cross : He.DefD := ⟨("_law_cross", none), "_law_cross", "_law_cross", defArgs s_law_cross, defBody s_law_cross, defScope s_law_cross, [], []⟩
def dd_law_steps : He.DefD := ⟨("_law_steps", none), "_law_steps", "_law_steps", defArgs s_law_steps, defBody s_law_steps, defScope s_law_steps, [], []⟩
def dd_law_stretches : He.DefD := ⟨("_law_stretches", none), "_law_stretches", "_law_stretches", defArgs s_law_stretches, defBody s_law_stretches, defScope s_law_stretches, [], []⟩
def dd_law_ranks : He.DefD := ⟨("_law_ranks", none), "_law_ranks", "_law_ranks", defArgs s_law_ranks, defBody s_law_ranks, defScope s_law_ranks, [], []⟩
def dd_law_line : He.DefD := ⟨("_law_line", none), "_law_line", "_law_line", defArgs s_law_line, defBody s_law_line, defScope s_law_line, [], []⟩
def dd_law_says : He.DefD := ⟨("_law_says", none), "_law_says", "_law_says", defArgs s_law_says, defBody s_law_says, defScope s_law_says, [], []⟩
def dd_law_bent : He.DefD := ⟨("_law_bent", none), "_law_bent", "_law_bent", defArgs s_law_bent, defBody s_law_bent, defScope s_law_bent, [], []⟩
def dd_law_lists_right : He.DefD := ⟨("_law_lists_right", none), "_law_lists_right", "_law_lists_right", defArgs s_law_lists_right, defBody s_law_lists_right, defScope s_law_lists_right, [], []⟩
def dd_law_orders_right : He.DefD := ⟨("_law_orders_right", none), "_law_orders_right", "_law_orders_right", defArgs s_law_orders_right, defBody s_law_orders_right, defScope s_law_orders_right, [], []⟩
def dd_law_few_right : He.DefD := ⟨("_law_few_right", none), "_law_few_right", "_law_few_right", defArgs s_law_few_right, defBody s_law_few_right, defScope s_law_few_right, [], []⟩
def dd_law_outright : He.DefD := ⟨("_law_outright", none), "_law_outright", "_law_outright", defArgs s_law_outright, defBody s_law_outright, defScope s_law_outright, [], []⟩
def dd_law : He.DefD := ⟨("law", none), "law", "law", defArgs s_law, defBody s_law, defScope s_law, [], []⟩
def dd_Steps_init : He.DefD := ⟨("Steps", some "__init__"), "__init__", "Steps.__init__", defArgs s_Steps_init, defBody s_Steps_init, defScope s_Steps_init, [], []⟩
def dd_Steps_shows : He.DefD := ⟨("Steps", some "shows"), "shows", "Steps.shows", defArgs s_Steps_shows, defBody s_Steps_shows, defScope s_Steps_shows, [], []⟩
def dd_Cross_init : He.DefD := ⟨("Cross", some "__init__"), "__init__", "Cross.__init__", defArgs s_Cross_init, defBody s_Cross_init, defScope s_Cross_init, [], []⟩
def dd_Cross_shows : He.DefD := ⟨("Cross", some "shows"), "shows", "Cross.shows", defArgs s_Cross_shows, defBody s_Cross_shows, defScope s_Cross_shows, [], []⟩
def dd_Stretches_init : He.DefD := ⟨("Stretches", some "__init__"), "__init__", "Stretches.__init__", defArgs s_Stretches_init, defBody s_Stretches_init, defScope s_Stretches_init, [], []⟩
def dd_Stretches_shows : He.DefD := ⟨("Stretches", some "shows"), "shows", "Stretches.shows", defArgs s_Stretches_shows, defBody s_Stretches_shows, defScope s_Stretches_shows, [], []⟩
def dd_Self_init : He.DefD := ⟨("Self", some "__init__"), "__init__", "Self.__init__", defArgs s_Self_init, defBody s_Self_init, defScope s_Self_init, [], []⟩
def dd_Self_shows : He.DefD := ⟨("Self", some "shows"), "shows", "Self.shows", defArgs s_Self_shows, defBody s_Self_shows, defScope s_Self_shows, [], []⟩
def dd_Ranks_init : He.DefD := ⟨("Ranks", some "__init__"), "__init__", "Ranks.__init__", defArgs s_Ranks_init, defBody s_Ranks_init, defScope s_Ranks_init, [], []⟩
def dd_Ranks_shows : He.DefD := ⟨("Ranks", some "shows"), "shows", "Ranks.shows", defArgs s_Ranks_shows, defBody s_Ranks_shows, defScope s_Ranks_shows, [], []⟩
def dd_Mutual_init : He.DefD := ⟨("Mutual", some "__init__"), "__init__", "Mutual.__init__", defArgs s_Mutual_init, defBody s_Mutual_init, defScope s_Mutual_init, [], []⟩
def dd_Mutual_shows : He.DefD := ⟨("Mutual", some "shows"), "shows", "Mutual.shows", defArgs s_Mutual_shows, defBody s_Mutual_shows, defScope s_Mutual_shows, [], []⟩
def dd_Beside_init : He.DefD := ⟨("Beside", some "__init__"), "__init__", "Beside.__init__", defArgs s_Beside_init, defBody s_Beside_init, defScope s_Beside_init, [], []⟩
def dd_Beside_shows : He.DefD := ⟨("Beside", some "shows"), "shows", "Beside.shows", defArgs s_Beside_shows, defBody s_Beside_shows, defScope s_Beside_shows, [], []⟩
def dd_Line_init : He.DefD := ⟨("Line", some "__init__"), "__init__", "Line.__init__", defArgs s_Line_init, defBody s_Line_init, defScope s_Line_init, [], []⟩
def dd_Line_shows : He.DefD := ⟨("Line", some "shows"), "shows", "Line.shows", defArgs s_Line_shows, defBody s_Line_shows, defScope s_Line_shows, [], []⟩
def dd_Neither_init : He.DefD := ⟨("Neither", some "__init__"), "__init__", "Neither.__init__", defArgs s_Neither_init, defBody s_Neither_init, defScope s_Neither_init, [], []⟩
def dd_Neither_shows : He.DefD := ⟨("Neither", some "shows"), "shows", "Neither.shows", defArgs s_Neither_shows, defBody s_Neither_shows, defScope s_Neither_shows, [], []⟩
def dd_Round_init : He.DefD := ⟨("Round", some "__init__"), "__init__", "Round.__init__", defArgs s_Round_init, defBody s_Round_init, defScope s_Round_init, [], []⟩
def dd_Round_shows : He.DefD := ⟨("Round", some "shows"), "shows", "Round.shows", defArgs s_Round_shows, defBody s_Round_shows, defScope s_Round_shows, [], []⟩
def fnL : List He.DefD := [dd_check_table, dd_check_square, dd_has, dd_rows_with, dd_are_things, dd_are_three, dd_only_in, dd_cross_of, dd_levels_of, dd_steps, dd_self_of, dd_sizes_of, dd_stretches, dd_law_table, dd_law_has, dd_law_hasnt, dd_law_cross, dd_law_steps, dd_law_stretches, dd_law_ranks, dd_law_line, dd_law_says, dd_law_bent, dd_law_lists_right, dd_law_orders_right, dd_law_few_right, dd_law_outright, dd_law, dd_Steps_init, dd_Steps_shows, dd_Cross_init, dd_Cross_shows, dd_Stretches_init, dd_Stretches_shows, dd_Self_init, dd_Self_shows, dd_Ranks_init, dd_Ranks_shows, dd_Mutual_init, dd_Mutual_shows, dd_Beside_init, dd_Beside_shows, dd_Line_init, dd_Line_shows, dd_Neither_init, dd_Neither_shows, dd_Round_init, dd_Round_shows]
def fctL : List He.Fa := [.free "len", .free "sum", .free "all", .free "any", .free "sorted", .free "max", .free "min", .free "isinstance", .free "list", .free "set", .free "tuple", .free "range", .free "enumerate", .free "zip", .free "str", .free "bool", .glo "check_table", .glo "check_square", .glo "has", .glo "rows_with", .glo "are_things", .glo "are_three", .glo "only_in", .glo "cross_of", .glo "levels_of", .glo "steps", .glo "self_of", .glo "sizes_of", .glo "stretches", .glo "_law_table", .glo "_law_has", .glo "_law_hasnt", .glo "_law_cross", .glo "_law_steps", .glo "_law_stretches", .glo "_law_ranks", .glo "_law_line", .glo "_law_says", .glo "_law_bent", .glo "_law_lists_right", .glo "_law_orders_right", .glo "_law_few_right", .glo "_law_outright", .glo "law", .glo "Answer", .glo "Steps", .cls "Steps", .mkr "Steps", .meth "Steps" "shows", .noat "Steps" "rows", .noat "Steps" "columns", .glo "Cross", .cls "Cross", .mkr "Cross", .meth "Cross" "shows", .noat "Cross" "one", .noat "Cross" "first", .noat "Cross" "other", .noat "Cross" "second", .glo "Stretches", .cls "Stretches", .mkr "Stretches", .meth "Stretches" "shows", .noat "Stretches" "begins", .noat "Stretches" "ends", .noat "Stretches" "unlike", .glo "Self", .cls "Self", .mkr "Self", .meth "Self" "shows", .noat "Self" "one", .glo "Ranks", .cls "Ranks", .mkr "Ranks", .meth "Ranks" "shows", .noat "Ranks" "ranks", .glo "Mutual", .cls "Mutual", .mkr "Mutual", .meth "Mutual" "shows", .noat "Mutual" "one", .noat "Mutual" "other", .glo "Beside", .cls "Beside", .mkr "Beside", .meth "Beside" "shows", .noat "Beside" "one", .noat "Beside" "other", .noat "Beside" "third", .glo "Line", .cls "Line", .mkr "Line", .meth "Line" "shows", .noat "Line" "order", .glo "Neither", .cls "Neither", .mkr "Neither", .meth "Neither" "shows", .noat "Neither" "one", .noat "Neither" "other", .glo "Round", .cls "Round", .mkr "Round", .meth "Round" "shows", .noat "Round" "one", .noat "Round" "other", .noat "Round" "third"]
theorem mkTx {w : World} {K : PySem.W.Frag} {h : Heap} {mg : Str → Option Value} (X : K.In h) (G : h.Ns mainGlobals mg) (cx : He.SaysX fctL fnL [] tfL exB w h K) : Tx K mg :=
  have c : He.SaysD fctL fnL K := cx.t.d
  ⟨(He.free_ok X G (c.fact 0 (f := .free "len") rfl) : _),
   (He.free_ok X G (c.fact 1 (f := .free "sum") rfl) : _),
   (He.free_ok X G (c.fact 2 (f := .free "all") rfl) : _),
   (He.free_ok X G (c.fact 3 (f := .free "any") rfl) : _),
   (He.free_ok X G (c.fact 4 (f := .free "sorted") rfl) : _),
   (He.free_ok X G (c.fact 5 (f := .free "max") rfl) : _),
   (He.free_ok X G (c.fact 6 (f := .free "min") rfl) : _),
   (He.free_ok X G (c.fact 7 (f := .free "isinstance") rfl) : _),
   (He.free_ok X G (c.fact 8 (f := .free "list") rfl) : _),
   (He.free_ok X G (c.fact 9 (f := .free "set") rfl) : _),
   (He.free_ok X G (c.fact 10 (f := .free "tuple") rfl) : _),
   (He.free_ok X G (c.fact 11 (f := .free "range") rfl) : _),
   (He.free_ok X G (c.fact 12 (f := .free "enumerate") rfl) : _),
   (He.free_ok X G (c.fact 13 (f := .free "zip") rfl) : _),
   (He.free_ok X G (c.fact 14 (f := .free "str") rfl) : _),
   (He.free_ok X G (c.fact 15 (f := .free "bool") rfl) : _),
   ((let ⟨fd, F⟩ := c.def_ 0 (d := dd_check_table) rfl; ⟨_, fd, F, He.glo_ok X G (c.fact 16 (f := .glo "check_table") rfl)⟩) : _),
   ((let ⟨fd, F⟩ := c.def_ 1 (d := dd_check_square) rfl; ⟨_, fd, F, He.glo_ok X G (c.fact 17 (f := .glo "check_square") rfl)⟩) : _),
   ((let ⟨fd, F⟩ := c.def_ 2 (d := dd_has) rfl; ⟨_, fd, F, He.glo_ok X G (c.fact 18 (f := .glo "has") rfl)⟩) : _),
   ((let ⟨fd, F⟩ := c.def_ 3 (d := dd_rows_with) rfl; ⟨_, fd, F, He.glo_ok X G (c.fact 19 (f := .glo "rows_with") rfl)⟩) : _),
   ((let ⟨fd, F⟩ := c.def_ 4 (d := dd_are_things) rfl; ⟨_, fd, F, He.glo_ok X G (c.fact 20 (f := .glo "are_things") rfl)⟩) : _),
   ((let ⟨fd, F⟩ := c.def_ 5 (d := dd_are_three) rfl; ⟨_, fd, F, He.glo_ok X G (c.fact 21 (f := .glo "are_three") rfl)⟩) : _),
   ((let ⟨fd, F⟩ := c.def_ 6 (d := dd_only_in) rfl; ⟨_, fd, F, He.glo_ok X G (c.fact 22 (f := .glo "only_in") rfl)⟩) : _),
   ((let ⟨fd, F⟩ := c.def_ 7 (d := dd_cross_of) rfl; ⟨_, fd, F, He.glo_ok X G (c.fact 23 (f := .glo "cross_of") rfl)⟩) : _),
   ((let ⟨fd, F⟩ := c.def_ 8 (d := dd_levels_of) rfl; ⟨_, fd, F, He.glo_ok X G (c.fact 24 (f := .glo "levels_of") rfl)⟩) : _),
   ((let ⟨fd, F⟩ := c.def_ 9 (d := dd_steps) rfl; ⟨_, fd, F, He.glo_ok X G (c.fact 25 (f := .glo "steps") rfl)⟩) : _),
   ((let ⟨fd, F⟩ := c.def_ 10 (d := dd_self_of) rfl; ⟨_, fd, F, He.glo_ok X G (c.fact 26 (f := .glo "self_of") rfl)⟩) : _),
   ((let ⟨fd, F⟩ := c.def_ 11 (d := dd_sizes_of) rfl; ⟨_, fd, F, He.glo_ok X G (c.fact 27 (f := .glo "sizes_of") rfl)⟩) : _),
   ((let ⟨fd, F⟩ := c.def_ 12 (d := dd_stretches) rfl; ⟨_, fd, F, He.glo_ok X G (c.fact 28 (f := .glo "stretches") rfl)⟩) : _),
   ((let ⟨fd, F⟩ := c.def_ 13 (d := dd_law_table) rfl; ⟨_, fd, F, He.glo_ok X G (c.fact 29 (f := .glo "_law_table") rfl)⟩) : _),
   ((let ⟨fd, F⟩ := c.def_ 14 (d := dd_law_has) rfl; ⟨_, fd, F, He.glo_ok X G (c.fact 30 (f := .glo "_law_has") rfl)⟩) : _),
   ((let ⟨fd, F⟩ := c.def_ 15 (d := dd_law_hasnt) rfl; ⟨_, fd, F, He.glo_ok X G (c.fact 31 (f := .glo "_law_hasnt") rfl)⟩) : _),
   ((let ⟨fd, F⟩ := c.def_ 16 (d := dd_law_cross) rfl; ⟨_, fd, F, He.glo_ok X G (c.fact 32 (f := .glo "_law_cross") rfl)⟩) : _),
   ((let ⟨fd, F⟩ := c.def_ 17 (d := dd_law_steps) rfl; ⟨_, fd, F, He.glo_ok X G (c.fact 33 (f := .glo "_law_steps") rfl)⟩) : _),
   ((let ⟨fd, F⟩ := c.def_ 18 (d := dd_law_stretches) rfl; ⟨_, fd, F, He.glo_ok X G (c.fact 34 (f := .glo "_law_stretches") rfl)⟩) : _),
   ((let ⟨fd, F⟩ := c.def_ 19 (d := dd_law_ranks) rfl; ⟨_, fd, F, He.glo_ok X G (c.fact 35 (f := .glo "_law_ranks") rfl)⟩) : _),
   ((let ⟨fd, F⟩ := c.def_ 20 (d := dd_law_line) rfl; ⟨_, fd, F, He.glo_ok X G (c.fact 36 (f := .glo "_law_line") rfl)⟩) : _),
   ((let ⟨fd, F⟩ := c.def_ 21 (d := dd_law_says) rfl; ⟨_, fd, F, He.glo_ok X G (c.fact 37 (f := .glo "_law_says") rfl)⟩) : _),
   ((let ⟨fd, F⟩ := c.def_ 22 (d := dd_law_bent) rfl; ⟨_, fd, F, He.glo_ok X G (c.fact 38 (f := .glo "_law_bent") rfl)⟩) : _),
   ((let ⟨fd, F⟩ := c.def_ 23 (d := dd_law_lists_right) rfl; ⟨_, fd, F, He.glo_ok X G (c.fact 39 (f := .glo "_law_lists_right") rfl)⟩) : _),
   ((let ⟨fd, F⟩ := c.def_ 24 (d := dd_law_orders_right) rfl; ⟨_, fd, F, He.glo_ok X G (c.fact 40 (f := .glo "_law_orders_right") rfl)⟩) : _),
   ((let ⟨fd, F⟩ := c.def_ 25 (d := dd_law_few_right) rfl; ⟨_, fd, F, He.glo_ok X G (c.fact 41 (f := .glo "_law_few_right") rfl)⟩) : _),
   ((let ⟨fd, F⟩ := c.def_ 26 (d := dd_law_outright) rfl; ⟨_, fd, F, He.glo_ok X G (c.fact 42 (f := .glo "_law_outright") rfl)⟩) : _),
   ((let ⟨fd, F⟩ := c.def_ 27 (d := dd_law) rfl; ⟨_, fd, F, He.glo_ok X G (c.fact 43 (f := .glo "law") rfl)⟩) : _),
   (He.glo_ok X G (c.fact 44 (f := .glo "Answer") rfl) : _),
   (He.glo_ok X G (c.fact 45 (f := .glo "Steps") rfl) : _),
   (He.cls_ok (c.fact 46 (f := .cls "Steps") rfl) : _),
   (He.mkr_ok (c.fact 47 (f := .mkr "Steps") rfl) : _),
   (He.meth_ok (c.fact 48 (f := .meth "Steps" "shows") rfl) : _),
   (He.noat_ok (c.fact 49 (f := .noat "Steps" "rows") rfl) : _),
   (He.noat_ok (c.fact 50 (f := .noat "Steps" "columns") rfl) : _),
   (c.def_ 28 (d := dd_Steps_init) rfl : _),
   (c.def_ 29 (d := dd_Steps_shows) rfl : _),
   (He.glo_ok X G (c.fact 51 (f := .glo "Cross") rfl) : _),
   (He.cls_ok (c.fact 52 (f := .cls "Cross") rfl) : _),
   (He.mkr_ok (c.fact 53 (f := .mkr "Cross") rfl) : _),
   (He.meth_ok (c.fact 54 (f := .meth "Cross" "shows") rfl) : _),
   (He.noat_ok (c.fact 55 (f := .noat "Cross" "one") rfl) : _),
   (He.noat_ok (c.fact 56 (f := .noat "Cross" "first") rfl) : _),
   (He.noat_ok (c.fact 57 (f := .noat "Cross" "other") rfl) : _),
   (He.noat_ok (c.fact 58 (f := .noat "Cross" "second") rfl) : _),
   (c.def_ 30 (d := dd_Cross_init) rfl : _),
   (c.def_ 31 (d := dd_Cross_shows) rfl : _),
   (He.glo_ok X G (c.fact 59 (f := .glo "Stretches") rfl) : _),
   (He.cls_ok (c.fact 60 (f := .cls "Stretches") rfl) : _),
   (He.mkr_ok (c.fact 61 (f := .mkr "Stretches") rfl) : _),
   (He.meth_ok (c.fact 62 (f := .meth "Stretches" "shows") rfl) : _),
   (He.noat_ok (c.fact 63 (f := .noat "Stretches" "begins") rfl) : _),
   (He.noat_ok (c.fact 64 (f := .noat "Stretches" "ends") rfl) : _),
   (He.noat_ok (c.fact 65 (f := .noat "Stretches" "unlike") rfl) : _),
   (c.def_ 32 (d := dd_Stretches_init) rfl : _),
   (c.def_ 33 (d := dd_Stretches_shows) rfl : _),
   (He.glo_ok X G (c.fact 66 (f := .glo "Self") rfl) : _),
   (He.cls_ok (c.fact 67 (f := .cls "Self") rfl) : _),
   (He.mkr_ok (c.fact 68 (f := .mkr "Self") rfl) : _),
   (He.meth_ok (c.fact 69 (f := .meth "Self" "shows") rfl) : _),
   (He.noat_ok (c.fact 70 (f := .noat "Self" "one") rfl) : _),
   (c.def_ 34 (d := dd_Self_init) rfl : _),
   (c.def_ 35 (d := dd_Self_shows) rfl : _),
   (He.glo_ok X G (c.fact 71 (f := .glo "Ranks") rfl) : _),
   (He.cls_ok (c.fact 72 (f := .cls "Ranks") rfl) : _),
   (He.mkr_ok (c.fact 73 (f := .mkr "Ranks") rfl) : _),
   (He.meth_ok (c.fact 74 (f := .meth "Ranks" "shows") rfl) : _),
   (He.noat_ok (c.fact 75 (f := .noat "Ranks" "ranks") rfl) : _),
   (c.def_ 36 (d := dd_Ranks_init) rfl : _),
   (c.def_ 37 (d := dd_Ranks_shows) rfl : _),
   (He.glo_ok X G (c.fact 76 (f := .glo "Mutual") rfl) : _),
   (He.cls_ok (c.fact 77 (f := .cls "Mutual") rfl) : _),
   (He.mkr_ok (c.fact 78 (f := .mkr "Mutual") rfl) : _),
   (He.meth_ok (c.fact 79 (f := .meth "Mutual" "shows") rfl) : _),
   (He.noat_ok (c.fact 80 (f := .noat "Mutual" "one") rfl) : _),
   (He.noat_ok (c.fact 81 (f := .noat "Mutual" "other") rfl) : _),
   (c.def_ 38 (d := dd_Mutual_init) rfl : _),
   (c.def_ 39 (d := dd_Mutual_shows) rfl : _),
   (He.glo_ok X G (c.fact 82 (f := .glo "Beside") rfl) : _),
   (He.cls_ok (c.fact 83 (f := .cls "Beside") rfl) : _),
   (He.mkr_ok (c.fact 84 (f := .mkr "Beside") rfl) : _),
   (He.meth_ok (c.fact 85 (f := .meth "Beside" "shows") rfl) : _),
   (He.noat_ok (c.fact 86 (f := .noat "Beside" "one") rfl) : _),
   (He.noat_ok (c.fact 87 (f := .noat "Beside" "other") rfl) : _),
   (He.noat_ok (c.fact 88 (f := .noat "Beside" "third") rfl) : _),
   (c.def_ 40 (d := dd_Beside_init) rfl : _),
   (c.def_ 41 (d := dd_Beside_shows) rfl : _),
   (He.glo_ok X G (c.fact 89 (f := .glo "Line") rfl) : _),
   (He.cls_ok (c.fact 90 (f := .cls "Line") rfl) : _),
   (He.mkr_ok (c.fact 91 (f := .mkr "Line") rfl) : _),
   (He.meth_ok (c.fact 92 (f := .meth "Line" "shows") rfl) : _),
   (He.noat_ok (c.fact 93 (f := .noat "Line" "order") rfl) : _),
   (c.def_ 42 (d := dd_Line_init) rfl : _),
   (c.def_ 43 (d := dd_Line_shows) rfl : _),
   (He.glo_ok X G (c.fact 94 (f := .glo "Neither") rfl) : _),
   (He.cls_ok (c.fact 95 (f := .cls "Neither") rfl) : _),
   (He.mkr_ok (c.fact 96 (f := .mkr "Neither") rfl) : _),
   (He.meth_ok (c.fact 97 (f := .meth "Neither" "shows") rfl) : _),
   (He.noat_ok (c.fact 98 (f := .noat "Neither" "one") rfl) : _),
   (He.noat_ok (c.fact 99 (f := .noat "Neither" "other") rfl) : _),
   (c.def_ 44 (d := dd_Neither_init) rfl : _),
   (c.def_ 45 (d := dd_Neither_shows) rfl : _),
   (He.glo_ok X G (c.fact 100 (f := .glo "Round") rfl) : _),
   (He.cls_ok (c.fact 101 (f := .cls "Round") rfl) : _),
   (He.mkr_ok (c.fact 102 (f := .mkr "Round") rfl) : _),
   (He.meth_ok (c.fact 103 (f := .meth "Round" "shows") rfl) : _),
   (He.noat_ok (c.fact 104 (f := .noat "Round" "one") rfl) : _),
   (He.noat_ok (c.fact 105 (f := .noat "Round" "other") rfl) : _),
   (He.noat_ok (c.fact 106 (f := .noat "Round" "third") rfl) : _),
   (c.def_ 46 (d := dd_Round_init) rfl : _),
   (c.def_ 47 (d := dd_Round_shows) rfl : _),
   (c.def_ 7 (d := dd_cross_of) rfl : _),
   (He.glo_ok X G (c.fact 23 (f := .glo "cross_of") rfl) : _),
   (c.def_ 24 (d := dd_law_orders_right) rfl : _),
   (He.glo_ok X G (c.fact 40 (f := .glo "_law_orders_right") rfl) : _),
   (of_decide_eq_true (Bool.and_eq_true_iff.mp cx.more).2 : _),
   (kindB_ok (Bool.and_eq_true_iff.mp cx.more).1 : _)⟩

/-! ### the head -/
abbrev RowW : PySem.W.OpenRow := PySem.W.OpenLaw.row PySem.Challenge.rw_wholeahead_k06_answers_by_hand
abbrev hkW : PySem.W.Hook := He.hookX 46 fctL fnL [] tfL exB
def obW (s : PySem.W.SharedT) : He.AlX := He.obsX 46 fctL fnL [] tfL exB (HandSHeadRun.getT s)
theorem obW_eq (s : PySem.W.SharedT) : obW s = hkW.obs s.abs := He.obsX_eq (HandSHeadRun.getT_eq s)
theorem runW (w : World) : HandSHeadRun.RunEq RowW (PySem.W.view RowW.prog [46]) hkW obW 8000 ((["__name__", "TableError", "BadTable", "BadSquare", "check_table", "check_square", "has", "rows_with", "Answer", "are_things", "are_three", "Steps", "Cross", "Stretches", "Self", "Ranks", "Mutual", "Beside", "Line", "Neither"] : List PySem.Str) ++ (["Round", "only_in", "cross_of", "levels_of", "steps", "self_of", "sizes_of", "stretches", "_law_table", "_law_has", "_law_hasnt", "_law_cross", "_law_steps", "_law_stretches", "_law_ranks", "_law_line", "_law_says", "_law_bent", "_law_lists_right", "_law_orders_right"] : List PySem.Str) ++ (["_law_few_right", "_law_outright"] : List PySem.Str)) w := by
  intro os
  kernel_rfl
theorem factsW {w : World} {K : PySem.W.Frag} {h : Heap} {mg : Str → Option Value} {f : Addr} (X : K.In h) (G : h.Ns mainGlobals mg) (hfa : mg ("law" : Str) = some (.ref f)) (c : He.SaysX fctL fnL [] tfL exB w h K) :
    LamX.LawAtS PySem.Challenge.rw_wholeahead_k06_answers_by_hand w K C8.CX0 (6 + 1) 63 "_law_script" mg f h := by
  have T := mkTx X G c
  obtain ⟨f', fd, F, e⟩ := T.d_law.ex
  cases hfa.symm.trans e
  have b := FunD.bindsA (ps := ["_law_script"]) F fun _ _ _ _ _ _ us hl => match us, hl with | [_], _ => rfl
  refine ⟨fd, tfL.map (He.cT K), sp_law K, fun p hp => ?_, fun p hp => ?_, fun p hp => ?_, fun s v => b s [v] rfl, fun H a ns hl _ hH hS => ⟨a, ns, rfl, hS, hl, tabs_of hH, fun _ => rfl⟩, fun base _ _ hB => ok_law T hB F⟩
  · obtain ⟨t, ht, rfl⟩ := List.mem_map.mp hp
    exact c.empty t ht
  · obtain ⟨t, ht, rfl⟩ := List.mem_map.mp hp
    exact c.out t ht
  · obtain ⟨t, ht, rfl⟩ := List.mem_map.mp hp
    exact PySem.W.codeHd_of_K X (c.hd t ht)
end WA
open PySem PySem.W PySem.Calls PyProof.Rows
theorem PySem.Challenge.cw_wholeahead_k06_answers_by_hand_holds : PySem.Challenge.rw_wholeahead_k06_answers_by_hand.Holds := by
  w_on; o_law
  refine HandSHeadRun.head_any (r := OpenLaw.row PySem.Challenge.rw_wholeahead_k06_answers_by_hand) (q := view (OpenLaw.row PySem.Challenge.rw_wholeahead_k06_answers_by_hand).prog [46]) (H := WA.hkW) (ob := WA.obW) (M := 8000) (loose := ((["__name__", "TableError", "BadTable", "BadSquare", "check_table", "check_square", "has", "rows_with", "Answer", "are_things", "are_three", "Steps", "Cross", "Stretches", "Self", "Ranks", "Mutual", "Beside", "Line", "Neither"] : List PySem.Str) ++ (["Round", "only_in", "cross_of", "levels_of", "steps", "self_of", "sizes_of", "stretches", "_law_table", "_law_has", "_law_hasnt", "_law_cross", "_law_steps", "_law_stretches", "_law_ranks", "_law_line", "_law_says", "_law_bent", "_law_lists_right", "_law_orders_right"] : List PySem.Str) ++ (["_law_few_right", "_law_outright"] : List PySem.Str))) (d := HandSHeadRun.topDef (OpenLaw.row PySem.Challenge.rw_wholeahead_k06_answers_by_hand).prog 46) (kwd := []) WA.obW_eq
    (by kernel_rfl) (fun s => by kernel_rfl) WA.runW (by kernel_rfl) (by kernel_rfl) (by kernel_rfl) (by rfl) (by first | assumption | decide +kernel) (by decide +kernel) ⟨rfl, rfl, rfl, rfl, rfl, by decide +kernel⟩ ?hw ?hc
  case hw => w_witness2
  case hc =>
    refine LamX.walk_ofTsE (l := PySem.Challenge.rw_wholeahead_k06_answers_by_hand) (n := 63) (k := 6 + 1) (x := "_law_script") (CX := fun _ => C8.CX0) rfl (by decide) (by kernel_rfl) ⟨rfl, by decide, by decide⟩ ?F (fun _ _ _ _ _ z => z)
    intro w mg fa h Y G hmg0
    obtain ⟨K, KX, c⟩ := Y
    have hmg : mg ("law" : PySem.Str) = some (.ref fa) := by
      have e : (HandSHeadRun.topDef (OpenLaw.row PySem.Challenge.rw_wholeahead_k06_answers_by_hand).prog 46).name = ("law" : PySem.Str) := by kernel_rfl
      rw [← e]
      exact hmg0
    exact ⟨K, KX, WA.factsW KX G hmg c⟩
