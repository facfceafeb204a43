import PyProof.Rows.All
import PySem.Challenge.RW_wholeahead_k04_whole_ranks
import Wide.All
import OpenK.AllK
import Wide.FinOn
import HandS.ForMost
import HandS.Evl
import HandS.Strs
import HandS.StrMore
import HandS.IsInst
import HandS.Codes
import HandS.Conv
import HandS.Style
import HandS.Defaults
import HandS.HeadEnd
import HandS.HeadHook2
import HandS.Head2
import HandS.Dict
import HandS.SetFor
import HandS.TupSets
import HandS.HeadHook4
import HandS.Steps
import HandS.Walk
import KE.GoesZip
import KE.GoesMore
import HandS.Iter
import HandS.HeadHook1
import HandS.HeadWalk
import KE.KStateDown
set_option Elab.async false
set_option linter.all false
set_option maxRecDepth 100000
set_option maxHeartbeats 8000000
namespace WA
open PySem PySem.Spec PyProof.Rows L2 Evl
/-! ### tables as lists of lists of truth values -/
def sg (b : Bool) : Nat := if b then 120 else 45
def s1 (b : Bool) : Str := ⟨#[sg b]⟩
def rs (r : List Bool) : Str := ⟨(r.map sg).toArray⟩
abbrev Tb := List (List Bool)
def tv (T : Tb) : List V := T.map fun r => V.str (rs r)
theorem sg_inj : ∀ {a b : Bool}, sg a = sg b → a = b := by decide
theorem s1_x : ("x" : Str) = s1 true := by decide +kernel
theorem s1_d : ("-" : Str) = s1 false := by decide +kernel
theorem s1_inj {a b : Bool} (h : s1 a = s1 b) : a = b := by
  have e : (s1 a).cps.toList = (s1 b).cps.toList := by rw [h]
  have e2 : [sg a] = [sg b] := e
  exact sg_inj (List.cons.inj e2).1
theorem map_sg_inj : ∀ {a b : List Bool}, a.map sg = b.map sg → a = b
  | [], [], _ => rfl
  | [], _ :: _, h => by cases h
  | _ :: _, [], h => by cases h
  | x :: a, y :: b, h => by
    have h1 := List.cons.inj (show sg x :: a.map sg = sg y :: b.map sg from h)
    rw [sg_inj h1.1, map_sg_inj h1.2]
theorem rs_inj {a b : List Bool} (h : rs a = rs b) : a = b := map_sg_inj (show (rs a).cps.toList = (rs b).cps.toList by rw [h])
theorem rs_len (r : List Bool) : (rs r).length = r.length := by simp [rs, Str.length]
theorem rs_tl (r : List Bool) : (rs r).cps.toList = r.map sg := rfl
theorem tv_len (T : Tb) : (tv T).length = T.length := by unfold tv; rw [List.length_map]
theorem tv_inj : ∀ {a b : Tb}, tv a = tv b → a = b
  | [], [], _ => rfl
  | [], _ :: _, h => by cases h
  | _ :: _, [], h => by cases h
  | x :: a, y :: b, h => by
    have h1 := List.cons.inj (show V.str (rs x) :: tv a = V.str (rs y) :: tv b from h)
    rw [rs_inj (V.str.inj h1.1), tv_inj h1.2]
theorem tv_get {T : Tb} {i : Nat} {r : List Bool} (h : T[i]? = some r) : (tv T)[i]? = some (V.str (rs r)) := by
  unfold tv; rw [List.getElem?_map, h]; rfl
theorem joinL_nil : ∀ l : List (List Nat), TL.joinL [] l = l.flatten
  | [] => rfl
  | [p] => by show p = p ++ []; rw [List.append_nil]
  | p :: q :: r => by
    show p ++ ([] ++ TL.joinL [] (q :: r)) = p ++ (q :: r).flatten
    rw [List.nil_append, joinL_nil (q :: r)]
theorem sum_ones {α : Type} : ∀ bs : List α, (bs.map fun _ => 1).sum = bs.length
  | [] => rfl
  | b :: r => by rw [List.map_cons, List.sum_cons, sum_ones r, List.length_cons, Nat.add_comm]
theorem join_s1 (bs : List Bool) : Txt.join "" (bs.map s1) = rs bs := by
  refine TL.ext_tl ?_
  rw [TL.join_eq, TL.tl_join]
  have e0 : TL.tl ("" : Str) = [] := by decide +kernel
  rw [e0, joinL_nil]
  show _ = bs.map sg
  induction bs with
  | nil => rfl
  | cons b r ih =>
    show [sg b] ++ ((r.map s1).map TL.tl).flatten = sg b :: r.map sg
    rw [ih]; rfl
/-- rectangular: every row of width w -/
def Rect (T : Tb) (w : Nat) : Prop := ∀ r ∈ T, r.length = w
def gt (T : Tb) (i j : Nat) : Bool := (T.getD i []).getD j false
def turn (T : Tb) (w : Nat) : Tb := (List.range w).map fun j => T.map fun r => r.getD j false
theorem turn_len (T : Tb) (w : Nat) : (turn T w).length = w := by unfold turn; rw [List.length_map, List.length_range]
theorem turn_rect (T : Tb) (w : Nat) : Rect (turn T w) T.length := fun r hr => by
  unfold turn at hr
  obtain ⟨j, _, rfl⟩ := List.mem_map.mp hr
  rw [List.length_map]

/-! ### named readings -/
abbrev rAddI : R2 := rI0 fun i j => .int (i + j)
abbrev rSubI : R2 := rI0 fun i j => .int (i - j)
abbrev rMulI : R2 := rI CMul fun i j => .int (i * j)
abbrev rDivI : R2 := rI CDiv fun i j => .int (i / j)
abbrev rModI : R2 := rI (fun _ j => 0 < j) fun i j => .int (i % j)
abbrev rPowI : R2 := rI CPow fun i j => .int (i ^ j.toNat)
abbrev rShrI : R2 := rI (fun _ j => 0 ≤ j) fun i j => .int (i / 2 ^ j.toNat)
abbrev rAndI : R2 := rI0 fun i j => .int (Builtin.bitAnd i j)
abbrev rLtI : R2 := rI0 fun i j => .bl (decide (i < j))
abbrev rLeI : R2 := rI0 fun i j => .bl (decide (i ≤ j))
abbrev rGtI : R2 := rI0 fun i j => .bl (decide (j < i))
abbrev rGeI : R2 := rI0 fun i j => .bl (decide (j ≤ i))
abbrev rNegI : V → Hp → VK → Prop := rU fun i => .int (-i)
def rJoin (K : PySem.W.Frag) : V → List V → Hp → VK → Prop := fun x xs H Q => ∃ a p, ∃ ys : List Str, x = .str a ∧ xs = [.ref p] ∧ (SqL K H p (ys.map V.str) ∨ SqT K H p (ys.map V.str)) ∧
  (ys.map (·.length)).sum + ys.length * a.length ≤ 16777216 ∧ Q (.str (Txt.join a ys)) H
def rStripC : V → List V → Hp → VK → Prop := fun x xs H Q => ∃ a b, x = .str a ∧ xs = [.str b] ∧ a.length ≤ sizeLine ∧ Q (.str (Txt.stripChars a b)) H
def rCountS : V → List V → Hp → VK → Prop := fun x xs H Q => ∃ a b, x = .str a ∧ xs = [.str b] ∧ Q (.int (Txt.count a b)) H
def rLn (K : PySem.W.Frag) : List V → Hp → VK → Prop := fun xs H Q => ∃ x n, xs = [x] ∧ LenV K x H n ∧ Q (.int n) H
def rLs (K : PySem.W.Frag) : List V → Hp → VK → Prop := fun xs H Q => ∃ p ys, xs = [.ref p] ∧ (SqL K H p ys ∨ SqT K H p ys) ∧ ∀ l, H l = none → Q (.ref l) (upd H l (.lst ys))
/-- a + b, two texts -/
def rCatS : R2 := fun x y H Q => ∃ a b : Str, x = .str a ∧ y = .str b ∧ a.length + b.length ≤ sizeLine ∧ Q (.str (a ++ b)) H
section
variable {X : Cx} {o e : Expr} {to te : TE} {apos pos : Pos}
theorem pe_joinR (ho : PE X o to) (he : PE X e te) (hs : starEach [e] X.env = [(false, eval e X.env)] := by rfl) (hbase : attributeBase o "join" X.env (eval o X.env) = eval o X.env := by rfl) (hline : (apos.endLine == pos.line) = true := by rfl) :
    PE X (.Call (.Attribute o "join" apos) [e] [] pos) (tM1 (rJoin X.K) to te) := pe_m1 F.slot_str_join F.type_str_join mt_join ho he hs hbase hline
theorem pe_stripC (ho : PE X o to) (he : PE X e te) (hs : starEach [e] X.env = [(false, eval e X.env)] := by rfl) (hbase : attributeBase o "strip" X.env (eval o X.env) = eval o X.env := by rfl) (hline : (apos.endLine == pos.line) = true := by rfl) :
    PE X (.Call (.Attribute o "strip" apos) [e] [] pos) (tM1 rStripC to te) := pe_m1 F.slot_str_strip F.type_str_strip mt_stripChars ho he hs hbase hline
theorem pe_countS (ho : PE X o to) (he : PE X e te) (hs : starEach [e] X.env = [(false, eval e X.env)] := by rfl) (hbase : attributeBase o "count" X.env (eval o X.env) = eval o X.env := by rfl) (hline : (apos.endLine == pos.line) = true := by rfl) :
    PE X (.Call (.Attribute o "count" apos) [e] [] pos) (tM1 rCountS to te) := pe_m1 F.slot_str_count F.type_str_count mt_count ho he hs hbase hline
theorem cl_len : CallR X (.builtin "len") (rLn X.K) := call_len
theorem cl_list : CallR X (.type "list") (rLs X.K) := call_list_of
theorem op_catS : OpR X (binaryOp .Add) rCatS := op_add_str
end

/-! ### evaluation: a reference to a sequence -/
/-- evaluates to a list that reads xs (new or old) -/
def EvS (K : PySem.W.Frag) (te : TE) (σ : L2.St) (H : Hp) (xs : List V) : Prop := ∀ H1, Ex H H1 → ∀ Q : VK, (∀ p H2, Ex H1 H2 → SqL K H2 p xs → Q (.ref p) H2) → te σ H1 Q
section
variable {K : PySem.W.Frag} {σ : L2.St} {H H' : Hp} {ta tb te tx : TE} {t u : TT} {x y z v : V} {r : R2} {xs ys : List V}
theorem EvL.s (h : EvL te σ H xs) : EvS K te σ H xs := fun H1 e Q q => h H1 e Q fun p H2 _ e2 hp => q p H2 e2 (sq_of hp)
theorem Ev.s {a : Addr} (h : Ev te σ H (.ref a)) (hs : SqL K H a xs) : EvS K te σ H xs := fun H1 e Q q => h H1 e Q fun H2 e2 => q a H2 e2 (ex_l (e.trans e2) hs)
theorem evs_var {i : Nat} {a : Addr} (h : σ[i]? = some (some (.ref a))) (hs : SqL K H a xs) : EvS K (tVar i) σ H xs := Ev.s (ev_var h) hs
theorem EvS.mono (e : Ex H H') (h : EvS K te σ H xs) : EvS K te σ H' xs := fun H1 a Q q => h H1 (e.trans a) Q q
theorem EvS.is {ys : List V} (h : EvS K te σ H xs) (e : xs = ys) : EvS K te σ H ys := e ▸ h
theorem EvL.is {ys : List V} (h : EvL te σ H xs) (e : xs = ys) : EvL te σ H ys := e ▸ h
/-- len -/
theorem ev_lenS (h : EvS K te σ H xs) : Ev (tCB (rLn K) (tCons te tNil)) σ H (.int (xs.length : Nat)) := fun H1 e Q q =>
  h H1 e _ fun p H2 e2 hp => ⟨.ref p, xs.length, rfl, .inl ⟨xs, hp, rfl⟩, q H2 e2⟩
theorem ev_lenT {a : Str} (h : Ev te σ H (.str a)) (hz : a.length ≤ 100000) : Ev (tCB (rLn K) (tCons te tNil)) σ H (.int (a.length : Nat)) := fun H1 e Q q =>
  h H1 e _ fun H2 e2 => ⟨.str a, a.length, rfl, ⟨sz_of hz, rfl⟩, q H2 e2⟩
/-- list(xs): a copy -/
theorem el_copy (h : EvS K te σ H xs) : EvL (tCB (rLs K) (tCons te tNil)) σ H xs := fun H1 e Q q =>
  h H1 e _ fun p H2 e2 hp => ⟨p, xs, rfl, .inl hp, fun l hl => q l _ (fresh_back e2 hl) (e2.trans (Ex.new hl)) upd_same⟩
/-- xs[i] -/
theorem ev_ixLS {i : Int} (h : EvS K ta σ H xs) (hb : Ev tb σ H (.int i)) (ha : atI xs i = some v) : Ev (tOp (rIxL K) ta tb) σ H v := fun H1 e Q q =>
  h H1 e _ fun p H2 e2 hp => hb H2 (e.trans e2) _ fun H3 e3 => ⟨p, xs, i, v, rfl, rfl, ex_l e3 hp, ha, q H3 (e2.trans e3)⟩
theorem ev_ixU {i : Int} (h : EvU ta σ H xs) (hb : Ev tb σ H (.int i)) (ha : atI xs i = some v) : Ev (tOp (rIxT K) ta tb) σ H v := fun H1 e Q q =>
  h H1 e _ fun p H2 _ e2 hp => hb H2 (e.trans e2) _ fun H3 e3 => ⟨p, xs, i, v, rfl, rfl, ex_t e3 (st_of hp), ha, q H3 (e2.trans e3)⟩
/-- s[i] -/
theorem ev_ixSg {r : List Bool} {j : Nat} (h : Ev ta σ H (.str (rs r))) (hb : Ev tb σ H (.int (j : Nat))) (hj : j < r.length) (hz : r.length ≤ 100000) : Ev (tOp rIxS ta tb) σ H (.str (s1 (r.getD j false))) :=
  ev_op h hb (rv_ixS (by rw [rs_len]; exact hz) (by
    rw [rs_tl]
    refine atI_nat ?_
    rw [List.getElem?_map, List.getElem?_eq_getElem hj, List.getD_eq_getElem?_getD, List.getElem?_eq_getElem hj]; rfl))
/-- "x" if t else "-" -/
theorem ev_ifSg {b : Bool} (h : EvT t σ H b) : Ev (tIf t (tC (.str "x")) (tC (.str "-"))) σ H (.str (s1 b)) :=
  ev_if h (fun e => by subst e; exact s1_x ▸ ev_c) (fun e => by subst e; exact s1_d ▸ ev_c)
/-- "".join -/
theorem ev_joinS {bs : List Bool} (h : EvS K te σ H (bs.map fun b => V.str (s1 b))) (hz : bs.length ≤ 100000) : Ev (tM1 (rJoin K) (tC (.str "")) te) σ H (.str (rs bs)) := fun H1 e Q q =>
  ⟨⟨_, rfl⟩, h H1 e _ fun p H2 e2 hp => by
    refine ⟨"", p, bs.map s1, rfl, rfl, .inl (by rw [List.map_map]; exact hp), ?_, ?_⟩
    · have e1 : ((bs.map s1).map fun x => x.length) = bs.map fun _ => 1 := by rw [List.map_map]; rfl
      have e2 : ("" : Str).length = 0 := by decide +kernel
      rw [e1, e2, Nat.mul_zero, Nat.add_zero]
      have e3 := sum_ones bs
      omega
    · rw [join_s1]; exact q H2 e2⟩
/-- data equal to data -/
def dat : V → PyData
  | .non => .none | .bl b => .bool b | .int i => .int i | .str x => .str x
  | _ => .none
def isSI : V → Bool
  | .int _ => true | .str x => PyData.strOk x | _ => false
theorem dp_flat {H : Hp} : ∀ {v : V}, isSI v = true → Dp K H v (dat v)
  | .int i, _ => .int i
  | .str x, _ => .str x
  | .non, h | .bl _, h | .byt _, h | .flt _, h | .ref _, h | .ty _, h => by cases h
theorem dp_all {H : Hp} : ∀ {xs : List V}, xs.all isSI = true → DpAll K H xs (xs.map dat)
  | [], _ => .nil
  | x :: xs, h => by
    have h' := Bool.and_eq_true_iff.mp (show (isSI x && xs.all isSI) = true from h)
    exact .cons (dp_flat h'.1) (dp_all h'.2)
theorem eqv_flat : ∀ {x y : V}, isSI x = true → isSI y = true → PyData.eqv (dat x) (dat y) = decide (x = y)
  | .int i, .int j, _, _ => by rw [dec_int]; simp [dat, PyData.eqv]
  | .str i, .str j, _, _ => by rw [dec_str]; simp [dat, PyData.eqv]
  | .int i, .str j, _, _ => by simp [dat, PyData.eqv]
  | .str i, .int j, _, _ => by simp [dat, PyData.eqv]
  | .non, _, h, _ | .bl _, _, h, _ | .byt _, _, h, _ | .flt _, _, h, _ | .ref _, _, h, _ | .ty _, _, h, _ => by cases h
  | .int _, .non, _, h | .int _, .bl _, _, h | .int _, .byt _, _, h | .int _, .flt _, _, h | .int _, .ref _, _, h | .int _, .ty _, _, h => by cases h
  | .str _, .non, _, h | .str _, .bl _, _, h | .str _, .byt _, _, h | .str _, .flt _, _, h | .str _, .ref _, _, h | .str _, .ty _, _, h => by cases h
theorem eqvAll_flat : ∀ {xs ys : List V}, xs.all isSI = true → ys.all isSI = true → PyData.eqvAll (xs.map dat) (ys.map dat) = decide (xs = ys)
  | [], [], _, _ => rfl
  | [], y :: ys, _, _ => rfl
  | x :: xs, [], _, _ => rfl
  | x :: xs, y :: ys, h, g => by
    have h' := Bool.and_eq_true_iff.mp (show (isSI x && xs.all isSI) = true from h)
    have g' := Bool.and_eq_true_iff.mp (show (isSI y && ys.all isSI) = true from g)
    rw [List.map_cons, List.map_cons, PyData.eqvAll, eqv_flat h'.1 g'.1, eqvAll_flat h'.2 g'.2]
    by_cases e1 : x = y
    · by_cases e2 : xs = ys
      · simp [e1, e2]
      · simp [e1, e2]
    · simp [e1]
theorem lay_flat : ∀ {x : V}, isSI x = true → PyData.canLay0 (dat x) = true ∧ PyData.depth (dat x) = 0
  | .int i, _ => ⟨by simp [dat, PyData.canLay0], by simp [dat, PyData.depth]⟩
  | .str x, h => ⟨by simpa [dat, PyData.canLay0, isSI] using h, by simp [dat, PyData.depth]⟩
  | .non, h | .bl _, h | .byt _, h | .flt _, h | .ref _, h | .ty _, h => by cases h
theorem lay_all : ∀ {xs : List V}, xs.all isSI = true → PyData.canLayAll0 (xs.map dat) = true ∧ PyData.depthAll (xs.map dat) = 0
  | [], _ => ⟨rfl, rfl⟩
  | x :: xs, h => by
    have h' := Bool.and_eq_true_iff.mp (show (isSI x && xs.all isSI) = true from h)
    have a := lay_flat h'.1
    have b := lay_all h'.2
    refine ⟨?_, ?_⟩
    · show (PyData.canLay0 (dat x) && PyData.canLayAll0 (xs.map dat)) = true
      rw [a.1, b.1]; rfl
    · show max (PyData.depth (dat x)) (PyData.depthAll (xs.map dat)) = 0
      rw [a.2, b.2]; rfl
theorem shaped_flat {xs : List V} (h : xs.all isSI = true) : SeqAt.shaped (.list (xs.map dat)) = true := by
  have a := lay_all h
  unfold SeqAt.shaped
  have e1 : PyData.canLay0 (.list (xs.map dat)) = PyData.canLayAll0 (xs.map dat) := by simp [PyData.canLay0]
  have e2 : PyData.depth (.list (xs.map dat)) = PyData.depthAll (xs.map dat) + 1 := by simp [PyData.depth]
  rw [e1, e2, a.1, a.2]; rfl
theorem eqv_list {xs ys : List V} (h : xs.all isSI = true) (g : ys.all isSI = true) : PyData.eqv (.list (xs.map dat)) (.list (ys.map dat)) = decide (xs = ys) := by
  rw [PyData.eqv]; exact eqvAll_flat h g
/-- xs == ys, xs != ys: lists of ints and texts -/
theorem ev_eqS (h : EvS K ta σ H xs) (g : EvS K tb σ H ys) (fx : xs.all isSI = true) (fy : ys.all isSI = true) : Ev (tOp (rEqD K) ta tb) σ H (.bl (decide (xs = ys))) := fun H1 e Q q =>
  h H1 e _ fun p H2 e2 hp => g H2 (e.trans e2) _ fun p' H3 e3 hp' =>
    ⟨.list (xs.map dat), .list (ys.map dat), .lst (ex_l e3 hp) (dp_all fx), .lst hp' (dp_all fy), shaped_flat fx, shaped_flat fy, by rw [eqv_list fx fy]; exact q H3 (e2.trans e3)⟩
theorem ev_neS (h : EvS K ta σ H xs) (g : EvS K tb σ H ys) (fx : xs.all isSI = true) (fy : ys.all isSI = true) : Ev (tOp (rNeD K) ta tb) σ H (.bl (!decide (xs = ys))) := fun H1 e Q q =>
  h H1 e _ fun p H2 e2 hp => g H2 (e.trans e2) _ fun p' H3 e3 hp' =>
    ⟨.list (xs.map dat), .list (ys.map dat), .lst (ex_l e3 hp) (dp_all fx), .lst hp' (dp_all fy), shaped_flat fx, shaped_flat fy, by rw [eqv_list fx fy]; exact q H3 (e2.trans e3)⟩
theorem ok_s1 (b : Bool) : PyData.strOk (s1 b) = true := by cases b <;> decide +kernel
theorem ok_rs (r : List Bool) : PyData.strOk (rs r) = true := by
  unfold PyData.strOk
  rw [← Array.all_toList, rs_tl, List.all_eq_true]
  intro c hc
  obtain ⟨b, _, rfl⟩ := List.mem_map.mp hc
  cases b <;> decide
theorem si_tv (T : Tb) : (tv T).all isSI = true := by
  rw [List.all_eq_true]
  intro v hv
  obtain ⟨r, _, rfl⟩ := List.mem_map.mp hv
  exact ok_rs r
theorem si_ints (ns : List Int) : (ns.map V.int).all isSI = true := by
  rw [List.all_eq_true]
  intro v hv
  obtain ⟨r, _, rfl⟩ := List.mem_map.mp hv
  rfl
theorem evs {a : Addr} (h : Ev te σ H (.ref a)) (hs : SqL K H a xs) : EvS K te σ H xs := Ev.s h hs
theorem els (h : EvL te σ H xs) : EvS K te σ H xs := EvL.s h
/-- a op b op' c -/
theorem et_chain {r r' : R2} {tc : TE} {a b c : V} {p q : Bool} (ha : Ev ta σ H a) (hb : Ev tb σ H b) (hc : p = true → Ev tc σ H c) (hr : RV r a b H (.bl p)) (hr' : p = true → RV r' b c H (.bl q)) : EvT (tTest (tChain r r' ta tb tc)) σ H (p && q) := fun H1 e Q k =>
  ha H1 e _ fun H2 e2 => hb H2 (e.trans e2) _ fun H3 e3 => hr H3 ((e.trans e2).trans e3) _ fun H4 e4 => ⟨p, rfl, by
    cases p with
    | true =>
      rw [if_pos rfl]
      exact hc rfl H4 (((e.trans e2).trans e3).trans e4) _ fun H5 e5 => hr' rfl H5 ((((e.trans e2).trans e3).trans e4).trans e5) _ fun H6 e6 => ⟨q, rfl, k H6 ((((e2.trans e3).trans e4).trans e5).trans e6)⟩
    | false =>
      rw [if_neg Bool.false_ne_true]
      exact ⟨false, rfl, k H4 ((e2.trans e3).trans e4)⟩⟩
theorem ev_chain {r r' : R2} {tc : TE} {a b c : V} {p q : Bool} (ha : Ev ta σ H a) (hb : Ev tb σ H b) (hc : p = true → Ev tc σ H c) (hr : RV r a b H (.bl p)) (hr' : p = true → RV r' b c H (.bl q)) : Ev (tChain r r' ta tb tc) σ H (.bl (p && q)) := fun H1 e Q k =>
  ha H1 e _ fun H2 e2 => hb H2 (e.trans e2) _ fun H3 e3 => hr H3 ((e.trans e2).trans e3) _ fun H4 e4 => ⟨p, rfl, by
    cases p with
    | true =>
      rw [if_pos rfl]
      exact hc rfl H4 (((e.trans e2).trans e3).trans e4) _ fun H5 e5 => hr' rfl H5 ((((e.trans e2).trans e3).trans e4).trans e5) _ fun H6 e6 => k H6 ((((e2.trans e3).trans e4).trans e5).trans e6)
    | false =>
      rw [if_neg Bool.false_ne_true]
      exact k H4 ((e2.trans e3).trans e4)⟩
theorem el_nil : EvL (tLst tNil) σ H [] := el_lst ea_nil (Nat.zero_le _)
theorem dec_tv {a b : Tb} : decide (tv a = tv b) = decide (a = b) := by
  by_cases h : a = b
  · subst h; simp
  · rw [decide_eq_false h, decide_eq_false fun e => h (tv_inj e)]
theorem ints_inj : ∀ {a b : List Int}, a.map V.int = b.map V.int → a = b
  | [], [], _ => rfl
  | [], _ :: _, h => by cases h
  | _ :: _, [], h => by cases h
  | x :: a, y :: b, h => by
    have h1 := List.cons.inj (show V.int x :: a.map V.int = V.int y :: b.map V.int from h)
    rw [V.int.inj h1.1, ints_inj h1.2]
theorem dec_ints {a b : List Int} : decide (a.map V.int = b.map V.int) = decide (a = b) := by
  by_cases h : a = b
  · subst h; simp
  · rw [decide_eq_false h, decide_eq_false fun e => h (ints_inj e)]
/-! ### isinstance -/
theorem tyx_list {a : Addr} (h : SqL K H a xs) : TyX K H (.ref a) (.type "list") := by
  rcases h with (h | ⟨o, h⟩) | ⟨o, its, n, hk, hc, _⟩
  · exact .base (.lst h)
  · exact .base (.frz h)
  · exact .kList hk hc
theorem ev_isi {c : V} {ty u : Value} {b : Bool} (h : Ev te σ H x) (hc : ClsV c u) (hty : ∀ H1, Ex H H1 → TyX K H1 x ty) (hk : PySem.W.kitOne K ty u = some b) : Ev (tCB (rIsi K) (tCons te (tCons (tC c) tNil))) σ H (.bl b) := fun H1 e Q q =>
  h H1 e _ fun H2 e2 => ⟨x, c, ty, u, b, rfl, hc, hty H2 (e.trans e2), hk, q H2 e2⟩
theorem ev_isiL (h : EvS K te σ H xs) : Ev (tCB (rIsi K) (tCons te (tCons (tC (.ty "list")) tNil))) σ H (.bl true) := fun H1 e Q q =>
  h H1 e _ fun p H2 e2 hp => ⟨.ref p, .ty "list", _, _, true, rfl, .ty _, tyx_list hp, kit_ty (by decide +kernel), q H2 e2⟩
theorem ev_isiStr {s : Str} (h : Ev te σ H (.str s)) : Ev (tCB (rIsi K) (tCons te (tCons (tC (.ty "str")) tNil))) σ H (.bl true) := ev_isi h (.ty _) (fun _ _ => .base (.str s)) (kit_ty (by decide +kernel))
theorem ev_isiInt {i : Int} (h : Ev te σ H (.int i)) : Ev (tCB (rIsi K) (tCons te (tCons (tC (.ty "int")) tNil))) σ H (.bl true) := ev_isi h (.ty _) (fun _ _ => .base (.int i)) (kit_ty (by decide +kernel))
theorem ev_isiBool {i : Int} (h : Ev te σ H (.int i)) : Ev (tCB (rIsi K) (tCons te (tCons (tC (.ty "bool")) tNil))) σ H (.bl false) := ev_isi h (.ty _) (fun _ _ => .base (.int i)) (kit_ty (by decide +kernel))
/-! ### all, any, sum -/
theorem ev_all {bs : List Bool} (h : EvS K te σ H (bs.map V.bl)) : Ev (tCB (rAll K) (tCons te tNil)) σ H (.bl (bs.all id)) := fun H1 e Q q => h H1 e _ fun p H2 e2 hp => ⟨p, bs, rfl, hp, q H2 e2⟩
theorem ev_any {bs : List Bool} (h : EvS K te σ H (bs.map V.bl)) : Ev (tCB (rAny K) (tCons te tNil)) σ H (.bl (bs.any id)) := fun H1 e Q q => h H1 e _ fun p H2 e2 hp => ⟨p, bs, rfl, hp, q H2 e2⟩
theorem ev_allM {α : Type} {l : List α} {p : α → Bool} (h : EvS K te σ H (l.map fun x => V.bl (p x))) : Ev (tCB (rAll K) (tCons te tNil)) σ H (.bl (l.all p)) := by
  have e : (l.map p).all id = l.all p := by rw [List.all_map]; rfl
  rw [← e]
  exact ev_all (by rw [List.map_map]; exact h)
theorem ev_anyM {α : Type} {l : List α} {p : α → Bool} (h : EvS K te σ H (l.map fun x => V.bl (p x))) : Ev (tCB (rAny K) (tCons te tNil)) σ H (.bl (l.any p)) := by
  have e : (l.map p).any id = l.any p := by rw [List.any_map]; rfl
  rw [← e]
  exact ev_any (by rw [List.map_map]; exact h)
theorem ev_sum {ns : List Int} (h : EvS K te σ H (ns.map V.int)) : Ev (tCB (rSum K) (tCons te tNil)) σ H (.int ns.sum) := fun H1 e Q q => h H1 e _ fun p H2 e2 hp => ⟨p, ns, rfl, hp, q H2 e2⟩
end
/-! ### comprehensions -/
/-- n turns, each of which leads from what holds ahead of it to what holds behind it: a measure that falls -/
theorem n_turns {α : Type} {n : Nat} {a0 : α} {Stop : Nat → α → Prop} {Go : Nat → α → (α → Prop) → Prop} (Pv : Nat → α → Prop) (h0 : Pv 0 a0) (go : ∀ i a, i < n → Pv i a → Go i a (Pv (i + 1))) (stop : ∀ a, Pv n a → Stop n a) :
    ∃ W : Nat → Nat → α → Prop, (∃ m, W 0 m a0) ∧ ∀ i m a, W i m a → Stop i a ∨ ∃ N : α → Prop, (∀ a', N a' → ∃ m', m' < m ∧ W (i + 1) m' a') ∧ Go i a N := by
  refine ⟨fun i m a => i + m = n ∧ Pv i a, ⟨n, Nat.zero_add n, h0⟩, fun i m a ⟨e, p⟩ => ?_⟩
  cases m with
  | zero => exact .inl (stop a ((show i = n from e) ▸ p) |> fun q => (show i = n from e).symm ▸ q)
  | succ m => exact .inr ⟨Pv (i + 1), fun a' p' => ⟨m, Nat.lt_succ_self m, by omega, p'⟩, go i a (by omega) p⟩
/-- the test's word, and, if it is so, the item behind those of the list at D -/
abbrev PutTo (tt : TT) (te : TE) (D : Addr) (N : Hp → Prop) (σ2 : L2.St) (H2 : Hp) : Prop :=
  tt σ2 H2 fun b H3 => if b = true then te σ2 H3 fun y H4 => ∃ acc, H4 D = some (.lst acc) ∧ acc.length < sizeLine ∧ N (upd H4 D (.lst (acc ++ [y]))) else N H3
/-- over any iterator of n turns -/
theorem lc_it {J : It} {n : Nat} {g : TG} {tt : TT} {te : TE} {vs : List Nat} {σ : L2.St} {H1 : Hp} {D : Addr} {Qd : Hp → Prop} (Pv : Nat → Hp → Prop) (hstop : ∀ H, Pv n H → J.stop n H) (hgo : ∀ i H, i < n → Pv i H → J.go i H) (h0 : Pv 0 (upd H1 D (.lst [])))
    (hs : ∀ i x H H', i < n → Pv i H → J.yld i H x H' → g x (wipe σ vs) H' fun σ2 H2 => wipe σ2 vs = wipe σ vs ∧ PutTo tt te D (Pv (i + 1)) σ2 H2) (hd : ∀ H, Pv n H → Qd H) :
    ∃ W : Nat → Nat → Hp → Prop, (∃ k, W 0 k (upd H1 D (.lst []))) ∧ ∀ i k H, W i k H → (J.stop i H ∧ Qd H) ∨
      (J.go i H ∧ ∃ N : Hp → Prop, (∀ H', N H' → ∃ k', k' < k ∧ W (i + 1) k' H') ∧ ∀ x H', J.yld i H x H' → g x (wipe σ vs) H' fun σ2 H2 => wipe σ2 vs = wipe σ vs ∧ PutTo tt te D N σ2 H2) := by
  obtain ⟨W, w0, step⟩ := n_turns (Stop := fun i H => J.stop i H ∧ Qd H) (Go := fun i H N => J.go i H ∧ ∀ x H', J.yld i H x H' → g x (wipe σ vs) H' fun σ2 H2 => wipe σ2 vs = wipe σ vs ∧ PutTo tt te D N σ2 H2) Pv h0
    (fun i H lt p => ⟨hgo i H lt p, fun x H' y => hs i x H H' lt p y⟩) fun H p => ⟨hstop H p, hd H p⟩
  exact ⟨W, w0, fun i k H h => (step i k H h).imp id fun ⟨N, fall, go, put⟩ => ⟨go, N, fall, put⟩⟩
section
variable {K : PySem.W.Frag} {σ : L2.St} {H H' : Hp} {ta tb te tl : TE} {tt : TT} {xs ys : List V} {vs : List Nat}
/-- the list so far -/
def Lc (H : Hp) (D : Addr) (acc : List V) (H' : Hp) : Prop := H D = none ∧ Ex H H' ∧ H' D = some (.lst acc)
theorem lc_turn {D : Addr} {acc acc' : List V} {σ2 : L2.St} {b : Bool} {v : V} {N : Hp → Prop} (p : Lc H D acc H') (hl : acc.length < 100000) (ht : EvT tt σ2 H b) (he : b = true → Ev te σ2 H v) (hN : ∀ H2, Lc H D (if b = true then acc ++ [v] else acc) H2 → N H2) :
    tt σ2 H' fun b H3 => if b = true then te σ2 H3 fun y H4 => ∃ acc, H4 D = some (.lst acc) ∧ acc.length < sizeLine ∧ N (upd H4 D (.lst (acc ++ [y]))) else N H3 := by
  obtain ⟨p1, p2, p3⟩ := p
  refine ht H' p2 _ ?_
  intro H3 e3
  cases b with
  | true =>
    rw [if_pos rfl]
    refine he rfl H3 (p2.trans e3) _ fun H4 e4 => ⟨acc, e4 D _ (e3 D _ p3), sz_lt hl, hN _ ⟨p1, Ex.mut ((p2.trans e3).trans e4) p1, ?_⟩⟩
    rw [if_pos rfl]; exact upd_same
  | false =>
    rw [if_neg Bool.false_ne_true]
    refine hN _ ⟨p1, p2.trans e3, ?_⟩
    rw [if_neg Bool.false_ne_true]
    exact e3 D _ p3
theorem et_yes : EvT tYes σ H true := fun H1 _ _ q => q H1 (Ex.refl H1)
/-- what a filter and a map give of the first turns -/
def fm {α : Type} (p : α → Bool) (f : α → V) (l : List α) : List V := (l.filter p).map f
theorem fm_next {α : Type} {p : α → Bool} {f : α → V} {l : List α} {i : Nat} {x : α} (h : l[i]? = some x) : (if p x = true then fm p f (l.take i) ++ [f x] else fm p f (l.take i)) = fm p f (l.take (i + 1)) := by
  unfold fm
  have e : l.take (i + 1) = l.take i ++ [x] := by rw [List.take_add_one, h]; rfl
  rw [e, List.filter_append, List.map_append]
  cases hp : p x with
  | true => rw [if_pos rfl, List.filter_cons, if_pos hp]; rfl
  | false => rw [if_neg Bool.false_ne_true, List.filter_cons, if_neg (by rw [hp]; decide)]; show _ = _ ++ []; rw [List.append_nil]
theorem fm_len {α : Type} (p : α → Bool) (f : α → V) (l : List α) (i : Nat) : (fm p f (l.take i)).length ≤ l.length := by
  unfold fm
  rw [List.length_map]
  have h := List.length_filter_le p (l.take i)
  have h2 := List.length_take_le i l
  have h3 : (l.take i).length ≤ l.length := by rw [List.length_take]; omega
  omega
theorem fm_yes {α : Type} (f : α → V) (l : List α) : fm (fun _ => true) f l = l.map f := by
  unfold fm
  rw [List.filter_eq_self.mpr fun _ _ => rfl]
/-- [te for j in tl if tt], tl a list of the g's -/
theorem el_filt {α : Type} {l : List α} {g f : α → V} {p : α → Bool} {j : Nat} (h : EvS K tl σ H (l.map g)) (hz : l.length ≤ 40000) (hw : ∀ x, wipe ((wipe σ vs).set j (some x)) vs = wipe σ vs)
    (ht : ∀ x ∈ l, EvT tt ((wipe σ vs).set j (some (g x))) H (p x)) (he : ∀ x ∈ l, p x = true → Ev te ((wipe σ vs).set j (some (g x))) H (f x)) : EvL (tLc (iList K tl) (gName j) tt te vs) σ H (fm p f l) := fun H0 e Q q =>
  h H0 e _ fun a H1 e1 hx => ⟨a, rfl, ⟨_, hx⟩, fun D hD => lc_list (xs := l.map g) (fun i H' => Lc H1 D (fm p f (l.take i)) H') ⟨hD, Ex.new hD, upd_same⟩ (fun i H' _ pv => ex_l pv.2.1 hx)
    (fun i x H' hi pv => by
      rw [List.getElem?_map] at hi
      obtain ⟨y, hy, rfl⟩ := Option.map_eq_some_iff.mp hi
      have hm := List.mem_of_getElem? hy
      refine ⟨hw _, lc_turn (acc' := []) pv (by have := fm_len p f l i; omega) ((ht y hm).mono (e.trans e1)) (fun hb => (he y hm hb).mono (e.trans e1)) fun H2 h2 => ?_⟩
      rw [fm_next hy] at h2
      exact h2)
    (fun H' pv => by
      rw [List.length_map, List.take_length] at pv
      exact q D H' (fresh_back e1 pv.1) (e1.trans pv.2.1) pv.2.2)⟩
theorem el_map {α : Type} {l : List α} {g f : α → V} {j : Nat} (h : EvS K tl σ H (l.map g)) (hz : l.length ≤ 40000) (hw : ∀ x, wipe ((wipe σ vs).set j (some x)) vs = wipe σ vs)
    (he : ∀ x ∈ l, Ev te ((wipe σ vs).set j (some (g x))) H (f x)) : EvL (tLc (iList K tl) (gName j) tYes te vs) σ H (l.map f) := by
  rw [← fm_yes]
  exact el_filt h hz hw (fun _ _ => et_yes) fun x hx _ => he x hx
/-- over range(n) -/
theorem el_filtR {f : Nat → V} {p : Nat → Bool} {j n : Nat} {tn : TE} (h : Ev tn σ H (.int (n : Nat))) (hz : n ≤ 40000) (hw : ∀ x, wipe ((wipe σ vs).set j (some x)) vs = wipe σ vs)
    (ht : ∀ i, i < n → EvT tt ((wipe σ vs).set j (some (.int (i : Nat)))) H (p i)) (he : ∀ i, i < n → p i = true → Ev te ((wipe σ vs).set j (some (.int (i : Nat)))) H (f i)) : EvL (tLc (iRng1 (tCons tn tNil)) (gName j) tt te vs) σ H (fm p f (List.range n)) := fun H0 e Q q =>
  h H0 e _ fun H1 e1 => ⟨(n : Nat), rfl, by omega, by omega, fun D hD => lc_range (lo := 0) (n := ((n : Nat) : Int).toNat) (fun i H' => Lc H1 D (fm p f ((List.range n).take i)) H') ⟨hD, Ex.new hD, upd_same⟩
    (fun i H' hi pv => by
      have hi' : i < n := by omega
      have hy : (List.range n)[i]? = some i := by rw [List.getElem?_range hi']
      have e0 : (0 : Int) + (i : Int) = ((i : Nat) : Int) := Int.zero_add _
      rw [e0]
      refine ⟨hw _, lc_turn (acc' := []) pv (by have := fm_len p f (List.range n) i; rw [List.length_range] at this; omega) ((ht i hi').mono (e.trans e1)) (fun hb => (he i hi' hb).mono (e.trans e1)) fun H2 h2 => ?_⟩
      rw [fm_next hy] at h2
      exact h2)
    (fun H' pv => by
      have e2 : (List.range n).take ((n : Nat) : Int).toNat = List.range n := List.take_of_length_le (by rw [List.length_range]; omega)
      rw [e2] at pv
      exact q D H' (fresh_back e1 pv.1) (e1.trans pv.2.1) pv.2.2)⟩
theorem el_mapR {f : Nat → V} {j n : Nat} {tn : TE} (h : Ev tn σ H (.int (n : Nat))) (hz : n ≤ 40000) (hw : ∀ x, wipe ((wipe σ vs).set j (some x)) vs = wipe σ vs)
    (he : ∀ i, i < n → Ev te ((wipe σ vs).set j (some (.int (i : Nat)))) H (f i)) : EvL (tLc (iRng1 (tCons tn tNil)) (gName j) tYes te vs) σ H ((List.range n).map f) := by
  rw [← fm_yes]
  exact el_filtR h hz hw (fun _ _ => et_yes) fun i hi _ => he i hi
/-- a pair's names -/
theorem g_pair {i j : Nat} {T : Addr} {x y : V} {Q : L2.St → Hp → Prop} (hT : SqT K H T [x, y]) (q : Q ((σ.set i (some x)).set j (some y)) H) : gTup K 2 (gCons (gName i) (gCons (gName j) gNil)) (.ref T) σ H Q :=
  ⟨T, [x, y], rfl, hT, rfl, x, [y], rfl, y, [], rfl, rfl, q⟩
/-- over enumerate(tl) -/
theorem el_filtE {α : Type} {l : List α} {g : α → V} {f : Nat × α → V} {p : Nat × α → Bool} {i j : Nat} (h : EvS K tl σ H (l.map g)) (hz : l.length ≤ 40000) (hw : ∀ x y, wipe (((wipe σ vs).set i (some x)).set j (some y)) vs = wipe σ vs)
    (ht : ∀ (k : Nat) x, l[k]? = some x → EvT tt (((wipe σ vs).set i (some (.int (k : Nat)))).set j (some (g x))) H (p (k, x))) (he : ∀ (k : Nat) x, l[k]? = some x → p (k, x) = true → Ev te (((wipe σ vs).set i (some (.int (k : Nat)))).set j (some (g x))) H (f (k, x))) :
    EvL (tLc (iEnum K (tCons tl tNil)) (gTup K 2 (gCons (gName i) (gCons (gName j) gNil))) tt te vs) σ H (fm p f ((List.range l.length).zip l)) := fun H0 e Q q =>
  h H0 e _ fun a H1 e1 hx => ⟨a, _, rfl, hx, fun D hD => by
    have hlen : ((List.range l.length).zip l).length = l.length := by rw [List.length_zip, List.length_range]; omega
    refine lc_it (J := Ite K a) (n := l.length) (fun k H' => Lc H1 D (fm p f (((List.range l.length).zip l).take k)) H') (fun H' pv => ⟨_, ex_l pv.2.1 hx, by rw [List.length_map]; exact Nat.le_refl _⟩)
      (fun k H' hk pv => ⟨_, _, ex_l pv.2.1 hx, by rw [List.getElem?_map, List.getElem?_eq_getElem hk]; rfl⟩) ⟨hD, Ex.new hD, upd_same⟩ (fun k x H' H'' hk pv hy => ?_) (fun H' pv => ?_)
    · obtain ⟨T, y, rfl, hT, rfl, hf⟩ := hy
      have hl : l[k]? = some l[k] := List.getElem?_eq_getElem hk
      have ey : y = g l[k] := by
        have z := hf _ (ex_l pv.2.1 hx)
        rw [List.getElem?_map, hl] at z
        exact (Option.some.inj z).symm
      subst ey
      have hz2 : ((List.range l.length).zip l)[k]? = some (k, l[k]) := by rw [List.getElem?_zip_eq_some]; exact ⟨List.getElem?_range hk, hl⟩
      have nTD : D ≠ T := fun z => by rw [← z] at hT; rw [pv.2.2] at hT; cases hT
      have pv2 : Lc H1 D (fm p f (((List.range l.length).zip l).take k)) (upd H' T (.tup [.int (k : Nat), g l[k]])) := ⟨pv.1, pv.2.1.trans (Ex.new hT), by rw [upd_ne nTD]; exact pv.2.2⟩
      refine g_pair (st_of upd_same) ⟨hw _ _, lc_turn (acc' := []) pv2 (by have := fm_len p f ((List.range l.length).zip l) k; rw [hlen] at this; omega) ((ht k _ hl).mono (e.trans e1)) (fun hb => (he k _ hl hb).mono (e.trans e1)) fun H2 h2 => ?_⟩
      rw [fm_next hz2] at h2
      exact h2
    · have e2 : ((List.range l.length).zip l).take l.length = (List.range l.length).zip l := List.take_of_length_le (by rw [hlen]; exact Nat.le_refl _)
      rw [e2] at pv
      exact q D H' (fresh_back e1 pv.1) (e1.trans pv.2.1) pv.2.2⟩
theorem el_mapE {α : Type} {l : List α} {g : α → V} {f : Nat × α → V} {i j : Nat} (h : EvS K tl σ H (l.map g)) (hz : l.length ≤ 40000) (hw : ∀ x y, wipe (((wipe σ vs).set i (some x)).set j (some y)) vs = wipe σ vs)
    (he : ∀ (k : Nat) x, l[k]? = some x → Ev te (((wipe σ vs).set i (some (.int (k : Nat)))).set j (some (g x))) H (f (k, x))) :
    EvL (tLc (iEnum K (tCons tl tNil)) (gTup K 2 (gCons (gName i) (gCons (gName j) gNil))) tYes te vs) σ H (((List.range l.length).zip l).map f) := by
  rw [← fm_yes]
  exact el_filtE h hz hw (fun _ _ _ => et_yes) fun k x hx _ => he k x hx
/-- over zip(ta, tb), two lists of one length -/
theorem el_filtZ {α β : Type} {l : List α} {m : List β} {g : α → V} {g' : β → V} {f : α × β → V} {p : α × β → Bool} {i j : Nat} (h : EvS K ta σ H (l.map g)) (h' : EvS K tb σ H (m.map g')) (hz : l.length ≤ 40000) (hlm : l.length = m.length) (hw : ∀ x y, wipe (((wipe σ vs).set i (some x)).set j (some y)) vs = wipe σ vs)
    (ht : ∀ x y, (x, y) ∈ l.zip m → EvT tt (((wipe σ vs).set i (some (g x))).set j (some (g' y))) H (p (x, y))) (he : ∀ x y, (x, y) ∈ l.zip m → p (x, y) = true → Ev te (((wipe σ vs).set i (some (g x))).set j (some (g' y))) H (f (x, y))) :
    EvL (tLc (iZip K (tCons ta (tCons tb tNil))) (gTup K 2 (gCons (gName i) (gCons (gName j) gNil))) tt te vs) σ H (fm p f (l.zip m)) := fun H0 e Q q =>
  h H0 e _ fun a H1 e1 hx => h' H1 (e.trans e1) _ fun b H2 e2 hy => ⟨a, b, _, _, rfl, ex_l e2 hx, hy, fun D hD => by
    have hlen : (l.zip m).length = l.length := by rw [List.length_zip]; omega
    have e12 := e1.trans e2
    have hx2 := ex_l e2 hx
    refine lc_it (J := Itz K a b) (n := l.length) (fun k H' => Lc H2 D (fm p f ((l.zip m).take k)) H') (fun H' pv => ⟨_, _, ex_l pv.2.1 hx2, ex_l pv.2.1 hy, .inl (by rw [List.length_map]; exact Nat.le_refl _)⟩)
      (fun k H' hk pv => ⟨_, _, g l[k], g' (m[k]'(by omega)), ex_l pv.2.1 hx2, ex_l pv.2.1 hy, by rw [List.getElem?_map, List.getElem?_eq_getElem hk]; rfl, by rw [List.getElem?_map, List.getElem?_eq_getElem (show k < m.length by omega)]; rfl⟩) ⟨hD, Ex.new hD, upd_same⟩ (fun k x H' H'' hk pv hyl => ?_) (fun H' pv => ?_)
    · obtain ⟨T, x1, y1, rfl, hT, rfl, hf1, hf2⟩ := hyl
      have hk2 : k < m.length := by omega
      have hl : l[k]? = some l[k] := List.getElem?_eq_getElem hk
      have hm : m[k]? = some m[k] := List.getElem?_eq_getElem hk2
      have ex1 : x1 = g l[k] := by
        have z := hf1 _ (ex_l pv.2.1 hx2)
        rw [List.getElem?_map, hl] at z
        exact (Option.some.inj z).symm
      have ey1 : y1 = g' m[k] := by
        have z := hf2 _ (ex_l pv.2.1 hy)
        rw [List.getElem?_map, hm] at z
        exact (Option.some.inj z).symm
      subst ex1 ey1
      have hz2 : (l.zip m)[k]? = some (l[k], m[k]) := by rw [List.getElem?_zip_eq_some]; exact ⟨hl, hm⟩
      have hmem := List.mem_of_getElem? hz2
      have nTD : D ≠ T := fun z => by rw [← z] at hT; rw [pv.2.2] at hT; cases hT
      have pv2 : Lc H2 D (fm p f ((l.zip m).take k)) (upd H' T (.tup [g l[k], g' m[k]])) := ⟨pv.1, pv.2.1.trans (Ex.new hT), by rw [upd_ne nTD]; exact pv.2.2⟩
      refine g_pair (st_of upd_same) ⟨hw _ _, lc_turn (acc' := []) pv2 (by have := fm_len p f (l.zip m) k; rw [hlen] at this; omega) ((ht _ _ hmem).mono (e.trans e12)) (fun hb => (he _ _ hmem hb).mono (e.trans e12)) fun H3 h3 => ?_⟩
      rw [fm_next hz2] at h3
      exact h3
    · have e3 : (l.zip m).take l.length = l.zip m := List.take_of_length_le (by rw [hlen]; exact Nat.le_refl _)
      rw [e3] at pv
      exact q D H' (fresh_back e12 pv.1) (e12.trans pv.2.1) pv.2.2⟩
theorem el_mapZ {α β : Type} {l : List α} {m : List β} {g : α → V} {g' : β → V} {f : α × β → V} {i j : Nat} (h : EvS K ta σ H (l.map g)) (h' : EvS K tb σ H (m.map g')) (hz : l.length ≤ 40000) (hlm : l.length = m.length) (hw : ∀ x y, wipe (((wipe σ vs).set i (some x)).set j (some y)) vs = wipe σ vs)
    (he : ∀ x y, (x, y) ∈ l.zip m → Ev te (((wipe σ vs).set i (some (g x))).set j (some (g' y))) H (f (x, y))) :
    EvL (tLc (iZip K (tCons ta (tCons tb tNil))) (gTup K 2 (gCons (gName i) (gCons (gName j) gNil))) tYes te vs) σ H ((l.zip m).map f) := by
  rw [← fm_yes]
  exact el_filtZ h h' hz hlm hw (fun _ _ _ => et_yes) fun x y hx _ => he x y hx
end
/-! ### calls -/
section
variable {K : PySem.W.Frag} {σ : L2.St} {H H' : Hp} {ta tb te tl : TE} {xs : List V} {z : V} {sp : Sp} {E : XK}
/-- f(e), e a list -/
theorem ev_callS1 {dvs : List V} (h : EvS K te σ H xs) (hs : ∀ p H1, Ex H H1 → SqL K H1 p xs → SpV sp ([.ref p] ++ dvs) H1 z) : Ev (tCall sp dvs E (tCons te tNil)) σ H z := fun H1 e Q q =>
  h H1 e _ fun p H2 e2 hp => hs p H2 (e.trans e2) hp H2 (Ex.refl H2) Q (fun H3 e3 => q H3 (e2.trans e3)) E
theorem el_callS1 {dvs ys : List V} (h : EvS K te σ H xs) (hs : ∀ p H1, Ex H H1 → SqL K H1 p xs → SpL sp ([.ref p] ++ dvs) H1 ys) : EvL (tCall sp dvs E (tCons te tNil)) σ H ys := fun H1 e Q q =>
  h H1 e _ fun p H2 e2 hp => hs p H2 (e.trans e2) hp H2 (Ex.refl H2) Q (fun p' H3 h3 e3 h4 => q p' H3 (fresh_back e2 h3) (e2.trans e3) h4) E
/-- a promise: a value; a new list -/
def spV (R : List V → Hp → V → Prop) : Sp := fun vs H Q _ => ∃ z, R vs H z ∧ ∀ H2, Ex H H2 → Q z H2
def spL (R : List V → Hp → List V → Prop) : Sp := fun vs H Q _ => ∃ xs, R vs H xs ∧ ∀ p H2, H p = none → Ex H H2 → H2 p = some (.lst xs) → Q (.ref p) H2
theorem spV_of {R : List V → Hp → V → Prop} {vs : List V} (h : ∀ H1, Ex H H1 → R vs H1 z) : SpV (spV R) vs H z := fun H1 e Q q E => ⟨z, h H1 e, q⟩
theorem spL_of {R : List V → Hp → List V → Prop} {vs ys : List V} (h : ∀ H1, Ex H H1 → R vs H1 ys) : SpL (spL R) vs H ys := fun H1 e Q q E => ⟨ys, h H1 e, q⟩
end
/-! ### a def of the text -/
section
variable {P : Program} {w : World} {K : PySem.W.Frag} {mg : Str → Option Value} {base : Heap}
structure Dn (K : PySem.W.Frag) (mg : Str → Option Value) (x : Str) (st : Stmt) : Prop where
  ex : ∃ f fd, FunD K x x (defArgs st) (defBody st) (defScope st) [] [] f fd ∧ mg x = some (.ref f)
/-- a def's promise by its body -/
theorem Dn.cal {x : Str} {st : Stmt} {N ps : List Str} {k : Nat} {sp : Sp} (D : Dn K mg x st) (S : FnScope N ps (defScope st))
    (hb : ∀ (kV doc pm : Value) (an : Option Addr) (cdv ct : Value) (us : List Value), us.length = ps.length → bindArgs (PySem.W.fnOf x x (defArgs st) (defBody st) (defScope st) .none kV doc pm an cdv ct) ⟨us, []⟩ = pure (ps.zip us))
    (len : ∀ vs H Q E, sp vs H Q E → vs.length = ps.length)
    (hbody : ∀ (f : Addr) (cdv : Value) (A : Around) (outer : List Env) (s : Shared) (H : Hp) (vs : List V) (Q : VK) (E : XK), Room k (A.deeper (envOfC x (defScope st) s.heap.objs.size f cdv)) → sp vs H Q E →
      ∃ t, PSs (cxOf C8.CX0 P w K mg base N x (defScope st) f cdv A outer s H E).nox (defBody st) t ∧ t { nx := fun _ H' => Q .non H', rt := Q } (start N vs) H) : C8.Cal P w K mg base (k + 1) x sp [] := by
  obtain ⟨f, fd, F, hm⟩ := D.ex
  refine ⟨f, fd, ps, [], F.ok S len fun cdv A outer s H vs Q E hr h => ?_, hm, F.kp, F.bindsN hb, .nil⟩
  obtain ⟨t, h1, h2⟩ := hbody f cdv A outer s H vs Q E hr h
  exact ⟨t, h1.nox, h2⟩
/-- the law itself, by its body -/
theorem fn_ok {x y : Str} {st : Stmt} {N ps : List Str} {k : Nat} {sp : Sp} {f : Addr} {fd : FuncData} (F : FunD K x y (defArgs st) (defBody st) (defScope st) [] [] f fd) (S : FnScope N ps (defScope st))
    (len : ∀ vs H Q E, sp vs H Q E → vs.length = ps.length)
    (hbody : ∀ (f : Addr) (cdv : Value) (A : Around) (outer : List Env) (s : Shared) (H : Hp) (vs : List V) (Q : VK) (E : XK), Room k (A.deeper (envOfC y (defScope st) s.heap.objs.size f cdv)) → sp vs H Q E →
      ∃ t, PSs (cxOf C8.CX0 P w K mg base N y (defScope st) f cdv A outer s H E).nox (defBody st) t ∧ t { nx := fun _ H' => Q .non H', rt := Q } (start N vs) H) : FnOk P w K mg base C8.CX0 (k + 1) f fd ps sp :=
  F.ok S len fun cdv A outer s H vs Q E hr h => by
    obtain ⟨t, h1, h2⟩ := hbody f cdv A outer s H vs Q E hr h
    exact ⟨t, h1.nox, h2⟩
end
end WA

namespace WA
open PySem PySem.Spec PyProof.Rows L2 Evl
/-! ### slices by any step -/
def pick {α : Type} (xs : List α) (lo hi st : Option Int) : List α := (sliceRange (sliceBounds lo hi st xs.length).1 (sliceBounds lo hi st xs.length).2.1 (sliceBounds lo hi st xs.length).2.2).filterMap (xs[·]?)
theorem pick_map {α β : Type} (f : α → β) (xs : List α) (lo hi st : Option Int) : pick (xs.map f) lo hi st = (pick xs lo hi st).map f := by
  unfold pick
  rw [List.length_map, List.map_filterMap]
  congr 1
  funext i
  rw [List.getElem?_map]
theorem pick_len {α : Type} (xs : List α) (lo hi st : Option Int) : (pick xs lo hi st).length ≤ (sliceRange (sliceBounds lo hi st xs.length).1 (sliceBounds lo hi st xs.length).2.1 (sliceBounds lo hi st xs.length).2.2).length := List.length_filterMap_le _ _
theorem vals_pick : ∀ (is : List Nat) {xs : List V} {us : List Value}, Vals xs us → Vals (is.filterMap (xs[·]?)) (is.filterMap (us[·]?))
  | [], _, _, _ => .nil
  | i :: is, xs, us, r => by
    cases h : xs[i]? with
    | none =>
      rw [List.filterMap_cons_none h, List.filterMap_cons_none (r.none_of h)]
      exact vals_pick is r
    | some x =>
      obtain ⟨u, hu, ru⟩ := r.get h
      rw [List.filterMap_cons_some h, List.filterMap_cons_some hu]
      exact .cons ru (vals_pick is r)
def tSl3 (K : PySem.W.Frag) (te : TE) (tl th ts : TO) : TE := fun σ H Q => te σ H fun x H1 => tl σ H1 fun l H2 => th σ H2 fun u H3 => ts σ H3 fun st H4 => ∃ a xs, x = .ref a ∧ SqL K H4 a xs ∧ st ≠ some 0 ∧ (pick xs l u st).length ≤ sizeLine ∧
  ∀ p, H4 p = none → Q (.ref p) (upd H4 p (.lst (pick xs l u st)))
theorem pe_slice3 {X : Cx} {e : Expr} {te : TE} {lo hi : Option Expr} {st : Expr} {tl th ts : TO} {pos p2 : Pos} (he : PE X e te) (hl : PO X lo tl) (hu : PO X hi th) (hst : PO X (some st) ts)
    (hsub : ∀ o i, subscripted (.Slice lo hi (some st) p2) false o i = operate [o, i] (getItem o i) := by intros; with_unfolding_all rfl) : PE X (.Subscript e (.Slice lo hi (some st) p2) pos) (tSl3 X.K te tl th ts) := by
  refine ⟨fun pins s σ H Q I h => ?_⟩
  refine Subscript_ (thn (he.run pins s σ H _ I h) fun v s1 ⟨x, H1, I1, r1, q1⟩ => ?_)
  refine wpAny_Slice (thn (hl.run pins s1 σ H1 _ I1 q1) fun vl s2 ⟨l, H2, I2, pl, q2⟩ => thn (hu.run pins s2 σ H2 _ I2 q2) fun vu s3 ⟨u, H3, I3, pu, q3⟩ => thn (hst.run pins s3 σ H3 _ I3 q3) fun vs s4 ⟨k, H4, I4, pk, q4⟩ => ?_)
  obtain ⟨a, xs, rfl, hx, h0, hz, q⟩ := q4
  have I5 : Inv X pins σ H4 { s4 with heap := s4.heap.push { cls := .type "slice", data := .fields #[vl, vu, vs] } } := I4.kept (t' := s4.toks) fun b ob q => Heap.get?_push_of_some _ q
  cases r1
  obtain ⟨its, r, ht, hzx⟩ := I5.list hx
  have hlen := r.length
  refine tail_any (ops := [.ref a, .ref s4.heap.objs.size]) ht.isList.typeIs slot_list_getitem.lookup ?_ (hsub _ _)
  refine wpAny_getItem_list_slice ht.isList (Heap.IsSliceOf.new ..) pl pu pk h0 ?_ (by rw [List.size_toArray] <;> omega)
  have ep : slicePick its.toArray l u k = (pick its l u k).toArray := by
    unfold slicePick pick
    simp only [List.size_toArray, List.getElem?_toArray]
  have rv : Vals (pick xs l u k) (pick its l u k) := by
    unfold pick
    rw [hlen]
    exact vals_pick _ r
  rw [ep]
  exact ⟨.ref _, _, I5.laid (o := .lst (pick xs l u k)) (t' := s4.toks) (fun b ob q => Heap.get?_push_of_some _ q) (Nat.le_refl _) ⟨hz, _, 0, rv, Heap.get?_push_size _ rfl⟩, rfl, q _ (I5.hok.fresh (Nat.le_refl _))⟩
/-! ### list(range(a, b, c)) -/
def tRg3 (ta tb tc : TE) : L2.St → Hp → (Int → Int → Int → Hp → Prop) → Prop := fun σ H Q => ta σ H fun x H1 => tb σ H1 fun y H2 => tc σ H2 fun z H3 => ∃ i j k, x = .int i ∧ y = .int j ∧ z = .int k ∧ k ≠ 0 ∧ k.natAbs < 1073741824 ∧ Q i j k H3
def PRg3 (X : Cx) (e : Expr) (t : L2.St → Hp → (Int → Int → Int → Hp → Prop) → Prop) : Prop :=
  ∀ (pins : List (Addr × Obj)) (s : Shared) (σ : L2.St) (H : Hp) (Q : Int → Int → Int → Hp → Prop), Inv X pins σ H s → t σ H Q →
    wpAny (model X.prog X.w) X.A (eval e X.env) (fun x s' => ∃ r a b c t u v H', x = .ref r ∧ IsRange s'.heap r a b c t u v ∧ Inv X pins σ H' s' ∧ Q a b c H') X.xe s
theorem prg_3 {X : Cx} {a b c : Expr} {ta tb tc : TE} {p pos : Pos} (hg : Gl X "range") (hm : X.mg "range" = none) (ha : PE X a ta) (hb : PE X b tb) (hc : PE X c tc)
    (na : starEach [a, b, c] X.env = (false, eval a X.env) :: starEach [b, c] X.env := by rfl) (nb : starEach [b, c] X.env = (false, eval b X.env) :: starEach [c] X.env := by rfl) (nc : starEach [c] X.env = (false, eval c X.env) :: starEach [] X.env := by rfl)
    (hp : (backTo pos (starEach [b, c] X.env)).any (·.1) = false := by rfl) : PRg3 X (.Call (.Name "range" p) [a, b, c] [] pos) (tRg3 ta tb tc) := by
  intro pins s σ H Q I h
  refine Call_ (ld_blt I hg hm boot_range (PyProof.Rows.callWith_type1 (args_cons (thn (ha.run pins s σ H _ I h) fun v s1 ⟨x, H1, I1, r1, q1⟩ => args_cons (thn (hb.run pins s1 σ H1 _ I1 q1) fun u s2 ⟨y, H2, I2, r2, q2⟩ => one_arg hc I2 q2 (fun t s3 z H3 I3 r3 q => ?_) nc) nb) na) na hp))
  obtain ⟨i, j, k, rfl, rfl, rfl, k0, k1, q⟩ := q
  obtain ⟨t1, rfl⟩ := r1
  obtain ⟨t2, rfl⟩ := r2
  obtain ⟨t3, rfl⟩ := r3
  exact call_range_3 k0 ⟨_, i, j, k, _, _, _, H3, rfl, IsRange.new _ _ _ _ _ _ _, I3.kept fun b u e => Heap.get?_push_of_some _ e, q⟩ (.inl (PyProof.noPylong_small k1))
def rgV3 (a c : Int) (n : Nat) : List V := (List.range n).map fun i => V.int (a + (i : Nat) * c)
theorem vals_rg3 {a c : Int} {n : Nat} {acc : Array Value} (h : ItemsOf (fun i v => ∃ t, v = .int (a + i * c) t) acc n) : Vals (rgV3 a c n) acc.toList := by
  have e : acc.toList.length = n := by rw [Array.length_toList]; exact h.1
  unfold rgV3
  rw [← e]
  refine vals_of_get acc.toList _ fun j u hj => ?_
  obtain ⟨t, rfl⟩ := h.2 j u (by rw [← hj, Array.getElem?_toList])
  exact ⟨t, rfl⟩
def tLstRg3 (te : L2.St → Hp → (Int → Int → Int → Hp → Prop) → Prop) : TE := fun σ H Q => te σ H fun a b c H1 => ∃ n : Nat, Builtin.Range.small a b c = true ∧ Builtin.Range.rangeSize a b c = n ∧ n ≤ 1000 ∧ ∀ q, H1 q = none → Q (.ref q) (upd H1 q (.lst (rgV3 a c n)))
theorem pe_listRg3 {X : Cx} {e : Expr} {te : L2.St → Hp → (Int → Int → Int → Hp → Prop) → Prop} {p pos : Pos} (hc : X.calm = true) (hg : Gl X "list") (hm : X.mg "list" = none) (he : PRg3 X e te) (na : starEach [e] X.env = (false, eval e X.env) :: starEach [] X.env := by rfl) :
    PE X (.Call (.Name "list" p) [e] [] pos) (tLstRg3 te) := by
  refine ⟨fun pins s σ H Q I h => ?_⟩
  refine Call_ (ld_blt I hg hm boot_list (PyProof.Rows.callWith_type1 (args_cons (thn (he pins s σ H _ I h) fun x s1 ⟨r, a, b, c, t, u, v, H1, ex, hr, I1, n, b1, b2, b3, q⟩ => args_nil ?_) na) na))
  subst ex
  refine call_list_range (I1.ok.hd hc) hr b1 b2 (by omega) fun h' tk acc c' hk e' hi => ?_
  have hz : (rgV3 a c n).length ≤ sizeLine := by unfold rgV3; rw [List.length_map, List.length_range, sizeLine_eq]; omega
  exact ⟨.ref _, _, I1.laid (o := .lst (rgV3 a c n)) hk (Nat.le_refl _) ⟨hz, acc.toList, c', vals_rg3 hi, by rw [Array.toArray_toList]; exact e'⟩, rfl, q _ (I1.hok.fresh (Nat.le_refl _))⟩
theorem rg3_ok : ∀ n : Nat, n < 200 → Builtin.Range.small 0 n 3 = true ∧ Builtin.Range.rangeSize 0 n 3 = (((n + 2) / 3 : Nat) : Int) := by decide +kernel
end WA

namespace WA
open PySem PySem.Spec PyProof.Rows L2 Evl
/-! ### set(xs), xs a list, whatever its items are -/
/-- a set object just made -/
abbrev newSetO (w : World) : Obj := { cls := .type "set", dict := none, data := .set #[] 0 (.fresh 0 0 (!w.params.followText "set-order")) }
/-- all that stands in the one heap stands in the other one, too -/
def Grows (h h' : Heap) : Prop := ∀ b o, h.get? b = some o → h'.get? b = some o
/-- behind set(xs): what Fl says of the place that was free, and nothing else is changed -/
def Filled (Fl : Addr → Heap → Prop) (s s2 : Shared) : Prop := ∃ h' tk, s2 = { s with heap := h', toks := tk } ∧ Fl s.heap.objs.size h' ∧ Grows s.heap h'
/-- the loop over the list at l makes of an empty set at a what Fl says -/
def Fills (P : Program) (w : World) (l : Addr) (its : Array Value) (Fl : Addr → Heap → Prop) : Prop :=
  ∀ (A : Around) (a it : Addr) (t : Shared) (R : Result → Shared → Prop), A.handled = none → l ≠ it → a ∉ [it, l] → t.heap.get? a = some (newSetO w) → t.heap.IsListIter it l 0 → t.heap.IsList l its →
    (∀ t', Moved [a, it] (fun g g' => g' = g) t t' → Fl a t'.heap → R (.ok (.ret .none)) t') → codeAny (model P w) A (.builtin "set.update.loop" ⟨[.ref a, .ref it], []⟩) R t
theorem Fills.mono {P : Program} {w : World} {l : Addr} {its : Array Value} {Fl Fl' : Addr → Heap → Prop} (F : Fills P w l its Fl) (h : ∀ a p, Fl a p → Fl' a p) : Fills P w l its Fl' :=
  fun A a it t R x1 x2 x3 x4 x5 x6 q => F A a it t R x1 x2 x3 x4 x5 x6 fun t' m f => q t' m (h a _ f)
/-- the place behind the last one, and the one behind that -/
theorem new_apart {h : Heap} {o o' : Obj} {l : Addr} (e : h.get? l = some o) : l ≠ (h.push o').objs.size ∧ h.objs.size ∉ [(h.push o').objs.size, l] ∧ ∀ b u, h.get? b = some u → b ∉ [h.objs.size, (h.push o').objs.size] := by
  have z : (h.push o').objs.size = h.objs.size + 1 := Heap.size_push ..
  have far : ∀ (b : Addr) (u : Obj), h.get? b = some u → b ≠ (h.push o').objs.size ∧ b ≠ h.objs.size := fun b u eb => by
    have lt := Heap.lt_size eb
    exact ⟨fun q => Nat.lt_irrefl _ (Nat.lt_trans (z ▸ q ▸ lt : (h.objs.size + 1) < h.objs.size) (Nat.lt_succ_self _)), Nat.ne_of_lt lt⟩
  refine ⟨(far l o e).1, fun m => ?_, fun b u eb m => ?_⟩
  · rcases (List.mem_cons.mp m).imp_right List.mem_singleton.mp with q | q
    · exact Nat.ne_of_lt (Nat.lt_succ_self _) (q.trans z)
    · exact (far l o e).2 q.symm
  · rcases (List.mem_cons.mp m).imp_right List.mem_singleton.mp with q | q
    · exact (far b u eb).2 q
    · exact (far b u eb).1 q
section
variable {P : Program} {w : World} {l : Addr} {its : Array Value} {Fl : Addr → Heap → Prop} {A : Around} {s : Shared} {E : Value → Shared → Prop}
theorem fill_init (fl : Fills P w l its Fl) (hh : A.handled = none) (hl : s.heap.IsList l its) {R : PySem.Fin → Shared → Prop}
    (hR : ∀ f t, wants (fun r t => r = .none ∧ Filled Fl s t) E (.ok f) t → R (.done f) t) {E' : Value → Shared → Prop} :
    wpAny (model P w) A (Builtin.«set.__init__» ⟨[.ref s.heap.objs.size, .ref l], []⟩) R E' { s with heap := s.heap.push (newSetO w) } := by
  obtain ⟨⟨cl, di, da, sl⟩, hol, e1, nl, e2⟩ := hl
  dsimp only at e1 e2
  cases e1
  cases e2
  obtain ⟨ap1, ap2, ap3⟩ := new_apart (o' := newSetO w) hol
  have atNew : (s.heap.push (newSetO w)).get? s.heap.objs.size = some (newSetO w) := Heap.get?_push_size _ rfl
  have atOld := Heap.get?_push_of_some (newSetO w) hol
  have isl : (s.heap.push (newSetO w)).IsList l its := ⟨_, atOld, rfl, nl, rfl⟩
  have t1 := F.sub_list_set
  have t2 := F.sub_list_frozenset
  have t3 : (Value.type "list" == Value.type "dict") = false := by decide
  unfold Builtin.«set.__init__»
  unfold noKeywords Builtin.Frozenset.updateFrom
  generalize hPI : pyIter = PI
  wp_walk
  subst hPI
  refine wpAny_pyIter_list isl (wpAny_bind (wpAny_runValue (fl _ _ _ _ _ (by simp [hh]) ap1 ap2 (Heap.get?_push_of_some _ atNew) ⟨_, Heap.get?_push_size _ rfl, rfl, rfl⟩ (isl.push _) fun t m q => wpAny_pure (wpAny_pure (hR _ _ ⟨rfl, t.heap, t.toks, ?_, q, fun b o e => ?_⟩)))))
  · obtain ⟨th, tg, td, tt, to⟩ := t
    cases m.gens
    cases m.drawn
    cases m.os
    rfl
  · exact m.heap b o (ap3 b o e) (Heap.get?_push_of_some _ (Heap.get?_push_of_some _ e))
/-- set(xs) -/
theorem call_fill (fl : Fills P w l its Fl) (hh : A.handled = none) (hl : s.heap.IsList l its) {Q : Value → Shared → Prop} (hQ : ∀ t, Filled Fl s t → Q (.ref s.heap.objs.size) t) : wpAny (model P w) A (call (.type "set") [.ref l]) Q E s := by
  have tc := F.called_set
  obtain ⟨m1, m2, hm⟩ := tc.mro
  have hma := tc.made
  have hsu := tc.sub
  have k0 := F.typeCall_set_1 (.ref l)
  have k1 := tc.notType
  have k2 := tc.canCreate
  have quiet : (Code.builtin "type.__call__" ⟨[.type "set", .ref l], []⟩).quiet = true := Code.quiet_builtin _ (by decide +kernel)
  have plain := Around.under_plain (A := A) (weight_type_call_type "set" [.ref l] []) rfl
  refine wpAny_call (codeAny_of_tree (wpAny_pure ⟨quiet, codeAny_builtin F.entry_type_call ?_⟩))
  rw [plain]
  repeat any_goals first | assumption | wp_step
  let s0 : Shared := { s with heap := s.heap.push (newSetO w) }
  refine codeAny_mono (code_set_led1 (Q₁ := fun x t => x = .ref s.heap.objs.size ∧ t = s0) (E := E) (.ref l) ⟨rfl, rfl⟩) fun r1 t1 g1 => ?_
  match r1, g1 with
  | .error e, g1 => exact g1
  | .ok .next, g1 => exact g1.elim
  | .ok .brk, g1 => exact g1.elim
  | .ok .cont, g1 => exact g1.elim
  | .ok (.ret x), g1 =>
    obtain ⟨rfl, rfl⟩ := g1
    have hT : s0.TypeIs (.ref s.heap.objs.size) "set" := ⟨_, Heap.get?_push_size _ rfl, rfl⟩
    have y1 := tc.init.lookup
    have y2 := tc.init.bind (.ref s.heap.objs.size)
    repeat any_goals first | assumption | wp_step
    refine codeAny_mono (codeAny_call_builtin (R := wants (fun r t => r = .none ∧ Filled Fl s t) E) tc.init.plain F.entry_set_init (check_set_init_1 hT (fill_init fl (by simp [hh]) hl fun f t g => g))) fun r2 t2 g2 => ?_
    match r2, g2 with
    | .error e, g2 => exact g2
    | .ok .next, g2 => exact g2.elim
    | .ok .brk, g2 => exact g2.elim
    | .ok .cont, g2 => exact g2.elim
    | .ok (.ret x), g2 =>
      obtain ⟨rfl, mk⟩ := g2
      repeat any_goals first | assumption | wp_step
      exact hQ _ mk
end
/-! ### set(xs), xs a list of ints -/
theorem fills_ints {P : Program} {w : World} {l : Addr} {its : Array Value} {ns : List Int} (hi : IntsAre its.toList ns) (hb : ns.length + 1 < scanBound) : Fills P w l its fun a h => ∃ c, SetR w h a (fun j => decide (j ∈ ns)) c := by
  intro A a it t R hh hit ha h0 h1 h2 hR
  have hsz : its.size = ns.length := by
    have q := IntsAre.length hi
    rwa [Array.length_toList] at q
  have val : ∀ (i : Nat) (v : Value), its[i]? = some v → ∃ k t, ns[i]? = some k ∧ v = .int k t := by
    intro i v hv
    have hv' : its.toList[i]? = some v := by rw [Array.getElem?_toList]; exact hv
    obtain ⟨t, e⟩ := IntsAre.int_at hi i v hv'
    have hlt2 : i < ns.length := by rw [← hsz]; exact (Array.getElem?_eq_some_iff.mp hv).1
    refine ⟨ns[i], t, List.getElem?_eq_getElem hlt2, ?_⟩
    rw [e, List.getD_eq_getElem?_getD, List.getElem?_eq_getElem hlt2] <;> rfl
  exact set_update_ints (Walks.list (prog := P) (w := w) (A := A.in1) (by simp [hh]) it l hit its).toS a ha ns hsz hb val its.size 0 t rfl (Nat.zero_le _) ⟨h1, h2⟩ ⟨0, Nat.le_refl 0, setR_new_at h0⟩ fun t' c m _ r => hR t' m ⟨c, r⟩
/-- the members, one by one -/
def Keys0 (ns ks : List Int) : Prop := ks.Nodup ∧ ∀ k, k ∈ ks ↔ k ∈ ns
theorem setR_keys {w : World} {h : Heap} {a : Addr} {ns : List Int} {c : Nat} (R : SetR w h a (fun j => decide (j ∈ ns)) c) : ∃ ks, Keys0 ns ks ∧ ks.length = c := by
  obtain ⟨o, es, ep, t, _, _, _, _, nd, hk, _, _, hn, _⟩ := R
  refine ⟨es.toList.map keyOf, ⟨nd, fun k => ?_⟩, ?_⟩
  · have z := hk k
    simp only [decide_eq_true_eq] at z
    exact z.symm
  · rw [List.length_map, Array.length_toList]; exact hn
/-- set(xs) -/
def rSetI (K : PySem.W.Frag) (w : World) : List V → Hp → VK → Prop := fun xs H Q => ∃ p ns, xs = [.ref p] ∧ SqL K H p (ns.map V.int) ∧ ns.length ≤ 1000 ∧
  ∀ l ks, H l = none → Keys0 ns ks → Q (.ref l) (upd H l (SetO w l (fun j => decide (j ∈ ns)) ks.length))
theorem cr_setI {X : Cx} (hc : X.calm = true) : CallR X (.type "set") (rSetI X.K X.w) := by
  intro pins s σ H xs us Q I r ⟨p, ns, ex, hp, hz, q⟩
  subst ex
  rw [Vals.ref1 r]
  obtain ⟨its, rv, pl, hlen⟩ := I.list hp
  refine call_fill (fills_ints (ints_of_vals rv) (by have : 1000 + 1 < scanBound := (by decide); omega)) (I.ok.hd hc) pl.isList fun s2 ⟨h', tk, e, ⟨c, R⟩, kp⟩ => ?_
  obtain ⟨ks, k1, rfl⟩ := setR_keys R
  subst e
  exact ⟨.ref _, _, I.laid (t' := tk) kp (Nat.le_refl _) (setO_new R), rfl, q _ ks (I.hok.fresh (Nat.le_refl _)) k1⟩
theorem nodup_le {ks ns : List Int} (h : ks.Nodup) (g : ∀ k, k ∈ ks → k ∈ ns) : ks.length ≤ ns.length := by
  induction ks generalizing ns with
  | nil => simp
  | cons x r ih =>
    rw [List.nodup_cons] at h
    have hx := g x (by simp)
    have q := ih h.2 (ns := ns.erase x) fun k hk => (List.mem_erase_of_ne fun (z : k = x) => h.1 (by rw [← z]; exact hk)).mpr (g k (by simp [hk]))
    have p := List.length_pos_of_mem hx
    rw [List.length_erase_of_mem hx] at q
    simp only [List.length_cons]
    omega
theorem Keys0.le {ns ks : List Int} (h : Keys0 ns ks) : ks.length ≤ ns.length := nodup_le h.1 fun k hk => (h.2 k).mp hk
end WA

namespace WA
open PySem PySem.Spec PyProof.Rows L2 Evl
/-! ### signs stripped -/
theorem strip_signs (r : List Bool) : Txt.stripChars (rs r) "x-" = "" := by
  have h0 : ∀ b, (("x-" : Str).cps.contains (sg b)) = true := by intro b; cases b <;> decide +kernel
  have e1 : ((rs r).cps.toList.takeWhile ("x-" : Str).cps.contains).length = r.length := by
    rw [rs_tl]
    have : ∀ l : List Bool, ((l.map sg).takeWhile ("x-" : Str).cps.contains) = l.map sg := by
      intro l
      induction l with
      | nil => rfl
      | cons b l ih => rw [List.map_cons, List.takeWhile_cons, if_pos (h0 b), ih]
    rw [this, List.length_map]
  have e2 : stripLo ("x-" : Str).cps.contains true (rs r) = r.length := e1
  have e3 : stripHi ("x-" : Str).cps.contains true (rs r) r.length = r.length := by
    unfold stripHi
    rw [if_pos rfl, rs_tl, List.drop_of_length_le (by rw [List.length_map]; exact Nat.le_refl _), rs_len]
    rfl
  unfold Txt.stripChars Txt.stripBy
  unfold stripSame stripped
  rw [e2, e3, rs_len]
  cases r with
  | nil =>
    rw [if_pos (by rfl)]
    rfl
  | cons b r =>
    rw [if_neg (by simp)]
    refine TL.ext_tl ?_
    rw [TL.tl_strSub, Nat.sub_self, List.take_zero]
    decide +kernel
/-! ### a table at an address -/
structure At (K : PySem.W.Frag) (H : Hp) (a : Addr) (T : Tb) (w : Nat) : Prop where
  sq : SqL K H a (tv T)
  rect : Rect T w
  ln : T.length ≤ 1000
  lw : w ≤ 1000
theorem At.mono {K : PySem.W.Frag} {H H' : Hp} {a : Addr} {T : Tb} {w : Nat} (h : At K H a T w) (e : Ex H H') : At K H' a T w := ⟨ex_l e h.sq, h.rect, h.ln, h.lw⟩
theorem At.row {K : PySem.W.Frag} {H : Hp} {a : Addr} {T : Tb} {w i : Nat} (h : At K H a T w) (hi : i < T.length) : (T.getD i []).length = w := by
  rw [List.getD_eq_getElem?_getD, List.getElem?_eq_getElem hi]
  exact h.rect _ (List.getElem_mem hi)
theorem row_at {T : Tb} {i : Nat} (hi : i < T.length) : T[i]? = some (T.getD i []) := by
  rw [List.getD_eq_getElem?_getD, List.getElem?_eq_getElem hi]; rfl
theorem mem_row {T : Tb} {i : Nat} (hi : i < T.length) : T.getD i [] ∈ T := List.mem_of_getElem? (row_at hi)
section
variable {K : PySem.W.Frag} {σ : L2.St} {H H' : Hp} {te ta tb : TE}
theorem dec_s1 (b c : Bool) : decide (V.str (s1 b) = V.str (s1 c)) = decide (b = c) := by
  by_cases h : b = c
  · subst h; simp
  · rw [decide_eq_false h, decide_eq_false fun e => h (s1_inj (V.str.inj e))]
theorem ev_isX {b : Bool} (h : Ev te σ H (.str (s1 b))) : Ev (tOp rEq te (tC (.str "x"))) σ H (.bl b) :=
  ev_is (ev_op h ev_c (rv_eq rfl)) (by rw [s1_x, dec_s1]; cases b <;> rfl)
theorem ev_isD {b : Bool} (h : Ev te σ H (.str (s1 b))) : Ev (tOp rEq te (tC (.str "-"))) σ H (.bl (!b)) :=
  ev_is (ev_op h ev_c (rv_eq rfl)) (by rw [s1_d, dec_s1]; cases b <;> rfl)
/-- T[i] -/
theorem ev_rowI {T : Tb} {i : Nat} {v : V} (h : EvS K ta σ H (tv T)) (hi : i < T.length) (hb : Ev tb σ H (.int (i : Nat))) : Ev (tOp (rIxL K) ta tb) σ H (.str (rs (T.getD i []))) := ev_ixLS h hb (atI_nat (tv_get (row_at hi)))
/-- T[i][j] -/
theorem ev_cell {a : Addr} {T : Tb} {w i j : Nat} {tc : TE} (h : At K H a T w) (ha : Ev ta σ H (.ref a)) (hb : Ev tb σ H (.int (i : Nat))) (hc : Ev tc σ H (.int (j : Nat))) (hi : i < T.length) (hj : j < w) :
    Ev (tOp rIxS (tOp (rIxL K) ta tb) tc) σ H (.str (s1 (gt T i j))) := by
  have hr := h.row hi
  have := h.lw
  exact ev_ixSg (ev_rowI (v := .non) (evs ha h.sq) hi hb) hc (by omega) (by omega)
theorem ev_lenTab {a : Addr} {T : Tb} {w : Nat} (h : At K H a T w) (ha : Ev ta σ H (.ref a)) : Ev (tCB (rLn K) (tCons ta tNil)) σ H (.int (T.length : Nat)) := by
  have := ev_lenS (evs ha h.sq)
  rw [tv_len] at this
  exact this
theorem ev_lenRow {r : List Bool} (h : Ev te σ H (.str (rs r))) (hz : r.length ≤ 1000) : Ev (tCB (rLn K) (tCons te tNil)) σ H (.int (r.length : Nat)) := by
  have := ev_lenT (K := K) h (by rw [rs_len]; omega)
  rw [rs_len] at this
  exact this
/-- len(T[0]) -/
theorem ev_len0 {a : Addr} {T : Tb} {w : Nat} (h : At K H a T w) (ha : Ev ta σ H (.ref a)) (hn : T ≠ []) : Ev (tCB (rLn K) (tCons (tOp (rIxL K) ta (tC (.int 0))) tNil)) σ H (.int (w : Nat)) := by
  have h0 : 0 < T.length := List.length_pos_iff.mpr hn
  have hr := h.row h0
  have := h.lw
  have z := ev_lenRow (K := K) (ev_rowI (v := .non) (evs ha h.sq) h0 (tb := tC (.int 0)) ev_c) (by omega)
  rw [hr] at z
  exact z
/-- T == [] -/
theorem ev_empty {T : Tb} (h : EvS K ta σ H (tv T)) : Ev (tOp (rEqD K) ta (tLst tNil)) σ H (.bl (decide (T = []))) :=
  ev_is (ev_eqS h (els el_nil) (si_tv T) rfl) (by rw [show ([] : List V) = tv [] from rfl, dec_tv])
theorem ev_nempty {T : Tb} (h : EvS K ta σ H (tv T)) : Ev (tOp (rNeD K) ta (tLst tNil)) σ H (.bl (!decide (T = []))) :=
  ev_is (ev_neS h (els el_nil) (si_tv T) rfl) (by rw [show ([] : List V) = tv [] from rfl, dec_tv])
theorem ev_eqTab {T T' : Tb} (h : EvS K ta σ H (tv T)) (g : EvS K tb σ H (tv T')) : Ev (tOp (rEqD K) ta tb) σ H (.bl (decide (T = T'))) :=
  ev_is (ev_eqS h g (si_tv T) (si_tv T')) (by rw [dec_tv])
theorem ev_neTab {T T' : Tb} (h : EvS K ta σ H (tv T)) (g : EvS K tb σ H (tv T')) : Ev (tOp (rNeD K) ta tb) σ H (.bl (!decide (T = T'))) :=
  ev_is (ev_neS h g (si_tv T) (si_tv T')) (by rw [dec_tv])
theorem ev_eqInts {T T' : List Int} (h : EvS K ta σ H (T.map V.int)) (g : EvS K tb σ H (T'.map V.int)) : Ev (tOp (rEqD K) ta tb) σ H (.bl (decide (T = T'))) :=
  ev_is (ev_eqS h g (si_ints T) (si_ints T')) (by rw [dec_ints])
theorem ev_neInts {T T' : List Int} (h : EvS K ta σ H (T.map V.int)) (g : EvS K tb σ H (T'.map V.int)) : Ev (tOp (rNeD K) ta tb) σ H (.bl (!decide (T = T'))) :=
  ev_is (ev_neS h g (si_ints T) (si_ints T')) (by rw [dec_ints])
theorem ev_lenInts {ns : List Int} (h : EvS K ta σ H (ns.map V.int)) : Ev (tCB (rLn K) (tCons ta tNil)) σ H (.int (ns.length : Nat)) := by
  have := ev_lenS h
  rw [List.length_map] at this
  exact this
/-- row.strip("x-") != "" -/
theorem ev_strip {r : List Bool} (h : Ev te σ H (.str (rs r))) (hz : r.length ≤ 1000) : Ev (tM1 rStripC te (tC (.str "x-"))) σ H (.str "") := fun H1 e Q q =>
  h H1 e _ fun H2 e2 => ⟨⟨_, rfl⟩, ⟨rs r, "x-", rfl, rfl, sz_of (by rw [rs_len]; omega), by rw [strip_signs]; exact q H2 e2⟩⟩
/-- the turned table as a comprehension gives it -/
theorem el_turn {a : Addr} {T : Tb} {w j k : Nat} {t1 t2 : TE} {vs vs' : List Nat} {tn : TE} (h : At K H a T w) (hn : Ev tn σ H (.int (w : Nat))) (hw : ∀ x, wipe ((wipe σ vs).set j (some x)) vs = wipe σ vs)
    (hw' : ∀ x y, wipe ((wipe ((wipe σ vs).set j (some x)) vs').set k (some y)) vs' = wipe ((wipe σ vs).set j (some x)) vs')
    (ht : ∀ i, i < w → Ev t1 ((wipe σ vs).set j (some (.int (i : Nat)))) H (.ref a))
    (he : ∀ i r, i < w → r ∈ T → Ev t2 ((wipe ((wipe σ vs).set j (some (.int (i : Nat)))) vs').set k (some (.str (rs r)))) H (.str (s1 (r.getD i false)))) :
    EvL (tLc (iRng1 (tCons tn tNil)) (gName j) tYes (tM1 (rJoin K) (tC (.str "")) (tLc (iList K t1) (gName k) tYes t2 vs')) vs) σ H (tv (turn T w)) := by
  have hl := h.ln
  have hlw := h.lw
  refine EvL.is (el_mapR (f := fun i => V.str (rs (T.map fun r => r.getD i false))) hn (by omega) hw fun i hi => ?_) (by unfold tv turn; rw [List.map_map]; rfl)
  refine ev_joinS (bs := T.map fun r => r.getD i false) ?_ (by rw [List.length_map]; omega)
  rw [List.map_map]
  exact els (el_map (l := T) (g := fun r => V.str (rs r)) (evs (ht i hi) h.sq) (by omega) (hw' _) fun r hr => he i r hi hr)
end
/-! ### a bit's sign -/
def bit (c : Int) (k : Nat) : Bool := decide (c / 2 ^ k % 2 = 1)
section
variable {K : PySem.W.Frag} {σ : L2.St} {H H' : Hp} {ta tb te tx : TE} {t u : TT} {x y z v : V} {D : Ends} {tu tw tz : TS} {g : TG}
theorem ev_bitSg {c : Int} {k : Nat} (h : Ev ta σ H (.int c)) (h' : Ev tb σ H (.int (k : Nat))) : Ev (tOp rIxS (tC (.str "-x")) (tOp rAndI (tOp rShrI ta tb) (tC (.int 1)))) σ H (.str (s1 (bit c k))) := by
  have e1 : Builtin.bitAnd (c / 2 ^ ((k : Nat) : Int).toNat) 1 = c / 2 ^ k % 2 := by rw [Int.toNat_natCast, bitAnd_m1]
  have h1 : Ev (tOp rAndI (tOp rShrI ta tb) (tC (.int 1))) σ H (.int (c / 2 ^ k % 2)) := ev_is (ev_op (ev_op h h' (rv_I (Int.natCast_nonneg _))) ev_c rv_I0) (by rw [e1])
  have hl : ("-x" : Str).length ≤ 100000 := by decide +kernel
  have h2 : c / 2 ^ k % 2 = 0 ∨ c / 2 ^ k % 2 = 1 := by omega
  rcases h2 with h2 | h2
  · rw [h2] at h1
    have z := ev_op (ev_c (σ := σ) (H := H) (v := V.str "-x")) h1 (rv_ixS (c := 45) hl (by decide +kernel))
    refine ev_is z ?_
    unfold bit
    rw [h2]
    rfl
  · rw [h2] at h1
    have z := ev_op (ev_c (σ := σ) (H := H) (v := V.str "-x")) h1 (rv_ixS (c := 120) hl (by decide +kernel))
    refine ev_is z ?_
    unfold bit
    rw [h2]
    rfl
theorem q_asgUg {xs : List V} (h : EvU te σ H xs) (k : ∀ p H1, Ex H H1 → H1 p = some (.tup xs) → g (.ref p) σ H1 (tz D)) : tSeq (tAsg te g) tz D σ H := h H (Ex.refl H) _ fun p H1 _ e1 hp => k p H1 e1 hp
/-- i, j = a, b by a tuple -/
theorem q_pair {i j : Nat} (ha : Ev ta σ H x) (hb : Ev tb σ H y) (k : ∀ H1, Ex H H1 → tz D ((σ.set i (some x)).set j (some y)) H1) :
    tSeq (tAsg (tTup (tCons ta (tCons tb tNil))) (gTup K 2 (gCons (gName i) (gCons (gName j) gNil)))) tz D σ H :=
  q_asgUg (xs := [x, y]) (eu_tup (ea_cons ha (ea_cons hb ea_nil)) (show 2 ≤ 100000 by decide)) fun p H1 e1 hp => g_pair (st_of hp) (k H1 e1)
theorem q_parA {i j : Nat} {ts : TA} (h : EvA ts σ H [x, y]) (k : ∀ H1, Ex H H1 → tz D ((σ.set i (some x)).set j (some y)) H1) : tSeq (tPar i j ts) tz D σ H :=
  h H (Ex.refl H) _ fun H1 e1 => ⟨x, y, rfl, k H1 e1⟩
/-- i, j = a, b -/
theorem q_par {i j : Nat} (ha : Ev ta σ H x) (hb : Ev tb σ H y) (k : ∀ H1, Ex H H1 → tz D ((σ.set i (some x)).set j (some y)) H1) : tSeq (tPar i j (tCons ta (tCons tb tNil))) tz D σ H :=
  q_parA (ea_cons ha (ea_cons hb ea_nil)) k
/-- (a, b, c)[code % 3] -/
def pick3 (m : Int) (a b c : Int) : Int := if m = 0 then a else if m = 1 then b else c
theorem at_pick3 {m a b c : Int} (h : 0 ≤ m ∧ m < 3) : atI [V.int a, V.int b, V.int c] m = some (.int (pick3 m a b c)) := by
  have : m = 0 ∨ m = 1 ∨ m = 2 := by omega
  rcases this with rfl | rfl | rfl <;> rfl
theorem ev_pick3 {m a b c : Int} {tc tm : TE} (ha : Ev ta σ H (.int a)) (hb : Ev tb σ H (.int b)) (hc : Ev tc σ H (.int c)) (hm : Ev tm σ H (.int m)) (h : 0 ≤ m ∧ m < 3) :
    Ev (tOp (rIxT K) (tTup (tCons ta (tCons tb (tCons tc tNil)))) tm) σ H (.int (pick3 m a b c)) :=
  ev_ixU (eu_tup (ea_cons ha (ea_cons hb (ea_cons hc ea_nil))) (show 3 ≤ 100000 by decide)) hm (at_pick3 h)
def pick4 (m : Int) : Int := if m = 0 then 0 else if m = 1 then 1 else if m = 2 then 0 else 2
theorem ev_pick4 {m : Int} {tm : TE} (hm : Ev tm σ H (.int m)) (h : 0 ≤ m ∧ m < 4) :
    Ev (tOp (rIxT K) (tTup (tCons (tC (.int 0)) (tCons (tC (.int 1)) (tCons (tC (.int 0)) (tCons (tC (.int 2)) tNil))))) tm) σ H (.int (pick4 m)) :=
  ev_ixU (eu_tup (ea_cons ev_c (ea_cons ev_c (ea_cons ev_c (ea_cons ev_c ea_nil)))) (by decide)) hm (by
    have : m = 0 ∨ m = 1 ∨ m = 2 ∨ m = 3 := by omega
    rcases this with rfl | rfl | rfl | rfl <;> rfl)
theorem pick4_ok (m : Int) : 0 ≤ pick4 m ∧ pick4 m ≤ 2 := by
  unfold pick4
  split
  · omega
  · split
    · omega
    · split <;> omega
/-! ### a sign turned -/
theorem rs_app (a b : List Bool) : rs a ++ rs b = rs (a ++ b) := by
  refine TL.ext_tl ?_
  rw [TL.tl_append]
  show a.map sg ++ b.map sg = (a ++ b).map sg
  rw [List.map_append]
theorem cut_lo {r : List Bool} {j : Nat} (hj : j ≤ r.length) : cutS (rs r) none (some (j : Int)) = rs (r.take j) := by
  unfold cutS
  rw [HT.sIx_none, HT.sIx_nat, rs_len, rs_tl, List.drop_zero, Nat.sub_zero, Nat.min_eq_left hj, ← List.map_take]
  rfl
theorem cut_hi {r : List Bool} {j : Nat} (hj : j ≤ r.length) : cutS (rs r) (some (j : Int)) none = rs (r.drop j) := by
  unfold cutS
  rw [HT.sIx_none, HT.sIx_nat, rs_len, rs_tl, Nat.min_eq_left hj, ← List.map_drop]
  have e : ((r.drop j).map sg).take (r.length - j) = (r.drop j).map sg := List.take_of_length_le (by rw [List.length_map, List.length_drop]; exact Nat.le_refl _)
  rw [e]
  rfl
def flip (r : List Bool) (j : Nat) : List Bool := r.take j ++ [!r.getD j false] ++ r.drop (j + 1)
theorem flip_len {r : List Bool} {j : Nat} (h : j < r.length) : (flip r j).length = r.length := by
  unfold flip
  rw [List.length_append, List.length_append, List.length_take, List.length_drop]
  simp only [List.length_cons, List.length_nil]
  omega
theorem ev_cutLo {r : List Bool} {j : Nat} (h : Ev ta σ H (.str (rs r))) (hj : Ev tb σ H (.int (j : Nat))) (hl : j ≤ r.length) (hz : r.length ≤ 1000) : Ev (tSl rSlS ta tNoPart (tPart tb)) σ H (.str (rs (r.take j))) := fun H1 e Q q =>
  h H1 e _ fun H2 e2 => hj H2 (e.trans e2) _ fun H3 e3 => ⟨_, rfl, rs r, rfl, sz_of (by rw [rs_len]; omega), by rw [cut_lo hl]; exact q H3 (e2.trans e3)⟩
theorem ev_cutHi {r : List Bool} {j : Nat} (h : Ev ta σ H (.str (rs r))) (hj : Ev tb σ H (.int (j : Nat))) (hl : j ≤ r.length) (hz : r.length ≤ 1000) : Ev (tSl rSlS ta (tPart tb) tNoPart) σ H (.str (rs (r.drop j))) := fun H1 e Q q =>
  h H1 e _ fun H2 e2 => hj H2 (e.trans e2) _ fun H3 e3 => ⟨_, rfl, rs r, rfl, sz_of (by rw [rs_len]; omega), by rw [cut_hi hl]; exact q H3 (e2.trans e3)⟩
theorem ev_catS {a b : List Bool} (h : Ev ta σ H (.str (rs a))) (h' : Ev tb σ H (.str (rs b))) (hz : a.length ≤ 1000 ∧ b.length ≤ 1000) : Ev (tOp rCatS ta tb) σ H (.str (rs (a ++ b))) := ev_op h h' fun H1 e Q q =>
  ⟨rs a, rs b, rfl, rfl, sz_of (by rw [rs_len, rs_len]; omega), by rw [rs_app]; exact q H1 (Ex.refl H1)⟩
theorem s1_rs (b : Bool) : s1 b = rs [b] := rfl
/-- {'x': '-', '-': 'x'}[s] -/
theorem ev_other {b : Bool} (h : Ev te σ H (.str (s1 b))) : Ev (tDGet (tDisp [((tC (.str "x")), (tC (.str "-"))), ((tC (.str "-")), (tC (.str "x")))]) te) σ H (.str (rs [!b])) := fun H1 e Q q => by
  intro p hp
  refine ⟨upd_same, [(.inr "x", .str "-"), (.inr "-", .str "x")], rfl, by decide, ?_⟩
  have e1 : Ex H1 (upd (upd H1 p (.dK [])) p (.dK (mergeK [] [(.inr "x", .str "-"), (.inr "-", .str "x")]))) := Ex.mut (Ex.new hp) hp
  refine h _ (e.trans e1) _ fun H2 e2 => ⟨p, _, rfl, .inl ⟨_, .inr (s1 b), .inl (e2 p _ upd_same), rfl, ?_⟩, q H2 (e1.trans e2)⟩
  cases b
  · show some (V.str (rs [true])) = _
    rw [← s1_rs, ← s1_x, ← s1_d]
    decide +kernel
  · show some (V.str (rs [false])) = _
    rw [← s1_rs, ← s1_x, ← s1_d]
    decide +kernel
/-! ### tables made sign by sign -/
def bitsT (ns : List Int) (w : Nat) : Tb := ns.map fun c => (List.range w).map (bit c)
theorem bitsT_len (ns : List Int) (w : Nat) : (bitsT ns w).length = ns.length := List.length_map _
theorem bitsT_rect (ns : List Int) (w : Nat) : Rect (bitsT ns w) w := fun r hr => by
  obtain ⟨c, _, rfl⟩ := List.mem_map.mp hr
  rw [List.length_map, List.length_range]
theorem el_bits {ns : List Int} {w j k : Nat} {tl tn t1 t2 : TE} {vs vs' : List Nat} (h : EvS K tl σ H (ns.map V.int)) (hz : ns.length ≤ 1000 ∧ w ≤ 1000) (hw : ∀ x, wipe ((wipe σ vs).set j (some x)) vs = wipe σ vs)
    (hn : ∀ c : Int, Ev tn ((wipe σ vs).set j (some (.int c))) H (.int (w : Nat)))
    (hw' : ∀ x y, wipe ((wipe ((wipe σ vs).set j (some x)) vs').set k (some y)) vs' = wipe ((wipe σ vs).set j (some x)) vs')
    (h1 : ∀ (c : Int) (i : Nat), Ev t1 ((wipe ((wipe σ vs).set j (some (.int c))) vs').set k (some (.int (i : Nat)))) H (.int c))
    (h2 : ∀ (c : Int) (i : Nat), Ev t2 ((wipe ((wipe σ vs).set j (some (.int c))) vs').set k (some (.int (i : Nat)))) H (.int (i : Nat))) :
    EvL (tLc (iList K tl) (gName j) tYes (tM1 (rJoin K) (tC (.str "")) (tLc (iRng1 (tCons tn tNil)) (gName k) tYes (tOp rIxS (tC (.str "-x")) (tOp rAndI (tOp rShrI t1 t2) (tC (.int 1)))) vs')) vs) σ H (tv (bitsT ns w)) := by
  refine EvL.is (el_map (g := V.int) (f := fun c => V.str (rs ((List.range w).map (bit c)))) h (by omega) hw fun c hc => ?_) (by unfold tv bitsT; rw [List.map_map]; rfl)
  refine ev_joinS ?_ (by rw [List.length_map, List.length_range]; omega)
  rw [List.map_map]
  exact els (el_mapR (f := fun i => V.str (s1 (bit c i))) (hn c) (by omega) (hw' _) fun i hi => ev_bitSg (h1 c i) (h2 c i))
theorem el_signs {α β : Type} {l : List α} {m : List β} {g : α → V} {g' : β → V} {p : α → β → Bool} {j k : Nat} {tl tm : TE} {tt : TT} {vs vs' : List Nat} (h : EvS K tl σ H (l.map g)) (hz : l.length ≤ 1000 ∧ m.length ≤ 1000)
    (hw : ∀ x, wipe ((wipe σ vs).set j (some x)) vs = wipe σ vs) (hm : ∀ a ∈ l, EvS K tm ((wipe σ vs).set j (some (g a))) H (m.map g'))
    (hw' : ∀ x y, wipe ((wipe ((wipe σ vs).set j (some x)) vs').set k (some y)) vs' = wipe ((wipe σ vs).set j (some x)) vs')
    (ht : ∀ a ∈ l, ∀ b ∈ m, EvT tt ((wipe ((wipe σ vs).set j (some (g a))) vs').set k (some (g' b))) H (p a b)) :
    EvL (tLc (iList K tl) (gName j) tYes (tM1 (rJoin K) (tC (.str "")) (tLc (iList K tm) (gName k) tYes (tIf tt (tC (.str "x")) (tC (.str "-"))) vs')) vs) σ H (tv (l.map fun a => m.map fun b => p a b)) := by
  refine EvL.is (el_map (g := g) (f := fun a => V.str (rs (m.map fun b => p a b))) h (by omega) hw fun a ha => ?_) (by unfold tv; rw [List.map_map]; rfl)
  refine ev_joinS ?_ (by rw [List.length_map]; omega)
  rw [List.map_map]
  exact els (el_map (g := g') (f := fun b => V.str (s1 (p a b))) (hm a ha) (by omega) (hw' _) fun b hb => ev_ifSg (ht a ha b hb))
theorem rect_signs {α β : Type} (l : List α) (m : List β) (p : α → β → Bool) : Rect (l.map fun a => m.map fun b => p a b) m.length := fun r hr => by
  obtain ⟨a, _, rfl⟩ := List.mem_map.mp hr
  rw [List.length_map]
theorem tv_set (T : Tb) (i : Nat) (r : List Bool) : tv (T.set i r) = (tv T).set i (.str (rs r)) := by unfold tv; rw [List.map_set]
theorem rect_set {T : Tb} {w i : Nat} {r : List Bool} (h : Rect T w) (hr : r.length = w) : Rect (T.set i r) w := fun x hx => by
  rcases List.mem_or_eq_of_mem_set hx with hx | rfl
  · exact h x hx
  · exact hr
theorem md_ok {a : Int} {n : Nat} (hn : 0 < n) : ∃ i : Nat, a % (n : Int) = (i : Nat) ∧ i < n := ⟨(a % (n : Int)).toNat, by
  have := Int.emod_nonneg a (show (n : Int) ≠ 0 by omega)
  omega, by
  have := Int.emod_nonneg a (show (n : Int) ≠ 0 by omega)
  have := Int.emod_lt_of_pos a (show (0 : Int) < n by omega)
  omega⟩
end
end WA

namespace WA
open PySem PySem.Spec PyProof.Rows L2 Evl
theorem pick_int (ns : List Int) (lo hi st : Option Int) : pick (ns.map V.int) lo hi st = (pick ns lo hi st).map V.int := pick_map _ _ _ _ _
theorem pick_tv (T : Tb) (lo hi st : Option Int) : pick (tv T) lo hi st = tv (pick T lo hi st) := pick_map _ _ _ _ _
theorem pick_mem {α : Type} {xs : List α} {lo hi st : Option Int} {x : α} (h : x ∈ pick xs lo hi st) : x ∈ xs := by
  unfold pick at h
  obtain ⟨i, _, hi⟩ := List.mem_filterMap.mp h
  exact List.mem_of_getElem? hi
/-- how many a slice with a step takes at most -/
def stepLen (lo hi st : Option Int) (n : Nat) : Nat := (sliceRange (sliceBounds lo hi st n).1 (sliceBounds lo hi st n).2.1 (sliceBounds lo hi st n).2.2).length
section
variable {K : PySem.W.Frag} {w : World} {σ : L2.St} {H H' : Hp} {ta tb te tx : TE} {t u : TT} {x y z v : V} {D : Ends} {tu tw tz : TS} {g : TG} {xs ys : List V}
theorem el_sl3 {tl th ts : TO} {lo hi st : Option Int} (h : EvS K te σ H xs) (h1 : EvO tl σ H lo) (h2 : EvO th σ H hi) (h3 : EvO ts σ H st) (h0 : st ≠ some 0) (hz : stepLen lo hi st xs.length ≤ 1000) : EvL (tSl3 K te tl th ts) σ H (pick xs lo hi st) := fun H1 e Q q =>
  h H1 e _ fun a H2 e2 hx => h1 H2 (e.trans e2) _ fun H3 e3 => h2 H3 ((e.trans e2).trans e3) _ fun H4 e4 => h3 H4 (((e.trans e2).trans e3).trans e4) _ fun H5 e5 =>
    ⟨a, xs, rfl, ex_l ((e3.trans e4).trans e5) hx, h0, Nat.le_trans (pick_len _ _ _ _) (sz_of (Nat.le_trans hz (by decide))), fun p hp => q p _ (fresh_back (((e2.trans e3).trans e4).trans e5) hp) ((((e2.trans e3).trans e4).trans e5).trans (Ex.new hp)) upd_same⟩
theorem q_asgG {g : TG} (h : Ev te σ H v) (k : ∀ H1, Ex H H1 → g v σ H1 (tz D)) : tSeq (tAsg te g) tz D σ H := h H (Ex.refl H) _ fun H1 e1 => k H1 e1
/-- a tuple of two new lists -/
def EvU2 (te : TE) (σ : L2.St) (H : Hp) (xs ys : List V) : Prop := ∀ H1, Ex H H1 → ∀ Q : VK, (∀ a p q H2, H1 p = none → H1 q = none → Ex H1 H2 → H2 a = some (.tup [.ref p, .ref q]) → H2 p = some (.lst xs) → H2 q = some (.lst ys) → Q (.ref a) H2) → te σ H1 Q
theorem eu2 (ha : EvL ta σ H xs) (hb : EvL tb σ H ys) : EvU2 (tTup (tCons ta (tCons tb tNil))) σ H xs ys := fun H1 e Q q =>
  ha H1 e _ fun p H2 hp e2 h2 => hb H2 (e.trans e2) _ fun q' H3 hq e3 h3 => ⟨sz_of (show 2 ≤ 100000 by decide), fun a hn =>
    q a p q' _ hp (fresh_back e2 hq) ((e2.trans e3).trans (Ex.new hn)) upd_same (Ex.new hn p _ (e3 p _ h2)) (Ex.new hn q' _ h3)⟩
theorem q_pairLL {i j : Nat} (h : EvU2 te σ H xs ys) (k : ∀ p q H1, Ex H H1 → H p = none → H q = none → H1 p = some (.lst xs) → H1 q = some (.lst ys) → tz D ((σ.set i (some (.ref p))).set j (some (.ref q))) H1) :
    tSeq (tAsg te (gTup K 2 (gCons (gName i) (gCons (gName j) gNil)))) tz D σ H :=
  h H (Ex.refl H) _ fun a p q H1 fp fq e1 ha hp hq => g_pair (st_of ha) (k p q H1 e1 fp fq hp hq)
/-! ### a new list of which something is known -/
def EvLP (te : TE) (σ : L2.St) (H : Hp) (P : List V → Prop) : Prop := ∀ H1, Ex H H1 → ∀ Q : VK, (∀ xs p H2, P xs → H1 p = none → Ex H1 H2 → H2 p = some (.lst xs) → Q (.ref p) H2) → te σ H1 Q
theorem elp {P : List V → Prop} (h : EvL te σ H xs) (p : P xs) : EvLP te σ H P := fun H1 e Q q => h H1 e Q fun a H2 hp e2 h2 => q xs a H2 p hp e2 h2
theorem elp_mono {P P' : List V → Prop} (h : EvLP te σ H P) (p : ∀ xs, P xs → P' xs) : EvLP te σ H P' := fun H1 e Q q => h H1 e Q fun xs a H2 px hp e2 h2 => q xs a H2 (p xs px) hp e2 h2
theorem elp_if {P : List V → Prop} {b : Bool} (h : EvT t σ H b) (h1 : b = true → EvLP ta σ H P) (h2 : b = false → EvLP tb σ H P) : EvLP (tIf t ta tb) σ H P := fun H1 e Q q => h H1 e _ fun H2 e2 => by
  cases b with
  | true =>
    show ta σ H2 Q
    exact h1 rfl H2 (e.trans e2) Q fun xs p H3 px hp e3 h3 => q xs p H3 px (fresh_back e2 hp) (e2.trans e3) h3
  | false =>
    show tb σ H2 Q
    exact h2 rfl H2 (e.trans e2) Q fun xs p H3 px hp e3 h3 => q xs p H3 px (fresh_back e2 hp) (e2.trans e3) h3
theorem q_forLP {P : List V → Prop} {tl : TE} {j : Nat} (h : EvLP tl σ H P) (Pv : L2.St → Hp → Prop) (h0 : ∀ H1, Ex H H1 → Pv σ H1)
    (hs : ∀ xs x σ' H', P xs → x ∈ xs → Pv σ' H' → ∀ D' : Ends, D'.rt = D.rt → (∀ σ2 H2, Ex H' H2 → Pv σ2 H2 → D'.nx σ2 H2) → tu D' (σ'.set j (some x)) H')
    (hd : ∀ σ' H', Pv σ' H' → tz D σ' H') : tSeq (tFor (iList K tl) (gName j) tu) tz D σ H :=
  h H (Ex.refl H) _ fun xs p H1 px _ e1 hp => ⟨p, rfl, ⟨xs, sq_of hp⟩, for_list (fun _ σ' H' => Ex H1 H' ∧ Pv σ' H') ⟨Ex.refl H1, h0 H1 e1⟩ (fun _ _ _ _ q => sq_of (q.1 p _ hp))
    (fun i x σ' H' hx q => hs xs x σ' H' px (List.mem_of_getElem? hx) q.2 _ rfl fun σ2 H2 e2 pv => ⟨q.1.trans e2, pv⟩) fun σ' H' q => hd σ' H' q.2⟩
theorem s_forLP {P : List V → Prop} {tl : TE} {j : Nat} (h : EvLP tl σ H P) (Pv : L2.St → Hp → Prop) (h0 : ∀ H1, Ex H H1 → Pv σ H1)
    (hs : ∀ xs x σ' H', P xs → x ∈ xs → Pv σ' H' → ∀ D' : Ends, D'.rt = D.rt → (∀ σ2 H2, Ex H' H2 → Pv σ2 H2 → D'.nx σ2 H2) → tu D' (σ'.set j (some x)) H')
    (hd : ∀ σ' H', Pv σ' H' → D.nx σ' H') : tFor (iList K tl) (gName j) tu D σ H :=
  h H (Ex.refl H) _ fun xs p H1 px _ e1 hp => ⟨p, rfl, ⟨xs, sq_of hp⟩, for_list (fun _ σ' H' => Ex H1 H' ∧ Pv σ' H') ⟨Ex.refl H1, h0 H1 e1⟩ (fun _ _ _ _ q => sq_of (q.1 p _ hp))
    (fun i x σ' H' hx q => hs xs x σ' H' px (List.mem_of_getElem? hx) q.2 _ rfl fun σ2 H2 e2 pv => ⟨q.1.trans e2, pv⟩) fun σ' H' q => hd σ' H' q.2⟩
/-! ### lists put together, sets sorted -/
theorem el_cat (ha : EvL ta σ H xs) (hb : EvL tb σ H ys) (hz : xs.length + ys.length ≤ 1000) : EvL (tOp rCat ta tb) σ H (xs ++ ys) := fun H1 e Q q =>
  ha H1 e _ fun p H2 hp e2 h2 => hb H2 (e.trans e2) _ fun p' H3 hq e3 h3 => ⟨p, p', xs, ys, rfl, rfl, e3 p _ h2, h3, sz_of (by omega), fun l hl => q l _ (fresh_back (e2.trans e3) hl) ((e2.trans e3).trans (Ex.new hl)) upd_same⟩
def threes (n : Nat) : List Int := (List.range ((n + 2) / 3)).map fun (i : Nat) => (i : Int) * 3
theorem rg3_threes (n : Nat) : rgV3 0 3 ((n + 2) / 3) = (threes n).map V.int := by
  unfold rgV3 threes
  rw [List.map_map]
  refine List.map_congr_left fun i _ => ?_
  show V.int (0 + (i : Nat) * 3) = V.int ((i : Int) * 3)
  rw [Int.zero_add]
theorem el_rg3 {n : Nat} (h : Ev te σ H (.int (n : Nat))) (hn : n < 200) : EvL (tLstRg3 (tRg3 (tC (.int 0)) te (tC (.int 3)))) σ H ((threes n).map V.int) := fun H1 e Q q =>
  h H1 e _ fun H2 e2 => ⟨0, (n : Nat), 3, rfl, rfl, rfl, by decide, by decide, (n + 2) / 3, (rg3_ok n hn).1, (rg3_ok n hn).2, by omega, fun p hp => q p _ (fresh_back e2 hp) (e2.trans (Ex.new hp)) (by rw [rg3_threes]; exact upd_same)⟩
def Sorted0 (ns ks : List Int) : Prop := ks.Pairwise (· < ·) ∧ ∀ k, k ∈ ks ↔ k ∈ ns
theorem elp_sortedSet {ns : List Int} (h : EvS K te σ H (ns.map V.int)) (hz : ns.length < 64) : EvLP (tCB (rSortedSet w) (tCons (tCB (rSetI K w) (tCons te tNil)) tNil)) σ H (fun xs => ∃ ks, xs = ks.map V.int ∧ Sorted0 ns ks) := fun H1 e Q q =>
  h H1 e _ fun p H2 e2 hp => ⟨p, ns, rfl, hp, by omega, fun l ks hl hk => ⟨l, _, _, rfl, upd_same, by have := hk.le; omega, fun ms p' h1 h2 _ hn =>
    q _ p' _ ⟨ms, rfl, h1, fun k => by rw [h2 k, decide_eq_true_eq]⟩ (fresh_back (e2.trans (Ex.new hl)) hn) ((e2.trans (Ex.new hl)).trans (Ex.new hn)) upd_same⟩⟩
theorem threes_in {n : Nat} {k : Int} (hn : 0 < n) (h : k ∈ threes n ++ [(n : Int) - 1]) : ∃ j : Nat, k = (j : Nat) ∧ j < n := by
  rcases List.mem_append.mp h with h | h
  · obtain ⟨i, hi, rfl⟩ := List.mem_map.mp h
    have hi' := List.mem_range.mp hi
    exact ⟨i * 3, by rw [Int.natCast_mul]; rfl, by omega⟩
  · have e := List.mem_singleton.mp h
    exact ⟨n - 1, by omega, by omega⟩
theorem threes_len (n : Nat) : (threes n).length = (n + 2) / 3 := by unfold threes; rw [List.length_map, List.length_range]
end
/-- all rows that have a column -/
def colOf (T : Tb) (j : Nat) : List Nat := (List.range T.length).filter fun i => gt T i j
def nv (l : List Nat) : List V := l.map fun i : Nat => V.int (i : Nat)
def intsOf (l : List Nat) : List Int := l.map fun i : Nat => (i : Int)
theorem nv_eq (l : List Nat) : nv l = (intsOf l).map V.int := by unfold nv intsOf; rw [List.map_map]; rfl
theorem nv_int (l : List Nat) : nv l = (intsOf l).map V.int := nv_eq l
theorem nv_len (l : List Nat) : (nv l).length = l.length := List.length_map _
theorem intsOf_len (l : List Nat) : (intsOf l).length = l.length := List.length_map _
theorem colOf_len (T : Tb) (j : Nat) : (colOf T j).length ≤ T.length := by
  unfold colOf
  have h := List.length_filter_le (fun i => gt T i j) (List.range T.length)
  rwa [List.length_range] at h
/-! ### turned -/
def turnT (T : Tb) (w : Nat) : Tb := if T = [] then [] else turn T w
theorem turnT_nil (w : Nat) : turnT [] w = [] := rfl
theorem turnT_ne {T : Tb} {w : Nat} (h : T ≠ []) : turnT T w = turn T w := if_neg h
theorem turnT_rect (T : Tb) (w : Nat) : Rect (turnT T w) T.length := by
  by_cases h : T = []
  · subst h; intro r hr; cases hr
  · rw [turnT_ne h]; exact turn_rect T w
theorem turnT_len (T : Tb) (w : Nat) : (turnT T w).length ≤ w := by
  by_cases h : T = []
  · subst h; exact Nat.zero_le _
  · rw [turnT_ne h, turn_len]; exact Nat.le_refl _
theorem getD_map {α β : Type} (f : α → β) (l : List α) (i : Nat) (d : β) (e : α) (hi : i < l.length) : (l.map f).getD i d = f (l.getD i e) := by
  rw [List.getD_eq_getElem?_getD, List.getElem?_map, List.getElem?_eq_getElem hi, List.getD_eq_getElem?_getD, List.getElem?_eq_getElem hi]; rfl
theorem turn_get {T : Tb} {w j : Nat} (hj : j < w) : (turn T w).getD j [] = T.map fun r => r.getD j false := by
  unfold turn
  rw [getD_map (fun j => T.map fun r => r.getD j false) (List.range w) j [] 0 (by rw [List.length_range]; exact hj)]
  have e : (List.range w).getD j 0 = j := by rw [List.getD_eq_getElem?_getD, List.getElem?_range hj]; rfl
  rw [e]
theorem gt_turn {T : Tb} {w i j : Nat} (hj : j < w) (hi : i < T.length) : gt (turn T w) j i = gt T i j := by
  unfold gt
  rw [turn_get hj, getD_map (fun r : List Bool => r.getD j false) T i false [] hi]
theorem row_ext {r : List Bool} {n : Nat} (h : r.length = n) : ((List.range n).map fun j => r.getD j false) = r := by
  refine List.ext_getElem? fun i => ?_
  rw [List.getElem?_map]
  by_cases hi : i < n
  · rw [List.getElem?_range hi, List.getElem?_eq_getElem (by omega), Option.map_some, List.getD_eq_getElem?_getD, List.getElem?_eq_getElem (by omega)]; rfl
  · rw [List.getElem?_eq_none (by rw [List.length_range]; omega), List.getElem?_eq_none (by omega)]; rfl
/-- turned twice -/
theorem turn_turn {T : Tb} {w : Nat} (h : Rect T w) (hw : w ≠ 0) : turn (turn T w) T.length = T := by
  refine List.ext_getElem? fun i => ?_
  by_cases hi : i < T.length
  · have e : (turn (turn T w) T.length)[i]? = some ((turn T w).map fun r => r.getD i false) := by
      have hl : i < (turn (turn T w) T.length).length := by rw [turn_len]; exact hi
      rw [row_at hl, turn_get hi]
    rw [e, List.getElem?_eq_getElem hi]
    congr 1
    have hr : T[i].length = w := h _ (List.getElem_mem hi)
    rw [← row_ext hr]
    unfold turn
    rw [List.map_map]
    refine List.map_congr_left fun j hj => ?_
    show (T.map fun r => r.getD j false).getD i false = _
    rw [getD_map (fun r : List Bool => r.getD j false) T i false [] hi]
    rw [List.getD_eq_getElem?_getD (l := T), List.getElem?_eq_getElem hi]; rfl
  · rw [List.getElem?_eq_none (by rw [turn_len]; omega), List.getElem?_eq_none (by omega)]
theorem turnT_turnT {T : Tb} {w : Nat} (h : Rect T w) (hw : w ≠ 0) : turnT (turnT T w) T.length = T := by
  by_cases h0 : T = []
  · subst h0; rfl
  · have h1 : turn T w ≠ [] := fun z => by
      have := turn_len T w
      rw [z] at this
      exact hw this.symm
    rw [turnT_ne h0, turnT_ne h1, turn_turn h hw]
theorem At.turned {K : PySem.W.Frag} {H H' : Hp} {a p : Addr} {T : Tb} {w : Nat} (h : At K H a T w) (hp : SqL K H' p (tv (turnT T w))) : At K H' p (turnT T w) T.length :=
  ⟨hp, turnT_rect T w, Nat.le_trans (turnT_len T w) h.lw, h.ln⟩
end WA

namespace WA
open PySem L2
/-! ### levels -/
theorem nodup_leA {α : Type} [DecidableEq α] : ∀ {ks ns : List α}, ks.Nodup → (∀ k, k ∈ ks → k ∈ ns) → ks.length ≤ ns.length
  | [], _, _, _ => Nat.zero_le _
  | x :: r, ns, h, g => by
    have h' := List.nodup_cons.mp h
    have hx : x ∈ ns := g x (List.mem_cons_self ..)
    have ih := nodup_leA (ks := r) (ns := ns.erase x) h'.2 fun k hk => (List.mem_erase_of_ne (fun z : k = x => h'.1 (by rw [← z]; exact hk))).mpr (g k (List.mem_cons_of_mem _ hk))
    rw [List.length_erase_of_mem hx] at ih
    have := List.length_pos_of_mem hx
    rw [List.length_cons]
    omega
/-- the different sizes below s -/
def below (sz : List Nat) (s : Nat) : List Nat := (List.range s).filter fun k => sz.contains k
def lev (sz : List Nat) (s : Nat) : Nat := (below sz s).length
theorem mem_below {sz : List Nat} {s k : Nat} : k ∈ below sz s ↔ k < s ∧ k ∈ sz := by
  unfold below
  rw [List.mem_filter, List.mem_range]
  simp
theorem below_nodup (sz : List Nat) (s : Nat) : (below sz s).Nodup := List.Pairwise.filter _ List.nodup_range
theorem below_snoc {sz : List Nat} {s : Nat} : (below sz s ++ [s]).Nodup := by
  rw [List.nodup_append]
  refine ⟨below_nodup sz s, by simp, fun a ha b hb => ?_⟩
  have h1 := (mem_below.mp ha).1
  have h2 := List.mem_singleton.mp hb
  omega
theorem lev_lt {sz : List Nat} {s t : Nat} (hs : s ∈ sz) (h : s < t) : lev sz s < lev sz t := by
  have z := nodup_leA (below_snoc (sz := sz) (s := s)) (ns := below sz t) fun k hk => by
    rcases List.mem_append.mp hk with hk | hk
    · have := mem_below.mp hk
      exact mem_below.mpr ⟨by omega, this.2⟩
    · rw [List.mem_singleton.mp hk]
      exact mem_below.mpr ⟨h, hs⟩
  rw [List.length_append, List.length_singleton] at z
  exact z
theorem lev_le {sz : List Nat} {s t : Nat} (h : s ≤ t) : lev sz s ≤ lev sz t := nodup_leA (below_nodup sz s) fun k hk => by
  have := mem_below.mp hk
  exact mem_below.mpr ⟨by omega, this.2⟩
theorem lev_iff {sz : List Nat} {s t : Nat} (hs : s ∈ sz) : lev sz s < lev sz t ↔ s < t := by
  constructor
  · intro h
    by_cases h2 : s < t
    · exact h2
    · have := lev_le (sz := sz) (show t ≤ s by omega)
      omega
  · exact lev_lt hs
theorem lev_bound {sz : List Nat} {s : Nat} (hs : s ∈ sz) : lev sz s < sz.length := by
  have z := nodup_leA (below_snoc (sz := sz) (s := s)) (ns := sz) fun k hk => by
    rcases List.mem_append.mp hk with hk | hk
    · exact (mem_below.mp hk).2
    · rw [List.mem_singleton.mp hk]
      exact hs
  rw [List.length_append, List.length_singleton] at z
  exact z
/-- where a size stands among the sorted different ones -/
theorem lev_at {sz : List Nat} {ks : List Int} (hp : ks.Pairwise (· < ·)) (hm : ∀ k, k ∈ ks ↔ k ∈ intsOf sz) {s : Nat} (hs : s ∈ sz) : ks[lev sz s]? = some (s : Int) ∧ ∀ (m : Nat) (z : Int), m < lev sz s → ks[m]? = some z → z < (s : Int) := by
  have hin : (s : Int) ∈ ks := (hm _).mpr (List.mem_map.mpr ⟨s, hs, rfl⟩)
  obtain ⟨j, hj⟩ := List.mem_iff_getElem?.mp hin
  obtain ⟨hjl, hje⟩ := List.getElem?_eq_some_iff.mp hj
  have lt_of : ∀ {a b : Nat} (ha : a < ks.length) (hb : b < ks.length), a < b → ks[a] < ks[b] := fun ha hb h => List.pairwise_iff_getElem.mp hp _ _ ha hb h
  have e : j = lev sz s := by
    refine Nat.le_antisymm ?_ ?_
    · have hnd : (ks.take j).Nodup := ((List.Pairwise.imp (fun h => Int.ne_of_lt h) hp).take : _)
      have z := nodup_leA (ks := ks.take j) (ns := intsOf (below sz s)) hnd fun k hk => by
        obtain ⟨i, hi⟩ := List.mem_iff_getElem?.mp hk
        rw [List.getElem?_take] at hi
        by_cases hij : i < j
        · rw [if_pos hij] at hi
          obtain ⟨hil, hie⟩ := List.getElem?_eq_some_iff.mp hi
          have hlt := lt_of hil hjl hij
          rw [hie, hje] at hlt
          have hk2 := (hm k).mp (List.mem_of_mem_take hk)
          obtain ⟨k', hk', rfl⟩ := List.mem_map.mp hk2
          exact List.mem_map.mpr ⟨k', mem_below.mpr ⟨by omega, hk'⟩, rfl⟩
        · rw [if_neg hij] at hi; cases hi
      rw [List.length_take, intsOf_len] at z
      unfold lev
      omega
    · have hnd : (intsOf (below sz s)).Nodup := by
        unfold intsOf
        exact List.Pairwise.map _ (fun a b h z => h (by omega)) (below_nodup sz s)
      have z := nodup_leA (ks := intsOf (below sz s)) (ns := ks.take j) hnd fun k hk => by
        obtain ⟨k', hk', rfl⟩ := List.mem_map.mp hk
        obtain ⟨h1, h2⟩ := mem_below.mp hk'
        have hin2 : (k' : Int) ∈ ks := (hm _).mpr (List.mem_map.mpr ⟨k', h2, rfl⟩)
        obtain ⟨i, hi⟩ := List.mem_iff_getElem?.mp hin2
        obtain ⟨hil, hie⟩ := List.getElem?_eq_some_iff.mp hi
        have hij : i < j := by
          by_cases h3 : i < j
          · exact h3
          · by_cases h4 : i = j
            · subst h4
              rw [hie] at hje
              omega
            · have := lt_of hjl hil (by omega)
              rw [hie, hje] at this
              omega
        refine List.mem_iff_getElem?.mpr ⟨i, ?_⟩
        rw [List.getElem?_take, if_pos hij]
        exact hi
      rw [List.length_take, intsOf_len] at z
      unfold lev
      omega
  rw [← e]
  refine ⟨hj, fun m z hml hz => ?_⟩
  obtain ⟨hml2, hmz⟩ := List.getElem?_eq_some_iff.mp hz
  have := lt_of hml2 hjl hml
  rw [hmz, hje] at this
  exact this
/-! ### answers -/
inductive Ans
  | steps (r c : List Int) | cross (a b c d : Int) | stretches (b e u : List Int) | self (a : Int) | ranks (r : List Int)
  | mutual (a b : Int) | beside (a b c : Int) | line (o : List Int) | neither (a b : Int) | round (a b c : Int)
def Ans.kind : Ans → Str
  | .steps .. => "Steps" | .cross .. => "Cross" | .stretches .. => "Stretches" | .self .. => "Self" | .ranks .. => "Ranks"
  | .mutual .. => "Mutual" | .beside .. => "Beside" | .line .. => "Line" | .neither .. => "Neither" | .round .. => "Round"
/-- whether i counts a row -/
def inT (T : Tb) (i : Int) : Bool := decide (0 ≤ i) && decide (i < (T.length : Int))
def gi (T : Tb) (i j : Int) : Bool := gt T i.toNat j.toNat
def width (T : Tb) : Nat := (T.getD 0 []).length
def inW (T : Tb) (j : Int) : Bool := decide (0 ≤ j) && decide (j < (width T : Int))
def threeT (T : Tb) (a b c : Int) : Bool := inT T a && (inT T b && inT T c) && (!decide (a = b) && !decide (a = c) && !decide (b = c))
def rowsAre (T : Tb) (ms : List Int) (p : Int → List Bool) : Bool := (T.zip ms).all fun x => decide (p x.2 = x.1)
def ranksOk (r : List Int) (T : Tb) : Bool := decide (r.length = T.length) && rowsAre T r fun m => r.map fun t => decide (m < t)
def stepsOk (r c : List Int) (T : Tb) : Bool := decide (r.length = T.length) && decide (c.length = width T) && rowsAre T r fun m => c.map fun t => decide (t < m)
/-- the things ahead of one, by an int -/
def colI (T : Tb) (u : Int) : List Nat := colOf T u.toNat
/-- where each stands in a line -/
def placesOf (o : List Int) : List Int := (List.range o.length).map fun (t : Nat) => ((o.findIdx (fun z => decide (z = (t : Int))) : Nat) : Int)
def isPerm (o : List Int) (n : Nat) : Bool := (List.range n).all (fun t => decide (o.count (t : Int) = 1)) && decide (o.length = n)
def uniq {α : Type} [DecidableEq α] : List α → List α
  | [] => []
  | x :: r => if x ∈ r then uniq r else x :: uniq r
def diff {α : Type} [DecidableEq α] (l : List α) : Nat := (uniq l).length
def stretchesOk (b e u : List Int) (T : Tb) : Bool :=
  decide (b.length = T.length) && decide (e.length = T.length) && u.all (inT T) && (b.zip e).all (fun x => !decide (x.2 < x.1)) &&
    rowsAre T e (fun m => b.map fun t => decide (m < t)) && decide ((u.map (colI T)).Nodup) && decide (u.length = diff b)
def shown : Ans → Tb → Bool
  | .steps r c, T => stepsOk r c T
  | .cross a b c d, T => (inT T a && inT T c) && (inW T b && inW T d) && (gi T a b && gi T c d) && (!gi T a d && !gi T c b)
  | .stretches b e u, T => stretchesOk b e u T
  | .self a, T => inT T a && gi T a a
  | .ranks r, T => ranksOk r T
  | .mutual a b, T => !decide (a = b) && (inT T a && inT T b) && (gi T a b && gi T b a)
  | .beside a b c, T => threeT T a b c && gi T a b && (!gi T a c && !gi T c b)
  | .line o, T => isPerm o T.length && ranksOk (placesOf o) T
  | .neither a b, T => !decide (a = b) && (inT T a && inT T b) && (!gi T a b && !gi T b a)
  | .round a b c, T => threeT T a b c && (gi T a b && gi T b c) && gi T c a
/-! ### different ones -/
theorem mem_uniq {α : Type} [DecidableEq α] : ∀ {l : List α} {k : α}, k ∈ uniq l ↔ k ∈ l
  | [], k => Iff.rfl
  | x :: r, k => by
    unfold uniq
    by_cases h : x ∈ r
    · rw [if_pos h, mem_uniq, List.mem_cons]
      exact ⟨.inr, fun z => z.elim (fun z => z ▸ h) id⟩
    · rw [if_neg h, List.mem_cons, List.mem_cons, mem_uniq]
theorem uniq_nodup {α : Type} [DecidableEq α] : ∀ l : List α, (uniq l).Nodup
  | [] => List.nodup_nil
  | x :: r => by
    unfold uniq
    by_cases h : x ∈ r
    · rw [if_pos h]; exact uniq_nodup r
    · rw [if_neg h, List.nodup_cons, mem_uniq]
      exact ⟨h, uniq_nodup r⟩
theorem diff_of {α : Type} [DecidableEq α] {l ks : List α} (h : ks.Nodup) (g : ∀ k, k ∈ ks ↔ k ∈ l) : ks.length = diff l :=
  Nat.le_antisymm (nodup_leA h fun k hk => mem_uniq.mpr ((g k).mp hk)) (nodup_leA (uniq_nodup l) fun k hk => (g k).mpr (mem_uniq.mp hk))
theorem diff_le {α : Type} [DecidableEq α] (l : List α) : diff l ≤ l.length := nodup_leA (uniq_nodup l) fun k hk => mem_uniq.mp hk
theorem diff_nodup {α : Type} [DecidableEq α] {l : List α} : diff l = l.length ↔ l.Nodup := by
  constructor
  · intro h
    induction l with
    | nil => exact List.nodup_nil
    | cons x r ih =>
      have z := diff_le r
      unfold diff uniq at h
      by_cases hx : x ∈ r
      · rw [if_pos hx] at h
        rw [List.length_cons] at h
        unfold diff at z
        omega
      · rw [if_neg hx, List.length_cons, List.length_cons] at h
        exact List.nodup_cons.mpr ⟨hx, ih (by unfold diff; omega)⟩
  · intro h
    exact (diff_of h fun k => Iff.rfl).symm
theorem dec_three (i j k : Int) : decide (V.int ((diff [i, j, k] : Nat) : Int) = V.int 3) = (!decide (i = j) && !decide (i = k) && !decide (j = k)) := by
  have h3 : (V.int ((diff [i, j, k] : Nat) : Int) = V.int 3) ↔ diff [i, j, k] = [i, j, k].length := by
    constructor
    · intro h
      have := V.int.inj h
      show diff [i, j, k] = 3
      omega
    · intro h
      rw [h]; rfl
  by_cases h : [i, j, k].Nodup
  · rw [decide_eq_true (h3.mpr (diff_nodup.mpr h))]
    simp at h
    simp [h]
  · rw [decide_eq_false fun z => h (diff_nodup.mp (h3.mp z))]
    simp at h
    by_cases h1 : i = j <;> by_cases h2 : i = k <;> by_cases h4 : j = k <;> simp [h1, h2, h4] at h ⊢
theorem three_diff (T : Tb) (i j k : Int) : (([i, j, k].all (inT T)) && decide (V.int ((diff [i, j, k] : Nat) : Int) = V.int 3)) = threeT T i j k := by
  unfold threeT
  rw [dec_three]
  simp [List.all_cons]
end WA

namespace WA
open PySem PySem.Spec PyProof.Rows L2 Evl
/-! ### kinds of answers -/
inductive Kd
  | steps | cross | stretches | self | ranks | mutual | beside | line | neither | round
  deriving DecidableEq
def Kd.name : Kd → Str
  | .steps => "Steps" | .cross => "Cross" | .stretches => "Stretches" | .self => "Self" | .ranks => "Ranks"
  | .mutual => "Mutual" | .beside => "Beside" | .line => "Line" | .neither => "Neither" | .round => "Round"
def Kd.all : List Kd := [.steps, .cross, .stretches, .self, .ranks, .mutual, .beside, .line, .neither, .round]
theorem Kd.mem : ∀ k : Kd, k ∈ Kd.all := by intro k; cases k <;> decide
def Ans.kd : Ans → Kd
  | .steps .. => .steps | .cross .. => .cross | .stretches .. => .stretches | .self .. => .self | .ranks .. => .ranks
  | .mutual .. => .mutual | .beside .. => .beside | .line .. => .line | .neither .. => .neither | .round .. => .round
abbrev gaK (K : PySem.W.Frag) (k : Kd) : Addr := He.ga K k.name
/-- an argument: an int, a list of ints -/
inductive Ar
  | i (a : Int) | l (ns : List Int)
def Ans.args : Ans → List Ar
  | .steps r c => [.l r, .l c] | .cross a b c d => [.i a, .i b, .i c, .i d] | .stretches b e u => [.l b, .l e, .l u] | .self a => [.i a] | .ranks r => [.l r]
  | .mutual a b => [.i a, .i b] | .beside a b c => [.i a, .i b, .i c] | .line o => [.l o] | .neither a b => [.i a, .i b] | .round a b c => [.i a, .i b, .i c]
def ArgsAre (K : PySem.W.Frag) (H : Hp) : List Ar → List V → Prop
  | [], vs => vs = []
  | .i a :: r, vs => ∃ ws, vs = .int a :: ws ∧ ArgsAre K H r ws
  | .l ns :: r, vs => ∃ p ws, vs = .ref p :: ws ∧ SqL K H p (ns.map V.int) ∧ ArgsAre K H r ws
theorem ArgsAre.mono {K : PySem.W.Frag} {H H' : Hp} (e : Ex H H') : ∀ {as : List Ar} {vs : List V}, ArgsAre K H as vs → ArgsAre K H' as vs
  | [], _, h => h
  | .i _ :: _, _, ⟨ws, h1, h2⟩ => ⟨ws, h1, h2.mono e⟩
  | .l _ :: _, _, ⟨p, ws, h1, h2, h3⟩ => ⟨p, ws, h1, ex_l e h2, h3.mono e⟩
/-- an instance; a list that was new after H0 -/
def InsAt (K : PySem.W.Frag) (H : Hp) (x : Addr) (k : Kd) (fs : List (Str × V)) : Prop := ∃ dx, H x = some (.ins (gaK K k) dx fs)
def LF (H0 H : Hp) (l : Addr) (ns : List Int) : Prop := H0 l = none ∧ H l = some (.lst (ns.map V.int))
def AnsAt (K : PySem.W.Frag) (H0 H : Hp) (x : Addr) : Ans → Prop
  | .steps r c => ∃ l m, InsAt K H x .steps [("rows", .ref l), ("columns", .ref m)] ∧ LF H0 H l r ∧ LF H0 H m c ∧ l ≠ m
  | .cross a b c d => InsAt K H x .cross [("one", .int a), ("first", .int b), ("other", .int c), ("second", .int d)]
  | .stretches b e u => ∃ l m n, InsAt K H x .stretches [("begins", .ref l), ("ends", .ref m), ("unlike", .ref n)] ∧ LF H0 H l b ∧ LF H0 H m e ∧ LF H0 H n u ∧ l ≠ m ∧ l ≠ n ∧ m ≠ n
  | .self a => InsAt K H x .self [("one", .int a)]
  | .ranks r => ∃ l, InsAt K H x .ranks [("ranks", .ref l)] ∧ LF H0 H l r
  | .mutual a b => InsAt K H x .mutual [("one", .int a), ("other", .int b)]
  | .beside a b c => InsAt K H x .beside [("one", .int a), ("other", .int b), ("third", .int c)]
  | .line o => ∃ l, InsAt K H x .line [("order", .ref l)] ∧ LF H0 H l o
  | .neither a b => InsAt K H x .neither [("one", .int a), ("other", .int b)]
  | .round a b c => InsAt K H x .round [("one", .int a), ("other", .int b), ("third", .int c)]
section
variable {K : PySem.W.Frag} {H0 H00 H H' : Hp} {x : Addr} {a : Ans}
theorem InsAt.mono {k : Kd} {fs : List (Str × V)} (h : InsAt K H x k fs) (e : Ex H H') : InsAt K H' x k fs := let ⟨dx, h⟩ := h; ⟨dx, e _ _ h⟩
theorem LF.mono {l : Addr} {ns : List Int} (h : LF H0 H l ns) (e : Ex H H') : LF H0 H' l ns := ⟨h.1, e _ _ h.2⟩
theorem LF.back {l : Addr} {ns : List Int} (h : LF H0 H l ns) (e : Ex H00 H0) : LF H00 H l ns := ⟨fresh_back e h.1, h.2⟩
theorem AnsAt.mono (h : AnsAt K H0 H x a) (e : Ex H H') : AnsAt K H0 H' x a := by
  cases a with
  | steps r c => obtain ⟨l, m, h1, h2, h3, h4⟩ := h; exact ⟨l, m, h1.mono e, h2.mono e, h3.mono e, h4⟩
  | stretches b e' u => obtain ⟨l, m, n, h1, h2, h3, h4, h5⟩ := h; exact ⟨l, m, n, h1.mono e, h2.mono e, h3.mono e, h4.mono e, h5⟩
  | ranks r => obtain ⟨l, h1, h2⟩ := h; exact ⟨l, h1.mono e, h2.mono e⟩
  | line r => obtain ⟨l, h1, h2⟩ := h; exact ⟨l, h1.mono e, h2.mono e⟩
  | _ => exact InsAt.mono h e
theorem AnsAt.back (h : AnsAt K H0 H x a) (e : Ex H00 H0) : AnsAt K H00 H x a := by
  cases a with
  | steps r c => obtain ⟨l, m, h1, h2, h3, h4⟩ := h; exact ⟨l, m, h1, h2.back e, h3.back e, h4⟩
  | stretches b e' u => obtain ⟨l, m, n, h1, h2, h3, h4, h5⟩ := h; exact ⟨l, m, n, h1, h2.back e, h3.back e, h4.back e, h5⟩
  | ranks r => obtain ⟨l, h1, h2⟩ := h; exact ⟨l, h1, h2.back e⟩
  | line r => obtain ⟨l, h1, h2⟩ := h; exact ⟨l, h1, h2.back e⟩
  | _ => exact h
theorem AnsAt.ins (h : AnsAt K H0 H x a) : ∃ fs : List (Str × V), InsAt K H x a.kd fs ∧ fs.lookup ("shows" : Str) = none := by
  cases a with
  | steps r c => obtain ⟨l, m, h1, h2⟩ := h; exact ⟨_, h1, by rfl⟩
  | stretches b e' u => obtain ⟨l, m, n, h1, h2⟩ := h; exact ⟨_, h1, by rfl⟩
  | ranks r => obtain ⟨l, h1, h2⟩ := h; exact ⟨_, h1, by rfl⟩
  | line r => obtain ⟨l, h1, h2⟩ := h; exact ⟨_, h1, by rfl⟩
  | _ => exact ⟨_, h, by rfl⟩
end
/-! ### facts of the classes -/
structure ClsF (K : PySem.W.Frag) (C : Addr) : Prop where
  cl : Cls K C
  cc : PySem.W.findIn K (.ref C) "__class__" = some (some (.builtin "object.__class__"))
  sp : PySem.W.specialIn K (.builtin "object.__class__") "__get__" = some (some (.builtin "getset_descriptor.__get__"))
  tk : PySem.W.takesIn K (.builtin "object.__class__") = some true
  mro : PySem.W.mroIn K C (.type "object") = some true
def clsB (K : PySem.W.Frag) (C : Addr) : Bool :=
  He.eqO (PySem.W.findIn K (.ref C) "__class__") (some (some (.builtin "object.__class__"))) && He.eqO (PySem.W.specialIn K (.builtin "object.__class__") "__get__") (some (some (.builtin "getset_descriptor.__get__"))) &&
    decide (PySem.W.takesIn K (.builtin "object.__class__") = some true) && decide (PySem.W.mroIn K C (.type "object") = some true)
theorem clsB_ok {K : PySem.W.Frag} {C : Addr} (c : Cls K C) (h : clsB K C = true) : ClsF K C := by
  unfold clsB at h
  simp only [Bool.and_eq_true, decide_eq_true_eq] at h
  exact ⟨c, He.eqO_ok h.1.1.1, He.eqO_ok h.1.1.2, h.1.2, h.2⟩
/-- isinstance of the answers -/
def kindB (K : PySem.W.Frag) : Bool := (Kd.all.all fun a => Kd.all.all fun c => decide (PySem.W.kitOne K (.ref (gaK K a)) (.ref (gaK K c)) = some (decide (a = c)))) &&
  (Kd.all.all fun a => decide (PySem.W.kitOne K (.ref (gaK K a)) (.ref (He.ga K "Answer")) = some true)) && Kd.all.all fun a => clsB K (gaK K a)
structure KindF (K : PySem.W.Frag) : Prop where
  one : ∀ a c : Kd, PySem.W.kitOne K (.ref (gaK K a)) (.ref (gaK K c)) = some (decide (a = c))
  top : ∀ a : Kd, PySem.W.kitOne K (.ref (gaK K a)) (.ref (He.ga K "Answer")) = some true
  cls : ∀ a : Kd, clsB K (gaK K a) = true
theorem kindB_ok {K : PySem.W.Frag} (h : kindB K = true) : KindF K := by
  unfold kindB at h
  simp only [Bool.and_eq_true, List.all_eq_true, decide_eq_true_eq] at h
  exact ⟨fun a c => h.1.1 a a.mem c c.mem, fun a => h.1.2 a a.mem, fun a => h.2 a a.mem⟩
section
variable {K : PySem.W.Frag} {σ : L2.St} {H H' H0 : Hp} {ta tb te tx : TE} {t u : TT} {x y z v : V} {D : Ends} {tu tw tz : TS} {g : TG} {xs ys : List V} {ts : TA}
/-! ### fields -/
theorem ev_fld {a : Addr} {k : Kd} {f : Str} {fs : List (Str × V)} (h : Ev te σ H (.ref a)) (hx : InsAt K H a k fs) (c : Cls K (gaK K k)) (n : NoAttr K (gaK K k) f) (l : fs.lookup f = some v) : Ev (tFld K te f) σ H v := fun H1 e Q q =>
  h H1 e _ fun H2 e2 => let ⟨dx, hd⟩ := hx; ⟨a, _, dx, fs, v, rfl, (e.trans e2) _ _ hd, c, n, l, q H2 e2⟩
theorem evs_fld {a p : Addr} {k : Kd} {f : Str} {fs : List (Str × V)} {ns : List Int} (h : Ev te σ H (.ref a)) (hx : InsAt K H a k fs) (c : Cls K (gaK K k)) (n : NoAttr K (gaK K k) f) (l : fs.lookup f = some (.ref p)) (hp : LF H0 H p ns) : EvS K (tFld K te f) σ H (ns.map V.int) :=
  evs (ev_fld h hx c n l) (sq_of hp.2)
/-! ### an answer made -/
/-- evaluates to a new object -/
def EvO (te : TE) (σ : L2.St) (H : Hp) (P : Hp → Hp → Addr → Prop) : Prop := ∀ H1, Ex H H1 → ∀ Q : VK, (∀ x H2, H1 x = none → Ex H1 H2 → P H1 H2 x → Q (.ref x) H2) → te σ H1 Q
/-- arguments -/
def EvAr (K : PySem.W.Frag) (ts : TA) (σ : L2.St) (H : Hp) (as : List Ar) : Prop := ∀ H1, Ex H H1 → ∀ Q : List V → Hp → Prop, (∀ vs H2, Ex H1 H2 → ArgsAre K H2 as vs → Q vs H2) → ts σ H1 Q
theorem ear_nil : EvAr K tNil σ H [] := fun H1 _ _ q => q [] H1 (Ex.refl H1) rfl
theorem ear_i {a : Int} {as : List Ar} (h : Ev te σ H (.int a)) (hr : EvAr K ts σ H as) : EvAr K (tCons te ts) σ H (.i a :: as) := fun H1 e _ q =>
  h H1 e _ fun H2 e2 => hr H2 (e.trans e2) _ fun vs H3 e3 p => q _ H3 (e2.trans e3) ⟨vs, rfl, p⟩
theorem ear_l {ns : List Int} {as : List Ar} (h : EvS K te σ H (ns.map V.int)) (hr : EvAr K ts σ H as) : EvAr K (tCons te ts) σ H (.l ns :: as) := fun H1 e _ q =>
  h H1 e _ fun p H2 e2 hp => hr H2 (e.trans e2) _ fun vs H3 e3 r => q _ H3 (e2.trans e3) ⟨p, vs, rfl, ex_l e3 hp, r⟩
theorem EvAr.is {as bs : List Ar} (h : EvAr K ts σ H as) (e : as = bs) : EvAr K ts σ H bs := e ▸ h
/-- what __init__ promises -/
def sp_init (K : PySem.W.Frag) (k : Kd) : Sp := fun vs H Q _ => ∃ x dx ans ws, vs = .ref x :: ws ∧ ans.kd = k ∧ H x = some (.ins (gaK K k) dx []) ∧ ArgsAre K H ans.args ws ∧
  ∀ H', AnsAt K H H' x ans → (∀ a o, a ≠ x → H a = some o → H' a = some o) → Q .non H'
theorem eo_make {k : Kd} {E : XK} {ans : Ans} (h : EvAr K ts σ H ans.args) (hk : ans.kd = k) : EvO (tMake (gaK K k) (sp_init K k) [] E ts) σ H (fun H1 H2 x => AnsAt K H1 H2 x ans) := fun H1 e Q q =>
  h H1 e _ fun vs H2 e2 r x dx hx hdx hne => by
    have e3 : Ex H2 (upd (upd H2 dx (.own x)) x (.ins (gaK K k) dx [])) := Ex.mut (Ex.new hdx) hx
    refine ⟨x, dx, ans, vs, by rw [List.append_nil], hk, upd_same, r.mono e3, fun H' hA hE => ⟨rfl, q x H' (fresh_back e2 hx) (e2.trans fun a o ha => ?_) (hA.back (e2.trans e3))⟩⟩
    exact hE a o (fun z => by rw [z, hx] at ha; cases ha) (e3 a o ha)
/-! ### shows -/
def sqOf : Kd → Tb → Nat → Prop
  | .steps, _, _ => True
  | .cross, _, _ => True
  | _, T, w => w = T.length
def sp_shows (K : PySem.W.Frag) (k : Kd) : Sp := spV fun vs H z => ∃ x a T w ans H0, vs = [.ref x, .ref a] ∧ ans.kd = k ∧ AnsAt K H0 H x ans ∧ At K H a T w ∧ sqOf k T w ∧ z = .bl (shown ans T)
theorem ev_shows {k : Kd} {E : XK} {o a : Addr} {T : Tb} {w : Nat} {ans : Ans} (h : Ev ta σ H (.ref o)) (hk : ans.kd = k) (hA : AnsAt K H0 H o ans) (ha : Ev te σ H (.ref a)) (hT : At K H a T w) (hs : sqOf k T w) :
    Ev (tMeth (gaK K k) "shows" (sp_shows K k) [] E ta (tCons te tNil)) σ H (.bl (shown ans T)) := fun H1 e Q q =>
  h H1 e _ fun H2 e2 => by
    obtain ⟨fs, ⟨dx, hi⟩, hl⟩ := hA.ins
    rw [hk] at hi
    exact ⟨o, dx, fs, rfl, (e.trans e2) _ _ hi, hl, ha H2 (e.trans e2) _ fun H3 e3 => ⟨_, ⟨o, a, T, w, ans, H0, rfl, hk, hA.mono ((e.trans e2).trans e3), hT.mono ((e.trans e2).trans e3), hs, rfl⟩, fun H4 e4 => q H4 ((e2.trans e3).trans e4)⟩⟩
/-- shows of an object just made -/
theorem ev_showsN {k : Kd} {E : XK} {a : Addr} {T : Tb} {w : Nat} {ans : Ans} (h : EvO ta σ H (fun H1 H2 x => AnsAt K H1 H2 x ans)) (hk : ans.kd = k) (ha : Ev te σ H (.ref a)) (hT : At K H a T w) (hs : sqOf k T w) :
    Ev (tMeth (gaK K k) "shows" (sp_shows K k) [] E ta (tCons te tNil)) σ H (.bl (shown ans T)) := fun H1 e Q q =>
  h H1 e _ fun o H2 _ e2 hA => by
    obtain ⟨fs, ⟨dx, hi⟩, hl⟩ := hA.ins
    rw [hk] at hi
    exact ⟨o, dx, fs, rfl, hi, hl, ha H2 (e.trans e2) _ fun H3 e3 => ⟨_, ⟨o, a, T, w, ans, H1, rfl, hk, hA.mono e3, hT.mono ((e.trans e2).trans e3), hs, rfl⟩, fun H4 e4 => q H4 ((e2.trans e3).trans e4)⟩⟩
/-- .. of a table just made -/
theorem ev_showsNL {k : Kd} {E : XK} {T : Tb} {w : Nat} {ans : Ans} (h : EvO ta σ H (fun H1 H2 x => AnsAt K H1 H2 x ans)) (hk : ans.kd = k) (ha : EvS K te σ H (tv T)) (hT : Rect T w ∧ T.length ≤ 1000 ∧ w ≤ 1000) (hs : sqOf k T w) :
    Ev (tMeth (gaK K k) "shows" (sp_shows K k) [] E ta (tCons te tNil)) σ H (.bl (shown ans T)) := fun H1 e Q q =>
  h H1 e _ fun o H2 _ e2 hA => by
    obtain ⟨fs, ⟨dx, hi⟩, hl⟩ := hA.ins
    rw [hk] at hi
    exact ⟨o, dx, fs, rfl, hi, hl, ha H2 (e.trans e2) _ fun p H3 e3 hp => ⟨_, ⟨o, p, T, w, ans, H1, rfl, hk, hA.mono e3, ⟨hp, hT.1, hT.2.1, hT.2.2⟩, hs, rfl⟩, fun H4 e4 => q H4 ((e2.trans e3).trans e4)⟩⟩
/-! ### one of several classes -/
def tAny (ks : List Kd) (t : Kd → TE) : TE := fun σ H Q => ∃ k ∈ ks, t k σ H Q
theorem pe_any {X : Cx} {e : Expr} {ks : List Kd} {t : Kd → TE} (h : ∀ k ∈ ks, PE X e (t k)) : PE X e (tAny ks t) := ⟨fun pins s σ H Q I ⟨k, hk, q⟩ => (h k hk).run pins s σ H Q I q⟩
theorem ev_anyK {ks : List Kd} {t : Kd → TE} {k : Kd} (hk : k ∈ ks) (h : Ev (t k) σ H v) : Ev (tAny ks t) σ H v := fun H1 e Q q => ⟨k, hk, h H1 e Q q⟩
/-! ### isinstance of answers -/
theorem tyx_ans {o : Addr} {ans : Ans} (F : ClsF K (gaK K ans.kd)) (hA : AnsAt K H0 H o ans) : TyX K H (.ref o) (.ref (gaK K ans.kd)) := by
  obtain ⟨fs, ⟨dx, hi⟩, _⟩ := hA.ins
  exact .base (.ins hi F.cl F.cc F.sp F.tk F.mro)
theorem ev_isA {o : Addr} {ans : Ans} {c : Kd} (F : ClsF K (gaK K ans.kd)) (G : KindF K) (h : Ev te σ H (.ref o)) (hA : AnsAt K H0 H o ans) : Ev (tCB (rIsi K) (tCons te (tCons (tC (.ref (He.ga K c.name))) tNil))) σ H (.bl (decide (ans.kd = c))) :=
  ev_isi h (.own _) (fun H1 e => tyx_ans F (hA.mono e)) (G.one _ _)
theorem ev_isAns {o : Addr} {ans : Ans} (F : ClsF K (gaK K ans.kd)) (G : KindF K) (h : Ev te σ H (.ref o)) (hA : AnsAt K H0 H o ans) : Ev (tCB (rIsi K) (tCons te (tCons (tC (.ref (He.ga K "Answer"))) tNil))) σ H (.bl true) :=
  ev_isi h (.own _) (fun H1 e => tyx_ans F (hA.mono e)) (G.top _)
/-! ### None or an answer -/
theorem q_asgO {i : Nat} {P : Hp → Hp → Addr → Prop} (h : EvO te σ H P) (k : ∀ x H1, H x = none → Ex H H1 → P H H1 x → tz D (σ.set i (some (.ref x))) H1) : tSeq (tAsg te (gName i)) tz D σ H :=
  h H (Ex.refl H) _ fun x H1 hx e1 p => k x H1 hx e1 p
theorem s_retO {P : Hp → Hp → Addr → Prop} (h : EvO te σ H P) (k : ∀ x H1, H x = none → Ex H H1 → P H H1 x → D.rt (.ref x) H1) : tRet te D σ H := h H (Ex.refl H) _ fun x H1 hx e1 p => k x H1 hx e1 p
theorem rv_isN : RV rIsN x .non H (.bl (decide (x = .non))) := fun H1 _ _ q => ⟨rfl, q H1 (Ex.refl H1)⟩
theorem rv_notN : RV rNotN x .non H (.bl (!decide (x = .non))) := fun H1 _ _ q => ⟨rfl, q H1 (Ex.refl H1)⟩
end
/-! ### methods, makers, by their bodies -/
section
variable {P : Program} {w : World} {K : PySem.W.Frag} {mg : Str → Option Value} {base : Heap}
theorem met_of {m qual : Str} {C f : Addr} {st : Stmt} {N ps : List Str} {k : Nat} {sp : Sp} (c : Cls K C) (me : Meth K C m f) (D : ∃ fd, FunD K m qual (defArgs st) (defBody st) (defScope st) [] [] f fd) (S : FnScope N ps (defScope st))
    (hb : ∀ (kV doc pm : Value) (an : Option Addr) (cdv ct : Value) (us : List Value), us.length = ps.length → bindArgs (PySem.W.fnOf m qual (defArgs st) (defBody st) (defScope st) .none kV doc pm an cdv ct) ⟨us, []⟩ = pure (ps.zip us))
    (len : ∀ vs H Q E, sp vs H Q E → vs.length = ps.length)
    (hbody : ∀ (f : Addr) (cdv : Value) (A : Around) (outer : List Env) (s : Shared) (H : Hp) (vs : List V) (Q : VK) (E : XK), Room k (A.deeper (envOfC qual (defScope st) s.heap.objs.size f cdv)) → sp vs H Q E →
      ∃ t, PSs (cxOf C8.CX0 P w K mg base N qual (defScope st) f cdv A outer s H E).nox (defBody st) t ∧ t { nx := fun _ H' => Q .non H', rt := Q } (start N vs) H) : C8.Met P w K mg base (k + 1) C m sp [] := by
  obtain ⟨fd, F⟩ := D
  refine ⟨f, fd, ps, [], c, me, F.ok S len fun cdv A outer s H vs Q E hr h => ?_, F.bindsN hb, .nil⟩
  obtain ⟨t, h1, h2⟩ := hbody f cdv A outer s H vs Q E hr h
  exact ⟨t, h1.nox, h2⟩
theorem mak_of {x qual : Str} {C f : Addr} {st : Stmt} {N ps : List Str} {k : Nat} {sp : Sp} (M : Mk K C f) (hm : mg x = some (.ref C)) (D : ∃ fd, FunD K "__init__" qual (defArgs st) (defBody st) (defScope st) [] [] f fd) (S : FnScope N ps (defScope st))
    (hb : ∀ (kV doc pm : Value) (an : Option Addr) (cdv ct : Value) (us : List Value), us.length = ps.length → bindArgs (PySem.W.fnOf "__init__" qual (defArgs st) (defBody st) (defScope st) .none kV doc pm an cdv ct) ⟨us, []⟩ = pure (ps.zip us))
    (len : ∀ vs H Q E, sp vs H Q E → vs.length = ps.length)
    (hbody : ∀ (f : Addr) (cdv : Value) (A : Around) (outer : List Env) (s : Shared) (H : Hp) (vs : List V) (Q : VK) (E : XK), Room k (A.deeper (envOfC qual (defScope st) s.heap.objs.size f cdv)) → sp vs H Q E →
      ∃ t, PSs (cxOf C8.CX0 P w K mg base N qual (defScope st) f cdv A outer s H E).nox (defBody st) t ∧ t { nx := fun _ H' => Q .non H', rt := Q } (start N vs) H) : C8.Mak P w K mg base (k + 1) x C sp [] := by
  obtain ⟨fd, F⟩ := D
  refine ⟨f, fd, ps, [], M, F.ok S len fun cdv A outer s H vs Q E hr h => ?_, hm, F.bindsN hb, .nil⟩
  obtain ⟨t, h1, h2⟩ := hbody f cdv A outer s H vs Q E hr h
  exact ⟨t, h1.nox, h2⟩
end
/-! ### what __init__ does -/
section
variable {K : PySem.W.Frag} {σ : L2.St} {H H' H0 : Hp} {ta tb te tx : TE} {v : V} {D : Ends} {tz : TS}
/-- self.f = value, self a new instance -/
theorem s_fld {a C dx : Addr} {f : Str} {fs : List (Str × V)} (h : Ev te σ H v) (ho : Ev ta σ H (.ref a)) (hx : H a = some (.ins C dx fs)) (c : Cls K C) (n : NoAttr K C f) (hl : fs.length < 1000) (k : ∀ H1, Ex H H1 → D.nx σ (upd H1 a (.ins C dx (putF f v fs)))) :
    sFld K ta te f D σ H := h H (Ex.refl H) _ fun H1 e1 => ho H1 e1 _ fun H2 e2 => ⟨a, C, dx, fs, rfl, (e1.trans e2) _ _ hx, c, n, hl, k H2 (e1.trans e2)⟩
theorem q_fld {a C dx : Addr} {f : Str} {fs : List (Str × V)} (h : Ev te σ H v) (ho : Ev ta σ H (.ref a)) (hx : H a = some (.ins C dx fs)) (c : Cls K C) (n : NoAttr K C f) (hl : fs.length < 1000) (k : ∀ H1, Ex H H1 → tz D σ (upd H1 a (.ins C dx (putF f v fs)))) :
    tSeq (sFld K ta te f) tz D σ H := s_fld (D := { D with nx := tz D }) h ho hx c n hl k
theorem s_fldL {a C dx : Addr} {f : Str} {xs : List V} {fs : List (Str × V)} (h : EvL te σ H xs) (ho : Ev ta σ H (.ref a)) (hx : H a = some (.ins C dx fs)) (c : Cls K C) (n : NoAttr K C f) (hl : fs.length < 1000) (k : ∀ p H1, H p = none → Ex H H1 → H1 p = some (.lst xs) → D.nx σ (upd H1 a (.ins C dx (putF f (.ref p) fs)))) :
    sFld K ta te f D σ H := h H (Ex.refl H) _ fun p H1 hp e1 h1 => ho H1 e1 _ fun H2 e2 => ⟨a, C, dx, fs, rfl, (e1.trans e2) _ _ hx, c, n, hl, k p H2 hp (e1.trans e2) (e2 _ _ h1)⟩
theorem q_fldL {a C dx : Addr} {f : Str} {xs : List V} {fs : List (Str × V)} (h : EvL te σ H xs) (ho : Ev ta σ H (.ref a)) (hx : H a = some (.ins C dx fs)) (c : Cls K C) (n : NoAttr K C f) (hl : fs.length < 1000) (k : ∀ p H1, H p = none → Ex H H1 → H1 p = some (.lst xs) → tz D σ (upd H1 a (.ins C dx (putF f (.ref p) fs)))) :
    tSeq (sFld K ta te f) tz D σ H := s_fldL (D := { D with nx := tz D }) h ho hx c n hl k
/-- all but the object at x stay -/
def Ax (x : Addr) (H H' : Hp) : Prop := ∀ a o, a ≠ x → H a = some o → H' a = some o
theorem Ax.upd {x : Addr} {H H1 : Hp} {o : HO} (e : Ex H H1) : Ax x H (L2.upd H1 x o) := fun a u n h => by rw [upd_ne n]; exact e a u h
theorem Ax.trans {x : Addr} {H H1 H2 : Hp} (h : Ax x H H1) (g : Ax x H1 H2) : Ax x H H2 := fun a o n e => g a o n (h a o n e)
end
end WA

namespace WA
open PySem PySem.Spec PyProof.Rows L2 Evl
/-! ### arguments: values and lists -/
inductive Av
  | v (x : V) | s (xs : List V)
def AvsAre (K : PySem.W.Frag) (H : Hp) : List Av → List V → Prop
  | [], vs => vs = []
  | .v x :: r, vs => ∃ ws, vs = x :: ws ∧ AvsAre K H r ws
  | .s xs :: r, vs => ∃ p ws, vs = .ref p :: ws ∧ SqL K H p xs ∧ AvsAre K H r ws
def EvAv (K : PySem.W.Frag) (ts : TA) (σ : L2.St) (H : Hp) (as : List Av) : Prop := ∀ H1, Ex H H1 → ∀ Q : List V → Hp → Prop, (∀ vs H2, Ex H1 H2 → AvsAre K H2 as vs → Q vs H2) → ts σ H1 Q
section
variable {K : PySem.W.Frag} {σ : L2.St} {H H' H0 : Hp} {ta tb te tx : TE} {t u : TT} {x y z v : V} {D : Ends} {tu tw tz : TS} {g : TG} {xs ys : List V} {ts : TA} {sp : Sp} {E : XK} {dvs : List V}
theorem eav_nil : EvAv K tNil σ H [] := fun H1 _ _ q => q [] H1 (Ex.refl H1) rfl
theorem eav_v {as : List Av} (h : Ev te σ H x) (hr : EvAv K ts σ H as) : EvAv K (tCons te ts) σ H (.v x :: as) := fun H1 e _ q =>
  h H1 e _ fun H2 e2 => hr H2 (e.trans e2) _ fun vs H3 e3 p => q _ H3 (e2.trans e3) ⟨vs, rfl, p⟩
theorem eav_s {as : List Av} (h : EvS K te σ H xs) (hr : EvAv K ts σ H as) : EvAv K (tCons te ts) σ H (.s xs :: as) := fun H1 e _ q =>
  h H1 e _ fun p H2 e2 hp => hr H2 (e.trans e2) _ fun vs H3 e3 r => q _ H3 (e2.trans e3) ⟨p, vs, rfl, ex_l e3 hp, r⟩
theorem ev_callAv {as : List Av} (h : EvAv K ts σ H as) (hs : ∀ vs H1, Ex H H1 → AvsAre K H1 as vs → SpV sp (vs ++ dvs) H1 z) : Ev (tCall sp dvs E ts) σ H z := fun H1 e Q q =>
  h H1 e _ fun vs H2 e2 r => hs vs H2 (e.trans e2) r H2 (Ex.refl H2) Q (fun H3 e3 => q H3 (e2.trans e3)) E
theorem el_callAv {as : List Av} (h : EvAv K ts σ H as) (hs : ∀ vs H1, Ex H H1 → AvsAre K H1 as vs → SpL sp (vs ++ dvs) H1 ys) : EvL (tCall sp dvs E ts) σ H ys := fun H1 e Q q =>
  h H1 e _ fun vs H2 e2 r => hs vs H2 (e.trans e2) r H2 (Ex.refl H2) Q (fun p H3 hp e3 h3 => q p H3 (fresh_back e2 hp) (e2.trans e3) h3) E
/-! ### for a, b in zip(..), in enumerate(..) -/
theorem for_itS {J : It} {n : Nat} {g : TG} {tb : TS} {D : Ends} {σ : L2.St} {H : Hp} (Pv : Nat → L2.St → Hp → Prop) (h0 : Pv 0 σ H) (hstop : ∀ σ H, Pv n σ H → J.stop n H) (hgo : ∀ i σ H, i < n → Pv i σ H → J.go i H)
    (hs : ∀ i x σ H H', i < n → Pv i σ H → J.yld i H x H' → g x σ H' fun σ2 H2 => tb { D with nx := Pv (i + 1), ct := Pv (i + 1), bk := D.nx } σ2 H2) (hd : ∀ σ H, Pv n σ H → D.nx σ H) :
    ∃ W : Nat → Nat → L2.St → Hp → Prop, (∃ k, W 0 k σ H) ∧ ∀ i k σ H, W i k σ H → (J.stop i H ∧ D.nx σ H) ∨
      (J.go i H ∧ ∃ N : L2.St → Hp → Prop, (∀ σ' H', N σ' H' → ∃ k', k' < k ∧ W (i + 1) k' σ' H') ∧ ∀ x H', J.yld i H x H' → g x σ H' fun σ2 H2 => tb { D with nx := N, ct := N, bk := D.nx } σ2 H2) := by
  obtain ⟨W, ⟨k0, w0⟩, step⟩ := n_turns (α := L2.St × Hp) (a0 := (σ, H)) (Stop := fun i a => J.stop i a.2 ∧ D.nx a.1 a.2)
    (Go := fun i a N => J.go i a.2 ∧ ∀ x H', J.yld i a.2 x H' → g x a.1 H' fun σ2 H2 => tb { D with nx := fun σ' H' => N (σ', H'), ct := fun σ' H' => N (σ', H'), bk := D.nx } σ2 H2) (fun i a => Pv i a.1 a.2) h0
    (fun i a lt p => ⟨hgo i a.1 a.2 lt p, fun x H' y => hs i x a.1 a.2 H' lt p y⟩) fun a p => ⟨hstop a.1 a.2 p, hd a.1 a.2 p⟩
  exact ⟨fun i k σ H => W i k (σ, H), ⟨k0, w0⟩, fun i k σ H h => (step i k _ h).imp id fun ⟨N, fall, go, turn⟩ => ⟨go, fun σ' H' => N (σ', H'), fun σ' H' q => fall _ q, turn⟩⟩
/-- over zip, the general form: the invariant tells that both lists stand -/
theorem s_forZG {α β : Type} {l : List α} {m : List β} {f : α → V} {f' : β → V} {i j : Nat} (h : EvS K ta σ H (l.map f)) (h' : EvS K tb σ H (m.map f')) (hlm : l.length = m.length) (Pv : Addr → Addr → Nat → L2.St → Hp → Prop)
    (h0 : ∀ a b H1, Ex H H1 → SqL K H1 a (l.map f) → SqL K H1 b (m.map f') → Pv a b 0 σ H1) (hq : ∀ a b i σ' H', Pv a b i σ' H' → SqL K H' a (l.map f) ∧ SqL K H' b (m.map f')) (hP : ∀ a b i σ' H' H'', Ex H' H'' → Pv a b i σ' H' → Pv a b i σ' H'')
    (hs : ∀ a b k x y σ' H', l[k]? = some x → m[k]? = some y → Pv a b k σ' H' → tu { D with nx := Pv a b (k + 1), ct := Pv a b (k + 1), bk := D.nx } ((σ'.set i (some (f x))).set j (some (f' y))) H') (hd : ∀ a b σ' H', Pv a b l.length σ' H' → D.nx σ' H') :
    tFor (iZip K (tCons ta (tCons tb tNil))) (gTup K 2 (gCons (gName i) (gCons (gName j) gNil))) tu D σ H :=
  h H (Ex.refl H) _ fun a H1 e1 hxa => h' H1 e1 _ fun b H2 e2 hyb => ⟨a, b, _, _, rfl, ex_l e2 hxa, hyb, by
    refine for_itS (J := Itz K a b) (n := l.length) (fun k σ' H' => Pv a b k σ' H') (h0 a b H2 (e1.trans e2) (ex_l e2 hxa) hyb) (fun σ' H' pv => ⟨_, _, (hq _ _ _ _ _ pv).1, (hq _ _ _ _ _ pv).2, .inl (by rw [List.length_map]; exact Nat.le_refl _)⟩)
      (fun k σ' H' hk pv => ⟨_, _, f l[k], f' (m[k]'(by omega)), (hq _ _ _ _ _ pv).1, (hq _ _ _ _ _ pv).2, by rw [List.getElem?_map, List.getElem?_eq_getElem hk]; rfl, by rw [List.getElem?_map, List.getElem?_eq_getElem (show k < m.length by omega)]; rfl⟩) (fun k x σ' H' H'' hk pv hyl => ?_) fun σ' H' pv => hd a b σ' H' pv
    obtain ⟨T, x1, y1, rfl, hT, rfl, hf1, hf2⟩ := hyl
    have hk2 : k < m.length := by omega
    have ex1 := hf1 _ (hq _ _ _ _ _ pv).1
    have ey1 := hf2 _ (hq _ _ _ _ _ pv).2
    rw [List.getElem?_map, List.getElem?_eq_getElem hk] at ex1
    rw [List.getElem?_map, List.getElem?_eq_getElem hk2] at ey1
    have ex1 := (Option.some.inj ex1).symm
    have ey1 := (Option.some.inj ey1).symm
    subst ex1 ey1
    exact g_pair (st_of upd_same) (hs a b k l[k] m[k] σ' _ (List.getElem?_eq_getElem hk) (List.getElem?_eq_getElem hk2) (hP _ _ _ _ _ _ (Ex.new hT) pv))⟩
/-- over zip, nothing is changed -/
theorem s_forZ {α β : Type} {l : List α} {m : List β} {f : α → V} {f' : β → V} {i j : Nat} (h : EvS K ta σ H (l.map f)) (h' : EvS K tb σ H (m.map f')) (hlm : l.length = m.length) (Pv : Nat → L2.St → Prop) (h0 : Pv 0 σ)
    (hs : ∀ k x y σ' H', l[k]? = some x → m[k]? = some y → Ex H H' → Pv k σ' → ∀ D' : Ends, D'.rt = D.rt → D'.bk = D.nx → (∀ σ2 H2, Ex H' H2 → Pv (k + 1) σ2 → D'.nx σ2 H2) → tu D' ((σ'.set i (some (f x))).set j (some (f' y))) H') (hd : ∀ σ' H', Ex H H' → Pv l.length σ' → D.nx σ' H') :
    tFor (iZip K (tCons ta (tCons tb tNil))) (gTup K 2 (gCons (gName i) (gCons (gName j) gNil))) tu D σ H :=
  s_forZG h h' hlm (fun a b k σ' H' => Ex H H' ∧ SqL K H' a (l.map f) ∧ SqL K H' b (m.map f') ∧ Pv k σ') (fun a b H1 e1 ha hb => ⟨e1, ha, hb, h0⟩) (fun a b k σ' H' pv => ⟨pv.2.1, pv.2.2.1⟩) (fun a b k σ' H' H'' e pv => ⟨pv.1.trans e, ex_l e pv.2.1, ex_l e pv.2.2.1, pv.2.2.2⟩)
    (fun a b k x y σ' H' hx hy pv => hs k x y σ' H' hx hy pv.1 pv.2.2.2 _ rfl rfl fun σ2 H2 e2 p2 => ⟨pv.1.trans e2, ex_l e2 pv.2.1, ex_l e2 pv.2.2.1, p2⟩) fun a b σ' H' pv => hd σ' H' pv.1 pv.2.2.2
theorem q_forZ {α β : Type} {l : List α} {m : List β} {f : α → V} {f' : β → V} {i j : Nat} (h : EvS K ta σ H (l.map f)) (h' : EvS K tb σ H (m.map f')) (hlm : l.length = m.length) (Pv : Nat → L2.St → Prop) (h0 : Pv 0 σ)
    (hs : ∀ k x y σ' H', l[k]? = some x → m[k]? = some y → Ex H H' → Pv k σ' → ∀ D' : Ends, D'.rt = D.rt → D'.bk = tz D → (∀ σ2 H2, Ex H' H2 → Pv (k + 1) σ2 → D'.nx σ2 H2) → tu D' ((σ'.set i (some (f x))).set j (some (f' y))) H') (hd : ∀ σ' H', Ex H H' → Pv l.length σ' → tz D σ' H') :
    tSeq (tFor (iZip K (tCons ta (tCons tb tNil))) (gTup K 2 (gCons (gName i) (gCons (gName j) gNil))) tu) tz D σ H := s_forZ (D := { D with nx := tz D }) h h' hlm Pv h0 hs hd
/-- over enumerate, the general form -/
theorem s_forEG {α : Type} {l : List α} {f : α → V} {i j : Nat} (h : EvS K ta σ H (l.map f)) (Pv : Addr → Nat → L2.St → Hp → Prop)
    (h0 : ∀ a H1, Ex H H1 → SqL K H1 a (l.map f) → Pv a 0 σ H1) (hq : ∀ a i σ' H', Pv a i σ' H' → SqL K H' a (l.map f)) (hP : ∀ a i σ' H' H'', Ex H' H'' → Pv a i σ' H' → Pv a i σ' H'')
    (hs : ∀ a k x σ' H', l[k]? = some x → Pv a k σ' H' → tu { D with nx := Pv a (k + 1), ct := Pv a (k + 1), bk := D.nx } ((σ'.set i (some (.int (k : Nat)))).set j (some (f x))) H') (hd : ∀ a σ' H', Pv a l.length σ' H' → D.nx σ' H') :
    tFor (iEnum K (tCons ta tNil)) (gTup K 2 (gCons (gName i) (gCons (gName j) gNil))) tu D σ H :=
  h H (Ex.refl H) _ fun a H1 e1 hxa => ⟨a, _, rfl, hxa, by
    refine for_itS (J := Ite K a) (n := l.length) (fun k σ' H' => Pv a k σ' H') (h0 a H1 e1 hxa) (fun σ' H' pv => ⟨_, hq _ _ _ _ pv, by rw [List.length_map]; exact Nat.le_refl _⟩)
      (fun k σ' H' hk pv => ⟨_, _, hq _ _ _ _ pv, by rw [List.getElem?_map, List.getElem?_eq_getElem hk]; rfl⟩) (fun k x σ' H' H'' hk pv hyl => ?_) fun σ' H' pv => hd a σ' H' pv
    obtain ⟨T, y1, rfl, hT, rfl, hf⟩ := hyl
    have ey1 := hf _ (hq _ _ _ _ pv)
    rw [List.getElem?_map, List.getElem?_eq_getElem hk] at ey1
    have ey1 := (Option.some.inj ey1).symm
    subst ey1
    exact g_pair (st_of upd_same) (hs a k l[k] σ' _ (List.getElem?_eq_getElem hk) (hP _ _ _ _ _ (Ex.new hT) pv))⟩
theorem s_forE {α : Type} {l : List α} {f : α → V} {i j : Nat} (h : EvS K ta σ H (l.map f)) (Pv : Nat → L2.St → Prop) (h0 : Pv 0 σ)
    (hs : ∀ k x σ' H', l[k]? = some x → Ex H H' → Pv k σ' → ∀ D' : Ends, D'.rt = D.rt → D'.bk = D.nx → (∀ σ2 H2, Ex H' H2 → Pv (k + 1) σ2 → D'.nx σ2 H2) → tu D' ((σ'.set i (some (.int (k : Nat)))).set j (some (f x))) H') (hd : ∀ σ' H', Ex H H' → Pv l.length σ' → D.nx σ' H') :
    tFor (iEnum K (tCons ta tNil)) (gTup K 2 (gCons (gName i) (gCons (gName j) gNil))) tu D σ H :=
  s_forEG h (fun a k σ' H' => Ex H H' ∧ SqL K H' a (l.map f) ∧ Pv k σ') (fun a H1 e1 ha => ⟨e1, ha, h0⟩) (fun a k σ' H' pv => pv.2.1) (fun a k σ' H' H'' e pv => ⟨pv.1.trans e, ex_l e pv.2.1, pv.2.2⟩)
    (fun a k x σ' H' hx pv => hs k x σ' H' hx pv.1 pv.2.2 _ rfl rfl fun σ2 H2 e2 p2 => ⟨pv.1.trans e2, ex_l e2 pv.2.1, p2⟩) fun a σ' H' pv => hd σ' H' pv.1 pv.2.2
theorem q_forE {α : Type} {l : List α} {f : α → V} {i j : Nat} (h : EvS K ta σ H (l.map f)) (Pv : Nat → L2.St → Prop) (h0 : Pv 0 σ)
    (hs : ∀ k x σ' H', l[k]? = some x → Ex H H' → Pv k σ' → ∀ D' : Ends, D'.rt = D.rt → D'.bk = tz D → (∀ σ2 H2, Ex H' H2 → Pv (k + 1) σ2 → D'.nx σ2 H2) → tu D' ((σ'.set i (some (.int (k : Nat)))).set j (some (f x))) H') (hd : ∀ σ' H', Ex H H' → Pv l.length σ' → tz D σ' H') :
    tSeq (tFor (iEnum K (tCons ta tNil)) (gTup K 2 (gCons (gName i) (gCons (gName j) gNil))) tu) tz D σ H := s_forE (D := { D with nx := tz D }) h Pv h0 hs hd
/-- over range(n), nothing is changed -/
theorem s_forR {j n : Nat} {tn : TE} (h : Ev tn σ H (.int (n : Nat))) (hn : n ≤ 1000) (Pv : Nat → L2.St → Prop) (h0 : Pv 0 σ)
    (hs : ∀ k σ' H', k < n → Ex H H' → Pv k σ' → ∀ D' : Ends, D'.rt = D.rt → D'.bk = D.nx → (∀ σ2 H2, Ex H' H2 → Pv (k + 1) σ2 → D'.nx σ2 H2) → tu D' (σ'.set j (some (.int (k : Nat)))) H') (hd : ∀ σ' H', Ex H H' → Pv n σ' → D.nx σ' H') :
    tFor (iRng1 (tCons tn tNil)) (gName j) tu D σ H :=
  s_forR1 (n := (n : Nat)) (ea_cons h ea_nil) (by omega) (fun k σ' H' => Ex H H' ∧ Pv k σ') (fun H1 e1 => ⟨e1, h0⟩) (fun k σ' H' hk pv => hs k σ' H' (by omega) pv.1 pv.2 _ rfl rfl fun σ2 H2 e2 p2 => ⟨pv.1.trans e2, p2⟩) fun σ' H' pv => hd σ' H' pv.1 (by
    have e : ((n : Nat) : Int).toNat = n := Int.toNat_natCast n
    rw [e] at pv
    exact pv.2)
theorem q_forR {j n : Nat} {tn : TE} (h : Ev tn σ H (.int (n : Nat))) (hn : n ≤ 1000) (Pv : Nat → L2.St → Prop) (h0 : Pv 0 σ)
    (hs : ∀ k σ' H', k < n → Ex H H' → Pv k σ' → ∀ D' : Ends, D'.rt = D.rt → D'.bk = tz D → (∀ σ2 H2, Ex H' H2 → Pv (k + 1) σ2 → D'.nx σ2 H2) → tu D' (σ'.set j (some (.int (k : Nat)))) H') (hd : ∀ σ' H', Ex H H' → Pv n σ' → tz D σ' H') :
    tSeq (tFor (iRng1 (tCons tn tNil)) (gName j) tu) tz D σ H := s_forR (D := { D with nx := tz D }) h hn Pv h0 hs hd
/-- signs joined, told by another list -/
theorem ev_signsL {α : Type} {l : List α} {f : α → V} {p : α → Bool} {j : Nat} {tl : TE} {tt : TT} {vs : List Nat} (h : EvS K tl σ H (l.map f)) (hz : l.length ≤ 1000) (hw : ∀ x, wipe ((wipe σ vs).set j (some x)) vs = wipe σ vs)
    (ht : ∀ a ∈ l, EvT tt ((wipe σ vs).set j (some (f a))) H (p a)) : Ev (tM1 (rJoin K) (tC (.str "")) (tLc (iList K tl) (gName j) tYes (tIf tt (tC (.str "x")) (tC (.str "-"))) vs)) σ H (.str (rs (l.map p))) := by
  refine ev_joinS (bs := l.map p) ?_ (by rw [List.length_map]; omega)
  rw [List.map_map]
  exact els (el_map (g := f) (f := fun a => V.str (s1 (p a))) h (by omega) hw fun a ha => ev_ifSg (ht a ha))
theorem dec_rs (a b : List Bool) : decide (V.str (rs a) = V.str (rs b)) = decide (a = b) := by
  by_cases h : a = b
  · subst h; simp
  · rw [decide_eq_false h, decide_eq_false fun e => h (rs_inj (V.str.inj e))]
theorem tv_map (T : Tb) : tv T = T.map fun r => V.str (rs r) := rfl
/-! ### is there a row, a column -/
theorem inT_nat {T : Tb} {a : Int} (h : inT T a = true) : ∃ i : Nat, a = (i : Nat) ∧ i < T.length := by
  unfold inT at h
  simp only [Bool.and_eq_true, decide_eq_true_eq] at h
  exact ⟨a.toNat, by omega, by omega⟩
theorem inW_nat {T : Tb} {a : Int} (h : inW T a = true) : ∃ i : Nat, a = (i : Nat) ∧ i < width T := by
  unfold inW at h
  simp only [Bool.and_eq_true, decide_eq_true_eq] at h
  exact ⟨a.toNat, by omega, by omega⟩
theorem width_at {a : Addr} {T : Tb} {w : Nat} (h : At K H a T w) (hn : T ≠ []) : width T = w := by
  unfold width
  exact h.row (List.length_pos_iff.mpr hn)
theorem gi_nat {T : Tb} {i j : Nat} : gi T (i : Nat) (j : Nat) = gt T i j := by unfold gi; rw [Int.toNat_natCast, Int.toNat_natCast]
theorem inT_ne {T : Tb} {a : Int} (h : inT T a = true) : T ≠ [] := by
  obtain ⟨i, _, hi⟩ := inT_nat h
  intro z
  rw [z] at hi
  exact absurd hi (Nat.not_lt_zero _)
theorem rowsAre_iff {T : Tb} {ms : List Int} {p : Int → List Bool} : rowsAre T ms p = true ↔ ∀ (i : Nat) row m, T[i]? = some row → ms[i]? = some m → p m = row := by
  unfold rowsAre
  rw [List.all_eq_true]
  constructor
  · intro h i row m h1 h2
    have hz : (T.zip ms)[i]? = some (row, m) := by rw [List.getElem?_zip_eq_some]; exact ⟨h1, h2⟩
    exact of_decide_eq_true (h _ (List.mem_of_getElem? hz))
  · rintro h ⟨row, m⟩ hx
    obtain ⟨i, hi⟩ := List.mem_iff_getElem?.mp hx
    rw [List.getElem?_zip_eq_some] at hi
    exact decide_eq_true (h i row m hi.1 hi.2)
theorem rowsAre_bad {T : Tb} {ms : List Int} {p : Int → List Bool} {i : Nat} {row : List Bool} {m : Int} (h1 : T[i]? = some row) (h2 : ms[i]? = some m) (h : ¬ p m = row) : rowsAre T ms p = false := by
  cases e : rowsAre T ms p with
  | false => rfl
  | true => exact absurd (rowsAre_iff.mp e i row m h1 h2) h
theorem ranks_bad {T : Tb} {r : List Int} {i : Nat} {row : List Bool} {m : Int} (h1 : T[i]? = some row) (h2 : r[i]? = some m) (h : ¬ (r.map fun t => decide (m < t)) = row) : ranksOk r T = false := by
  unfold ranksOk
  rw [rowsAre_bad (p := fun m => r.map fun t => decide (m < t)) h1 h2 h, Bool.and_false]
theorem ranks_good {T : Tb} {r : List Int} (hl : r.length = T.length) (h : ∀ (i : Nat) row m, T[i]? = some row → r[i]? = some m → (r.map fun t => decide (m < t)) = row) : ranksOk r T = true := by
  unfold ranksOk
  rw [decide_eq_true hl, rowsAre_iff.mpr h]; rfl
theorem three_in {T : Tb} {i j k : Int} (h : threeT T i j k = true) : inT T i = true ∧ inT T j = true ∧ inT T k = true := by
  unfold threeT at h
  simp only [Bool.and_eq_true] at h
  exact ⟨h.1.1, h.1.2.1, h.1.2.2⟩
end
end WA

namespace WA
open PySem PySem.Spec PyProof.Rows L2 Evl
/-! ### len(set(xs)), whatever the items are -/
/-- a set of k members stands at a -/
def SizeAt (k : Nat) (a : Addr) (h : Heap) : Prop := ∃ o es ep t, h.get? a = some o ∧ o.ExactSet ∧ o.data = .set es ep t ∧ t.fits es.size = true ∧ es.size = k
/-- the list at l fills a set of k members -/
def HasSet (X : Cx) (H : Hp) (l : Addr) (k : Nat) : Prop := ∀ {pins σ s}, Inv X pins σ H s → ∃ its, s.heap.IsList l its ∧ Fills X.prog X.w l its (SizeAt k)
theorem pe_lenNew {X : Cx} {a : Expr} {ta : TE} {p p2 q pos : Pos} (hg : Gl X "len") (hm : X.mg "len" = none) (hg2 : Gl X "set") (hm2 : X.mg "set" = none) (ha : PE X a ta) (hc : X.calm = true)
    (na : starEach [a] X.env = (false, eval a X.env) :: starEach [] X.env) {Rr : VK → VK} (hR : ∀ Q x H, Rr Q x H → ∃ l k, x = .ref l ∧ HasSet X H l k ∧ k ≤ 1000 ∧ Q (.int (k : Nat)) H) :
    PE X (.Call (.Name "len" p) [.Call (.Name "set" p2) [a] [] q] [] pos) (fun σ H Q => ta σ H (Rr Q)) := by
  constructor
  intro pins s σ H Q I h
  have inner : wpAny (model X.prog X.w) X.A (eval (.Call (.Name "set" p2) [a] [] q) X.env) (fun v t => ∃ k H1, (∃ b, v = .ref b ∧ SizeAt k b t.heap) ∧ k ≤ 1000 ∧ Inv X pins σ H1 t ∧ Q (.int (k : Nat)) H1) X.xe s := by
    refine Call_ (ld_blt I hg2 hm2 boot_set (PyProof.Rows.callWith_type1 (one_arg ha I h (fun v s1 x H1 I1 r1 q1 => ?_) na) na))
    obtain ⟨l, k, ex, hs, hk, q2⟩ := hR Q x H1 q1
    subst ex
    cases r1
    obtain ⟨its, il, fl⟩ := hs I1
    refine call_fill fl (I1.ok.hd hc) il fun t ⟨h', tk, e, sz, kp⟩ => ?_
    subst e
    exact ⟨k, H1, ⟨_, rfl, sz⟩, hk, I1.kept kp, q2⟩
  refine Call_ (ld_blt I hg hm boot_len (PyProof.Rows.callWith_builtin1 (PyProof.Rows.args_cons (wpAny_mono inner (fun v t z => PyProof.Rows.args_nil ?_) fun e t z => z) rfl) rfl))
  obtain ⟨k, H1, ⟨b, rfl, o, es, ep, ts, ho, hex, hd, hf, hk⟩, hz, J, q2⟩ := z
  subst hk
  exact call_len_set ho hex hd hf (by omega) ⟨.int (es.size : Nat), H1, J.tok _, ⟨_, rfl⟩, q2⟩
/-! ### len(set(ns)) -/
theorem HasSet.ints {X : Cx} {H : Hp} {l : Addr} {ns : List Int} (h : SqL X.K H l (ns.map V.int)) (hz : ns.length ≤ 1000) : HasSet X H l (diff ns) := fun {pins σ s} I => by
  obtain ⟨its, r, pl, _⟩ := I.list h
  refine ⟨_, pl.isList, (fills_ints (ints_of_vals r) (by have : 1000 + 1 < scanBound := (by decide); omega)).mono fun a h' ⟨c, R⟩ => ?_⟩
  obtain ⟨ks, k1, k2⟩ := setR_keys R
  have hd := diff_of k1.1 k1.2
  obtain ⟨o, es, ep, t, ho, hex, hd2, _, _, _, _, hf, hn, _⟩ := R
  exact ⟨o, es, ep, t, ho, hex, hd2, hf, by rw [hn, ← k2, hd]⟩
def tLenS (K : PySem.W.Frag) (ta : TE) : TE := fun σ H Q => ta σ H fun x H1 => ∃ (l : Addr) (ns : List Int), x = .ref l ∧ SqL K H1 l (ns.map V.int) ∧ ns.length ≤ 1000 ∧ Q (.int (diff ns : Nat)) H1
theorem pe_lenS {X : Cx} {a : Expr} {ta : TE} {p p2 q pos : Pos} (hg : Gl X "len") (hm : X.mg "len" = none) (hg2 : Gl X "set") (hm2 : X.mg "set" = none) (ha : PE X a ta)
    (hc : X.calm = true := by rfl) (na : starEach [a] X.env = (false, eval a X.env) :: starEach [] X.env := by rfl) : PE X (.Call (.Name "len" p) [.Call (.Name "set" p2) [a] [] q] [] pos) (tLenS X.K ta) :=
  pe_lenNew hg hm hg2 hm2 ha hc na fun Q x H ⟨l, ns, e, hq, hl, q1⟩ => ⟨l, _, e, HasSet.ints hq hl, Nat.le_trans (diff_le ns) hl, q1⟩
section
variable {K : PySem.W.Frag} {σ : L2.St} {H : Hp} {te : TE}
theorem ev_lenSet {ns : List Int} (h : EvS K te σ H (ns.map V.int)) (hz : ns.length ≤ 1000) : Ev (tLenS K te) σ H (.int (diff ns : Nat)) := fun H1 e Q q => h H1 e _ fun p H2 e2 hp => ⟨p, ns, rfl, hp, hz, q H2 e2⟩
end
end WA

namespace WA
open PySem L2
/-! ### how many are ahead -/
theorem mem_colOf {T : Tb} {i j : Nat} : i ∈ colOf T j ↔ i < T.length ∧ gt T i j = true := by
  unfold colOf
  rw [List.mem_filter, List.mem_range]
theorem colOf_nodup (T : Tb) (j : Nat) : (colOf T j).Nodup := List.Pairwise.filter _ List.nodup_range
def szT (T : Tb) (j : Nat) : Nat := (colOf T j).length
def sizesT (T : Tb) : List Nat := (List.range T.length).map (szT T)
theorem sizesT_len (T : Tb) : (sizesT T).length = T.length := by unfold sizesT; rw [List.length_map, List.length_range]
theorem sizesT_at {T : Tb} {i : Nat} (h : i < T.length) : (sizesT T)[i]? = some (szT T i) := by unfold sizesT; rw [List.getElem?_map, List.getElem?_range h]; rfl
theorem szT_mem {T : Tb} {i : Nat} (h : i < T.length) : szT T i ∈ sizesT T := List.mem_of_getElem? (sizesT_at h)
def levelsN (sz : List Nat) : List Nat := sz.map (lev sz)
theorem levelsN_len (sz : List Nat) : (levelsN sz).length = sz.length := List.length_map _
/-- nothing is ahead of itself, no two are ahead of one another -/
def NoSelf (T : Tb) : Prop := ∀ i, i < T.length → gt T i i = false
def NoMut (T : Tb) : Prop := ∀ i j, i < T.length → j < T.length → gt T i j = true → gt T j i = false
/-- the first that is ahead of one, not of the other -/
def faL (T : Tb) (i j : Nat) : List Nat := (colOf T i).filter fun t => !gt T t j
def faT (T : Tb) (i j : Nat) : Nat := (faL T i j).getD 0 0
def FaEx (T : Tb) (i j : Nat) : Prop := ∃ t, t < T.length ∧ gt T t i = true ∧ gt T t j = false
theorem fa_head {T : Tb} {i j : Nat} (h : FaEx T i j) : (faL T i j)[0]? = some (faT T i j) ∧ faT T i j < T.length ∧ gt T (faT T i j) i = true ∧ gt T (faT T i j) j = false := by
  obtain ⟨t, h1, h2, h3⟩ := h
  have hm : t ∈ faL T i j := by
    unfold faL
    rw [List.mem_filter, mem_colOf]
    exact ⟨⟨h1, h2⟩, by rw [h3]; rfl⟩
  have hp := List.length_pos_of_mem hm
  have e0 : (faL T i j)[0]? = some (faT T i j) := by
    unfold faT
    rw [List.getD_eq_getElem?_getD, List.getElem?_eq_getElem hp]; rfl
  have hm2 := List.mem_of_getElem? e0
  unfold faL at hm2
  rw [List.mem_filter, mem_colOf] at hm2
  exact ⟨e0, hm2.1.1, hm2.1.2, by simpa using hm2.2⟩
theorem fa_ex1 {T : Tb} {i j : Nat} (hs : NoSelf T) (hi : i < T.length) (h : gt T i j = true) (hz : szT T j ≤ szT T i) : FaEx T i j := by
  refine Classical.byContradiction fun hn => ?_
  have sub : ∀ t, t < T.length → gt T t i = true → gt T t j = true := fun t h1 h2 => by
    cases e : gt T t j with
    | true => rfl
    | false => exact absurd ⟨t, h1, h2, e⟩ hn
  have hnd : (colOf T i ++ [i]).Nodup := by
    rw [List.nodup_append]
    refine ⟨colOf_nodup T i, by simp, fun a ha b hb => ?_⟩
    rw [List.mem_singleton.mp hb]
    intro z
    rw [z] at ha
    have := (mem_colOf.mp ha).2
    rw [hs i hi] at this
    cases this
  have z := nodup_leA hnd (ns := colOf T j) fun k hk => by
    rcases List.mem_append.mp hk with hk | hk
    · have := mem_colOf.mp hk
      exact mem_colOf.mpr ⟨this.1, sub k this.1 this.2⟩
    · rw [List.mem_singleton.mp hk]
      exact mem_colOf.mpr ⟨hi, h⟩
  rw [List.length_append, List.length_singleton] at z
  unfold szT at hz
  omega
theorem fa_ex2 {T : Tb} {i j : Nat} (hz : szT T i < szT T j) : FaEx T j i := by
  refine Classical.byContradiction fun hn => ?_
  have z := nodup_leA (colOf_nodup T j) (ns := colOf T i) fun k hk => by
    have h1 := mem_colOf.mp hk
    refine mem_colOf.mpr ⟨h1.1, ?_⟩
    cases e : gt T k i with
    | true => rfl
    | false => exact absurd ⟨k, h1.1, h1.2, e⟩ hn
  unfold szT at hz
  omega
theorem inT_of {T : Tb} {i : Nat} (h : i < T.length) : inT T (i : Nat) = true := by
  unfold inT
  rw [decide_eq_true (by omega), decide_eq_true (by omega)]; rfl
theorem three_of {T : Tb} {i j k : Nat} (hi : i < T.length) (hj : j < T.length) (hk : k < T.length) (h1 : i ≠ j) (h2 : i ≠ k) (h3 : j ≠ k) : threeT T (i : Nat) (j : Nat) (k : Nat) = true := by
  unfold threeT
  rw [inT_of hi, inT_of hj, inT_of hk, decide_eq_false (show ¬ ((i : Nat) : Int) = (j : Nat) by omega), decide_eq_false (show ¬ ((i : Nat) : Int) = (k : Nat) by omega), decide_eq_false (show ¬ ((j : Nat) : Int) = (k : Nat) by omega)]; rfl
theorem beside_of {T : Tb} {i j : Nat} (hs : NoSelf T) (hi : i < T.length) (hj : j < T.length) (hij : i ≠ j) (hb : gt T j i = false) (h : FaEx T i j) : shown (.beside (faT T i j : Nat) (i : Nat) (j : Nat)) T = true := by
  obtain ⟨_, h1, h2, h3⟩ := fa_head h
  have n1 : faT T i j ≠ i := fun z => by rw [z, hs i hi] at h2; cases h2
  have n2 : faT T i j ≠ j := fun z => by rw [z, hb] at h2; cases h2
  simp only [shown, gi_nat]
  rw [three_of h1 hi hj n1 n2 hij, h2, h3, hb]; rfl
theorem ranks_of {T : Tb} (hr : Rect T T.length) (h : ∀ i j, i < T.length → j < T.length → gt T i j = decide (szT T i < szT T j)) : shown (.ranks (intsOf (levelsN (sizesT T)))) T = true := by
  show ranksOk _ _ = true
  have hl : (intsOf (levelsN (sizesT T))).length = T.length := by rw [intsOf_len, levelsN_len, sizesT_len]
  refine ranks_good hl fun i row m h1 h2 => ?_
  have hi : i < T.length := (List.getElem?_eq_some_iff.mp h1).1
  have hlen : row.length = T.length := hr row (List.mem_of_getElem? h1)
  have em : m = (lev (sizesT T) (szT T i) : Nat) := by
    unfold intsOf levelsN at h2
    rw [List.getElem?_map, List.getElem?_map, sizesT_at hi] at h2
    exact (Option.some.inj h2).symm
  rw [← row_ext hlen]
  unfold intsOf levelsN
  have e0 : sizesT T = (List.range T.length).map (szT T) := rfl
  rw [List.map_map, List.map_map]
  conv => lhs; arg 2; rw [e0]
  rw [List.map_map]
  refine List.map_congr_left fun j hj => ?_
  have hj' := List.mem_range.mp hj
  have eg : row.getD j false = gt T i j := by
    unfold gt
    rw [List.getD_eq_getElem?_getD (l := T), h1]; rfl
  show decide (m < ((lev (sizesT T) (szT T j) : Nat) : Int)) = row.getD j false
  rw [eg, h i j hi hj', em]
  have := lev_iff (sz := sizesT T) (t := szT T j) (szT_mem hi)
  exact decide_eq_decide.mpr ⟨fun z => this.mp (by omega), fun z => by have := this.mpr z; omega⟩
theorem noMut_of {T : Tb} (hs : NoSelf T) (h : ∀ i j, i < T.length → j < i → ¬ (gt T i j = true ∧ gt T j i = true)) : NoMut T := fun i j hi hj hg => by
  cases e : gt T j i with
  | false => rfl
  | true =>
    by_cases h1 : j < i
    · exact absurd ⟨hg, e⟩ (h i j hi h1)
    · by_cases h2 : i = j
      · rw [h2, hs j hj] at hg; cases hg
      · exact absurd ⟨e, hg⟩ (h j i hj (by omega))
end WA

namespace WA
open PySem PySem.Spec PyProof.Rows L2 Evl
/-! ### an answer that is good, or None -/
def EvOpt (K : PySem.W.Frag) (te : TE) (σ : L2.St) (H : Hp) (good : Ans → Prop) (nn : Prop) : Prop := ∀ H1, Ex H H1 → ∀ Q : VK,
  (∀ ans x H2, good ans → H1 x = none → Ex H1 H2 → AnsAt K H1 H2 x ans → Q (.ref x) H2) → (nn → ∀ H2, Ex H1 H2 → Q .non H2) → te σ H1 Q
def spOpt (K : PySem.W.Frag) (pre : List V → Hp → Tb → Prop) (good : Tb → Ans → Prop) (nn : Tb → Prop) : Sp := fun vs H Q _ => ∃ T, pre vs H T ∧
  (∀ ans x H2, good T ans → H x = none → Ex H H2 → AnsAt K H H2 x ans → Q (.ref x) H2) ∧ (nn T → ∀ H2, Ex H H2 → Q .non H2)
/-- a square table of fewer than 64 rows -/
def preSq (K : PySem.W.Frag) (vs : List V) (H : Hp) (T : Tb) : Prop := ∃ a, vs = [.ref a] ∧ At K H a T T.length ∧ T.length < 64
section
variable {K : PySem.W.Frag} {σ : L2.St} {H H' H0 : Hp} {ta tb te tx : TE} {t u : TT} {x y z v : V} {D : Ends} {tu tw tz : TS} {g : TG} {xs ys : List V} {ts : TA} {good : Ans → Prop} {nn : Prop}
theorem eopt_call {pre : List V → Hp → Tb → Prop} {good : Tb → Ans → Prop} {nn : Tb → Prop} {E : XK} {T : Tb} {vs : List V} (h : EvA ts σ H vs) (hp : ∀ H1, Ex H H1 → pre vs H1 T) : EvOpt K (tCall (spOpt K pre good nn) [] E ts) σ H (good T) (nn T) := fun H1 e Q q1 q2 =>
  h H1 e _ fun H2 e2 => by
    rw [List.append_nil]
    exact ⟨T, hp H2 (e.trans e2), fun ans x H3 hg hx e3 hA => q1 ans x H3 hg (fresh_back e2 hx) (e2.trans e3) (hA.back e2), fun n H3 e3 => q2 n H3 (e2.trans e3)⟩
theorem q_asgOpt {i : Nat} (h : EvOpt K te σ H good nn) (k1 : ∀ ans x H1, good ans → H x = none → Ex H H1 → AnsAt K H H1 x ans → tz D (σ.set i (some (.ref x))) H1) (k2 : nn → ∀ H1, Ex H H1 → tz D (σ.set i (some .non)) H1) : tSeq (tAsg te (gName i)) tz D σ H :=
  h H (Ex.refl H) _ (fun ans x H1 hg hx e1 hA => k1 ans x H1 hg hx e1 hA) fun n H1 e1 => k2 n H1 e1
theorem s_asgOpt {i : Nat} (h : EvOpt K te σ H good nn) (k1 : ∀ ans x H1, good ans → H x = none → Ex H H1 → AnsAt K H H1 x ans → D.nx (σ.set i (some (.ref x))) H1) (k2 : nn → ∀ H1, Ex H H1 → D.nx (σ.set i (some .non)) H1) : tAsg te (gName i) D σ H :=
  h H (Ex.refl H) _ (fun ans x H1 hg hx e1 hA => k1 ans x H1 hg hx e1 hA) fun n H1 e1 => k2 n H1 e1
theorem q_asgLP {i : Nat} {P : List V → Prop} (h : EvLP te σ H P) (k : ∀ xs p H1, P xs → H p = none → Ex H H1 → H1 p = some (.lst xs) → tz D (σ.set i (some (.ref p))) H1) : tSeq (tAsg te (gName i)) tz D σ H :=
  h H (Ex.refl H) _ fun xs p H1 px hp e1 h1 => k xs p H1 px hp e1 h1
theorem et_isNone {a : Addr} (h : Ev te σ H (.ref a)) : EvT (tTest (tOp rIsN te (tC .non))) σ H false := et_test (ev_is (ev_op h ev_c rv_isN) (by simp))
theorem et_isNone' (h : Ev te σ H .non) : EvT (tTest (tOp rIsN te (tC .non))) σ H true := et_test (ev_is (ev_op h ev_c rv_isN) (by simp))
theorem et_notNone {a : Addr} (h : Ev te σ H (.ref a)) : EvT (tTest (tOp rNotN te (tC .non))) σ H true := et_test (ev_is (ev_op h ev_c rv_notN) (by simp))
theorem et_notNone' (h : Ev te σ H .non) : EvT (tTest (tOp rNotN te (tC .non))) σ H false := et_test (ev_is (ev_op h ev_c rv_notN) (by simp))
/-- xs.index(s) -/
theorem ev_index {ks : List Int} {s : Int} {j : Nat} (ha : EvS K ta σ H (ks.map V.int)) (hb : Ev tb σ H (.int s)) (hj : ks[j]? = some s) (hm : ∀ (m : Nat) z, m < j → ks[m]? = some z → z ≠ s) : Ev (tBM K "list" (rIndex K) ta (tCons tb tNil)) σ H (.int (j : Nat)) := fun H1 e Q q =>
  ha H1 e _ fun p H2 e2 hp => ⟨.inl ⟨rfl, _, hp⟩, hb H2 (e.trans e2) _ fun H3 e3 => ⟨p, ks.map V.int, .int s, j, .int s, rfl, rfl, ex_l e3 hp, rfl, by
    rw [List.all_eq_true]
    intro v hv
    obtain ⟨r, _, rfl⟩ := List.mem_map.mp hv
    rfl, by rw [List.getElem?_map, hj]; rfl, by show (s == s) = true; exact beq_self_eq_true s, fun m z' hml hz => by
      rw [List.getElem?_map] at hz
      obtain ⟨z, hz1, rfl⟩ := Option.map_eq_some_iff.mp hz
      show (z == s) = false
      exact beq_eq_false_iff_ne.mpr (hm m z hml hz1), q H3 (e2.trans e3)⟩⟩
theorem sizes_at {T : Tb} {a : Addr} {i : Nat} (h : EvS K ta σ H (nv (sizesT T))) (hb : Ev tb σ H (.int (i : Nat))) (hi : i < T.length) : Ev (tOp (rIxL K) ta tb) σ H (.int (szT T i : Nat)) :=
  ev_ixLS h hb (atI_nat (by unfold nv; rw [List.getElem?_map, sizesT_at hi]; rfl))
end
end WA

namespace WA
open PySem PySem.Spec PyProof.Rows L2 Evl
/-! ### zip of a text of signs and a list, either first -/
inductive Src
  | str (r : List Bool) (t : Tok) | lst (l : Addr)
def Src.val : Src → Value
  | .str r t => .str (rs r) t
  | .lst l => .ref l
def Src.obj : Src → Obj
  | .str r t => { cls := .type "str_ascii_iterator", data := .fields #[.str (rs r) t, .int 0 0] }
  | .lst l => { cls := .type "list_iterator", data := .fields #[.ref l, .int 0 0] }
def Src.ok (h : Heap) : Src → Prop
  | .str _ _ => True
  | .lst l => ∃ its, h.IsList l its
def Src.st (it : Addr) (i : Nat) (h : Heap) : Src → Prop
  | .str r t => h.IsStrIter it "str_ascii_iterator" (rs r) t i
  | .lst l => h.IsListIter it l i
def Src.lt (n : Nat) : Src → Prop
  | .str _ _ => True
  | .lst l => l < n
def sgs (r : List Bool) : List V := r.map fun b => V.str (s1 b)
def SrcAt (K : PySem.W.Frag) (H : Hp) (xs : List V) : Src → Prop
  | .str r _ => xs = sgs r
  | .lst l => SqL K H l xs
theorem ascii_rs (r : List Bool) : (rs r).cps.all (· < 128) = true := by
  rw [← Array.all_toList, rs_tl, List.all_eq_true]
  intro c hc
  obtain ⟨b, _, rfl⟩ := List.mem_map.mp hc
  cases b <;> decide
theorem Src.push {h : Heap} {o : Obj} {a : Src} (ok : a.ok h) : a.ok (h.push o) := by
  cases a with
  | str r t => trivial
  | lst l => exact let ⟨its, h⟩ := ok; ⟨its, Heap.IsList.push h _⟩
section
variable {w : World} {prog : Program} {s : Shared} {A : Around} {E : Value → Shared → Prop}
theorem pyIter_src {a : Src} {Q : Value → Shared → Prop} (ok : a.ok s.heap) (hQ : Q (.ref s.heap.objs.size) { s with heap := s.heap.push a.obj }) : wpAny (model prog w) A (pyIter a.val) Q E s := by
  cases a with
  | str r t => exact wpAny_pyIter_ascii (ascii_rs r) hQ
  | lst l =>
    obtain ⟨its, hl⟩ := ok
    exact wpAny_pyIter_list hl hQ
abbrev zH1 (h : Heap) (a : Src) : Heap := h.push a.obj
abbrev zH2 (h : Heap) (a b : Src) : Heap := (zH1 h a).push b.obj
abbrev zH3 (h : Heap) (a b : Src) : Heap := (zH2 h a b).push { cls := .type "tuple", data := .seq #[.ref h.objs.size, .ref (zH1 h a).objs.size] }
abbrev zH4 (h : Heap) (a b : Src) : Heap := (zH3 h a b).push { cls := .type "tuple", data := .seq #[.none, .none] }
abbrev zH5 (h : Heap) (a b : Src) : Heap := (zH4 h a b).push { cls := .type "zip", data := .fields #[.none, .bool false, .bool false, .ref (zH2 h a b).objs.size, .ref (zH3 h a b).objs.size] }
theorem meets_zip_src (a b : Src) : Meets (Builtin.«zip.__new__» ⟨[.type "zip", a.val, b.val], []⟩) (fun _ R s => a.ok s.heap ∧ b.ok s.heap ∧ R (.ok (.ret (.ref (zH4 s.heap a b).objs.size))) { s with heap := zH5 s.heap a b }) :=
  .of_wp fun P W B R t ⟨ok1, ok2, h⟩ => by
    cases t with
    | mk hp gs dr tk os =>
      have hsub := sub_zip
      have one : a.ok (Shared.heap ⟨hp, gs, dr, tk, os⟩) := ok1
      have two : b.ok (Shared.heap ⟨hp.push a.obj, gs, dr, tk, os⟩) := Src.push ok2
      wp_walk using pyIter_src one, pyIter_src two
      exact ⟨_, rfl, h⟩
/-- a zip at n + 4 that has taken i items of the iterators at n and n + 1 -/
structure ZSt (a b : Src) (n i : Nat) (h : Heap) : Prop where
  zip : IsZip h (n + 4) (n + 2) (n + 3) .none
  its : IsTupOf2 h (n + 2) (.ref n) (.ref (n + 1))
  last : ∃ x y, IsTupOf2 h (n + 3) x y
  fst : a.st n i h
  snd : b.st (n + 1) i h
theorem call_zip_src {a b : Src} {Q : Value → Shared → Prop} (ha : a.ok s.heap) (hb : b.ok s.heap)
    (h : ∀ h', ZSt a b s.heap.objs.size 0 h' → (∀ c o, s.heap.get? c = some o → h'.get? c = some o) → Q (.ref (s.heap.objs.size + 4)) { s with heap := h' }) : wpAny (model prog w) A (call (.type "zip") [a.val, b.val]) Q E s := by
  refine callType_new F.called_zip (by decide) (F.typeCall_zip_2 _ _) (F.newCall_zip_2 _ _) (fun obj => F.args_object_init_3 obj _ _) F.entry_zip_new (meets_zip_src a b) ⟨ha, hb, ?_⟩
  have z1 : (zH1 s.heap a).objs.size = s.heap.objs.size + 1 := Heap.size_push ..
  have z2 : (zH2 s.heap a b).objs.size = s.heap.objs.size + 2 := by rw [Heap.size_push, z1]
  have z3 : (zH3 s.heap a b).objs.size = s.heap.objs.size + 3 := by rw [Heap.size_push, z2]
  have z4 : (zH4 s.heap a b).objs.size = s.heap.objs.size + 4 := by rw [Heap.size_push, z3]
  have g5 : (zH5 s.heap a b).get? (zH4 s.heap a b).objs.size = some _ := Heap.get?_push_size _ rfl
  have g4 : (zH5 s.heap a b).get? (zH3 s.heap a b).objs.size = some _ := Heap.get?_push_of_some _ (Heap.get?_push_size _ rfl)
  have g3 : (zH5 s.heap a b).get? (zH2 s.heap a b).objs.size = some _ := Heap.get?_push_of_some _ (Heap.get?_push_of_some _ (Heap.get?_push_size _ rfl))
  have hsz1 : a.obj.slots.size = 0 ∨ True := .inr trivial
  have o1 : ∀ (h : Heap) (c : Src), (h.push c.obj).get? h.objs.size = some c.obj := fun h c => Heap.get?_push_size _ (by cases c <;> rfl)
  have g2 : (zH5 s.heap a b).get? (zH1 s.heap a).objs.size = some b.obj := Heap.get?_push_of_some _ (Heap.get?_push_of_some _ (Heap.get?_push_of_some _ (o1 _ _)))
  have g1 : (zH5 s.heap a b).get? s.heap.objs.size = some a.obj := Heap.get?_push_of_some _ (Heap.get?_push_of_some _ (Heap.get?_push_of_some _ (Heap.get?_push_of_some _ (o1 _ _))))
  have stOf : ∀ (c : Src) (it : Addr) (h : Heap), h.get? it = some c.obj → c.st it 0 h := fun c it h e => by
    cases c with
    | str r t => exact ⟨_, e, rfl, rfl⟩
    | lst l => exact ⟨_, e, rfl, rfl⟩
  show _ ∧ _
  rw [z2, z3, z4] at g5
  rw [z1, z2] at g3
  rw [z3] at g4
  rw [z1] at g2
  rw [z4]
  have old : ∀ c o, s.heap.get? c = some o → (zH5 s.heap a b).get? c = some o := fun c o x => by
    have x1 := Heap.get?_push_of_some a.obj x
    have x2 := Heap.get?_push_of_some b.obj x1
    exact Heap.get?_push_of_some _ (Heap.get?_push_of_some _ (Heap.get?_push_of_some _ x2))
  exact ⟨⟨_, g5, rfl⟩, h _ ⟨g5, g3, ⟨_, _, g4⟩, stOf _ _ _ g1, stOf _ _ _ g2⟩ old⟩
end
/-- the items as they stand at each turn, in new pairs -/
def ItS (K : PySem.W.Frag) (a b : Src) : It :=
  ⟨fun i H => ∃ (xs ys : List V) (x y : V), SrcAt K H xs a ∧ SrcAt K H ys b ∧ xs[i]? = some x ∧ ys[i]? = some y,
    fun i H v H' => ∃ T x y, v = .ref T ∧ H T = none ∧ H' = upd H T (.tup [x, y]) ∧ (∀ xs, SrcAt K H xs a → xs[i]? = some x) ∧ ∀ ys, SrcAt K H ys b → ys[i]? = some y,
    fun i H => ∃ xs ys : List V, SrcAt K H xs a ∧ SrcAt K H ys b ∧ i ≤ xs.length ∧ i ≤ ys.length ∧ (i = xs.length ∨ i = ys.length)⟩
def Src.fp (it : Addr) : Src → List Addr
  | .str _ _ => [it]
  | .lst l => [it, l]
theorem draws_src {X : Cx} {pins : List (Addr × Obj)} {σ : L2.St} {H : Hp} {s : Shared} (I : Inv X pins σ H s) (hc : X.calm = true) {a : Src} {xs : List V} (hx : SrcAt X.K H xs a) {it n : Addr} (hn : n ≤ it) (hl : a.lt n) :
    ∃ (P : Nat → Value → Prop) (St : Nat → Heap → Prop), Draws X.prog X.w X.A.in1 it (a.fp it) xs.length P St ∧ (∀ i u, P i u → ∃ x, xs[i]? = some x ∧ RelV x u) ∧ (∀ i, a.st it i s.heap → St i s.heap) ∧ (∀ i h, St i h → a.st it i h) := by
  have hh : X.A.in1.handled = none := by have := I.ok.hd hc; simp [this]
  cases a with
  | str r t =>
    have e : xs = sgs r := hx
    subst e
    have hz : (rs r).cps.size = (sgs r).length := by simp [rs, sgs]
    refine ⟨_, _, hz ▸ Draws.strAscii hh it (rs r) t, fun i u hu => ?_, fun i h => h, fun i h st => st⟩
    obtain ⟨c, u', hcx, rfl⟩ := hu
    have hcx2 : (r.map sg)[i]? = some c := by
      have : (rs r).cps.toList[i]? = some c := by rw [Array.getElem?_toList]; exact hcx
      rwa [rs_tl] at this
    rw [List.getElem?_map] at hcx2
    obtain ⟨b, hb, rfl⟩ := Option.map_eq_some_iff.mp hcx2
    exact ⟨V.str (s1 b), by unfold sgs; rw [List.getElem?_map, hb]; rfl, ⟨u', rfl⟩⟩
  | lst l =>
    have hx : SqL X.K H l xs := hx
    obtain ⟨its, rv, p, _⟩ := I.list hx
    have hz : its.toArray.size = xs.length := by rw [List.size_toArray, ← rv.length]
    refine ⟨_, _, hz ▸ Draws.list hh it l (fun z => by have : l < n := hl; rw [z] at this; exact absurd this (Nat.not_lt.mpr hn)) its.toArray, fun i u hu => ?_, fun i h => ⟨h, p.isList⟩, fun i h st => st.1⟩
    have hu : its.toArray[i]? = some u := hu
    have hlt : i < xs.length := hz ▸ (Array.getElem?_eq_some_iff.mp hu).1
    obtain ⟨u', hu', ru⟩ := rv.get (List.getElem?_eq_getElem hlt)
    have : its[i]? = some u := by simpa using hu
    rw [hu'] at this
    cases this
    exact ⟨_, List.getElem?_eq_getElem hlt, ru⟩
theorem src_inj {X : Cx} {pins : List (Addr × Obj)} {σ : L2.St} {H : Hp} {s : Shared} (I : Inv X pins σ H s) {a : Src} {xs ys : List V} (h : SrcAt X.K H xs a) (g : SrcAt X.K H ys a) : xs = ys := by
  cases a with
  | str r t => exact (show xs = sgs r from h).trans (show ys = sgs r from g).symm
  | lst l => exact I.list_inj h g
theorem sep_src {n : Nat} {a b : Src} (ha : a.lt n) (hb : b.lt n) : ZipSep2 (n + 4) (n + 2) (n + 3) n (n + 1) (a.fp n) (b.fp (n + 1)) := by
  have key : ∀ (c : Src) (it k : Nat), c.lt n → n < k → k ≠ it → k ∉ c.fp it := fun c it k hc hk hne hm => by
    cases c with
    | str r t => exact hne (List.mem_singleton.mp hm)
    | lst l =>
      have hc : l < n := hc
      rcases List.mem_cons.mp hm with z | z
      · exact hne z
      · have e : k = l := List.mem_singleton.mp z
        rw [e] at hk
        exact Nat.lt_asymm hk hc
  have mem : ∀ (c : Src) (it : Nat), it ∈ c.fp it := fun c it => by cases c <;> exact List.mem_cons_self ..
  have n1 : n ∉ b.fp (n + 1) := fun hm => by
    cases b with
    | str r t => have := List.mem_singleton.mp hm; omega
    | lst l =>
      have hc : l < n := hb
      rcases List.mem_cons.mp hm with z | z
      · exact Nat.ne_of_lt (Nat.lt_succ_self n) z
      · have e : n = l := List.mem_singleton.mp z
        rw [← e] at hc
        exact Nat.lt_irrefl _ hc
  exact ⟨Nat.ne_of_lt (by omega), Nat.ne_of_lt (by omega), Nat.ne_of_lt (by omega), Nat.ne_of_gt (by omega), mem _ _, key a n _ ha (by omega) (Nat.ne_of_gt (by omega)), key a n _ ha (by omega) (Nat.ne_of_gt (by omega)),
    Nat.ne_of_gt (by omega), mem _ _, key b _ _ hb (by omega) (Nat.ne_of_gt (by omega)), key b _ _ hb (by omega) (Nat.ne_of_gt (by omega)), n1, key a n _ ha (by omega) (Nat.ne_of_gt (by omega))⟩
theorem st_obj {a : Src} {it i : Nat} {h : Heap} (st : a.st it i h) : ∃ o, h.get? it = some o ∧ ∀ v, o.data ≠ .cell v := by
  cases a with
  | str r t => obtain ⟨o, e, _, d⟩ := st; exact ⟨o, e, fun v z => by rw [d] at z; cases z⟩
  | lst l => obtain ⟨o, e, _, d⟩ := st; exact ⟨o, e, fun v z => by rw [d] at z; cases z⟩
theorem st_at {a : Src} {it i : Nat} {h h' : Heap} (st : a.st it i h) (k : ∀ o, h.get? it = some o → h'.get? it = some o) : a.st it i h' := by
  cases a with
  | str r t => obtain ⟨o, e, r⟩ := st; exact ⟨o, k o e, r⟩
  | lst l => exact Heap.IsListIter.at st k
/-- where a zip at n + 4 stands -/
abbrev zFp (n : Nat) : List Addr := [n + 4, n + 2, n + 3, n, n + 1]
theorem zFp_le {n c : Nat} (h : c ∈ zFp n) : n ≤ c ∧ c ≤ n + 4 := by
  simp only [List.mem_cons, List.not_mem_nil, or_false] at h
  omega
theorem zFp_out {n c : Nat} (h : c ∉ zFp n) : c ≠ n + 4 ∧ c ≠ n + 2 ∧ c ≠ n + 3 ∧ c ≠ n ∧ c ≠ n + 1 := by
  simp only [List.mem_cons, List.not_mem_nil, or_false, not_or] at h
  exact h
theorem ZSt.get {a b : Src} {n i c : Nat} {h : Heap} (z : ZSt a b n i h) (hc : c ∈ zFp n) : ∃ o, h.get? c = some o ∧ ∀ v, o.data ≠ .cell v := by
  obtain ⟨x, y, l⟩ := z.last
  cases hc with
  | head => exact ⟨_, z.zip, nofun⟩
  | tail _ hc => cases hc with
    | head => exact ⟨_, z.its, nofun⟩
    | tail _ hc => cases hc with
      | head => exact ⟨_, l, nofun⟩
      | tail _ hc => cases hc with
        | head => exact st_obj z.fst
        | tail _ hc => exact List.mem_singleton.mp hc ▸ st_obj z.snd
theorem ZSt.keep {a b : Src} {n i : Nat} {h h' : Heap} (z : ZSt a b n i h) (k : ∀ c ∈ zFp n, ∀ o, h.get? c = some o → h'.get? c = some o) : ZSt a b n i h' where
  zip := k _ (by simp) _ z.zip
  its := k _ (by simp) _ z.its
  last := let ⟨x, y, l⟩ := z.last; ⟨x, y, k _ (by simp) _ l⟩
  fst := st_at z.fst fun o q => k _ (by simp) o q
  snd := st_at z.snd fun o q => k _ (by simp) o q
/-- a turn: a pair of the two items is laid -/
theorem zip_item {a b : Src} {n : Nat} (ha : a.lt n) (hb : b.lt n) {elts : List Expr} {kk : Nat} {tpos : Pos} {X : Cx} (hc : X.calm = true) {i : Nat} {pins : List (Addr × Obj)} {s : Shared} {σ : L2.St} {H : Hp} {E : Value → Shared → Prop} (I : Inv X pins σ H s)
    (hf : ∀ c ∈ zFp n, FpOk X pins H c) (z : ZSt a b n i s.heap) {xs ys : List V} {x y : V} (qx : SrcAt X.K H xs a) (qy : SrcAt X.K H ys b) (hx : xs[i]? = some x) (hy : ys[i]? = some y) :
    wpAny (model X.prog X.w) X.A (pyNext (.ref (n + 4))) (fun r s1 => ∃ u, r = some u ∧ wpAny (model X.prog X.w) X.A (letOwnedTupleGo (.Tuple elts kk tpos) (.ref (n + 4)) u) (fun _ s2 => ∃ T, u = .ref T ∧ H T = none ∧ (∀ c ∈ zFp n, c ≠ T) ∧ Inv X pins σ (upd H T (.tup [x, y])) s2 ∧ ZSt a b n (i + 1) s2.heap) E s1) E s := by
  obtain ⟨P1, St1, D1, items1, in1, out1⟩ := draws_src I hc qx (it := n) (n := n) (Nat.le_refl _) ha
  obtain ⟨P2, St2, D2, items2, in2, out2⟩ := draws_src I hc qy (it := n + 1) (n := n) (Nat.le_succ _) hb
  obtain ⟨x0, y0, last⟩ := z.last
  have top : n + 4 < s.heap.objs.size := Heap.lt_size z.zip
  have below : ∀ c ∈ zFp n, c ≠ s.heap.objs.size := fun c hcm => Nat.ne_of_lt (Nat.lt_of_le_of_lt (zFp_le hcm).2 top)
  refine wpAny_pyNext_zipD2_item (sep_src ha hb) D1 D2 z.zip z.its last (in1 i z.fst) (in2 i z.snd) (List.getElem?_eq_some_iff.mp hx).1 (List.getElem?_eq_some_iff.mp hy).1 fun u1 u2 h1 tk p1 p2 zip1 last1 st1 st2 laid _ rest => ?_
  obtain ⟨_, ex, r1⟩ := items1 i u1 p1
  obtain ⟨_, ey, r2⟩ := items2 i u2 p2
  cases Option.some.inj (ex.symm.trans hx)
  cases Option.some.inj (ey.symm.trans hy)
  refine ⟨_, rfl, wpAny_letOwnedTupleGo_zip (s := { s with heap := h1, toks := tk }) zip1 fun h2 zip2 same => ?_⟩
  have keep2 : ∀ c, c ≠ n + 4 → ∀ o, h1.get? c = some o → h2.get? c = some o := fun c hne o q => (same.2 c hne).trans q
  have ok : ObjOk X.prog X.w (upd H s.heap.objs.size (.tup [x, y])) h2 s.heap.objs.size (.tup [x, y]) := by
    refine ⟨show 2 ≤ sizeLine by decide, [u1, u2], .cons r1 (.cons r2 .nil), _, keep2 _ (Nat.ne_of_gt top) _ laid, rfl, _, rfl⟩
  have far : ∀ c o, c ∉ zFp n → s.heap.get? c = some o → h2.get? c = some o := fun c o hcm q => by
    obtain ⟨c1, _, c3, c4, c5⟩ := zFp_out hcm
    exact keep2 c c1 o (rest c o c1 c3 c4 c5 q)
  have pair : h1.get? (n + 2) = some _ := rest (n + 2) _ (Nat.ne_of_lt (by omega)) (Nat.ne_of_lt (by omega)) (Nat.ne_of_gt (by omega)) (Nat.ne_of_gt (by omega)) z.its
  exact ⟨_, rfl, I.hok.fresh (Nat.le_refl _), below, I.turnedNew (t' := tk) (ch := zFp n) far hf (Nat.le_refl _) ok,
    ⟨zip2, keep2 _ (Nat.ne_of_lt (by omega)) _ pair, ⟨_, _, keep2 _ (Nat.ne_of_lt (by omega)) _ last1⟩, st_at (out1 _ _ st1) (keep2 _ (Nat.ne_of_lt (by omega))), st_at (out2 _ _ st2) (keep2 _ (Nat.ne_of_lt (by omega)))⟩⟩
theorem turn_src {P : Program} {w : World} {K : PySem.W.Frag} {elts : List Expr} {kk : Nat} {tpos : Pos} {a b : Src} {n : Nat} (ha : a.lt n) (hb : b.lt n) : Turn P w K (.Tuple elts kk tpos) (ItS K a b) (zFp n) (n + 4) (ZSt a b n) where
  mem := by simp
  obj := fun _ _ z c hc => z.get hc
  keep := fun _ _ _ z k => z.keep k
  item := fun X e1 e2 e3 hc i pins s σ H E I hf z ⟨xs, ys, x, y, qx, qy, hx, hy⟩ => by
    subst e1 e2 e3
    refine wpAny_mono (zip_item ha hb (elts := elts) (kk := kk) (tpos := tpos) hc I hf z qx qy hx hy) (fun r s1 ⟨u, e, q⟩ => ⟨u, e, wpAny_mono q (fun _ s2 ⟨T, eu, free, far, J, z2⟩ => ?_) fun _ _ q => q⟩) fun _ _ q => q
    exact ⟨.ref T, _, J, eu, ⟨T, x, y, rfl, free, rfl, fun l hl => src_inj I qx hl ▸ hx, fun l hl => src_inj I qy hl ▸ hy⟩, z2, fun c hcm => (upd_ne (far c hcm)).trans (hf c hcm).1⟩
  done := fun X e1 e2 e3 hc i pins s σ H E I hf z ⟨xs, ys, qx, qy, le1, le2, fin⟩ => by
    subst e1 e2 e3
    obtain ⟨P1, St1, D1, _, in1, _⟩ := draws_src I hc qx (it := n) (n := n) (Nat.le_refl _) ha
    obtain ⟨P2, St2, D2, _, in2, _⟩ := draws_src I hc qy (it := n + 1) (n := n) (Nat.le_succ _) hb
    obtain ⟨x0, y0, last⟩ := z.last
    refine wpAny_pyNext_zipD2_end (sep_src ha hb) D1 D2 z.zip z.its last (in1 i z.fst) (in2 i z.snd) le1 le2 fin fun h1 tk rest => ⟨rfl, I.turnedL (t' := tk) (ch := zFp n) (fun c o hcm q => ?_) hf⟩
    obtain ⟨c1, _, c3, c4, c5⟩ := zFp_out hcm
    exact rest c o c1 c3 c4 c5 q
  self := fun _ _ _ _ _ z q => wpAny_pyIter_zip z.zip q
/-- the sources of two values -/
def SrcV (K : PySem.W.Frag) (H : Hp) (v : V) (a : Src) : Prop := (∃ r t, v = .str (rs r) ∧ a = .str r t) ∨ ∃ l xs, v = .ref l ∧ a = .lst l ∧ SqL K H l xs
def iZipS (K : PySem.W.Frag) (ta : TA) : TI := fun σ H R => ta σ H fun vs H1 => ∃ v1 v2, vs = [v1, v2] ∧ (∀ a b : Src, SrcV K H1 v1 a → SrcV K H1 v2 b → R (ItS K a b) H1) ∧ ((∃ r, v1 = .str (rs r)) ∨ ∃ l xs, v1 = .ref l ∧ SqL K H1 l xs) ∧ ((∃ r, v2 = .str (rs r)) ∨ ∃ l xs, v2 = .ref l ∧ SqL K H1 l xs)
theorem src_of {X : Cx} {pins : List (Addr × Obj)} {σ : L2.St} {H : Hp} {s : Shared} (I : Inv X pins σ H s) {v : V} {u : Value} (r : RelV v u) (h : (∃ r, v = .str (rs r)) ∨ ∃ l xs, v = .ref l ∧ SqL X.K H l xs) :
    ∃ a : Src, u = a.val ∧ SrcV X.K H v a ∧ a.ok s.heap ∧ a.lt s.heap.objs.size := by
  rcases h with ⟨q, rfl⟩ | ⟨l, xs, rfl, hl⟩
  · obtain ⟨t, rfl⟩ := r
    exact ⟨.str q t, rfl, .inl ⟨q, t, rfl, rfl⟩, trivial, trivial⟩
  · cases r
    obtain ⟨its, rv, p, _⟩ := I.list hl
    exact ⟨.lst l, rfl, .inr ⟨l, xs, rfl, rfl, hl⟩, ⟨_, p.isList⟩, p.lt⟩
theorem pi_zipS {X : Cx} {e e2 : Expr} {ta : TA} {p pos tpos : Pos} {elts : List Expr} {kk : Nat} (hg : Gl X "zip") (hm : X.mg "zip" = none) (ha : PA X [e, e2] ta) (hs : starEach [e, e2] X.env = (false, eval e X.env) :: starEach [e2] X.env := by rfl)
    (hpl : (backTo pos (starEach [e2] X.env)).any (·.1) = false := by rfl) : PI X (.Tuple elts kk tpos) (.Call (.Name "zip" p) [e, e2] [] pos) (iZipS X.K ta) where
  run := fun pins s σ H R I h => by
    refine Call_ (ld_blt I hg hm PyProof.Rows.boot_zip (PyProof.Rows.callWith_type1 (thn (ha.run pos pins s σ H _ I h) ?_) hs hpl))
    rintro us s1 ⟨vs, H1, I1, r1, v1, v2, rfl, q, side1, side2⟩
    rcases r1 with _ | ⟨r, _ | ⟨r', ⟨⟩⟩⟩
    next =>
      obtain ⟨a, rfl, va, oa, la⟩ := src_of I1 r side1
      obtain ⟨b, rfl, vb, ob, lb⟩ := src_of I1 r' side2
      refine call_zip_src oa ob fun h' z old => wpAny_pyIter_zip z.zip ?_
      exact ⟨s1.heap.objs.size + 4, zFp s1.heap.objs.size, _, _, H1, rfl, I1.kept (t' := s1.toks) old, turn_src la lb, z, fun c hcm => I1.fpOk (zFp_le hcm).1 (I1.hok.fresh (zFp_le hcm).1), q a b va vb⟩
/-! ### comprehensions over it -/
def SrcOf (K : PySem.W.Frag) (H : Hp) (v : V) (xs : List V) : Prop := (∃ r, v = .str (rs r) ∧ xs = sgs r) ∨ ∃ l, v = .ref l ∧ SqL K H l xs
theorem SrcOf.mono {K : PySem.W.Frag} {H H' : Hp} {v : V} {xs : List V} (h : SrcOf K H v xs) (e : Ex H H') : SrcOf K H' v xs := by
  rcases h with ⟨r, h1, h2⟩ | ⟨l, h1, h2⟩
  · exact .inl ⟨r, h1, h2⟩
  · exact .inr ⟨l, h1, ex_l e h2⟩
theorem SrcOf.at {K : PySem.W.Frag} {H H' : Hp} {v : V} {xs : List V} {a : Src} (h : SrcOf K H v xs) (e : Ex H H') (g : SrcV K H v a) : SrcAt K H' xs a := by
  rcases h with ⟨r, rfl, h2⟩ | ⟨l, rfl, h2⟩
  · rcases g with ⟨r', t, e1, rfl⟩ | ⟨l', xs', e1, _⟩
    · have := rs_inj (V.str.inj e1)
      show xs = sgs r'
      rw [← this]; exact h2
    · cases e1
  · rcases g with ⟨r', t, e1, rfl⟩ | ⟨l', xs', e1, rfl, _⟩
    · cases e1
    · cases e1
      exact ex_l e h2
theorem SrcOf.side {K : PySem.W.Frag} {H : Hp} {v : V} {xs : List V} (h : SrcOf K H v xs) : (∃ r, v = .str (rs r)) ∨ ∃ l xs, v = .ref l ∧ SqL K H l xs := by
  rcases h with ⟨r, h1, _⟩ | ⟨l, h1, h2⟩
  · exact .inl ⟨r, h1⟩
  · exact .inr ⟨l, xs, h1, h2⟩
def EvSrc (K : PySem.W.Frag) (te : TE) (σ : L2.St) (H : Hp) (xs : List V) : Prop := ∀ H1, Ex H H1 → ∀ Q : VK, (∀ v H2, Ex H1 H2 → SrcOf K H2 v xs → Q v H2) → te σ H1 Q
section
variable {K : PySem.W.Frag} {σ : L2.St} {H H' : Hp} {ta tb te tl : TE} {tt : TT} {xs ys : List V} {vs : List Nat}
theorem esrc_l (h : EvS K te σ H xs) : EvSrc K te σ H xs := fun H1 e Q q => h H1 e Q fun p H2 e2 hp => q _ H2 e2 (.inr ⟨p, rfl, hp⟩)
theorem esrc_s {r : List Bool} (h : Ev te σ H (.str (rs r))) : EvSrc K te σ H (r.map fun b => V.str (s1 b)) := fun H1 e Q q => h H1 e Q fun H2 e2 => q _ H2 e2 (.inl ⟨r, rfl, rfl⟩)
theorem el_filtZS {α β : Type} {l : List α} {m : List β} {g : α → V} {g' : β → V} {f : α × β → V} {p : α × β → Bool} {i j : Nat} (h : EvSrc K ta σ H (l.map g)) (h' : EvSrc K tb σ H (m.map g')) (hz : l.length ≤ 40000) (hlm : l.length = m.length) (hw : ∀ x y, wipe (((wipe σ vs).set i (some x)).set j (some y)) vs = wipe σ vs)
    (ht : ∀ x y, (x, y) ∈ l.zip m → EvT tt (((wipe σ vs).set i (some (g x))).set j (some (g' y))) H (p (x, y))) (he : ∀ x y, (x, y) ∈ l.zip m → p (x, y) = true → Ev te (((wipe σ vs).set i (some (g x))).set j (some (g' y))) H (f (x, y))) :
    EvL (tLc (iZipS K (tCons ta (tCons tb tNil))) (gTup K 2 (gCons (gName i) (gCons (gName j) gNil))) tt te vs) σ H (fm p f (l.zip m)) := fun H0 e Q q =>
  h H0 e _ fun v1 H1 e1 hx => h' H1 (e.trans e1) _ fun v2 H2 e2 hy => ⟨v1, v2, rfl, fun a b va vb D hD => by
    have hx2 : ∀ H', Ex H2 H' → SrcAt K H' (l.map g) a := fun H' e3 => (hx.mono e2).at e3 va
    have hy2 : ∀ H', Ex H2 H' → SrcAt K H' (m.map g') b := fun H' e3 => hy.at e3 vb
    have hlen : (l.zip m).length = l.length := by rw [List.length_zip]; omega
    have e12 := e1.trans e2
    refine lc_it (J := ItS K a b) (n := l.length) (fun k H' => Lc H2 D (fm p f ((l.zip m).take k)) H') (fun H' pv => ⟨_, _, hx2 H' pv.2.1, hy2 H' pv.2.1, by rw [List.length_map]; omega, by rw [List.length_map]; omega, .inl (by rw [List.length_map])⟩)
      (fun k H' hk pv => ⟨_, _, g l[k], g' (m[k]'(by omega)), hx2 H' pv.2.1, hy2 H' pv.2.1, by rw [List.getElem?_map, List.getElem?_eq_getElem hk]; rfl, by rw [List.getElem?_map, List.getElem?_eq_getElem (show k < m.length by omega)]; rfl⟩) ⟨hD, Ex.new hD, upd_same⟩ (fun k x H' H'' hk pv hyl => ?_) (fun H' pv => ?_)
    · obtain ⟨T, x1, y1, rfl, hT, rfl, hf1, hf2⟩ := hyl
      have hk2 : k < m.length := by omega
      have hl : l[k]? = some l[k] := List.getElem?_eq_getElem hk
      have hm : m[k]? = some m[k] := List.getElem?_eq_getElem hk2
      have ex1 : x1 = g l[k] := by
        have z := hf1 _ (hx2 H' pv.2.1)
        rw [List.getElem?_map, hl] at z
        exact (Option.some.inj z).symm
      have ey1 : y1 = g' m[k] := by
        have z := hf2 _ (hy2 H' pv.2.1)
        rw [List.getElem?_map, hm] at z
        exact (Option.some.inj z).symm
      subst ex1 ey1
      have hz2 : (l.zip m)[k]? = some (l[k], m[k]) := by rw [List.getElem?_zip_eq_some]; exact ⟨hl, hm⟩
      have hmem := List.mem_of_getElem? hz2
      have nTD : D ≠ T := fun z => by rw [← z] at hT; rw [pv.2.2] at hT; cases hT
      have pv2 : Lc H2 D (fm p f ((l.zip m).take k)) (upd H' T (.tup [g l[k], g' m[k]])) := ⟨pv.1, pv.2.1.trans (Ex.new hT), by rw [upd_ne nTD]; exact pv.2.2⟩
      refine g_pair (st_of upd_same) ⟨hw _ _, lc_turn (acc' := []) pv2 (by have := fm_len p f (l.zip m) k; rw [hlen] at this; omega) ((ht _ _ hmem).mono (e.trans e12)) (fun hb => (he _ _ hmem hb).mono (e.trans e12)) fun H3 h3 => ?_⟩
      rw [fm_next hz2] at h3
      exact h3
    · have e3 : (l.zip m).take l.length = l.zip m := List.take_of_length_le (by rw [hlen]; exact Nat.le_refl _)
      rw [e3] at pv
      exact q D H' (fresh_back e12 pv.1) (e12.trans pv.2.1) pv.2.2, (hx.mono e2).side, hy.side⟩
theorem el_mapZS {α β : Type} {l : List α} {m : List β} {g : α → V} {g' : β → V} {f : α × β → V} {i j : Nat} (h : EvSrc K ta σ H (l.map g)) (h' : EvSrc K tb σ H (m.map g')) (hz : l.length ≤ 40000) (hlm : l.length = m.length) (hw : ∀ x y, wipe (((wipe σ vs).set i (some x)).set j (some y)) vs = wipe σ vs)
    (he : ∀ x y, (x, y) ∈ l.zip m → Ev te (((wipe σ vs).set i (some (g x))).set j (some (g' y))) H (f (x, y))) :
    EvL (tLc (iZipS K (tCons ta (tCons tb tNil))) (gTup K 2 (gCons (gName i) (gCons (gName j) gNil))) tYes te vs) σ H ((l.zip m).map f) := by
  rw [← fm_yes]
  exact el_filtZS h h' hz hlm hw (fun _ _ _ => et_yes) fun x y hx _ => he x y hx
end
/-- a row is not as told -/
theorem any_ne {r : List Bool} {ms : List Int} {p : Int → Bool} (h : r.length = ms.length) : ((r.zip ms).any fun x => !decide (x.1 = p x.2)) = !decide (ms.map p = r) := by
  induction r generalizing ms with
  | nil =>
    cases ms with
    | nil => rfl
    | cons m ms => cases h
  | cons b r ih =>
    cases ms with
    | nil => cases h
    | cons m ms =>
      have ih := ih (ms := ms) (by simpa using h)
      rw [List.zip_cons_cons, List.any_cons, ih, List.map_cons]
      by_cases h1 : b = p m
      · by_cases h2 : ms.map p = r
        · simp [h1, h2]
        · simp [h1, h2]
      · have h3 : ¬ p m = b := fun z => h1 z.symm
        simp [h1, h3]
end WA

namespace WA
open PySem PySem.Spec PyProof.Rows L2 Evl
/-! ### xs.count(True) -/
def rCountB (K : PySem.W.Frag) : V → List V → Hp → VK → Prop := fun x xs H Q => ∃ (p : Addr) (ys : List V) (k : V), x = .ref p ∧ xs = [k] ∧ SqL K H p ys ∧ flatV k = true ∧ ys.all flatV = true ∧ Q (.int (ys.countP (fun y => eqV y k) : Nat)) H
theorem countP_eqU {x : V} : ∀ {xs : List V} {us : List Value}, Vals xs us → xs.all flatV = true → us.countP (eqU x) = xs.countP fun y => eqV y x
  | _, _, .nil, _ => rfl
  | _, _, .cons r t, f => by
    have f := Bool.and_eq_true_iff.mp f
    rw [List.countP_cons, List.countP_cons, eqU_of r f.1, countP_eqU t f.2]
theorem mt_countB {X : Cx} : MtR X "list.count" (rCountB X.K) := by
  intro pins s σ H x xs v us Q I rx rxs h
  obtain ⟨p, ys, k, rfl, rfl, hs, fk, fs, q⟩ := h
  cases rx
  obtain ⟨u, rfl, ru⟩ := rxs.one
  obtain ⟨its, rv, ⟨⟨cls, dd, data, sl⟩, n, ho, hc, hdn, hd⟩, hlen⟩ := I.list hs
  simp only at hc hd
  subst hc hd
  refine call_meets PySem.F.slot_list_count ⟨_, ho, rfl⟩ PySem.F.entry_list_count (PySem.F.args_list_count_2 _ _)
    (SeqAt.list_countAt p its.toArray n dd sl u (eqU k)) ⟨ho, fun y hy => mem_eqAt ru fk rv fs y (by simpa using hy), ?_⟩
  refine ⟨.int (ys.countP (fun y => eqV y k) : Nat), H, I.tok _, ⟨s.toks, ?_⟩, q⟩
  show Value.int ((its.toArray.toList.countP (eqU k) : Nat) : Int) s.toks = Value.int ((ys.countP (fun y => eqV y k) : Nat) : Int) s.toks
  rw [← countP_eqU rv fs]
/-! ### joins, lists put together -/
/-- a tracked list -/
def EvM (te : TE) (σ : L2.St) (H : Hp) (xs : List V) : Prop := ∀ H1, Ex H H1 → ∀ Q : VK, (∀ p H2, Ex H1 H2 → H2 p = some (.lst xs) → Q (.ref p) H2) → te σ H1 Q
section
variable {K : PySem.W.Frag} {σ : L2.St} {H H' H0 : Hp} {ta tb te tx : TE} {t u : TT} {x y z v : V} {D : Ends} {tu tw tz : TS} {g : TG} {xs ys : List V} {ts : TA}
theorem em_l (h : EvL te σ H xs) : EvM te σ H xs := fun H1 e Q q => h H1 e Q fun p H2 _ e2 h2 => q p H2 e2 h2
theorem em_v {p : Addr} (h : Ev te σ H (.ref p)) (hp : H p = some (.lst xs)) : EvM te σ H xs := fun H1 e Q q => h H1 e Q fun H2 e2 => q p H2 e2 ((e.trans e2) _ _ hp)
theorem EvM.s (h : EvM te σ H xs) : EvS K te σ H xs := fun H1 e Q q => h H1 e Q fun p H2 e2 h2 => q p H2 e2 (sq_of h2)
theorem em_if {b : Bool} (h : EvT t σ H b) (h1 : b = true → EvM ta σ H xs) (h2 : b = false → EvM tb σ H xs) : EvM (tIf t ta tb) σ H xs := fun H1 e Q q => h H1 e _ fun H2 e2 => by
  cases b with
  | true =>
    show ta σ H2 Q
    exact h1 rfl H2 (e.trans e2) Q fun p H3 e3 h3 => q p H3 (e2.trans e3) h3
  | false =>
    show tb σ H2 Q
    exact h2 rfl H2 (e.trans e2) Q fun p H3 e3 h3 => q p H3 (e2.trans e3) h3
theorem el_catM (ha : EvM ta σ H xs) (hb : EvM tb σ H ys) (hz : xs.length + ys.length ≤ 1000) : EvL (tOp rCat ta tb) σ H (xs ++ ys) := fun H1 e Q q =>
  ha H1 e _ fun p H2 e2 h2 => hb H2 (e.trans e2) _ fun p' H3 e3 h3 => ⟨p, p', xs, ys, rfl, rfl, e3 p _ h2, h3, sz_of (by omega), fun l hl => q l _ (fresh_back (e2.trans e3) hl) ((e2.trans e3).trans (Ex.new hl)) upd_same⟩
theorem q_asgM {i : Nat} (h : EvM te σ H xs) (k : ∀ p H1, Ex H H1 → H1 p = some (.lst xs) → tz D (σ.set i (some (.ref p))) H1) : tSeq (tAsg te (gName i)) tz D σ H := h H (Ex.refl H) _ fun p H1 e1 h1 => k p H1 e1 h1
theorem s_asgM {i : Nat} (h : EvM te σ H xs) (k : ∀ p H1, Ex H H1 → H1 p = some (.lst xs) → D.nx (σ.set i (some (.ref p))) H1) : tAsg te (gName i) D σ H := h H (Ex.refl H) _ fun p H1 e1 h1 => k p H1 e1 h1
theorem q_asgSq {i : Nat} (h : EvS K te σ H xs) (k : ∀ p H1, Ex H H1 → SqL K H1 p xs → tz D (σ.set i (some (.ref p))) H1) : tSeq (tAsg te (gName i)) tz D σ H := h H (Ex.refl H) _ fun p H1 e1 h1 => k p H1 e1 h1
theorem s_asgSq {i : Nat} (h : EvS K te σ H xs) (k : ∀ p H1, Ex H H1 → SqL K H1 p xs → D.nx (σ.set i (some (.ref p))) H1) : tAsg te (gName i) D σ H := h H (Ex.refl H) _ fun p H1 e1 h1 => k p H1 e1 h1
/-- two ways that meet -/
theorem q_ifJ {b : Bool} (M : L2.St → Hp → Prop) (h : EvT t σ H b) (h1 : b = true → ∀ H1, Ex H H1 → ∀ D' : Ends, D'.rt = D.rt → (∀ σ' H', M σ' H' → D'.nx σ' H') → tu D' σ H1)
    (h2 : b = false → ∀ H1, Ex H H1 → ∀ D' : Ends, D'.rt = D.rt → (∀ σ' H', M σ' H' → D'.nx σ' H') → tw D' σ H1) (k : ∀ σ' H', M σ' H' → tz D σ' H') : tSeq (tIfS t tu tw) tz D σ H :=
  q_if h (fun hb H1 e1 => h1 hb H1 e1 _ rfl k) fun hb H1 e1 => h2 hb H1 e1 _ rfl k
theorem ev_countT {bs : List Bool} (h : EvS K ta σ H (bs.map V.bl)) : Ev (tBM K "list" (rCountB K) ta (tCons (tC (.bl true)) tNil)) σ H (.int (bs.countP id : Nat)) := fun H1 e Q q =>
  h H1 e _ fun p H2 e2 hp => ⟨.inl ⟨rfl, _, hp⟩, p, bs.map V.bl, .bl true, rfl, rfl, hp, rfl, by
    rw [List.all_eq_true]
    intro v hv
    obtain ⟨r, _, rfl⟩ := List.mem_map.mp hv
    rfl, by
    have e0 : (bs.map V.bl).countP (fun y => eqV y (.bl true)) = bs.countP id := by
      rw [List.countP_map]
      congr 1
      funext b
      show (b == true) = b
      cases b <;> rfl
    rw [e0]
    exact q H2 e2⟩
theorem rv_isB {a b : Bool} : RV rIsB (.bl a) (.bl b) H (.bl (decide (a = b))) := fun H1 _ _ q => ⟨a, b, rfl, rfl, q H1 (Ex.refl H1)⟩
theorem rv_notB {a b : Bool} : RV rNotB (.bl a) (.bl b) H (.bl (!decide (a = b))) := fun H1 _ _ q => ⟨a, b, rfl, rfl, q H1 (Ex.refl H1)⟩
theorem dec_bl (a b : Bool) : decide (V.bl a = V.bl b) = decide (a = b) := by
  by_cases h : a = b
  · subst h; simp
  · rw [decide_eq_false h, decide_eq_false fun e => h (V.bl.inj e)]
/-- does any sign part from what is told -/
theorem ev_anySL {r : List Bool} {ms : List Int} {p : Int → Bool} {i j : Nat} {vs : List Nat} (h : Ev ta σ H (.str (rs r))) (h' : EvS K tb σ H (ms.map V.int)) (hz : r.length ≤ 1000) (hlm : r.length = ms.length) (hw : ∀ x y, wipe (((wipe σ vs).set i (some x)).set j (some y)) vs = wipe σ vs)
    (he : ∀ (b : Bool) (m : Int), Ev te (((wipe σ vs).set i (some (.str (s1 b)))).set j (some (.int m))) H (.bl (!decide (b = p m)))) :
    Ev (tCB (rAny K) (tCons (tLc (iZipS K (tCons ta (tCons tb tNil))) (gTup K 2 (gCons (gName i) (gCons (gName j) gNil))) tYes te vs) tNil)) σ H (.bl (!decide (ms.map p = r))) := by
  refine ev_is (ev_anyM (l := r.zip ms) (p := fun x => !decide (x.1 = p x.2)) (els (el_mapZS (l := r) (m := ms) (g := fun b => V.str (s1 b)) (g' := V.int) (f := fun x => V.bl (!decide (x.1 = p x.2))) (esrc_s h) (esrc_l h') (by omega) hlm hw fun b m hx => he b m))) ?_
  rw [any_ne hlm]
theorem ev_neX {b c : Bool} (h : Ev ta σ H (.str (s1 b))) (h2 : Ev tb σ H (.bl c)) : Ev (tOp rNe (tOp rEq ta (tC (.str "x"))) tb) σ H (.bl (!decide (b = c))) :=
  ev_is (ev_op (ev_isX h) h2 (rv_ne rfl)) (by rw [dec_bl])
end
/-! ### the law's own look -/
def lawHas (T : Tb) (i j : Int) : Bool := inT T i && (inW T j && gi T i j)
def lawHasnt (T : Tb) (i j : Int) : Bool := inT T i && (inW T j && !gi T i j)
theorem inW_sq {T : Tb} (hr : Rect T T.length) {i j : Int} (h : inT T i = true) : inW T j = inT T j := by
  have hn := inT_ne h
  have hw : width T = T.length := by
    unfold width
    exact hr _ (mem_row (List.length_pos_iff.mpr hn))
  unfold inW inT
  rw [hw]
theorem lawHas_sq {T : Tb} (hr : Rect T T.length) (i j : Int) : lawHas T i j = (inT T i && (inT T j && gi T i j)) := by
  unfold lawHas
  cases h : inT T i with
  | false => rfl
  | true => rw [inW_sq hr h]
theorem lawHasnt_sq {T : Tb} (hr : Rect T T.length) (i j : Int) : lawHasnt T i j = (inT T i && (inT T j && !gi T i j)) := by
  unfold lawHasnt
  cases h : inT T i with
  | false => rfl
  | true => rw [inW_sq hr h]
theorem lt_three (i j k : Int) : decide (((diff [i, j, k] : Nat) : Int) < 3) = !(!decide (i = j) && !decide (i = k) && !decide (j = k)) := by
  have e : decide (V.int ((diff [i, j, k] : Nat) : Int) = V.int 3) = (!decide (i = j) && !decide (i = k) && !decide (j = k)) := dec_three i j k
  rw [← e, dec_int]
  have hle := diff_le [i, j, k]
  have : ([i, j, k] : List Int).length = 3 := rfl
  by_cases h3 : diff [i, j, k] = 3
  · rw [decide_eq_false (by omega), h3]; rfl
  · rw [decide_eq_true (by omega)]; simp; omega
theorem turnT_sq (T : Tb) : (turnT T T.length).length = T.length := by
  by_cases h : T = []
  · subst h; rfl
  · rw [turnT_ne h, turn_len]
/-! ### parts of a table -/
theorem take_min {α : Type} (l : List α) (k : Nat) : l.take (min k l.length) = l.take k := by
  by_cases h : k ≤ l.length
  · rw [Nat.min_eq_left h]
  · rw [Nat.min_eq_right (by omega), List.take_length, List.take_of_length_le (by omega)]
theorem cutV_take (T : Tb) (k : Nat) : cutV (tv T) none (some (k : Int)) = tv (T.take k) := by
  unfold cutV
  rw [HT.sIx_none, HT.sIx_nat, tv_len, List.drop_zero, Nat.sub_zero]
  unfold tv
  rw [← List.map_take, take_min]
theorem cutS_take (r : List Bool) (k : Nat) : cutS (rs r) none (some (k : Int)) = rs (r.take k) := by
  unfold cutS
  rw [HT.sIx_none, HT.sIx_nat, rs_len, rs_tl, List.drop_zero, Nat.sub_zero, ← List.map_take, take_min]
  rfl
/-- the first k things -/
def corner (T : Tb) (k : Nat) : Tb := (T.take k).map fun r => r.take k
theorem corner_len (T : Tb) (k : Nat) : (corner T k).length = min k T.length := by unfold corner; rw [List.length_map, List.length_take]
theorem corner_rect {T : Tb} (h : Rect T T.length) (k : Nat) : Rect (corner T k) (corner T k).length := fun r hr => by
  unfold corner at hr
  obtain ⟨q, hq, rfl⟩ := List.mem_map.mp hr
  rw [corner_len, List.length_take, h q (List.mem_of_mem_take hq)]
section
variable {K : PySem.W.Frag} {σ : L2.St} {H : Hp} {ta tb te : TE}
theorem ev_cutTo {r : List Bool} {k : Nat} (h : Ev ta σ H (.str (rs r))) (hj : Ev tb σ H (.int (k : Nat))) (hz : r.length ≤ 1000) : Ev (tSl rSlS ta tNoPart (tPart tb)) σ H (.str (rs (r.take k))) := fun H1 e Q q =>
  h H1 e _ fun H2 e2 => hj H2 (e.trans e2) _ fun H3 e3 => ⟨_, rfl, rs r, rfl, sz_of (by rw [rs_len]; omega), by rw [cutS_take]; exact q H3 (e2.trans e3)⟩
theorem el_cutTo {a : Addr} {T : Tb} {w k : Nat} (h : At K H a T w) (ha : Ev ta σ H (.ref a)) (hk : Ev tb σ H (.int (k : Nat))) : EvL (tSl (rSlL K) ta tNoPart (tPart tb)) σ H (tv (T.take k)) :=
  EvL.is (el_sl ha eo_none (eo_some hk) h.sq) (cutV_take T k)
end
theorem tv_two : [V.str "-x", V.str "x-"] = tv [[false, true], [true, false]] := by decide +kernel
theorem tv_one : [V.str "x"] = tv [[true]] := by decide +kernel
/-- the kinds as the law lists them -/
def kindsOf (k : Kd) : List Bool := [decide (k = .beside), decide (k = .cross), decide (k = .line), decide (k = .mutual)] ++ [decide (k = .neither), decide (k = .ranks), decide (k = .round)] ++ [decide (k = .self), decide (k = .steps), decide (k = .stretches)]
theorem kinds_one (k : Kd) : (kindsOf k).countP id = 1 := by cases k <;> rfl
end WA

namespace WA
open PySem PySem.Spec PyProof.Rows L2 Evl

def topS (i : Nat) : Stmt := PySem.Challenge.pw_wholeahead_k04_whole_ranks.main.body.getD i (.Pass ⟨0, 0, 0, 0⟩)
abbrev s_check_table : Stmt := topS 5
abbrev nm_check_table : List Str := ["table", "row"]
theorem sc_check_table : FnScope nm_check_table ["table"] (defScope s_check_table) := ⟨rfl, rfl, rfl, by decide +kernel, rfl, by decide +kernel, by decide +kernel⟩
abbrev s_check_square : Stmt := topS 6
abbrev nm_check_square : List Str := ["table"]
theorem sc_check_square : FnScope nm_check_square ["table"] (defScope s_check_square) := ⟨rfl, rfl, rfl, by decide +kernel, rfl, by decide +kernel, by decide +kernel⟩
abbrev s_has : Stmt := topS 7
abbrev nm_has : List Str := ["table", "row", "column"]
theorem sc_has : FnScope nm_has ["table", "row", "column"] (defScope s_has) := ⟨rfl, rfl, rfl, by decide +kernel, rfl, by decide +kernel, by decide +kernel⟩
abbrev s_rows_with : Stmt := topS 8
abbrev nm_rows_with : List Str := ["table", "column", "row"]
theorem sc_rows_with : FnScope nm_rows_with ["table", "column"] (defScope s_rows_with) := ⟨rfl, rfl, rfl, by decide +kernel, rfl, by decide +kernel, by decide +kernel⟩
abbrev s_are_things : Stmt := topS 11
abbrev nm_are_things : List Str := ["table", "things", "one"]
theorem sc_are_things : FnScope nm_are_things ["table", "things"] (defScope s_are_things) := ⟨rfl, rfl, rfl, by decide +kernel, rfl, by decide +kernel, by decide +kernel⟩
abbrev s_are_three : Stmt := topS 12
abbrev nm_are_three : List Str := ["table", "one", "other", "third"]
theorem sc_are_three : FnScope nm_are_three ["table", "one", "other", "third"] (defScope s_are_three) := ⟨rfl, rfl, rfl, by decide +kernel, rfl, by decide +kernel, by decide +kernel⟩
abbrev s_Steps_init : Stmt := inClass (topS 13) 0
abbrev nm_Steps_init : List Str := ["self", "rows", "columns"]
theorem sc_Steps_init : FnScope nm_Steps_init ["self", "rows", "columns"] (defScope s_Steps_init) := ⟨rfl, rfl, rfl, by decide +kernel, rfl, by decide +kernel, by decide +kernel⟩
abbrev s_Steps_shows : Stmt := inClass (topS 13) 1
abbrev nm_Steps_shows : List Str := ["self", "table", "row", "mine", "theirs"]
theorem sc_Steps_shows : FnScope nm_Steps_shows ["self", "table"] (defScope s_Steps_shows) := ⟨rfl, rfl, rfl, by decide +kernel, rfl, by decide +kernel, by decide +kernel⟩
abbrev s_Cross_init : Stmt := inClass (topS 14) 0
abbrev nm_Cross_init : List Str := ["self", "one", "first", "other", "second"]
theorem sc_Cross_init : FnScope nm_Cross_init ["self", "one", "first", "other", "second"] (defScope s_Cross_init) := ⟨rfl, rfl, rfl, by decide +kernel, rfl, by decide +kernel, by decide +kernel⟩
abbrev s_Cross_shows : Stmt := inClass (topS 14) 1
abbrev nm_Cross_shows : List Str := ["self", "table", "column"]
theorem sc_Cross_shows : FnScope nm_Cross_shows ["self", "table"] (defScope s_Cross_shows) := ⟨rfl, rfl, rfl, by decide +kernel, rfl, by decide +kernel, by decide +kernel⟩
abbrev s_Stretches_init : Stmt := inClass (topS 15) 0
abbrev nm_Stretches_init : List Str := ["self", "begins", "ends", "unlike"]
theorem sc_Stretches_init : FnScope nm_Stretches_init ["self", "begins", "ends", "unlike"] (defScope s_Stretches_init) := ⟨rfl, rfl, rfl, by decide +kernel, rfl, by decide +kernel, by decide +kernel⟩
abbrev s_Stretches_shows : Stmt := inClass (topS 15) 1
abbrev nm_Stretches_shows : List Str := ["self", "table", "many", "begin", "end", "row", "met", "thing"]
theorem sc_Stretches_shows : FnScope nm_Stretches_shows ["self", "table"] (defScope s_Stretches_shows) := ⟨rfl, rfl, rfl, by decide +kernel, rfl, by decide +kernel, by decide +kernel⟩
abbrev s_Self_init : Stmt := inClass (topS 16) 0
abbrev nm_Self_init : List Str := ["self", "one"]
theorem sc_Self_init : FnScope nm_Self_init ["self", "one"] (defScope s_Self_init) := ⟨rfl, rfl, rfl, by decide +kernel, rfl, by decide +kernel, by decide +kernel⟩
abbrev s_Self_shows : Stmt := inClass (topS 16) 1
abbrev nm_Self_shows : List Str := ["self", "table"]
theorem sc_Self_shows : FnScope nm_Self_shows ["self", "table"] (defScope s_Self_shows) := ⟨rfl, rfl, rfl, by decide +kernel, rfl, by decide +kernel, by decide +kernel⟩
abbrev s_Ranks_init : Stmt := inClass (topS 17) 0
abbrev nm_Ranks_init : List Str := ["self", "ranks"]
theorem sc_Ranks_init : FnScope nm_Ranks_init ["self", "ranks"] (defScope s_Ranks_init) := ⟨rfl, rfl, rfl, by decide +kernel, rfl, by decide +kernel, by decide +kernel⟩
abbrev s_Ranks_shows : Stmt := inClass (topS 17) 1
abbrev nm_Ranks_shows : List Str := ["self", "table", "row", "mine", "theirs"]
theorem sc_Ranks_shows : FnScope nm_Ranks_shows ["self", "table"] (defScope s_Ranks_shows) := ⟨rfl, rfl, rfl, by decide +kernel, rfl, by decide +kernel, by decide +kernel⟩
abbrev s_Mutual_init : Stmt := inClass (topS 18) 0
abbrev nm_Mutual_init : List Str := ["self", "one", "other"]
theorem sc_Mutual_init : FnScope nm_Mutual_init ["self", "one", "other"] (defScope s_Mutual_init) := ⟨rfl, rfl, rfl, by decide +kernel, rfl, by decide +kernel, by decide +kernel⟩
abbrev s_Mutual_shows : Stmt := inClass (topS 18) 1
abbrev nm_Mutual_shows : List Str := ["self", "table"]
theorem sc_Mutual_shows : FnScope nm_Mutual_shows ["self", "table"] (defScope s_Mutual_shows) := ⟨rfl, rfl, rfl, by decide +kernel, rfl, by decide +kernel, by decide +kernel⟩
abbrev s_Beside_init : Stmt := inClass (topS 19) 0
abbrev nm_Beside_init : List Str := ["self", "one", "other", "third"]
theorem sc_Beside_init : FnScope nm_Beside_init ["self", "one", "other", "third"] (defScope s_Beside_init) := ⟨rfl, rfl, rfl, by decide +kernel, rfl, by decide +kernel, by decide +kernel⟩
abbrev s_Beside_shows : Stmt := inClass (topS 19) 1
abbrev nm_Beside_shows : List Str := ["self", "table"]
theorem sc_Beside_shows : FnScope nm_Beside_shows ["self", "table"] (defScope s_Beside_shows) := ⟨rfl, rfl, rfl, by decide +kernel, rfl, by decide +kernel, by decide +kernel⟩
abbrev s_Line_init : Stmt := inClass (topS 20) 0
abbrev nm_Line_init : List Str := ["self", "order"]
theorem sc_Line_init : FnScope nm_Line_init ["self", "order"] (defScope s_Line_init) := ⟨rfl, rfl, rfl, by decide +kernel, rfl, by decide +kernel, by decide +kernel⟩
abbrev s_Line_shows : Stmt := inClass (topS 20) 1
abbrev nm_Line_shows : List Str := ["self", "table", "thing", "ranks", "place"]
theorem sc_Line_shows : FnScope nm_Line_shows ["self", "table"] (defScope s_Line_shows) := ⟨rfl, rfl, rfl, by decide +kernel, rfl, by decide +kernel, by decide +kernel⟩
abbrev s_Neither_init : Stmt := inClass (topS 21) 0
abbrev nm_Neither_init : List Str := ["self", "one", "other"]
theorem sc_Neither_init : FnScope nm_Neither_init ["self", "one", "other"] (defScope s_Neither_init) := ⟨rfl, rfl, rfl, by decide +kernel, rfl, by decide +kernel, by decide +kernel⟩
abbrev s_Neither_shows : Stmt := inClass (topS 21) 1
abbrev nm_Neither_shows : List Str := ["self", "table"]
theorem sc_Neither_shows : FnScope nm_Neither_shows ["self", "table"] (defScope s_Neither_shows) := ⟨rfl, rfl, rfl, by decide +kernel, rfl, by decide +kernel, by decide +kernel⟩
abbrev s_Round_init : Stmt := inClass (topS 22) 0
abbrev nm_Round_init : List Str := ["self", "one", "other", "third"]
theorem sc_Round_init : FnScope nm_Round_init ["self", "one", "other", "third"] (defScope s_Round_init) := ⟨rfl, rfl, rfl, by decide +kernel, rfl, by decide +kernel, by decide +kernel⟩
abbrev s_Round_shows : Stmt := inClass (topS 22) 1
abbrev nm_Round_shows : List Str := ["self", "table"]
theorem sc_Round_shows : FnScope nm_Round_shows ["self", "table"] (defScope s_Round_shows) := ⟨rfl, rfl, rfl, by decide +kernel, rfl, by decide +kernel, by decide +kernel⟩
abbrev s_levels_of : Stmt := topS 24
abbrev nm_levels_of : List Str := ["sizes", "different", "size"]
theorem sc_levels_of : FnScope nm_levels_of ["sizes"] (defScope s_levels_of) := ⟨rfl, rfl, rfl, by decide +kernel, rfl, by decide +kernel, by decide +kernel⟩
abbrev s_self_of : Stmt := topS 25
abbrev nm_self_of : List Str := ["table", "thing"]
theorem sc_self_of : FnScope nm_self_of ["table"] (defScope s_self_of) := ⟨rfl, rfl, rfl, by decide +kernel, rfl, by decide +kernel, by decide +kernel⟩
abbrev s_sizes_of : Stmt := topS 26
abbrev nm_sizes_of : List Str := ["table", "thing"]
theorem sc_sizes_of : FnScope nm_sizes_of ["table"] (defScope s_sizes_of) := ⟨rfl, rfl, rfl, by decide +kernel, rfl, by decide +kernel, by decide +kernel⟩
abbrev s_mutual_of : Stmt := topS 27
abbrev nm_mutual_of : List Str := ["table", "one", "other"]
theorem sc_mutual_of : FnScope nm_mutual_of ["table"] (defScope s_mutual_of) := ⟨rfl, rfl, rfl, by decide +kernel, rfl, by decide +kernel, by decide +kernel⟩
abbrev s_first_ahead : Stmt := topS 28
abbrev nm_first_ahead : List Str := ["table", "one", "other", "thing"]
theorem sc_first_ahead : FnScope nm_first_ahead ["table", "one", "other"] (defScope s_first_ahead) := ⟨rfl, rfl, rfl, by decide +kernel, rfl, by decide +kernel, by decide +kernel⟩
abbrev s_ranks : Stmt := topS 29
abbrev nm_ranks : List Str := ["table", "found", "sizes", "one", "other"]
theorem sc_ranks : FnScope nm_ranks ["table"] (defScope s_ranks) := ⟨rfl, rfl, rfl, by decide +kernel, rfl, by decide +kernel, by decide +kernel⟩
abbrev s_law_table : Stmt := topS 31
abbrev nm_law_table : List Str := ["_law_script", "_law_code", "_law_many", "_law_cell", "_law_at", "_law_begins", "_law_begin", "_law_ends", "_law_end", "_law_table_here", "_law_turn", "_law_row"]
theorem sc_law_table : FnScope nm_law_table ["_law_script"] (defScope s_law_table) := ⟨rfl, rfl, rfl, by decide +kernel, rfl, by decide +kernel, by decide +kernel⟩
abbrev s_law_turned : Stmt := topS 32
abbrev nm_law_turned : List Str := ["_law_table_here", "_law_at", "_law_row"]
theorem sc_law_turned : FnScope nm_law_turned ["_law_table_here"] (defScope s_law_turned) := ⟨rfl, rfl, rfl, by decide +kernel, rfl, by decide +kernel, by decide +kernel⟩
abbrev s_law_numbers : Stmt := topS 33
abbrev nm_law_numbers : List Str := ["_law_found", "_law_many", "_law_one"]
theorem sc_law_numbers : FnScope nm_law_numbers ["_law_found", "_law_many"] (defScope s_law_numbers) := ⟨rfl, rfl, rfl, by decide +kernel, rfl, by decide +kernel, by decide +kernel⟩
abbrev s_law_has : Stmt := topS 34
abbrev nm_law_has : List Str := ["_law_table_here", "_law_row", "_law_column"]
theorem sc_law_has : FnScope nm_law_has ["_law_table_here", "_law_row", "_law_column"] (defScope s_law_has) := ⟨rfl, rfl, rfl, by decide +kernel, rfl, by decide +kernel, by decide +kernel⟩
abbrev s_law_hasnt : Stmt := topS 35
abbrev nm_law_hasnt : List Str := ["_law_table_here", "_law_row", "_law_column"]
theorem sc_law_hasnt : FnScope nm_law_hasnt ["_law_table_here", "_law_row", "_law_column"] (defScope s_law_hasnt) := ⟨rfl, rfl, rfl, by decide +kernel, rfl, by decide +kernel, by decide +kernel⟩
abbrev s_law_ranks : Stmt := topS 36
abbrev nm_law_ranks : List Str := ["_law_table_here", "_law_numbers_here", "_law_row", "_law_mine", "_law_sign", "_law_theirs"]
theorem sc_law_ranks : FnScope nm_law_ranks ["_law_table_here", "_law_numbers_here"] (defScope s_law_ranks) := ⟨rfl, rfl, rfl, by decide +kernel, rfl, by decide +kernel, by decide +kernel⟩
abbrev s_law_due : Stmt := topS 37
abbrev nm_law_due : List Str := ["_law_table_here", "_law_found"]
theorem sc_law_due : FnScope nm_law_due ["_law_table_here", "_law_found"] (defScope s_law_due) := ⟨rfl, rfl, rfl, by decide +kernel, rfl, by decide +kernel, by decide +kernel⟩
abbrev s_law_right : Stmt := topS 38
abbrev nm_law_right : List Str := ["_law_table_here", "_law_handed", "_law_found", "_law_kinds", "_law_numbers_here", "_law_other"]
theorem sc_law_right : FnScope nm_law_right ["_law_table_here"] (defScope s_law_right) := ⟨rfl, rfl, rfl, by decide +kernel, rfl, by decide +kernel, by decide +kernel⟩
abbrev s_law : Stmt := topS 39
abbrev nm_law : List Str := ["_law_script", "_law_table_here", "_law_row", "_law_some"]
theorem sc_law : FnScope nm_law ["_law_script"] (defScope s_law) := ⟨rfl, rfl, rfl, by decide +kernel, rfl, by decide +kernel, by decide +kernel⟩
structure Tx (K : PySem.W.Frag) (mg : Str → Option Value) : Prop where
  len : mg "len" = none
  sum : mg "sum" = none
  all : mg "all" = none
  any : mg "any" = none
  sorted : mg "sorted" = none
  isinstance : mg "isinstance" = none
  list : mg "list" = none
  set : mg "set" = none
  tuple : mg "tuple" = none
  range : mg "range" = none
  enumerate : mg "enumerate" = none
  zip : mg "zip" = none
  str : mg "str" = none
  int : mg "int" = none
  bool : mg "bool" = none
  d_check_table : Dn K mg "check_table" s_check_table
  d_check_square : Dn K mg "check_square" s_check_square
  d_has : Dn K mg "has" s_has
  d_rows_with : Dn K mg "rows_with" s_rows_with
  d_are_things : Dn K mg "are_things" s_are_things
  d_are_three : Dn K mg "are_three" s_are_three
  d_levels_of : Dn K mg "levels_of" s_levels_of
  d_self_of : Dn K mg "self_of" s_self_of
  d_sizes_of : Dn K mg "sizes_of" s_sizes_of
  d_mutual_of : Dn K mg "mutual_of" s_mutual_of
  d_first_ahead : Dn K mg "first_ahead" s_first_ahead
  d_ranks : Dn K mg "ranks" s_ranks
  d__law_table : Dn K mg "_law_table" s_law_table
  d__law_turned : Dn K mg "_law_turned" s_law_turned
  d__law_numbers : Dn K mg "_law_numbers" s_law_numbers
  d__law_has : Dn K mg "_law_has" s_law_has
  d__law_hasnt : Dn K mg "_law_hasnt" s_law_hasnt
  d__law_ranks : Dn K mg "_law_ranks" s_law_ranks
  d__law_due : Dn K mg "_law_due" s_law_due
  d__law_right : Dn K mg "_law_right" s_law_right
  d_law : Dn K mg "law" s_law
  g_Answer : mg "Answer" = some (.ref (He.ga K "Answer"))
  g_Steps : mg "Steps" = some (.ref (He.ga K "Steps"))
  cl_Steps : Cls K (He.ga K "Steps")
  mk_Steps : Mk K (He.ga K "Steps") (He.ma K (He.ga K "Steps") "__init__")
  sh_Steps : Meth K (He.ga K "Steps") "shows" (He.ma K (He.ga K "Steps") "shows")
  n_Steps_rows : NoAttr K (He.ga K "Steps") "rows"
  n_Steps_columns : NoAttr K (He.ga K "Steps") "columns"
  f_Steps_init : ∃ fd, FunD K "__init__" "Steps.__init__" (defArgs s_Steps_init) (defBody s_Steps_init) (defScope s_Steps_init) [] [] (He.ma K (He.ga K "Steps") "__init__") fd
  f_Steps_shows : ∃ fd, FunD K "shows" "Steps.shows" (defArgs s_Steps_shows) (defBody s_Steps_shows) (defScope s_Steps_shows) [] [] (He.ma K (He.ga K "Steps") "shows") fd
  g_Cross : mg "Cross" = some (.ref (He.ga K "Cross"))
  cl_Cross : Cls K (He.ga K "Cross")
  mk_Cross : Mk K (He.ga K "Cross") (He.ma K (He.ga K "Cross") "__init__")
  sh_Cross : Meth K (He.ga K "Cross") "shows" (He.ma K (He.ga K "Cross") "shows")
  n_Cross_one : NoAttr K (He.ga K "Cross") "one"
  n_Cross_first : NoAttr K (He.ga K "Cross") "first"
  n_Cross_other : NoAttr K (He.ga K "Cross") "other"
  n_Cross_second : NoAttr K (He.ga K "Cross") "second"
  f_Cross_init : ∃ fd, FunD K "__init__" "Cross.__init__" (defArgs s_Cross_init) (defBody s_Cross_init) (defScope s_Cross_init) [] [] (He.ma K (He.ga K "Cross") "__init__") fd
  f_Cross_shows : ∃ fd, FunD K "shows" "Cross.shows" (defArgs s_Cross_shows) (defBody s_Cross_shows) (defScope s_Cross_shows) [] [] (He.ma K (He.ga K "Cross") "shows") fd
  g_Stretches : mg "Stretches" = some (.ref (He.ga K "Stretches"))
  cl_Stretches : Cls K (He.ga K "Stretches")
  mk_Stretches : Mk K (He.ga K "Stretches") (He.ma K (He.ga K "Stretches") "__init__")
  sh_Stretches : Meth K (He.ga K "Stretches") "shows" (He.ma K (He.ga K "Stretches") "shows")
  n_Stretches_begins : NoAttr K (He.ga K "Stretches") "begins"
  n_Stretches_ends : NoAttr K (He.ga K "Stretches") "ends"
  n_Stretches_unlike : NoAttr K (He.ga K "Stretches") "unlike"
  f_Stretches_init : ∃ fd, FunD K "__init__" "Stretches.__init__" (defArgs s_Stretches_init) (defBody s_Stretches_init) (defScope s_Stretches_init) [] [] (He.ma K (He.ga K "Stretches") "__init__") fd
  f_Stretches_shows : ∃ fd, FunD K "shows" "Stretches.shows" (defArgs s_Stretches_shows) (defBody s_Stretches_shows) (defScope s_Stretches_shows) [] [] (He.ma K (He.ga K "Stretches") "shows") fd
  g_Self : mg "Self" = some (.ref (He.ga K "Self"))
  cl_Self : Cls K (He.ga K "Self")
  mk_Self : Mk K (He.ga K "Self") (He.ma K (He.ga K "Self") "__init__")
  sh_Self : Meth K (He.ga K "Self") "shows" (He.ma K (He.ga K "Self") "shows")
  n_Self_one : NoAttr K (He.ga K "Self") "one"
  f_Self_init : ∃ fd, FunD K "__init__" "Self.__init__" (defArgs s_Self_init) (defBody s_Self_init) (defScope s_Self_init) [] [] (He.ma K (He.ga K "Self") "__init__") fd
  f_Self_shows : ∃ fd, FunD K "shows" "Self.shows" (defArgs s_Self_shows) (defBody s_Self_shows) (defScope s_Self_shows) [] [] (He.ma K (He.ga K "Self") "shows") fd
  g_Ranks : mg "Ranks" = some (.ref (He.ga K "Ranks"))
  cl_Ranks : Cls K (He.ga K "Ranks")
  mk_Ranks : Mk K (He.ga K "Ranks") (He.ma K (He.ga K "Ranks") "__init__")
  sh_Ranks : Meth K (He.ga K "Ranks") "shows" (He.ma K (He.ga K "Ranks") "shows")
  n_Ranks_ranks : NoAttr K (He.ga K "Ranks") "ranks"
  f_Ranks_init : ∃ fd, FunD K "__init__" "Ranks.__init__" (defArgs s_Ranks_init) (defBody s_Ranks_init) (defScope s_Ranks_init) [] [] (He.ma K (He.ga K "Ranks") "__init__") fd
  f_Ranks_shows : ∃ fd, FunD K "shows" "Ranks.shows" (defArgs s_Ranks_shows) (defBody s_Ranks_shows) (defScope s_Ranks_shows) [] [] (He.ma K (He.ga K "Ranks") "shows") fd
  g_Mutual : mg "Mutual" = some (.ref (He.ga K "Mutual"))
  cl_Mutual : Cls K (He.ga K "Mutual")
  mk_Mutual : Mk K (He.ga K "Mutual") (He.ma K (He.ga K "Mutual") "__init__")
  sh_Mutual : Meth K (He.ga K "Mutual") "shows" (He.ma K (He.ga K "Mutual") "shows")
  n_Mutual_one : NoAttr K (He.ga K "Mutual") "one"
  n_Mutual_other : NoAttr K (He.ga K "Mutual") "other"
  f_Mutual_init : ∃ fd, FunD K "__init__" "Mutual.__init__" (defArgs s_Mutual_init) (defBody s_Mutual_init) (defScope s_Mutual_init) [] [] (He.ma K (He.ga K "Mutual") "__init__") fd
  f_Mutual_shows : ∃ fd, FunD K "shows" "Mutual.shows" (defArgs s_Mutual_shows) (defBody s_Mutual_shows) (defScope s_Mutual_shows) [] [] (He.ma K (He.ga K "Mutual") "shows") fd
  g_Beside : mg "Beside" = some (.ref (He.ga K "Beside"))
  cl_Beside : Cls K (He.ga K "Beside")
  mk_Beside : Mk K (He.ga K "Beside") (He.ma K (He.ga K "Beside") "__init__")
  sh_Beside : Meth K (He.ga K "Beside") "shows" (He.ma K (He.ga K "Beside") "shows")
  n_Beside_one : NoAttr K (He.ga K "Beside") "one"
  n_Beside_other : NoAttr K (He.ga K "Beside") "other"
  n_Beside_third : NoAttr K (He.ga K "Beside") "third"
  f_Beside_init : ∃ fd, FunD K "__init__" "Beside.__init__" (defArgs s_Beside_init) (defBody s_Beside_init) (defScope s_Beside_init) [] [] (He.ma K (He.ga K "Beside") "__init__") fd
  f_Beside_shows : ∃ fd, FunD K "shows" "Beside.shows" (defArgs s_Beside_shows) (defBody s_Beside_shows) (defScope s_Beside_shows) [] [] (He.ma K (He.ga K "Beside") "shows") fd
  g_Line : mg "Line" = some (.ref (He.ga K "Line"))
  cl_Line : Cls K (He.ga K "Line")
  mk_Line : Mk K (He.ga K "Line") (He.ma K (He.ga K "Line") "__init__")
  sh_Line : Meth K (He.ga K "Line") "shows" (He.ma K (He.ga K "Line") "shows")
  n_Line_order : NoAttr K (He.ga K "Line") "order"
  f_Line_init : ∃ fd, FunD K "__init__" "Line.__init__" (defArgs s_Line_init) (defBody s_Line_init) (defScope s_Line_init) [] [] (He.ma K (He.ga K "Line") "__init__") fd
  f_Line_shows : ∃ fd, FunD K "shows" "Line.shows" (defArgs s_Line_shows) (defBody s_Line_shows) (defScope s_Line_shows) [] [] (He.ma K (He.ga K "Line") "shows") fd
  g_Neither : mg "Neither" = some (.ref (He.ga K "Neither"))
  cl_Neither : Cls K (He.ga K "Neither")
  mk_Neither : Mk K (He.ga K "Neither") (He.ma K (He.ga K "Neither") "__init__")
  sh_Neither : Meth K (He.ga K "Neither") "shows" (He.ma K (He.ga K "Neither") "shows")
  n_Neither_one : NoAttr K (He.ga K "Neither") "one"
  n_Neither_other : NoAttr K (He.ga K "Neither") "other"
  f_Neither_init : ∃ fd, FunD K "__init__" "Neither.__init__" (defArgs s_Neither_init) (defBody s_Neither_init) (defScope s_Neither_init) [] [] (He.ma K (He.ga K "Neither") "__init__") fd
  f_Neither_shows : ∃ fd, FunD K "shows" "Neither.shows" (defArgs s_Neither_shows) (defBody s_Neither_shows) (defScope s_Neither_shows) [] [] (He.ma K (He.ga K "Neither") "shows") fd
  g_Round : mg "Round" = some (.ref (He.ga K "Round"))
  cl_Round : Cls K (He.ga K "Round")
  mk_Round : Mk K (He.ga K "Round") (He.ma K (He.ga K "Round") "__init__")
  sh_Round : Meth K (He.ga K "Round") "shows" (He.ma K (He.ga K "Round") "shows")
  n_Round_one : NoAttr K (He.ga K "Round") "one"
  n_Round_other : NoAttr K (He.ga K "Round") "other"
  n_Round_third : NoAttr K (He.ga K "Round") "third"
  f_Round_init : ∃ fd, FunD K "__init__" "Round.__init__" (defArgs s_Round_init) (defBody s_Round_init) (defScope s_Round_init) [] [] (He.ma K (He.ga K "Round") "__init__") fd
  f_Round_shows : ∃ fd, FunD K "shows" "Round.shows" (defArgs s_Round_shows) (defBody s_Round_shows) (defScope s_Round_shows) [] [] (He.ma K (He.ga K "Round") "shows") fd
  kf : KindF K

end WA

namespace WA
open PySem PySem.Spec PyProof.Rows L2 Evl

section
variable {P : Program} {w : World} {K : PySem.W.Frag} {mg : Str → Option Value} {base : Heap}
/-! ### check_table -/
def sp_check_table (K : PySem.W.Frag) : Sp := spV fun vs H z => ∃ a T w, vs = [.ref a] ∧ At K H a T w ∧ z = .non
theorem sv_check_table {H : Hp} {a : Addr} {T : Tb} {n : Nat} (h : At K H a T n) : SpV (sp_check_table K) ([.ref a] ++ []) H .non := spV_of fun _ e => ⟨a, T, n, rfl, h.mono e, rfl⟩
theorem cal_check_table (T : Tx K mg) : C8.Cal P w K mg base (0 + 1) "check_table" (sp_check_table K) [] := by
  refine T.d_check_table.cal sc_check_table (fun _ _ _ _ _ _ us hl => match us, hl with | [_], _ => rfl) ?_ ?_
  · rintro vs H Q E ⟨z, ⟨a, T, n, rfl, _⟩, _⟩; rfl
  · rintro f cdv A outer s H vs Q E hr ⟨z, ⟨a, Tb, n, rfl, hT, rfl⟩, q⟩
    refine ⟨(tSeq (tIfS (tOr (tNot (tB (tCB (rIsi K) (tCons (tVar 0) (tCons (tC (.ty "list")) tNil))))) (tNot (tB (tCB (rAll K) (tCons (tLc (iList K (tVar 0)) (gName 1) tYes (tCB (rIsi K) (tCons (tVar 1) (tCons (tC (.ty "str")) tNil))) [1]) tNil))))) tNever tNext) (tFor (iList K (tVar 0)) (gName 1) (tIfS (tOr (tTest (tOp rNe (tCB (rLn K) (tCons (tVar 1) tNil)) (tCB (rLn K) (tCons (tOp (rIxL K) (tVar 0) (tC (.int 0))) tNil)))) (tTest (tOp rNe (tM1 rStripC (tVar 1) (tC (.str "x-"))) (tC (.str ""))))) tNever tNext))), (pss_cons (ps_if (PW.pt (pw_or (pt_not (pt_val (pe_callB (id := "isinstance") call_isi (by rfl) T.isinstance (by decide +kernel) (pa_cons (pv 0) (pa_cons (pe_bltn (v := .ty "list") (by rfl) T.list (by decide +kernel) rfl) pa_nil))))) (pw_or1 (pt_not (pt_val (pe_callB (id := "all") (cr_all rfl) (by rfl) T.all (by decide +kernel) (pa_cons (pe_lc (own := [("row", 1)]) rfl sc_check_table.nd (pi_list (pv 0)) (blkOk_by (own := [("row", 1)]) (by kernel_rfl)) (fun _ _ _ _ _ => (pg_name (i := 1) sc_check_table.nd rfl (Or.inl rfl))) (fun _ _ _ _ _ => pts_nil) (fun _ _ _ _ _ => (pe_callB (id := "isinstance") call_isi (by rfl) T.isinstance (by decide +kernel) (pa_cons (pv 1) (pa_cons (pe_bltn (v := .ty "str") (by rfl) T.str (by decide +kernel) rfl) pa_nil))))) pa_nil))))))) (pss_one ps_never) pss_nil) (pss_one (ps_for PassesOwn.never rfl (pi_list (pv 0)) (pg_name (i := 1) sc_check_table.nd rfl (Or.inl rfl)) (pss_one (ps_if (PW.pt (pw_or (pt_cmpR op_ne (pe_callB (id := "len") cl_len (by rfl) T.len (by decide +kernel) (pa_cons (pv 1) pa_nil)) (pe_callB (id := "len") cl_len (by rfl) T.len (by decide +kernel) (pa_cons (pe_ix ix_list (pv 0) pe_int (fun _ _ => rfl)) pa_nil)) (nomark _)) (pw_or1 (pt_cmpR op_ne (pe_stripC (pv 1) pe_str) pe_str (nomark _))))) (pss_one ps_never) pss_nil))))), ?_⟩
    have hl := hT.ln
    have hw := hT.lw
    refine q_when (b := false) (et_is (et_or (et_not (et_B (ev_isiL (evs_var rfl hT.sq)))) fun _ => et_not (et_B (ev_allM (l := Tb) (p := fun _ => true) (els (el_map (g := fun r => V.str (rs r)) (evs_var rfl hT.sq) (by omega) (fun _ => rfl) fun r hr => ev_isiStr (ev_var rfl)))))) (by simp)) (fun hb => nomatch hb) fun _ H1 e1 => ?_
    have h1 := hT.mono e1
    refine s_forLn (ev_var rfl) h1.sq (fun i σ' H' => Ex H1 H' ∧ ∃ y, σ' = [some (.ref a), y]) (fun H2 e2 => ⟨e2, none, rfl⟩) (fun i σ' H' _ p => ex_l p.1 h1.sq) ?_ ?_
    · rintro i x σ' H' hx ⟨e2, y, rfl⟩
      have h2 := h1.mono e2
      obtain ⟨r, hr, rfl⟩ := List.mem_map.mp (List.mem_of_getElem? hx)
      have hlen : r.length = n := hT.rect r hr
      have hne : Tb ≠ [] := List.ne_nil_of_mem hr
      refine s_when (b := false) (et_is (et_or (et_test (ev_op (ev_lenRow (ev_var (v := .str (rs r)) rfl) (by omega)) (ev_len0 h2 (ev_var rfl) hne) (rv_ne rfl))) fun _ => et_test (ev_op (ev_strip (ev_var (v := .str (rs r)) rfl) (by omega)) ev_c (rv_ne rfl))) ?_) (fun hb => nomatch hb) fun _ H3 e3 => ⟨e2.trans e3, _, rfl⟩
      rw [hlen]; simp
    · rintro σ' H' ⟨e2, y, rfl⟩
      exact q H' (e1.trans e2)
/-! ### check_square -/
def sp_check_square (K : PySem.W.Frag) : Sp := spV fun vs H z => ∃ a T, vs = [.ref a] ∧ At K H a T T.length ∧ z = .non
theorem sv_check_square {H : Hp} {a : Addr} {T : Tb} (h : At K H a T T.length) : SpV (sp_check_square K) ([.ref a] ++ []) H .non := spV_of fun _ e => ⟨a, T, rfl, h.mono e, rfl⟩
theorem cal_check_square (T : Tx K mg) : C8.Cal P w K mg base (1 + 1) "check_square" (sp_check_square K) [] := by
  refine T.d_check_square.cal sc_check_square (fun _ _ _ _ _ _ us hl => match us, hl with | [_], _ => rfl) ?_ ?_
  · rintro vs H Q E ⟨z, ⟨a, T, rfl, _⟩, _⟩; rfl
  · rintro f cdv A outer s H vs Q E hr ⟨z, ⟨a, Tb, rfl, hT, rfl⟩, q⟩
    refine ⟨(tSeq (tDrop (tCall (sp_check_table K) [] C8.E0 (tCons (tVar 0) tNil))) (tIfS (tAnd (tTest (tOp (rNeD K) (tVar 0) (tLst tNil))) (tTest (tOp rNe (tCB (rLn K) (tCons (tOp (rIxL K) (tVar 0) (tC (.int 0))) tNil)) (tCB (rLn K) (tCons (tVar 0) tNil))))) tNever tNext)), (pss_cons (ps_expr (C8.pe_c (cal_check_table T) hr (by decide) (by rfl) (pa_cons (pv 0) pa_nil))) (pss_one (ps_if (PW.pt (pw_and (pt_cmpR (op_neD hr.units) (pv 0) (pe_lst pa_nil) (nomark _)) (pw_and1 (pt_cmpR op_ne (pe_callB (id := "len") cl_len (by rfl) T.len (by decide +kernel) (pa_cons (pe_ix ix_list (pv 0) pe_int (fun _ _ => rfl)) pa_nil)) (pe_callB (id := "len") cl_len (by rfl) T.len (by decide +kernel) (pa_cons (pv 0) pa_nil)) (nomark _))))) (pss_one ps_never) pss_nil))), ?_⟩
    refine q_drop (ev_call (ea_cons (ev_var rfl) ea_nil) (sv_check_table hT)) fun H1 e1 => ?_
    have h1 := hT.mono e1
    refine s_when (b := false) (et_is (et_and (et_test (ev_nempty (evs_var rfl h1.sq))) fun hne => et_test (ev_op (ev_len0 h1 (ev_var rfl) (by simpa using hne)) (ev_lenTab h1 (ev_var rfl)) (rv_ne rfl))) (by simp)) (fun hb => nomatch hb) fun _ H2 e2 => q H2 (e1.trans e2)
/-! ### has -/
def sp_has (K : PySem.W.Frag) : Sp := spV fun vs H z => ∃ a T w i j, vs = [.ref a, .int (i : Nat), .int (j : Nat)] ∧ At K H a T w ∧ i < T.length ∧ j < w ∧ z = .bl (gt T i j)
theorem sv_has {H : Hp} {a : Addr} {T : Tb} {n i j : Nat} (h : At K H a T n) (hi : i < T.length) (hj : j < n) : SpV (sp_has K) ([.ref a, .int (i : Nat), .int (j : Nat)] ++ []) H (.bl (gt T i j)) :=
  spV_of fun _ e => ⟨a, T, n, i, j, rfl, h.mono e, hi, hj, rfl⟩
theorem cal_has (T : Tx K mg) : C8.Cal P w K mg base (0 + 1) "has" (sp_has K) [] := by
  refine T.d_has.cal sc_has (fun _ _ _ _ _ _ us hl => match us, hl with | [_, _, _], _ => rfl) ?_ ?_
  · rintro vs H Q E ⟨z, ⟨a, T, n, i, j, rfl, _⟩, _⟩; rfl
  · rintro f cdv A outer s H vs Q E hr ⟨z, ⟨a, Tb, n, i, j, rfl, hT, hi, hj, rfl⟩, q⟩
    refine ⟨(tRet (tOp rEq (tOp rIxS (tOp (rIxL K) (tVar 0) (tVar 1)) (tVar 2)) (tC (.str "x")))), (pss_one (ps_ret (pe_cmpR op_eq (pe_ix ix_str (pe_ix ix_list (pv 0) (pv 1) (fun _ _ => rfl)) (pv 2) (fun _ _ => rfl)) pe_str (nomark _)))), ?_⟩
    exact s_ret (ev_isX (ev_cell hT (ev_var rfl) (ev_var rfl) (ev_var rfl) hi hj)) q
/-! ### rows_with -/
def sp_rows_with (K : PySem.W.Frag) : Sp := spL fun vs H xs => ∃ a T w j, vs = [.ref a, .int (j : Nat)] ∧ At K H a T w ∧ (T ≠ [] → j < w) ∧ xs = nv (colOf T j)
theorem sl_rows_with {H : Hp} {a : Addr} {T : Tb} {n j : Nat} (h : At K H a T n) (hj : T ≠ [] → j < n) : SpL (sp_rows_with K) ([.ref a, .int (j : Nat)] ++ []) H (nv (colOf T j)) :=
  spL_of fun _ e => ⟨a, T, n, j, rfl, h.mono e, hj, rfl⟩
theorem cal_rows_with (T : Tx K mg) : C8.Cal P w K mg base (1 + 1) "rows_with" (sp_rows_with K) [] := by
  refine T.d_rows_with.cal sc_rows_with (fun _ _ _ _ _ _ us hl => match us, hl with | [_, _], _ => rfl) ?_ ?_
  · rintro vs H Q E ⟨z, ⟨a, T, n, j, rfl, _⟩, _⟩; rfl
  · rintro f cdv A outer s H vs Q E hr ⟨z, ⟨a, Tb, n, j, rfl, hT, hj, rfl⟩, q⟩
    refine ⟨(tRet (tLc (iRng1 (tCons (tCB (rLn K) (tCons (tVar 0) tNil)) tNil)) (gName 2) (tB (tCall (sp_has K) [] C8.E0 (tCons (tVar 0) (tCons (tVar 2) (tCons (tVar 1) tNil))))) (tVar 2) [2])), (pss_one (ps_ret (pe_lc (own := [("row", 2)]) rfl sc_rows_with.nd (pi_range1 (by rfl) T.range (pa_cons (pe_callB (id := "len") cl_len (by rfl) T.len (by decide +kernel) (pa_cons (pv 0) pa_nil)) pa_nil)) (blkOk_by (own := [("row", 2)]) (by kernel_rfl)) (fun _ _ _ _ _ => (pg_name (i := 2) sc_rows_with.nd rfl (Or.inl rfl))) (fun _ _ _ _ _ => (pts_one (pt_val (C8.pe_c (cal_has T) hr (by decide) (by rfl) (pa_cons (pv 0) (pa_cons (pv 2) (pa_cons (pv 1) pa_nil))))))) (fun _ _ _ _ _ => (pv 2))))), ?_⟩
    have hl := hT.ln
    refine s_retL (el_filtR (p := fun i => gt Tb i j) (f := fun i : Nat => V.int (i : Nat)) (ev_lenTab hT (ev_var rfl)) (by omega) (fun _ => rfl) (fun i hi => ?_) (fun i hi _ => ev_var rfl)) q
    exact et_B (ev_call (ea_cons (ev_var rfl) (ea_cons (ev_var rfl) (ea_cons (ev_var rfl) ea_nil))) (sv_has hT hi (hj (List.length_pos_iff.mp (by omega)))))
end

section
variable {P : Program} {w : World} {K : PySem.W.Frag} {mg : Str → Option Value} {base : Heap}

/-! ### has, by ints -/
theorem sv_hasI {H : Hp} {a : Addr} {T : Tb} {n : Nat} {i j : Int} (h : At K H a T n) (hi : inT T i = true) (hj : ∃ k : Nat, j = (k : Nat) ∧ k < n) : SpV (sp_has K) ([.ref a, .int i, .int j] ++ []) H (.bl (gi T i j)) := by
  obtain ⟨i', rfl, hi'⟩ := inT_nat hi
  obtain ⟨j', rfl, hj'⟩ := hj
  rw [gi_nat]
  exact sv_has h hi' hj'
/-! ### are_things -/
def sp_are_things (K : PySem.W.Frag) : Sp := spV fun vs H z => ∃ a p T w, ∃ ns : List Int, vs = [.ref a, .ref p] ∧ At K H a T w ∧ SqL K H p (ns.map V.int) ∧ ns.length ≤ 1000 ∧ z = .bl (ns.all (inT T))
theorem sv_are_things {H : Hp} {a : Addr} {T : Tb} {n : Nat} {ns : List Int} {vs : List V} (h : At K H a T n) (hv : AvsAre K H [.v (.ref a), .s (ns.map V.int)] vs) (hz : ns.length ≤ 1000) : SpV (sp_are_things K) (vs ++ []) H (.bl (ns.all (inT T))) := by
  obtain ⟨_, rfl, p, _, rfl, hp, rfl⟩ := hv
  exact spV_of fun _ e => ⟨a, p, T, n, ns, rfl, h.mono e, ex_l e hp, hz, rfl⟩
theorem cal_are_things (T : Tx K mg) : C8.Cal P w K mg base (0 + 1) "are_things" (sp_are_things K) [] := by
  refine T.d_are_things.cal sc_are_things (fun _ _ _ _ _ _ us hl => match us, hl with | [_, _], _ => rfl) ?_ ?_
  · rintro vs H Q E ⟨z, ⟨a, p, T, n, ns, rfl, _⟩, _⟩; rfl
  · rintro f cdv A outer s H vs Q E hr ⟨z, ⟨a, p, Tb, n, ns, rfl, hT, hs, hz, rfl⟩, q⟩
    refine ⟨(tRet (tCB (rAll K) (tCons (tLc (iList K (tVar 1)) (gName 2) tYes (tChain rLeI rLtI (tC (.int 0)) (tVar 2) (tCB (rLn K) (tCons (tVar 0) tNil))) [2]) tNil))), (pss_one (ps_ret (pe_callB (id := "all") (cr_all rfl) (by rfl) T.all (by decide +kernel) (pa_cons (pe_lc (own := [("one", 2)]) rfl sc_are_things.nd (pi_list (pv 1)) (blkOk_by (own := [("one", 2)]) (by kernel_rfl)) (fun _ _ _ _ _ => (pg_name (i := 2) sc_are_things.nd rfl (Or.inl rfl))) (fun _ _ _ _ _ => pts_nil) (fun _ _ _ _ _ => (pe_chain op_le op_lt pe_int (pv 2) (pe_callB (id := "len") cl_len (by rfl) T.len (by decide +kernel) (pa_cons (pv 0) pa_nil))))) pa_nil)))), ?_⟩
    exact s_ret (ev_allM (l := ns) (p := inT Tb) (els (el_map (g := V.int) (f := fun x => V.bl (inT Tb x)) (evs_var rfl hs) (by omega) (fun _ => rfl) fun c hc => ev_chain ev_c (ev_var rfl) (fun _ => ev_lenTab hT (ev_var rfl)) rv_I0 fun _ => rv_I0))) q
theorem ev_things {σ : L2.St} {H : Hp} {a : Addr} {T : Tb} {n : Nat} {ns : List Int} {te tl : TE} {E : XK} (ha : Ev te σ H (.ref a)) (h : EvS K tl σ H (ns.map V.int)) (hT : At K H a T n) (hz : ns.length ≤ 1000) : Ev (tCall (sp_are_things K) [] E (tCons te (tCons tl tNil))) σ H (.bl (ns.all (inT T))) :=
  ev_callAv (eav_v ha (eav_s h eav_nil)) fun vs H1 e r => sv_are_things (hT.mono e) r hz
theorem ev_hasI {σ : L2.St} {H : Hp} {a : Addr} {T : Tb} {n : Nat} {i j : Int} {ta tb tc : TE} {E : XK} (h : At K H a T n) (ha : Ev ta σ H (.ref a)) (hb : Ev tb σ H (.int i)) (hc : Ev tc σ H (.int j)) (hi : inT T i = true) (hj : ∃ k : Nat, j = (k : Nat) ∧ k < n) :
    Ev (tCall (sp_has K) [] E (tCons ta (tCons tb (tCons tc tNil)))) σ H (.bl (gi T i j)) := ev_call (ea_cons ha (ea_cons hb (ea_cons hc ea_nil))) (sv_hasI h hi hj)
theorem evs_ints1 {σ : L2.St} {H : Hp} {i : Int} {ta : TE} (h : Ev ta σ H (.int i)) : EvS K (tLst (tCons ta tNil)) σ H ([i].map V.int) := els (el_lst (ea_cons h ea_nil) (show 1 ≤ 100000 by decide))
theorem evs_ints2 {σ : L2.St} {H : Hp} {i j : Int} {ta tb : TE} (h : Ev ta σ H (.int i)) (h2 : Ev tb σ H (.int j)) : EvS K (tLst (tCons ta (tCons tb tNil))) σ H ([i, j].map V.int) := els (el_lst (ea_cons h (ea_cons h2 ea_nil)) (show 2 ≤ 100000 by decide))
theorem evs_ints3 {σ : L2.St} {H : Hp} {i j k : Int} {ta tb tc : TE} (h : Ev ta σ H (.int i)) (h2 : Ev tb σ H (.int j)) (h3 : Ev tc σ H (.int k)) : EvS K (tLst (tCons ta (tCons tb (tCons tc tNil)))) σ H ([i, j, k].map V.int) := els (el_lst (ea_cons h (ea_cons h2 (ea_cons h3 ea_nil))) (show 3 ≤ 100000 by decide))
theorem evs_ints4 {σ : L2.St} {H : Hp} {i j k l : Int} {ta tb tc td : TE} (h : Ev ta σ H (.int i)) (h2 : Ev tb σ H (.int j)) (h3 : Ev tc σ H (.int k)) (h4 : Ev td σ H (.int l)) : EvS K (tLst (tCons ta (tCons tb (tCons tc (tCons td tNil))))) σ H ([i, j, k, l].map V.int) := els (el_lst (ea_cons h (ea_cons h2 (ea_cons h3 (ea_cons h4 ea_nil)))) (show 4 ≤ 100000 by decide))
/-! ### are_three -/
def sp_are_three (K : PySem.W.Frag) : Sp := spV fun vs H z => ∃ a T w i j k, vs = [.ref a, .int i, .int j, .int k] ∧ At K H a T w ∧ z = .bl (threeT T i j k)
theorem sv_are_three {H : Hp} {a : Addr} {T : Tb} {n : Nat} {i j k : Int} (h : At K H a T n) : SpV (sp_are_three K) ([.ref a, .int i, .int j, .int k] ++ []) H (.bl (threeT T i j k)) := spV_of fun _ e => ⟨a, T, n, i, j, k, rfl, h.mono e, rfl⟩
theorem cal_are_three (T : Tx K mg) : C8.Cal P w K mg base (1 + 1) "are_three" (sp_are_three K) [] := by
  refine T.d_are_three.cal sc_are_three (fun _ _ _ _ _ _ us hl => match us, hl with | [_, _, _, _], _ => rfl) ?_ ?_
  · rintro vs H Q E ⟨z, ⟨a, T, n, i, j, k, rfl, _⟩, _⟩; rfl
  · rintro f cdv A outer s H vs Q E hr ⟨z, ⟨a, Tb, n, i, j, k, rfl, hT, rfl⟩, q⟩
    refine ⟨(tRet (tAndV (tCall (sp_are_things K) [] C8.E0 (tCons (tVar 0) (tCons (tLst (tCons (tVar 1) (tCons (tVar 2) (tCons (tVar 3) tNil)))) tNil))) (tOp rEq (tLenS K (tLst (tCons (tVar 1) (tCons (tVar 2) (tCons (tVar 3) tNil))))) (tC (.int 3))))), (pss_one (ps_ret (pe_and (C8.pe_c (cal_are_things T) hr (by decide) (by rfl) (pa_cons (pv 0) (pa_cons (pe_lst (pa_cons (pv 1) (pa_cons (pv 2) (pa_cons (pv 3) pa_nil)))) pa_nil))) (pe_one (pe_cmpR op_eq (pe_lenS (by rfl) T.len (by rfl) T.set (pe_lst (pa_cons (pv 1) (pa_cons (pv 2) (pa_cons (pv 3) pa_nil))))) pe_int (nomark _)))))), ?_⟩
    exact s_ret (ev_is (ev_andV (ev_things (ev_var rfl) (evs_ints3 (ev_var rfl) (ev_var rfl) (ev_var rfl)) hT (Nat.le_of_ble_eq_true rfl)) fun _ => ev_op (ev_lenSet (ns := [i, j, k]) (evs_ints3 (ev_var rfl) (ev_var rfl) (ev_var rfl)) (Nat.le_of_ble_eq_true rfl)) ev_c (rv_eq rfl)) (by rw [three_diff])) q

end

end WA

namespace WA
open PySem PySem.Spec PyProof.Rows L2 Evl

section
variable {P : Program} {w : World} {K : PySem.W.Frag} {mg : Str → Option Value} {base : Heap}

/-! ### Self -/
theorem mak_Self (T : Tx K mg) : C8.Mak P w K mg base (0 + 1) "Self" (gaK K .self) (sp_init K .self) [] := by
  refine mak_of T.mk_Self T.g_Self T.f_Self_init sc_Self_init (fun _ _ _ _ _ _ us hl => match us, hl with | [_, _], _ => rfl) ?_ ?_
  · rintro vs H Q E ⟨x, dx, ans, ws, rfl, hk, hx, r, q⟩
    match ans, ws, hk, r with
    | .self i, _, _, ⟨_, rfl, rfl⟩ => rfl
  · rintro f cdv A outer s H vs Q E hr ⟨x, dx, ans, ws, rfl, hk, hx, r, q⟩
    refine ⟨(sFld K (tVar 0) (tVar 1) "one"), (pss_one (ps_fld (pv 0) (pv 1) rfl)), ?_⟩
    match ans, ws, hk, r, q with
    | .self i, _, _, ⟨_, rfl, rfl⟩, q => exact s_fld (ev_var rfl) (ev_var rfl) hx T.cl_Self T.n_Self_one (Nat.le_of_ble_eq_true rfl) fun H1 e1 => q _ ⟨dx, upd_same⟩ (Ax.upd e1)
theorem met_Self (T : Tx K mg) : C8.Met P w K mg base (1 + 1) (gaK K .self) "shows" (sp_shows K .self) [] := by
  refine met_of T.cl_Self T.sh_Self T.f_Self_shows sc_Self_shows (fun _ _ _ _ _ _ us hl => match us, hl with | [_, _], _ => rfl) ?_ ?_
  · rintro vs H Q E ⟨z, ⟨x, a, T, n, ans, H0, rfl, _⟩, _⟩; rfl
  · rintro f cdv A outer s H vs Q E hr ⟨z, ⟨x, a, Tb, n, ans, H0, rfl, hk, hA, hT, hs, rfl⟩, q⟩
    refine ⟨(tRet (tAndV (tCall (sp_are_things K) [] C8.E0 (tCons (tVar 1) (tCons (tLst (tCons (tFld K (tVar 0) "one") tNil)) tNil))) (tCall (sp_has K) [] C8.E0 (tCons (tVar 1) (tCons (tFld K (tVar 0) "one") (tCons (tFld K (tVar 0) "one") tNil)))))), (pss_one (ps_ret (pe_and (C8.pe_c (cal_are_things T) hr (by decide) (by rfl) (pa_cons (pv 1) (pa_cons (pe_lst (pa_cons (pe_fld (pv 0) rfl) pa_nil)) pa_nil))) (pe_one (C8.pe_c (cal_has T) hr (by decide) (by rfl) (pa_cons (pv 1) (pa_cons (pe_fld (pv 0) rfl) (pa_cons (pe_fld (pv 0) rfl) pa_nil)))))))), ?_⟩
    match ans, hk, hA, q with
    | .self i, _, hA, q =>
      have hs : n = Tb.length := hs
      subst hs
      have fo : Ev (tFld K (tVar 0) "one") (start nm_Self_shows [.ref x, .ref a]) H (.int i) := ev_fld (ev_var rfl) hA T.cl_Self T.n_Self_one rfl
      refine s_ret (ev_is (ev_andV (b := gi Tb i i) (ev_things (ev_var rfl) (evs_ints1 fo) hT (Nat.le_of_ble_eq_true rfl)) fun hb => ?_) (by simp [shown])) q
      have hi : inT Tb i = true := by simpa using hb
      exact ev_hasI hT (ev_var rfl) fo fo hi (inT_nat hi)
/-! ### Mutual -/
theorem mak_Mutual (T : Tx K mg) : C8.Mak P w K mg base (0 + 1) "Mutual" (gaK K .mutual) (sp_init K .mutual) [] := by
  refine mak_of T.mk_Mutual T.g_Mutual T.f_Mutual_init sc_Mutual_init (fun _ _ _ _ _ _ us hl => match us, hl with | [_, _, _], _ => rfl) ?_ ?_
  · rintro vs H Q E ⟨x, dx, ans, ws, rfl, hk, hx, r, q⟩
    match ans, ws, hk, r with
    | .mutual i j, _, _, ⟨_, rfl, _, rfl, rfl⟩ => rfl
  · rintro f cdv A outer s H vs Q E hr ⟨x, dx, ans, ws, rfl, hk, hx, r, q⟩
    refine ⟨(tSeq (sFld K (tVar 0) (tVar 1) "one") (sFld K (tVar 0) (tVar 2) "other")), (pss_cons (ps_fld (pv 0) (pv 1) rfl) (pss_one (ps_fld (pv 0) (pv 2) rfl))), ?_⟩
    match ans, ws, hk, r, q with
    | .mutual i j, _, _, ⟨_, rfl, _, rfl, rfl⟩, q => exact q_fld (ev_var rfl) (ev_var rfl) hx T.cl_Mutual T.n_Mutual_one (Nat.le_of_ble_eq_true rfl) fun H1 e1 => s_fld (ev_var rfl) (ev_var rfl) upd_same T.cl_Mutual T.n_Mutual_other (Nat.le_of_ble_eq_true rfl) fun H2 e2 => q _ ⟨dx, upd_same⟩ ((Ax.upd e1).trans (Ax.upd e2))
theorem met_Mutual (T : Tx K mg) : C8.Met P w K mg base (1 + 1) (gaK K .mutual) "shows" (sp_shows K .mutual) [] := by
  refine met_of T.cl_Mutual T.sh_Mutual T.f_Mutual_shows sc_Mutual_shows (fun _ _ _ _ _ _ us hl => match us, hl with | [_, _], _ => rfl) ?_ ?_
  · rintro vs H Q E ⟨z, ⟨x, a, T, n, ans, H0, rfl, _⟩, _⟩; rfl
  · rintro f cdv A outer s H vs Q E hr ⟨z, ⟨x, a, Tb, n, ans, H0, rfl, hk, hA, hT, hs, rfl⟩, q⟩
    refine ⟨(tSeq (tIfS (tOr (tTest (tOp rEq (tFld K (tVar 0) "one") (tFld K (tVar 0) "other"))) (tNot (tB (tCall (sp_are_things K) [] C8.E0 (tCons (tVar 1) (tCons (tLst (tCons (tFld K (tVar 0) "one") (tCons (tFld K (tVar 0) "other") tNil))) tNil)))))) (tRet (tC (.bl false))) tNext) (tRet (tAndV (tCall (sp_has K) [] C8.E0 (tCons (tVar 1) (tCons (tFld K (tVar 0) "one") (tCons (tFld K (tVar 0) "other") tNil)))) (tCall (sp_has K) [] C8.E0 (tCons (tVar 1) (tCons (tFld K (tVar 0) "other") (tCons (tFld K (tVar 0) "one") tNil))))))), (pss_cons (ps_if (PW.pt (pw_or (pt_cmpR op_eq (pe_fld (pv 0) rfl) (pe_fld (pv 0) rfl) (nomark _)) (pw_or1 (pt_not (pt_val (C8.pe_c (cal_are_things T) hr (by decide) (by rfl) (pa_cons (pv 1) (pa_cons (pe_lst (pa_cons (pe_fld (pv 0) rfl) (pa_cons (pe_fld (pv 0) rfl) pa_nil))) pa_nil)))))))) (pss_one (ps_ret pe_bl)) pss_nil) (pss_one (ps_ret (pe_and (C8.pe_c (cal_has T) hr (by decide) (by rfl) (pa_cons (pv 1) (pa_cons (pe_fld (pv 0) rfl) (pa_cons (pe_fld (pv 0) rfl) pa_nil)))) (pe_one (C8.pe_c (cal_has T) hr (by decide) (by rfl) (pa_cons (pv 1) (pa_cons (pe_fld (pv 0) rfl) (pa_cons (pe_fld (pv 0) rfl) pa_nil))))))))), ?_⟩
    match ans, hk, hA, q with
    | .mutual i j, _, hA, q =>
      have hs : n = Tb.length := hs
      subst hs
      have fo : ∀ H1, Ex H H1 → Ev (tFld K (tVar 0) "one") (start nm_Mutual_shows [.ref x, .ref a]) H1 (.int i) := fun H1 e => ev_fld (ev_var rfl) (hA.mono e) T.cl_Mutual T.n_Mutual_one rfl
      have ft : ∀ H1, Ex H H1 → Ev (tFld K (tVar 0) "other") (start nm_Mutual_shows [.ref x, .ref a]) H1 (.int j) := fun H1 e => ev_fld (ev_var rfl) (hA.mono e) T.cl_Mutual T.n_Mutual_other rfl
      have e0 := Ex.refl H
      refine q_when (et_or (et_test (ev_op (fo H e0) (ft H e0) (rv_eq rfl))) fun _ => et_not (et_B (ev_things (ev_var rfl) (evs_ints2 (fo H e0) (ft H e0)) hT (Nat.le_of_ble_eq_true rfl)))) (fun hb H1 e1 => ?_) fun hb H1 e1 => ?_
      · refine s_ret (ev_is ev_c (by rw [dec_int] at hb; simp [shown] at hb ⊢; grind)) fun H2 e2 => q H2 (e1.trans e2)
      · rw [dec_int] at hb
        have hb' : ¬ i = j ∧ inT Tb i = true ∧ inT Tb j = true := by simpa using hb
        obtain ⟨h0, h1, h2⟩ := hb'
        have hT1 := hT.mono e1
        exact s_ret (ev_is (ev_andV (ev_hasI hT1 (ev_var rfl) (fo H1 e1) (ft H1 e1) h1 (inT_nat h2)) fun _ => ev_hasI hT1 (ev_var rfl) (ft H1 e1) (fo H1 e1) h2 (inT_nat h1)) (by simp [shown, h1, h2, h0])) fun H2 e2 => q H2 (e1.trans e2)
/-! ### Beside -/
theorem mak_Beside (T : Tx K mg) : C8.Mak P w K mg base (0 + 1) "Beside" (gaK K .beside) (sp_init K .beside) [] := by
  refine mak_of T.mk_Beside T.g_Beside T.f_Beside_init sc_Beside_init (fun _ _ _ _ _ _ us hl => match us, hl with | [_, _, _, _], _ => rfl) ?_ ?_
  · rintro vs H Q E ⟨x, dx, ans, ws, rfl, hk, hx, r, q⟩
    match ans, ws, hk, r with
    | .beside i j k, _, _, ⟨_, rfl, _, rfl, _, rfl, rfl⟩ => rfl
  · rintro f cdv A outer s H vs Q E hr ⟨x, dx, ans, ws, rfl, hk, hx, r, q⟩
    refine ⟨(tSeq (sFld K (tVar 0) (tVar 1) "one") (tSeq (sFld K (tVar 0) (tVar 2) "other") (sFld K (tVar 0) (tVar 3) "third"))), (pss_cons (ps_fld (pv 0) (pv 1) rfl) (pss_cons (ps_fld (pv 0) (pv 2) rfl) (pss_one (ps_fld (pv 0) (pv 3) rfl)))), ?_⟩
    match ans, ws, hk, r, q with
    | .beside i j k, _, _, ⟨_, rfl, _, rfl, _, rfl, rfl⟩, q => exact q_fld (ev_var rfl) (ev_var rfl) hx T.cl_Beside T.n_Beside_one (Nat.le_of_ble_eq_true rfl) fun H1 e1 => q_fld (ev_var rfl) (ev_var rfl) upd_same T.cl_Beside T.n_Beside_other (Nat.le_of_ble_eq_true rfl) fun H2 e2 => s_fld (ev_var rfl) (ev_var rfl) upd_same T.cl_Beside T.n_Beside_third (Nat.le_of_ble_eq_true rfl) fun H3 e3 => q _ ⟨dx, upd_same⟩ (((Ax.upd e1).trans (Ax.upd e2)).trans (Ax.upd e3))
theorem met_Beside (T : Tx K mg) : C8.Met P w K mg base (2 + 1) (gaK K .beside) "shows" (sp_shows K .beside) [] := by
  refine met_of T.cl_Beside T.sh_Beside T.f_Beside_shows sc_Beside_shows (fun _ _ _ _ _ _ us hl => match us, hl with | [_, _], _ => rfl) ?_ ?_
  · rintro vs H Q E ⟨z, ⟨x, a, T, n, ans, H0, rfl, _⟩, _⟩; rfl
  · rintro f cdv A outer s H vs Q E hr ⟨z, ⟨x, a, Tb, n, ans, H0, rfl, hk, hA, hT, hs, rfl⟩, q⟩
    refine ⟨(tSeq (tIfS (tOr (tNot (tB (tCall (sp_are_three K) [] C8.E0 (tCons (tVar 1) (tCons (tFld K (tVar 0) "one") (tCons (tFld K (tVar 0) "other") (tCons (tFld K (tVar 0) "third") tNil))))))) (tNot (tB (tCall (sp_has K) [] C8.E0 (tCons (tVar 1) (tCons (tFld K (tVar 0) "one") (tCons (tFld K (tVar 0) "other") tNil))))))) (tRet (tC (.bl false))) tNext) (tRet (tAndV (tNotV (tCall (sp_has K) [] C8.E0 (tCons (tVar 1) (tCons (tFld K (tVar 0) "one") (tCons (tFld K (tVar 0) "third") tNil))))) (tNotV (tCall (sp_has K) [] C8.E0 (tCons (tVar 1) (tCons (tFld K (tVar 0) "third") (tCons (tFld K (tVar 0) "other") tNil)))))))), (pss_cons (ps_if (PW.pt (pw_or (pt_not (pt_val (C8.pe_c (cal_are_three T) hr (by decide) (by rfl) (pa_cons (pv 1) (pa_cons (pe_fld (pv 0) rfl) (pa_cons (pe_fld (pv 0) rfl) (pa_cons (pe_fld (pv 0) rfl) pa_nil))))))) (pw_or1 (pt_not (pt_val (C8.pe_c (cal_has T) hr (by decide) (by rfl) (pa_cons (pv 1) (pa_cons (pe_fld (pv 0) rfl) (pa_cons (pe_fld (pv 0) rfl) pa_nil))))))))) (pss_one (ps_ret pe_bl)) pss_nil) (pss_one (ps_ret (pe_and (pe_not (C8.pe_c (cal_has T) hr (by decide) (by rfl) (pa_cons (pv 1) (pa_cons (pe_fld (pv 0) rfl) (pa_cons (pe_fld (pv 0) rfl) pa_nil))))) (pe_one (pe_not (C8.pe_c (cal_has T) hr (by decide) (by rfl) (pa_cons (pv 1) (pa_cons (pe_fld (pv 0) rfl) (pa_cons (pe_fld (pv 0) rfl) pa_nil)))))))))), ?_⟩
    match ans, hk, hA, q with
    | .beside i j k, _, hA, q =>
      have hs : n = Tb.length := hs
      subst hs
      have f1 : ∀ H1, Ex H H1 → Ev (tFld K (tVar 0) "one") (start nm_Beside_shows [.ref x, .ref a]) H1 (.int i) := fun H1 e => ev_fld (ev_var rfl) (hA.mono e) T.cl_Beside T.n_Beside_one rfl
      have f2 : ∀ H1, Ex H H1 → Ev (tFld K (tVar 0) "other") (start nm_Beside_shows [.ref x, .ref a]) H1 (.int j) := fun H1 e => ev_fld (ev_var rfl) (hA.mono e) T.cl_Beside T.n_Beside_other rfl
      have f3 : ∀ H1, Ex H H1 → Ev (tFld K (tVar 0) "third") (start nm_Beside_shows [.ref x, .ref a]) H1 (.int k) := fun H1 e => ev_fld (ev_var rfl) (hA.mono e) T.cl_Beside T.n_Beside_third rfl
      have e0 := Ex.refl H
      refine q_when (b := !threeT Tb i j k || !gi Tb i j) (et_or (et_not (et_B (ev_call (ea_cons (ev_var rfl) (ea_cons (f1 H e0) (ea_cons (f2 H e0) (ea_cons (f3 H e0) ea_nil)))) (sv_are_three hT)))) fun hb => et_not (et_B (ev_hasI hT (ev_var rfl) (f1 H e0) (f2 H e0) ?_ ?_))) (fun hb H1 e1 => ?_) fun hb H1 e1 => ?_
      · have hb' : threeT Tb i j k = true := by simpa using hb
        exact (three_in hb').1
      · have hb' : threeT Tb i j k = true := by simpa using hb
        exact inT_nat (three_in hb').2.1
      · exact s_ret (ev_is ev_c (by cases h1 : threeT Tb i j k <;> cases h2 : gi Tb i j <;> simp [shown, h1, h2] at hb ⊢)) fun H2 e2 => q H2 (e1.trans e2)
      · have hb' : threeT Tb i j k = true ∧ gi Tb i j = true := by simpa using hb
        obtain ⟨h1, h2, h3⟩ := three_in hb'.1
        have hT1 := hT.mono e1
        exact s_ret (ev_is (ev_andV (ev_notV (ev_hasI hT1 (ev_var rfl) (f1 H1 e1) (f3 H1 e1) h1 (inT_nat h3))) fun _ => ev_notV (ev_hasI hT1 (ev_var rfl) (f3 H1 e1) (f2 H1 e1) h3 (inT_nat h2))) (by simp [shown, hb'])) fun H2 e2 => q H2 (e1.trans e2)
/-! ### Ranks -/
theorem mak_Ranks (T : Tx K mg) : C8.Mak P w K mg base (0 + 1) "Ranks" (gaK K .ranks) (sp_init K .ranks) [] := by
  refine mak_of T.mk_Ranks T.g_Ranks T.f_Ranks_init sc_Ranks_init (fun _ _ _ _ _ _ us hl => match us, hl with | [_, _], _ => rfl) ?_ ?_
  · rintro vs H Q E ⟨x, dx, ans, ws, rfl, hk, hx, r, q⟩
    match ans, ws, hk, r with
    | .ranks l, _, _, ⟨_, _, rfl, _, rfl⟩ => rfl
  · rintro f cdv A outer s H vs Q E hr ⟨x, dx, ans, ws, rfl, hk, hx, r, q⟩
    refine ⟨(sFld K (tVar 0) (tCB (rLs K) (tCons (tVar 1) tNil)) "ranks"), (pss_one (ps_fld (pv 0) (pe_callTy (T := "list") cl_list (by rfl) T.list (by decide +kernel) (pa_cons (pv 1) pa_nil)) rfl)), ?_⟩
    match ans, ws, hk, r, q with
    | .ranks l, _, _, ⟨p, _, rfl, hp, rfl⟩, q => exact s_fldL (el_copy (evs_var rfl hp)) (ev_var rfl) hx T.cl_Ranks T.n_Ranks_ranks (Nat.le_of_ble_eq_true rfl) fun m H1 hm e1 h1 => q _ ⟨m, ⟨dx, upd_same⟩, hm, by rw [upd_ne (fun z => by rw [z, hx] at hm; cases hm)]; exact h1⟩ (Ax.upd e1)
theorem met_Ranks (T : Tx K mg) : C8.Met P w K mg base (0 + 1) (gaK K .ranks) "shows" (sp_shows K .ranks) [] := by
  refine met_of T.cl_Ranks T.sh_Ranks T.f_Ranks_shows sc_Ranks_shows (fun _ _ _ _ _ _ us hl => match us, hl with | [_, _], _ => rfl) ?_ ?_
  · rintro vs H Q E ⟨z, ⟨x, a, T, n, ans, H0, rfl, _⟩, _⟩; rfl
  · rintro f cdv A outer s H vs Q E hr ⟨z, ⟨x, a, Tb, n, ans, H0, rfl, hk, hA, hT, hs, rfl⟩, q⟩
    refine ⟨(tSeq (tIfS (tTest (tOp rNe (tCB (rLn K) (tCons (tFld K (tVar 0) "ranks") tNil)) (tCB (rLn K) (tCons (tVar 1) tNil)))) (tRet (tC (.bl false))) tNext) (tSeq (tFor (iZip K (tCons (tVar 1) (tCons (tFld K (tVar 0) "ranks") tNil))) (gTup K 2 (gCons (gName 2) (gCons (gName 3) gNil))) (tIfS (tTest (tOp rNe (tM1 (rJoin K) (tC (.str "")) (tLc (iList K (tFld K (tVar 0) "ranks")) (gName 4) tYes (tIf (tTest (tOp rLtI (tVar 3) (tVar 4))) (tC (.str "x")) (tC (.str "-"))) [4])) (tVar 2))) (tRet (tC (.bl false))) tNext)) (tRet (tC (.bl true))))), (pss_cons (ps_if (pt_cmpR op_ne (pe_callB (id := "len") cl_len (by rfl) T.len (by decide +kernel) (pa_cons (pe_fld (pv 0) rfl) pa_nil)) (pe_callB (id := "len") cl_len (by rfl) T.len (by decide +kernel) (pa_cons (pv 1) pa_nil)) (nomark _)) (pss_one (ps_ret pe_bl)) pss_nil) (pss_cons (ps_for PassesOwn.never rfl (pi_zip (by rfl) T.zip (pa_cons (pv 1) (pa_cons (pe_fld (pv 0) rfl) pa_nil))) (pg_tup rfl (pgs_cons (pg_name (i := 2) sc_Ranks_shows.nd rfl (Or.inl rfl)) (pgs_cons (pg_name (i := 3) sc_Ranks_shows.nd rfl (Or.inr rfl)) pgs_nil))) (pss_one (ps_if (pt_cmpR op_ne (pe_joinR pe_str (pe_lc (own := [("theirs", 4)]) rfl sc_Ranks_shows.nd (pi_list (pe_fld (pv 0) rfl)) (blkOk_by (own := [("theirs", 4)]) (by kernel_rfl)) (fun _ _ _ _ _ => (pg_name (i := 4) sc_Ranks_shows.nd rfl (Or.inl rfl))) (fun _ _ _ _ _ => pts_nil) (fun _ _ _ _ _ => (pe_ifExp (pt_cmpR op_lt (pv 3) (pv 4) (nomark _)) pe_str pe_str)))) (pv 2) (nomark _)) (pss_one (ps_ret pe_bl)) pss_nil))) (pss_one (ps_ret pe_bl)))), ?_⟩
    match ans, hk, hA, q with
    | .ranks r, _, ⟨l, hA, hl⟩, q =>
      have hs : n = Tb.length := hs
      subst hs
      have hln := hT.ln
      have fr : ∀ {σ : L2.St} (H1 : Hp), Ex H H1 → σ[0]? = some (some (.ref x)) → EvS K (tFld K (tVar 0) "ranks") σ H1 (r.map V.int) := fun H1 e h => evs_fld (ev_var h) (hA.mono e) T.cl_Ranks T.n_Ranks_ranks rfl (hl.mono e)
      refine q_when (et_test (ev_op (ev_lenInts (fr H (Ex.refl H) rfl)) (ev_lenTab hT (ev_var rfl)) (rv_ne rfl))) (fun hb H1 e1 => ?_) fun hb H1 e1 => ?_
      · have hb' : r.length ≠ Tb.length := by rw [dec_int] at hb; intro z; simp [z] at hb
        exact s_ret (ev_is ev_c (by simp [shown, ranksOk, hb'])) fun H2 e2 => q H2 (e1.trans e2)
      · have hb' : r.length = Tb.length := by rw [dec_int] at hb; simp at hb; omega
        have hT1 := hT.mono e1
        refine q_forZ (l := Tb) (m := r) (f := fun r => V.str (rs r)) (f' := V.int) (evs_var rfl hT1.sq) (fr H1 e1 rfl) hb'.symm (fun k σ' => (∀ i, i < k → ∀ row m, Tb[i]? = some row → r[i]? = some m → (r.map fun t => decide (m < t)) = row) ∧ ∃ y2 y3, σ' = [some (.ref x), some (.ref a), y2, y3, none]) ⟨fun i hi => absurd hi (Nat.not_lt_zero _), _, _, rfl⟩ ?_ ?_
        · rintro k row m σ' H2 hrow hm e2 ⟨hP, y2, y3, rfl⟩ D' hrt hbk hnx
          have e12 := e1.trans e2
          refine s_when (b := !decide ((r.map fun t => decide (m < t)) = row)) (et_is (et_test (ev_op (ev_signsL (f := V.int) (p := fun t => decide (m < t)) (fr H2 e12 rfl) (by omega) (fun _ => rfl) fun t ht => et_test (ev_op (ev_var rfl) (ev_var rfl) rv_I0)) (ev_var rfl) (rv_ne rfl))) (by rw [dec_rs])) (fun hb3 H3 e3 => ?_) fun hb3 H3 e3 => ?_
          · refine s_ret ev_c fun H4 e4 => ?_
            rw [hrt]
            have hf : ranksOk r Tb = false := ranks_bad hrow hm (by simpa using hb3)
            have q' := q H4 ((e12.trans e3).trans e4)
            simp only [shown, hf] at q'
            exact q'
          · refine hnx _ _ e3 ⟨fun i hi row' m' h1 h2 => ?_, _, _, rfl⟩
            by_cases hik : i < k
            · exact hP i hik row' m' h1 h2
            · have : i = k := by omega
              subst this
              rw [hrow] at h1; rw [hm] at h2
              cases h1; cases h2
              simpa using hb3
        · rintro σ' H2 e2 ⟨hP, y2, y3, rfl⟩
          have hf : ranksOk r Tb = true := ranks_good hb' fun i row m h1 h2 => hP i (List.getElem?_eq_some_iff.mp h1).1 row m h1 h2
          refine s_ret ev_c fun H3 e3 => ?_
          have q' := q H3 ((e1.trans e2).trans e3)
          simp only [shown, hf] at q'
          exact q'

end

end WA

namespace WA
open PySem PySem.Spec PyProof.Rows L2 Evl

section
variable {P : Program} {w : World} {K : PySem.W.Frag} {mg : Str → Option Value} {base : Heap}

/-! ### levels_of -/
def sp_levels_of (K : PySem.W.Frag) : Sp := spL fun vs H xs => ∃ a sz, vs = [.ref a] ∧ SqL K H a (nv sz) ∧ sz.length < 64 ∧ xs = nv (levelsN sz)
theorem el_levels {σ : L2.St} {H : Hp} {sz : List Nat} {te : TE} {E : XK} (h : EvS K te σ H (nv sz)) (hz : sz.length < 64) : EvL (tCall (sp_levels_of K) [] E (tCons te tNil)) σ H (nv (levelsN sz)) :=
  el_callAv (eav_s h eav_nil) fun vs H1 e r => by
    obtain ⟨p, _, rfl, hp, rfl⟩ := r
    exact spL_of fun _ e2 => ⟨p, sz, rfl, ex_l e2 hp, hz, rfl⟩
theorem cal_levels_of (T : Tx K mg) : C8.Cal P w K mg base (0 + 1) "levels_of" (sp_levels_of K) [] := by
  refine T.d_levels_of.cal sc_levels_of (fun _ _ _ _ _ _ us hl => match us, hl with | [_], _ => rfl) ?_ ?_
  · rintro vs H Q E ⟨z, ⟨a, sz, rfl, _⟩, _⟩; rfl
  · rintro f cdv A outer s H vs Q E hr ⟨z, ⟨a, sz, rfl, hs, hz, rfl⟩, q⟩
    refine ⟨(tSeq (tAsg (tCB (rSortedSet w) (tCons (tCB (rSetI K w) (tCons (tVar 0) tNil)) tNil)) (gName 1)) (tRet (tLc (iList K (tVar 0)) (gName 2) tYes (tBM K "list" (rIndex K) (tVar 1) (tCons (tVar 2) tNil)) [2]))), (pss_cons (ps_set (i := 1) sc_levels_of.nd rfl (Or.inr rfl) (pe_callB (id := "sorted") (cr_sortedSet rfl) (by rfl) T.sorted (by decide +kernel) (pa_cons (pe_callTy (T := "set") (cr_setI rfl) (by rfl) T.set (by decide +kernel) (pa_cons (pv 0) pa_nil)) pa_nil))) (pss_one (ps_ret (pe_lc (own := [("size", 2)]) rfl sc_levels_of.nd (pi_list (pv 0)) (blkOk_by (own := [("size", 2)]) (by kernel_rfl)) (fun _ _ _ _ _ => (pg_name (i := 2) sc_levels_of.nd rfl (Or.inl rfl))) (fun _ _ _ _ _ => pts_nil) (fun _ _ _ _ _ => (pe_bm PySem.F.plainAttrs_list PySem.F.slot_list_index PySem.F.type_list_index mt_index (pv 1) (pa_cons (pv 2) pa_nil))))))), ?_⟩
    have hs' : SqL K H a ((intsOf sz).map V.int) := by rw [← nv_int]; exact hs
    refine q_asgLP (elp_sortedSet (ns := intsOf sz) (evs_var rfl hs') (by rw [intsOf_len]; omega)) fun xs p H1 hP hp e1 h1 => ?_
    obtain ⟨ks, rfl, hk⟩ := hP
    exact s_retL (EvL.is (el_map (l := sz) (g := fun i : Nat => V.int (i : Nat)) (f := fun s => V.int (lev sz s : Nat)) (evs_var rfl (ex_l e1 hs)) (by omega) (fun _ => rfl) fun s hm =>
      ev_index (evs_var rfl (sq_of h1)) (ev_var rfl) (lev_at hk.1 hk.2 hm).1 fun m z hml hzz => Int.ne_of_lt ((lev_at hk.1 hk.2 hm).2 m z hml hzz)) (by unfold nv levelsN; rw [List.map_map]; rfl)) fun p2 H2 hp2 e2 h2 => q p2 H2 (fresh_back e1 hp2) (e1.trans e2) h2
/-! ### sizes_of -/
def sp_sizes_of (K : PySem.W.Frag) : Sp := spL fun vs H xs => ∃ a T, vs = [.ref a] ∧ At K H a T T.length ∧ xs = nv (sizesT T)
theorem sl_sizes_of {H : Hp} {a : Addr} {T : Tb} (h : At K H a T T.length) : SpL (sp_sizes_of K) ([.ref a] ++ []) H (nv (sizesT T)) := spL_of fun _ e => ⟨a, T, rfl, h.mono e, rfl⟩
theorem cal_sizes_of (T : Tx K mg) : C8.Cal P w K mg base (2 + 1) "sizes_of" (sp_sizes_of K) [] := by
  refine T.d_sizes_of.cal sc_sizes_of (fun _ _ _ _ _ _ us hl => match us, hl with | [_], _ => rfl) ?_ ?_
  · rintro vs H Q E ⟨z, ⟨a, T, rfl, _⟩, _⟩; rfl
  · rintro f cdv A outer s H vs Q E hr ⟨z, ⟨a, Tb, rfl, hT, rfl⟩, q⟩
    refine ⟨(tRet (tLc (iRng1 (tCons (tCB (rLn K) (tCons (tVar 0) tNil)) tNil)) (gName 1) tYes (tCB (rLn K) (tCons (tCall (sp_rows_with K) [] C8.E0 (tCons (tVar 0) (tCons (tVar 1) tNil))) tNil)) [1])), (pss_one (ps_ret (pe_lc (own := [("thing", 1)]) rfl sc_sizes_of.nd (pi_range1 (by rfl) T.range (pa_cons (pe_callB (id := "len") cl_len (by rfl) T.len (by decide +kernel) (pa_cons (pv 0) pa_nil)) pa_nil)) (blkOk_by (own := [("thing", 1)]) (by kernel_rfl)) (fun _ _ _ _ _ => (pg_name (i := 1) sc_sizes_of.nd rfl (Or.inl rfl))) (fun _ _ _ _ _ => pts_nil) (fun _ _ _ _ _ => (pe_callB (id := "len") cl_len (by rfl) T.len (by decide +kernel) (pa_cons (C8.pe_c (cal_rows_with T) hr (by decide) (by rfl) (pa_cons (pv 0) (pa_cons (pv 1) pa_nil))) pa_nil)))))), ?_⟩
    have hl := hT.ln
    refine s_retL (EvL.is (el_mapR (f := fun i : Nat => V.int (szT Tb i : Nat)) (ev_lenTab hT (ev_var rfl)) (by omega) (fun _ => rfl) fun i hi => ?_) (by unfold nv sizesT; rw [List.map_map]; rfl)) q
    refine ev_is (ev_lenS (els (el_call (ea_cons (ev_var rfl) (ea_cons (ev_var rfl) ea_nil)) (sl_rows_with hT fun _ => hi)))) ?_
    rw [nv_len]; rfl
/-! ### self_of -/
def sp_self_of (K : PySem.W.Frag) : Sp := spOpt K (preSq K) (fun T ans => ans.kd = .self ∧ shown ans T = true) NoSelf
theorem cal_self_of (T : Tx K mg) : C8.Cal P w K mg base (2 + 1) "self_of" (sp_self_of K) [] := by
  refine T.d_self_of.cal sc_self_of (fun _ _ _ _ _ _ us hl => match us, hl with | [_], _ => rfl) ?_ ?_
  · rintro vs H Q E ⟨T, ⟨a, rfl, _⟩, _⟩; rfl
  · rintro f cdv A outer s H vs Q E hr ⟨Tb, ⟨a, rfl, hT, hz⟩, q1, q2⟩
    refine ⟨(tSeq (tFor (iRng1 (tCons (tCB (rLn K) (tCons (tVar 0) tNil)) tNil)) (gName 1) (tIfS (tB (tCall (sp_has K) [] C8.E0 (tCons (tVar 0) (tCons (tVar 1) (tCons (tVar 1) tNil))))) (tRet (tMake (gaK K .self) (sp_init K .self) [] C8.E0 (tCons (tVar 1) tNil))) tNext)) (tRet (tC .non))), (pss_cons (ps_for PassesOwn.never rfl (pi_range1 (by rfl) T.range (pa_cons (pe_callB (id := "len") cl_len (by rfl) T.len (by decide +kernel) (pa_cons (pv 0) pa_nil)) pa_nil)) (pg_name (i := 1) sc_self_of.nd rfl (Or.inl rfl)) (pss_one (ps_if (pt_val (C8.pe_c (cal_has T) hr (by decide) (by rfl) (pa_cons (pv 0) (pa_cons (pv 1) (pa_cons (pv 1) pa_nil))))) (pss_one (ps_ret (C8.pe_mk (mak_Self T) hr (by decide) (by rfl) (pa_cons (pv 1) pa_nil)))) pss_nil))) (pss_one (ps_ret pe_non))), ?_⟩
    have hl := hT.ln
    refine q_forR (ev_lenTab hT (ev_var rfl)) (by omega) (fun k σ' => (∀ i, i < k → gt Tb i i = false) ∧ ∃ y1, σ' = [some (.ref a), y1]) ⟨fun i hi => absurd hi (Nat.not_lt_zero _), _, rfl⟩ ?_ ?_
    · rintro k σ' H1 hk e1 ⟨hP, y1, rfl⟩ D' hrt hbk hnx
      have h1 := hT.mono e1
      refine s_when (et_B (ev_call (ea_cons (ev_var rfl) (ea_cons (ev_var rfl) (ea_cons (ev_var rfl) ea_nil))) (sv_has h1 hk hk))) (fun hb H2 e2 => ?_) fun hb H2 e2 => ?_
      · refine s_retO (eo_make (ans := .self (k : Nat)) (ear_i (ev_var rfl) ear_nil) rfl) fun x H3 hx e3 hA => ?_
        rw [hrt]
        have e12 := e1.trans e2
        exact q1 _ x H3 ⟨rfl, by simp only [shown, gi_nat]; rw [inT_of hk, hb]; rfl⟩ (fresh_back e12 hx) (e12.trans e3) (hA.back e12)
      · refine hnx _ _ e2 ⟨fun i hi => ?_, _, rfl⟩
        by_cases hik : i < k
        · exact hP i hik
        · have : i = k := by omega
          rw [this]; exact hb
    · rintro σ' H1 e1 ⟨hP, y1, rfl⟩
      exact s_ret ev_c fun H2 e2 => q2 hP H2 (e1.trans e2)
/-! ### mutual_of -/
def sp_mutual_of (K : PySem.W.Frag) : Sp := spOpt K (preSq K) (fun T ans => ans.kd = .mutual ∧ shown ans T = true) (fun T => ∀ i j, i < T.length → j < i → ¬ (gt T i j = true ∧ gt T j i = true))
theorem cal_mutual_of (T : Tx K mg) : C8.Cal P w K mg base (2 + 1) "mutual_of" (sp_mutual_of K) [] := by
  refine T.d_mutual_of.cal sc_mutual_of (fun _ _ _ _ _ _ us hl => match us, hl with | [_], _ => rfl) ?_ ?_
  · rintro vs H Q E ⟨T, ⟨a, rfl, _⟩, _⟩; rfl
  · rintro f cdv A outer s H vs Q E hr ⟨Tb, ⟨a, rfl, hT, hz⟩, q1, q2⟩
    refine ⟨(tSeq (tFor (iRng1 (tCons (tCB (rLn K) (tCons (tVar 0) tNil)) tNil)) (gName 1) (tFor (iRng1 (tCons (tVar 1) tNil)) (gName 2) (tIfS (tAnd (tB (tCall (sp_has K) [] C8.E0 (tCons (tVar 0) (tCons (tVar 1) (tCons (tVar 2) tNil))))) (tB (tCall (sp_has K) [] C8.E0 (tCons (tVar 0) (tCons (tVar 2) (tCons (tVar 1) tNil)))))) (tRet (tMake (gaK K .mutual) (sp_init K .mutual) [] C8.E0 (tCons (tVar 2) (tCons (tVar 1) tNil)))) tNext))) (tRet (tC .non))), (pss_cons (ps_for PassesOwn.never rfl (pi_range1 (by rfl) T.range (pa_cons (pe_callB (id := "len") cl_len (by rfl) T.len (by decide +kernel) (pa_cons (pv 0) pa_nil)) pa_nil)) (pg_name (i := 1) sc_mutual_of.nd rfl (Or.inl rfl)) (pss_one (ps_for PassesOwn.never rfl (pi_range1 (by rfl) T.range (pa_cons (pv 1) pa_nil)) (pg_name (i := 2) sc_mutual_of.nd rfl (Or.inl rfl)) (pss_one (ps_if (PW.pt (pw_and (pt_val (C8.pe_c (cal_has T) hr (by decide) (by rfl) (pa_cons (pv 0) (pa_cons (pv 1) (pa_cons (pv 2) pa_nil))))) (pw_and1 (pt_val (C8.pe_c (cal_has T) hr (by decide) (by rfl) (pa_cons (pv 0) (pa_cons (pv 2) (pa_cons (pv 1) pa_nil)))))))) (pss_one (ps_ret (C8.pe_mk (mak_Mutual T) hr (by decide) (by rfl) (pa_cons (pv 2) (pa_cons (pv 1) pa_nil))))) pss_nil))))) (pss_one (ps_ret pe_non))), ?_⟩
    have hl := hT.ln
    refine q_forR (ev_lenTab hT (ev_var rfl)) (by omega) (fun k σ' => (∀ i j, i < k → j < i → ¬ (gt Tb i j = true ∧ gt Tb j i = true)) ∧ ∃ y1 y2, σ' = [some (.ref a), y1, y2]) ⟨fun i j hi => absurd hi (Nat.not_lt_zero _), _, _, rfl⟩ ?_ ?_
    · rintro k σ' H1 hk e1 ⟨hP, y1, y2, rfl⟩ D' hrt hbk hnx
      refine s_forR (ev_var rfl) (by omega) (fun m σ' => (∀ j, j < m → ¬ (gt Tb k j = true ∧ gt Tb j k = true)) ∧ ∃ y2, σ' = [some (.ref a), some (.int (k : Nat)), y2]) ⟨fun j hj => absurd hj (Nat.not_lt_zero _), _, rfl⟩ ?_ ?_
      · rintro m σ' H2 hm e2 ⟨hP2, y2, rfl⟩ D2 hrt2 hbk2 hnx2
        have e12 := e1.trans e2
        have h2 := hT.mono e12
        refine s_when (et_and (et_B (ev_call (ea_cons (ev_var rfl) (ea_cons (ev_var rfl) (ea_cons (ev_var rfl) ea_nil))) (sv_has h2 hk (show m < _ by omega)))) fun _ => et_B (ev_call (ea_cons (ev_var rfl) (ea_cons (ev_var rfl) (ea_cons (ev_var rfl) ea_nil))) (sv_has h2 (show m < _ by omega) hk))) (fun hb H3 e3 => ?_) fun hb H3 e3 => ?_
        · refine s_retO (eo_make (ans := .mutual (m : Nat) (k : Nat)) (ear_i (ev_var rfl) (ear_i (ev_var rfl) ear_nil)) rfl) fun x H4 hx e4 hA => ?_
          rw [hrt2, hrt]
          have e13 := e12.trans e3
          have hb' : gt Tb k m = true ∧ gt Tb m k = true := by simpa using hb
          refine q1 _ x H4 ⟨rfl, ?_⟩ (fresh_back e13 hx) (e13.trans e4) (hA.back e13)
          simp only [shown, gi_nat]
          rw [inT_of (show m < Tb.length by omega), inT_of hk, hb'.1, hb'.2, decide_eq_false (show ¬ ((m : Nat) : Int) = (k : Nat) by omega)]; rfl
        · refine hnx2 _ _ e3 ⟨fun j hj => ?_, _, rfl⟩
          by_cases hjm : j < m
          · exact hP2 j hjm
          · have : j = m := by omega
            rw [this]
            rintro ⟨z1, z2⟩
            rw [z1, z2] at hb
            cases hb
      · rintro σ' H2 e2 ⟨hP2, y2, rfl⟩
        refine hnx _ _ e2 ⟨fun i j hi hj => ?_, _, _, rfl⟩
        by_cases hik : i < k
        · exact hP i j hik hj
        · have : i = k := by omega
          subst this
          exact hP2 j hj
    · rintro σ' H1 e1 ⟨hP, y1, y2, rfl⟩
      exact s_ret ev_c fun H2 e2 => q2 hP H2 (e1.trans e2)
/-! ### first_ahead -/
def sp_first_ahead (K : PySem.W.Frag) : Sp := spV fun vs H z => ∃ a T i j, vs = [.ref a, .int (i : Nat), .int (j : Nat)] ∧ At K H a T T.length ∧ i < T.length ∧ j < T.length ∧ FaEx T i j ∧ z = .int (faT T i j : Nat)
theorem sv_first_ahead {H : Hp} {a : Addr} {T : Tb} {i j : Nat} (h : At K H a T T.length) (hi : i < T.length) (hj : j < T.length) (hx : FaEx T i j) : SpV (sp_first_ahead K) ([.ref a, .int (i : Nat), .int (j : Nat)] ++ []) H (.int (faT T i j : Nat)) :=
  spV_of fun _ e => ⟨a, T, i, j, rfl, h.mono e, hi, hj, hx, rfl⟩
theorem cal_first_ahead (T : Tx K mg) : C8.Cal P w K mg base (2 + 1) "first_ahead" (sp_first_ahead K) [] := by
  refine T.d_first_ahead.cal sc_first_ahead (fun _ _ _ _ _ _ us hl => match us, hl with | [_, _, _], _ => rfl) ?_ ?_
  · rintro vs H Q E ⟨z, ⟨a, T, i, j, rfl, _⟩, _⟩; rfl
  · rintro f cdv A outer s H vs Q E hr ⟨z, ⟨a, Tb, i, j, rfl, hT, hi, hj, hx, rfl⟩, q⟩
    refine ⟨(tRet (tOp (rIxL K) (tLc (iList K (tCall (sp_rows_with K) [] C8.E0 (tCons (tVar 0) (tCons (tVar 1) tNil)))) (gName 3) (tNot (tB (tCall (sp_has K) [] C8.E0 (tCons (tVar 0) (tCons (tVar 3) (tCons (tVar 2) tNil)))))) (tVar 3) [3]) (tC (.int 0)))), (pss_one (ps_ret (pe_ix ix_list (pe_lc (own := [("thing", 3)]) rfl sc_first_ahead.nd (pi_list (C8.pe_c (cal_rows_with T) hr (by decide) (by rfl) (pa_cons (pv 0) (pa_cons (pv 1) pa_nil)))) (blkOk_by (own := [("thing", 3)]) (by kernel_rfl)) (fun _ _ _ _ _ => (pg_name (i := 3) sc_first_ahead.nd rfl (Or.inl rfl))) (fun _ _ _ _ _ => (pts_one (pt_not (pt_val (C8.pe_c (cal_has T) hr (by decide) (by rfl) (pa_cons (pv 0) (pa_cons (pv 3) (pa_cons (pv 2) pa_nil)))))))) (fun _ _ _ _ _ => (pv 3))) pe_int (fun _ _ => rfl)))), ?_⟩
    have hl := hT.ln
    have hcl := colOf_len Tb i
    refine s_ret (ev_ixLS (xs := nv (faL Tb i j)) (i := ((0 : Nat) : Int)) (els (EvL.is (el_filt (l := colOf Tb i) (g := fun i : Nat => V.int (i : Nat)) (f := fun i : Nat => V.int (i : Nat)) (p := fun t => !gt Tb t j) (els (el_call (ea_cons (ev_var rfl) (ea_cons (ev_var rfl) ea_nil)) (sl_rows_with hT fun _ => hi))) (by omega) (fun _ => rfl) (fun t ht => ?_) fun t ht _ => ev_var rfl) rfl)) ev_c (atI_nat ?_)) q
    · exact et_not (et_B (ev_call (ea_cons (ev_var rfl) (ea_cons (ev_var rfl) (ea_cons (ev_var rfl) ea_nil))) (sv_has hT (mem_colOf.mp ht).1 hj)))
    · have e := (fa_head hx).1
      unfold nv
      rw [List.getElem?_map, e]; rfl
/-! ### ranks -/
def sp_ranks (K : PySem.W.Frag) : Sp := spOpt K (preSq K) (fun T ans => (ans.kd = .ranks ∨ ans.kd = .self ∨ ans.kd = .mutual ∨ ans.kd = .beside) ∧ shown ans T = true) (fun _ => False)
theorem cal_ranks (T : Tx K mg) : C8.Cal P w K mg base (3 + 1) "ranks" (sp_ranks K) [] := by
  refine T.d_ranks.cal sc_ranks (fun _ _ _ _ _ _ us hl => match us, hl with | [_], _ => rfl) ?_ ?_
  · rintro vs H Q E ⟨T, ⟨a, rfl, _⟩, _⟩; rfl
  · rintro f cdv A outer s H vs Q E hr ⟨Tb, ⟨a, rfl, hT, hz⟩, q1, _⟩
    refine ⟨(tSeq (tDrop (tCall (sp_check_square K) [] C8.E0 (tCons (tVar 0) tNil))) (tSeq (tAsg (tCall (sp_self_of K) [] C8.E0 (tCons (tVar 0) tNil)) (gName 1)) (tSeq (tIfS (tTest (tOp rIsN (tVar 1) (tC .non))) (tAsg (tCall (sp_mutual_of K) [] C8.E0 (tCons (tVar 0) tNil)) (gName 1)) tNext) (tSeq (tIfS (tTest (tOp rNotN (tVar 1) (tC .non))) (tRet (tVar 1)) tNext) (tSeq (tAsg (tCall (sp_sizes_of K) [] C8.E0 (tCons (tVar 0) tNil)) (gName 2)) (tSeq (tFor (iRng1 (tCons (tCB (rLn K) (tCons (tVar 0) tNil)) tNil)) (gName 3) (tFor (iRng1 (tCons (tCB (rLn K) (tCons (tVar 0) tNil)) tNil)) (gName 4) (tSeq (tIfS (tAnd (tB (tCall (sp_has K) [] C8.E0 (tCons (tVar 0) (tCons (tVar 3) (tCons (tVar 4) tNil))))) (tTest (tOp rGeI (tOp (rIxL K) (tVar 2) (tVar 3)) (tOp (rIxL K) (tVar 2) (tVar 4))))) (tRet (tMake (gaK K .beside) (sp_init K .beside) [] C8.E0 (tCons (tCall (sp_first_ahead K) [] C8.E0 (tCons (tVar 0) (tCons (tVar 3) (tCons (tVar 4) tNil)))) (tCons (tVar 3) (tCons (tVar 4) tNil))))) tNext) (tIfS (tAnd (tNot (tB (tCall (sp_has K) [] C8.E0 (tCons (tVar 0) (tCons (tVar 3) (tCons (tVar 4) tNil)))))) (tTest (tOp rLtI (tOp (rIxL K) (tVar 2) (tVar 3)) (tOp (rIxL K) (tVar 2) (tVar 4))))) (tRet (tMake (gaK K .beside) (sp_init K .beside) [] C8.E0 (tCons (tCall (sp_first_ahead K) [] C8.E0 (tCons (tVar 0) (tCons (tVar 4) (tCons (tVar 3) tNil)))) (tCons (tVar 4) (tCons (tVar 3) tNil))))) tNext)))) (tRet (tMake (gaK K .ranks) (sp_init K .ranks) [] C8.E0 (tCons (tCall (sp_levels_of K) [] C8.E0 (tCons (tVar 2) tNil)) tNil))))))))), (pss_cons (ps_expr (C8.pe_c (cal_check_square T) hr (by decide) (by rfl) (pa_cons (pv 0) pa_nil))) (pss_cons (ps_set (i := 1) sc_ranks.nd rfl (Or.inl rfl) (C8.pe_c (cal_self_of T) hr (by decide) (by rfl) (pa_cons (pv 0) pa_nil))) (pss_cons (ps_if (pt_cmpR op_isN1 (pv 1) pe_non (nomark _)) (pss_one (ps_set (i := 1) sc_ranks.nd rfl (Or.inl rfl) (C8.pe_c (cal_mutual_of T) hr (by decide) (by rfl) (pa_cons (pv 0) pa_nil)))) pss_nil) (pss_cons (ps_if (pt_cmpR op_notN1 (pv 1) pe_non (nomark _)) (pss_one (ps_ret (pv 1))) pss_nil) (pss_cons (ps_set (i := 2) sc_ranks.nd rfl (Or.inl rfl) (C8.pe_c (cal_sizes_of T) hr (by decide) (by rfl) (pa_cons (pv 0) pa_nil))) (pss_cons (ps_for PassesOwn.never rfl (pi_range1 (by rfl) T.range (pa_cons (pe_callB (id := "len") cl_len (by rfl) T.len (by decide +kernel) (pa_cons (pv 0) pa_nil)) pa_nil)) (pg_name (i := 3) sc_ranks.nd rfl (Or.inl rfl)) (pss_one (ps_for PassesOwn.never rfl (pi_range1 (by rfl) T.range (pa_cons (pe_callB (id := "len") cl_len (by rfl) T.len (by decide +kernel) (pa_cons (pv 0) pa_nil)) pa_nil)) (pg_name (i := 4) sc_ranks.nd rfl (Or.inl rfl)) (pss_cons (ps_if (PW.pt (pw_and (pt_val (C8.pe_c (cal_has T) hr (by decide) (by rfl) (pa_cons (pv 0) (pa_cons (pv 3) (pa_cons (pv 4) pa_nil))))) (pw_and1 (pt_cmpR op_ge (pe_ix ix_list (pv 2) (pv 3) (fun _ _ => rfl)) (pe_ix ix_list (pv 2) (pv 4) (fun _ _ => rfl)) (nomark _))))) (pss_one (ps_ret (C8.pe_mk (mak_Beside T) hr (by decide) (by rfl) (pa_cons (C8.pe_c (cal_first_ahead T) hr (by decide) (by rfl) (pa_cons (pv 0) (pa_cons (pv 3) (pa_cons (pv 4) pa_nil)))) (pa_cons (pv 3) (pa_cons (pv 4) pa_nil)))))) pss_nil) (pss_one (ps_if (PW.pt (pw_and (pt_not (pt_val (C8.pe_c (cal_has T) hr (by decide) (by rfl) (pa_cons (pv 0) (pa_cons (pv 3) (pa_cons (pv 4) pa_nil)))))) (pw_and1 (pt_cmpR op_lt (pe_ix ix_list (pv 2) (pv 3) (fun _ _ => rfl)) (pe_ix ix_list (pv 2) (pv 4) (fun _ _ => rfl)) (nomark _))))) (pss_one (ps_ret (C8.pe_mk (mak_Beside T) hr (by decide) (by rfl) (pa_cons (C8.pe_c (cal_first_ahead T) hr (by decide) (by rfl) (pa_cons (pv 0) (pa_cons (pv 4) (pa_cons (pv 3) pa_nil)))) (pa_cons (pv 4) (pa_cons (pv 3) pa_nil)))))) pss_nil)))))) (pss_one (ps_ret (C8.pe_mk (mak_Ranks T) hr (by decide) (by rfl) (pa_cons (C8.pe_c (cal_levels_of T) hr (by decide) (by rfl) (pa_cons (pv 2) pa_nil)) pa_nil)))))))))), ?_⟩
    have hl := hT.ln
    refine q_drop (ev_call (ea_cons (ev_var rfl) ea_nil) (sv_check_square hT)) fun H1 e1 => ?_
    have h1 := hT.mono e1
    refine q_asgOpt (eopt_call (T := Tb) (ea_cons (ev_var rfl) ea_nil) fun H2 e2 => ⟨a, rfl, h1.mono e2, hz⟩) (fun ans x H2 hg hx e2 hA => ?_) fun hself H2 e2 => ?_
    · refine q_when (et_isNone (ev_var rfl)) (fun hb => nomatch hb) fun _ H3 e3 => ?_
      refine q_when (et_notNone (ev_var rfl)) (fun _ H4 e4 => ?_) fun hb => nomatch hb
      exact s_ret (ev_var rfl) fun H5 e5 => q1 ans x H5 ⟨.inr (.inl hg.1), hg.2⟩ (fresh_back e1 hx) ((((e1.trans e2).trans e3).trans e4).trans e5) ((hA.mono ((e3.trans e4).trans e5)).back e1)
    · have e12 := e1.trans e2
      refine q_when (et_isNone' (ev_var rfl)) (fun _ H3 e3 => ?_) fun hb => nomatch hb
      have e13 := e12.trans e3
      have h3 := hT.mono e13
      refine s_asgOpt (eopt_call (T := Tb) (ea_cons (ev_var rfl) ea_nil) fun H4 e4 => ⟨a, rfl, h3.mono e4, hz⟩) (fun ans x H4 hg hx e4 hA => ?_) fun hmut0 H4 e4 => ?_
      · refine q_when (et_notNone (ev_var rfl)) (fun _ H5 e5 => ?_) fun hb => nomatch hb
        exact s_ret (ev_var rfl) fun H6 e6 => q1 ans x H6 ⟨.inr (.inr (.inl hg.1)), hg.2⟩ (fresh_back e13 hx) (((e13.trans e4).trans e5).trans e6) ((hA.mono (e5.trans e6)).back e13)
      · have hmut : NoMut Tb := noMut_of hself hmut0
        refine q_when (et_notNone' (ev_var rfl)) (fun hb => nomatch hb) fun _ H5 e5 => ?_
        have e15 := (e13.trans e4).trans e5
        have h5 := hT.mono e15
        refine q_asgL (el_call (ea_cons (ev_var rfl) ea_nil) (sl_sizes_of h5)) fun p H6 fp e6 hp => ?_
        have e16 := e15.trans e6
        have h6 := hT.mono e16
        refine q_forR (ev_lenTab h6 (ev_var rfl)) (by omega) (fun k σ' => (∀ i j, i < k → j < Tb.length → gt Tb i j = decide (szT Tb i < szT Tb j)) ∧ ∃ y3 y4, σ' = [some (.ref a), some .non, some (.ref p), y3, y4]) ⟨fun i j hi => absurd hi (Nat.not_lt_zero _), _, _, rfl⟩ ?_ ?_
        · rintro k σ' H7 hk e7 ⟨hP, y3, y4, rfl⟩ D' hrt hbk hnx
          have e17 := e16.trans e7
          have h7 := hT.mono e17
          refine s_forR (ev_lenTab h7 (ev_var rfl)) (by omega) (fun m σ' => (∀ j, j < m → gt Tb k j = decide (szT Tb k < szT Tb j)) ∧ ∃ y4, σ' = [some (.ref a), some .non, some (.ref p), some (.int (k : Nat)), y4]) ⟨fun j hj => absurd hj (Nat.not_lt_zero _), _, rfl⟩ ?_ ?_
          · rintro m σ' H8 hm e8 ⟨hP2, y4, rfl⟩ D2 hrt2 hbk2 hnx2
            have e18 := e17.trans e8
            have h8 := hT.mono e18
            have hp8 : EvS K (tVar 2) [some (.ref a), some .non, some (.ref p), some (.int (k : Nat)), some (.int (m : Nat))] H8 (nv (sizesT Tb)) := evs_var rfl (sq_of (e8 _ _ (e7 _ _ hp)))
            refine q_when (b := gt Tb k m && decide (((szT Tb m : Nat) : Int) ≤ (szT Tb k : Nat))) (et_and (et_B (ev_call (ea_cons (ev_var rfl) (ea_cons (ev_var rfl) (ea_cons (ev_var rfl) ea_nil))) (sv_has h8 hk hm))) fun _ => et_test (ev_op (sizes_at (a := p) hp8 (ev_var rfl) hk) (sizes_at (a := p) hp8 (ev_var rfl) hm) rv_I0)) (fun hb H9 e9 => ?_) fun hb H9 e9 => ?_
            · have hb' : gt Tb k m = true ∧ szT Tb m ≤ szT Tb k := by simp at hb; exact ⟨hb.1, by omega⟩
              have hx := fa_ex1 hself hk hb'.1 hb'.2
              have hkm : k ≠ m := fun z => by rw [← z, hself k hk] at hb'; cases hb'.1
              have e19 := e18.trans e9
              refine s_retO (eo_make (ans := .beside (faT Tb k m : Nat) (k : Nat) (m : Nat)) (ear_i (ev_call (ea_cons (ev_var rfl) (ea_cons (ev_var rfl) (ea_cons (ev_var rfl) ea_nil))) (sv_first_ahead (hT.mono e19) hk hm hx)) (ear_i (ev_var rfl) (ear_i (ev_var rfl) ear_nil))) rfl) fun x H10 hx10 e10 hA => ?_
              show D2.rt _ _
              rw [hrt2, hrt]
              exact q1 _ x H10 ⟨.inr (.inr (.inr rfl)), beside_of hself hk hm hkm (hmut k m hk hm hb'.1) hx⟩ (fresh_back e19 hx10) (e19.trans e10) (hA.back e19)
            · have e19 := e18.trans e9
              have h9 := hT.mono e19
              have hp9 : EvS K (tVar 2) [some (.ref a), some .non, some (.ref p), some (.int (k : Nat)), some (.int (m : Nat))] H9 (nv (sizesT Tb)) := hp8.mono e9
              refine s_when (b := !gt Tb k m && decide (((szT Tb k : Nat) : Int) < (szT Tb m : Nat))) (et_and (et_not (et_B (ev_call (ea_cons (ev_var rfl) (ea_cons (ev_var rfl) (ea_cons (ev_var rfl) ea_nil))) (sv_has h9 hk hm)))) fun _ => et_test (ev_op (sizes_at (a := p) hp9 (ev_var rfl) hk) (sizes_at (a := p) hp9 (ev_var rfl) hm) rv_I0)) (fun hb2 H10 e10 => ?_) fun hb2 H10 e10 => ?_
              · have hb' : gt Tb k m = false ∧ szT Tb k < szT Tb m := by simp at hb2; exact ⟨hb2.1, by omega⟩
                have hx := fa_ex2 hb'.2
                have hkm : m ≠ k := fun z => by rw [z] at hb'; omega
                have e110 := e19.trans e10
                refine s_retO (eo_make (ans := .beside (faT Tb m k : Nat) (m : Nat) (k : Nat)) (ear_i (ev_call (ea_cons (ev_var rfl) (ea_cons (ev_var rfl) (ea_cons (ev_var rfl) ea_nil))) (sv_first_ahead (hT.mono e110) hm hk hx)) (ear_i (ev_var rfl) (ear_i (ev_var rfl) ear_nil))) rfl) fun x H11 hx11 e11 hA => ?_
                show D2.rt _ _
                rw [hrt2, hrt]
                exact q1 _ x H11 ⟨.inr (.inr (.inr rfl)), beside_of hself hm hk hkm hb'.1 hx⟩ (fresh_back e110 hx11) (e110.trans e11) (hA.back e110)
              · refine hnx2 _ _ (e9.trans e10) ⟨fun j hj => ?_, _, rfl⟩
                by_cases hjm : j < m
                · exact hP2 j hjm
                · have : j = m := by omega
                  subst this
                  cases hg : gt Tb k j with
                  | true => rw [hg] at hb; simp at hb; rw [decide_eq_true (by omega)]
                  | false => rw [hg] at hb2; simp at hb2; rw [decide_eq_false (by omega)]
          · rintro σ' H8 e8 ⟨hP2, y4, rfl⟩
            refine hnx _ _ e8 ⟨fun i j hi hj => ?_, _, _, rfl⟩
            by_cases hik : i < k
            · exact hP i j hik hj
            · have : i = k := by omega
              subst this
              exact hP2 j hj
        · rintro σ' H7 e7 ⟨hP, y3, y4, rfl⟩
          have e17 := e16.trans e7
          refine s_retO (eo_make (ans := .ranks (intsOf (levelsN (sizesT Tb)))) (ear_l (EvS.is (els (el_levels (evs_var rfl (sq_of (e7 _ _ hp))) (by rw [sizesT_len]; omega))) (nv_int _)) ear_nil) rfl) fun x H8 hx8 e8 hA => ?_
          exact q1 _ x H8 ⟨.inl rfl, ranks_of hT.rect hP⟩ (fresh_back e17 hx8) (e17.trans e8) (hA.back e17)

end

end WA

namespace WA
open PySem PySem.Spec PyProof.Rows L2 Evl

section
variable {P : Program} {w : World} {K : PySem.W.Frag} {mg : Str → Option Value} {base : Heap}

/-! ### _law_table -/
def sp_law_table (K : PySem.W.Frag) : Sp := fun vs H Q _ => ∃ (a : Addr) (ns : List Int), vs = [.ref a] ∧ SqL K H a (ns.map V.int) ∧ ns.length ≤ 63 ∧
  ∀ (T : Tb) p H2, T.length = ns.length → Rect T ns.length → H p = none → Ex H H2 → H2 p = some (.lst (tv T)) → Q (.ref p) H2
theorem q_law_table {σ : L2.St} {H : Hp} {te : TE} {a : Addr} {ns : List Int} {D : Ends} {tz : TS} {i : Nat} (h : Ev te σ H (.ref a)) (hs : SqL K H a (ns.map V.int)) (hz : ns.length ≤ 63)
    (k : ∀ (T : Tb) p H2, T.length = ns.length → Rect T ns.length → H p = none → Ex H H2 → H2 p = some (.lst (tv T)) → tz D (σ.set i (some (.ref p))) H2) : tSeq (tAsg (tCall (sp_law_table K) [] C8.E0 (tCons te tNil)) (gName i)) tz D σ H :=
  h H (Ex.refl H) _ fun H1 e1 => ⟨a, ns, rfl, ex_l e1 hs, hz, fun T p H2 hl hr hp e2 h2 => k T p H2 hl hr (fresh_back e1 hp) (e1.trans e2) h2⟩
theorem cal__law_table (T : Tx K mg) : C8.Cal P w K mg base (0 + 1) "_law_table" (sp_law_table K) [] := by
  refine T.d__law_table.cal sc_law_table (fun _ _ _ _ _ _ us hl => match us, hl with | [_], _ => rfl) ?_ ?_
  · rintro vs H Q E ⟨a, ns, rfl, _⟩; rfl
  · rintro f cdv A outer s H vs Q E hr ⟨a, ns, rfl, hs, hz, q⟩
    refine ⟨(tSeq (tAsg (tTup (tCons (tCB (rSum K) (tCons (tVar 0) tNil)) (tCons (tCB (rLn K) (tCons (tVar 0) tNil)) tNil))) (gTup K 2 (gCons (gName 1) (gCons (gName 2) gNil)))) (tSeq (tIfS (tTest (tOp rEq (tOp rModI (tOp rDivI (tVar 1) (tC (.int 36))) (tC (.int 3))) (tC (.int 1)))) (tRet (tLc (iList K (tVar 0)) (gName 3) tYes (tM1 (rJoin K) (tC (.str "")) (tLc (iRng1 (tCons (tVar 2) tNil)) (gName 4) tYes (tOp rIxS (tC (.str "-x")) (tOp rAndI (tOp rShrI (tVar 3) (tVar 4)) (tC (.int 1)))) [4])) [3])) tNext) (tSeq (tAsg (tLc (iEnum K (tCons (tVar 0) tNil)) (gTup K 2 (gCons (gName 4) (gCons (gName 3) gNil))) tYes (tOp (rIxT K) (tTup (tCons (tOp rModI (tVar 3) (tC (.int 17))) (tCons (tOp rModI (tVar 3) (tC (.int 6))) (tCons (tOp rAddI (tOp rMulI (tOp rModI (tVar 3) (tC (.int 97))) (tC (.int 100))) (tVar 4)) tNil)))) (tOp rModI (tVar 1) (tC (.int 3)))) [4, 3]) (gName 5)) (tSeq (tAsg (tLc (iZip K (tCons (tVar 5) (tCons (tVar 0) tNil))) (gTup K 2 (gCons (gName 6) (gCons (gName 3) gNil))) tYes (tOp rAddI (tVar 6) (tOp (rIxT K) (tTup (tCons (tOp rModI (tOp rDivI (tVar 3) (tC (.int 17))) (tC (.int 6))) (tCons (tC (.int 0)) (tCons (tC (.int 0)) tNil)))) (tOp rModI (tVar 1) (tC (.int 3))))) [6, 3]) (gName 7)) (tSeq (tAsg (tLc (iList K (tVar 7)) (gName 8) tYes (tM1 (rJoin K) (tC (.str "")) (tLc (iList K (tVar 5)) (gName 6) tYes (tIf (tTest (tOp rLtI (tVar 8) (tVar 6))) (tC (.str "x")) (tC (.str "-"))) [6])) [8]) (gName 9)) (tSeq (tFor (iRng1 (tCons (tIf (tTest (tOp rGtI (tVar 2) (tC (.int 0)))) (tOp (rIxT K) (tTup (tCons (tC (.int 0)) (tCons (tC (.int 1)) (tCons (tC (.int 0)) (tCons (tC (.int 2)) tNil))))) (tOp rModI (tOp rDivI (tVar 1) (tC (.int 3))) (tC (.int 4)))) (tC (.int 0))) tNil)) (gName 10) (tSeq (tPar 11 4 (tCons (tOp rModI (tOp rAddI (tOp rDivI (tVar 1) (tC (.int 12))) (tOp rMulI (tC (.int 5)) (tVar 10))) (tVar 2)) (tCons (tOp rModI (tOp rAddI (tOp rDivI (tVar 1) (tC (.int 7))) (tOp rMulI (tC (.int 3)) (tVar 10))) (tVar 2)) tNil))) (tAsg (tOp rCatS (tOp rCatS (tSl rSlS (tOp (rIxL K) (tVar 9) (tVar 11)) tNoPart (tPart (tVar 4))) (tDGet (tDisp [((tC (.str "x")), (tC (.str "-"))), ((tC (.str "-")), (tC (.str "x")))]) (tOp rIxS (tOp (rIxL K) (tVar 9) (tVar 11)) (tVar 4)))) (tSl rSlS (tOp (rIxL K) (tVar 9) (tVar 11)) (tPart (tOp rAddI (tVar 4) (tC (.int 1)))) tNoPart)) (gSub (tVar 9) (tVar 11) rSetL)))) (tRet (tVar 9)))))))), (pss_cons (ps_asg (pe_tup (pa_cons (pe_callB (id := "sum") (cr_sum rfl) (by rfl) T.sum (by decide +kernel) (pa_cons (pv 0) pa_nil)) (pa_cons (pe_callB (id := "len") cl_len (by rfl) T.len (by decide +kernel) (pa_cons (pv 0) pa_nil)) pa_nil))) (pg_tup rfl (pgs_cons (pg_name (i := 1) sc_law_table.nd rfl (Or.inr rfl)) (pgs_cons (pg_name (i := 2) sc_law_table.nd rfl (Or.inr rfl)) pgs_nil)))) (pss_cons (ps_if (pt_cmpR op_eq (pe_op op_mod (pe_op op_fdiv (pv 1) pe_int) pe_int) pe_int (nomark _)) (pss_one (ps_ret (pe_lc (own := [("_law_cell", 3)]) rfl sc_law_table.nd (pi_list (pv 0)) (blkOk_by (own := [("_law_cell", 3)]) (by kernel_rfl)) (fun _ _ _ _ _ => (pg_name (i := 3) sc_law_table.nd rfl (Or.inr rfl))) (fun _ _ _ _ _ => pts_nil) (fun _ _ _ _ _ => (pe_joinR pe_str (pe_lc (own := [("_law_at", 4)]) rfl sc_law_table.nd (pi_range1 (by rfl) T.range (pa_cons (pv 2) pa_nil)) (blkOk_by (own := [("_law_at", 4)]) (by kernel_rfl)) (fun _ _ _ _ _ => (pg_name (i := 4) sc_law_table.nd rfl (Or.inl rfl))) (fun _ _ _ _ _ => pts_nil) (fun _ _ _ _ _ => (pe_ix ix_str pe_str (pe_op op_and (pe_op op_shr (pv 3) (pv 4)) pe_int) (fun _ _ => rfl))))))))) pss_nil) (pss_cons (ps_set (i := 5) sc_law_table.nd rfl (Or.inr rfl) (pe_lc (own := [("_law_at", 4), ("_law_cell", 3)]) rfl sc_law_table.nd (pi_enum (by rfl) T.enumerate (pa_cons (pv 0) pa_nil)) (blkOk_by (own := [("_law_at", 4), ("_law_cell", 3)]) (by kernel_rfl)) (fun _ _ _ _ _ => (pg_tup rfl (pgs_cons (pg_name (i := 4) sc_law_table.nd rfl (Or.inl rfl)) (pgs_cons (pg_name (i := 3) sc_law_table.nd rfl (Or.inl rfl)) pgs_nil)))) (fun _ _ _ _ _ => pts_nil) (fun _ _ _ _ _ => (pe_ix ix_tup (pe_tup (pa_cons (pe_op op_mod (pv 3) pe_int) (pa_cons (pe_op op_mod (pv 3) pe_int) (pa_cons (pe_op op_add (pe_op op_mul (pe_op op_mod (pv 3) pe_int) pe_int) (pv 4)) pa_nil)))) (pe_op op_mod (pv 1) pe_int) (fun _ _ => rfl))))) (pss_cons (ps_setLc (i := 7) (own := [("_law_begin", 6), ("_law_cell", 3)]) rfl sc_law_table.nd rfl rfl (sw_true rfl rfl rfl (by decide +kernel)) (pi_zip (by rfl) T.zip (pa_cons (pv 5) (pa_cons (pv 0) pa_nil))) (blkOk_by (own := [("_law_begin", 6), ("_law_cell", 3)]) (by kernel_rfl)) (fun _ _ _ _ _ => (pg_tup rfl (pgs_cons (pg_name (i := 6) sc_law_table.nd rfl (Or.inl rfl)) (pgs_cons (pg_name (i := 3) sc_law_table.nd rfl (Or.inl rfl)) pgs_nil)))) (fun _ _ _ _ _ => pts_nil) (fun _ _ _ _ _ => (pe_op op_add (pv 6) (pe_ix ix_tup (pe_tup (pa_cons (pe_op op_mod (pe_op op_fdiv (pv 3) pe_int) pe_int) (pa_cons pe_int (pa_cons pe_int pa_nil)))) (pe_op op_mod (pv 1) pe_int) (fun _ _ => rfl))))) (pss_cons (ps_setLc (i := 9) (own := [("_law_end", 8)]) rfl sc_law_table.nd rfl rfl (sw_true rfl rfl rfl (by decide +kernel)) (pi_list (pv 7)) (blkOk_by (own := [("_law_end", 8)]) (by kernel_rfl)) (fun _ _ _ _ _ => (pg_name (i := 8) sc_law_table.nd rfl (Or.inr rfl))) (fun _ _ _ _ _ => pts_nil) (fun _ _ _ _ _ => (pe_joinR pe_str (pe_lc (own := [("_law_begin", 6)]) rfl sc_law_table.nd (pi_list (pv 5)) (blkOk_by (own := [("_law_begin", 6)]) (by kernel_rfl)) (fun _ _ _ _ _ => (pg_name (i := 6) sc_law_table.nd rfl (Or.inl rfl))) (fun _ _ _ _ _ => pts_nil) (fun _ _ _ _ _ => (pe_ifExp (pt_cmpR op_lt (pv 8) (pv 6) (nomark _)) pe_str pe_str)))))) (pss_cons (ps_for PassesOwn.never rfl (pi_range1 (by rfl) T.range (pa_cons (pe_ifExp (pt_cmpR op_gt (pv 2) pe_int (nomark _)) (pe_ix ix_tup (pe_tup (pa_cons pe_int (pa_cons pe_int (pa_cons pe_int (pa_cons pe_int pa_nil))))) (pe_op op_mod (pe_op op_fdiv (pv 1) pe_int) pe_int) (fun _ _ => rfl)) pe_int) pa_nil)) (pg_name (i := 10) sc_law_table.nd rfl (Or.inl rfl)) (pss_cons (ps_par (i := 11) (j := 4) rfl sc_law_table.nd rfl rfl (by decide) rfl rfl (pa_cons (pe_op op_mod (pe_op op_add (pe_op op_fdiv (pv 1) pe_int) (pe_op op_mul pe_int (pv 10))) (pv 2)) (pa_cons (pe_op op_mod (pe_op op_add (pe_op op_fdiv (pv 1) pe_int) (pe_op op_mul pe_int (pv 10))) (pv 2)) pa_nil)) (by rfl)) (pss_one (ps_asg (pe_op op_catS (pe_op op_catS (pe_slice sl_str (pe_ix ix_list (pv 9) (pv 11) (fun _ _ => rfl)) po_none (po_some (pv 4))) (pe_dget (hu_of hr) (pe_disp (pps_cons pe_str pe_str (pps_cons pe_str pe_str pps_nil)) (by rfl) (by rfl) (fun z => by cases z) (by decide)) (pe_ix ix_str (pe_ix ix_list (pv 9) (pv 11) (fun _ _ => rfl)) (pv 4) (fun _ _ => rfl)) (fun _ _ => rfl))) (pe_slice sl_str (pe_ix ix_list (pv 9) (pv 11) (fun _ _ => rfl)) (po_some (pe_op op_add (pv 4) pe_int)) po_none)) (pg_sub (pv 9) (pv 11) set_list))))) (pss_one (ps_ret (pv 9))))))))), ?_⟩
    refine q_pair (ev_sum (evs_var rfl hs)) (ev_lenInts (evs_var rfl hs)) fun H1 e1 => ?_
    have h1 := ex_l e1 hs
    refine q_when (et_test (ev_op (ev_op (ev_op (ev_var (v := .int ns.sum) rfl) ev_c (rv_I ⟨by decide, by decide⟩)) ev_c (rv_I (by decide))) ev_c (rv_eq rfl))) (fun _ H2 e2 => ?_) fun _ H2 e2 => ?_
    · have e12 := e1.trans e2
      have h2 := ex_l e2 h1
      exact s_retL (el_bits (w := ns.length) (evs_var rfl h2) ⟨by omega, by omega⟩ (fun _ => rfl) (fun _ => ev_var rfl) (fun _ _ => rfl) (fun _ _ => ev_var rfl) fun _ _ => ev_var rfl) fun p H3 hp e3 h3 =>
        q _ p H3 (bitsT_len _ _) (bitsT_rect _ _) (fresh_back e12 hp) (e12.trans e3) h3
    have e12 := e1.trans e2
    have h2 := ex_l e12 hs
    have hm : 0 ≤ ns.sum % 3 ∧ ns.sum % 3 < 3 := ⟨by omega, by omega⟩
    refine q_asgL (el_mapE (l := ns) (g := V.int) (f := fun x => V.int (pick3 (ns.sum % 3) (x.2 % 17) (x.2 % 6) (x.2 % 97 * 100 + (x.1 : Nat)))) (evs_var rfl h2) (by omega) (fun _ _ => rfl) fun k x hx =>
      ev_pick3 (ev_op (ev_var rfl) ev_c (rv_I (by decide))) (ev_op (ev_var rfl) ev_c (rv_I (by decide))) (ev_op (ev_op (ev_op (ev_var rfl) ev_c (rv_I (by decide))) ev_c (rv_I (.inr ⟨by decide, by decide⟩))) (ev_var rfl) rv_I0) (ev_op (ev_var (v := .int ns.sum) rfl) ev_c (rv_I (by decide))) hm) fun b H3 hb e3 h3 => ?_
    generalize hB : ((List.range ns.length).zip ns).map (fun x => pick3 (ns.sum % 3) (x.2 % 17) (x.2 % 6) (x.2 % 97 * 100 + (x.1 : Nat))) = B
    have lB : B.length = ns.length := by rw [← hB, List.length_map, List.length_zip, List.length_range]; omega
    have h3' : H3 b = some (.lst (B.map V.int)) := by rw [h3, ← hB, List.map_map]; rfl
    clear h3 hB
    have e13 := e12.trans e3
    have hs3 := ex_l e13 hs
    refine q_asgL (el_mapZ (l := B) (m := ns) (g := V.int) (g' := V.int) (f := fun x => V.int (x.1 + pick3 (ns.sum % 3) (x.2 / 17 % 6) 0 0)) (evs_var rfl (sq_of h3')) (evs_var rfl hs3) (by omega) lB (fun _ _ => rfl) fun x y hx =>
      ev_op (ev_var rfl) (ev_pick3 (ev_op (ev_op (ev_var rfl) ev_c (rv_I ⟨by decide, by decide⟩)) ev_c (rv_I (by decide))) ev_c ev_c (ev_op (ev_var (v := .int ns.sum) rfl) ev_c (rv_I (by decide))) hm) rv_I0) fun c H4 hc e4 h4 => ?_
    generalize hC : (B.zip ns).map (fun x => x.1 + pick3 (ns.sum % 3) (x.2 / 17 % 6) 0 0) = C
    have lC : C.length = ns.length := by rw [← hC, List.length_map, List.length_zip]; omega
    have h4' : H4 c = some (.lst (C.map V.int)) := by rw [h4, ← hC, List.map_map]; rfl
    clear h4 hC
    have h34 := ex_l e4 (sq_of (K := K) h3')
    refine q_asgL (el_signs (l := C) (m := B) (g := V.int) (g' := V.int) (p := fun x y => decide (x < y)) (evs_var rfl (sq_of h4')) ⟨by omega, by omega⟩ (fun _ => rfl) (fun _ _ => evs_var rfl h34) (fun _ _ => rfl) fun x hx y hy =>
      et_test (ev_op (ev_var rfl) (ev_var rfl) rv_I0)) fun p H5 hp e5 h5 => ?_
    have lT : (C.map fun x => B.map fun y => decide (x < y)).length = ns.length := by rw [List.length_map, lC]
    have rT : Rect (C.map fun x => B.map fun y => decide (x < y)) ns.length := lB ▸ rect_signs C B _
    revert h5 lT rT
    generalize (C.map fun x => B.map fun y => decide (x < y)) = T0
    intro h5 lT rT
    have hp4 := fresh_back (e13.trans e4) hp
    have e15 := (e13.trans e4).trans e5
    have hmv : ∃ m : Int, (if decide (0 < (ns.length : Int)) = true then pick4 (ns.sum / 3 % 4) else 0) = m ∧ 0 ≤ m ∧ m ≤ 2 ∧ (0 < m → 0 < ns.length) := by
      refine ⟨_, rfl, ?_⟩
      have := pick4_ok (ns.sum / 3 % 4)
      by_cases h0 : 0 < ns.length
      · rw [if_pos (decide_eq_true (by omega))]; omega
      · rw [if_neg (by rw [decide_eq_true_eq]; omega)]; omega
    obtain ⟨m, hmE, m0, m2, mn⟩ := hmv
    refine q_forR1 (n := m) (ea_cons (ev_if (et_test (ev_op (ev_var (v := .int (ns.length : Nat)) rfl) ev_c rv_I0)) (fun hb => ev_is (ev_pick4 (m := ns.sum / 3 % 4) (ev_op (ev_op (ev_var (v := .int ns.sum) rfl) ev_c (rv_I ⟨by decide, by decide⟩)) ev_c (rv_I (by decide))) ⟨by omega, by omega⟩) (by rw [← hmE, if_pos hb])) (fun hb => ev_is ev_c (by rw [← hmE, if_neg (by rw [hb]; decide)]))) ea_nil) ⟨by omega, by omega⟩
      (fun _ σ' H' => ∃ T y4 y10 y11, T.length = ns.length ∧ Rect T ns.length ∧ Ex H H' ∧ H' p = some (.lst (tv T)) ∧
        σ' = [some (.ref a), some (.int ns.sum), some (.int (ns.length : Nat)), none, y4, some (.ref b), none, some (.ref c), none, some (.ref p), y10, y11])
      (fun H6 e6 => ⟨T0, none, none, none, lT, rT, e15.trans e6, e6 p _ h5, rfl⟩) ?_ ?_
    · rintro i σ' H' hi ⟨T, y4, y10, y11, hl, hr', ex, hp', rfl⟩
      have hn : 0 < ns.length := mn (by omega)
      obtain ⟨r1, hr1, lr1⟩ := md_ok (a := ns.sum / 12 + 5 * (i : Int)) hn
      obtain ⟨r2, hr2, lr2⟩ := md_ok (a := ns.sum / 7 + 3 * (i : Int)) hn
      have hn' : (0 : Int) < ((ns.length : Nat) : Int) := by omega
      refine q_par (x := .int (r1 : Nat)) (y := .int (r2 : Nat))
        (ev_is (ev_op (ev_op (ev_op (ev_var (v := .int ns.sum) rfl) ev_c (rv_I ⟨by decide, by decide⟩)) (ev_op ev_c (ev_var rfl) (rv_I (.inl ⟨by decide, by decide⟩))) rv_I0) (ev_var (v := .int (ns.length : Nat)) rfl) (rv_I hn')) (by rw [hr1]))
        (ev_is (ev_op (ev_op (ev_op (ev_var (v := .int ns.sum) rfl) ev_c (rv_I ⟨by decide, by decide⟩)) (ev_op ev_c (ev_var rfl) (rv_I (.inl ⟨by decide, by decide⟩))) rv_I0) (ev_var (v := .int (ns.length : Nat)) rfl) (rv_I hn')) (by rw [hr2])) fun H6 e6 => ?_
      have hp6 := e6 p _ hp'
      have hA : At K H6 p T ns.length := ⟨sq_of hp6, hr', by omega, by omega⟩
      have hr1T : r1 < T.length := by omega
      have hrow := hA.row hr1T
      have row : ∀ {σ : L2.St}, σ[9]? = some (some (.ref p)) → σ[11]? = some (some (.int (r1 : Nat))) → Ev (tOp (rIxL K) (tVar 9) (tVar 11)) σ H6 (.str (rs (T.getD r1 []))) := fun h9 h11 => ev_rowI (v := .non) (evs_var h9 hA.sq) hr1T (ev_var h11)
      refine s_setL (j := r1) (v := .str (rs (flip (T.getD r1 []) r2))) hp6 ?_ (ev_var rfl) (ev_var rfl) (by rw [tv_len]; omega) fun H7 e7 => ?_
      · show Ev _ _ H6 (.str (rs ((T.getD r1 []).take r2 ++ [!(T.getD r1 []).getD r2 false] ++ (T.getD r1 []).drop (r2 + 1))))
        exact ev_catS (ev_catS (ev_cutLo (row rfl rfl) (ev_var rfl) (by omega) (by omega)) (ev_other (ev_ixSg (row rfl rfl) (ev_var rfl) (by omega) (by omega))) ⟨by rw [List.length_take]; omega, by simp⟩)
          (ev_cutHi (row rfl rfl) (ev_is (ev_op (ev_var (v := .int (r2 : Nat)) rfl) ev_c rv_I0) (by rw [Int.natCast_add]; rfl)) (by omega) (by omega)) ⟨by rw [List.length_append, List.length_take]; simp; omega, by rw [List.length_drop]; omega⟩
      · refine ⟨T.set r1 (flip (T.getD r1 []) r2), _, _, _, by rw [List.length_set, hl], rect_set hr' (by rw [flip_len (by omega)]; exact hrow), Ex.mut ((ex.trans e6).trans e7) hp4, ?_, rfl⟩
        rw [tv_set]; exact upd_same
    · rintro σ' H' ⟨T, y4, y10, y11, hl, hr', ex, hp', rfl⟩
      exact s_ret (ev_var rfl) fun H6 e6 => q T p H6 hl hr' hp4 (ex.trans e6) (e6 p _ hp')

end

end WA

namespace WA
open PySem PySem.Spec PyProof.Rows L2 Evl

section
variable {P : Program} {w : World} {K : PySem.W.Frag} {mg : Str → Option Value} {base : Heap}

/-! ### _law_turned -/
def sp_law_turned (K : PySem.W.Frag) : Sp := spL fun vs H xs => ∃ a T w, vs = [.ref a] ∧ At K H a T w ∧ xs = tv (turnT T w)
theorem sl_law_turned {H : Hp} {a : Addr} {T : Tb} {n : Nat} (h : At K H a T n) : SpL (sp_law_turned K) ([.ref a] ++ []) H (tv (turnT T n)) := spL_of fun _ e => ⟨a, T, n, rfl, h.mono e, rfl⟩
theorem cal__law_turned (T : Tx K mg) : C8.Cal P w K mg base (0 + 1) "_law_turned" (sp_law_turned K) [] := by
  refine T.d__law_turned.cal sc_law_turned (fun _ _ _ _ _ _ us hl => match us, hl with | [_], _ => rfl) ?_ ?_
  · rintro vs H Q E ⟨z, ⟨a, T, n, rfl, _⟩, _⟩; rfl
  · rintro f cdv A outer s H vs Q E hr ⟨z, ⟨a, Tb, n, rfl, hT, rfl⟩, q⟩
    refine ⟨(tSeq (tIfS (tTest (tOp (rEqD K) (tVar 0) (tLst tNil))) (tRet (tLst tNil)) tNext) (tRet (tLc (iRng1 (tCons (tCB (rLn K) (tCons (tOp (rIxL K) (tVar 0) (tC (.int 0))) tNil)) tNil)) (gName 1) tYes (tM1 (rJoin K) (tC (.str "")) (tLc (iList K (tVar 0)) (gName 2) tYes (tOp rIxS (tVar 2) (tVar 1)) [2])) [1]))), (pss_cons (ps_if (pt_cmpR (op_eqD hr.units) (pv 0) (pe_lst pa_nil) (nomark _)) (pss_one (ps_ret (pe_lst pa_nil))) pss_nil) (pss_one (ps_ret (pe_lc (own := [("_law_at", 1)]) rfl sc_law_turned.nd (pi_range1 (by rfl) T.range (pa_cons (pe_callB (id := "len") cl_len (by rfl) T.len (by decide +kernel) (pa_cons (pe_ix ix_list (pv 0) pe_int (fun _ _ => rfl)) pa_nil)) pa_nil)) (blkOk_by (own := [("_law_at", 1)]) (by kernel_rfl)) (fun _ _ _ _ _ => (pg_name (i := 1) sc_law_turned.nd rfl (Or.inr rfl))) (fun _ _ _ _ _ => pts_nil) (fun _ _ _ _ _ => (pe_joinR pe_str (pe_lc (own := [("_law_row", 2)]) rfl sc_law_turned.nd (pi_list (pv 0)) (blkOk_by (own := [("_law_row", 2)]) (by kernel_rfl)) (fun _ _ _ _ _ => (pg_name (i := 2) sc_law_turned.nd rfl (Or.inl rfl))) (fun _ _ _ _ _ => pts_nil) (fun _ _ _ _ _ => (pe_ix ix_str (pv 2) (pv 1) (fun _ _ => rfl)))))))))), ?_⟩
    refine q_when (et_test (ev_empty (evs_var rfl hT.sq))) (fun hb H2 e2 => ?_) fun hb H2 e2 => ?_
    · have hT0 : Tb = [] := of_decide_eq_true hb
      subst hT0
      exact s_retL el_nil fun p H3 hp e3 h3 => q p H3 (fresh_back e2 hp) (e2.trans e3) h3
    · have hne : Tb ≠ [] := of_decide_eq_false hb
      have h2 := hT.mono e2
      have et : turnT Tb n = turn Tb n := if_neg hne
      rw [et] at q
      refine s_retL (el_turn h2 (ev_len0 h2 (ev_var rfl) hne) (fun _ => rfl) (fun _ _ => rfl) (fun i hi => ev_var rfl) fun i r hi hr => ?_) fun p H3 hp e3 h3 => q p H3 (fresh_back e2 hp) (e2.trans e3) h3
      have hlen := hT.rect r hr
      have := hT.lw
      exact ev_ixSg (ev_var (v := .str (rs r)) rfl) (ev_var rfl) (by omega) (by omega)
/-! ### _law_numbers -/
def sp_law_numbers (K : PySem.W.Frag) : Sp := spV fun vs H z => ∃ (a : Addr) (ns : List Int) (m : Int), vs = [.ref a, .int m] ∧ SqL K H a (ns.map V.int) ∧ ns.length ≤ 1000 ∧ z = .bl (decide ((ns.length : Int) = m))
theorem sv_law_numbers {H : Hp} {a : Addr} {ns : List Int} {m : Int} (h : SqL K H a (ns.map V.int)) (hz : ns.length ≤ 1000) : SpV (sp_law_numbers K) ([.ref a, .int m] ++ []) H (.bl (decide ((ns.length : Int) = m))) :=
  spV_of fun _ e => ⟨a, ns, m, rfl, ex_l e h, hz, rfl⟩
theorem cal__law_numbers (T : Tx K mg) : C8.Cal P w K mg base (0 + 1) "_law_numbers" (sp_law_numbers K) [] := by
  refine T.d__law_numbers.cal sc_law_numbers (fun _ _ _ _ _ _ us hl => match us, hl with | [_, _], _ => rfl) ?_ ?_
  · rintro vs H Q E ⟨z, ⟨a, ns, m, rfl, _⟩, _⟩; rfl
  · rintro f cdv A outer s H vs Q E hr ⟨z, ⟨a, ns, m, rfl, hs, hz, rfl⟩, q⟩
    refine ⟨(tSeq (tIfS (tOr (tNot (tB (tCB (rIsi K) (tCons (tVar 0) (tCons (tC (.ty "list")) tNil))))) (tTest (tOp rNe (tCB (rLn K) (tCons (tVar 0) tNil)) (tVar 1)))) (tRet (tC (.bl false))) tNext) (tRet (tCB (rAll K) (tCons (tLc (iList K (tVar 0)) (gName 2) tYes (tAndV (tCB (rIsi K) (tCons (tVar 2) (tCons (tC (.ty "int")) tNil))) (tNotV (tCB (rIsi K) (tCons (tVar 2) (tCons (tC (.ty "bool")) tNil))))) [2]) tNil)))), (pss_cons (ps_if (PW.pt (pw_or (pt_not (pt_val (pe_callB (id := "isinstance") call_isi (by rfl) T.isinstance (by decide +kernel) (pa_cons (pv 0) (pa_cons (pe_bltn (v := .ty "list") (by rfl) T.list (by decide +kernel) rfl) pa_nil))))) (pw_or1 (pt_cmpR op_ne (pe_callB (id := "len") cl_len (by rfl) T.len (by decide +kernel) (pa_cons (pv 0) pa_nil)) (pv 1) (nomark _))))) (pss_one (ps_ret pe_bl)) pss_nil) (pss_one (ps_ret (pe_callB (id := "all") (cr_all rfl) (by rfl) T.all (by decide +kernel) (pa_cons (pe_lc (own := [("_law_one", 2)]) rfl sc_law_numbers.nd (pi_list (pv 0)) (blkOk_by (own := [("_law_one", 2)]) (by kernel_rfl)) (fun _ _ _ _ _ => (pg_name (i := 2) sc_law_numbers.nd rfl (Or.inl rfl))) (fun _ _ _ _ _ => pts_nil) (fun _ _ _ _ _ => (pe_and (pe_callB (id := "isinstance") call_isi (by rfl) T.isinstance (by decide +kernel) (pa_cons (pv 2) (pa_cons (pe_bltn (v := .ty "int") (by rfl) T.int (by decide +kernel) rfl) pa_nil))) (pe_one (pe_not (pe_callB (id := "isinstance") call_isi (by rfl) T.isinstance (by decide +kernel) (pa_cons (pv 2) (pa_cons (pe_bltn (v := .ty "bool") (by rfl) T.bool (by decide +kernel) rfl) pa_nil)))))))) pa_nil))))), ?_⟩
    refine q_when (b := !decide ((ns.length : Int) = m)) (et_is (et_or (et_not (et_B (ev_isiL (evs_var rfl hs)))) fun _ => et_test (ev_op (ev_lenInts (evs_var rfl hs)) (ev_var rfl) (rv_ne rfl))) (by simp)) (fun hb H1 e1 => ?_) fun hb H1 e1 => ?_
    · have e : decide ((ns.length : Int) = m) = false := by simpa using hb
      rw [e] at q
      exact s_ret ev_c fun H2 e2 => q H2 (e1.trans e2)
    · have e : decide ((ns.length : Int) = m) = true := by simpa using hb
      rw [e] at q
      refine s_ret (ev_is (ev_allM (l := ns) (p := fun _ => true) (els (el_map (g := V.int) (evs_var rfl (ex_l e1 hs)) (by omega) (fun _ => rfl) fun c hc => ?_))) (by simp)) fun H2 e2 => q H2 (e1.trans e2)
      exact ev_andV (ev_isiInt (ev_var rfl)) fun _ => ev_notV (ev_isiBool (ev_var rfl))

end

end WA

namespace WA
open PySem PySem.Spec PyProof.Rows L2 Evl

section
variable {P : Program} {w : World} {K : PySem.W.Frag} {mg : Str → Option Value} {base : Heap}

/-! ### _law_has -/
def sp_law_has (K : PySem.W.Frag) : Sp := spV fun vs H z => ∃ a T w i j, vs = [.ref a, .int i, .int j] ∧ At K H a T w ∧ z = .bl (lawHas T i j)
theorem ev_lawHas {σ : L2.St} {H : Hp} {a : Addr} {T : Tb} {n : Nat} {i j : Int} {ta tb tc : TE} {E : XK} (h : At K H a T n) (ha : Ev ta σ H (.ref a)) (hb : Ev tb σ H (.int i)) (hc : Ev tc σ H (.int j)) :
    Ev (tCall (sp_law_has K) [] E (tCons ta (tCons tb (tCons tc tNil)))) σ H (.bl (lawHas T i j)) := ev_call (ea_cons ha (ea_cons hb (ea_cons hc ea_nil))) (spV_of fun _ e => ⟨a, T, n, i, j, rfl, h.mono e, rfl⟩)
theorem cal__law_has (T : Tx K mg) : C8.Cal P w K mg base (0 + 1) "_law_has" (sp_law_has K) [] := by
  refine T.d__law_has.cal sc_law_has (fun _ _ _ _ _ _ us hl => match us, hl with | [_, _, _], _ => rfl) ?_ ?_
  · rintro vs H Q E ⟨z, ⟨a, T, n, i, j, rfl, _⟩, _⟩; rfl
  · rintro f cdv A outer s H vs Q E hr ⟨z, ⟨a, Tb, n, i, j, rfl, hT, rfl⟩, q⟩
    refine ⟨(tRet (tAndV (tChain rLeI rLtI (tC (.int 0)) (tVar 1) (tCB (rLn K) (tCons (tVar 0) tNil))) (tAndV (tChain rLeI rLtI (tC (.int 0)) (tVar 2) (tCB (rLn K) (tCons (tOp (rIxL K) (tVar 0) (tVar 1)) tNil))) (tOp rEq (tOp rIxS (tOp (rIxL K) (tVar 0) (tVar 1)) (tVar 2)) (tC (.str "x")))))), (pss_one (ps_ret (pe_and (pe_chain op_le op_lt pe_int (pv 1) (pe_callB (id := "len") cl_len (by rfl) T.len (by decide +kernel) (pa_cons (pv 0) pa_nil))) (pe_and (pe_chain op_le op_lt pe_int (pv 2) (pe_callB (id := "len") cl_len (by rfl) T.len (by decide +kernel) (pa_cons (pe_ix ix_list (pv 0) (pv 1) (fun _ _ => rfl)) pa_nil))) (pe_one (pe_cmpR op_eq (pe_ix ix_str (pe_ix ix_list (pv 0) (pv 1) (fun _ _ => rfl)) (pv 2) (fun _ _ => rfl)) pe_str (nomark _))))))), ?_⟩
    refine s_ret (ev_andV (b := inW Tb j && gi Tb i j) (ev_chain (p := decide (0 ≤ i)) (q := decide (i < (Tb.length : Int))) ev_c (ev_var rfl) (fun _ => ev_lenTab hT (ev_var rfl)) rv_I0 fun _ => rv_I0) fun h1 => ?_) q
    obtain ⟨i', rfl, hi⟩ := inT_nat (T := Tb) (a := i) h1
    have hw := width_at hT (List.length_pos_iff.mp (by omega))
    have hlw := hT.lw
    refine ev_andV (ev_chain (p := decide (0 ≤ j)) (q := decide (j < (width Tb : Int))) ev_c (ev_var rfl) (fun _ => ?_) rv_I0 fun _ => rv_I0) fun h2 => ?_
    · rw [hw]
      have hrow := hT.row hi
      have z := ev_lenRow (K := K) (ev_rowI (v := .non) (evs_var rfl hT.sq) hi (ev_var rfl) : Ev (tOp (rIxL K) (tVar 0) (tVar 1)) (start nm_law_has [.ref a, .int (i' : Nat), .int j]) H _) (by omega)
      rw [hrow] at z
      exact z
    · obtain ⟨j', rfl, hj⟩ := inW_nat (T := Tb) (a := j) h2
      rw [gi_nat]
      exact ev_isX (ev_cell hT (ev_var rfl) (ev_var rfl) (ev_var rfl) hi (by omega))
/-! ### _law_hasnt -/
def sp_law_hasnt (K : PySem.W.Frag) : Sp := spV fun vs H z => ∃ a T w i j, vs = [.ref a, .int i, .int j] ∧ At K H a T w ∧ z = .bl (lawHasnt T i j)
theorem ev_lawHasnt {σ : L2.St} {H : Hp} {a : Addr} {T : Tb} {n : Nat} {i j : Int} {ta tb tc : TE} {E : XK} (h : At K H a T n) (ha : Ev ta σ H (.ref a)) (hb : Ev tb σ H (.int i)) (hc : Ev tc σ H (.int j)) :
    Ev (tCall (sp_law_hasnt K) [] E (tCons ta (tCons tb (tCons tc tNil)))) σ H (.bl (lawHasnt T i j)) := ev_call (ea_cons ha (ea_cons hb (ea_cons hc ea_nil))) (spV_of fun _ e => ⟨a, T, n, i, j, rfl, h.mono e, rfl⟩)
theorem cal__law_hasnt (T : Tx K mg) : C8.Cal P w K mg base (0 + 1) "_law_hasnt" (sp_law_hasnt K) [] := by
  refine T.d__law_hasnt.cal sc_law_hasnt (fun _ _ _ _ _ _ us hl => match us, hl with | [_, _, _], _ => rfl) ?_ ?_
  · rintro vs H Q E ⟨z, ⟨a, T, n, i, j, rfl, _⟩, _⟩; rfl
  · rintro f cdv A outer s H vs Q E hr ⟨z, ⟨a, Tb, n, i, j, rfl, hT, rfl⟩, q⟩
    refine ⟨(tRet (tAndV (tChain rLeI rLtI (tC (.int 0)) (tVar 1) (tCB (rLn K) (tCons (tVar 0) tNil))) (tAndV (tChain rLeI rLtI (tC (.int 0)) (tVar 2) (tCB (rLn K) (tCons (tOp (rIxL K) (tVar 0) (tVar 1)) tNil))) (tOp rEq (tOp rIxS (tOp (rIxL K) (tVar 0) (tVar 1)) (tVar 2)) (tC (.str "-")))))), (pss_one (ps_ret (pe_and (pe_chain op_le op_lt pe_int (pv 1) (pe_callB (id := "len") cl_len (by rfl) T.len (by decide +kernel) (pa_cons (pv 0) pa_nil))) (pe_and (pe_chain op_le op_lt pe_int (pv 2) (pe_callB (id := "len") cl_len (by rfl) T.len (by decide +kernel) (pa_cons (pe_ix ix_list (pv 0) (pv 1) (fun _ _ => rfl)) pa_nil))) (pe_one (pe_cmpR op_eq (pe_ix ix_str (pe_ix ix_list (pv 0) (pv 1) (fun _ _ => rfl)) (pv 2) (fun _ _ => rfl)) pe_str (nomark _))))))), ?_⟩
    refine s_ret (ev_andV (b := inW Tb j && !gi Tb i j) (ev_chain (p := decide (0 ≤ i)) (q := decide (i < (Tb.length : Int))) ev_c (ev_var rfl) (fun _ => ev_lenTab hT (ev_var rfl)) rv_I0 fun _ => rv_I0) fun h1 => ?_) q
    obtain ⟨i', rfl, hi⟩ := inT_nat (T := Tb) (a := i) h1
    have hw := width_at hT (List.length_pos_iff.mp (by omega))
    have hlw := hT.lw
    refine ev_andV (ev_chain (p := decide (0 ≤ j)) (q := decide (j < (width Tb : Int))) ev_c (ev_var rfl) (fun _ => ?_) rv_I0 fun _ => rv_I0) fun h2 => ?_
    · rw [hw]
      have hrow := hT.row hi
      have z := ev_lenRow (K := K) (ev_rowI (v := .non) (evs_var rfl hT.sq) hi (ev_var rfl) : Ev (tOp (rIxL K) (tVar 0) (tVar 1)) (start nm_law_hasnt [.ref a, .int (i' : Nat), .int j]) H _) (by omega)
      rw [hrow] at z
      exact z
    · obtain ⟨j', rfl, hj⟩ := inW_nat (T := Tb) (a := j) h2
      rw [gi_nat]
      exact ev_isD (ev_cell hT (ev_var rfl) (ev_var rfl) (ev_var rfl) hi (by omega))
/-! ### _law_ranks -/
def sp_law_ranks (K : PySem.W.Frag) : Sp := spV fun vs H z => ∃ a p T, ∃ r : List Int, vs = [.ref a, .ref p] ∧ At K H a T T.length ∧ SqL K H p (r.map V.int) ∧ r.length ≤ 1000 ∧ z = .bl (ranksOk r T)
theorem ev_lawRanks {σ : L2.St} {H : Hp} {a : Addr} {T : Tb} {r : List Int} {ta tb : TE} {E : XK} (h : At K H a T T.length) (ha : Ev ta σ H (.ref a)) (hb : EvS K tb σ H (r.map V.int)) (hz : r.length ≤ 1000) :
    Ev (tCall (sp_law_ranks K) [] E (tCons ta (tCons tb tNil))) σ H (.bl (ranksOk r T)) := ev_callAv (eav_v ha (eav_s hb eav_nil)) fun vs H1 e hv => by
  obtain ⟨_, rfl, p, _, rfl, hp, rfl⟩ := hv
  exact spV_of fun _ e2 => ⟨a, p, T, r, rfl, h.mono (e.trans e2), ex_l e2 hp, hz, rfl⟩
theorem cal__law_ranks (T : Tx K mg) : C8.Cal P w K mg base (0 + 1) "_law_ranks" (sp_law_ranks K) [] := by
  refine T.d__law_ranks.cal sc_law_ranks (fun _ _ _ _ _ _ us hl => match us, hl with | [_, _], _ => rfl) ?_ ?_
  · rintro vs H Q E ⟨z, ⟨a, p, T, r, rfl, _⟩, _⟩; rfl
  · rintro f cdv A outer s H vs Q E hr ⟨z, ⟨a, p, Tb, r, rfl, hT, hs, hz, rfl⟩, q⟩
    refine ⟨(tSeq (tIfS (tTest (tOp rNe (tCB (rLn K) (tCons (tVar 1) tNil)) (tCB (rLn K) (tCons (tVar 0) tNil)))) (tRet (tC (.bl false))) tNext) (tSeq (tFor (iZip K (tCons (tVar 0) (tCons (tVar 1) tNil))) (gTup K 2 (gCons (gName 2) (gCons (gName 3) gNil))) (tIfS (tB (tCB (rAny K) (tCons (tLc (iZipS K (tCons (tVar 2) (tCons (tVar 1) tNil))) (gTup K 2 (gCons (gName 4) (gCons (gName 5) gNil))) tYes (tOp rNe (tOp rEq (tVar 4) (tC (.str "x"))) (tOp rLtI (tVar 3) (tVar 5))) [4, 5]) tNil))) (tRet (tC (.bl false))) tNext)) (tRet (tC (.bl true))))), (pss_cons (ps_if (pt_cmpR op_ne (pe_callB (id := "len") cl_len (by rfl) T.len (by decide +kernel) (pa_cons (pv 1) pa_nil)) (pe_callB (id := "len") cl_len (by rfl) T.len (by decide +kernel) (pa_cons (pv 0) pa_nil)) (nomark _)) (pss_one (ps_ret pe_bl)) pss_nil) (pss_cons (ps_for PassesOwn.never rfl (pi_zip (by rfl) T.zip (pa_cons (pv 0) (pa_cons (pv 1) pa_nil))) (pg_tup rfl (pgs_cons (pg_name (i := 2) sc_law_ranks.nd rfl (Or.inl rfl)) (pgs_cons (pg_name (i := 3) sc_law_ranks.nd rfl (Or.inr rfl)) pgs_nil))) (pss_one (ps_if (pt_val (pe_callB (id := "any") (cr_any rfl) (by rfl) T.any (by decide +kernel) (pa_cons (pe_lc (own := [("_law_sign", 4), ("_law_theirs", 5)]) rfl sc_law_ranks.nd (pi_zipS (by rfl) T.zip (pa_cons (pv 2) (pa_cons (pv 1) pa_nil))) (blkOk_by (own := [("_law_sign", 4), ("_law_theirs", 5)]) (by kernel_rfl)) (fun _ _ _ _ _ => (pg_tup rfl (pgs_cons (pg_name (i := 4) sc_law_ranks.nd rfl (Or.inl rfl)) (pgs_cons (pg_name (i := 5) sc_law_ranks.nd rfl (Or.inl rfl)) pgs_nil)))) (fun _ _ _ _ _ => pts_nil) (fun _ _ _ _ _ => (pe_cmpR op_ne (pe_cmpR op_eq (pv 4) pe_str (nomark _)) (pe_cmpR op_lt (pv 3) (pv 5) (nomark _)) (nomark _)))) pa_nil))) (pss_one (ps_ret pe_bl)) pss_nil))) (pss_one (ps_ret pe_bl)))), ?_⟩
    refine q_when (et_test (ev_op (ev_lenInts (evs_var rfl hs)) (ev_lenTab hT (ev_var rfl)) (rv_ne rfl))) (fun hb H1 e1 => ?_) fun hb H1 e1 => ?_
    · have hb' : r.length ≠ Tb.length := by rw [dec_int] at hb; intro z; simp [z] at hb
      exact s_ret (ev_is ev_c (by simp [ranksOk, hb'])) fun H2 e2 => q H2 (e1.trans e2)
    · have hb' : r.length = Tb.length := by rw [dec_int] at hb; simp at hb; omega
      have hT1 := hT.mono e1
      have hs1 := ex_l e1 hs
      refine q_forZ (l := Tb) (m := r) (f := fun r => V.str (rs r)) (f' := V.int) (evs_var rfl hT1.sq) (evs_var rfl hs1) hb'.symm (fun k σ' => (∀ (i : Nat), i < k → ∀ row m, Tb[i]? = some row → r[i]? = some m → (r.map fun t => decide (m < t)) = row) ∧ ∃ y2 y3, σ' = [some (.ref a), some (.ref p), y2, y3, none, none]) ⟨fun i hi => absurd hi (Nat.not_lt_zero _), _, _, rfl⟩ ?_ ?_
      · rintro k row m σ' H2 hrow hm e2 ⟨hP, y2, y3, rfl⟩ D' hrt hbk hnx
        have e12 := e1.trans e2
        have hlen : row.length = Tb.length := hT.rect row (List.mem_of_getElem? hrow)
        refine s_when (et_B (ev_anySL (r := row) (ms := r) (p := fun t => decide (m < t)) (ev_var rfl) (evs_var rfl (ex_l e12 hs)) (by omega) (by omega) (fun _ _ => rfl) fun b t => ev_neX (ev_var rfl) (ev_op (ev_var rfl) (ev_var rfl) rv_I0))) (fun hb3 H3 e3 => ?_) fun hb3 H3 e3 => ?_
        · refine s_ret ev_c fun H4 e4 => ?_
          rw [hrt]
          have hf : ranksOk r Tb = false := ranks_bad hrow hm (by simpa using hb3)
          rw [hf] at q
          exact q H4 ((e12.trans e3).trans e4)
        · refine hnx _ _ e3 ⟨fun i hi row' m' h1 h2 => ?_, _, _, rfl⟩
          by_cases hik : i < k
          · exact hP i hik row' m' h1 h2
          · have : i = k := by omega
            subst this
            rw [hrow] at h1; rw [hm] at h2
            cases h1; cases h2
            simpa using hb3
      · rintro σ' H2 e2 ⟨hP, y2, y3, rfl⟩
        have hf : ranksOk r Tb = true := ranks_good hb' fun i row m h1 h2 => hP i (List.getElem?_eq_some_iff.mp h1).1 row m h1 h2
        rw [hf] at q
        exact s_ret ev_c fun H3 e3 => q H3 ((e1.trans e2).trans e3)

end

end WA

namespace WA
open PySem PySem.Spec PyProof.Rows L2 Evl

section
variable {P : Program} {w : World} {K : PySem.W.Frag} {mg : Str → Option Value} {base : Heap}

abbrev ksL : List Kd := [.ranks, .self, .mutual, .beside]
theorem met_any (T : Tx K mg) (k : Kd) (hk : k ∈ ksL) : C8.Met P w K mg base 3 (gaK K k) "shows" (sp_shows K k) [] := by
  have up : ∀ {j : Nat} {C : Addr} {sp : Sp}, C8.Met P w K mg base j C "shows" sp [] → j ≤ 3 → C8.Met P w K mg base 3 C "shows" sp [] := fun h hj => by
    obtain ⟨f, fd, ps, ds, c, m, F, b, d⟩ := h
    exact ⟨f, fd, ps, ds, c, m, F.mono hj, b, d⟩
  simp only [ksL, List.mem_cons, List.not_mem_nil, or_false] at hk
  rcases hk with rfl | rfl | rfl | rfl
  · exact up (met_Ranks T) (by decide)
  · exact up (met_Self T) (by decide)
  · exact up (met_Mutual T) (by decide)
  · exact up (met_Beside T) (by decide)
theorem clsF (T : Tx K mg) (k : Kd) (hk : k ∈ ksL) : ClsF K (gaK K k) := by
  have := T.kf.cls k
  simp only [ksL, List.mem_cons, List.not_mem_nil, or_false] at hk
  rcases hk with rfl | rfl | rfl | rfl
  · exact clsB_ok T.cl_Ranks this
  · exact clsB_ok T.cl_Self this
  · exact clsB_ok T.cl_Mutual this
  · exact clsB_ok T.cl_Beside this
theorem sq_any {k : Kd} {T : Tb} (hk : k ∈ ksL) : sqOf k T T.length := by
  simp only [ksL, List.mem_cons, List.not_mem_nil, or_false] at hk
  rcases hk with rfl | rfl | rfl | rfl <;> rfl
/-! ### _law_due -/
def sp_law_due (K : PySem.W.Frag) : Sp := spV fun vs H z => ∃ a x T ans H0, vs = [.ref a, .ref x] ∧ At K H a T T.length ∧ AnsAt K H0 H x ans ∧ ans.kd ∈ ksL ∧ (∀ r, ans = .ranks r → r.length ≤ 1000) ∧ z = .bl (shown ans T)
theorem ev_lawDue {σ : L2.St} {H H0 : Hp} {a x : Addr} {T : Tb} {ans : Ans} {ta tb : TE} {E : XK} (h : At K H a T T.length) (hA : AnsAt K H0 H x ans) (hk : ans.kd ∈ ksL) (hz : ∀ r, ans = .ranks r → r.length ≤ 1000) (ha : Ev ta σ H (.ref a)) (hb : Ev tb σ H (.ref x)) :
    Ev (tCall (sp_law_due K) [] E (tCons ta (tCons tb tNil))) σ H (.bl (shown ans T)) := ev_call (ea_cons ha (ea_cons hb ea_nil)) (spV_of fun _ e => ⟨a, x, T, ans, H0, rfl, h.mono e, hA.mono e, hk, hz, rfl⟩)
theorem cal__law_due (T : Tx K mg) : C8.Cal P w K mg base (1 + 1) "_law_due" (sp_law_due K) [] := by
  refine T.d__law_due.cal sc_law_due (fun _ _ _ _ _ _ us hl => match us, hl with | [_, _], _ => rfl) ?_ ?_
  · rintro vs H Q E ⟨z, ⟨a, x, T, ans, H0, rfl, _⟩, _⟩; rfl
  · rintro f cdv A outer s H vs Q E hr ⟨z, ⟨a, x, Tb, ans, H0, rfl, hT, hA, hk, hz, rfl⟩, q⟩
    refine ⟨(tSeq (tIfS (tB (tCB (rIsi K) (tCons (tVar 1) (tCons (tC (.ref (He.ga K "Ranks"))) tNil)))) (tRet (tCall (sp_law_ranks K) [] C8.E0 (tCons (tVar 0) (tCons (tFld K (tVar 1) "ranks") tNil)))) tNext) (tSeq (tIfS (tB (tCB (rIsi K) (tCons (tVar 1) (tCons (tC (.ref (He.ga K "Self"))) tNil)))) (tRet (tCall (sp_law_has K) [] C8.E0 (tCons (tVar 0) (tCons (tFld K (tVar 1) "one") (tCons (tFld K (tVar 1) "one") tNil))))) tNext) (tSeq (tIfS (tB (tCB (rIsi K) (tCons (tVar 1) (tCons (tC (.ref (He.ga K "Mutual"))) tNil)))) (tSeq (tIfS (tOr (tTest (tOp rEq (tFld K (tVar 1) "one") (tFld K (tVar 1) "other"))) (tNot (tB (tCall (sp_law_has K) [] C8.E0 (tCons (tVar 0) (tCons (tFld K (tVar 1) "one") (tCons (tFld K (tVar 1) "other") tNil))))))) (tRet (tC (.bl false))) tNext) (tRet (tCall (sp_law_has K) [] C8.E0 (tCons (tVar 0) (tCons (tFld K (tVar 1) "other") (tCons (tFld K (tVar 1) "one") tNil)))))) tNext) (tSeq (tIfS (tOr (tTest (tOp rLtI (tLenS K (tLst (tCons (tFld K (tVar 1) "one") (tCons (tFld K (tVar 1) "other") (tCons (tFld K (tVar 1) "third") tNil))))) (tC (.int 3)))) (tNot (tB (tCall (sp_law_has K) [] C8.E0 (tCons (tVar 0) (tCons (tFld K (tVar 1) "one") (tCons (tFld K (tVar 1) "other") tNil))))))) (tRet (tC (.bl false))) tNext) (tRet (tAndV (tCall (sp_law_hasnt K) [] C8.E0 (tCons (tVar 0) (tCons (tFld K (tVar 1) "one") (tCons (tFld K (tVar 1) "third") tNil)))) (tCall (sp_law_hasnt K) [] C8.E0 (tCons (tVar 0) (tCons (tFld K (tVar 1) "third") (tCons (tFld K (tVar 1) "other") tNil)))))))))), (pss_cons (ps_if (pt_val (pe_callB (id := "isinstance") call_isi (by rfl) T.isinstance (by decide +kernel) (pa_cons (pv 1) (pa_cons (pe_glob (by rfl) T.g_Ranks rfl) pa_nil)))) (pss_one (ps_ret (C8.pe_c (cal__law_ranks T) hr (by decide) (by rfl) (pa_cons (pv 0) (pa_cons (pe_fld (pv 1) rfl) pa_nil))))) pss_nil) (pss_cons (ps_if (pt_val (pe_callB (id := "isinstance") call_isi (by rfl) T.isinstance (by decide +kernel) (pa_cons (pv 1) (pa_cons (pe_glob (by rfl) T.g_Self rfl) pa_nil)))) (pss_one (ps_ret (C8.pe_c (cal__law_has T) hr (by decide) (by rfl) (pa_cons (pv 0) (pa_cons (pe_fld (pv 1) rfl) (pa_cons (pe_fld (pv 1) rfl) pa_nil)))))) pss_nil) (pss_cons (ps_if (pt_val (pe_callB (id := "isinstance") call_isi (by rfl) T.isinstance (by decide +kernel) (pa_cons (pv 1) (pa_cons (pe_glob (by rfl) T.g_Mutual rfl) pa_nil)))) (pss_cons (ps_if (PW.pt (pw_or (pt_cmpR op_eq (pe_fld (pv 1) rfl) (pe_fld (pv 1) rfl) (nomark _)) (pw_or1 (pt_not (pt_val (C8.pe_c (cal__law_has T) hr (by decide) (by rfl) (pa_cons (pv 0) (pa_cons (pe_fld (pv 1) rfl) (pa_cons (pe_fld (pv 1) rfl) pa_nil))))))))) (pss_one (ps_ret pe_bl)) pss_nil) (pss_one (ps_ret (C8.pe_c (cal__law_has T) hr (by decide) (by rfl) (pa_cons (pv 0) (pa_cons (pe_fld (pv 1) rfl) (pa_cons (pe_fld (pv 1) rfl) pa_nil))))))) pss_nil) (pss_cons (ps_if (PW.pt (pw_or (pt_cmpR op_lt (pe_lenS (by rfl) T.len (by rfl) T.set (pe_lst (pa_cons (pe_fld (pv 1) rfl) (pa_cons (pe_fld (pv 1) rfl) (pa_cons (pe_fld (pv 1) rfl) pa_nil))))) pe_int (nomark _)) (pw_or1 (pt_not (pt_val (C8.pe_c (cal__law_has T) hr (by decide) (by rfl) (pa_cons (pv 0) (pa_cons (pe_fld (pv 1) rfl) (pa_cons (pe_fld (pv 1) rfl) pa_nil))))))))) (pss_one (ps_ret pe_bl)) pss_nil) (pss_one (ps_ret (pe_and (C8.pe_c (cal__law_hasnt T) hr (by decide) (by rfl) (pa_cons (pv 0) (pa_cons (pe_fld (pv 1) rfl) (pa_cons (pe_fld (pv 1) rfl) pa_nil)))) (pe_one (C8.pe_c (cal__law_hasnt T) hr (by decide) (by rfl) (pa_cons (pv 0) (pa_cons (pe_fld (pv 1) rfl) (pa_cons (pe_fld (pv 1) rfl) pa_nil)))))))))))), ?_⟩
    have F := clsF T ans.kd hk
    have isA : ∀ (c : Kd) (H1 : Hp), Ex H H1 → Ev (tCB (rIsi K) (tCons (tVar 1) (tCons (tC (.ref (He.ga K c.name))) tNil))) (start nm_law_due [.ref a, .ref x]) H1 (.bl (decide (ans.kd = c))) := fun c H1 e => ev_isA F T.kf (ev_var rfl) (hA.mono e)
    refine q_when (et_B (isA .ranks H (Ex.refl H))) (fun hb H1 e1 => ?_) fun hb1 H1 e1 => ?_
    · match ans, hA, of_decide_eq_true hb, q, hz with
      | .ranks r, ⟨l, hA, hl⟩, _, q, hz =>
        exact s_ret (ev_lawRanks (hT.mono e1) (ev_var rfl) (evs_fld (ev_var rfl) (hA.mono e1) T.cl_Ranks T.n_Ranks_ranks rfl (hl.mono e1)) (hz r rfl)) fun H2 e2 => q H2 (e1.trans e2)
    refine q_when (et_B (isA .self H1 e1)) (fun hb H2 e2 => ?_) fun hb2 H2 e2 => ?_
    · have e12 := e1.trans e2
      match ans, hA, of_decide_eq_true hb, q with
      | .self i, hA, _, q =>
        have fo : Ev (tFld K (tVar 1) "one") (start nm_law_due [.ref a, .ref x]) H2 (.int i) := ev_fld (ev_var rfl) (hA.mono e12) T.cl_Self T.n_Self_one rfl
        exact s_ret (ev_is (ev_lawHas (hT.mono e12) (ev_var rfl) fo fo) (by rw [lawHas_sq hT.rect]; simp only [shown]; cases inT Tb i <;> rfl)) fun H3 e3 => q H3 (e12.trans e3)
    have e12 := e1.trans e2
    refine q_when (et_B (isA .mutual H2 e12)) (fun hb H3 e3 => ?_) fun hb3 H3 e3 => ?_
    · have e13 := e12.trans e3
      match ans, hA, of_decide_eq_true hb, q with
      | .mutual i j, hA, _, q =>
        have fo : ∀ H1, Ex H H1 → Ev (tFld K (tVar 1) "one") (start nm_law_due [.ref a, .ref x]) H1 (.int i) := fun H1 e => ev_fld (ev_var rfl) (hA.mono e) T.cl_Mutual T.n_Mutual_one rfl
        have ft : ∀ H1, Ex H H1 → Ev (tFld K (tVar 1) "other") (start nm_law_due [.ref a, .ref x]) H1 (.int j) := fun H1 e => ev_fld (ev_var rfl) (hA.mono e) T.cl_Mutual T.n_Mutual_other rfl
        refine q_when (et_or (et_test (ev_op (fo H3 e13) (ft H3 e13) (rv_eq rfl))) fun _ => et_not (et_B (ev_lawHas (hT.mono e13) (ev_var rfl) (fo H3 e13) (ft H3 e13)))) (fun hb H4 e4 => ?_) fun hb H4 e4 => ?_
        · rw [dec_int, lawHas_sq hT.rect] at hb
          refine s_ret (ev_is ev_c ?_) fun H5 e5 => q H5 ((e13.trans e4).trans e5)
          simp only [shown]
          revert hb
          cases h1 : decide (i = j) <;> cases inT Tb i <;> cases inT Tb j <;> cases gi Tb i j <;> simp_all
        · have e14 := e13.trans e4
          rw [dec_int, lawHas_sq hT.rect] at hb
          refine s_ret (ev_is (ev_lawHas (hT.mono e14) (ev_var rfl) (ft H4 e14) (fo H4 e14)) ?_) fun H5 e5 => q H5 (e14.trans e5)
          rw [lawHas_sq hT.rect]
          simp only [shown]
          revert hb
          cases h1 : decide (i = j) <;> cases inT Tb i <;> cases inT Tb j <;> cases gi Tb i j <;> cases gi Tb j i <;> simp_all
    have e13 := e12.trans e3
    match ans, hA, hk, hb1, hb2, hb3, q with
    | .beside i j k, hA, _, _, _, _, q =>
      have f1 : ∀ H1, Ex H H1 → Ev (tFld K (tVar 1) "one") (start nm_law_due [.ref a, .ref x]) H1 (.int i) := fun H1 e => ev_fld (ev_var rfl) (hA.mono e) T.cl_Beside T.n_Beside_one rfl
      have f2 : ∀ H1, Ex H H1 → Ev (tFld K (tVar 1) "other") (start nm_law_due [.ref a, .ref x]) H1 (.int j) := fun H1 e => ev_fld (ev_var rfl) (hA.mono e) T.cl_Beside T.n_Beside_other rfl
      have f3 : ∀ H1, Ex H H1 → Ev (tFld K (tVar 1) "third") (start nm_law_due [.ref a, .ref x]) H1 (.int k) := fun H1 e => ev_fld (ev_var rfl) (hA.mono e) T.cl_Beside T.n_Beside_third rfl
      refine q_when (et_or (et_test (ev_op (ev_lenSet (ns := [i, j, k]) (evs_ints3 (f1 H3 e13) (f2 H3 e13) (f3 H3 e13)) (Nat.le_of_ble_eq_true rfl)) ev_c rv_I0)) fun _ => et_not (et_B (ev_lawHas (hT.mono e13) (ev_var rfl) (f1 H3 e13) (f2 H3 e13)))) (fun hb H4 e4 => ?_) fun hb H4 e4 => ?_
      · rw [lt_three, lawHas_sq hT.rect] at hb
        refine s_ret (ev_is ev_c ?_) fun H5 e5 => q H5 ((e13.trans e4).trans e5)
        simp only [shown, threeT]
        revert hb
        cases decide (i = j) <;> cases decide (i = k) <;> cases decide (j = k) <;> cases inT Tb i <;> cases inT Tb j <;> cases inT Tb k <;> cases gi Tb i j <;> simp
      · have e14 := e13.trans e4
        rw [lt_three, lawHas_sq hT.rect] at hb
        refine s_ret (ev_is (ev_andV (ev_lawHasnt (hT.mono e14) (ev_var rfl) (f1 H4 e14) (f3 H4 e14)) fun _ => ev_lawHasnt (hT.mono e14) (ev_var rfl) (f3 H4 e14) (f2 H4 e14)) ?_) fun H5 e5 => q H5 (e14.trans e5)
        rw [lawHasnt_sq hT.rect, lawHasnt_sq hT.rect]
        simp only [shown, threeT]
        revert hb
        cases decide (i = j) <;> cases decide (i = k) <;> cases decide (j = k) <;> cases inT Tb i <;> cases inT Tb j <;> cases inT Tb k <;> cases gi Tb i j <;> cases gi Tb i k <;> cases gi Tb k j <;> simp
/-! ### _law_right -/
def sp_law_right (K : PySem.W.Frag) : Sp := spV fun vs H z => ∃ a T, vs = [.ref a] ∧ At K H a T T.length ∧ T.length < 64 ∧ z = .bl true
theorem sv_law_right {H : Hp} {a : Addr} {T : Tb} (h : At K H a T T.length) (hz : T.length < 64) : SpV (sp_law_right K) ([.ref a] ++ []) H (.bl true) := spV_of fun _ e => ⟨a, T, rfl, h.mono e, hz, rfl⟩
theorem ev_lawRightN {σ : L2.St} {H : Hp} {T : Tb} {te : TE} {E : XK} (h : EvS K te σ H (tv T)) (hr : Rect T T.length) (hz : T.length < 64) : Ev (tCall (sp_law_right K) [] E (tCons te tNil)) σ H (.bl true) :=
  ev_callS1 h fun p H1 e hp => sv_law_right ⟨hp, hr, by omega, by omega⟩ hz
theorem ranks_len {T : Tb} {ans : Ans} (h : shown ans T = true) (hz : T.length < 64) : ∀ r, ans = .ranks r → r.length ≤ 1000 := fun r e => by
  subst e
  have h : ranksOk r T = true := h
  unfold ranksOk at h
  simp only [Bool.and_eq_true, decide_eq_true_eq] at h
  omega
theorem cal__law_right (T : Tx K mg) : C8.Cal P w K mg base (4 + 1) "_law_right" (sp_law_right K) [] := by
  refine T.d__law_right.cal sc_law_right (fun _ _ _ _ _ _ us hl => match us, hl with | [_], _ => rfl) ?_ ?_
  · rintro vs H Q E ⟨z, ⟨a, T, rfl, _⟩, _⟩; rfl
  · rintro f cdv A outer s H vs Q E hr ⟨z, ⟨a, Tb, rfl, hT, hz, rfl⟩, q⟩
    refine ⟨(tSeq (tAsg (tCB (rLs K) (tCons (tVar 0) tNil)) (gName 1)) (tSeq (tAsg (tCall (sp_ranks K) [] C8.E0 (tCons (tVar 1) tNil)) (gName 2)) (tSeq (tAsg (tLst (tCons (tCB (rIsi K) (tCons (tVar 2) (tCons (tC (.ref (He.ga K "Beside"))) tNil))) (tCons (tCB (rIsi K) (tCons (tVar 2) (tCons (tC (.ref (He.ga K "Cross"))) tNil))) (tCons (tCB (rIsi K) (tCons (tVar 2) (tCons (tC (.ref (He.ga K "Line"))) tNil))) (tCons (tCB (rIsi K) (tCons (tVar 2) (tCons (tC (.ref (He.ga K "Mutual"))) tNil))) tNil))))) (gName 3)) (tSeq (tAsg (tOp rCat (tVar 3) (tLst (tCons (tCB (rIsi K) (tCons (tVar 2) (tCons (tC (.ref (He.ga K "Neither"))) tNil))) (tCons (tCB (rIsi K) (tCons (tVar 2) (tCons (tC (.ref (He.ga K "Ranks"))) tNil))) (tCons (tCB (rIsi K) (tCons (tVar 2) (tCons (tC (.ref (He.ga K "Round"))) tNil))) tNil))))) (gName 3)) (tSeq (tAsg (tOp rCat (tVar 3) (tLst (tCons (tCB (rIsi K) (tCons (tVar 2) (tCons (tC (.ref (He.ga K "Self"))) tNil))) (tCons (tCB (rIsi K) (tCons (tVar 2) (tCons (tC (.ref (He.ga K "Steps"))) tNil))) (tCons (tCB (rIsi K) (tCons (tVar 2) (tCons (tC (.ref (He.ga K "Stretches"))) tNil))) tNil))))) (gName 3)) (tSeq (tIfS (tOr (tNot (tB (tCB (rIsi K) (tCons (tVar 2) (tCons (tC (.ref (He.ga K "Answer"))) tNil))))) (tOr (tTest (tOp rNe (tBM K "list" (rCountB K) (tVar 3) (tCons (tC (.bl true)) tNil)) (tC (.int 1)))) (tTest (tOp (rNeD K) (tVar 1) (tVar 0))))) (tRet (tC (.bl false))) tNext) (tSeq (tIfS (tNot (tB (tCB (rAny K) (tCons (tLst (tCons (tCB (rIsi K) (tCons (tVar 2) (tCons (tC (.ref (He.ga K "Ranks"))) tNil))) (tCons (tCB (rIsi K) (tCons (tVar 2) (tCons (tC (.ref (He.ga K "Self"))) tNil))) (tCons (tCB (rIsi K) (tCons (tVar 2) (tCons (tC (.ref (He.ga K "Mutual"))) tNil))) tNil)))) tNil)))) (tIfS (tNot (tB (tCB (rIsi K) (tCons (tVar 2) (tCons (tC (.ref (He.ga K "Beside"))) tNil))))) (tRet (tC (.bl false))) tNext) tNext) (tSeq (tIfS (tB (tCB (rIsi K) (tCons (tVar 2) (tCons (tC (.ref (He.ga K "Ranks"))) tNil)))) (tAsg (tFld K (tVar 2) "ranks") (gName 4)) (tSeq (tAsg (tIf (tB (tCB (rIsi K) (tCons (tVar 2) (tCons (tC (.ref (He.ga K "Self"))) tNil)))) (tLst (tCons (tFld K (tVar 2) "one") tNil)) (tLst (tCons (tFld K (tVar 2) "one") (tCons (tFld K (tVar 2) "other") tNil)))) (gName 4)) (tAsg (tOp rCat (tVar 4) (tIf (tB (tCB (rIsi K) (tCons (tVar 2) (tCons (tC (.ref (He.ga K "Beside"))) tNil)))) (tLst (tCons (tFld K (tVar 2) "third") tNil)) (tLst tNil))) (gName 4)))) (tSeq (tIfS (tOr (tNot (tB (tCall (sp_law_numbers K) [] C8.E0 (tCons (tVar 4) (tCons (tCB (rLn K) (tCons (tVar 4) tNil)) tNil))))) (tOr (tNot (tB (tCall (sp_law_due K) [] C8.E0 (tCons (tVar 0) (tCons (tVar 2) tNil))))) (tTest (tOp rNotB (tAny ksL fun k => tMeth (gaK K k) "shows" (sp_shows K k) [] C8.E0 (tVar 2) (tCons (tVar 0) tNil)) (tC (.bl true)))))) (tRet (tC (.bl false))) tNext) (tSeq (tAsg (tCall (sp_law_turned K) [] C8.E0 (tCons (tVar 0) tNil)) (gName 5)) (tSeq (tIfS (tTest (tOp rNe (tAny ksL fun k => tMeth (gaK K k) "shows" (sp_shows K k) [] C8.E0 (tVar 2) (tCons (tVar 5) tNil)) (tCall (sp_law_due K) [] C8.E0 (tCons (tVar 5) (tCons (tVar 2) tNil))))) (tRet (tC (.bl false))) tNext) (tSeq (tIfS (tB (tCB (rIsi K) (tCons (tVar 2) (tCons (tC (.ref (He.ga K "Ranks"))) tNil)))) (tSeq (tDrop (tBM K "list" rAppend (tFld K (tVar 2) "ranks") (tCons (tC (.int 0)) tNil))) (tRet (tOp rIsB (tAny ksL fun k => tMeth (gaK K k) "shows" (sp_shows K k) [] C8.E0 (tVar 2) (tCons (tVar 0) tNil)) (tC (.bl false))))) tNext) (tRet (tC (.bl true))))))))))))))), (pss_cons (ps_set (i := 1) sc_law_right.nd rfl (Or.inl rfl) (pe_callTy (T := "list") cl_list (by rfl) T.list (by decide +kernel) (pa_cons (pv 0) pa_nil))) (pss_cons (ps_set (i := 2) sc_law_right.nd rfl (Or.inl rfl) (C8.pe_c (cal_ranks T) hr (by decide) (by rfl) (pa_cons (pv 1) pa_nil))) (pss_cons (ps_set (i := 3) sc_law_right.nd rfl (Or.inl rfl) (pe_lst (pa_cons (pe_callB (id := "isinstance") call_isi (by rfl) T.isinstance (by decide +kernel) (pa_cons (pv 2) (pa_cons (pe_glob (by rfl) T.g_Beside rfl) pa_nil))) (pa_cons (pe_callB (id := "isinstance") call_isi (by rfl) T.isinstance (by decide +kernel) (pa_cons (pv 2) (pa_cons (pe_glob (by rfl) T.g_Cross rfl) pa_nil))) (pa_cons (pe_callB (id := "isinstance") call_isi (by rfl) T.isinstance (by decide +kernel) (pa_cons (pv 2) (pa_cons (pe_glob (by rfl) T.g_Line rfl) pa_nil))) (pa_cons (pe_callB (id := "isinstance") call_isi (by rfl) T.isinstance (by decide +kernel) (pa_cons (pv 2) (pa_cons (pe_glob (by rfl) T.g_Mutual rfl) pa_nil))) pa_nil)))))) (pss_cons (ps_set (i := 3) sc_law_right.nd rfl (Or.inl rfl) (pe_op op_cat (pv 3) (pe_lst (pa_cons (pe_callB (id := "isinstance") call_isi (by rfl) T.isinstance (by decide +kernel) (pa_cons (pv 2) (pa_cons (pe_glob (by rfl) T.g_Neither rfl) pa_nil))) (pa_cons (pe_callB (id := "isinstance") call_isi (by rfl) T.isinstance (by decide +kernel) (pa_cons (pv 2) (pa_cons (pe_glob (by rfl) T.g_Ranks rfl) pa_nil))) (pa_cons (pe_callB (id := "isinstance") call_isi (by rfl) T.isinstance (by decide +kernel) (pa_cons (pv 2) (pa_cons (pe_glob (by rfl) T.g_Round rfl) pa_nil))) pa_nil)))))) (pss_cons (ps_set (i := 3) sc_law_right.nd rfl (Or.inl rfl) (pe_op op_cat (pv 3) (pe_lst (pa_cons (pe_callB (id := "isinstance") call_isi (by rfl) T.isinstance (by decide +kernel) (pa_cons (pv 2) (pa_cons (pe_glob (by rfl) T.g_Self rfl) pa_nil))) (pa_cons (pe_callB (id := "isinstance") call_isi (by rfl) T.isinstance (by decide +kernel) (pa_cons (pv 2) (pa_cons (pe_glob (by rfl) T.g_Steps rfl) pa_nil))) (pa_cons (pe_callB (id := "isinstance") call_isi (by rfl) T.isinstance (by decide +kernel) (pa_cons (pv 2) (pa_cons (pe_glob (by rfl) T.g_Stretches rfl) pa_nil))) pa_nil)))))) (pss_cons (ps_if (PW.pt (pw_or (pt_not (pt_val (pe_callB (id := "isinstance") call_isi (by rfl) T.isinstance (by decide +kernel) (pa_cons (pv 2) (pa_cons (pe_glob (by rfl) T.g_Answer rfl) pa_nil))))) (pw_or (pt_cmpR op_ne (pe_bm PySem.F.plainAttrs_list PySem.F.slot_list_count PySem.F.type_list_count mt_countB (pv 3) (pa_cons pe_bl pa_nil)) pe_int (nomark _)) (pw_or1 (pt_cmpR (op_neD hr.units) (pv 1) (pv 0) (nomark _)))))) (pss_one (ps_ret pe_bl)) pss_nil) (pss_cons (ps_if (pt_not (pt_val (pe_callB (id := "any") (cr_any rfl) (by rfl) T.any (by decide +kernel) (pa_cons (pe_lst (pa_cons (pe_callB (id := "isinstance") call_isi (by rfl) T.isinstance (by decide +kernel) (pa_cons (pv 2) (pa_cons (pe_glob (by rfl) T.g_Ranks rfl) pa_nil))) (pa_cons (pe_callB (id := "isinstance") call_isi (by rfl) T.isinstance (by decide +kernel) (pa_cons (pv 2) (pa_cons (pe_glob (by rfl) T.g_Self rfl) pa_nil))) (pa_cons (pe_callB (id := "isinstance") call_isi (by rfl) T.isinstance (by decide +kernel) (pa_cons (pv 2) (pa_cons (pe_glob (by rfl) T.g_Mutual rfl) pa_nil))) pa_nil)))) pa_nil)))) (pss_one (ps_if (pt_not (pt_val (pe_callB (id := "isinstance") call_isi (by rfl) T.isinstance (by decide +kernel) (pa_cons (pv 2) (pa_cons (pe_glob (by rfl) T.g_Beside rfl) pa_nil))))) (pss_one (ps_ret pe_bl)) pss_nil)) pss_nil) (pss_cons (ps_if (pt_val (pe_callB (id := "isinstance") call_isi (by rfl) T.isinstance (by decide +kernel) (pa_cons (pv 2) (pa_cons (pe_glob (by rfl) T.g_Ranks rfl) pa_nil)))) (pss_one (ps_set (i := 4) sc_law_right.nd rfl (Or.inl rfl) (pe_fld (pv 2) rfl))) (pss_cons (ps_set (i := 4) sc_law_right.nd rfl (Or.inl rfl) (pe_ifExp (pt_val (pe_callB (id := "isinstance") call_isi (by rfl) T.isinstance (by decide +kernel) (pa_cons (pv 2) (pa_cons (pe_glob (by rfl) T.g_Self rfl) pa_nil)))) (pe_lst (pa_cons (pe_fld (pv 2) rfl) pa_nil)) (pe_lst (pa_cons (pe_fld (pv 2) rfl) (pa_cons (pe_fld (pv 2) rfl) pa_nil))))) (pss_one (ps_set (i := 4) sc_law_right.nd rfl (Or.inl rfl) (pe_op op_cat (pv 4) (pe_ifExp (pt_val (pe_callB (id := "isinstance") call_isi (by rfl) T.isinstance (by decide +kernel) (pa_cons (pv 2) (pa_cons (pe_glob (by rfl) T.g_Beside rfl) pa_nil)))) (pe_lst (pa_cons (pe_fld (pv 2) rfl) pa_nil)) (pe_lst pa_nil))))))) (pss_cons (ps_if (PW.pt (pw_or (pt_not (pt_val (C8.pe_c (cal__law_numbers T) hr (by decide) (by rfl) (pa_cons (pv 4) (pa_cons (pe_callB (id := "len") cl_len (by rfl) T.len (by decide +kernel) (pa_cons (pv 4) pa_nil)) pa_nil))))) (pw_or (pt_not (pt_val (C8.pe_c (cal__law_due T) hr (by decide) (by rfl) (pa_cons (pv 0) (pa_cons (pv 2) pa_nil))))) (pw_or1 (pt_cmpR op_notBl (pe_any (ks := ksL) fun k hk => C8.pe_mt (met_any T k hk) hr (by decide) (pv 2) (pa_cons (pv 0) pa_nil)) pe_bl (nomark _)))))) (pss_one (ps_ret pe_bl)) pss_nil) (pss_cons (ps_set (i := 5) sc_law_right.nd rfl (Or.inl rfl) (C8.pe_c (cal__law_turned T) hr (by decide) (by rfl) (pa_cons (pv 0) pa_nil))) (pss_cons (ps_if (pt_cmpR op_ne (pe_any (ks := ksL) fun k hk => C8.pe_mt (met_any T k hk) hr (by decide) (pv 2) (pa_cons (pv 5) pa_nil)) (C8.pe_c (cal__law_due T) hr (by decide) (by rfl) (pa_cons (pv 5) (pa_cons (pv 2) pa_nil))) (nomark _)) (pss_one (ps_ret pe_bl)) pss_nil) (pss_cons (ps_if (pt_val (pe_callB (id := "isinstance") call_isi (by rfl) T.isinstance (by decide +kernel) (pa_cons (pv 2) (pa_cons (pe_glob (by rfl) T.g_Ranks rfl) pa_nil)))) (pss_cons (ps_expr (pe_bm PySem.F.plainAttrs_list PySem.F.slot_list_append PySem.F.type_list_append mt_append (pe_fld (pv 2) rfl) (pa_cons pe_int pa_nil))) (pss_one (ps_ret (pe_cmpR op_isBl (pe_any (ks := ksL) fun k hk => C8.pe_mt (met_any T k hk) hr (by decide) (pv 2) (pa_cons (pv 0) pa_nil)) pe_bl (nomark _))))) pss_nil) (pss_one (ps_ret pe_bl)))))))))))))), ?_⟩
    refine q_asgL (el_copy (evs_var rfl hT.sq)) fun b H1 fb e1 hb => ?_
    have hT1 := hT.mono e1
    have hB1 : At K H1 b Tb Tb.length := ⟨sq_of hb, hT.rect, hT.ln, hT.lw⟩
    refine q_asgOpt (eopt_call (T := Tb) (ea_cons (ev_var rfl) ea_nil) fun H2 e2 => ⟨b, rfl, hB1.mono e2, hz⟩) (fun ans x H2 hg hx e2 hA => ?_) fun hf => hf.elim
    have hT2 := hT1.mono e2
    have hB2 := hB1.mono e2
    have hk : ans.kd ∈ ksL := by
      rcases hg.1 with h | h | h | h <;> rw [h] <;> decide
    have hsh := hg.2
    have hrl := ranks_len hsh hz
    have F := clsF T ans.kd hk
    have isA : ∀ {σ : L2.St} (c : Kd) (H3 : Hp), Ex H2 H3 → σ[2]? = some (some (.ref x)) → Ev (tCB (rIsi K) (tCons (tVar 2) (tCons (tC (.ref (He.ga K c.name))) tNil))) σ H3 (.bl (decide (ans.kd = c))) := fun c H3 e h => ev_isA F T.kf (ev_var h) (hA.mono e)
    have e0 := Ex.refl H2
    refine q_asgL (el_lst (ea_cons (isA .beside H2 e0 rfl) (ea_cons (isA .cross H2 e0 rfl) (ea_cons (isA .line H2 e0 rfl) (ea_cons (isA .mutual H2 e0 rfl) ea_nil)))) (show 4 ≤ 100000 by decide)) fun k1 H3 _ e3 hk1 => ?_
    refine q_asgL (el_catM (em_v (ev_var rfl) hk1) (em_l (el_lst (ea_cons (isA .neither H3 e3 rfl) (ea_cons (isA .ranks H3 e3 rfl) (ea_cons (isA .round H3 e3 rfl) ea_nil))) (show 3 ≤ 100000 by decide))) (Nat.le_of_ble_eq_true rfl)) fun k2 H4 _ e4 hk2 => ?_
    have e24 := e3.trans e4
    refine q_asgL (el_catM (em_v (ev_var rfl) hk2) (em_l (el_lst (ea_cons (isA .self H4 e24 rfl) (ea_cons (isA .steps H4 e24 rfl) (ea_cons (isA .stretches H4 e24 rfl) ea_nil))) (show 3 ≤ 100000 by decide))) (Nat.le_of_ble_eq_true rfl)) fun k3 H5 _ e5 hk3 => ?_
    have e25 := e24.trans e5
    have hk3' : H5 k3 = some (.lst ((kindsOf ans.kd).map V.bl)) := hk3
    refine q_when (b := false) (et_is (et_or (et_not (et_B (ev_isAns F T.kf (ev_var rfl) (hA.mono e25)))) fun _ => et_or (et_test (ev_op (ev_countT (evs_var rfl (sq_of hk3'))) ev_c (rv_ne rfl))) fun _ => et_test (ev_neTab (evs_var rfl (hB2.mono e25).sq) (evs_var rfl (hT2.mono e25).sq))) (by rw [kinds_one]; simp)) (fun hb => nomatch hb) fun _ H6 e6 => ?_
    have e26 := e25.trans e6
    refine q_ifJ (b := decide (ans.kd = .beside)) (fun σ' H' => Ex H6 H' ∧ σ' = [some (.ref a), some (.ref b), some (.ref x), some (.ref k3), none, none]) (et_is (et_not (et_B (ev_any (bs := [decide (ans.kd = .ranks), decide (ans.kd = .self), decide (ans.kd = .mutual)]) (els (el_lst (ea_cons (isA .ranks H6 e26 rfl) (ea_cons (isA .self H6 e26 rfl) (ea_cons (isA .mutual H6 e26 rfl) ea_nil))) (show 3 ≤ 100000 by decide)))))) (by revert hk; cases ans.kd <;> decide)) (fun hb H7 e7 D' hrt hnx => ?_) (fun hb H7 e7 D' hrt hnx => hnx _ _ ⟨e7, rfl⟩) ?_
    · have e27 := e26.trans e7
      exact s_when (b := false) (et_is (et_not (et_B (isA .beside H7 e27 rfl))) (by rw [hb]; rfl)) (fun hb => nomatch hb) fun _ H8 e8 => hnx _ _ ⟨e7.trans e8, rfl⟩
    rintro σ' H7 ⟨e7, rfl⟩
    have e27 := e26.trans e7
    refine q_ifJ (fun σ' H' => Ex H7 H' ∧ ∃ p ns, σ' = [some (.ref a), some (.ref b), some (.ref x), some (.ref k3), some (.ref p), none] ∧ SqL K H' p ((ns : List Int).map V.int) ∧ ns.length ≤ 1000) (et_B (isA .ranks H7 e27 rfl)) (fun hb H8 e8 D' hrt hnx => ?_) (fun hb H8 e8 D' hrt hnx => ?_) ?_
    · have e28 := e27.trans e8
      match ans, hA, of_decide_eq_true hb, hrl with
      | .ranks r, ⟨l, hA, hl⟩, _, hrl =>
        exact s_asgSq (evs_fld (ns := r) (ev_var rfl) (hA.mono e28) T.cl_Ranks T.n_Ranks_ranks rfl (hl.mono e28)) fun p H9 e9 hp => hnx _ _ ⟨e8.trans e9, p, r, rfl, hp, hrl r rfl⟩
    · have e28 := e27.trans e8
      match ans, hA, hk, hb, F with
      | .self i, hA, _, _, F =>
        have isB : ∀ {σ : L2.St} (c : Kd) (H3 : Hp), Ex H2 H3 → σ[2]? = some (some (.ref x)) → Ev (tCB (rIsi K) (tCons (tVar 2) (tCons (tC (.ref (He.ga K c.name))) tNil))) σ H3 (.bl (decide (Ans.kd (.self i) = c))) := fun c H3 e h => ev_isA (ans := .self i) F T.kf (ev_var h) (hA.mono e : AnsAt K H1 H3 x (.self i))
        have f1 : ∀ {σ : L2.St} (H3 : Hp), Ex H2 H3 → σ[2]? = some (some (.ref x)) → Ev (tFld K (tVar 2) "one") σ H3 (.int i) := fun H3 e h => ev_fld (ev_var h) (hA.mono e) T.cl_Self T.n_Self_one rfl
        refine q_asgM (xs := [V.int i]) (em_if (et_B (isB .self H8 e28 rfl)) (fun _ => em_l (el_lst (ea_cons (f1 H8 e28 rfl) ea_nil) (show 1 ≤ 100000 by decide))) fun h => absurd (show true = false from h) (by decide)) fun p H9 e9 hp => ?_
        exact s_asgM (xs := [V.int i]) (em_l (el_catM (em_v (ev_var rfl) hp) (em_if (et_B (isB .beside H9 (e28.trans e9) rfl)) (fun h => absurd (show false = true from h) (by decide)) fun _ => em_l el_nil) (Nat.le_of_ble_eq_true rfl))) fun p2 H10 e10 hp2 => hnx _ _ ⟨(e8.trans e9).trans e10, p2, [i], rfl, sq_of hp2, Nat.le_of_ble_eq_true rfl⟩
      | .mutual i j, hA, _, _, F =>
        have isB : ∀ {σ : L2.St} (c : Kd) (H3 : Hp), Ex H2 H3 → σ[2]? = some (some (.ref x)) → Ev (tCB (rIsi K) (tCons (tVar 2) (tCons (tC (.ref (He.ga K c.name))) tNil))) σ H3 (.bl (decide (Ans.kd (.mutual i j) = c))) := fun c H3 e h => ev_isA (ans := .mutual i j) F T.kf (ev_var h) (hA.mono e : AnsAt K H1 H3 x (.mutual i j))
        have f1 : ∀ {σ : L2.St} (H3 : Hp), Ex H2 H3 → σ[2]? = some (some (.ref x)) → Ev (tFld K (tVar 2) "one") σ H3 (.int i) := fun H3 e h => ev_fld (ev_var h) (hA.mono e) T.cl_Mutual T.n_Mutual_one rfl
        have f2 : ∀ {σ : L2.St} (H3 : Hp), Ex H2 H3 → σ[2]? = some (some (.ref x)) → Ev (tFld K (tVar 2) "other") σ H3 (.int j) := fun H3 e h => ev_fld (ev_var h) (hA.mono e) T.cl_Mutual T.n_Mutual_other rfl
        refine q_asgM (xs := [V.int i, V.int j]) (em_if (et_B (isB .self H8 e28 rfl)) (fun h => absurd (show false = true from h) (by decide)) fun _ => em_l (el_lst (ea_cons (f1 H8 e28 rfl) (ea_cons (f2 H8 e28 rfl) ea_nil)) (show 2 ≤ 100000 by decide))) fun p H9 e9 hp => ?_
        exact s_asgM (xs := [V.int i, V.int j]) (em_l (el_catM (em_v (ev_var rfl) hp) (em_if (et_B (isB .beside H9 (e28.trans e9) rfl)) (fun h => absurd (show false = true from h) (by decide)) fun _ => em_l el_nil) (Nat.le_of_ble_eq_true rfl))) fun p2 H10 e10 hp2 => hnx _ _ ⟨(e8.trans e9).trans e10, p2, [i, j], rfl, sq_of hp2, Nat.le_of_ble_eq_true rfl⟩
      | .beside i j k, hA, _, _, F =>
        have isB : ∀ {σ : L2.St} (c : Kd) (H3 : Hp), Ex H2 H3 → σ[2]? = some (some (.ref x)) → Ev (tCB (rIsi K) (tCons (tVar 2) (tCons (tC (.ref (He.ga K c.name))) tNil))) σ H3 (.bl (decide (Ans.kd (.beside i j k) = c))) := fun c H3 e h => ev_isA (ans := .beside i j k) F T.kf (ev_var h) (hA.mono e : AnsAt K H1 H3 x (.beside i j k))
        have f1 : ∀ {σ : L2.St} (H3 : Hp), Ex H2 H3 → σ[2]? = some (some (.ref x)) → Ev (tFld K (tVar 2) "one") σ H3 (.int i) := fun H3 e h => ev_fld (ev_var h) (hA.mono e) T.cl_Beside T.n_Beside_one rfl
        have f2 : ∀ {σ : L2.St} (H3 : Hp), Ex H2 H3 → σ[2]? = some (some (.ref x)) → Ev (tFld K (tVar 2) "other") σ H3 (.int j) := fun H3 e h => ev_fld (ev_var h) (hA.mono e) T.cl_Beside T.n_Beside_other rfl
        have f3 : ∀ {σ : L2.St} (H3 : Hp), Ex H2 H3 → σ[2]? = some (some (.ref x)) → Ev (tFld K (tVar 2) "third") σ H3 (.int k) := fun H3 e h => ev_fld (ev_var h) (hA.mono e) T.cl_Beside T.n_Beside_third rfl
        refine q_asgM (xs := [V.int i, V.int j]) (em_if (et_B (isB .self H8 e28 rfl)) (fun h => absurd (show false = true from h) (by decide)) fun _ => em_l (el_lst (ea_cons (f1 H8 e28 rfl) (ea_cons (f2 H8 e28 rfl) ea_nil)) (show 2 ≤ 100000 by decide))) fun p H9 e9 hp => ?_
        exact s_asgM (xs := [V.int i, V.int j, V.int k]) (em_l (el_catM (em_v (ev_var rfl) hp) (em_if (et_B (isB .beside H9 (e28.trans e9) rfl)) (fun _ => em_l (el_lst (ea_cons (f3 H9 (e28.trans e9) rfl) ea_nil) (show 1 ≤ 100000 by decide))) fun h => absurd (show true = false from h) (by decide)) (Nat.le_of_ble_eq_true rfl))) fun p2 H10 e10 hp2 => hnx _ _ ⟨(e8.trans e9).trans e10, p2, [i, j, k], rfl, sq_of hp2, Nat.le_of_ble_eq_true rfl⟩
    rintro σ' H8 ⟨e8, p, ns, rfl, hp, hnl⟩
    have e28 := e27.trans e8
    have hT8 := hT2.mono e28
    refine q_when (b := false) (et_is (et_or (et_not (et_B (ev_call (ea_cons (ev_var rfl) (ea_cons (ev_lenInts (evs_var rfl hp)) ea_nil)) (sv_law_numbers hp hnl)))) fun _ => et_or (et_not (et_B (ev_lawDue hT8 (hA.mono e28) hk hrl (ev_var rfl) (ev_var rfl)))) fun _ => et_test (ev_op (ev_anyK hk (ev_shows (k := ans.kd) (ev_var rfl) rfl (hA.mono e28) (ev_var rfl) hT8 (sq_any hk))) ev_c rv_notB)) (by rw [hsh]; simp)) (fun hb => nomatch hb) fun _ H9 e9 => ?_
    have e29 := e28.trans e9
    have hT9 := hT2.mono e29
    refine q_asgL (el_call (ea_cons (ev_var rfl) ea_nil) (sl_law_turned hT9)) fun o H10 _ e10 ho => ?_
    have e210 := e29.trans e10
    have hO : At K H10 o (turnT Tb Tb.length) (turnT Tb Tb.length).length := by
      have z := hT2.turned (sq_of (K := K) ho)
      rw [turnT_sq]
      exact z
    refine q_when (b := false) (et_is (et_test (ev_op (ev_anyK hk (ev_shows (k := ans.kd) (ev_var rfl) rfl (hA.mono e210) (ev_var rfl) hO (sq_any hk))) (ev_lawDue hO (hA.mono e210) hk hrl (ev_var rfl) (ev_var rfl)) (rv_ne rfl))) (by simp)) (fun hb => nomatch hb) fun _ H11 e11 => ?_
    have e211 := e210.trans e11
    refine q_when (et_B (isA .ranks H11 e211 rfl)) (fun hb H12 e12 => ?_) fun hb H12 e12 => ?_
    · have e212 := e211.trans e12
      match ans, hA, of_decide_eq_true hb, hrl, hsh with
      | .ranks r, ⟨l, hI, hl⟩, _, hrl, hsh =>
        have hl12 := (hl.mono e212).2
        refine q_app (l := l) (xs := r.map V.int) hl12 (ev_fld (ev_var rfl) (hI.mono e212) T.cl_Ranks T.n_Ranks_ranks rfl) ev_c (by rw [List.length_map]; have := hrl r rfl; omega) fun H13 e13 => ?_
        have e213 := e212.trans e13
        have eU : Ex H1 (upd H13 l (.lst (r.map V.int ++ [.int 0]))) := Ex.mut (e2.trans e213) hl.1
        have hA13 : AnsAt K H1 (upd H13 l (.lst (r.map V.int ++ [.int 0]))) x (.ranks (r ++ [0])) := by
          refine ⟨l, ?_, hl.1, by rw [upd_same, List.map_append]; rfl⟩
          obtain ⟨dx, hd⟩ := hI.mono e213
          exact ⟨dx, by rw [upd_ne (fun z => by rw [z] at hd; rw [e13 _ _ hl12] at hd; cases hd)]; exact hd⟩
        refine s_ret (ev_is (ev_op (ev_anyK (show Kd.ranks ∈ ksL by decide) (ev_shows (k := .ranks) (ev_var rfl) rfl hA13 (ev_var rfl) (hT1.mono eU) rfl)) ev_c rv_isB) ?_) fun H14 e14 => q H14 (e1.trans (eU.trans e14))
        have h : ranksOk r Tb = true := hsh
        have hl2 : r.length = Tb.length := by
          unfold ranksOk at h
          simp only [Bool.and_eq_true, decide_eq_true_eq] at h
          exact h.1
        simp [shown, ranksOk, hl2]
    · exact s_ret ev_c fun H13 e13 => q H13 ((((e1.trans e2).trans e211).trans e12).trans e13)
/-! ### the law -/
def sp_law (K : PySem.W.Frag) : Sp := fun vs H Q _ => ∃ (a : Addr) (ns : List Int), vs = [.ref a] ∧ SqL K H a (ns.map V.int) ∧ ns.length ≤ 63 ∧ ∀ H', Q (.bl true) H'
theorem ok_law (T : Tx K mg) {f : Addr} {fd : FuncData} (F : FunD K "law" "law" (defArgs s_law) (defBody s_law) (defScope s_law) [] [] f fd) : FnOk P w K mg base C8.CX0 (5 + 1) f fd ["_law_script"] (sp_law K) := by
  refine fn_ok F sc_law ?_ ?_
  · rintro vs H Q E ⟨a, ns, rfl, _⟩; rfl
  · rintro f cdv A outer s H vs Q E hr ⟨a, ns, rfl, hs, hz, q⟩
    refine ⟨(tSeq (tAsg (tCall (sp_law_table K) [] C8.E0 (tCons (tVar 0) tNil)) (gName 1)) (tSeq (tAsg (tLc (iList K (tSl (rSlL K) (tVar 1) tNoPart (tPart (tC (.int 9))))) (gName 2) tYes (tSl rSlS (tVar 2) tNoPart (tPart (tC (.int 9)))) [2]) (gName 3)) (tRet (tAndV (tCall (sp_law_right K) [] C8.E0 (tCons (tVar 1) tNil)) (tAndV (tCall (sp_law_right K) [] C8.E0 (tCons (tVar 3) tNil)) (tAndV (tCall (sp_law_right K) [] C8.E0 (tCons (tLst tNil) tNil)) (tAndV (tCall (sp_law_right K) [] C8.E0 (tCons (tLst (tCons (tC (.str "-x")) (tCons (tC (.str "x-")) tNil))) tNil)) (tCall (sp_law_right K) [] C8.E0 (tCons (tLst (tCons (tC (.str "x")) tNil)) tNil))))))))), (pss_cons (ps_set (i := 1) sc_law.nd rfl (Or.inl rfl) (C8.pe_c (cal__law_table T) hr (by decide) (by rfl) (pa_cons (pv 0) pa_nil))) (pss_cons (ps_setLc (i := 3) (own := [("_law_row", 2)]) rfl sc_law.nd rfl rfl (sw_true rfl rfl rfl (by decide +kernel)) (pi_list (pe_slice sl_list (pv 1) po_none (po_some pe_int))) (blkOk_by (own := [("_law_row", 2)]) (by kernel_rfl)) (fun _ _ _ _ _ => (pg_name (i := 2) sc_law.nd rfl (Or.inl rfl))) (fun _ _ _ _ _ => pts_nil) (fun _ _ _ _ _ => (pe_slice sl_str (pv 2) po_none (po_some pe_int)))) (pss_one (ps_ret (pe_and (C8.pe_c (cal__law_right T) hr (by decide) (by rfl) (pa_cons (pv 1) pa_nil)) (pe_and (C8.pe_c (cal__law_right T) hr (by decide) (by rfl) (pa_cons (pv 3) pa_nil)) (pe_and (C8.pe_c (cal__law_right T) hr (by decide) (by rfl) (pa_cons (pe_lst pa_nil) pa_nil)) (pe_and (C8.pe_c (cal__law_right T) hr (by decide) (by rfl) (pa_cons (pe_lst (pa_cons pe_str (pa_cons pe_str pa_nil))) pa_nil)) (pe_one (C8.pe_c (cal__law_right T) hr (by decide) (by rfl) (pa_cons (pe_lst (pa_cons pe_str pa_nil)) pa_nil))))))))))), ?_⟩
    refine q_law_table (ev_var rfl) hs hz fun Tb t H1 hTl hTr _ e1 ht => ?_
    have hT : At K H1 t Tb Tb.length := ⟨sq_of ht, by rw [hTl]; exact hTr, by omega, by omega⟩
    have hln := hT.ln
    refine q_asgL (xs := tv (corner Tb 9)) (EvL.is (el_map (l := Tb.take 9) (g := fun r => V.str (rs r)) (f := fun r => V.str (rs (r.take 9))) (els (el_cutTo (k := 9) hT (ev_var rfl) ev_c)) (by rw [List.length_take]; omega) (fun _ => rfl) fun r hr => ev_cutTo (k := 9) (ev_var rfl) ev_c (by rw [hT.rect r (List.mem_of_mem_take hr)]; omega)) (by unfold tv corner; rw [List.map_map]; rfl)) fun c H2 _ e2 hc => ?_
    have hT2 := hT.mono e2
    refine s_ret (ev_is (ev_andV (ev_call (ea_cons (ev_var rfl) ea_nil) (sv_law_right hT2 (by omega))) fun _ => ev_andV (ev_lawRightN (T := corner Tb 9) (evs_var rfl (sq_of hc)) (corner_rect hT.rect 9) (by rw [corner_len]; omega)) fun _ =>
      ev_andV (ev_lawRightN (T := []) (els el_nil) (fun r hr => by cases hr) (by decide)) fun _ => ev_andV (ev_lawRightN (T := [[false, true], [true, false]]) (els (EvL.is (el_lst (ea_cons ev_c (ea_cons ev_c ea_nil)) (show 2 ≤ 100000 by decide)) tv_two)) (by intro r hr; simp at hr; rcases hr with rfl | rfl <;> rfl) (by decide)) fun _ =>
        ev_lawRightN (T := [[true]]) (els (EvL.is (el_lst (ea_cons ev_c ea_nil) (show 1 ≤ 100000 by decide)) tv_one)) (by intro r hr; simp at hr; subst hr; rfl) (by decide)) (by rfl)) fun H3 _ => q H3

end

end WA

namespace WA
open PySem PySem.Spec PyProof.Rows L2 Evl

def dd_check_table : He.DefD := ⟨("check_table", none), "check_table", "check_table", defArgs s_check_table, defBody s_check_table, defScope s_check_table, [], []⟩
def dd_check_square : He.DefD := ⟨("check_square", none), "check_square", "check_square", defArgs s_check_square, defBody s_check_square, defScope s_check_square, [], []⟩
def dd_has : He.DefD := ⟨("has", none), "has", "has", defArgs s_has, defBody s_has, defScope s_has, [], []⟩
def dd_rows_with : He.DefD := ⟨("rows_with", none), "rows_with", "rows_with", defArgs s_rows_with, defBody s_rows_with, defScope s_rows_with, [], []⟩
def dd_are_things : He.DefD := ⟨("are_things", none), "are_things", "are_things", defArgs s_are_things, defBody s_are_things, defScope s_are_things, [], []⟩
def dd_are_three : He.DefD := ⟨("are_three", none), "are_three", "are_three", defArgs s_are_three, defBody s_are_three, defScope s_are_three, [], []⟩
def dd_levels_of : He.DefD := ⟨("levels_of", none), "levels_of", "levels_of", defArgs s_levels_of, defBody s_levels_of, defScope s_levels_of, [], []⟩
def dd_self_of : He.DefD := ⟨("self_of", none), "self_of", "self_of", defArgs s_self_of, defBody s_self_of, defScope s_self_of, [], []⟩
def dd_sizes_of : He.DefD := ⟨("sizes_of", none), "sizes_of", "sizes_of", defArgs s_sizes_of, defBody s_sizes_of, defScope s_sizes_of, [], []⟩
def dd_mutual_of : He.DefD := ⟨("mutual_of", none), "mutual_of", "mutual_of", defArgs s_mutual_of, defBody s_mutual_of, defScope s_mutual_of, [], []⟩
def dd_first_ahead : He.DefD := ⟨("first_ahead", none), "first_ahead", "first_ahead", defArgs s_first_ahead, defBody s_first_ahead, defScope s_first_ahead, [], []⟩
def dd_ranks : He.DefD := ⟨("ranks", none), "ranks", "ranks", defArgs s_ranks, defBody s_ranks, defScope s_ranks, [], []⟩
def dd_law_table : He.DefD := ⟨("_law_table", none), "_law_table", "_law_table", defArgs s_law_table, defBody s_law_table, defScope s_law_table, [], []⟩
def dd_law_turned : He.DefD := ⟨("_law_turned", none), "_law_turned", "_law_turned", defArgs s_law_turned, defBody s_law_turned, defScope s_law_turned, [], []⟩
def dd_law_numbers : He.DefD := ⟨("_law_numbers", none), "_law_numbers", "_law_numbers", defArgs s_law_numbers, defBody s_law_numbers, defScope s_law_numbers, [], []⟩
def dd_law_has : He.DefD := ⟨("_law_has", none), "_law_has", "_law_has", defArgs s_law_has, defBody s_law_has, defScope s_law_has, [], []⟩
def dd_law_hasnt : He.DefD := ⟨("_law_hasnt", none), "_law_hasnt", "_law_hasnt", defArgs s_law_hasnt, defBody s_law_hasnt, defScope s_law_hasnt, [], []⟩
def dd_law_ranks : He.DefD := ⟨("_law_ranks", none), "_law_ranks", "_law_ranks", defArgs s_law_ranks, defBody s_law_ranks, defScope s_law_ranks, [], []⟩
def dd_law_due : He.DefD := ⟨("_law_due", none), "_law_due", "_law_due", defArgs s_law_due, defBody s_law_due, defScope s_law_due, [], []⟩
def dd_law_right : He.DefD := ⟨("_law_right", none), "_law_right", "_law_right", defArgs s_law_right, defBody s_law_right, defScope s_law_right, [], []⟩
def dd_law : He.DefD := ⟨("law", none), "law", "law", defArgs s_law, defBody s_law, defScope s_law, [], []⟩
def dd_Steps_init : He.DefD := ⟨("Steps", some "__init__"), "__init__", "Steps.__init__", defArgs s_Steps_init, defBody s_Steps_init, defScope s_Steps_init, [], []⟩
def dd_Steps_shows : He.DefD := ⟨("Steps", some "shows"), "shows", "Steps.shows", defArgs s_Steps_shows, defBody s_Steps_shows, defScope s_Steps_shows, [], []⟩
def dd_Cross_init : He.DefD := ⟨("Cross", some "__init__"), "__init__", "Cross.__init__", defArgs s_Cross_init, defBody s_Cross_init, defScope s_Cross_init, [], []⟩
def dd_Cross_shows : He.DefD := ⟨("Cross", some "shows"), "shows", "Cross.shows", defArgs s_Cross_shows, defBody s_Cross_shows, defScope s_Cross_shows, [], []⟩
def dd_Stretches_init : He.DefD := ⟨("Stretches", some "__init__"), "__init__", "Stretches.__init__", defArgs s_Stretches_init, defBody s_Stretches_init, defScope s_Stretches_init, [], []⟩
def dd_Stretches_shows : He.DefD := ⟨("Stretches", some "shows"), "shows", "Stretches.shows", defArgs s_Stretches_shows, defBody s_Stretches_shows, defScope s_Stretches_shows, [], []⟩
def dd_Self_init : He.DefD := ⟨("Self", some "__init__"), "__init__", "Self.__init__", defArgs s_Self_init, defBody s_Self_init, defScope s_Self_init, [], []⟩
def dd_Self_shows : He.DefD := ⟨("Self", some "shows"), "shows", "Self.shows", defArgs s_Self_shows, defBody s_Self_shows, defScope s_Self_shows, [], []⟩
def dd_Ranks_init : He.DefD := ⟨("Ranks", some "__init__"), "__init__", "Ranks.__init__", defArgs s_Ranks_init, defBody s_Ranks_init, defScope s_Ranks_init, [], []⟩
def dd_Ranks_shows : He.DefD := ⟨("Ranks", some "shows"), "shows", "Ranks.shows", defArgs s_Ranks_shows, defBody s_Ranks_shows, defScope s_Ranks_shows, [], []⟩
def dd_Mutual_init : He.DefD := ⟨("Mutual", some "__init__"), "__init__", "Mutual.__init__", defArgs s_Mutual_init, defBody s_Mutual_init, defScope s_Mutual_init, [], []⟩
def dd_Mutual_shows : He.DefD := ⟨("Mutual", some "shows"), "shows", "Mutual.shows", defArgs s_Mutual_shows, defBody s_Mutual_shows, defScope s_Mutual_shows, [], []⟩
def dd_Beside_init : He.DefD := ⟨("Beside", some "__init__"), "__init__", "Beside.__init__", defArgs s_Beside_init, defBody s_Beside_init, defScope s_Beside_init, [], []⟩
def dd_Beside_shows : He.DefD := ⟨("Beside", some "shows"), "shows", "Beside.shows", defArgs s_Beside_shows, defBody s_Beside_shows, defScope s_Beside_shows, [], []⟩
def dd_Line_init : He.DefD := ⟨("Line", some "__init__"), "__init__", "Line.__init__", defArgs s_Line_init, defBody s_Line_init, defScope s_Line_init, [], []⟩
def dd_Line_shows : He.DefD := ⟨("Line", some "shows"), "shows", "Line.shows", defArgs s_Line_shows, defBody s_Line_shows, defScope s_Line_shows, [], []⟩
def dd_Neither_init : He.DefD := ⟨("Neither", some "__init__"), "__init__", "Neither.__init__", defArgs s_Neither_init, defBody s_Neither_init, defScope s_Neither_init, [], []⟩
def dd_Neither_shows : He.DefD := ⟨("Neither", some "shows"), "shows", "Neither.shows", defArgs s_Neither_shows, defBody s_Neither_shows, defScope s_Neither_shows, [], []⟩
def dd_Round_init : He.DefD := ⟨("Round", some "__init__"), "__init__", "Round.__init__", defArgs s_Round_init, defBody s_Round_init, defScope s_Round_init, [], []⟩
def dd_Round_shows : He.DefD := ⟨("Round", some "shows"), "shows", "Round.shows", defArgs s_Round_shows, defBody s_Round_shows, defScope s_Round_shows, [], []⟩
def fnL : List He.DefD := [dd_check_table, dd_check_square, dd_has, dd_rows_with, dd_are_things, dd_are_three, dd_levels_of, dd_self_of, dd_sizes_of, dd_mutual_of, dd_first_ahead, dd_ranks, dd_law_table, dd_law_turned, dd_law_numbers, dd_law_has, dd_law_hasnt, dd_law_ranks, dd_law_due, dd_law_right, dd_law, dd_Steps_init, dd_Steps_shows, dd_Cross_init, dd_Cross_shows, dd_Stretches_init, dd_Stretches_shows, dd_Self_init, dd_Self_shows, dd_Ranks_init, dd_Ranks_shows, dd_Mutual_init, dd_Mutual_shows, dd_Beside_init, dd_Beside_shows, dd_Line_init, dd_Line_shows, dd_Neither_init, dd_Neither_shows, dd_Round_init, dd_Round_shows]
def fctL : List He.Fa := [.free "len", .free "sum", .free "all", .free "any", .free "sorted", .free "isinstance", .free "list", .free "set", .free "tuple", .free "range", .free "enumerate", .free "zip", .free "str", .free "int", .free "bool", .glo "check_table", .glo "check_square", .glo "has", .glo "rows_with", .glo "are_things", .glo "are_three", .glo "levels_of", .glo "self_of", .glo "sizes_of", .glo "mutual_of", .glo "first_ahead", .glo "ranks", .glo "_law_table", .glo "_law_turned", .glo "_law_numbers", .glo "_law_has", .glo "_law_hasnt", .glo "_law_ranks", .glo "_law_due", .glo "_law_right", .glo "law", .glo "Answer", .glo "Steps", .cls "Steps", .mkr "Steps", .meth "Steps" "shows", .noat "Steps" "rows", .noat "Steps" "columns", .glo "Cross", .cls "Cross", .mkr "Cross", .meth "Cross" "shows", .noat "Cross" "one", .noat "Cross" "first", .noat "Cross" "other", .noat "Cross" "second", .glo "Stretches", .cls "Stretches", .mkr "Stretches", .meth "Stretches" "shows", .noat "Stretches" "begins", .noat "Stretches" "ends", .noat "Stretches" "unlike", .glo "Self", .cls "Self", .mkr "Self", .meth "Self" "shows", .noat "Self" "one", .glo "Ranks", .cls "Ranks", .mkr "Ranks", .meth "Ranks" "shows", .noat "Ranks" "ranks", .glo "Mutual", .cls "Mutual", .mkr "Mutual", .meth "Mutual" "shows", .noat "Mutual" "one", .noat "Mutual" "other", .glo "Beside", .cls "Beside", .mkr "Beside", .meth "Beside" "shows", .noat "Beside" "one", .noat "Beside" "other", .noat "Beside" "third", .glo "Line", .cls "Line", .mkr "Line", .meth "Line" "shows", .noat "Line" "order", .glo "Neither", .cls "Neither", .mkr "Neither", .meth "Neither" "shows", .noat "Neither" "one", .noat "Neither" "other", .glo "Round", .cls "Round", .mkr "Round", .meth "Round" "shows", .noat "Round" "one", .noat "Round" "other", .noat "Round" "third"]
def tfL : List He.Defn := []
theorem mkTx {w : World} {K : PySem.W.Frag} {h : Heap} {mg : Str → Option Value} (X : K.In h) (G : h.Ns mainGlobals mg) (cx : He.SaysX fctL fnL [] tfL kindB w h K) : Tx K mg :=
  have c : He.SaysD fctL fnL K := cx.t.d
  ⟨(He.free_ok X G (c.fact 0 (f := .free "len") rfl) : _),
   (He.free_ok X G (c.fact 1 (f := .free "sum") rfl) : _),
   (He.free_ok X G (c.fact 2 (f := .free "all") rfl) : _),
   (He.free_ok X G (c.fact 3 (f := .free "any") rfl) : _),
   (He.free_ok X G (c.fact 4 (f := .free "sorted") rfl) : _),
   (He.free_ok X G (c.fact 5 (f := .free "isinstance") rfl) : _),
   (He.free_ok X G (c.fact 6 (f := .free "list") rfl) : _),
   (He.free_ok X G (c.fact 7 (f := .free "set") rfl) : _),
   (He.free_ok X G (c.fact 8 (f := .free "tuple") rfl) : _),
   (He.free_ok X G (c.fact 9 (f := .free "range") rfl) : _),
   (He.free_ok X G (c.fact 10 (f := .free "enumerate") rfl) : _),
   (He.free_ok X G (c.fact 11 (f := .free "zip") rfl) : _),
   (He.free_ok X G (c.fact 12 (f := .free "str") rfl) : _),
   (He.free_ok X G (c.fact 13 (f := .free "int") rfl) : _),
   (He.free_ok X G (c.fact 14 (f := .free "bool") rfl) : _),
   ((let ⟨fd, F⟩ := c.def_ 0 (d := dd_check_table) rfl; ⟨_, fd, F, He.glo_ok X G (c.fact 15 (f := .glo "check_table") rfl)⟩) : _),
   ((let ⟨fd, F⟩ := c.def_ 1 (d := dd_check_square) rfl; ⟨_, fd, F, He.glo_ok X G (c.fact 16 (f := .glo "check_square") rfl)⟩) : _),
   ((let ⟨fd, F⟩ := c.def_ 2 (d := dd_has) rfl; ⟨_, fd, F, He.glo_ok X G (c.fact 17 (f := .glo "has") rfl)⟩) : _),
   ((let ⟨fd, F⟩ := c.def_ 3 (d := dd_rows_with) rfl; ⟨_, fd, F, He.glo_ok X G (c.fact 18 (f := .glo "rows_with") rfl)⟩) : _),
   ((let ⟨fd, F⟩ := c.def_ 4 (d := dd_are_things) rfl; ⟨_, fd, F, He.glo_ok X G (c.fact 19 (f := .glo "are_things") rfl)⟩) : _),
   ((let ⟨fd, F⟩ := c.def_ 5 (d := dd_are_three) rfl; ⟨_, fd, F, He.glo_ok X G (c.fact 20 (f := .glo "are_three") rfl)⟩) : _),
   ((let ⟨fd, F⟩ := c.def_ 6 (d := dd_levels_of) rfl; ⟨_, fd, F, He.glo_ok X G (c.fact 21 (f := .glo "levels_of") rfl)⟩) : _),
   ((let ⟨fd, F⟩ := c.def_ 7 (d := dd_self_of) rfl; ⟨_, fd, F, He.glo_ok X G (c.fact 22 (f := .glo "self_of") rfl)⟩) : _),
   ((let ⟨fd, F⟩ := c.def_ 8 (d := dd_sizes_of) rfl; ⟨_, fd, F, He.glo_ok X G (c.fact 23 (f := .glo "sizes_of") rfl)⟩) : _),
   ((let ⟨fd, F⟩ := c.def_ 9 (d := dd_mutual_of) rfl; ⟨_, fd, F, He.glo_ok X G (c.fact 24 (f := .glo "mutual_of") rfl)⟩) : _),
   ((let ⟨fd, F⟩ := c.def_ 10 (d := dd_first_ahead) rfl; ⟨_, fd, F, He.glo_ok X G (c.fact 25 (f := .glo "first_ahead") rfl)⟩) : _),
   ((let ⟨fd, F⟩ := c.def_ 11 (d := dd_ranks) rfl; ⟨_, fd, F, He.glo_ok X G (c.fact 26 (f := .glo "ranks") rfl)⟩) : _),
   ((let ⟨fd, F⟩ := c.def_ 12 (d := dd_law_table) rfl; ⟨_, fd, F, He.glo_ok X G (c.fact 27 (f := .glo "_law_table") rfl)⟩) : _),
   ((let ⟨fd, F⟩ := c.def_ 13 (d := dd_law_turned) rfl; ⟨_, fd, F, He.glo_ok X G (c.fact 28 (f := .glo "_law_turned") rfl)⟩) : _),
   ((let ⟨fd, F⟩ := c.def_ 14 (d := dd_law_numbers) rfl; ⟨_, fd, F, He.glo_ok X G (c.fact 29 (f := .glo "_law_numbers") rfl)⟩) : _),
   ((let ⟨fd, F⟩ := c.def_ 15 (d := dd_law_has) rfl; ⟨_, fd, F, He.glo_ok X G (c.fact 30 (f := .glo "_law_has") rfl)⟩) : _),
   ((let ⟨fd, F⟩ := c.def_ 16 (d := dd_law_hasnt) rfl; ⟨_, fd, F, He.glo_ok X G (c.fact 31 (f := .glo "_law_hasnt") rfl)⟩) : _),
   ((let ⟨fd, F⟩ := c.def_ 17 (d := dd_law_ranks) rfl; ⟨_, fd, F, He.glo_ok X G (c.fact 32 (f := .glo "_law_ranks") rfl)⟩) : _),
   ((let ⟨fd, F⟩ := c.def_ 18 (d := dd_law_due) rfl; ⟨_, fd, F, He.glo_ok X G (c.fact 33 (f := .glo "_law_due") rfl)⟩) : _),
   ((let ⟨fd, F⟩ := c.def_ 19 (d := dd_law_right) rfl; ⟨_, fd, F, He.glo_ok X G (c.fact 34 (f := .glo "_law_right") rfl)⟩) : _),
   ((let ⟨fd, F⟩ := c.def_ 20 (d := dd_law) rfl; ⟨_, fd, F, He.glo_ok X G (c.fact 35 (f := .glo "law") rfl)⟩) : _),
   (He.glo_ok X G (c.fact 36 (f := .glo "Answer") rfl) : _),
   (He.glo_ok X G (c.fact 37 (f := .glo "Steps") rfl) : _),
   (He.cls_ok (c.fact 38 (f := .cls "Steps") rfl) : _),
   (He.mkr_ok (c.fact 39 (f := .mkr "Steps") rfl) : _),
   (He.meth_ok (c.fact 40 (f := .meth "Steps" "shows") rfl) : _),
   (He.noat_ok (c.fact 41 (f := .noat "Steps" "rows") rfl) : _),
   (He.noat_ok (c.fact 42 (f := .noat "Steps" "columns") rfl) : _),
   (c.def_ 21 (d := dd_Steps_init) rfl : _),
   (c.def_ 22 (d := dd_Steps_shows) rfl : _),
   (He.glo_ok X G (c.fact 43 (f := .glo "Cross") rfl) : _),
   (He.cls_ok (c.fact 44 (f := .cls "Cross") rfl) : _),
   (He.mkr_ok (c.fact 45 (f := .mkr "Cross") rfl) : _),
   (He.meth_ok (c.fact 46 (f := .meth "Cross" "shows") rfl) : _),
   (He.noat_ok (c.fact 47 (f := .noat "Cross" "one") rfl) : _),
   (He.noat_ok (c.fact 48 (f := .noat "Cross" "first") rfl) : _),
   (He.noat_ok (c.fact 49 (f := .noat "Cross" "other") rfl) : _),
   (He.noat_ok (c.fact 50 (f := .noat "Cross" "second") rfl) : _),
   (c.def_ 23 (d := dd_Cross_init) rfl : _),
   (c.def_ 24 (d := dd_Cross_shows) rfl : _),
   (He.glo_ok X G (c.fact 51 (f := .glo "Stretches") rfl) : _),
   (He.cls_ok (c.fact 52 (f := .cls "Stretches") rfl) : _),
   (He.mkr_ok (c.fact 53 (f := .mkr "Stretches") rfl) : _),
   (He.meth_ok (c.fact 54 (f := .meth "Stretches" "shows") rfl) : _),
   (He.noat_ok (c.fact 55 (f := .noat "Stretches" "begins") rfl) : _),
   (He.noat_ok (c.fact 56 (f := .noat "Stretches" "ends") rfl) : _),
   (He.noat_ok (c.fact 57 (f := .noat "Stretches" "unlike") rfl) : _),
   (c.def_ 25 (d := dd_Stretches_init) rfl : _),
   (c.def_ 26 (d := dd_Stretches_shows) rfl : _),
   (He.glo_ok X G (c.fact 58 (f := .glo "Self") rfl) : _),
   (He.cls_ok (c.fact 59 (f := .cls "Self") rfl) : _),
   (He.mkr_ok (c.fact 60 (f := .mkr "Self") rfl) : _),
   (He.meth_ok (c.fact 61 (f := .meth "Self" "shows") rfl) : _),
   (He.noat_ok (c.fact 62 (f := .noat "Self" "one") rfl) : _),
   (c.def_ 27 (d := dd_Self_init) rfl : _),
   (c.def_ 28 (d := dd_Self_shows) rfl : _),
   (He.glo_ok X G (c.fact 63 (f := .glo "Ranks") rfl) : _),
   (He.cls_ok (c.fact 64 (f := .cls "Ranks") rfl) : _),
   (He.mkr_ok (c.fact 65 (f := .mkr "Ranks") rfl) : _),
   (He.meth_ok (c.fact 66 (f := .meth "Ranks" "shows") rfl) : _),
   (He.noat_ok (c.fact 67 (f := .noat "Ranks" "ranks") rfl) : _),
   (c.def_ 29 (d := dd_Ranks_init) rfl : _),
   (c.def_ 30 (d := dd_Ranks_shows) rfl : _),
   (He.glo_ok X G (c.fact 68 (f := .glo "Mutual") rfl) : _),
   (He.cls_ok (c.fact 69 (f := .cls "Mutual") rfl) : _),
   (He.mkr_ok (c.fact 70 (f := .mkr "Mutual") rfl) : _),
   (He.meth_ok (c.fact 71 (f := .meth "Mutual" "shows") rfl) : _),
   (He.noat_ok (c.fact 72 (f := .noat "Mutual" "one") rfl) : _),
   (He.noat_ok (c.fact 73 (f := .noat "Mutual" "other") rfl) : _),
   (c.def_ 31 (d := dd_Mutual_init) rfl : _),
   (c.def_ 32 (d := dd_Mutual_shows) rfl : _),
   (He.glo_ok X G (c.fact 74 (f := .glo "Beside") rfl) : _),
   (He.cls_ok (c.fact 75 (f := .cls "Beside") rfl) : _),
   (He.mkr_ok (c.fact 76 (f := .mkr "Beside") rfl) : _),
   (He.meth_ok (c.fact 77 (f := .meth "Beside" "shows") rfl) : _),
   (He.noat_ok (c.fact 78 (f := .noat "Beside" "one") rfl) : _),
   (He.noat_ok (c.fact 79 (f := .noat "Beside" "other") rfl) : _),
   (He.noat_ok (c.fact 80 (f := .noat "Beside" "third") rfl) : _),
   (c.def_ 33 (d := dd_Beside_init) rfl : _),
   (c.def_ 34 (d := dd_Beside_shows) rfl : _),
   (He.glo_ok X G (c.fact 81 (f := .glo "Line") rfl) : _),
   (He.cls_ok (c.fact 82 (f := .cls "Line") rfl) : _),
   (He.mkr_ok (c.fact 83 (f := .mkr "Line") rfl) : _),
   (He.meth_ok (c.fact 84 (f := .meth "Line" "shows") rfl) : _),
   (He.noat_ok (c.fact 85 (f := .noat "Line" "order") rfl) : _),
   (c.def_ 35 (d := dd_Line_init) rfl : _),
   (c.def_ 36 (d := dd_Line_shows) rfl : _),
   (He.glo_ok X G (c.fact 86 (f := .glo "Neither") rfl) : _),
   (He.cls_ok (c.fact 87 (f := .cls "Neither") rfl) : _),
   (He.mkr_ok (c.fact 88 (f := .mkr "Neither") rfl) : _),
   (He.meth_ok (c.fact 89 (f := .meth "Neither" "shows") rfl) : _),
   (He.noat_ok (c.fact 90 (f := .noat "Neither" "one") rfl) : _),
   (He.noat_ok (c.fact 91 (f := .noat "Neither" "other") rfl) : _),
   (c.def_ 37 (d := dd_Neither_init) rfl : _),
   (c.def_ 38 (d := dd_Neither_shows) rfl : _),
   (He.glo_ok X G (c.fact 92 (f := .glo "Round") rfl) : _),
   (He.cls_ok (c.fact 93 (f := .cls "Round") rfl) : _),
   (He.mkr_ok (c.fact 94 (f := .mkr "Round") rfl) : _),
   (He.meth_ok (c.fact 95 (f := .meth "Round" "shows") rfl) : _),
   (He.noat_ok (c.fact 96 (f := .noat "Round" "one") rfl) : _),
   (He.noat_ok (c.fact 97 (f := .noat "Round" "other") rfl) : _),
   (He.noat_ok (c.fact 98 (f := .noat "Round" "third") rfl) : _),
   (c.def_ 39 (d := dd_Round_init) rfl : _),
   (c.def_ 40 (d := dd_Round_shows) rfl : _),
   (kindB_ok cx.more : _)⟩

/-! ### the head -/
abbrev RowW : PySem.W.OpenRow := PySem.W.OpenLaw.row PySem.Challenge.rw_wholeahead_k04_whole_ranks
abbrev hkW : PySem.W.Hook := He.hookX 39 fctL fnL [] tfL kindB
def obW (s : PySem.W.SharedT) : He.AlX := He.obsX 39 fctL fnL [] tfL kindB (HandSHeadRun.getT s)
theorem obW_eq (s : PySem.W.SharedT) : obW s = hkW.obs s.abs := He.obsX_eq (HandSHeadRun.getT_eq s)
theorem runW (w : World) : HandSHeadRun.RunEq RowW (PySem.W.view RowW.prog [39]) hkW obW 8000 ((["__name__", "TableError", "BadTable", "BadSquare", "check_table", "check_square", "has", "rows_with", "Answer", "are_things", "are_three", "Steps", "Cross", "Stretches", "Self", "Ranks", "Mutual", "Beside", "Line", "Neither"] : List PySem.Str) ++ (["Round", "levels_of", "self_of", "sizes_of", "mutual_of", "first_ahead", "ranks", "_law_table", "_law_turned", "_law_numbers", "_law_has", "_law_hasnt", "_law_ranks", "_law_due", "_law_right"] : List PySem.Str)) w := by
  intro os
  kernel_rfl
theorem factsW {w : World} {K : PySem.W.Frag} {h : Heap} {mg : Str → Option Value} {f : Addr} (X : K.In h) (G : h.Ns mainGlobals mg) (hfa : mg ("law" : Str) = some (.ref f)) (c : He.SaysX fctL fnL [] tfL kindB w h K) :
    LamX.LawAtS PySem.Challenge.rw_wholeahead_k04_whole_ranks w K C8.CX0 (5 + 1) 63 "_law_script" mg f h := by
  have T := mkTx X G c
  obtain ⟨f', fd, F, e⟩ := T.d_law.ex
  cases hfa.symm.trans e
  have b := FunD.bindsA (ps := ["_law_script"]) F fun _ _ _ _ _ _ us hl => match us, hl with | [_], _ => rfl
  refine ⟨fd, tfL.map (He.cT K), sp_law K, fun p hp => ?_, fun p hp => ?_, fun p hp => ?_, fun s v => b s [v] rfl, fun H a ns hl _ hH hS => ⟨a, ns, rfl, hS, hl, fun _ => rfl⟩, fun base _ _ hB => ok_law T F⟩
  · obtain ⟨t, ht, rfl⟩ := List.mem_map.mp hp
    exact c.empty t ht
  · obtain ⟨t, ht, rfl⟩ := List.mem_map.mp hp
    exact c.out t ht
  · obtain ⟨t, ht, rfl⟩ := List.mem_map.mp hp
    exact PySem.W.codeHd_of_K X (c.hd t ht)
end WA
open PySem PySem.W PySem.Calls PyProof.Rows
theorem PySem.Challenge.cw_wholeahead_k04_whole_ranks_holds : PySem.Challenge.rw_wholeahead_k04_whole_ranks.Holds := by
  w_on; o_law
  refine HandSHeadRun.head_any (r := OpenLaw.row PySem.Challenge.rw_wholeahead_k04_whole_ranks) (q := view (OpenLaw.row PySem.Challenge.rw_wholeahead_k04_whole_ranks).prog [39]) (H := WA.hkW) (ob := WA.obW) (M := 8000) (loose := ((["__name__", "TableError", "BadTable", "BadSquare", "check_table", "check_square", "has", "rows_with", "Answer", "are_things", "are_three", "Steps", "Cross", "Stretches", "Self", "Ranks", "Mutual", "Beside", "Line", "Neither"] : List PySem.Str) ++ (["Round", "levels_of", "self_of", "sizes_of", "mutual_of", "first_ahead", "ranks", "_law_table", "_law_turned", "_law_numbers", "_law_has", "_law_hasnt", "_law_ranks", "_law_due", "_law_right"] : List PySem.Str))) (d := HandSHeadRun.topDef (OpenLaw.row PySem.Challenge.rw_wholeahead_k04_whole_ranks).prog 39) (kwd := []) WA.obW_eq
    (by kernel_rfl) (fun s => by kernel_rfl) WA.runW (by kernel_rfl) (by kernel_rfl) (by kernel_rfl) (by rfl) (by first | assumption | decide +kernel) (by decide +kernel) ⟨rfl, rfl, rfl, rfl, rfl, by decide +kernel⟩ ?hw ?hc
  case hw => w_witness2
  case hc =>
    refine LamX.walk_ofTsE (l := PySem.Challenge.rw_wholeahead_k04_whole_ranks) (n := 63) (k := 5 + 1) (x := "_law_script") (CX := fun _ => C8.CX0) rfl (by decide) (by kernel_rfl) ⟨rfl, by decide, by decide⟩ ?F (fun _ _ _ _ _ z => z)
    intro w mg fa h Y G hmg0
    obtain ⟨K, KX, c⟩ := Y
    have hmg : mg ("law" : PySem.Str) = some (.ref fa) := by
      have e : (HandSHeadRun.topDef (OpenLaw.row PySem.Challenge.rw_wholeahead_k04_whole_ranks).prog 39).name = ("law" : PySem.Str) := by kernel_rfl
      rw [← e]
      exact hmg0
    exact ⟨K, KX, WA.factsW KX G hmg c⟩
