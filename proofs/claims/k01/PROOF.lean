import PyProof.Rows.All
import PySem.Challenge.RW_wholeahead_k01_turned
import Wide.All
import OpenK.AllK
import Wide.FinOn
import HandS.ForMost
import HandS.Evl
import HandS.Strs
import HandS.StrMore
import HandS.IsInst
import HandS.Codes
import HandS.Conv
import HandS.Style
import HandS.Defaults
import HandS.HeadEnd
import HandS.HeadHook2
import HandS.Head2
import HandS.Dict
import HandS.SetFor
import HandS.TupSets
import HandS.HeadHook1
import KE.KStateDown
set_option Elab.async false
set_option linter.all false
set_option maxRecDepth 100000
set_option maxHeartbeats 6400000
namespace WA
open PySem PySem.Spec PyProof.Rows L2 Evl
/-! ### tables as lists of lists of truth values -/
def sg (b : Bool) : Nat := if b then 120 else 45
def s1 (b : Bool) : Str := ⟨#[sg b]⟩
def rs (r : List Bool) : Str := ⟨(r.map sg).toArray⟩
abbrev Tb := List (List Bool)
def tv (T : Tb) : List V := T.map fun r => V.str (rs r)
theorem sg_inj : ∀ {a b : Bool}, sg a = sg b → a = b := by decide
theorem s1_x : ("x" : Str) = s1 true := by decide +kernel
theorem s1_d : ("-" : Str) = s1 false := by decide +kernel
theorem s1_inj {a b : Bool} (h : s1 a = s1 b) : a = b := by
  have e : (s1 a).cps.toList = (s1 b).cps.toList := by rw [h]
  have e2 : [sg a] = [sg b] := e
  exact sg_inj (List.cons.inj e2).1
theorem map_sg_inj : ∀ {a b : List Bool}, a.map sg = b.map sg → a = b
  | [], [], _ => rfl
  | [], _ :: _, h => by cases h
  | _ :: _, [], h => by cases h
  | x :: a, y :: b, h => by
    have h1 := List.cons.inj (show sg x :: a.map sg = sg y :: b.map sg from h)
    rw [sg_inj h1.1, map_sg_inj h1.2]
theorem rs_inj {a b : List Bool} (h : rs a = rs b) : a = b := map_sg_inj (show (rs a).cps.toList = (rs b).cps.toList by rw [h])
theorem rs_len (r : List Bool) : (rs r).length = r.length := by simp [rs, Str.length]
theorem rs_tl (r : List Bool) : (rs r).cps.toList = r.map sg := rfl
theorem tv_len (T : Tb) : (tv T).length = T.length := by unfold tv; rw [List.length_map]
theorem tv_inj : ∀ {a b : Tb}, tv a = tv b → a = b
  | [], [], _ => rfl
  | [], _ :: _, h => by cases h
  | _ :: _, [], h => by cases h
  | x :: a, y :: b, h => by
    have h1 := List.cons.inj (show V.str (rs x) :: tv a = V.str (rs y) :: tv b from h)
    rw [rs_inj (V.str.inj h1.1), tv_inj h1.2]
theorem tv_get {T : Tb} {i : Nat} {r : List Bool} (h : T[i]? = some r) : (tv T)[i]? = some (V.str (rs r)) := by
  unfold tv; rw [List.getElem?_map, h]; rfl
theorem joinL_nil : ∀ l : List (List Nat), TL.joinL [] l = l.flatten
  | [] => rfl
  | [p] => by show p = p ++ []; rw [List.append_nil]
  | p :: q :: r => by
    show p ++ ([] ++ TL.joinL [] (q :: r)) = p ++ (q :: r).flatten
    rw [List.nil_append, joinL_nil (q :: r)]
theorem sum_ones {α : Type} : ∀ bs : List α, (bs.map fun _ => 1).sum = bs.length
  | [] => rfl
  | b :: r => by rw [List.map_cons, List.sum_cons, sum_ones r, List.length_cons, Nat.add_comm]
theorem join_s1 (bs : List Bool) : Txt.join "" (bs.map s1) = rs bs := by
  refine TL.ext_tl ?_
  rw [TL.join_eq, TL.tl_join]
  have e0 : TL.tl ("" : Str) = [] := by decide +kernel
  rw [e0, joinL_nil]
  show _ = bs.map sg
  induction bs with
  | nil => rfl
  | cons b r ih =>
    show [sg b] ++ ((r.map s1).map TL.tl).flatten = sg b :: r.map sg
    rw [ih]; rfl
/-- rectangular: every row of width w -/
def Rect (T : Tb) (w : Nat) : Prop := ∀ r ∈ T, r.length = w
def gt (T : Tb) (i j : Nat) : Bool := (T.getD i []).getD j false
def turn (T : Tb) (w : Nat) : Tb := (List.range w).map fun j => T.map fun r => r.getD j false
theorem turn_len (T : Tb) (w : Nat) : (turn T w).length = w := by unfold turn; rw [List.length_map, List.length_range]
theorem turn_rect (T : Tb) (w : Nat) : Rect (turn T w) T.length := fun r hr => by
  unfold turn at hr
  obtain ⟨j, _, rfl⟩ := List.mem_map.mp hr
  rw [List.length_map]

/-! ### named readings -/
abbrev rAddI : R2 := rI0 fun i j => .int (i + j)
abbrev rSubI : R2 := rI0 fun i j => .int (i - j)
abbrev rMulI : R2 := rI CMul fun i j => .int (i * j)
abbrev rDivI : R2 := rI CDiv fun i j => .int (i / j)
abbrev rModI : R2 := rI (fun _ j => 0 < j) fun i j => .int (i % j)
abbrev rPowI : R2 := rI CPow fun i j => .int (i ^ j.toNat)
abbrev rShrI : R2 := rI (fun _ j => 0 ≤ j) fun i j => .int (i / 2 ^ j.toNat)
abbrev rAndI : R2 := rI0 fun i j => .int (Builtin.bitAnd i j)
abbrev rLtI : R2 := rI0 fun i j => .bl (decide (i < j))
abbrev rLeI : R2 := rI0 fun i j => .bl (decide (i ≤ j))
abbrev rGtI : R2 := rI0 fun i j => .bl (decide (j < i))
abbrev rGeI : R2 := rI0 fun i j => .bl (decide (j ≤ i))
abbrev rNegI : V → Hp → VK → Prop := rU fun i => .int (-i)
def rJoin (K : PySem.W.Frag) : V → List V → Hp → VK → Prop := fun x xs H Q => ∃ a p, ∃ ys : List Str, x = .str a ∧ xs = [.ref p] ∧ (SqL K H p (ys.map V.str) ∨ SqT K H p (ys.map V.str)) ∧
  (ys.map (·.length)).sum + ys.length * a.length ≤ 16777216 ∧ Q (.str (Txt.join a ys)) H
def rStripC : V → List V → Hp → VK → Prop := fun x xs H Q => ∃ a b, x = .str a ∧ xs = [.str b] ∧ a.length ≤ sizeLine ∧ Q (.str (Txt.stripChars a b)) H
def rCountS : V → List V → Hp → VK → Prop := fun x xs H Q => ∃ a b, x = .str a ∧ xs = [.str b] ∧ Q (.int (Txt.count a b)) H
def rLn (K : PySem.W.Frag) : List V → Hp → VK → Prop := fun xs H Q => ∃ x n, xs = [x] ∧ LenV K x H n ∧ Q (.int n) H
def rLs (K : PySem.W.Frag) : List V → Hp → VK → Prop := fun xs H Q => ∃ p ys, xs = [.ref p] ∧ (SqL K H p ys ∨ SqT K H p ys) ∧ ∀ l, H l = none → Q (.ref l) (upd H l (.lst ys))
/-- a + b, two texts -/
def rCatS : R2 := fun x y H Q => ∃ a b : Str, x = .str a ∧ y = .str b ∧ a.length + b.length ≤ sizeLine ∧ Q (.str (a ++ b)) H
section
variable {X : Cx} {o e : Expr} {to te : TE} {apos pos : Pos}
theorem pe_joinR (ho : PE X o to) (he : PE X e te) (hs : starEach [e] X.env = [(false, eval e X.env)] := by rfl) (hbase : attributeBase o "join" X.env (eval o X.env) = eval o X.env := by rfl) (hline : (apos.endLine == pos.line) = true := by rfl) :
    PE X (.Call (.Attribute o "join" apos) [e] [] pos) (tM1 (rJoin X.K) to te) := pe_m1 F.slot_str_join F.type_str_join mt_join ho he hs hbase hline
theorem pe_stripC (ho : PE X o to) (he : PE X e te) (hs : starEach [e] X.env = [(false, eval e X.env)] := by rfl) (hbase : attributeBase o "strip" X.env (eval o X.env) = eval o X.env := by rfl) (hline : (apos.endLine == pos.line) = true := by rfl) :
    PE X (.Call (.Attribute o "strip" apos) [e] [] pos) (tM1 rStripC to te) := pe_m1 F.slot_str_strip F.type_str_strip mt_stripChars ho he hs hbase hline
theorem pe_countS (ho : PE X o to) (he : PE X e te) (hs : starEach [e] X.env = [(false, eval e X.env)] := by rfl) (hbase : attributeBase o "count" X.env (eval o X.env) = eval o X.env := by rfl) (hline : (apos.endLine == pos.line) = true := by rfl) :
    PE X (.Call (.Attribute o "count" apos) [e] [] pos) (tM1 rCountS to te) := pe_m1 F.slot_str_count F.type_str_count mt_count ho he hs hbase hline
theorem cl_len : CallR X (.builtin "len") (rLn X.K) := call_len
theorem cl_list : CallR X (.type "list") (rLs X.K) := call_list_of
theorem op_catS : OpR X (binaryOp .Add) rCatS := op_add_str
end

/-! ### evaluation: a reference to a sequence -/
/-- evaluates to a list that reads xs (new or old) -/
def EvS (K : PySem.W.Frag) (te : TE) (σ : L2.St) (H : Hp) (xs : List V) : Prop := ∀ H1, Ex H H1 → ∀ Q : VK, (∀ p H2, Ex H1 H2 → SqL K H2 p xs → Q (.ref p) H2) → te σ H1 Q
section
variable {K : PySem.W.Frag} {σ : L2.St} {H H' : Hp} {ta tb te tx : TE} {t u : TT} {x y z v : V} {r : R2} {xs ys : List V}
theorem EvL.s (h : EvL te σ H xs) : EvS K te σ H xs := fun H1 e Q q => h H1 e Q fun p H2 _ e2 hp => q p H2 e2 (sq_of hp)
theorem Ev.s {a : Addr} (h : Ev te σ H (.ref a)) (hs : SqL K H a xs) : EvS K te σ H xs := fun H1 e Q q => h H1 e Q fun H2 e2 => q a H2 e2 (ex_l (e.trans e2) hs)
theorem evs_var {i : Nat} {a : Addr} (h : σ[i]? = some (some (.ref a))) (hs : SqL K H a xs) : EvS K (tVar i) σ H xs := Ev.s (ev_var h) hs
theorem EvS.mono (e : Ex H H') (h : EvS K te σ H xs) : EvS K te σ H' xs := fun H1 a Q q => h H1 (e.trans a) Q q
theorem EvS.is {ys : List V} (h : EvS K te σ H xs) (e : xs = ys) : EvS K te σ H ys := e ▸ h
theorem EvL.is {ys : List V} (h : EvL te σ H xs) (e : xs = ys) : EvL te σ H ys := e ▸ h
/-- len -/
theorem ev_lenS (h : EvS K te σ H xs) : Ev (tCB (rLn K) (tCons te tNil)) σ H (.int (xs.length : Nat)) := fun H1 e Q q =>
  h H1 e _ fun p H2 e2 hp => ⟨.ref p, xs.length, rfl, .inl ⟨xs, hp, rfl⟩, q H2 e2⟩
theorem ev_lenT {a : Str} (h : Ev te σ H (.str a)) (hz : a.length ≤ 100000) : Ev (tCB (rLn K) (tCons te tNil)) σ H (.int (a.length : Nat)) := fun H1 e Q q =>
  h H1 e _ fun H2 e2 => ⟨.str a, a.length, rfl, ⟨sz_of hz, rfl⟩, q H2 e2⟩
/-- list(xs): a copy -/
theorem el_copy (h : EvS K te σ H xs) : EvL (tCB (rLs K) (tCons te tNil)) σ H xs := fun H1 e Q q =>
  h H1 e _ fun p H2 e2 hp => ⟨p, xs, rfl, .inl hp, fun l hl => q l _ (fresh_back e2 hl) (e2.trans (Ex.new hl)) upd_same⟩
/-- xs[i] -/
theorem ev_ixLS {i : Int} (h : EvS K ta σ H xs) (hb : Ev tb σ H (.int i)) (ha : atI xs i = some v) : Ev (tOp (rIxL K) ta tb) σ H v := fun H1 e Q q =>
  h H1 e _ fun p H2 e2 hp => hb H2 (e.trans e2) _ fun H3 e3 => ⟨p, xs, i, v, rfl, rfl, ex_l e3 hp, ha, q H3 (e2.trans e3)⟩
theorem ev_ixU {i : Int} (h : EvU ta σ H xs) (hb : Ev tb σ H (.int i)) (ha : atI xs i = some v) : Ev (tOp (rIxT K) ta tb) σ H v := fun H1 e Q q =>
  h H1 e _ fun p H2 _ e2 hp => hb H2 (e.trans e2) _ fun H3 e3 => ⟨p, xs, i, v, rfl, rfl, ex_t e3 (st_of hp), ha, q H3 (e2.trans e3)⟩
/-- s[i] -/
theorem ev_ixSg {r : List Bool} {j : Nat} (h : Ev ta σ H (.str (rs r))) (hb : Ev tb σ H (.int (j : Nat))) (hj : j < r.length) (hz : r.length ≤ 100000) : Ev (tOp rIxS ta tb) σ H (.str (s1 (r.getD j false))) :=
  ev_op h hb (rv_ixS (by rw [rs_len]; exact hz) (by
    rw [rs_tl]
    refine atI_nat ?_
    rw [List.getElem?_map, List.getElem?_eq_getElem hj, List.getD_eq_getElem?_getD, List.getElem?_eq_getElem hj]; rfl))
/-- "x" if t else "-" -/
theorem ev_ifSg {b : Bool} (h : EvT t σ H b) : Ev (tIf t (tC (.str "x")) (tC (.str "-"))) σ H (.str (s1 b)) :=
  ev_if h (fun e => by subst e; exact s1_x ▸ ev_c) (fun e => by subst e; exact s1_d ▸ ev_c)
/-- "".join -/
theorem ev_joinS {bs : List Bool} (h : EvS K te σ H (bs.map fun b => V.str (s1 b))) (hz : bs.length ≤ 100000) : Ev (tM1 (rJoin K) (tC (.str "")) te) σ H (.str (rs bs)) := fun H1 e Q q =>
  ⟨⟨_, rfl⟩, h H1 e _ fun p H2 e2 hp => by
    refine ⟨"", p, bs.map s1, rfl, rfl, .inl (by rw [List.map_map]; exact hp), ?_, ?_⟩
    · have e1 : ((bs.map s1).map fun x => x.length) = bs.map fun _ => 1 := by rw [List.map_map]; rfl
      have e2 : ("" : Str).length = 0 := by decide +kernel
      rw [e1, e2, Nat.mul_zero, Nat.add_zero]
      have e3 := sum_ones bs
      omega
    · rw [join_s1]; exact q H2 e2⟩
/-- data equal to data -/
def dat : V → PyData
  | .non => .none | .bl b => .bool b | .int i => .int i | .str x => .str x
  | _ => .none
def isSI : V → Bool
  | .int _ => true | .str x => PyData.strOk x | _ => false
theorem dp_flat {H : Hp} : ∀ {v : V}, isSI v = true → Dp K H v (dat v)
  | .int i, _ => .int i
  | .str x, _ => .str x
  | .non, h | .bl _, h | .byt _, h | .flt _, h | .ref _, h | .ty _, h => by cases h
theorem dp_all {H : Hp} : ∀ {xs : List V}, xs.all isSI = true → DpAll K H xs (xs.map dat)
  | [], _ => .nil
  | x :: xs, h => by
    have h' := Bool.and_eq_true_iff.mp (show (isSI x && xs.all isSI) = true from h)
    exact .cons (dp_flat h'.1) (dp_all h'.2)
theorem eqv_flat : ∀ {x y : V}, isSI x = true → isSI y = true → PyData.eqv (dat x) (dat y) = decide (x = y)
  | .int i, .int j, _, _ => by rw [dec_int]; simp [dat, PyData.eqv]
  | .str i, .str j, _, _ => by rw [dec_str]; simp [dat, PyData.eqv]
  | .int i, .str j, _, _ => by simp [dat, PyData.eqv]
  | .str i, .int j, _, _ => by simp [dat, PyData.eqv]
  | .non, _, h, _ | .bl _, _, h, _ | .byt _, _, h, _ | .flt _, _, h, _ | .ref _, _, h, _ | .ty _, _, h, _ => by cases h
  | .int _, .non, _, h | .int _, .bl _, _, h | .int _, .byt _, _, h | .int _, .flt _, _, h | .int _, .ref _, _, h | .int _, .ty _, _, h => by cases h
  | .str _, .non, _, h | .str _, .bl _, _, h | .str _, .byt _, _, h | .str _, .flt _, _, h | .str _, .ref _, _, h | .str _, .ty _, _, h => by cases h
theorem eqvAll_flat : ∀ {xs ys : List V}, xs.all isSI = true → ys.all isSI = true → PyData.eqvAll (xs.map dat) (ys.map dat) = decide (xs = ys)
  | [], [], _, _ => rfl
  | [], y :: ys, _, _ => rfl
  | x :: xs, [], _, _ => rfl
  | x :: xs, y :: ys, h, g => by
    have h' := Bool.and_eq_true_iff.mp (show (isSI x && xs.all isSI) = true from h)
    have g' := Bool.and_eq_true_iff.mp (show (isSI y && ys.all isSI) = true from g)
    rw [List.map_cons, List.map_cons, PyData.eqvAll, eqv_flat h'.1 g'.1, eqvAll_flat h'.2 g'.2]
    by_cases e1 : x = y
    · by_cases e2 : xs = ys
      · simp [e1, e2]
      · simp [e1, e2]
    · simp [e1]
theorem lay_flat : ∀ {x : V}, isSI x = true → PyData.canLay0 (dat x) = true ∧ PyData.depth (dat x) = 0
  | .int i, _ => ⟨by simp [dat, PyData.canLay0], by simp [dat, PyData.depth]⟩
  | .str x, h => ⟨by simpa [dat, PyData.canLay0, isSI] using h, by simp [dat, PyData.depth]⟩
  | .non, h | .bl _, h | .byt _, h | .flt _, h | .ref _, h | .ty _, h => by cases h
theorem lay_all : ∀ {xs : List V}, xs.all isSI = true → PyData.canLayAll0 (xs.map dat) = true ∧ PyData.depthAll (xs.map dat) = 0
  | [], _ => ⟨rfl, rfl⟩
  | x :: xs, h => by
    have h' := Bool.and_eq_true_iff.mp (show (isSI x && xs.all isSI) = true from h)
    have a := lay_flat h'.1
    have b := lay_all h'.2
    refine ⟨?_, ?_⟩
    · show (PyData.canLay0 (dat x) && PyData.canLayAll0 (xs.map dat)) = true
      rw [a.1, b.1]; rfl
    · show max (PyData.depth (dat x)) (PyData.depthAll (xs.map dat)) = 0
      rw [a.2, b.2]; rfl
theorem shaped_flat {xs : List V} (h : xs.all isSI = true) : SeqAt.shaped (.list (xs.map dat)) = true := by
  have a := lay_all h
  unfold SeqAt.shaped
  have e1 : PyData.canLay0 (.list (xs.map dat)) = PyData.canLayAll0 (xs.map dat) := by simp [PyData.canLay0]
  have e2 : PyData.depth (.list (xs.map dat)) = PyData.depthAll (xs.map dat) + 1 := by simp [PyData.depth]
  rw [e1, e2, a.1, a.2]; rfl
theorem eqv_list {xs ys : List V} (h : xs.all isSI = true) (g : ys.all isSI = true) : PyData.eqv (.list (xs.map dat)) (.list (ys.map dat)) = decide (xs = ys) := by
  rw [PyData.eqv]; exact eqvAll_flat h g
/-- xs == ys, xs != ys: lists of ints and texts -/
theorem ev_eqS (h : EvS K ta σ H xs) (g : EvS K tb σ H ys) (fx : xs.all isSI = true) (fy : ys.all isSI = true) : Ev (tOp (rEqD K) ta tb) σ H (.bl (decide (xs = ys))) := fun H1 e Q q =>
  h H1 e _ fun p H2 e2 hp => g H2 (e.trans e2) _ fun p' H3 e3 hp' =>
    ⟨.list (xs.map dat), .list (ys.map dat), .lst (ex_l e3 hp) (dp_all fx), .lst hp' (dp_all fy), shaped_flat fx, shaped_flat fy, by rw [eqv_list fx fy]; exact q H3 (e2.trans e3)⟩
theorem ev_neS (h : EvS K ta σ H xs) (g : EvS K tb σ H ys) (fx : xs.all isSI = true) (fy : ys.all isSI = true) : Ev (tOp (rNeD K) ta tb) σ H (.bl (!decide (xs = ys))) := fun H1 e Q q =>
  h H1 e _ fun p H2 e2 hp => g H2 (e.trans e2) _ fun p' H3 e3 hp' =>
    ⟨.list (xs.map dat), .list (ys.map dat), .lst (ex_l e3 hp) (dp_all fx), .lst hp' (dp_all fy), shaped_flat fx, shaped_flat fy, by rw [eqv_list fx fy]; exact q H3 (e2.trans e3)⟩
theorem ok_s1 (b : Bool) : PyData.strOk (s1 b) = true := by cases b <;> decide +kernel
theorem ok_rs (r : List Bool) : PyData.strOk (rs r) = true := by
  unfold PyData.strOk
  rw [← Array.all_toList, rs_tl, List.all_eq_true]
  intro c hc
  obtain ⟨b, _, rfl⟩ := List.mem_map.mp hc
  cases b <;> decide
theorem si_tv (T : Tb) : (tv T).all isSI = true := by
  rw [List.all_eq_true]
  intro v hv
  obtain ⟨r, _, rfl⟩ := List.mem_map.mp hv
  exact ok_rs r
theorem si_ints (ns : List Int) : (ns.map V.int).all isSI = true := by
  rw [List.all_eq_true]
  intro v hv
  obtain ⟨r, _, rfl⟩ := List.mem_map.mp hv
  rfl
theorem evs {a : Addr} (h : Ev te σ H (.ref a)) (hs : SqL K H a xs) : EvS K te σ H xs := Ev.s h hs
theorem els (h : EvL te σ H xs) : EvS K te σ H xs := EvL.s h
/-- a op b op' c -/
theorem et_chain {r r' : R2} {tc : TE} {a b c : V} {p q : Bool} (ha : Ev ta σ H a) (hb : Ev tb σ H b) (hc : p = true → Ev tc σ H c) (hr : RV r a b H (.bl p)) (hr' : p = true → RV r' b c H (.bl q)) : EvT (tTest (tChain r r' ta tb tc)) σ H (p && q) := fun H1 e Q k =>
  ha H1 e _ fun H2 e2 => hb H2 (e.trans e2) _ fun H3 e3 => hr H3 ((e.trans e2).trans e3) _ fun H4 e4 => ⟨p, rfl, by
    cases p with
    | true =>
      rw [if_pos rfl]
      exact hc rfl H4 (((e.trans e2).trans e3).trans e4) _ fun H5 e5 => hr' rfl H5 ((((e.trans e2).trans e3).trans e4).trans e5) _ fun H6 e6 => ⟨q, rfl, k H6 ((((e2.trans e3).trans e4).trans e5).trans e6)⟩
    | false =>
      rw [if_neg Bool.false_ne_true]
      exact ⟨false, rfl, k H4 ((e2.trans e3).trans e4)⟩⟩
theorem ev_chain {r r' : R2} {tc : TE} {a b c : V} {p q : Bool} (ha : Ev ta σ H a) (hb : Ev tb σ H b) (hc : p = true → Ev tc σ H c) (hr : RV r a b H (.bl p)) (hr' : p = true → RV r' b c H (.bl q)) : Ev (tChain r r' ta tb tc) σ H (.bl (p && q)) := fun H1 e Q k =>
  ha H1 e _ fun H2 e2 => hb H2 (e.trans e2) _ fun H3 e3 => hr H3 ((e.trans e2).trans e3) _ fun H4 e4 => ⟨p, rfl, by
    cases p with
    | true =>
      rw [if_pos rfl]
      exact hc rfl H4 (((e.trans e2).trans e3).trans e4) _ fun H5 e5 => hr' rfl H5 ((((e.trans e2).trans e3).trans e4).trans e5) _ fun H6 e6 => k H6 ((((e2.trans e3).trans e4).trans e5).trans e6)
    | false =>
      rw [if_neg Bool.false_ne_true]
      exact k H4 ((e2.trans e3).trans e4)⟩
theorem el_nil : EvL (tLst tNil) σ H [] := el_lst ea_nil (Nat.zero_le _)
theorem dec_tv {a b : Tb} : decide (tv a = tv b) = decide (a = b) := by
  by_cases h : a = b
  · subst h; simp
  · rw [decide_eq_false h, decide_eq_false fun e => h (tv_inj e)]
theorem ints_inj : ∀ {a b : List Int}, a.map V.int = b.map V.int → a = b
  | [], [], _ => rfl
  | [], _ :: _, h => by cases h
  | _ :: _, [], h => by cases h
  | x :: a, y :: b, h => by
    have h1 := List.cons.inj (show V.int x :: a.map V.int = V.int y :: b.map V.int from h)
    rw [V.int.inj h1.1, ints_inj h1.2]
theorem dec_ints {a b : List Int} : decide (a.map V.int = b.map V.int) = decide (a = b) := by
  by_cases h : a = b
  · subst h; simp
  · rw [decide_eq_false h, decide_eq_false fun e => h (ints_inj e)]
/-! ### isinstance -/
theorem tyx_list {a : Addr} (h : SqL K H a xs) : TyX K H (.ref a) (.type "list") := by
  rcases h with (h | ⟨o, h⟩) | ⟨o, its, n, hk, hc, _⟩
  · exact .base (.lst h)
  · exact .base (.frz h)
  · exact .kList hk hc
theorem ev_isi {c : V} {ty u : Value} {b : Bool} (h : Ev te σ H x) (hc : ClsV c u) (hty : ∀ H1, Ex H H1 → TyX K H1 x ty) (hk : PySem.W.kitOne K ty u = some b) : Ev (tCB (rIsi K) (tCons te (tCons (tC c) tNil))) σ H (.bl b) := fun H1 e Q q =>
  h H1 e _ fun H2 e2 => ⟨x, c, ty, u, b, rfl, hc, hty H2 (e.trans e2), hk, q H2 e2⟩
theorem ev_isiL (h : EvS K te σ H xs) : Ev (tCB (rIsi K) (tCons te (tCons (tC (.ty "list")) tNil))) σ H (.bl true) := fun H1 e Q q =>
  h H1 e _ fun p H2 e2 hp => ⟨.ref p, .ty "list", _, _, true, rfl, .ty _, tyx_list hp, kit_ty (by decide +kernel), q H2 e2⟩
theorem ev_isiStr {s : Str} (h : Ev te σ H (.str s)) : Ev (tCB (rIsi K) (tCons te (tCons (tC (.ty "str")) tNil))) σ H (.bl true) := ev_isi h (.ty _) (fun _ _ => .base (.str s)) (kit_ty (by decide +kernel))
theorem ev_isiInt {i : Int} (h : Ev te σ H (.int i)) : Ev (tCB (rIsi K) (tCons te (tCons (tC (.ty "int")) tNil))) σ H (.bl true) := ev_isi h (.ty _) (fun _ _ => .base (.int i)) (kit_ty (by decide +kernel))
theorem ev_isiBool {i : Int} (h : Ev te σ H (.int i)) : Ev (tCB (rIsi K) (tCons te (tCons (tC (.ty "bool")) tNil))) σ H (.bl false) := ev_isi h (.ty _) (fun _ _ => .base (.int i)) (kit_ty (by decide +kernel))
/-! ### all, any, sum -/
theorem ev_all {bs : List Bool} (h : EvS K te σ H (bs.map V.bl)) : Ev (tCB (rAll K) (tCons te tNil)) σ H (.bl (bs.all id)) := fun H1 e Q q => h H1 e _ fun p H2 e2 hp => ⟨p, bs, rfl, hp, q H2 e2⟩
theorem ev_any {bs : List Bool} (h : EvS K te σ H (bs.map V.bl)) : Ev (tCB (rAny K) (tCons te tNil)) σ H (.bl (bs.any id)) := fun H1 e Q q => h H1 e _ fun p H2 e2 hp => ⟨p, bs, rfl, hp, q H2 e2⟩
theorem ev_allM {α : Type} {l : List α} {p : α → Bool} (h : EvS K te σ H (l.map fun x => V.bl (p x))) : Ev (tCB (rAll K) (tCons te tNil)) σ H (.bl (l.all p)) := by
  have e : (l.map p).all id = l.all p := by rw [List.all_map]; rfl
  rw [← e]
  exact ev_all (by rw [List.map_map]; exact h)
theorem ev_anyM {α : Type} {l : List α} {p : α → Bool} (h : EvS K te σ H (l.map fun x => V.bl (p x))) : Ev (tCB (rAny K) (tCons te tNil)) σ H (.bl (l.any p)) := by
  have e : (l.map p).any id = l.any p := by rw [List.any_map]; rfl
  rw [← e]
  exact ev_any (by rw [List.map_map]; exact h)
theorem ev_sum {ns : List Int} (h : EvS K te σ H (ns.map V.int)) : Ev (tCB (rSum K) (tCons te tNil)) σ H (.int ns.sum) := fun H1 e Q q => h H1 e _ fun p H2 e2 hp => ⟨p, ns, rfl, hp, q H2 e2⟩
end
/-! ### comprehensions -/
/-- n turns, each of which leads from what holds ahead of it to what holds behind it: a measure that falls -/
theorem n_turns {α : Type} {n : Nat} {a0 : α} {Stop : Nat → α → Prop} {Go : Nat → α → (α → Prop) → Prop} (Pv : Nat → α → Prop) (h0 : Pv 0 a0) (go : ∀ i a, i < n → Pv i a → Go i a (Pv (i + 1))) (stop : ∀ a, Pv n a → Stop n a) :
    ∃ W : Nat → Nat → α → Prop, (∃ m, W 0 m a0) ∧ ∀ i m a, W i m a → Stop i a ∨ ∃ N : α → Prop, (∀ a', N a' → ∃ m', m' < m ∧ W (i + 1) m' a') ∧ Go i a N := by
  refine ⟨fun i m a => i + m = n ∧ Pv i a, ⟨n, Nat.zero_add n, h0⟩, fun i m a ⟨e, p⟩ => ?_⟩
  cases m with
  | zero => exact .inl (stop a ((show i = n from e) ▸ p) |> fun q => (show i = n from e).symm ▸ q)
  | succ m => exact .inr ⟨Pv (i + 1), fun a' p' => ⟨m, Nat.lt_succ_self m, by omega, p'⟩, go i a (by omega) p⟩
/-- the test's word, and, if it is so, the item behind those of the list at D -/
abbrev PutTo (tt : TT) (te : TE) (D : Addr) (N : Hp → Prop) (σ2 : L2.St) (H2 : Hp) : Prop :=
  tt σ2 H2 fun b H3 => if b = true then te σ2 H3 fun y H4 => ∃ acc, H4 D = some (.lst acc) ∧ acc.length < sizeLine ∧ N (upd H4 D (.lst (acc ++ [y]))) else N H3
/-- over any iterator of n turns -/
theorem lc_it {J : It} {n : Nat} {g : TG} {tt : TT} {te : TE} {vs : List Nat} {σ : L2.St} {H1 : Hp} {D : Addr} {Qd : Hp → Prop} (Pv : Nat → Hp → Prop) (hstop : ∀ H, Pv n H → J.stop n H) (hgo : ∀ i H, i < n → Pv i H → J.go i H) (h0 : Pv 0 (upd H1 D (.lst [])))
    (hs : ∀ i x H H', i < n → Pv i H → J.yld i H x H' → g x (wipe σ vs) H' fun σ2 H2 => wipe σ2 vs = wipe σ vs ∧ PutTo tt te D (Pv (i + 1)) σ2 H2) (hd : ∀ H, Pv n H → Qd H) :
    ∃ W : Nat → Nat → Hp → Prop, (∃ k, W 0 k (upd H1 D (.lst []))) ∧ ∀ i k H, W i k H → (J.stop i H ∧ Qd H) ∨
      (J.go i H ∧ ∃ N : Hp → Prop, (∀ H', N H' → ∃ k', k' < k ∧ W (i + 1) k' H') ∧ ∀ x H', J.yld i H x H' → g x (wipe σ vs) H' fun σ2 H2 => wipe σ2 vs = wipe σ vs ∧ PutTo tt te D N σ2 H2) := by
  obtain ⟨W, w0, step⟩ := n_turns (Stop := fun i H => J.stop i H ∧ Qd H) (Go := fun i H N => J.go i H ∧ ∀ x H', J.yld i H x H' → g x (wipe σ vs) H' fun σ2 H2 => wipe σ2 vs = wipe σ vs ∧ PutTo tt te D N σ2 H2) Pv h0
    (fun i H lt p => ⟨hgo i H lt p, fun x H' y => hs i x H H' lt p y⟩) fun H p => ⟨hstop H p, hd H p⟩
  exact ⟨W, w0, fun i k H h => (step i k H h).imp id fun ⟨N, fall, go, put⟩ => ⟨go, N, fall, put⟩⟩
section
variable {K : PySem.W.Frag} {σ : L2.St} {H H' : Hp} {ta tb te tl : TE} {tt : TT} {xs ys : List V} {vs : List Nat}
/-- the list so far -/
def Lc (H : Hp) (D : Addr) (acc : List V) (H' : Hp) : Prop := H D = none ∧ Ex H H' ∧ H' D = some (.lst acc)
theorem lc_turn {D : Addr} {acc acc' : List V} {σ2 : L2.St} {b : Bool} {v : V} {N : Hp → Prop} (p : Lc H D acc H') (hl : acc.length < 100000) (ht : EvT tt σ2 H b) (he : b = true → Ev te σ2 H v) (hN : ∀ H2, Lc H D (if b = true then acc ++ [v] else acc) H2 → N H2) :
    tt σ2 H' fun b H3 => if b = true then te σ2 H3 fun y H4 => ∃ acc, H4 D = some (.lst acc) ∧ acc.length < sizeLine ∧ N (upd H4 D (.lst (acc ++ [y]))) else N H3 := by
  obtain ⟨p1, p2, p3⟩ := p
  refine ht H' p2 _ ?_
  intro H3 e3
  cases b with
  | true =>
    rw [if_pos rfl]
    refine he rfl H3 (p2.trans e3) _ fun H4 e4 => ⟨acc, e4 D _ (e3 D _ p3), sz_lt hl, hN _ ⟨p1, Ex.mut ((p2.trans e3).trans e4) p1, ?_⟩⟩
    rw [if_pos rfl]; exact upd_same
  | false =>
    rw [if_neg Bool.false_ne_true]
    refine hN _ ⟨p1, p2.trans e3, ?_⟩
    rw [if_neg Bool.false_ne_true]
    exact e3 D _ p3
theorem et_yes : EvT tYes σ H true := fun H1 _ _ q => q H1 (Ex.refl H1)
/-- what a filter and a map give of the first turns -/
def fm {α : Type} (p : α → Bool) (f : α → V) (l : List α) : List V := (l.filter p).map f
theorem fm_next {α : Type} {p : α → Bool} {f : α → V} {l : List α} {i : Nat} {x : α} (h : l[i]? = some x) : (if p x = true then fm p f (l.take i) ++ [f x] else fm p f (l.take i)) = fm p f (l.take (i + 1)) := by
  unfold fm
  have e : l.take (i + 1) = l.take i ++ [x] := by rw [List.take_add_one, h]; rfl
  rw [e, List.filter_append, List.map_append]
  cases hp : p x with
  | true => rw [if_pos rfl, List.filter_cons, if_pos hp]; rfl
  | false => rw [if_neg Bool.false_ne_true, List.filter_cons, if_neg (by rw [hp]; decide)]; show _ = _ ++ []; rw [List.append_nil]
theorem fm_len {α : Type} (p : α → Bool) (f : α → V) (l : List α) (i : Nat) : (fm p f (l.take i)).length ≤ l.length := by
  unfold fm
  rw [List.length_map]
  have h := List.length_filter_le p (l.take i)
  have h2 := List.length_take_le i l
  have h3 : (l.take i).length ≤ l.length := by rw [List.length_take]; omega
  omega
theorem fm_yes {α : Type} (f : α → V) (l : List α) : fm (fun _ => true) f l = l.map f := by
  unfold fm
  rw [List.filter_eq_self.mpr fun _ _ => rfl]
/-- [te for j in tl if tt], tl a list of the g's -/
theorem el_filt {α : Type} {l : List α} {g f : α → V} {p : α → Bool} {j : Nat} (h : EvS K tl σ H (l.map g)) (hz : l.length ≤ 40000) (hw : ∀ x, wipe ((wipe σ vs).set j (some x)) vs = wipe σ vs)
    (ht : ∀ x ∈ l, EvT tt ((wipe σ vs).set j (some (g x))) H (p x)) (he : ∀ x ∈ l, p x = true → Ev te ((wipe σ vs).set j (some (g x))) H (f x)) : EvL (tLc (iList K tl) (gName j) tt te vs) σ H (fm p f l) := fun H0 e Q q =>
  h H0 e _ fun a H1 e1 hx => ⟨a, rfl, ⟨_, hx⟩, fun D hD => lc_list (xs := l.map g) (fun i H' => Lc H1 D (fm p f (l.take i)) H') ⟨hD, Ex.new hD, upd_same⟩ (fun i H' _ pv => ex_l pv.2.1 hx)
    (fun i x H' hi pv => by
      rw [List.getElem?_map] at hi
      obtain ⟨y, hy, rfl⟩ := Option.map_eq_some_iff.mp hi
      have hm := List.mem_of_getElem? hy
      refine ⟨hw _, lc_turn (acc' := []) pv (by have := fm_len p f l i; omega) ((ht y hm).mono (e.trans e1)) (fun hb => (he y hm hb).mono (e.trans e1)) fun H2 h2 => ?_⟩
      rw [fm_next hy] at h2
      exact h2)
    (fun H' pv => by
      rw [List.length_map, List.take_length] at pv
      exact q D H' (fresh_back e1 pv.1) (e1.trans pv.2.1) pv.2.2)⟩
theorem el_map {α : Type} {l : List α} {g f : α → V} {j : Nat} (h : EvS K tl σ H (l.map g)) (hz : l.length ≤ 40000) (hw : ∀ x, wipe ((wipe σ vs).set j (some x)) vs = wipe σ vs)
    (he : ∀ x ∈ l, Ev te ((wipe σ vs).set j (some (g x))) H (f x)) : EvL (tLc (iList K tl) (gName j) tYes te vs) σ H (l.map f) := by
  rw [← fm_yes]
  exact el_filt h hz hw (fun _ _ => et_yes) fun x hx _ => he x hx
/-- over range(n) -/
theorem el_filtR {f : Nat → V} {p : Nat → Bool} {j n : Nat} {tn : TE} (h : Ev tn σ H (.int (n : Nat))) (hz : n ≤ 40000) (hw : ∀ x, wipe ((wipe σ vs).set j (some x)) vs = wipe σ vs)
    (ht : ∀ i, i < n → EvT tt ((wipe σ vs).set j (some (.int (i : Nat)))) H (p i)) (he : ∀ i, i < n → p i = true → Ev te ((wipe σ vs).set j (some (.int (i : Nat)))) H (f i)) : EvL (tLc (iRng1 (tCons tn tNil)) (gName j) tt te vs) σ H (fm p f (List.range n)) := fun H0 e Q q =>
  h H0 e _ fun H1 e1 => ⟨(n : Nat), rfl, by omega, by omega, fun D hD => lc_range (lo := 0) (n := ((n : Nat) : Int).toNat) (fun i H' => Lc H1 D (fm p f ((List.range n).take i)) H') ⟨hD, Ex.new hD, upd_same⟩
    (fun i H' hi pv => by
      have hi' : i < n := by omega
      have hy : (List.range n)[i]? = some i := by rw [List.getElem?_range hi']
      have e0 : (0 : Int) + (i : Int) = ((i : Nat) : Int) := Int.zero_add _
      rw [e0]
      refine ⟨hw _, lc_turn (acc' := []) pv (by have := fm_len p f (List.range n) i; rw [List.length_range] at this; omega) ((ht i hi').mono (e.trans e1)) (fun hb => (he i hi' hb).mono (e.trans e1)) fun H2 h2 => ?_⟩
      rw [fm_next hy] at h2
      exact h2)
    (fun H' pv => by
      have e2 : (List.range n).take ((n : Nat) : Int).toNat = List.range n := List.take_of_length_le (by rw [List.length_range]; omega)
      rw [e2] at pv
      exact q D H' (fresh_back e1 pv.1) (e1.trans pv.2.1) pv.2.2)⟩
theorem el_mapR {f : Nat → V} {j n : Nat} {tn : TE} (h : Ev tn σ H (.int (n : Nat))) (hz : n ≤ 40000) (hw : ∀ x, wipe ((wipe σ vs).set j (some x)) vs = wipe σ vs)
    (he : ∀ i, i < n → Ev te ((wipe σ vs).set j (some (.int (i : Nat)))) H (f i)) : EvL (tLc (iRng1 (tCons tn tNil)) (gName j) tYes te vs) σ H ((List.range n).map f) := by
  rw [← fm_yes]
  exact el_filtR h hz hw (fun _ _ => et_yes) fun i hi _ => he i hi
/-- a pair's names -/
theorem g_pair {i j : Nat} {T : Addr} {x y : V} {Q : L2.St → Hp → Prop} (hT : SqT K H T [x, y]) (q : Q ((σ.set i (some x)).set j (some y)) H) : gTup K 2 (gCons (gName i) (gCons (gName j) gNil)) (.ref T) σ H Q :=
  ⟨T, [x, y], rfl, hT, rfl, x, [y], rfl, y, [], rfl, rfl, q⟩
/-- over enumerate(tl) -/
theorem el_filtE {α : Type} {l : List α} {g : α → V} {f : Nat × α → V} {p : Nat × α → Bool} {i j : Nat} (h : EvS K tl σ H (l.map g)) (hz : l.length ≤ 40000) (hw : ∀ x y, wipe (((wipe σ vs).set i (some x)).set j (some y)) vs = wipe σ vs)
    (ht : ∀ (k : Nat) x, l[k]? = some x → EvT tt (((wipe σ vs).set i (some (.int (k : Nat)))).set j (some (g x))) H (p (k, x))) (he : ∀ (k : Nat) x, l[k]? = some x → p (k, x) = true → Ev te (((wipe σ vs).set i (some (.int (k : Nat)))).set j (some (g x))) H (f (k, x))) :
    EvL (tLc (iEnum K (tCons tl tNil)) (gTup K 2 (gCons (gName i) (gCons (gName j) gNil))) tt te vs) σ H (fm p f ((List.range l.length).zip l)) := fun H0 e Q q =>
  h H0 e _ fun a H1 e1 hx => ⟨a, _, rfl, hx, fun D hD => by
    have hlen : ((List.range l.length).zip l).length = l.length := by rw [List.length_zip, List.length_range]; omega
    refine lc_it (J := Ite K a) (n := l.length) (fun k H' => Lc H1 D (fm p f (((List.range l.length).zip l).take k)) H') (fun H' pv => ⟨_, ex_l pv.2.1 hx, by rw [List.length_map]; exact Nat.le_refl _⟩)
      (fun k H' hk pv => ⟨_, _, ex_l pv.2.1 hx, by rw [List.getElem?_map, List.getElem?_eq_getElem hk]; rfl⟩) ⟨hD, Ex.new hD, upd_same⟩ (fun k x H' H'' hk pv hy => ?_) (fun H' pv => ?_)
    · obtain ⟨T, y, rfl, hT, rfl, hf⟩ := hy
      have hl : l[k]? = some l[k] := List.getElem?_eq_getElem hk
      have ey : y = g l[k] := by
        have z := hf _ (ex_l pv.2.1 hx)
        rw [List.getElem?_map, hl] at z
        exact (Option.some.inj z).symm
      subst ey
      have hz2 : ((List.range l.length).zip l)[k]? = some (k, l[k]) := by rw [List.getElem?_zip_eq_some]; exact ⟨List.getElem?_range hk, hl⟩
      have nTD : D ≠ T := fun z => by rw [← z] at hT; rw [pv.2.2] at hT; cases hT
      have pv2 : Lc H1 D (fm p f (((List.range l.length).zip l).take k)) (upd H' T (.tup [.int (k : Nat), g l[k]])) := ⟨pv.1, pv.2.1.trans (Ex.new hT), by rw [upd_ne nTD]; exact pv.2.2⟩
      refine g_pair (st_of upd_same) ⟨hw _ _, lc_turn (acc' := []) pv2 (by have := fm_len p f ((List.range l.length).zip l) k; rw [hlen] at this; omega) ((ht k _ hl).mono (e.trans e1)) (fun hb => (he k _ hl hb).mono (e.trans e1)) fun H2 h2 => ?_⟩
      rw [fm_next hz2] at h2
      exact h2
    · have e2 : ((List.range l.length).zip l).take l.length = (List.range l.length).zip l := List.take_of_length_le (by rw [hlen]; exact Nat.le_refl _)
      rw [e2] at pv
      exact q D H' (fresh_back e1 pv.1) (e1.trans pv.2.1) pv.2.2⟩
theorem el_mapE {α : Type} {l : List α} {g : α → V} {f : Nat × α → V} {i j : Nat} (h : EvS K tl σ H (l.map g)) (hz : l.length ≤ 40000) (hw : ∀ x y, wipe (((wipe σ vs).set i (some x)).set j (some y)) vs = wipe σ vs)
    (he : ∀ (k : Nat) x, l[k]? = some x → Ev te (((wipe σ vs).set i (some (.int (k : Nat)))).set j (some (g x))) H (f (k, x))) :
    EvL (tLc (iEnum K (tCons tl tNil)) (gTup K 2 (gCons (gName i) (gCons (gName j) gNil))) tYes te vs) σ H (((List.range l.length).zip l).map f) := by
  rw [← fm_yes]
  exact el_filtE h hz hw (fun _ _ _ => et_yes) fun k x hx _ => he k x hx
/-- over zip(ta, tb), two lists of one length -/
theorem el_filtZ {α β : Type} {l : List α} {m : List β} {g : α → V} {g' : β → V} {f : α × β → V} {p : α × β → Bool} {i j : Nat} (h : EvS K ta σ H (l.map g)) (h' : EvS K tb σ H (m.map g')) (hz : l.length ≤ 40000) (hlm : l.length = m.length) (hw : ∀ x y, wipe (((wipe σ vs).set i (some x)).set j (some y)) vs = wipe σ vs)
    (ht : ∀ x y, (x, y) ∈ l.zip m → EvT tt (((wipe σ vs).set i (some (g x))).set j (some (g' y))) H (p (x, y))) (he : ∀ x y, (x, y) ∈ l.zip m → p (x, y) = true → Ev te (((wipe σ vs).set i (some (g x))).set j (some (g' y))) H (f (x, y))) :
    EvL (tLc (iZip K (tCons ta (tCons tb tNil))) (gTup K 2 (gCons (gName i) (gCons (gName j) gNil))) tt te vs) σ H (fm p f (l.zip m)) := fun H0 e Q q =>
  h H0 e _ fun a H1 e1 hx => h' H1 (e.trans e1) _ fun b H2 e2 hy => ⟨a, b, _, _, rfl, ex_l e2 hx, hy, fun D hD => by
    have hlen : (l.zip m).length = l.length := by rw [List.length_zip]; omega
    have e12 := e1.trans e2
    have hx2 := ex_l e2 hx
    refine lc_it (J := Itz K a b) (n := l.length) (fun k H' => Lc H2 D (fm p f ((l.zip m).take k)) H') (fun H' pv => ⟨_, _, ex_l pv.2.1 hx2, ex_l pv.2.1 hy, .inl (by rw [List.length_map]; exact Nat.le_refl _)⟩)
      (fun k H' hk pv => ⟨_, _, g l[k], g' (m[k]'(by omega)), ex_l pv.2.1 hx2, ex_l pv.2.1 hy, by rw [List.getElem?_map, List.getElem?_eq_getElem hk]; rfl, by rw [List.getElem?_map, List.getElem?_eq_getElem (show k < m.length by omega)]; rfl⟩) ⟨hD, Ex.new hD, upd_same⟩ (fun k x H' H'' hk pv hyl => ?_) (fun H' pv => ?_)
    · obtain ⟨T, x1, y1, rfl, hT, rfl, hf1, hf2⟩ := hyl
      have hk2 : k < m.length := by omega
      have hl : l[k]? = some l[k] := List.getElem?_eq_getElem hk
      have hm : m[k]? = some m[k] := List.getElem?_eq_getElem hk2
      have ex1 : x1 = g l[k] := by
        have z := hf1 _ (ex_l pv.2.1 hx2)
        rw [List.getElem?_map, hl] at z
        exact (Option.some.inj z).symm
      have ey1 : y1 = g' m[k] := by
        have z := hf2 _ (ex_l pv.2.1 hy)
        rw [List.getElem?_map, hm] at z
        exact (Option.some.inj z).symm
      subst ex1 ey1
      have hz2 : (l.zip m)[k]? = some (l[k], m[k]) := by rw [List.getElem?_zip_eq_some]; exact ⟨hl, hm⟩
      have hmem := List.mem_of_getElem? hz2
      have nTD : D ≠ T := fun z => by rw [← z] at hT; rw [pv.2.2] at hT; cases hT
      have pv2 : Lc H2 D (fm p f ((l.zip m).take k)) (upd H' T (.tup [g l[k], g' m[k]])) := ⟨pv.1, pv.2.1.trans (Ex.new hT), by rw [upd_ne nTD]; exact pv.2.2⟩
      refine g_pair (st_of upd_same) ⟨hw _ _, lc_turn (acc' := []) pv2 (by have := fm_len p f (l.zip m) k; rw [hlen] at this; omega) ((ht _ _ hmem).mono (e.trans e12)) (fun hb => (he _ _ hmem hb).mono (e.trans e12)) fun H3 h3 => ?_⟩
      rw [fm_next hz2] at h3
      exact h3
    · have e3 : (l.zip m).take l.length = l.zip m := List.take_of_length_le (by rw [hlen]; exact Nat.le_refl _)
      rw [e3] at pv
      exact q D H' (fresh_back e12 pv.1) (e12.trans pv.2.1) pv.2.2⟩
theorem el_mapZ {α β : Type} {l : List α} {m : List β} {g : α → V} {g' : β → V} {f : α × β → V} {i j : Nat} (h : EvS K ta σ H (l.map g)) (h' : EvS K tb σ H (m.map g')) (hz : l.length ≤ 40000) (hlm : l.length = m.length) (hw : ∀ x y, wipe (((wipe σ vs).set i (some x)).set j (some y)) vs = wipe σ vs)
    (he : ∀ x y, (x, y) ∈ l.zip m → Ev te (((wipe σ vs).set i (some (g x))).set j (some (g' y))) H (f (x, y))) :
    EvL (tLc (iZip K (tCons ta (tCons tb tNil))) (gTup K 2 (gCons (gName i) (gCons (gName j) gNil))) tYes te vs) σ H ((l.zip m).map f) := by
  rw [← fm_yes]
  exact el_filtZ h h' hz hlm hw (fun _ _ _ => et_yes) fun x y hx _ => he x y hx
end
/-! ### calls -/
section
variable {K : PySem.W.Frag} {σ : L2.St} {H H' : Hp} {ta tb te tl : TE} {xs : List V} {z : V} {sp : Sp} {E : XK}
/-- f(e), e a list -/
theorem ev_callS1 {dvs : List V} (h : EvS K te σ H xs) (hs : ∀ p H1, Ex H H1 → SqL K H1 p xs → SpV sp ([.ref p] ++ dvs) H1 z) : Ev (tCall sp dvs E (tCons te tNil)) σ H z := fun H1 e Q q =>
  h H1 e _ fun p H2 e2 hp => hs p H2 (e.trans e2) hp H2 (Ex.refl H2) Q (fun H3 e3 => q H3 (e2.trans e3)) E
theorem el_callS1 {dvs ys : List V} (h : EvS K te σ H xs) (hs : ∀ p H1, Ex H H1 → SqL K H1 p xs → SpL sp ([.ref p] ++ dvs) H1 ys) : EvL (tCall sp dvs E (tCons te tNil)) σ H ys := fun H1 e Q q =>
  h H1 e _ fun p H2 e2 hp => hs p H2 (e.trans e2) hp H2 (Ex.refl H2) Q (fun p' H3 h3 e3 h4 => q p' H3 (fresh_back e2 h3) (e2.trans e3) h4) E
/-- a promise: a value; a new list -/
def spV (R : List V → Hp → V → Prop) : Sp := fun vs H Q _ => ∃ z, R vs H z ∧ ∀ H2, Ex H H2 → Q z H2
def spL (R : List V → Hp → List V → Prop) : Sp := fun vs H Q _ => ∃ xs, R vs H xs ∧ ∀ p H2, H p = none → Ex H H2 → H2 p = some (.lst xs) → Q (.ref p) H2
theorem spV_of {R : List V → Hp → V → Prop} {vs : List V} (h : ∀ H1, Ex H H1 → R vs H1 z) : SpV (spV R) vs H z := fun H1 e Q q E => ⟨z, h H1 e, q⟩
theorem spL_of {R : List V → Hp → List V → Prop} {vs ys : List V} (h : ∀ H1, Ex H H1 → R vs H1 ys) : SpL (spL R) vs H ys := fun H1 e Q q E => ⟨ys, h H1 e, q⟩
end
/-! ### a def of the text -/
section
variable {P : Program} {w : World} {K : PySem.W.Frag} {mg : Str → Option Value} {base : Heap}
structure Dn (K : PySem.W.Frag) (mg : Str → Option Value) (x : Str) (st : Stmt) : Prop where
  ex : ∃ f fd, FunD K x x (defArgs st) (defBody st) (defScope st) [] [] f fd ∧ mg x = some (.ref f)
/-- a def's promise by its body -/
theorem Dn.cal {x : Str} {st : Stmt} {N ps : List Str} {k : Nat} {sp : Sp} (D : Dn K mg x st) (S : FnScope N ps (defScope st))
    (hb : ∀ (kV doc pm : Value) (an : Option Addr) (cdv ct : Value) (us : List Value), us.length = ps.length → bindArgs (PySem.W.fnOf x x (defArgs st) (defBody st) (defScope st) .none kV doc pm an cdv ct) ⟨us, []⟩ = pure (ps.zip us))
    (len : ∀ vs H Q E, sp vs H Q E → vs.length = ps.length)
    (hbody : ∀ (f : Addr) (cdv : Value) (A : Around) (outer : List Env) (s : Shared) (H : Hp) (vs : List V) (Q : VK) (E : XK), Room k (A.deeper (envOfC x (defScope st) s.heap.objs.size f cdv)) → sp vs H Q E →
      ∃ t, PSs (cxOf C8.CX0 P w K mg base N x (defScope st) f cdv A outer s H E).nox (defBody st) t ∧ t { nx := fun _ H' => Q .non H', rt := Q } (start N vs) H) : C8.Cal P w K mg base (k + 1) x sp [] := by
  obtain ⟨f, fd, F, hm⟩ := D.ex
  refine ⟨f, fd, ps, [], F.ok S len fun cdv A outer s H vs Q E hr h => ?_, hm, F.kp, F.bindsN hb, .nil⟩
  obtain ⟨t, h1, h2⟩ := hbody f cdv A outer s H vs Q E hr h
  exact ⟨t, h1.nox, h2⟩
/-- the law itself, by its body -/
theorem fn_ok {x y : Str} {st : Stmt} {N ps : List Str} {k : Nat} {sp : Sp} {f : Addr} {fd : FuncData} (F : FunD K x y (defArgs st) (defBody st) (defScope st) [] [] f fd) (S : FnScope N ps (defScope st))
    (len : ∀ vs H Q E, sp vs H Q E → vs.length = ps.length)
    (hbody : ∀ (f : Addr) (cdv : Value) (A : Around) (outer : List Env) (s : Shared) (H : Hp) (vs : List V) (Q : VK) (E : XK), Room k (A.deeper (envOfC y (defScope st) s.heap.objs.size f cdv)) → sp vs H Q E →
      ∃ t, PSs (cxOf C8.CX0 P w K mg base N y (defScope st) f cdv A outer s H E).nox (defBody st) t ∧ t { nx := fun _ H' => Q .non H', rt := Q } (start N vs) H) : FnOk P w K mg base C8.CX0 (k + 1) f fd ps sp :=
  F.ok S len fun cdv A outer s H vs Q E hr h => by
    obtain ⟨t, h1, h2⟩ := hbody f cdv A outer s H vs Q E hr h
    exact ⟨t, h1.nox, h2⟩
end
end WA

namespace WA
open PySem PySem.Spec PyProof.Rows L2 Evl
/-! ### slices by any step -/
def pick {α : Type} (xs : List α) (lo hi st : Option Int) : List α := (sliceRange (sliceBounds lo hi st xs.length).1 (sliceBounds lo hi st xs.length).2.1 (sliceBounds lo hi st xs.length).2.2).filterMap (xs[·]?)
theorem pick_map {α β : Type} (f : α → β) (xs : List α) (lo hi st : Option Int) : pick (xs.map f) lo hi st = (pick xs lo hi st).map f := by
  unfold pick
  rw [List.length_map, List.map_filterMap]
  congr 1
  funext i
  rw [List.getElem?_map]
theorem pick_len {α : Type} (xs : List α) (lo hi st : Option Int) : (pick xs lo hi st).length ≤ (sliceRange (sliceBounds lo hi st xs.length).1 (sliceBounds lo hi st xs.length).2.1 (sliceBounds lo hi st xs.length).2.2).length := List.length_filterMap_le _ _
theorem vals_pick : ∀ (is : List Nat) {xs : List V} {us : List Value}, Vals xs us → Vals (is.filterMap (xs[·]?)) (is.filterMap (us[·]?))
  | [], _, _, _ => .nil
  | i :: is, xs, us, r => by
    cases h : xs[i]? with
    | none =>
      rw [List.filterMap_cons_none h, List.filterMap_cons_none (r.none_of h)]
      exact vals_pick is r
    | some x =>
      obtain ⟨u, hu, ru⟩ := r.get h
      rw [List.filterMap_cons_some h, List.filterMap_cons_some hu]
      exact .cons ru (vals_pick is r)
def tSl3 (K : PySem.W.Frag) (te : TE) (tl th ts : TO) : TE := fun σ H Q => te σ H fun x H1 => tl σ H1 fun l H2 => th σ H2 fun u H3 => ts σ H3 fun st H4 => ∃ a xs, x = .ref a ∧ SqL K H4 a xs ∧ st ≠ some 0 ∧ (pick xs l u st).length ≤ sizeLine ∧
  ∀ p, H4 p = none → Q (.ref p) (upd H4 p (.lst (pick xs l u st)))
theorem pe_slice3 {X : Cx} {e : Expr} {te : TE} {lo hi : Option Expr} {st : Expr} {tl th ts : TO} {pos p2 : Pos} (he : PE X e te) (hl : PO X lo tl) (hu : PO X hi th) (hst : PO X (some st) ts)
    (hsub : ∀ o i, subscripted (.Slice lo hi (some st) p2) false o i = operate [o, i] (getItem o i) := by intros; with_unfolding_all rfl) : PE X (.Subscript e (.Slice lo hi (some st) p2) pos) (tSl3 X.K te tl th ts) := by
  refine ⟨fun pins s σ H Q I h => ?_⟩
  refine Subscript_ (thn (he.run pins s σ H _ I h) fun v s1 ⟨x, H1, I1, r1, q1⟩ => ?_)
  refine wpAny_Slice (thn (hl.run pins s1 σ H1 _ I1 q1) fun vl s2 ⟨l, H2, I2, pl, q2⟩ => thn (hu.run pins s2 σ H2 _ I2 q2) fun vu s3 ⟨u, H3, I3, pu, q3⟩ => thn (hst.run pins s3 σ H3 _ I3 q3) fun vs s4 ⟨k, H4, I4, pk, q4⟩ => ?_)
  obtain ⟨a, xs, rfl, hx, h0, hz, q⟩ := q4
  have I5 : Inv X pins σ H4 { s4 with heap := s4.heap.push { cls := .type "slice", data := .fields #[vl, vu, vs] } } := I4.kept (t' := s4.toks) fun b ob q => Heap.get?_push_of_some _ q
  cases r1
  obtain ⟨its, r, ht, hzx⟩ := I5.list hx
  have hlen := r.length
  refine tail_any (ops := [.ref a, .ref s4.heap.objs.size]) ht.isList.typeIs slot_list_getitem.lookup ?_ (hsub _ _)
  refine wpAny_getItem_list_slice ht.isList (Heap.IsSliceOf.new ..) pl pu pk h0 ?_ (by rw [List.size_toArray] <;> omega)
  have ep : slicePick its.toArray l u k = (pick its l u k).toArray := by
    unfold slicePick pick
    simp only [List.size_toArray, List.getElem?_toArray]
  have rv : Vals (pick xs l u k) (pick its l u k) := by
    unfold pick
    rw [hlen]
    exact vals_pick _ r
  rw [ep]
  exact ⟨.ref _, _, I5.laid (o := .lst (pick xs l u k)) (t' := s4.toks) (fun b ob q => Heap.get?_push_of_some _ q) (Nat.le_refl _) ⟨hz, _, 0, rv, Heap.get?_push_size _ rfl⟩, rfl, q _ (I5.hok.fresh (Nat.le_refl _))⟩
/-! ### list(range(a, b, c)) -/
def tRg3 (ta tb tc : TE) : L2.St → Hp → (Int → Int → Int → Hp → Prop) → Prop := fun σ H Q => ta σ H fun x H1 => tb σ H1 fun y H2 => tc σ H2 fun z H3 => ∃ i j k, x = .int i ∧ y = .int j ∧ z = .int k ∧ k ≠ 0 ∧ k.natAbs < 1073741824 ∧ Q i j k H3
def PRg3 (X : Cx) (e : Expr) (t : L2.St → Hp → (Int → Int → Int → Hp → Prop) → Prop) : Prop :=
  ∀ (pins : List (Addr × Obj)) (s : Shared) (σ : L2.St) (H : Hp) (Q : Int → Int → Int → Hp → Prop), Inv X pins σ H s → t σ H Q →
    wpAny (model X.prog X.w) X.A (eval e X.env) (fun x s' => ∃ r a b c t u v H', x = .ref r ∧ IsRange s'.heap r a b c t u v ∧ Inv X pins σ H' s' ∧ Q a b c H') X.xe s
theorem prg_3 {X : Cx} {a b c : Expr} {ta tb tc : TE} {p pos : Pos} (hg : Gl X "range") (hm : X.mg "range" = none) (ha : PE X a ta) (hb : PE X b tb) (hc : PE X c tc)
    (na : starEach [a, b, c] X.env = (false, eval a X.env) :: starEach [b, c] X.env := by rfl) (nb : starEach [b, c] X.env = (false, eval b X.env) :: starEach [c] X.env := by rfl) (nc : starEach [c] X.env = (false, eval c X.env) :: starEach [] X.env := by rfl)
    (hp : (backTo pos (starEach [b, c] X.env)).any (·.1) = false := by rfl) : PRg3 X (.Call (.Name "range" p) [a, b, c] [] pos) (tRg3 ta tb tc) := by
  intro pins s σ H Q I h
  refine Call_ (ld_blt I hg hm boot_range (PyProof.Rows.callWith_type1 (args_cons (thn (ha.run pins s σ H _ I h) fun v s1 ⟨x, H1, I1, r1, q1⟩ => args_cons (thn (hb.run pins s1 σ H1 _ I1 q1) fun u s2 ⟨y, H2, I2, r2, q2⟩ => one_arg hc I2 q2 (fun t s3 z H3 I3 r3 q => ?_) nc) nb) na) na hp))
  obtain ⟨i, j, k, rfl, rfl, rfl, k0, k1, q⟩ := q
  obtain ⟨t1, rfl⟩ := r1
  obtain ⟨t2, rfl⟩ := r2
  obtain ⟨t3, rfl⟩ := r3
  exact call_range_3 k0 ⟨_, i, j, k, _, _, _, H3, rfl, IsRange.new _ _ _ _ _ _ _, I3.kept fun b u e => Heap.get?_push_of_some _ e, q⟩ (.inl (PyProof.noPylong_small k1))
def rgV3 (a c : Int) (n : Nat) : List V := (List.range n).map fun i => V.int (a + (i : Nat) * c)
theorem vals_rg3 {a c : Int} {n : Nat} {acc : Array Value} (h : ItemsOf (fun i v => ∃ t, v = .int (a + i * c) t) acc n) : Vals (rgV3 a c n) acc.toList := by
  have e : acc.toList.length = n := by rw [Array.length_toList]; exact h.1
  unfold rgV3
  rw [← e]
  refine vals_of_get acc.toList _ fun j u hj => ?_
  obtain ⟨t, rfl⟩ := h.2 j u (by rw [← hj, Array.getElem?_toList])
  exact ⟨t, rfl⟩
def tLstRg3 (te : L2.St → Hp → (Int → Int → Int → Hp → Prop) → Prop) : TE := fun σ H Q => te σ H fun a b c H1 => ∃ n : Nat, Builtin.Range.small a b c = true ∧ Builtin.Range.rangeSize a b c = n ∧ n ≤ 1000 ∧ ∀ q, H1 q = none → Q (.ref q) (upd H1 q (.lst (rgV3 a c n)))
theorem pe_listRg3 {X : Cx} {e : Expr} {te : L2.St → Hp → (Int → Int → Int → Hp → Prop) → Prop} {p pos : Pos} (hc : X.calm = true) (hg : Gl X "list") (hm : X.mg "list" = none) (he : PRg3 X e te) (na : starEach [e] X.env = (false, eval e X.env) :: starEach [] X.env := by rfl) :
    PE X (.Call (.Name "list" p) [e] [] pos) (tLstRg3 te) := by
  refine ⟨fun pins s σ H Q I h => ?_⟩
  refine Call_ (ld_blt I hg hm boot_list (PyProof.Rows.callWith_type1 (args_cons (thn (he pins s σ H _ I h) fun x s1 ⟨r, a, b, c, t, u, v, H1, ex, hr, I1, n, b1, b2, b3, q⟩ => args_nil ?_) na) na))
  subst ex
  refine call_list_range (I1.ok.hd hc) hr b1 b2 (by omega) fun h' tk acc c' hk e' hi => ?_
  have hz : (rgV3 a c n).length ≤ sizeLine := by unfold rgV3; rw [List.length_map, List.length_range, sizeLine_eq]; omega
  exact ⟨.ref _, _, I1.laid (o := .lst (rgV3 a c n)) hk (Nat.le_refl _) ⟨hz, acc.toList, c', vals_rg3 hi, by rw [Array.toArray_toList]; exact e'⟩, rfl, q _ (I1.hok.fresh (Nat.le_refl _))⟩
theorem rg3_ok : ∀ n : Nat, n < 200 → Builtin.Range.small 0 n 3 = true ∧ Builtin.Range.rangeSize 0 n 3 = (((n + 2) / 3 : Nat) : Int) := by decide +kernel
end WA

namespace WA
open PySem PySem.Spec PyProof.Rows L2 Evl
/-! ### set(xs), xs a list, whatever its items are -/
/-- a set object just made -/
abbrev newSetO (w : World) : Obj := { cls := .type "set", dict := none, data := .set #[] 0 (.fresh 0 0 (!w.params.followText "set-order")) }
/-- all that stands in the one heap stands in the other one, too -/
def Grows (h h' : Heap) : Prop := ∀ b o, h.get? b = some o → h'.get? b = some o
/-- behind set(xs): what Fl says of the place that was free, and nothing else is changed -/
def Filled (Fl : Addr → Heap → Prop) (s s2 : Shared) : Prop := ∃ h' tk, s2 = { s with heap := h', toks := tk } ∧ Fl s.heap.objs.size h' ∧ Grows s.heap h'
/-- the loop over the list at l makes of an empty set at a what Fl says -/
def Fills (P : Program) (w : World) (l : Addr) (its : Array Value) (Fl : Addr → Heap → Prop) : Prop :=
  ∀ (A : Around) (a it : Addr) (t : Shared) (R : Result → Shared → Prop), A.handled = none → l ≠ it → a ∉ [it, l] → t.heap.get? a = some (newSetO w) → t.heap.IsListIter it l 0 → t.heap.IsList l its →
    (∀ t', Moved [a, it] (fun g g' => g' = g) t t' → Fl a t'.heap → R (.ok (.ret .none)) t') → codeAny (model P w) A (.builtin "set.update.loop" ⟨[.ref a, .ref it], []⟩) R t
theorem Fills.mono {P : Program} {w : World} {l : Addr} {its : Array Value} {Fl Fl' : Addr → Heap → Prop} (F : Fills P w l its Fl) (h : ∀ a p, Fl a p → Fl' a p) : Fills P w l its Fl' :=
  fun A a it t R x1 x2 x3 x4 x5 x6 q => F A a it t R x1 x2 x3 x4 x5 x6 fun t' m f => q t' m (h a _ f)
/-- the place behind the last one, and the one behind that -/
theorem new_apart {h : Heap} {o o' : Obj} {l : Addr} (e : h.get? l = some o) : l ≠ (h.push o').objs.size ∧ h.objs.size ∉ [(h.push o').objs.size, l] ∧ ∀ b u, h.get? b = some u → b ∉ [h.objs.size, (h.push o').objs.size] := by
  have z : (h.push o').objs.size = h.objs.size + 1 := Heap.size_push ..
  have far : ∀ (b : Addr) (u : Obj), h.get? b = some u → b ≠ (h.push o').objs.size ∧ b ≠ h.objs.size := fun b u eb => by
    have lt := Heap.lt_size eb
    exact ⟨fun q => Nat.lt_irrefl _ (Nat.lt_trans (z ▸ q ▸ lt : (h.objs.size + 1) < h.objs.size) (Nat.lt_succ_self _)), Nat.ne_of_lt lt⟩
  refine ⟨(far l o e).1, fun m => ?_, fun b u eb m => ?_⟩
  · rcases (List.mem_cons.mp m).imp_right List.mem_singleton.mp with q | q
    · exact Nat.ne_of_lt (Nat.lt_succ_self _) (q.trans z)
    · exact (far l o e).2 q.symm
  · rcases (List.mem_cons.mp m).imp_right List.mem_singleton.mp with q | q
    · exact (far b u eb).2 q
    · exact (far b u eb).1 q
section
variable {P : Program} {w : World} {l : Addr} {its : Array Value} {Fl : Addr → Heap → Prop} {A : Around} {s : Shared} {E : Value → Shared → Prop}
theorem fill_init (fl : Fills P w l its Fl) (hh : A.handled = none) (hl : s.heap.IsList l its) {R : PySem.Fin → Shared → Prop}
    (hR : ∀ f t, wants (fun r t => r = .none ∧ Filled Fl s t) E (.ok f) t → R (.done f) t) {E' : Value → Shared → Prop} :
    wpAny (model P w) A (Builtin.«set.__init__» ⟨[.ref s.heap.objs.size, .ref l], []⟩) R E' { s with heap := s.heap.push (newSetO w) } := by
  obtain ⟨⟨cl, di, da, sl⟩, hol, e1, nl, e2⟩ := hl
  dsimp only at e1 e2
  cases e1
  cases e2
  obtain ⟨ap1, ap2, ap3⟩ := new_apart (o' := newSetO w) hol
  have atNew : (s.heap.push (newSetO w)).get? s.heap.objs.size = some (newSetO w) := Heap.get?_push_size _ rfl
  have atOld := Heap.get?_push_of_some (newSetO w) hol
  have isl : (s.heap.push (newSetO w)).IsList l its := ⟨_, atOld, rfl, nl, rfl⟩
  have t1 := F.sub_list_set
  have t2 := F.sub_list_frozenset
  have t3 : (Value.type "list" == Value.type "dict") = false := by decide
  unfold Builtin.«set.__init__»
  unfold noKeywords Builtin.Frozenset.updateFrom
  generalize hPI : pyIter = PI
  wp_walk
  subst hPI
  refine wpAny_pyIter_list isl (wpAny_bind (wpAny_runValue (fl _ _ _ _ _ (by simp [hh]) ap1 ap2 (Heap.get?_push_of_some _ atNew) ⟨_, Heap.get?_push_size _ rfl, rfl, rfl⟩ (isl.push _) fun t m q => wpAny_pure (wpAny_pure (hR _ _ ⟨rfl, t.heap, t.toks, ?_, q, fun b o e => ?_⟩)))))
  · obtain ⟨th, tg, td, tt, to⟩ := t
    cases m.gens
    cases m.drawn
    cases m.os
    rfl
  · exact m.heap b o (ap3 b o e) (Heap.get?_push_of_some _ (Heap.get?_push_of_some _ e))
/-- set(xs) -/
theorem call_fill (fl : Fills P w l its Fl) (hh : A.handled = none) (hl : s.heap.IsList l its) {Q : Value → Shared → Prop} (hQ : ∀ t, Filled Fl s t → Q (.ref s.heap.objs.size) t) : wpAny (model P w) A (call (.type "set") [.ref l]) Q E s := by
  have tc := F.called_set
  obtain ⟨m1, m2, hm⟩ := tc.mro
  have hma := tc.made
  have hsu := tc.sub
  have k0 := F.typeCall_set_1 (.ref l)
  have k1 := tc.notType
  have k2 := tc.canCreate
  have quiet : (Code.builtin "type.__call__" ⟨[.type "set", .ref l], []⟩).quiet = true := Code.quiet_builtin _ (by decide +kernel)
  have plain := Around.under_plain (A := A) (weight_type_call_type "set" [.ref l] []) rfl
  refine wpAny_call (codeAny_of_tree (wpAny_pure ⟨quiet, codeAny_builtin F.entry_type_call ?_⟩))
  rw [plain]
  repeat any_goals first | assumption | wp_step
  let s0 : Shared := { s with heap := s.heap.push (newSetO w) }
  refine codeAny_mono (code_set_led1 (Q₁ := fun x t => x = .ref s.heap.objs.size ∧ t = s0) (E := E) (.ref l) ⟨rfl, rfl⟩) fun r1 t1 g1 => ?_
  match r1, g1 with
  | .error e, g1 => exact g1
  | .ok .next, g1 => exact g1.elim
  | .ok .brk, g1 => exact g1.elim
  | .ok .cont, g1 => exact g1.elim
  | .ok (.ret x), g1 =>
    obtain ⟨rfl, rfl⟩ := g1
    have hT : s0.TypeIs (.ref s.heap.objs.size) "set" := ⟨_, Heap.get?_push_size _ rfl, rfl⟩
    have y1 := tc.init.lookup
    have y2 := tc.init.bind (.ref s.heap.objs.size)
    repeat any_goals first | assumption | wp_step
    refine codeAny_mono (codeAny_call_builtin (R := wants (fun r t => r = .none ∧ Filled Fl s t) E) tc.init.plain F.entry_set_init (check_set_init_1 hT (fill_init fl (by simp [hh]) hl fun f t g => g))) fun r2 t2 g2 => ?_
    match r2, g2 with
    | .error e, g2 => exact g2
    | .ok .next, g2 => exact g2.elim
    | .ok .brk, g2 => exact g2.elim
    | .ok .cont, g2 => exact g2.elim
    | .ok (.ret x), g2 =>
      obtain ⟨rfl, mk⟩ := g2
      repeat any_goals first | assumption | wp_step
      exact hQ _ mk
end
/-! ### set(xs), xs a list of ints -/
theorem fills_ints {P : Program} {w : World} {l : Addr} {its : Array Value} {ns : List Int} (hi : IntsAre its.toList ns) (hb : ns.length + 1 < scanBound) : Fills P w l its fun a h => ∃ c, SetR w h a (fun j => decide (j ∈ ns)) c := by
  intro A a it t R hh hit ha h0 h1 h2 hR
  have hsz : its.size = ns.length := by
    have q := IntsAre.length hi
    rwa [Array.length_toList] at q
  have val : ∀ (i : Nat) (v : Value), its[i]? = some v → ∃ k t, ns[i]? = some k ∧ v = .int k t := by
    intro i v hv
    have hv' : its.toList[i]? = some v := by rw [Array.getElem?_toList]; exact hv
    obtain ⟨t, e⟩ := IntsAre.int_at hi i v hv'
    have hlt2 : i < ns.length := by rw [← hsz]; exact (Array.getElem?_eq_some_iff.mp hv).1
    refine ⟨ns[i], t, List.getElem?_eq_getElem hlt2, ?_⟩
    rw [e, List.getD_eq_getElem?_getD, List.getElem?_eq_getElem hlt2] <;> rfl
  exact set_update_ints (Walks.list (prog := P) (w := w) (A := A.in1) (by simp [hh]) it l hit its).toS a ha ns hsz hb val its.size 0 t rfl (Nat.zero_le _) ⟨h1, h2⟩ ⟨0, Nat.le_refl 0, setR_new_at h0⟩ fun t' c m _ r => hR t' m ⟨c, r⟩
/-- the members, one by one -/
def Keys0 (ns ks : List Int) : Prop := ks.Nodup ∧ ∀ k, k ∈ ks ↔ k ∈ ns
theorem setR_keys {w : World} {h : Heap} {a : Addr} {ns : List Int} {c : Nat} (R : SetR w h a (fun j => decide (j ∈ ns)) c) : ∃ ks, Keys0 ns ks ∧ ks.length = c := by
  obtain ⟨o, es, ep, t, _, _, _, _, nd, hk, _, _, hn, _⟩ := R
  refine ⟨es.toList.map keyOf, ⟨nd, fun k => ?_⟩, ?_⟩
  · have z := hk k
    simp only [decide_eq_true_eq] at z
    exact z.symm
  · rw [List.length_map, Array.length_toList]; exact hn
/-- set(xs) -/
def rSetI (K : PySem.W.Frag) (w : World) : List V → Hp → VK → Prop := fun xs H Q => ∃ p ns, xs = [.ref p] ∧ SqL K H p (ns.map V.int) ∧ ns.length ≤ 1000 ∧
  ∀ l ks, H l = none → Keys0 ns ks → Q (.ref l) (upd H l (SetO w l (fun j => decide (j ∈ ns)) ks.length))
theorem cr_setI {X : Cx} (hc : X.calm = true) : CallR X (.type "set") (rSetI X.K X.w) := by
  intro pins s σ H xs us Q I r ⟨p, ns, ex, hp, hz, q⟩
  subst ex
  rw [Vals.ref1 r]
  obtain ⟨its, rv, pl, hlen⟩ := I.list hp
  refine call_fill (fills_ints (ints_of_vals rv) (by have : 1000 + 1 < scanBound := (by decide); omega)) (I.ok.hd hc) pl.isList fun s2 ⟨h', tk, e, ⟨c, R⟩, kp⟩ => ?_
  obtain ⟨ks, k1, rfl⟩ := setR_keys R
  subst e
  exact ⟨.ref _, _, I.laid (t' := tk) kp (Nat.le_refl _) (setO_new R), rfl, q _ ks (I.hok.fresh (Nat.le_refl _)) k1⟩
theorem nodup_le {ks ns : List Int} (h : ks.Nodup) (g : ∀ k, k ∈ ks → k ∈ ns) : ks.length ≤ ns.length := by
  induction ks generalizing ns with
  | nil => simp
  | cons x r ih =>
    rw [List.nodup_cons] at h
    have hx := g x (by simp)
    have q := ih h.2 (ns := ns.erase x) fun k hk => (List.mem_erase_of_ne fun (z : k = x) => h.1 (by rw [← z]; exact hk)).mpr (g k (by simp [hk]))
    have p := List.length_pos_of_mem hx
    rw [List.length_erase_of_mem hx] at q
    simp only [List.length_cons]
    omega
theorem Keys0.le {ns ks : List Int} (h : Keys0 ns ks) : ks.length ≤ ns.length := nodup_le h.1 fun k hk => (h.2 k).mp hk
end WA

namespace WA
open PySem PySem.Spec PyProof.Rows L2 Evl
/-! ### signs stripped -/
theorem strip_signs (r : List Bool) : Txt.stripChars (rs r) "x-" = "" := by
  have h0 : ∀ b, (("x-" : Str).cps.contains (sg b)) = true := by intro b; cases b <;> decide +kernel
  have e1 : ((rs r).cps.toList.takeWhile ("x-" : Str).cps.contains).length = r.length := by
    rw [rs_tl]
    have : ∀ l : List Bool, ((l.map sg).takeWhile ("x-" : Str).cps.contains) = l.map sg := by
      intro l
      induction l with
      | nil => rfl
      | cons b l ih => rw [List.map_cons, List.takeWhile_cons, if_pos (h0 b), ih]
    rw [this, List.length_map]
  have e2 : stripLo ("x-" : Str).cps.contains true (rs r) = r.length := e1
  have e3 : stripHi ("x-" : Str).cps.contains true (rs r) r.length = r.length := by
    unfold stripHi
    rw [if_pos rfl, rs_tl, List.drop_of_length_le (by rw [List.length_map]; exact Nat.le_refl _), rs_len]
    rfl
  unfold Txt.stripChars Txt.stripBy
  unfold stripSame stripped
  rw [e2, e3, rs_len]
  cases r with
  | nil =>
    rw [if_pos (by rfl)]
    rfl
  | cons b r =>
    rw [if_neg (by simp)]
    refine TL.ext_tl ?_
    rw [TL.tl_strSub, Nat.sub_self, List.take_zero]
    decide +kernel
/-! ### a table at an address -/
structure At (K : PySem.W.Frag) (H : Hp) (a : Addr) (T : Tb) (w : Nat) : Prop where
  sq : SqL K H a (tv T)
  rect : Rect T w
  ln : T.length ≤ 1000
  lw : w ≤ 1000
theorem At.mono {K : PySem.W.Frag} {H H' : Hp} {a : Addr} {T : Tb} {w : Nat} (h : At K H a T w) (e : Ex H H') : At K H' a T w := ⟨ex_l e h.sq, h.rect, h.ln, h.lw⟩
theorem At.row {K : PySem.W.Frag} {H : Hp} {a : Addr} {T : Tb} {w i : Nat} (h : At K H a T w) (hi : i < T.length) : (T.getD i []).length = w := by
  rw [List.getD_eq_getElem?_getD, List.getElem?_eq_getElem hi]
  exact h.rect _ (List.getElem_mem hi)
theorem row_at {T : Tb} {i : Nat} (hi : i < T.length) : T[i]? = some (T.getD i []) := by
  rw [List.getD_eq_getElem?_getD, List.getElem?_eq_getElem hi]; rfl
theorem mem_row {T : Tb} {i : Nat} (hi : i < T.length) : T.getD i [] ∈ T := List.mem_of_getElem? (row_at hi)
section
variable {K : PySem.W.Frag} {σ : L2.St} {H H' : Hp} {te ta tb : TE}
theorem dec_s1 (b c : Bool) : decide (V.str (s1 b) = V.str (s1 c)) = decide (b = c) := by
  by_cases h : b = c
  · subst h; simp
  · rw [decide_eq_false h, decide_eq_false fun e => h (s1_inj (V.str.inj e))]
theorem ev_isX {b : Bool} (h : Ev te σ H (.str (s1 b))) : Ev (tOp rEq te (tC (.str "x"))) σ H (.bl b) :=
  ev_is (ev_op h ev_c (rv_eq rfl)) (by rw [s1_x, dec_s1]; cases b <;> rfl)
theorem ev_isD {b : Bool} (h : Ev te σ H (.str (s1 b))) : Ev (tOp rEq te (tC (.str "-"))) σ H (.bl (!b)) :=
  ev_is (ev_op h ev_c (rv_eq rfl)) (by rw [s1_d, dec_s1]; cases b <;> rfl)
/-- T[i] -/
theorem ev_rowI {T : Tb} {i : Nat} {v : V} (h : EvS K ta σ H (tv T)) (hi : i < T.length) (hb : Ev tb σ H (.int (i : Nat))) : Ev (tOp (rIxL K) ta tb) σ H (.str (rs (T.getD i []))) := ev_ixLS h hb (atI_nat (tv_get (row_at hi)))
/-- T[i][j] -/
theorem ev_cell {a : Addr} {T : Tb} {w i j : Nat} {tc : TE} (h : At K H a T w) (ha : Ev ta σ H (.ref a)) (hb : Ev tb σ H (.int (i : Nat))) (hc : Ev tc σ H (.int (j : Nat))) (hi : i < T.length) (hj : j < w) :
    Ev (tOp rIxS (tOp (rIxL K) ta tb) tc) σ H (.str (s1 (gt T i j))) := by
  have hr := h.row hi
  have := h.lw
  exact ev_ixSg (ev_rowI (v := .non) (evs ha h.sq) hi hb) hc (by omega) (by omega)
theorem ev_lenTab {a : Addr} {T : Tb} {w : Nat} (h : At K H a T w) (ha : Ev ta σ H (.ref a)) : Ev (tCB (rLn K) (tCons ta tNil)) σ H (.int (T.length : Nat)) := by
  have := ev_lenS (evs ha h.sq)
  rw [tv_len] at this
  exact this
theorem ev_lenRow {r : List Bool} (h : Ev te σ H (.str (rs r))) (hz : r.length ≤ 1000) : Ev (tCB (rLn K) (tCons te tNil)) σ H (.int (r.length : Nat)) := by
  have := ev_lenT (K := K) h (by rw [rs_len]; omega)
  rw [rs_len] at this
  exact this
/-- len(T[0]) -/
theorem ev_len0 {a : Addr} {T : Tb} {w : Nat} (h : At K H a T w) (ha : Ev ta σ H (.ref a)) (hn : T ≠ []) : Ev (tCB (rLn K) (tCons (tOp (rIxL K) ta (tC (.int 0))) tNil)) σ H (.int (w : Nat)) := by
  have h0 : 0 < T.length := List.length_pos_iff.mpr hn
  have hr := h.row h0
  have := h.lw
  have z := ev_lenRow (K := K) (ev_rowI (v := .non) (evs ha h.sq) h0 (tb := tC (.int 0)) ev_c) (by omega)
  rw [hr] at z
  exact z
/-- T == [] -/
theorem ev_empty {T : Tb} (h : EvS K ta σ H (tv T)) : Ev (tOp (rEqD K) ta (tLst tNil)) σ H (.bl (decide (T = []))) :=
  ev_is (ev_eqS h (els el_nil) (si_tv T) rfl) (by rw [show ([] : List V) = tv [] from rfl, dec_tv])
theorem ev_nempty {T : Tb} (h : EvS K ta σ H (tv T)) : Ev (tOp (rNeD K) ta (tLst tNil)) σ H (.bl (!decide (T = []))) :=
  ev_is (ev_neS h (els el_nil) (si_tv T) rfl) (by rw [show ([] : List V) = tv [] from rfl, dec_tv])
theorem ev_eqTab {T T' : Tb} (h : EvS K ta σ H (tv T)) (g : EvS K tb σ H (tv T')) : Ev (tOp (rEqD K) ta tb) σ H (.bl (decide (T = T'))) :=
  ev_is (ev_eqS h g (si_tv T) (si_tv T')) (by rw [dec_tv])
theorem ev_neTab {T T' : Tb} (h : EvS K ta σ H (tv T)) (g : EvS K tb σ H (tv T')) : Ev (tOp (rNeD K) ta tb) σ H (.bl (!decide (T = T'))) :=
  ev_is (ev_neS h g (si_tv T) (si_tv T')) (by rw [dec_tv])
theorem ev_eqInts {T T' : List Int} (h : EvS K ta σ H (T.map V.int)) (g : EvS K tb σ H (T'.map V.int)) : Ev (tOp (rEqD K) ta tb) σ H (.bl (decide (T = T'))) :=
  ev_is (ev_eqS h g (si_ints T) (si_ints T')) (by rw [dec_ints])
theorem ev_neInts {T T' : List Int} (h : EvS K ta σ H (T.map V.int)) (g : EvS K tb σ H (T'.map V.int)) : Ev (tOp (rNeD K) ta tb) σ H (.bl (!decide (T = T'))) :=
  ev_is (ev_neS h g (si_ints T) (si_ints T')) (by rw [dec_ints])
theorem ev_lenInts {ns : List Int} (h : EvS K ta σ H (ns.map V.int)) : Ev (tCB (rLn K) (tCons ta tNil)) σ H (.int (ns.length : Nat)) := by
  have := ev_lenS h
  rw [List.length_map] at this
  exact this
/-- row.strip("x-") != "" -/
theorem ev_strip {r : List Bool} (h : Ev te σ H (.str (rs r))) (hz : r.length ≤ 1000) : Ev (tM1 rStripC te (tC (.str "x-"))) σ H (.str "") := fun H1 e Q q =>
  h H1 e _ fun H2 e2 => ⟨⟨_, rfl⟩, ⟨rs r, "x-", rfl, rfl, sz_of (by rw [rs_len]; omega), by rw [strip_signs]; exact q H2 e2⟩⟩
/-- the turned table as a comprehension gives it -/
theorem el_turn {a : Addr} {T : Tb} {w j k : Nat} {t1 t2 : TE} {vs vs' : List Nat} {tn : TE} (h : At K H a T w) (hn : Ev tn σ H (.int (w : Nat))) (hw : ∀ x, wipe ((wipe σ vs).set j (some x)) vs = wipe σ vs)
    (hw' : ∀ x y, wipe ((wipe ((wipe σ vs).set j (some x)) vs').set k (some y)) vs' = wipe ((wipe σ vs).set j (some x)) vs')
    (ht : ∀ i, i < w → Ev t1 ((wipe σ vs).set j (some (.int (i : Nat)))) H (.ref a))
    (he : ∀ i r, i < w → r ∈ T → Ev t2 ((wipe ((wipe σ vs).set j (some (.int (i : Nat)))) vs').set k (some (.str (rs r)))) H (.str (s1 (r.getD i false)))) :
    EvL (tLc (iRng1 (tCons tn tNil)) (gName j) tYes (tM1 (rJoin K) (tC (.str "")) (tLc (iList K t1) (gName k) tYes t2 vs')) vs) σ H (tv (turn T w)) := by
  have hl := h.ln
  have hlw := h.lw
  refine EvL.is (el_mapR (f := fun i => V.str (rs (T.map fun r => r.getD i false))) hn (by omega) hw fun i hi => ?_) (by unfold tv turn; rw [List.map_map]; rfl)
  refine ev_joinS (bs := T.map fun r => r.getD i false) ?_ (by rw [List.length_map]; omega)
  rw [List.map_map]
  exact els (el_map (l := T) (g := fun r => V.str (rs r)) (evs (ht i hi) h.sq) (by omega) (hw' _) fun r hr => he i r hi hr)
end
/-! ### a bit's sign -/
def bit (c : Int) (k : Nat) : Bool := decide (c / 2 ^ k % 2 = 1)
section
variable {K : PySem.W.Frag} {σ : L2.St} {H H' : Hp} {ta tb te tx : TE} {t u : TT} {x y z v : V} {D : Ends} {tu tw tz : TS} {g : TG}
theorem ev_bitSg {c : Int} {k : Nat} (h : Ev ta σ H (.int c)) (h' : Ev tb σ H (.int (k : Nat))) : Ev (tOp rIxS (tC (.str "-x")) (tOp rAndI (tOp rShrI ta tb) (tC (.int 1)))) σ H (.str (s1 (bit c k))) := by
  have e1 : Builtin.bitAnd (c / 2 ^ ((k : Nat) : Int).toNat) 1 = c / 2 ^ k % 2 := by rw [Int.toNat_natCast, bitAnd_m1]
  have h1 : Ev (tOp rAndI (tOp rShrI ta tb) (tC (.int 1))) σ H (.int (c / 2 ^ k % 2)) := ev_is (ev_op (ev_op h h' (rv_I (Int.natCast_nonneg _))) ev_c rv_I0) (by rw [e1])
  have hl : ("-x" : Str).length ≤ 100000 := by decide +kernel
  have h2 : c / 2 ^ k % 2 = 0 ∨ c / 2 ^ k % 2 = 1 := by omega
  rcases h2 with h2 | h2
  · rw [h2] at h1
    have z := ev_op (ev_c (σ := σ) (H := H) (v := V.str "-x")) h1 (rv_ixS (c := 45) hl (by decide +kernel))
    refine ev_is z ?_
    unfold bit
    rw [h2]
    rfl
  · rw [h2] at h1
    have z := ev_op (ev_c (σ := σ) (H := H) (v := V.str "-x")) h1 (rv_ixS (c := 120) hl (by decide +kernel))
    refine ev_is z ?_
    unfold bit
    rw [h2]
    rfl
theorem q_asgUg {xs : List V} (h : EvU te σ H xs) (k : ∀ p H1, Ex H H1 → H1 p = some (.tup xs) → g (.ref p) σ H1 (tz D)) : tSeq (tAsg te g) tz D σ H := h H (Ex.refl H) _ fun p H1 _ e1 hp => k p H1 e1 hp
/-- i, j = a, b by a tuple -/
theorem q_pair {i j : Nat} (ha : Ev ta σ H x) (hb : Ev tb σ H y) (k : ∀ H1, Ex H H1 → tz D ((σ.set i (some x)).set j (some y)) H1) :
    tSeq (tAsg (tTup (tCons ta (tCons tb tNil))) (gTup K 2 (gCons (gName i) (gCons (gName j) gNil)))) tz D σ H :=
  q_asgUg (xs := [x, y]) (eu_tup (ea_cons ha (ea_cons hb ea_nil)) (show 2 ≤ 100000 by decide)) fun p H1 e1 hp => g_pair (st_of hp) (k H1 e1)
theorem q_parA {i j : Nat} {ts : TA} (h : EvA ts σ H [x, y]) (k : ∀ H1, Ex H H1 → tz D ((σ.set i (some x)).set j (some y)) H1) : tSeq (tPar i j ts) tz D σ H :=
  h H (Ex.refl H) _ fun H1 e1 => ⟨x, y, rfl, k H1 e1⟩
/-- i, j = a, b -/
theorem q_par {i j : Nat} (ha : Ev ta σ H x) (hb : Ev tb σ H y) (k : ∀ H1, Ex H H1 → tz D ((σ.set i (some x)).set j (some y)) H1) : tSeq (tPar i j (tCons ta (tCons tb tNil))) tz D σ H :=
  q_parA (ea_cons ha (ea_cons hb ea_nil)) k
/-- (a, b, c)[code % 3] -/
def pick3 (m : Int) (a b c : Int) : Int := if m = 0 then a else if m = 1 then b else c
theorem at_pick3 {m a b c : Int} (h : 0 ≤ m ∧ m < 3) : atI [V.int a, V.int b, V.int c] m = some (.int (pick3 m a b c)) := by
  have : m = 0 ∨ m = 1 ∨ m = 2 := by omega
  rcases this with rfl | rfl | rfl <;> rfl
theorem ev_pick3 {m a b c : Int} {tc tm : TE} (ha : Ev ta σ H (.int a)) (hb : Ev tb σ H (.int b)) (hc : Ev tc σ H (.int c)) (hm : Ev tm σ H (.int m)) (h : 0 ≤ m ∧ m < 3) :
    Ev (tOp (rIxT K) (tTup (tCons ta (tCons tb (tCons tc tNil)))) tm) σ H (.int (pick3 m a b c)) :=
  ev_ixU (eu_tup (ea_cons ha (ea_cons hb (ea_cons hc ea_nil))) (show 3 ≤ 100000 by decide)) hm (at_pick3 h)
def pick4 (m : Int) : Int := if m = 0 then 0 else if m = 1 then 1 else if m = 2 then 0 else 2
theorem ev_pick4 {m : Int} {tm : TE} (hm : Ev tm σ H (.int m)) (h : 0 ≤ m ∧ m < 4) :
    Ev (tOp (rIxT K) (tTup (tCons (tC (.int 0)) (tCons (tC (.int 1)) (tCons (tC (.int 0)) (tCons (tC (.int 2)) tNil))))) tm) σ H (.int (pick4 m)) :=
  ev_ixU (eu_tup (ea_cons ev_c (ea_cons ev_c (ea_cons ev_c (ea_cons ev_c ea_nil)))) (by decide)) hm (by
    have : m = 0 ∨ m = 1 ∨ m = 2 ∨ m = 3 := by omega
    rcases this with rfl | rfl | rfl | rfl <;> rfl)
theorem pick4_ok (m : Int) : 0 ≤ pick4 m ∧ pick4 m ≤ 2 := by
  unfold pick4
  split
  · omega
  · split
    · omega
    · split <;> omega
/-! ### a sign turned -/
theorem rs_app (a b : List Bool) : rs a ++ rs b = rs (a ++ b) := by
  refine TL.ext_tl ?_
  rw [TL.tl_append]
  show a.map sg ++ b.map sg = (a ++ b).map sg
  rw [List.map_append]
theorem cut_lo {r : List Bool} {j : Nat} (hj : j ≤ r.length) : cutS (rs r) none (some (j : Int)) = rs (r.take j) := by
  unfold cutS
  rw [HT.sIx_none, HT.sIx_nat, rs_len, rs_tl, List.drop_zero, Nat.sub_zero, Nat.min_eq_left hj, ← List.map_take]
  rfl
theorem cut_hi {r : List Bool} {j : Nat} (hj : j ≤ r.length) : cutS (rs r) (some (j : Int)) none = rs (r.drop j) := by
  unfold cutS
  rw [HT.sIx_none, HT.sIx_nat, rs_len, rs_tl, Nat.min_eq_left hj, ← List.map_drop]
  have e : ((r.drop j).map sg).take (r.length - j) = (r.drop j).map sg := List.take_of_length_le (by rw [List.length_map, List.length_drop]; exact Nat.le_refl _)
  rw [e]
  rfl
def flip (r : List Bool) (j : Nat) : List Bool := r.take j ++ [!r.getD j false] ++ r.drop (j + 1)
theorem flip_len {r : List Bool} {j : Nat} (h : j < r.length) : (flip r j).length = r.length := by
  unfold flip
  rw [List.length_append, List.length_append, List.length_take, List.length_drop]
  simp only [List.length_cons, List.length_nil]
  omega
theorem ev_cutLo {r : List Bool} {j : Nat} (h : Ev ta σ H (.str (rs r))) (hj : Ev tb σ H (.int (j : Nat))) (hl : j ≤ r.length) (hz : r.length ≤ 1000) : Ev (tSl rSlS ta tNoPart (tPart tb)) σ H (.str (rs (r.take j))) := fun H1 e Q q =>
  h H1 e _ fun H2 e2 => hj H2 (e.trans e2) _ fun H3 e3 => ⟨_, rfl, rs r, rfl, sz_of (by rw [rs_len]; omega), by rw [cut_lo hl]; exact q H3 (e2.trans e3)⟩
theorem ev_cutHi {r : List Bool} {j : Nat} (h : Ev ta σ H (.str (rs r))) (hj : Ev tb σ H (.int (j : Nat))) (hl : j ≤ r.length) (hz : r.length ≤ 1000) : Ev (tSl rSlS ta (tPart tb) tNoPart) σ H (.str (rs (r.drop j))) := fun H1 e Q q =>
  h H1 e _ fun H2 e2 => hj H2 (e.trans e2) _ fun H3 e3 => ⟨_, rfl, rs r, rfl, sz_of (by rw [rs_len]; omega), by rw [cut_hi hl]; exact q H3 (e2.trans e3)⟩
theorem ev_catS {a b : List Bool} (h : Ev ta σ H (.str (rs a))) (h' : Ev tb σ H (.str (rs b))) (hz : a.length ≤ 1000 ∧ b.length ≤ 1000) : Ev (tOp rCatS ta tb) σ H (.str (rs (a ++ b))) := ev_op h h' fun H1 e Q q =>
  ⟨rs a, rs b, rfl, rfl, sz_of (by rw [rs_len, rs_len]; omega), by rw [rs_app]; exact q H1 (Ex.refl H1)⟩
theorem s1_rs (b : Bool) : s1 b = rs [b] := rfl
/-- {'x': '-', '-': 'x'}[s] -/
theorem ev_other {b : Bool} (h : Ev te σ H (.str (s1 b))) : Ev (tDGet (tDisp [((tC (.str "x")), (tC (.str "-"))), ((tC (.str "-")), (tC (.str "x")))]) te) σ H (.str (rs [!b])) := fun H1 e Q q => by
  intro p hp
  refine ⟨upd_same, [(.inr "x", .str "-"), (.inr "-", .str "x")], rfl, by decide, ?_⟩
  have e1 : Ex H1 (upd (upd H1 p (.dK [])) p (.dK (mergeK [] [(.inr "x", .str "-"), (.inr "-", .str "x")]))) := Ex.mut (Ex.new hp) hp
  refine h _ (e.trans e1) _ fun H2 e2 => ⟨p, _, rfl, .inl ⟨_, .inr (s1 b), .inl (e2 p _ upd_same), rfl, ?_⟩, q H2 (e1.trans e2)⟩
  cases b
  · show some (V.str (rs [true])) = _
    rw [← s1_rs, ← s1_x, ← s1_d]
    decide +kernel
  · show some (V.str (rs [false])) = _
    rw [← s1_rs, ← s1_x, ← s1_d]
    decide +kernel
/-! ### tables made sign by sign -/
def bitsT (ns : List Int) (w : Nat) : Tb := ns.map fun c => (List.range w).map (bit c)
theorem bitsT_len (ns : List Int) (w : Nat) : (bitsT ns w).length = ns.length := List.length_map _
theorem bitsT_rect (ns : List Int) (w : Nat) : Rect (bitsT ns w) w := fun r hr => by
  obtain ⟨c, _, rfl⟩ := List.mem_map.mp hr
  rw [List.length_map, List.length_range]
theorem el_bits {ns : List Int} {w j k : Nat} {tl tn t1 t2 : TE} {vs vs' : List Nat} (h : EvS K tl σ H (ns.map V.int)) (hz : ns.length ≤ 1000 ∧ w ≤ 1000) (hw : ∀ x, wipe ((wipe σ vs).set j (some x)) vs = wipe σ vs)
    (hn : ∀ c : Int, Ev tn ((wipe σ vs).set j (some (.int c))) H (.int (w : Nat)))
    (hw' : ∀ x y, wipe ((wipe ((wipe σ vs).set j (some x)) vs').set k (some y)) vs' = wipe ((wipe σ vs).set j (some x)) vs')
    (h1 : ∀ (c : Int) (i : Nat), Ev t1 ((wipe ((wipe σ vs).set j (some (.int c))) vs').set k (some (.int (i : Nat)))) H (.int c))
    (h2 : ∀ (c : Int) (i : Nat), Ev t2 ((wipe ((wipe σ vs).set j (some (.int c))) vs').set k (some (.int (i : Nat)))) H (.int (i : Nat))) :
    EvL (tLc (iList K tl) (gName j) tYes (tM1 (rJoin K) (tC (.str "")) (tLc (iRng1 (tCons tn tNil)) (gName k) tYes (tOp rIxS (tC (.str "-x")) (tOp rAndI (tOp rShrI t1 t2) (tC (.int 1)))) vs')) vs) σ H (tv (bitsT ns w)) := by
  refine EvL.is (el_map (g := V.int) (f := fun c => V.str (rs ((List.range w).map (bit c)))) h (by omega) hw fun c hc => ?_) (by unfold tv bitsT; rw [List.map_map]; rfl)
  refine ev_joinS ?_ (by rw [List.length_map, List.length_range]; omega)
  rw [List.map_map]
  exact els (el_mapR (f := fun i => V.str (s1 (bit c i))) (hn c) (by omega) (hw' _) fun i hi => ev_bitSg (h1 c i) (h2 c i))
theorem el_signs {α β : Type} {l : List α} {m : List β} {g : α → V} {g' : β → V} {p : α → β → Bool} {j k : Nat} {tl tm : TE} {tt : TT} {vs vs' : List Nat} (h : EvS K tl σ H (l.map g)) (hz : l.length ≤ 1000 ∧ m.length ≤ 1000)
    (hw : ∀ x, wipe ((wipe σ vs).set j (some x)) vs = wipe σ vs) (hm : ∀ a ∈ l, EvS K tm ((wipe σ vs).set j (some (g a))) H (m.map g'))
    (hw' : ∀ x y, wipe ((wipe ((wipe σ vs).set j (some x)) vs').set k (some y)) vs' = wipe ((wipe σ vs).set j (some x)) vs')
    (ht : ∀ a ∈ l, ∀ b ∈ m, EvT tt ((wipe ((wipe σ vs).set j (some (g a))) vs').set k (some (g' b))) H (p a b)) :
    EvL (tLc (iList K tl) (gName j) tYes (tM1 (rJoin K) (tC (.str "")) (tLc (iList K tm) (gName k) tYes (tIf tt (tC (.str "x")) (tC (.str "-"))) vs')) vs) σ H (tv (l.map fun a => m.map fun b => p a b)) := by
  refine EvL.is (el_map (g := g) (f := fun a => V.str (rs (m.map fun b => p a b))) h (by omega) hw fun a ha => ?_) (by unfold tv; rw [List.map_map]; rfl)
  refine ev_joinS ?_ (by rw [List.length_map]; omega)
  rw [List.map_map]
  exact els (el_map (g := g') (f := fun b => V.str (s1 (p a b))) (hm a ha) (by omega) (hw' _) fun b hb => ev_ifSg (ht a ha b hb))
theorem rect_signs {α β : Type} (l : List α) (m : List β) (p : α → β → Bool) : Rect (l.map fun a => m.map fun b => p a b) m.length := fun r hr => by
  obtain ⟨a, _, rfl⟩ := List.mem_map.mp hr
  rw [List.length_map]
theorem tv_set (T : Tb) (i : Nat) (r : List Bool) : tv (T.set i r) = (tv T).set i (.str (rs r)) := by unfold tv; rw [List.map_set]
theorem rect_set {T : Tb} {w i : Nat} {r : List Bool} (h : Rect T w) (hr : r.length = w) : Rect (T.set i r) w := fun x hx => by
  rcases List.mem_or_eq_of_mem_set hx with hx | rfl
  · exact h x hx
  · exact hr
theorem md_ok {a : Int} {n : Nat} (hn : 0 < n) : ∃ i : Nat, a % (n : Int) = (i : Nat) ∧ i < n := ⟨(a % (n : Int)).toNat, by
  have := Int.emod_nonneg a (show (n : Int) ≠ 0 by omega)
  omega, by
  have := Int.emod_nonneg a (show (n : Int) ≠ 0 by omega)
  have := Int.emod_lt_of_pos a (show (0 : Int) < n by omega)
  omega⟩
end
end WA

namespace WA
open PySem PySem.Spec PyProof.Rows L2 Evl
theorem pick_int (ns : List Int) (lo hi st : Option Int) : pick (ns.map V.int) lo hi st = (pick ns lo hi st).map V.int := pick_map _ _ _ _ _
theorem pick_tv (T : Tb) (lo hi st : Option Int) : pick (tv T) lo hi st = tv (pick T lo hi st) := pick_map _ _ _ _ _
theorem pick_mem {α : Type} {xs : List α} {lo hi st : Option Int} {x : α} (h : x ∈ pick xs lo hi st) : x ∈ xs := by
  unfold pick at h
  obtain ⟨i, _, hi⟩ := List.mem_filterMap.mp h
  exact List.mem_of_getElem? hi
/-- how many a slice with a step takes at most -/
def stepLen (lo hi st : Option Int) (n : Nat) : Nat := (sliceRange (sliceBounds lo hi st n).1 (sliceBounds lo hi st n).2.1 (sliceBounds lo hi st n).2.2).length
section
variable {K : PySem.W.Frag} {w : World} {σ : L2.St} {H H' : Hp} {ta tb te tx : TE} {t u : TT} {x y z v : V} {D : Ends} {tu tw tz : TS} {g : TG} {xs ys : List V}
theorem el_sl3 {tl th ts : TO} {lo hi st : Option Int} (h : EvS K te σ H xs) (h1 : EvO tl σ H lo) (h2 : EvO th σ H hi) (h3 : EvO ts σ H st) (h0 : st ≠ some 0) (hz : stepLen lo hi st xs.length ≤ 1000) : EvL (tSl3 K te tl th ts) σ H (pick xs lo hi st) := fun H1 e Q q =>
  h H1 e _ fun a H2 e2 hx => h1 H2 (e.trans e2) _ fun H3 e3 => h2 H3 ((e.trans e2).trans e3) _ fun H4 e4 => h3 H4 (((e.trans e2).trans e3).trans e4) _ fun H5 e5 =>
    ⟨a, xs, rfl, ex_l ((e3.trans e4).trans e5) hx, h0, Nat.le_trans (pick_len _ _ _ _) (sz_of (Nat.le_trans hz (by decide))), fun p hp => q p _ (fresh_back (((e2.trans e3).trans e4).trans e5) hp) ((((e2.trans e3).trans e4).trans e5).trans (Ex.new hp)) upd_same⟩
theorem q_asgG {g : TG} (h : Ev te σ H v) (k : ∀ H1, Ex H H1 → g v σ H1 (tz D)) : tSeq (tAsg te g) tz D σ H := h H (Ex.refl H) _ fun H1 e1 => k H1 e1
/-- a tuple of two new lists -/
def EvU2 (te : TE) (σ : L2.St) (H : Hp) (xs ys : List V) : Prop := ∀ H1, Ex H H1 → ∀ Q : VK, (∀ a p q H2, H1 p = none → H1 q = none → Ex H1 H2 → H2 a = some (.tup [.ref p, .ref q]) → H2 p = some (.lst xs) → H2 q = some (.lst ys) → Q (.ref a) H2) → te σ H1 Q
theorem eu2 (ha : EvL ta σ H xs) (hb : EvL tb σ H ys) : EvU2 (tTup (tCons ta (tCons tb tNil))) σ H xs ys := fun H1 e Q q =>
  ha H1 e _ fun p H2 hp e2 h2 => hb H2 (e.trans e2) _ fun q' H3 hq e3 h3 => ⟨sz_of (show 2 ≤ 100000 by decide), fun a hn =>
    q a p q' _ hp (fresh_back e2 hq) ((e2.trans e3).trans (Ex.new hn)) upd_same (Ex.new hn p _ (e3 p _ h2)) (Ex.new hn q' _ h3)⟩
theorem q_pairLL {i j : Nat} (h : EvU2 te σ H xs ys) (k : ∀ p q H1, Ex H H1 → H p = none → H q = none → H1 p = some (.lst xs) → H1 q = some (.lst ys) → tz D ((σ.set i (some (.ref p))).set j (some (.ref q))) H1) :
    tSeq (tAsg te (gTup K 2 (gCons (gName i) (gCons (gName j) gNil)))) tz D σ H :=
  h H (Ex.refl H) _ fun a p q H1 fp fq e1 ha hp hq => g_pair (st_of ha) (k p q H1 e1 fp fq hp hq)
/-! ### a new list of which something is known -/
def EvLP (te : TE) (σ : L2.St) (H : Hp) (P : List V → Prop) : Prop := ∀ H1, Ex H H1 → ∀ Q : VK, (∀ xs p H2, P xs → H1 p = none → Ex H1 H2 → H2 p = some (.lst xs) → Q (.ref p) H2) → te σ H1 Q
theorem elp {P : List V → Prop} (h : EvL te σ H xs) (p : P xs) : EvLP te σ H P := fun H1 e Q q => h H1 e Q fun a H2 hp e2 h2 => q xs a H2 p hp e2 h2
theorem elp_mono {P P' : List V → Prop} (h : EvLP te σ H P) (p : ∀ xs, P xs → P' xs) : EvLP te σ H P' := fun H1 e Q q => h H1 e Q fun xs a H2 px hp e2 h2 => q xs a H2 (p xs px) hp e2 h2
theorem elp_if {P : List V → Prop} {b : Bool} (h : EvT t σ H b) (h1 : b = true → EvLP ta σ H P) (h2 : b = false → EvLP tb σ H P) : EvLP (tIf t ta tb) σ H P := fun H1 e Q q => h H1 e _ fun H2 e2 => by
  cases b with
  | true =>
    show ta σ H2 Q
    exact h1 rfl H2 (e.trans e2) Q fun xs p H3 px hp e3 h3 => q xs p H3 px (fresh_back e2 hp) (e2.trans e3) h3
  | false =>
    show tb σ H2 Q
    exact h2 rfl H2 (e.trans e2) Q fun xs p H3 px hp e3 h3 => q xs p H3 px (fresh_back e2 hp) (e2.trans e3) h3
theorem q_forLP {P : List V → Prop} {tl : TE} {j : Nat} (h : EvLP tl σ H P) (Pv : L2.St → Hp → Prop) (h0 : ∀ H1, Ex H H1 → Pv σ H1)
    (hs : ∀ xs x σ' H', P xs → x ∈ xs → Pv σ' H' → ∀ D' : Ends, D'.rt = D.rt → (∀ σ2 H2, Ex H' H2 → Pv σ2 H2 → D'.nx σ2 H2) → tu D' (σ'.set j (some x)) H')
    (hd : ∀ σ' H', Pv σ' H' → tz D σ' H') : tSeq (tFor (iList K tl) (gName j) tu) tz D σ H :=
  h H (Ex.refl H) _ fun xs p H1 px _ e1 hp => ⟨p, rfl, ⟨xs, sq_of hp⟩, for_list (fun _ σ' H' => Ex H1 H' ∧ Pv σ' H') ⟨Ex.refl H1, h0 H1 e1⟩ (fun _ _ _ _ q => sq_of (q.1 p _ hp))
    (fun i x σ' H' hx q => hs xs x σ' H' px (List.mem_of_getElem? hx) q.2 _ rfl fun σ2 H2 e2 pv => ⟨q.1.trans e2, pv⟩) fun σ' H' q => hd σ' H' q.2⟩
theorem s_forLP {P : List V → Prop} {tl : TE} {j : Nat} (h : EvLP tl σ H P) (Pv : L2.St → Hp → Prop) (h0 : ∀ H1, Ex H H1 → Pv σ H1)
    (hs : ∀ xs x σ' H', P xs → x ∈ xs → Pv σ' H' → ∀ D' : Ends, D'.rt = D.rt → (∀ σ2 H2, Ex H' H2 → Pv σ2 H2 → D'.nx σ2 H2) → tu D' (σ'.set j (some x)) H')
    (hd : ∀ σ' H', Pv σ' H' → D.nx σ' H') : tFor (iList K tl) (gName j) tu D σ H :=
  h H (Ex.refl H) _ fun xs p H1 px _ e1 hp => ⟨p, rfl, ⟨xs, sq_of hp⟩, for_list (fun _ σ' H' => Ex H1 H' ∧ Pv σ' H') ⟨Ex.refl H1, h0 H1 e1⟩ (fun _ _ _ _ q => sq_of (q.1 p _ hp))
    (fun i x σ' H' hx q => hs xs x σ' H' px (List.mem_of_getElem? hx) q.2 _ rfl fun σ2 H2 e2 pv => ⟨q.1.trans e2, pv⟩) fun σ' H' q => hd σ' H' q.2⟩
/-! ### lists put together, sets sorted -/
theorem el_cat (ha : EvL ta σ H xs) (hb : EvL tb σ H ys) (hz : xs.length + ys.length ≤ 1000) : EvL (tOp rCat ta tb) σ H (xs ++ ys) := fun H1 e Q q =>
  ha H1 e _ fun p H2 hp e2 h2 => hb H2 (e.trans e2) _ fun p' H3 hq e3 h3 => ⟨p, p', xs, ys, rfl, rfl, e3 p _ h2, h3, sz_of (by omega), fun l hl => q l _ (fresh_back (e2.trans e3) hl) ((e2.trans e3).trans (Ex.new hl)) upd_same⟩
def threes (n : Nat) : List Int := (List.range ((n + 2) / 3)).map fun (i : Nat) => (i : Int) * 3
theorem rg3_threes (n : Nat) : rgV3 0 3 ((n + 2) / 3) = (threes n).map V.int := by
  unfold rgV3 threes
  rw [List.map_map]
  refine List.map_congr_left fun i _ => ?_
  show V.int (0 + (i : Nat) * 3) = V.int ((i : Int) * 3)
  rw [Int.zero_add]
theorem el_rg3 {n : Nat} (h : Ev te σ H (.int (n : Nat))) (hn : n < 200) : EvL (tLstRg3 (tRg3 (tC (.int 0)) te (tC (.int 3)))) σ H ((threes n).map V.int) := fun H1 e Q q =>
  h H1 e _ fun H2 e2 => ⟨0, (n : Nat), 3, rfl, rfl, rfl, by decide, by decide, (n + 2) / 3, (rg3_ok n hn).1, (rg3_ok n hn).2, by omega, fun p hp => q p _ (fresh_back e2 hp) (e2.trans (Ex.new hp)) (by rw [rg3_threes]; exact upd_same)⟩
def Sorted0 (ns ks : List Int) : Prop := ks.Pairwise (· < ·) ∧ ∀ k, k ∈ ks ↔ k ∈ ns
theorem elp_sortedSet {ns : List Int} (h : EvS K te σ H (ns.map V.int)) (hz : ns.length < 64) : EvLP (tCB (rSortedSet w) (tCons (tCB (rSetI K w) (tCons te tNil)) tNil)) σ H (fun xs => ∃ ks, xs = ks.map V.int ∧ Sorted0 ns ks) := fun H1 e Q q =>
  h H1 e _ fun p H2 e2 hp => ⟨p, ns, rfl, hp, by omega, fun l ks hl hk => ⟨l, _, _, rfl, upd_same, by have := hk.le; omega, fun ms p' h1 h2 _ hn =>
    q _ p' _ ⟨ms, rfl, h1, fun k => by rw [h2 k, decide_eq_true_eq]⟩ (fresh_back (e2.trans (Ex.new hl)) hn) ((e2.trans (Ex.new hl)).trans (Ex.new hn)) upd_same⟩⟩
theorem threes_in {n : Nat} {k : Int} (hn : 0 < n) (h : k ∈ threes n ++ [(n : Int) - 1]) : ∃ j : Nat, k = (j : Nat) ∧ j < n := by
  rcases List.mem_append.mp h with h | h
  · obtain ⟨i, hi, rfl⟩ := List.mem_map.mp h
    have hi' := List.mem_range.mp hi
    exact ⟨i * 3, by rw [Int.natCast_mul]; rfl, by omega⟩
  · have e := List.mem_singleton.mp h
    exact ⟨n - 1, by omega, by omega⟩
theorem threes_len (n : Nat) : (threes n).length = (n + 2) / 3 := by unfold threes; rw [List.length_map, List.length_range]
end
/-- all rows that have a column -/
def colOf (T : Tb) (j : Nat) : List Nat := (List.range T.length).filter fun i => gt T i j
def nv (l : List Nat) : List V := l.map fun i : Nat => V.int (i : Nat)
def intsOf (l : List Nat) : List Int := l.map fun i : Nat => (i : Int)
theorem nv_eq (l : List Nat) : nv l = (intsOf l).map V.int := by unfold nv intsOf; rw [List.map_map]; rfl
theorem nv_int (l : List Nat) : nv l = (intsOf l).map V.int := nv_eq l
theorem nv_len (l : List Nat) : (nv l).length = l.length := List.length_map _
theorem intsOf_len (l : List Nat) : (intsOf l).length = l.length := List.length_map _
theorem colOf_len (T : Tb) (j : Nat) : (colOf T j).length ≤ T.length := by
  unfold colOf
  have h := List.length_filter_le (fun i => gt T i j) (List.range T.length)
  rwa [List.length_range] at h
/-! ### turned -/
def turnT (T : Tb) (w : Nat) : Tb := if T = [] then [] else turn T w
theorem turnT_nil (w : Nat) : turnT [] w = [] := rfl
theorem turnT_ne {T : Tb} {w : Nat} (h : T ≠ []) : turnT T w = turn T w := if_neg h
theorem turnT_rect (T : Tb) (w : Nat) : Rect (turnT T w) T.length := by
  by_cases h : T = []
  · subst h; intro r hr; cases hr
  · rw [turnT_ne h]; exact turn_rect T w
theorem turnT_len (T : Tb) (w : Nat) : (turnT T w).length ≤ w := by
  by_cases h : T = []
  · subst h; exact Nat.zero_le _
  · rw [turnT_ne h, turn_len]; exact Nat.le_refl _
theorem getD_map {α β : Type} (f : α → β) (l : List α) (i : Nat) (d : β) (e : α) (hi : i < l.length) : (l.map f).getD i d = f (l.getD i e) := by
  rw [List.getD_eq_getElem?_getD, List.getElem?_map, List.getElem?_eq_getElem hi, List.getD_eq_getElem?_getD, List.getElem?_eq_getElem hi]; rfl
theorem turn_get {T : Tb} {w j : Nat} (hj : j < w) : (turn T w).getD j [] = T.map fun r => r.getD j false := by
  unfold turn
  rw [getD_map (fun j => T.map fun r => r.getD j false) (List.range w) j [] 0 (by rw [List.length_range]; exact hj)]
  have e : (List.range w).getD j 0 = j := by rw [List.getD_eq_getElem?_getD, List.getElem?_range hj]; rfl
  rw [e]
theorem gt_turn {T : Tb} {w i j : Nat} (hj : j < w) (hi : i < T.length) : gt (turn T w) j i = gt T i j := by
  unfold gt
  rw [turn_get hj, getD_map (fun r : List Bool => r.getD j false) T i false [] hi]
theorem row_ext {r : List Bool} {n : Nat} (h : r.length = n) : ((List.range n).map fun j => r.getD j false) = r := by
  refine List.ext_getElem? fun i => ?_
  rw [List.getElem?_map]
  by_cases hi : i < n
  · rw [List.getElem?_range hi, List.getElem?_eq_getElem (by omega), Option.map_some, List.getD_eq_getElem?_getD, List.getElem?_eq_getElem (by omega)]; rfl
  · rw [List.getElem?_eq_none (by rw [List.length_range]; omega), List.getElem?_eq_none (by omega)]; rfl
/-- turned twice -/
theorem turn_turn {T : Tb} {w : Nat} (h : Rect T w) (hw : w ≠ 0) : turn (turn T w) T.length = T := by
  refine List.ext_getElem? fun i => ?_
  by_cases hi : i < T.length
  · have e : (turn (turn T w) T.length)[i]? = some ((turn T w).map fun r => r.getD i false) := by
      have hl : i < (turn (turn T w) T.length).length := by rw [turn_len]; exact hi
      rw [row_at hl, turn_get hi]
    rw [e, List.getElem?_eq_getElem hi]
    congr 1
    have hr : T[i].length = w := h _ (List.getElem_mem hi)
    rw [← row_ext hr]
    unfold turn
    rw [List.map_map]
    refine List.map_congr_left fun j hj => ?_
    show (T.map fun r => r.getD j false).getD i false = _
    rw [getD_map (fun r : List Bool => r.getD j false) T i false [] hi]
    rw [List.getD_eq_getElem?_getD (l := T), List.getElem?_eq_getElem hi]; rfl
  · rw [List.getElem?_eq_none (by rw [turn_len]; omega), List.getElem?_eq_none (by omega)]
theorem turnT_turnT {T : Tb} {w : Nat} (h : Rect T w) (hw : w ≠ 0) : turnT (turnT T w) T.length = T := by
  by_cases h0 : T = []
  · subst h0; rfl
  · have h1 : turn T w ≠ [] := fun z => by
      have := turn_len T w
      rw [z] at this
      exact hw this.symm
    rw [turnT_ne h0, turnT_ne h1, turn_turn h hw]
theorem At.turned {K : PySem.W.Frag} {H H' : Hp} {a p : Addr} {T : Tb} {w : Nat} (h : At K H a T w) (hp : SqL K H' p (tv (turnT T w))) : At K H' p (turnT T w) T.length :=
  ⟨hp, turnT_rect T w, Nat.le_trans (turnT_len T w) h.lw, h.ln⟩
end WA

namespace WA
open PySem PySem.Spec PyProof.Rows L2 Evl

def topS (i : Nat) : Stmt := PySem.Challenge.pw_wholeahead_k01_turned.main.body.getD i (.Pass ⟨0, 0, 0, 0⟩)
abbrev s_is_number : Stmt := topS 6
abbrev nm_is_number : List Str := ["thing"]
theorem sc_is_number : FnScope nm_is_number ["thing"] (defScope s_is_number) := ⟨rfl, rfl, rfl, by decide +kernel, rfl, by decide +kernel, by decide +kernel⟩
abbrev s_check_table : Stmt := topS 7
abbrev nm_check_table : List Str := ["table", "row"]
theorem sc_check_table : FnScope nm_check_table ["table"] (defScope s_check_table) := ⟨rfl, rfl, rfl, by decide +kernel, rfl, by decide +kernel, by decide +kernel⟩
abbrev s_check_square : Stmt := topS 8
abbrev nm_check_square : List Str := ["table"]
theorem sc_check_square : FnScope nm_check_square ["table"] (defScope s_check_square) := ⟨rfl, rfl, rfl, by decide +kernel, rfl, by decide +kernel, by decide +kernel⟩
abbrev s_has : Stmt := topS 9
abbrev nm_has : List Str := ["table", "row", "column"]
theorem sc_has : FnScope nm_has ["table", "row", "column"] (defScope s_has) := ⟨rfl, rfl, rfl, by decide +kernel, rfl, by decide +kernel, by decide +kernel⟩
abbrev s_rows_with : Stmt := topS 10
abbrev nm_rows_with : List Str := ["table", "column", "row"]
theorem sc_rows_with : FnScope nm_rows_with ["table", "column"] (defScope s_rows_with) := ⟨rfl, rfl, rfl, by decide +kernel, rfl, by decide +kernel, by decide +kernel⟩
abbrev s_turned : Stmt := topS 11
abbrev nm_turned : List Str := ["table", "column", "row"]
theorem sc_turned : FnScope nm_turned ["table"] (defScope s_turned) := ⟨rfl, rfl, rfl, by decide +kernel, rfl, by decide +kernel, by decide +kernel⟩
abbrev s_ahead_of : Stmt := topS 12
abbrev nm_ahead_of : List Str := ["table", "thing"]
theorem sc_ahead_of : FnScope nm_ahead_of ["table", "thing"] (defScope s_ahead_of) := ⟨rfl, rfl, rfl, by decide +kernel, rfl, by decide +kernel, by decide +kernel⟩
abbrev s_law_table : Stmt := topS 14
abbrev nm_law_table : List Str := ["_law_script", "_law_code", "_law_many", "_law_cell", "_law_at", "_law_begins", "_law_begin", "_law_ends", "_law_end", "_law_table_here", "_law_turn", "_law_row"]
theorem sc_law_table : FnScope nm_law_table ["_law_script"] (defScope s_law_table) := ⟨rfl, rfl, rfl, by decide +kernel, rfl, by decide +kernel, by decide +kernel⟩
abbrev s_law_turned : Stmt := topS 15
abbrev nm_law_turned : List Str := ["_law_table_here", "_law_at", "_law_row"]
theorem sc_law_turned : FnScope nm_law_turned ["_law_table_here"] (defScope s_law_turned) := ⟨rfl, rfl, rfl, by decide +kernel, rfl, by decide +kernel, by decide +kernel⟩
abbrev s_law_numbers : Stmt := topS 16
abbrev nm_law_numbers : List Str := ["_law_found", "_law_many", "_law_one"]
theorem sc_law_numbers : FnScope nm_law_numbers ["_law_found", "_law_many"] (defScope s_law_numbers) := ⟨rfl, rfl, rfl, by decide +kernel, rfl, by decide +kernel, by decide +kernel⟩
abbrev s_law_right : Stmt := topS 17
abbrev nm_law_right : List Str := ["_law_table_here", "_law_handed", "_law_found", "_law_row"]
theorem sc_law_right : FnScope nm_law_right ["_law_table_here"] (defScope s_law_right) := ⟨rfl, rfl, rfl, by decide +kernel, rfl, by decide +kernel, by decide +kernel⟩
abbrev s_law : Stmt := topS 18
abbrev nm_law : List Str := ["_law_script", "_law_table_here", "_law_cell", "_law_heights", "_law_depths", "_law_high", "_law_deep", "_law_other", "_law_width", "_law_at", "_law_wide", "_law_handed", "_law_thing", "_law_found", "_law_one", "_law_due"]
theorem sc_law : FnScope nm_law ["_law_script"] (defScope s_law) := ⟨rfl, rfl, rfl, by decide +kernel, rfl, by decide +kernel, by decide +kernel⟩
structure Tx (K : PySem.W.Frag) (mg : Str → Option Value) : Prop where
  len : mg "len" = none
  sum : mg "sum" = none
  all : mg "all" = none
  sorted : mg "sorted" = none
  isinstance : mg "isinstance" = none
  list : mg "list" = none
  set : mg "set" = none
  range : mg "range" = none
  enumerate : mg "enumerate" = none
  zip : mg "zip" = none
  str : mg "str" = none
  int : mg "int" = none
  bool : mg "bool" = none
  d_is_number : Dn K mg "is_number" s_is_number
  d_check_table : Dn K mg "check_table" s_check_table
  d_check_square : Dn K mg "check_square" s_check_square
  d_has : Dn K mg "has" s_has
  d_rows_with : Dn K mg "rows_with" s_rows_with
  d_turned : Dn K mg "turned" s_turned
  d_ahead_of : Dn K mg "ahead_of" s_ahead_of
  d__law_table : Dn K mg "_law_table" s_law_table
  d__law_turned : Dn K mg "_law_turned" s_law_turned
  d__law_numbers : Dn K mg "_law_numbers" s_law_numbers
  d__law_right : Dn K mg "_law_right" s_law_right
  d_law : Dn K mg "law" s_law

end WA

namespace WA
open PySem PySem.Spec PyProof.Rows L2 Evl

section
variable {P : Program} {w : World} {K : PySem.W.Frag} {mg : Str → Option Value} {base : Heap}
/-! ### is_number -/
def sp_is_number (K : PySem.W.Frag) : Sp := spV fun vs _ z => ∃ i : Int, vs = [.int i] ∧ z = .bl true
theorem sv_is_number {H : Hp} {i : Int} : SpV (sp_is_number K) ([.int i] ++ []) H (.bl true) := spV_of fun _ _ => ⟨i, rfl, rfl⟩
theorem cal_is_number (T : Tx K mg) : C8.Cal P w K mg base (0 + 1) "is_number" (sp_is_number K) [] := by
  refine T.d_is_number.cal sc_is_number (fun _ _ _ _ _ _ us hl => match us, hl with | [_], _ => rfl) ?_ ?_
  · rintro vs H Q E ⟨z, ⟨i, rfl, _⟩, _⟩; rfl
  · rintro f cdv A outer s H vs Q E hr ⟨z, ⟨i, rfl, rfl⟩, q⟩
    refine ⟨(tRet (tAndV (tCB (rIsi K) (tCons (tVar 0) (tCons (tC (.ty "int")) tNil))) (tNotV (tCB (rIsi K) (tCons (tVar 0) (tCons (tC (.ty "bool")) tNil)))))), (pss_one (ps_ret (pe_and (pe_callB (id := "isinstance") call_isi (by rfl) T.isinstance (by decide +kernel) (pa_cons (pv 0) (pa_cons (pe_bltn (v := .ty "int") (by rfl) T.int (by decide +kernel) rfl) pa_nil))) (pe_one (pe_not (pe_callB (id := "isinstance") call_isi (by rfl) T.isinstance (by decide +kernel) (pa_cons (pv 0) (pa_cons (pe_bltn (v := .ty "bool") (by rfl) T.bool (by decide +kernel) rfl) pa_nil)))))))), ?_⟩
    exact s_ret (ev_andV (ev_isiInt (ev_var rfl)) fun _ => ev_notV (ev_isiBool (ev_var rfl))) q
/-! ### check_table -/
def sp_check_table (K : PySem.W.Frag) : Sp := spV fun vs H z => ∃ a T w, vs = [.ref a] ∧ At K H a T w ∧ z = .non
theorem sv_check_table {H : Hp} {a : Addr} {T : Tb} {n : Nat} (h : At K H a T n) : SpV (sp_check_table K) ([.ref a] ++ []) H .non := spV_of fun _ e => ⟨a, T, n, rfl, h.mono e, rfl⟩
theorem cal_check_table (T : Tx K mg) : C8.Cal P w K mg base (0 + 1) "check_table" (sp_check_table K) [] := by
  refine T.d_check_table.cal sc_check_table (fun _ _ _ _ _ _ us hl => match us, hl with | [_], _ => rfl) ?_ ?_
  · rintro vs H Q E ⟨z, ⟨a, T, n, rfl, _⟩, _⟩; rfl
  · rintro f cdv A outer s H vs Q E hr ⟨z, ⟨a, Tb, n, rfl, hT, rfl⟩, q⟩
    refine ⟨(tSeq (tIfS (tOr (tNot (tB (tCB (rIsi K) (tCons (tVar 0) (tCons (tC (.ty "list")) tNil))))) (tNot (tB (tCB (rAll K) (tCons (tLc (iList K (tVar 0)) (gName 1) tYes (tCB (rIsi K) (tCons (tVar 1) (tCons (tC (.ty "str")) tNil))) [1]) tNil))))) tNever tNext) (tFor (iList K (tVar 0)) (gName 1) (tIfS (tOr (tTest (tOp rNe (tCB (rLn K) (tCons (tVar 1) tNil)) (tCB (rLn K) (tCons (tOp (rIxL K) (tVar 0) (tC (.int 0))) tNil)))) (tTest (tOp rNe (tM1 rStripC (tVar 1) (tC (.str "x-"))) (tC (.str ""))))) tNever tNext))), (pss_cons (ps_if (PW.pt (pw_or (pt_not (pt_val (pe_callB (id := "isinstance") call_isi (by rfl) T.isinstance (by decide +kernel) (pa_cons (pv 0) (pa_cons (pe_bltn (v := .ty "list") (by rfl) T.list (by decide +kernel) rfl) pa_nil))))) (pw_or1 (pt_not (pt_val (pe_callB (id := "all") (cr_all rfl) (by rfl) T.all (by decide +kernel) (pa_cons (pe_lc (own := [("row", 1)]) rfl sc_check_table.nd (pi_list (pv 0)) (blkOk_by (own := [("row", 1)]) (by kernel_rfl)) (fun _ _ _ _ _ => (pg_name (i := 1) sc_check_table.nd rfl (Or.inl rfl))) (fun _ _ _ _ _ => pts_nil) (fun _ _ _ _ _ => (pe_callB (id := "isinstance") call_isi (by rfl) T.isinstance (by decide +kernel) (pa_cons (pv 1) (pa_cons (pe_bltn (v := .ty "str") (by rfl) T.str (by decide +kernel) rfl) pa_nil))))) pa_nil))))))) (pss_one ps_never) pss_nil) (pss_one (ps_for PassesOwn.never rfl (pi_list (pv 0)) (pg_name (i := 1) sc_check_table.nd rfl (Or.inl rfl)) (pss_one (ps_if (PW.pt (pw_or (pt_cmpR op_ne (pe_callB (id := "len") cl_len (by rfl) T.len (by decide +kernel) (pa_cons (pv 1) pa_nil)) (pe_callB (id := "len") cl_len (by rfl) T.len (by decide +kernel) (pa_cons (pe_ix ix_list (pv 0) pe_int (fun _ _ => rfl)) pa_nil)) (nomark _)) (pw_or1 (pt_cmpR op_ne (pe_stripC (pv 1) pe_str) pe_str (nomark _))))) (pss_one ps_never) pss_nil))))), ?_⟩
    have hl := hT.ln
    have hw := hT.lw
    refine q_when (b := false) (et_is (et_or (et_not (et_B (ev_isiL (evs_var rfl hT.sq)))) fun _ => et_not (et_B (ev_allM (l := Tb) (p := fun _ => true) (els (el_map (g := fun r => V.str (rs r)) (evs_var rfl hT.sq) (by omega) (fun _ => rfl) fun r hr => ev_isiStr (ev_var rfl)))))) (by simp)) (fun hb => nomatch hb) fun _ H1 e1 => ?_
    have h1 := hT.mono e1
    refine s_forLn (ev_var rfl) h1.sq (fun i σ' H' => Ex H1 H' ∧ ∃ y, σ' = [some (.ref a), y]) (fun H2 e2 => ⟨e2, none, rfl⟩) (fun i σ' H' _ p => ex_l p.1 h1.sq) ?_ ?_
    · rintro i x σ' H' hx ⟨e2, y, rfl⟩
      have h2 := h1.mono e2
      obtain ⟨r, hr, rfl⟩ := List.mem_map.mp (List.mem_of_getElem? hx)
      have hlen : r.length = n := hT.rect r hr
      have hne : Tb ≠ [] := List.ne_nil_of_mem hr
      refine s_when (b := false) (et_is (et_or (et_test (ev_op (ev_lenRow (ev_var (v := .str (rs r)) rfl) (by omega)) (ev_len0 h2 (ev_var rfl) hne) (rv_ne rfl))) fun _ => et_test (ev_op (ev_strip (ev_var (v := .str (rs r)) rfl) (by omega)) ev_c (rv_ne rfl))) ?_) (fun hb => nomatch hb) fun _ H3 e3 => ⟨e2.trans e3, _, rfl⟩
      rw [hlen]; simp
    · rintro σ' H' ⟨e2, y, rfl⟩
      exact q H' (e1.trans e2)
/-! ### check_square -/
def sp_check_square (K : PySem.W.Frag) : Sp := spV fun vs H z => ∃ a T, vs = [.ref a] ∧ At K H a T T.length ∧ z = .non
theorem sv_check_square {H : Hp} {a : Addr} {T : Tb} (h : At K H a T T.length) : SpV (sp_check_square K) ([.ref a] ++ []) H .non := spV_of fun _ e => ⟨a, T, rfl, h.mono e, rfl⟩
theorem cal_check_square (T : Tx K mg) : C8.Cal P w K mg base (1 + 1) "check_square" (sp_check_square K) [] := by
  refine T.d_check_square.cal sc_check_square (fun _ _ _ _ _ _ us hl => match us, hl with | [_], _ => rfl) ?_ ?_
  · rintro vs H Q E ⟨z, ⟨a, T, rfl, _⟩, _⟩; rfl
  · rintro f cdv A outer s H vs Q E hr ⟨z, ⟨a, Tb, rfl, hT, rfl⟩, q⟩
    refine ⟨(tSeq (tDrop (tCall (sp_check_table K) [] C8.E0 (tCons (tVar 0) tNil))) (tIfS (tAnd (tTest (tOp (rNeD K) (tVar 0) (tLst tNil))) (tTest (tOp rNe (tCB (rLn K) (tCons (tOp (rIxL K) (tVar 0) (tC (.int 0))) tNil)) (tCB (rLn K) (tCons (tVar 0) tNil))))) tNever tNext)), (pss_cons (ps_expr (C8.pe_c (cal_check_table T) hr (by decide) (by rfl) (pa_cons (pv 0) pa_nil))) (pss_one (ps_if (PW.pt (pw_and (pt_cmpR (op_neD hr.units) (pv 0) (pe_lst pa_nil) (nomark _)) (pw_and1 (pt_cmpR op_ne (pe_callB (id := "len") cl_len (by rfl) T.len (by decide +kernel) (pa_cons (pe_ix ix_list (pv 0) pe_int (fun _ _ => rfl)) pa_nil)) (pe_callB (id := "len") cl_len (by rfl) T.len (by decide +kernel) (pa_cons (pv 0) pa_nil)) (nomark _))))) (pss_one ps_never) pss_nil))), ?_⟩
    refine q_drop (ev_call (ea_cons (ev_var rfl) ea_nil) (sv_check_table hT)) fun H1 e1 => ?_
    have h1 := hT.mono e1
    refine s_when (b := false) (et_is (et_and (et_test (ev_nempty (evs_var rfl h1.sq))) fun hne => et_test (ev_op (ev_len0 h1 (ev_var rfl) (by simpa using hne)) (ev_lenTab h1 (ev_var rfl)) (rv_ne rfl))) (by simp)) (fun hb => nomatch hb) fun _ H2 e2 => q H2 (e1.trans e2)
/-! ### has -/
def sp_has (K : PySem.W.Frag) : Sp := spV fun vs H z => ∃ a T w i j, vs = [.ref a, .int (i : Nat), .int (j : Nat)] ∧ At K H a T w ∧ i < T.length ∧ j < w ∧ z = .bl (gt T i j)
theorem sv_has {H : Hp} {a : Addr} {T : Tb} {n i j : Nat} (h : At K H a T n) (hi : i < T.length) (hj : j < n) : SpV (sp_has K) ([.ref a, .int (i : Nat), .int (j : Nat)] ++ []) H (.bl (gt T i j)) :=
  spV_of fun _ e => ⟨a, T, n, i, j, rfl, h.mono e, hi, hj, rfl⟩
theorem cal_has (T : Tx K mg) : C8.Cal P w K mg base (0 + 1) "has" (sp_has K) [] := by
  refine T.d_has.cal sc_has (fun _ _ _ _ _ _ us hl => match us, hl with | [_, _, _], _ => rfl) ?_ ?_
  · rintro vs H Q E ⟨z, ⟨a, T, n, i, j, rfl, _⟩, _⟩; rfl
  · rintro f cdv A outer s H vs Q E hr ⟨z, ⟨a, Tb, n, i, j, rfl, hT, hi, hj, rfl⟩, q⟩
    refine ⟨(tRet (tOp rEq (tOp rIxS (tOp (rIxL K) (tVar 0) (tVar 1)) (tVar 2)) (tC (.str "x")))), (pss_one (ps_ret (pe_cmpR op_eq (pe_ix ix_str (pe_ix ix_list (pv 0) (pv 1) (fun _ _ => rfl)) (pv 2) (fun _ _ => rfl)) pe_str (nomark _)))), ?_⟩
    exact s_ret (ev_isX (ev_cell hT (ev_var rfl) (ev_var rfl) (ev_var rfl) hi hj)) q
/-! ### rows_with -/
def sp_rows_with (K : PySem.W.Frag) : Sp := spL fun vs H xs => ∃ a T w j, vs = [.ref a, .int (j : Nat)] ∧ At K H a T w ∧ (T ≠ [] → j < w) ∧ xs = nv (colOf T j)
theorem sl_rows_with {H : Hp} {a : Addr} {T : Tb} {n j : Nat} (h : At K H a T n) (hj : T ≠ [] → j < n) : SpL (sp_rows_with K) ([.ref a, .int (j : Nat)] ++ []) H (nv (colOf T j)) :=
  spL_of fun _ e => ⟨a, T, n, j, rfl, h.mono e, hj, rfl⟩
theorem cal_rows_with (T : Tx K mg) : C8.Cal P w K mg base (1 + 1) "rows_with" (sp_rows_with K) [] := by
  refine T.d_rows_with.cal sc_rows_with (fun _ _ _ _ _ _ us hl => match us, hl with | [_, _], _ => rfl) ?_ ?_
  · rintro vs H Q E ⟨z, ⟨a, T, n, j, rfl, _⟩, _⟩; rfl
  · rintro f cdv A outer s H vs Q E hr ⟨z, ⟨a, Tb, n, j, rfl, hT, hj, rfl⟩, q⟩
    refine ⟨(tRet (tLc (iRng1 (tCons (tCB (rLn K) (tCons (tVar 0) tNil)) tNil)) (gName 2) (tB (tCall (sp_has K) [] C8.E0 (tCons (tVar 0) (tCons (tVar 2) (tCons (tVar 1) tNil))))) (tVar 2) [2])), (pss_one (ps_ret (pe_lc (own := [("row", 2)]) rfl sc_rows_with.nd (pi_range1 (by rfl) T.range (pa_cons (pe_callB (id := "len") cl_len (by rfl) T.len (by decide +kernel) (pa_cons (pv 0) pa_nil)) pa_nil)) (blkOk_by (own := [("row", 2)]) (by kernel_rfl)) (fun _ _ _ _ _ => (pg_name (i := 2) sc_rows_with.nd rfl (Or.inl rfl))) (fun _ _ _ _ _ => (pts_one (pt_val (C8.pe_c (cal_has T) hr (by decide) (by rfl) (pa_cons (pv 0) (pa_cons (pv 2) (pa_cons (pv 1) pa_nil))))))) (fun _ _ _ _ _ => (pv 2))))), ?_⟩
    have hl := hT.ln
    refine s_retL (el_filtR (p := fun i => gt Tb i j) (f := fun i : Nat => V.int (i : Nat)) (ev_lenTab hT (ev_var rfl)) (by omega) (fun _ => rfl) (fun i hi => ?_) (fun i hi _ => ev_var rfl)) q
    exact et_B (ev_call (ea_cons (ev_var rfl) (ea_cons (ev_var rfl) (ea_cons (ev_var rfl) ea_nil))) (sv_has hT hi (hj (List.length_pos_iff.mp (by omega)))))
/-! ### turned -/
def sp_turned (K : PySem.W.Frag) : Sp := spL fun vs H xs => ∃ a T w, vs = [.ref a] ∧ At K H a T w ∧ xs = tv (turnT T w)
theorem sl_turned {H : Hp} {a : Addr} {T : Tb} {n : Nat} (h : At K H a T n) : SpL (sp_turned K) ([.ref a] ++ []) H (tv (turnT T n)) := spL_of fun _ e => ⟨a, T, n, rfl, h.mono e, rfl⟩
theorem cal_turned (T : Tx K mg) : C8.Cal P w K mg base (1 + 1) "turned" (sp_turned K) [] := by
  refine T.d_turned.cal sc_turned (fun _ _ _ _ _ _ us hl => match us, hl with | [_], _ => rfl) ?_ ?_
  · rintro vs H Q E ⟨z, ⟨a, T, n, rfl, _⟩, _⟩; rfl
  · rintro f cdv A outer s H vs Q E hr ⟨z, ⟨a, Tb, n, rfl, hT, rfl⟩, q⟩
    refine ⟨(tSeq (tDrop (tCall (sp_check_table K) [] C8.E0 (tCons (tVar 0) tNil))) (tSeq (tIfS (tTest (tOp (rEqD K) (tVar 0) (tLst tNil))) (tRet (tLst tNil)) tNext) (tRet (tLc (iRng1 (tCons (tCB (rLn K) (tCons (tOp (rIxL K) (tVar 0) (tC (.int 0))) tNil)) tNil)) (gName 1) tYes (tM1 (rJoin K) (tC (.str "")) (tLc (iList K (tVar 0)) (gName 2) tYes (tOp rIxS (tVar 2) (tVar 1)) [2])) [1])))), (pss_cons (ps_expr (C8.pe_c (cal_check_table T) hr (by decide) (by rfl) (pa_cons (pv 0) pa_nil))) (pss_cons (ps_if (pt_cmpR (op_eqD hr.units) (pv 0) (pe_lst pa_nil) (nomark _)) (pss_one (ps_ret (pe_lst pa_nil))) pss_nil) (pss_one (ps_ret (pe_lc (own := [("column", 1)]) rfl sc_turned.nd (pi_range1 (by rfl) T.range (pa_cons (pe_callB (id := "len") cl_len (by rfl) T.len (by decide +kernel) (pa_cons (pe_ix ix_list (pv 0) pe_int (fun _ _ => rfl)) pa_nil)) pa_nil)) (blkOk_by (own := [("column", 1)]) (by kernel_rfl)) (fun _ _ _ _ _ => (pg_name (i := 1) sc_turned.nd rfl (Or.inr rfl))) (fun _ _ _ _ _ => pts_nil) (fun _ _ _ _ _ => (pe_joinR pe_str (pe_lc (own := [("row", 2)]) rfl sc_turned.nd (pi_list (pv 0)) (blkOk_by (own := [("row", 2)]) (by kernel_rfl)) (fun _ _ _ _ _ => (pg_name (i := 2) sc_turned.nd rfl (Or.inl rfl))) (fun _ _ _ _ _ => pts_nil) (fun _ _ _ _ _ => (pe_ix ix_str (pv 2) (pv 1) (fun _ _ => rfl))))))))))), ?_⟩
    refine q_drop (ev_call (ea_cons (ev_var rfl) ea_nil) (sv_check_table hT)) fun H1 e1 => ?_
    have h1 := hT.mono e1
    refine q_when (et_test (ev_empty (evs_var rfl h1.sq))) (fun hb H2 e2 => ?_) fun hb H2 e2 => ?_
    · have hT0 : Tb = [] := of_decide_eq_true hb
      subst hT0
      exact s_retL el_nil fun p H3 hp e3 h3 => q p H3 (fresh_back (e1.trans e2) hp) ((e1.trans e2).trans e3) h3
    · have hne : Tb ≠ [] := of_decide_eq_false hb
      have h2 := h1.mono e2
      have e12 := e1.trans e2
      have et : turnT Tb n = turn Tb n := if_neg hne
      rw [et] at q
      refine s_retL (el_turn h2 (ev_len0 h2 (ev_var rfl) hne) (fun _ => rfl) (fun _ _ => rfl) (fun i hi => ev_var rfl) fun i r hi hr => ?_) fun p H3 hp e3 h3 => q p H3 (fresh_back e12 hp) (e12.trans e3) h3
      have hlen := hT.rect r hr
      have := hT.lw
      exact ev_ixSg (ev_var (v := .str (rs r)) rfl) (ev_var rfl) (by omega) (by omega)
/-! ### ahead_of -/
def sp_ahead_of (K : PySem.W.Frag) : Sp := spL fun vs H xs => ∃ a T j, vs = [.ref a, .int (j : Nat)] ∧ At K H a T T.length ∧ j < T.length ∧ xs = nv (colOf T j)
theorem sl_ahead_of {H : Hp} {a : Addr} {T : Tb} {j : Nat} (h : At K H a T T.length) (hj : j < T.length) : SpL (sp_ahead_of K) ([.ref a, .int (j : Nat)] ++ []) H (nv (colOf T j)) :=
  spL_of fun _ e => ⟨a, T, j, rfl, h.mono e, hj, rfl⟩
theorem cal_ahead_of (T : Tx K mg) : C8.Cal P w K mg base (2 + 1) "ahead_of" (sp_ahead_of K) [] := by
  refine T.d_ahead_of.cal sc_ahead_of (fun _ _ _ _ _ _ us hl => match us, hl with | [_, _], _ => rfl) ?_ ?_
  · rintro vs H Q E ⟨z, ⟨a, T, j, rfl, _⟩, _⟩; rfl
  · rintro f cdv A outer s H vs Q E hr ⟨z, ⟨a, Tb, j, rfl, hT, hj, rfl⟩, q⟩
    refine ⟨(tSeq (tDrop (tCall (sp_check_square K) [] C8.E0 (tCons (tVar 0) tNil))) (tSeq (tIfS (tOr (tNot (tB (tCall (sp_is_number K) [] C8.E0 (tCons (tVar 1) tNil)))) (tNot (tTest (tChain rLeI rLtI (tC (.int 0)) (tVar 1) (tCB (rLn K) (tCons (tVar 0) tNil)))))) tNever tNext) (tRet (tCall (sp_rows_with K) [] C8.E0 (tCons (tVar 0) (tCons (tVar 1) tNil)))))), (pss_cons (ps_expr (C8.pe_c (cal_check_square T) hr (by decide) (by rfl) (pa_cons (pv 0) pa_nil))) (pss_cons (ps_if (PW.pt (pw_or (pt_not (pt_val (C8.pe_c (cal_is_number T) hr (by decide) (by rfl) (pa_cons (pv 1) pa_nil)))) (pw_or1 (pt_not (pt_chain op_le op_lt pe_int (pv 1) (pe_callB (id := "len") cl_len (by rfl) T.len (by decide +kernel) (pa_cons (pv 0) pa_nil))))))) (pss_one ps_never) pss_nil) (pss_one (ps_ret (C8.pe_c (cal_rows_with T) hr (by decide) (by rfl) (pa_cons (pv 0) (pa_cons (pv 1) pa_nil))))))), ?_⟩
    refine q_drop (ev_call (ea_cons (ev_var rfl) ea_nil) (sv_check_square hT)) fun H1 e1 => ?_
    have h1 := hT.mono e1
    refine q_when (b := false) (et_is (et_or (et_not (et_B (ev_call (ea_cons (ev_var rfl) ea_nil) sv_is_number))) fun _ => et_not (et_chain ev_c (ev_var rfl) (fun _ => ev_lenTab h1 (ev_var rfl)) rv_I0 fun _ => rv_I0)) (by simp; omega)) (fun hb => nomatch hb) fun _ H2 e2 => ?_
    · have e12 := e1.trans e2
      exact s_retL (el_call (ea_cons (ev_var rfl) (ea_cons (ev_var rfl) ea_nil)) (sl_rows_with (hT.mono e12) fun _ => hj)) fun p H3 hp e3 h3 => q p H3 (fresh_back e12 hp) (e12.trans e3) h3
end

end WA

namespace WA
open PySem PySem.Spec PyProof.Rows L2 Evl

section
variable {P : Program} {w : World} {K : PySem.W.Frag} {mg : Str → Option Value} {base : Heap}

/-! ### _law_table -/
def sp_law_table (K : PySem.W.Frag) : Sp := fun vs H Q _ => ∃ (a : Addr) (ns : List Int), vs = [.ref a] ∧ SqL K H a (ns.map V.int) ∧ ns.length ≤ 63 ∧
  ∀ (T : Tb) p H2, T.length = ns.length → Rect T ns.length → H p = none → Ex H H2 → H2 p = some (.lst (tv T)) → Q (.ref p) H2
theorem q_law_table {σ : L2.St} {H : Hp} {te : TE} {a : Addr} {ns : List Int} {D : Ends} {tz : TS} {i : Nat} (h : Ev te σ H (.ref a)) (hs : SqL K H a (ns.map V.int)) (hz : ns.length ≤ 63)
    (k : ∀ (T : Tb) p H2, T.length = ns.length → Rect T ns.length → H p = none → Ex H H2 → H2 p = some (.lst (tv T)) → tz D (σ.set i (some (.ref p))) H2) : tSeq (tAsg (tCall (sp_law_table K) [] C8.E0 (tCons te tNil)) (gName i)) tz D σ H :=
  h H (Ex.refl H) _ fun H1 e1 => ⟨a, ns, rfl, ex_l e1 hs, hz, fun T p H2 hl hr hp e2 h2 => k T p H2 hl hr (fresh_back e1 hp) (e1.trans e2) h2⟩
theorem cal__law_table (T : Tx K mg) : C8.Cal P w K mg base (0 + 1) "_law_table" (sp_law_table K) [] := by
  refine T.d__law_table.cal sc_law_table (fun _ _ _ _ _ _ us hl => match us, hl with | [_], _ => rfl) ?_ ?_
  · rintro vs H Q E ⟨a, ns, rfl, _⟩; rfl
  · rintro f cdv A outer s H vs Q E hr ⟨a, ns, rfl, hs, hz, q⟩
    refine ⟨(tSeq (tAsg (tTup (tCons (tCB (rSum K) (tCons (tVar 0) tNil)) (tCons (tCB (rLn K) (tCons (tVar 0) tNil)) tNil))) (gTup K 2 (gCons (gName 1) (gCons (gName 2) gNil)))) (tSeq (tIfS (tTest (tOp rEq (tOp rModI (tOp rDivI (tVar 1) (tC (.int 36))) (tC (.int 3))) (tC (.int 1)))) (tRet (tLc (iList K (tVar 0)) (gName 3) tYes (tM1 (rJoin K) (tC (.str "")) (tLc (iRng1 (tCons (tVar 2) tNil)) (gName 4) tYes (tOp rIxS (tC (.str "-x")) (tOp rAndI (tOp rShrI (tVar 3) (tVar 4)) (tC (.int 1)))) [4])) [3])) tNext) (tSeq (tAsg (tLc (iEnum K (tCons (tVar 0) tNil)) (gTup K 2 (gCons (gName 4) (gCons (gName 3) gNil))) tYes (tOp (rIxT K) (tTup (tCons (tOp rModI (tVar 3) (tC (.int 17))) (tCons (tOp rModI (tVar 3) (tC (.int 6))) (tCons (tOp rAddI (tOp rMulI (tOp rModI (tVar 3) (tC (.int 97))) (tC (.int 100))) (tVar 4)) tNil)))) (tOp rModI (tVar 1) (tC (.int 3)))) [4, 3]) (gName 5)) (tSeq (tAsg (tLc (iZip K (tCons (tVar 5) (tCons (tVar 0) tNil))) (gTup K 2 (gCons (gName 6) (gCons (gName 3) gNil))) tYes (tOp rAddI (tVar 6) (tOp (rIxT K) (tTup (tCons (tOp rModI (tOp rDivI (tVar 3) (tC (.int 17))) (tC (.int 6))) (tCons (tC (.int 0)) (tCons (tC (.int 0)) tNil)))) (tOp rModI (tVar 1) (tC (.int 3))))) [6, 3]) (gName 7)) (tSeq (tAsg (tLc (iList K (tVar 7)) (gName 8) tYes (tM1 (rJoin K) (tC (.str "")) (tLc (iList K (tVar 5)) (gName 6) tYes (tIf (tTest (tOp rLtI (tVar 8) (tVar 6))) (tC (.str "x")) (tC (.str "-"))) [6])) [8]) (gName 9)) (tSeq (tFor (iRng1 (tCons (tIf (tTest (tOp rGtI (tVar 2) (tC (.int 0)))) (tOp (rIxT K) (tTup (tCons (tC (.int 0)) (tCons (tC (.int 1)) (tCons (tC (.int 0)) (tCons (tC (.int 2)) tNil))))) (tOp rModI (tOp rDivI (tVar 1) (tC (.int 3))) (tC (.int 4)))) (tC (.int 0))) tNil)) (gName 10) (tSeq (tPar 11 4 (tCons (tOp rModI (tOp rAddI (tOp rDivI (tVar 1) (tC (.int 12))) (tOp rMulI (tC (.int 5)) (tVar 10))) (tVar 2)) (tCons (tOp rModI (tOp rAddI (tOp rDivI (tVar 1) (tC (.int 7))) (tOp rMulI (tC (.int 3)) (tVar 10))) (tVar 2)) tNil))) (tAsg (tOp rCatS (tOp rCatS (tSl rSlS (tOp (rIxL K) (tVar 9) (tVar 11)) tNoPart (tPart (tVar 4))) (tDGet (tDisp [((tC (.str "x")), (tC (.str "-"))), ((tC (.str "-")), (tC (.str "x")))]) (tOp rIxS (tOp (rIxL K) (tVar 9) (tVar 11)) (tVar 4)))) (tSl rSlS (tOp (rIxL K) (tVar 9) (tVar 11)) (tPart (tOp rAddI (tVar 4) (tC (.int 1)))) tNoPart)) (gSub (tVar 9) (tVar 11) rSetL)))) (tRet (tVar 9)))))))), (pss_cons (ps_asg (pe_tup (pa_cons (pe_callB (id := "sum") (cr_sum rfl) (by rfl) T.sum (by decide +kernel) (pa_cons (pv 0) pa_nil)) (pa_cons (pe_callB (id := "len") cl_len (by rfl) T.len (by decide +kernel) (pa_cons (pv 0) pa_nil)) pa_nil))) (pg_tup rfl (pgs_cons (pg_name (i := 1) sc_law_table.nd rfl (Or.inr rfl)) (pgs_cons (pg_name (i := 2) sc_law_table.nd rfl (Or.inr rfl)) pgs_nil)))) (pss_cons (ps_if (pt_cmpR op_eq (pe_op op_mod (pe_op op_fdiv (pv 1) pe_int) pe_int) pe_int (nomark _)) (pss_one (ps_ret (pe_lc (own := [("_law_cell", 3)]) rfl sc_law_table.nd (pi_list (pv 0)) (blkOk_by (own := [("_law_cell", 3)]) (by kernel_rfl)) (fun _ _ _ _ _ => (pg_name (i := 3) sc_law_table.nd rfl (Or.inr rfl))) (fun _ _ _ _ _ => pts_nil) (fun _ _ _ _ _ => (pe_joinR pe_str (pe_lc (own := [("_law_at", 4)]) rfl sc_law_table.nd (pi_range1 (by rfl) T.range (pa_cons (pv 2) pa_nil)) (blkOk_by (own := [("_law_at", 4)]) (by kernel_rfl)) (fun _ _ _ _ _ => (pg_name (i := 4) sc_law_table.nd rfl (Or.inl rfl))) (fun _ _ _ _ _ => pts_nil) (fun _ _ _ _ _ => (pe_ix ix_str pe_str (pe_op op_and (pe_op op_shr (pv 3) (pv 4)) pe_int) (fun _ _ => rfl))))))))) pss_nil) (pss_cons (ps_set (i := 5) sc_law_table.nd rfl (Or.inr rfl) (pe_lc (own := [("_law_at", 4), ("_law_cell", 3)]) rfl sc_law_table.nd (pi_enum (by rfl) T.enumerate (pa_cons (pv 0) pa_nil)) (blkOk_by (own := [("_law_at", 4), ("_law_cell", 3)]) (by kernel_rfl)) (fun _ _ _ _ _ => (pg_tup rfl (pgs_cons (pg_name (i := 4) sc_law_table.nd rfl (Or.inl rfl)) (pgs_cons (pg_name (i := 3) sc_law_table.nd rfl (Or.inl rfl)) pgs_nil)))) (fun _ _ _ _ _ => pts_nil) (fun _ _ _ _ _ => (pe_ix ix_tup (pe_tup (pa_cons (pe_op op_mod (pv 3) pe_int) (pa_cons (pe_op op_mod (pv 3) pe_int) (pa_cons (pe_op op_add (pe_op op_mul (pe_op op_mod (pv 3) pe_int) pe_int) (pv 4)) pa_nil)))) (pe_op op_mod (pv 1) pe_int) (fun _ _ => rfl))))) (pss_cons (ps_setLc (i := 7) (own := [("_law_begin", 6), ("_law_cell", 3)]) rfl sc_law_table.nd rfl rfl (sw_true rfl rfl rfl (by decide +kernel)) (pi_zip (by rfl) T.zip (pa_cons (pv 5) (pa_cons (pv 0) pa_nil))) (blkOk_by (own := [("_law_begin", 6), ("_law_cell", 3)]) (by kernel_rfl)) (fun _ _ _ _ _ => (pg_tup rfl (pgs_cons (pg_name (i := 6) sc_law_table.nd rfl (Or.inl rfl)) (pgs_cons (pg_name (i := 3) sc_law_table.nd rfl (Or.inl rfl)) pgs_nil)))) (fun _ _ _ _ _ => pts_nil) (fun _ _ _ _ _ => (pe_op op_add (pv 6) (pe_ix ix_tup (pe_tup (pa_cons (pe_op op_mod (pe_op op_fdiv (pv 3) pe_int) pe_int) (pa_cons pe_int (pa_cons pe_int pa_nil)))) (pe_op op_mod (pv 1) pe_int) (fun _ _ => rfl))))) (pss_cons (ps_setLc (i := 9) (own := [("_law_end", 8)]) rfl sc_law_table.nd rfl rfl (sw_true rfl rfl rfl (by decide +kernel)) (pi_list (pv 7)) (blkOk_by (own := [("_law_end", 8)]) (by kernel_rfl)) (fun _ _ _ _ _ => (pg_name (i := 8) sc_law_table.nd rfl (Or.inr rfl))) (fun _ _ _ _ _ => pts_nil) (fun _ _ _ _ _ => (pe_joinR pe_str (pe_lc (own := [("_law_begin", 6)]) rfl sc_law_table.nd (pi_list (pv 5)) (blkOk_by (own := [("_law_begin", 6)]) (by kernel_rfl)) (fun _ _ _ _ _ => (pg_name (i := 6) sc_law_table.nd rfl (Or.inl rfl))) (fun _ _ _ _ _ => pts_nil) (fun _ _ _ _ _ => (pe_ifExp (pt_cmpR op_lt (pv 8) (pv 6) (nomark _)) pe_str pe_str)))))) (pss_cons (ps_for PassesOwn.never rfl (pi_range1 (by rfl) T.range (pa_cons (pe_ifExp (pt_cmpR op_gt (pv 2) pe_int (nomark _)) (pe_ix ix_tup (pe_tup (pa_cons pe_int (pa_cons pe_int (pa_cons pe_int (pa_cons pe_int pa_nil))))) (pe_op op_mod (pe_op op_fdiv (pv 1) pe_int) pe_int) (fun _ _ => rfl)) pe_int) pa_nil)) (pg_name (i := 10) sc_law_table.nd rfl (Or.inl rfl)) (pss_cons (ps_par (i := 11) (j := 4) rfl sc_law_table.nd rfl rfl (by decide) rfl rfl (pa_cons (pe_op op_mod (pe_op op_add (pe_op op_fdiv (pv 1) pe_int) (pe_op op_mul pe_int (pv 10))) (pv 2)) (pa_cons (pe_op op_mod (pe_op op_add (pe_op op_fdiv (pv 1) pe_int) (pe_op op_mul pe_int (pv 10))) (pv 2)) pa_nil)) (by rfl)) (pss_one (ps_asg (pe_op op_catS (pe_op op_catS (pe_slice sl_str (pe_ix ix_list (pv 9) (pv 11) (fun _ _ => rfl)) po_none (po_some (pv 4))) (pe_dget (hu_of hr) (pe_disp (pps_cons pe_str pe_str (pps_cons pe_str pe_str pps_nil)) (by rfl) (by rfl) (fun z => by cases z) (by decide)) (pe_ix ix_str (pe_ix ix_list (pv 9) (pv 11) (fun _ _ => rfl)) (pv 4) (fun _ _ => rfl)) (fun _ _ => rfl))) (pe_slice sl_str (pe_ix ix_list (pv 9) (pv 11) (fun _ _ => rfl)) (po_some (pe_op op_add (pv 4) pe_int)) po_none)) (pg_sub (pv 9) (pv 11) set_list))))) (pss_one (ps_ret (pv 9))))))))), ?_⟩
    refine q_pair (ev_sum (evs_var rfl hs)) (ev_lenInts (evs_var rfl hs)) fun H1 e1 => ?_
    have h1 := ex_l e1 hs
    refine q_when (et_test (ev_op (ev_op (ev_op (ev_var (v := .int ns.sum) rfl) ev_c (rv_I ⟨by decide, by decide⟩)) ev_c (rv_I (by decide))) ev_c (rv_eq rfl))) (fun _ H2 e2 => ?_) fun _ H2 e2 => ?_
    · have e12 := e1.trans e2
      have h2 := ex_l e2 h1
      exact s_retL (el_bits (w := ns.length) (evs_var rfl h2) ⟨by omega, by omega⟩ (fun _ => rfl) (fun _ => ev_var rfl) (fun _ _ => rfl) (fun _ _ => ev_var rfl) fun _ _ => ev_var rfl) fun p H3 hp e3 h3 =>
        q _ p H3 (bitsT_len _ _) (bitsT_rect _ _) (fresh_back e12 hp) (e12.trans e3) h3
    have e12 := e1.trans e2
    have h2 := ex_l e12 hs
    have hm : 0 ≤ ns.sum % 3 ∧ ns.sum % 3 < 3 := ⟨by omega, by omega⟩
    refine q_asgL (el_mapE (l := ns) (g := V.int) (f := fun x => V.int (pick3 (ns.sum % 3) (x.2 % 17) (x.2 % 6) (x.2 % 97 * 100 + (x.1 : Nat)))) (evs_var rfl h2) (by omega) (fun _ _ => rfl) fun k x hx =>
      ev_pick3 (ev_op (ev_var rfl) ev_c (rv_I (by decide))) (ev_op (ev_var rfl) ev_c (rv_I (by decide))) (ev_op (ev_op (ev_op (ev_var rfl) ev_c (rv_I (by decide))) ev_c (rv_I (.inr ⟨by decide, by decide⟩))) (ev_var rfl) rv_I0) (ev_op (ev_var (v := .int ns.sum) rfl) ev_c (rv_I (by decide))) hm) fun b H3 hb e3 h3 => ?_
    generalize hB : ((List.range ns.length).zip ns).map (fun x => pick3 (ns.sum % 3) (x.2 % 17) (x.2 % 6) (x.2 % 97 * 100 + (x.1 : Nat))) = B
    have lB : B.length = ns.length := by rw [← hB, List.length_map, List.length_zip, List.length_range]; omega
    have h3' : H3 b = some (.lst (B.map V.int)) := by rw [h3, ← hB, List.map_map]; rfl
    clear h3 hB
    have e13 := e12.trans e3
    have hs3 := ex_l e13 hs
    refine q_asgL (el_mapZ (l := B) (m := ns) (g := V.int) (g' := V.int) (f := fun x => V.int (x.1 + pick3 (ns.sum % 3) (x.2 / 17 % 6) 0 0)) (evs_var rfl (sq_of h3')) (evs_var rfl hs3) (by omega) lB (fun _ _ => rfl) fun x y hx =>
      ev_op (ev_var rfl) (ev_pick3 (ev_op (ev_op (ev_var rfl) ev_c (rv_I ⟨by decide, by decide⟩)) ev_c (rv_I (by decide))) ev_c ev_c (ev_op (ev_var (v := .int ns.sum) rfl) ev_c (rv_I (by decide))) hm) rv_I0) fun c H4 hc e4 h4 => ?_
    generalize hC : (B.zip ns).map (fun x => x.1 + pick3 (ns.sum % 3) (x.2 / 17 % 6) 0 0) = C
    have lC : C.length = ns.length := by rw [← hC, List.length_map, List.length_zip]; omega
    have h4' : H4 c = some (.lst (C.map V.int)) := by rw [h4, ← hC, List.map_map]; rfl
    clear h4 hC
    have h34 := ex_l e4 (sq_of (K := K) h3')
    refine q_asgL (el_signs (l := C) (m := B) (g := V.int) (g' := V.int) (p := fun x y => decide (x < y)) (evs_var rfl (sq_of h4')) ⟨by omega, by omega⟩ (fun _ => rfl) (fun _ _ => evs_var rfl h34) (fun _ _ => rfl) fun x hx y hy =>
      et_test (ev_op (ev_var rfl) (ev_var rfl) rv_I0)) fun p H5 hp e5 h5 => ?_
    have lT : (C.map fun x => B.map fun y => decide (x < y)).length = ns.length := by rw [List.length_map, lC]
    have rT : Rect (C.map fun x => B.map fun y => decide (x < y)) ns.length := lB ▸ rect_signs C B _
    revert h5 lT rT
    generalize (C.map fun x => B.map fun y => decide (x < y)) = T0
    intro h5 lT rT
    have hp4 := fresh_back (e13.trans e4) hp
    have e15 := (e13.trans e4).trans e5
    have hmv : ∃ m : Int, (if decide (0 < (ns.length : Int)) = true then pick4 (ns.sum / 3 % 4) else 0) = m ∧ 0 ≤ m ∧ m ≤ 2 ∧ (0 < m → 0 < ns.length) := by
      refine ⟨_, rfl, ?_⟩
      have := pick4_ok (ns.sum / 3 % 4)
      by_cases h0 : 0 < ns.length
      · rw [if_pos (decide_eq_true (by omega))]; omega
      · rw [if_neg (by rw [decide_eq_true_eq]; omega)]; omega
    obtain ⟨m, hmE, m0, m2, mn⟩ := hmv
    refine q_forR1 (n := m) (ea_cons (ev_if (et_test (ev_op (ev_var (v := .int (ns.length : Nat)) rfl) ev_c rv_I0)) (fun hb => ev_is (ev_pick4 (m := ns.sum / 3 % 4) (ev_op (ev_op (ev_var (v := .int ns.sum) rfl) ev_c (rv_I ⟨by decide, by decide⟩)) ev_c (rv_I (by decide))) ⟨by omega, by omega⟩) (by rw [← hmE, if_pos hb])) (fun hb => ev_is ev_c (by rw [← hmE, if_neg (by rw [hb]; decide)]))) ea_nil) ⟨by omega, by omega⟩
      (fun _ σ' H' => ∃ T y4 y10 y11, T.length = ns.length ∧ Rect T ns.length ∧ Ex H H' ∧ H' p = some (.lst (tv T)) ∧
        σ' = [some (.ref a), some (.int ns.sum), some (.int (ns.length : Nat)), none, y4, some (.ref b), none, some (.ref c), none, some (.ref p), y10, y11])
      (fun H6 e6 => ⟨T0, none, none, none, lT, rT, e15.trans e6, e6 p _ h5, rfl⟩) ?_ ?_
    · rintro i σ' H' hi ⟨T, y4, y10, y11, hl, hr', ex, hp', rfl⟩
      have hn : 0 < ns.length := mn (by omega)
      obtain ⟨r1, hr1, lr1⟩ := md_ok (a := ns.sum / 12 + 5 * (i : Int)) hn
      obtain ⟨r2, hr2, lr2⟩ := md_ok (a := ns.sum / 7 + 3 * (i : Int)) hn
      have hn' : (0 : Int) < ((ns.length : Nat) : Int) := by omega
      refine q_par (x := .int (r1 : Nat)) (y := .int (r2 : Nat))
        (ev_is (ev_op (ev_op (ev_op (ev_var (v := .int ns.sum) rfl) ev_c (rv_I ⟨by decide, by decide⟩)) (ev_op ev_c (ev_var rfl) (rv_I (.inl ⟨by decide, by decide⟩))) rv_I0) (ev_var (v := .int (ns.length : Nat)) rfl) (rv_I hn')) (by rw [hr1]))
        (ev_is (ev_op (ev_op (ev_op (ev_var (v := .int ns.sum) rfl) ev_c (rv_I ⟨by decide, by decide⟩)) (ev_op ev_c (ev_var rfl) (rv_I (.inl ⟨by decide, by decide⟩))) rv_I0) (ev_var (v := .int (ns.length : Nat)) rfl) (rv_I hn')) (by rw [hr2])) fun H6 e6 => ?_
      have hp6 := e6 p _ hp'
      have hA : At K H6 p T ns.length := ⟨sq_of hp6, hr', by omega, by omega⟩
      have hr1T : r1 < T.length := by omega
      have hrow := hA.row hr1T
      have row : ∀ {σ : L2.St}, σ[9]? = some (some (.ref p)) → σ[11]? = some (some (.int (r1 : Nat))) → Ev (tOp (rIxL K) (tVar 9) (tVar 11)) σ H6 (.str (rs (T.getD r1 []))) := fun h9 h11 => ev_rowI (v := .non) (evs_var h9 hA.sq) hr1T (ev_var h11)
      refine s_setL (j := r1) (v := .str (rs (flip (T.getD r1 []) r2))) hp6 ?_ (ev_var rfl) (ev_var rfl) (by rw [tv_len]; omega) fun H7 e7 => ?_
      · show Ev _ _ H6 (.str (rs ((T.getD r1 []).take r2 ++ [!(T.getD r1 []).getD r2 false] ++ (T.getD r1 []).drop (r2 + 1))))
        exact ev_catS (ev_catS (ev_cutLo (row rfl rfl) (ev_var rfl) (by omega) (by omega)) (ev_other (ev_ixSg (row rfl rfl) (ev_var rfl) (by omega) (by omega))) ⟨by rw [List.length_take]; omega, by simp⟩)
          (ev_cutHi (row rfl rfl) (ev_is (ev_op (ev_var (v := .int (r2 : Nat)) rfl) ev_c rv_I0) (by rw [Int.natCast_add]; rfl)) (by omega) (by omega)) ⟨by rw [List.length_append, List.length_take]; simp; omega, by rw [List.length_drop]; omega⟩
      · refine ⟨T.set r1 (flip (T.getD r1 []) r2), _, _, _, by rw [List.length_set, hl], rect_set hr' (by rw [flip_len (by omega)]; exact hrow), Ex.mut ((ex.trans e6).trans e7) hp4, ?_, rfl⟩
        rw [tv_set]; exact upd_same
    · rintro σ' H' ⟨T, y4, y10, y11, hl, hr', ex, hp', rfl⟩
      exact s_ret (ev_var rfl) fun H6 e6 => q T p H6 hl hr' hp4 (ex.trans e6) (e6 p _ hp')

end

end WA

namespace WA
open PySem PySem.Spec PyProof.Rows L2 Evl

section
variable {P : Program} {w : World} {K : PySem.W.Frag} {mg : Str → Option Value} {base : Heap}

/-! ### _law_turned -/
def sp_law_turned (K : PySem.W.Frag) : Sp := spL fun vs H xs => ∃ a T w, vs = [.ref a] ∧ At K H a T w ∧ xs = tv (turnT T w)
theorem sl_law_turned {H : Hp} {a : Addr} {T : Tb} {n : Nat} (h : At K H a T n) : SpL (sp_law_turned K) ([.ref a] ++ []) H (tv (turnT T n)) := spL_of fun _ e => ⟨a, T, n, rfl, h.mono e, rfl⟩
theorem cal__law_turned (T : Tx K mg) : C8.Cal P w K mg base (0 + 1) "_law_turned" (sp_law_turned K) [] := by
  refine T.d__law_turned.cal sc_law_turned (fun _ _ _ _ _ _ us hl => match us, hl with | [_], _ => rfl) ?_ ?_
  · rintro vs H Q E ⟨z, ⟨a, T, n, rfl, _⟩, _⟩; rfl
  · rintro f cdv A outer s H vs Q E hr ⟨z, ⟨a, Tb, n, rfl, hT, rfl⟩, q⟩
    refine ⟨(tSeq (tIfS (tTest (tOp (rEqD K) (tVar 0) (tLst tNil))) (tRet (tLst tNil)) tNext) (tRet (tLc (iRng1 (tCons (tCB (rLn K) (tCons (tOp (rIxL K) (tVar 0) (tC (.int 0))) tNil)) tNil)) (gName 1) tYes (tM1 (rJoin K) (tC (.str "")) (tLc (iList K (tVar 0)) (gName 2) tYes (tOp rIxS (tVar 2) (tVar 1)) [2])) [1]))), (pss_cons (ps_if (pt_cmpR (op_eqD hr.units) (pv 0) (pe_lst pa_nil) (nomark _)) (pss_one (ps_ret (pe_lst pa_nil))) pss_nil) (pss_one (ps_ret (pe_lc (own := [("_law_at", 1)]) rfl sc_law_turned.nd (pi_range1 (by rfl) T.range (pa_cons (pe_callB (id := "len") cl_len (by rfl) T.len (by decide +kernel) (pa_cons (pe_ix ix_list (pv 0) pe_int (fun _ _ => rfl)) pa_nil)) pa_nil)) (blkOk_by (own := [("_law_at", 1)]) (by kernel_rfl)) (fun _ _ _ _ _ => (pg_name (i := 1) sc_law_turned.nd rfl (Or.inr rfl))) (fun _ _ _ _ _ => pts_nil) (fun _ _ _ _ _ => (pe_joinR pe_str (pe_lc (own := [("_law_row", 2)]) rfl sc_law_turned.nd (pi_list (pv 0)) (blkOk_by (own := [("_law_row", 2)]) (by kernel_rfl)) (fun _ _ _ _ _ => (pg_name (i := 2) sc_law_turned.nd rfl (Or.inl rfl))) (fun _ _ _ _ _ => pts_nil) (fun _ _ _ _ _ => (pe_ix ix_str (pv 2) (pv 1) (fun _ _ => rfl)))))))))), ?_⟩
    refine q_when (et_test (ev_empty (evs_var rfl hT.sq))) (fun hb H2 e2 => ?_) fun hb H2 e2 => ?_
    · have hT0 : Tb = [] := of_decide_eq_true hb
      subst hT0
      exact s_retL el_nil fun p H3 hp e3 h3 => q p H3 (fresh_back e2 hp) (e2.trans e3) h3
    · have hne : Tb ≠ [] := of_decide_eq_false hb
      have h2 := hT.mono e2
      have et : turnT Tb n = turn Tb n := if_neg hne
      rw [et] at q
      refine s_retL (el_turn h2 (ev_len0 h2 (ev_var rfl) hne) (fun _ => rfl) (fun _ _ => rfl) (fun i hi => ev_var rfl) fun i r hi hr => ?_) fun p H3 hp e3 h3 => q p H3 (fresh_back e2 hp) (e2.trans e3) h3
      have hlen := hT.rect r hr
      have := hT.lw
      exact ev_ixSg (ev_var (v := .str (rs r)) rfl) (ev_var rfl) (by omega) (by omega)
/-! ### _law_numbers -/
def sp_law_numbers (K : PySem.W.Frag) : Sp := spV fun vs H z => ∃ (a : Addr) (ns : List Int) (m : Int), vs = [.ref a, .int m] ∧ SqL K H a (ns.map V.int) ∧ ns.length ≤ 1000 ∧ z = .bl (decide ((ns.length : Int) = m))
theorem sv_law_numbers {H : Hp} {a : Addr} {ns : List Int} {m : Int} (h : SqL K H a (ns.map V.int)) (hz : ns.length ≤ 1000) : SpV (sp_law_numbers K) ([.ref a, .int m] ++ []) H (.bl (decide ((ns.length : Int) = m))) :=
  spV_of fun _ e => ⟨a, ns, m, rfl, ex_l e h, hz, rfl⟩
theorem cal__law_numbers (T : Tx K mg) : C8.Cal P w K mg base (0 + 1) "_law_numbers" (sp_law_numbers K) [] := by
  refine T.d__law_numbers.cal sc_law_numbers (fun _ _ _ _ _ _ us hl => match us, hl with | [_, _], _ => rfl) ?_ ?_
  · rintro vs H Q E ⟨z, ⟨a, ns, m, rfl, _⟩, _⟩; rfl
  · rintro f cdv A outer s H vs Q E hr ⟨z, ⟨a, ns, m, rfl, hs, hz, rfl⟩, q⟩
    refine ⟨(tSeq (tIfS (tOr (tNot (tB (tCB (rIsi K) (tCons (tVar 0) (tCons (tC (.ty "list")) tNil))))) (tTest (tOp rNe (tCB (rLn K) (tCons (tVar 0) tNil)) (tVar 1)))) (tRet (tC (.bl false))) tNext) (tRet (tCB (rAll K) (tCons (tLc (iList K (tVar 0)) (gName 2) tYes (tAndV (tCB (rIsi K) (tCons (tVar 2) (tCons (tC (.ty "int")) tNil))) (tNotV (tCB (rIsi K) (tCons (tVar 2) (tCons (tC (.ty "bool")) tNil))))) [2]) tNil)))), (pss_cons (ps_if (PW.pt (pw_or (pt_not (pt_val (pe_callB (id := "isinstance") call_isi (by rfl) T.isinstance (by decide +kernel) (pa_cons (pv 0) (pa_cons (pe_bltn (v := .ty "list") (by rfl) T.list (by decide +kernel) rfl) pa_nil))))) (pw_or1 (pt_cmpR op_ne (pe_callB (id := "len") cl_len (by rfl) T.len (by decide +kernel) (pa_cons (pv 0) pa_nil)) (pv 1) (nomark _))))) (pss_one (ps_ret pe_bl)) pss_nil) (pss_one (ps_ret (pe_callB (id := "all") (cr_all rfl) (by rfl) T.all (by decide +kernel) (pa_cons (pe_lc (own := [("_law_one", 2)]) rfl sc_law_numbers.nd (pi_list (pv 0)) (blkOk_by (own := [("_law_one", 2)]) (by kernel_rfl)) (fun _ _ _ _ _ => (pg_name (i := 2) sc_law_numbers.nd rfl (Or.inl rfl))) (fun _ _ _ _ _ => pts_nil) (fun _ _ _ _ _ => (pe_and (pe_callB (id := "isinstance") call_isi (by rfl) T.isinstance (by decide +kernel) (pa_cons (pv 2) (pa_cons (pe_bltn (v := .ty "int") (by rfl) T.int (by decide +kernel) rfl) pa_nil))) (pe_one (pe_not (pe_callB (id := "isinstance") call_isi (by rfl) T.isinstance (by decide +kernel) (pa_cons (pv 2) (pa_cons (pe_bltn (v := .ty "bool") (by rfl) T.bool (by decide +kernel) rfl) pa_nil)))))))) pa_nil))))), ?_⟩
    refine q_when (b := !decide ((ns.length : Int) = m)) (et_is (et_or (et_not (et_B (ev_isiL (evs_var rfl hs)))) fun _ => et_test (ev_op (ev_lenInts (evs_var rfl hs)) (ev_var rfl) (rv_ne rfl))) (by simp)) (fun hb H1 e1 => ?_) fun hb H1 e1 => ?_
    · have e : decide ((ns.length : Int) = m) = false := by simpa using hb
      rw [e] at q
      exact s_ret ev_c fun H2 e2 => q H2 (e1.trans e2)
    · have e : decide ((ns.length : Int) = m) = true := by simpa using hb
      rw [e] at q
      refine s_ret (ev_is (ev_allM (l := ns) (p := fun _ => true) (els (el_map (g := V.int) (evs_var rfl (ex_l e1 hs)) (by omega) (fun _ => rfl) fun c hc => ?_))) (by simp)) fun H2 e2 => q H2 (e1.trans e2)
      exact ev_andV (ev_isiInt (ev_var rfl)) fun _ => ev_notV (ev_isiBool (ev_var rfl))

end

end WA

namespace WA
open PySem PySem.Spec PyProof.Rows L2 Evl

section
variable {P : Program} {w : World} {K : PySem.W.Frag} {mg : Str → Option Value} {base : Heap}

/-! ### _law_right -/
def sp_law_right (K : PySem.W.Frag) : Sp := spV fun vs H z => ∃ a T w, vs = [.ref a] ∧ At K H a T w ∧ z = .bl true
theorem sv_law_right {H : Hp} {a : Addr} {T : Tb} {n : Nat} (h : At K H a T n) : SpV (sp_law_right K) ([.ref a] ++ []) H (.bl true) := spV_of fun _ e => ⟨a, T, n, rfl, h.mono e, rfl⟩
theorem cal__law_right (T : Tx K mg) : C8.Cal P w K mg base (2 + 1) "_law_right" (sp_law_right K) [] := by
  refine T.d__law_right.cal sc_law_right (fun _ _ _ _ _ _ us hl => match us, hl with | [_], _ => rfl) ?_ ?_
  · rintro vs H Q E ⟨z, ⟨a, T, n, rfl, _⟩, _⟩; rfl
  · rintro f cdv A outer s H vs Q E hr ⟨z, ⟨a, Tb, n, rfl, hT, rfl⟩, q⟩
    refine ⟨(tSeq (tAsg (tCB (rLs K) (tCons (tVar 0) tNil)) (gName 1)) (tSeq (tAsg (tCall (sp_turned K) [] C8.E0 (tCons (tVar 1) tNil)) (gName 2)) (tSeq (tIfS (tOr (tNot (tB (tCB (rIsi K) (tCons (tVar 2) (tCons (tC (.ty "list")) tNil))))) (tOr (tTest (tOp (rNeD K) (tVar 2) (tCall (sp_law_turned K) [] C8.E0 (tCons (tVar 0) tNil)))) (tTest (tOp (rNeD K) (tVar 1) (tVar 0))))) (tRet (tC (.bl false))) tNext) (tSeq (tIfS (tOr (tNot (tB (tCB (rAll K) (tCons (tLc (iList K (tVar 2)) (gName 3) tYes (tCB (rIsi K) (tCons (tVar 3) (tCons (tC (.ty "str")) tNil))) [3]) tNil)))) (tAnd (tTest (tOp (rNeD K) (tVar 0) (tLst tNil))) (tAnd (tTest (tOp rNe (tOp (rIxL K) (tVar 0) (tC (.int 0))) (tC (.str "")))) (tTest (tOp (rNeD K) (tCall (sp_turned K) [] C8.E0 (tCons (tVar 2) tNil)) (tVar 0)))))) (tRet (tC (.bl false))) tNext) (tSeq (tDrop (tBM K "list" rAppend (tVar 2) (tCons (tC (.str "")) tNil))) (tRet (tOp (rEqD K) (tCall (sp_turned K) [] C8.E0 (tCons (tVar 1) tNil)) (tCall (sp_law_turned K) [] C8.E0 (tCons (tVar 0) tNil))))))))), (pss_cons (ps_set (i := 1) sc_law_right.nd rfl (Or.inl rfl) (pe_callTy (T := "list") cl_list (by rfl) T.list (by decide +kernel) (pa_cons (pv 0) pa_nil))) (pss_cons (ps_set (i := 2) sc_law_right.nd rfl (Or.inl rfl) (C8.pe_c (cal_turned T) hr (by decide) (by rfl) (pa_cons (pv 1) pa_nil))) (pss_cons (ps_if (PW.pt (pw_or (pt_not (pt_val (pe_callB (id := "isinstance") call_isi (by rfl) T.isinstance (by decide +kernel) (pa_cons (pv 2) (pa_cons (pe_bltn (v := .ty "list") (by rfl) T.list (by decide +kernel) rfl) pa_nil))))) (pw_or (pt_cmpR (op_neD hr.units) (pv 2) (C8.pe_c (cal__law_turned T) hr (by decide) (by rfl) (pa_cons (pv 0) pa_nil)) (nomark _)) (pw_or1 (pt_cmpR (op_neD hr.units) (pv 1) (pv 0) (nomark _)))))) (pss_one (ps_ret pe_bl)) pss_nil) (pss_cons (ps_if (PW.pt (pw_or (pt_not (pt_val (pe_callB (id := "all") (cr_all rfl) (by rfl) T.all (by decide +kernel) (pa_cons (pe_lc (own := [("_law_row", 3)]) rfl sc_law_right.nd (pi_list (pv 2)) (blkOk_by (own := [("_law_row", 3)]) (by kernel_rfl)) (fun _ _ _ _ _ => (pg_name (i := 3) sc_law_right.nd rfl (Or.inl rfl))) (fun _ _ _ _ _ => pts_nil) (fun _ _ _ _ _ => (pe_callB (id := "isinstance") call_isi (by rfl) T.isinstance (by decide +kernel) (pa_cons (pv 3) (pa_cons (pe_bltn (v := .ty "str") (by rfl) T.str (by decide +kernel) rfl) pa_nil))))) pa_nil)))) (pw_or1 (PW.pt (pw_and (pt_cmpR (op_neD hr.units) (pv 0) (pe_lst pa_nil) (nomark _)) (pw_and (pt_cmpR op_ne (pe_ix ix_list (pv 0) pe_int (fun _ _ => rfl)) pe_str (nomark _)) (pw_and1 (pt_cmpR (op_neD hr.units) (C8.pe_c (cal_turned T) hr (by decide) (by rfl) (pa_cons (pv 2) pa_nil)) (pv 0) (nomark _))))))))) (pss_one (ps_ret pe_bl)) pss_nil) (pss_cons (ps_expr (pe_bm PySem.F.plainAttrs_list PySem.F.slot_list_append PySem.F.type_list_append mt_append (pv 2) (pa_cons pe_str pa_nil))) (pss_one (ps_ret (pe_cmpR (op_eqD hr.units) (C8.pe_c (cal_turned T) hr (by decide) (by rfl) (pa_cons (pv 1) pa_nil)) (C8.pe_c (cal__law_turned T) hr (by decide) (by rfl) (pa_cons (pv 0) pa_nil)) (nomark _))))))))), ?_⟩
    refine q_asgL (el_copy (evs_var rfl hT.sq)) fun b H1 _ e1 hb => ?_
    have hT1 := hT.mono e1
    have hB1 : At K H1 b Tb n := ⟨sq_of hb, hT.rect, hT.ln, hT.lw⟩
    refine q_asgL (el_call (ea_cons (ev_var rfl) ea_nil) (sl_turned hB1)) fun c H2 fc e2 hc => ?_
    have hT2 := hT1.mono e2
    have hB2 := hB1.mono e2
    have hC2 := hT.turned (sq_of (K := K) hc)
    refine q_when (b := false) (et_is (et_or (et_not (et_B (ev_isiL (evs_var rfl hC2.sq)))) fun _ => et_or (et_test (ev_neTab (evs_var rfl hC2.sq) (els (el_call (ea_cons (ev_var rfl) ea_nil) (sl_law_turned hT2))))) fun _ => et_test (ev_neTab (evs_var rfl hB2.sq) (evs_var rfl hT2.sq))) (by simp)) (fun hb => nomatch hb) fun _ H3 e3 => ?_
    have hT3 := hT2.mono e3
    have hB3 := hB2.mono e3
    have hC3 := hC2.mono e3
    have hcl := hC3.ln
    refine q_when (b := false) (et_is (et_or (et_not (et_B (ev_allM (l := turnT Tb n) (p := fun _ => true) (els (el_map (g := fun r => V.str (rs r)) (evs_var rfl hC3.sq) (by omega) (fun _ => rfl) fun r hr => ev_isiStr (ev_var rfl))))))
      (fun _ => et_and (et_test (ev_nempty (evs_var rfl hT3.sq))) fun hne => et_and (b := false) (et_test (ev_op (ev_rowI (v := .non) (i := 0) (evs_var rfl hT3.sq) (List.length_pos_iff.mpr (by simpa using hne)) ev_c) ev_c (rv_ne rfl))) fun hw => et_is (et_test (ev_neTab (els (el_call (ea_cons (ev_var rfl) ea_nil) (sl_turned hC3))) (evs_var rfl hT3.sq))) ?_)) (by simp)) (fun hb => nomatch hb) fun _ H4 e4 => ?_
    · have hn : n ≠ 0 := fun z => by
        have hne' : Tb ≠ [] := by simpa using hne
        have hl := hT.row (List.length_pos_iff.mpr hne')
        rw [z] at hl
        have e := List.length_eq_zero_iff.mp hl
        rw [e] at hw
        exact absurd hw (by decide +kernel)
      rw [turnT_turnT hT.rect hn]; simp
    have hc4 := e4 c _ (e3 c _ hc)
    refine q_app hc4 (ev_var rfl) ev_c (by rw [tv_len]; omega) fun H5 e5 => ?_
    have e45 : Ex H1 (upd H5 c (.lst (tv (turnT Tb n) ++ [.str ""]))) := Ex.mut (((e2.trans e3).trans e4).trans e5) fc
    exact s_ret (ev_is (ev_eqTab (els (el_call (ea_cons (ev_var rfl) ea_nil) (sl_turned (hB1.mono e45)))) (els (el_call (ea_cons (ev_var rfl) ea_nil) (sl_law_turned (hT1.mono e45))))) (by simp)) fun H6 e6 => q H6 (e1.trans (e45.trans e6))
/-! ### the law -/
theorem step2_le : ∀ n, n < 64 → stepLen none none (some 2) n ≤ 64 ∧ stepLen (some 1) none (some 2) n ≤ 64 := by decide +kernel
theorem pick2_len {ns : List Int} (h : ns.length ≤ 63) : (pick ns none none (some 2)).length ≤ 64 ∧ (pick ns (some 1) none (some 2)).length ≤ 64 :=
  ⟨Nat.le_trans (pick_len _ _ _ _) (step2_le _ (by omega)).1, Nat.le_trans (pick_len _ _ _ _) (step2_le _ (by omega)).2⟩
theorem map_int (f : Int → Int) (l : List Int) : (l.map fun c => V.int (f c)) = (l.map f).map V.int := by rw [List.map_map]; rfl
theorem md_eq {x : Int} {i : Nat} {y : V} (h : y = .int (i : Nat)) (e : x = (i : Nat)) : V.int x = y := by rw [h, e]
theorem cutV1 (T : Tb) : cutV (tv T) none (some 1) = tv (T.take 1) := by
  unfold cutV
  rw [HT.sIx_none, show (some (1 : Int)) = some ((1 : Nat) : Int) from rfl, HT.sIx_nat, tv_len, List.drop_zero, Nat.sub_zero]
  unfold tv
  rw [← List.map_take]
  congr 1
  cases T with
  | nil => rfl
  | cons r T => rw [List.length_cons, Nat.min_eq_left (by omega)]
theorem rect_take {T : Tb} {n k : Nat} (h : Rect T n) : Rect (T.take k) n := fun r hr => h r (List.mem_of_mem_take hr)
theorem tv_blank2 : [V.str "", V.str ""] = tv [[], []] := by decide +kernel
def sp_law (K : PySem.W.Frag) : Sp := fun vs H Q _ => ∃ (a : Addr) (ns : List Int), vs = [.ref a] ∧ SqL K H a (ns.map V.int) ∧ ns.length ≤ 63 ∧ ∀ H', Q (.bl true) H'
theorem ok_law (T : Tx K mg) {f : Addr} {fd : FuncData} (F : FunD K "law" "law" (defArgs s_law) (defBody s_law) (defScope s_law) [] [] f fd) : FnOk P w K mg base C8.CX0 (3 + 1) f fd ["_law_script"] (sp_law K) := by
  refine fn_ok F sc_law ?_ ?_
  · rintro vs H Q E ⟨a, ns, rfl, _⟩; rfl
  · rintro f cdv A outer s H vs Q E hr ⟨a, ns, rfl, hs, hz, q⟩
    refine ⟨(tSeq (tAsg (tCall (sp_law_table K) [] C8.E0 (tCons (tVar 0) tNil)) (gName 1)) (tSeq (tAsg (tTup (tCons (tLc (iList K (tSl3 K (tVar 0) tNoPart tNoPart (tPart (tC (.int 2))))) (gName 2) tYes (tOp rModI (tVar 2) (tC (.int 7))) [2]) (tCons (tLc (iList K (tSl3 K (tVar 0) (tPart (tC (.int 1))) tNoPart (tPart (tC (.int 2))))) (gName 2) tYes (tOp rModI (tVar 2) (tC (.int 7))) [2]) tNil))) (gTup K 2 (gCons (gName 3) (gCons (gName 4) gNil)))) (tSeq (tAsg (tLc (iList K (tVar 3)) (gName 5) tYes (tM1 (rJoin K) (tC (.str "")) (tLc (iList K (tVar 4)) (gName 6) tYes (tIf (tTest (tOp rGtI (tVar 5) (tVar 6))) (tC (.str "x")) (tC (.str "-"))) [6])) [5]) (gName 7)) (tSeq (tAsg (tOp rModI (tOp rDivI (tCB (rSum K) (tCons (tVar 0) tNil)) (tC (.int 5))) (tOp rAddI (tCB (rLn K) (tCons (tVar 0) tNil)) (tC (.int 2)))) (gName 8)) (tSeq (tAsg (tLc (iList K (tVar 0)) (gName 2) tYes (tM1 (rJoin K) (tC (.str "")) (tLc (iRng1 (tCons (tVar 8) tNil)) (gName 9) tYes (tOp rIxS (tC (.str "-x")) (tOp rAndI (tOp rShrI (tVar 2) (tVar 9)) (tC (.int 1)))) [9])) [2]) (gName 10)) (tSeq (tIfS (tOr (tNot (tB (tCall (sp_law_right K) [] C8.E0 (tCons (tVar 10) tNil)))) (tNot (tB (tCall (sp_law_right K) [] C8.E0 (tCons (tCall (sp_law_turned K) [] C8.E0 (tCons (tVar 10) tNil)) tNil))))) (tRet (tC (.bl false))) tNext) (tSeq (tIfS (tOr (tNot (tB (tCall (sp_law_right K) [] C8.E0 (tCons (tVar 1) tNil)))) (tOr (tNot (tB (tCall (sp_law_right K) [] C8.E0 (tCons (tVar 7) tNil)))) (tOr (tNot (tB (tCall (sp_law_right K) [] C8.E0 (tCons (tSl (rSlL K) (tVar 7) tNoPart (tPart (tC (.int 1)))) tNil)))) (tNot (tB (tCall (sp_law_right K) [] C8.E0 (tCons (tLst (tCons (tC (.str "")) (tCons (tC (.str "")) tNil))) tNil))))))) (tRet (tC (.bl false))) tNext) (tSeq (tAsg (tCB (rLs K) (tCons (tVar 1) tNil)) (gName 11)) (tSeq (tFor (iList K (tIf (tTest (tOp (rNeD K) (tVar 1) (tLst tNil))) (tCB (rSortedSet w) (tCons (tCB (rSetI K w) (tCons (tOp rCat (tLstRg3 (tRg3 (tC (.int 0)) (tCB (rLn K) (tCons (tVar 1) tNil)) (tC (.int 3)))) (tLst (tCons (tOp rSubI (tCB (rLn K) (tCons (tVar 1) tNil)) (tC (.int 1))) tNil))) tNil)) tNil)) (tLst tNil))) (gName 12) (tSeq (tAsg (tCall (sp_ahead_of K) [] C8.E0 (tCons (tVar 11) (tCons (tVar 12) tNil))) (gName 13)) (tSeq (tAsg (tLc (iRng1 (tCons (tCB (rLn K) (tCons (tVar 1) tNil)) tNil)) (gName 14) (tTest (tOp rEq (tOp rIxS (tOp (rIxL K) (tVar 1) (tVar 14)) (tVar 12)) (tC (.str "x")))) (tVar 14) [14]) (gName 15)) (tSeq (tIfS (tOr (tNot (tB (tCall (sp_law_numbers K) [] C8.E0 (tCons (tVar 13) (tCons (tCB (rLn K) (tCons (tVar 15) tNil)) tNil))))) (tOr (tTest (tOp (rNeD K) (tVar 13) (tVar 15))) (tTest (tOp (rNeD K) (tVar 11) (tVar 1))))) (tRet (tC (.bl false))) tNext) (tSeq (tDrop (tBM K "list" rAppend (tVar 13) (tCons (tC (.int 0)) tNil))) (tIfS (tTest (tOp (rNeD K) (tCall (sp_ahead_of K) [] C8.E0 (tCons (tVar 11) (tCons (tVar 12) tNil))) (tVar 15))) (tRet (tC (.bl false))) tNext)))))) (tRet (tOp (rEqD K) (tCall (sp_turned K) [] C8.E0 (tCons (tLst tNil) tNil)) (tLst tNil)))))))))))), (pss_cons (ps_set (i := 1) sc_law.nd rfl (Or.inr rfl) (C8.pe_c (cal__law_table T) hr (by decide) (by rfl) (pa_cons (pv 0) pa_nil))) (pss_cons (ps_asg (pe_tup (pa_cons (pe_lc (own := [("_law_cell", 2)]) rfl sc_law.nd (pi_list (pe_slice3 (pv 0) po_none po_none (po_some pe_int))) (blkOk_by (own := [("_law_cell", 2)]) (by kernel_rfl)) (fun _ _ _ _ _ => (pg_name (i := 2) sc_law.nd rfl (Or.inl rfl))) (fun _ _ _ _ _ => pts_nil) (fun _ _ _ _ _ => (pe_op op_mod (pv 2) pe_int))) (pa_cons (pe_lc (own := [("_law_cell", 2)]) rfl sc_law.nd (pi_list (pe_slice3 (pv 0) (po_some pe_int) po_none (po_some pe_int))) (blkOk_by (own := [("_law_cell", 2)]) (by kernel_rfl)) (fun _ _ _ _ _ => (pg_name (i := 2) sc_law.nd rfl (Or.inl rfl))) (fun _ _ _ _ _ => pts_nil) (fun _ _ _ _ _ => (pe_op op_mod (pv 2) pe_int))) pa_nil))) (pg_tup rfl (pgs_cons (pg_name (i := 3) sc_law.nd rfl (Or.inl rfl)) (pgs_cons (pg_name (i := 4) sc_law.nd rfl (Or.inr rfl)) pgs_nil)))) (pss_cons (ps_setLc (i := 7) (own := [("_law_high", 5)]) rfl sc_law.nd rfl rfl (sw_true rfl rfl rfl (by decide +kernel)) (pi_list (pv 3)) (blkOk_by (own := [("_law_high", 5)]) (by kernel_rfl)) (fun _ _ _ _ _ => (pg_name (i := 5) sc_law.nd rfl (Or.inr rfl))) (fun _ _ _ _ _ => pts_nil) (fun _ _ _ _ _ => (pe_joinR pe_str (pe_lc (own := [("_law_deep", 6)]) rfl sc_law.nd (pi_list (pv 4)) (blkOk_by (own := [("_law_deep", 6)]) (by kernel_rfl)) (fun _ _ _ _ _ => (pg_name (i := 6) sc_law.nd rfl (Or.inl rfl))) (fun _ _ _ _ _ => pts_nil) (fun _ _ _ _ _ => (pe_ifExp (pt_cmpR op_gt (pv 5) (pv 6) (nomark _)) pe_str pe_str)))))) (pss_cons (ps_set (i := 8) sc_law.nd rfl (Or.inr rfl) (pe_op op_mod (pe_op op_fdiv (pe_callB (id := "sum") (cr_sum rfl) (by rfl) T.sum (by decide +kernel) (pa_cons (pv 0) pa_nil)) pe_int) (pe_op op_add (pe_callB (id := "len") cl_len (by rfl) T.len (by decide +kernel) (pa_cons (pv 0) pa_nil)) pe_int))) (pss_cons (ps_setLc (i := 10) (own := [("_law_cell", 2)]) rfl sc_law.nd rfl rfl (sw_true rfl rfl rfl (by decide +kernel)) (pi_list (pv 0)) (blkOk_by (own := [("_law_cell", 2)]) (by kernel_rfl)) (fun _ _ _ _ _ => (pg_name (i := 2) sc_law.nd rfl (Or.inr rfl))) (fun _ _ _ _ _ => pts_nil) (fun _ _ _ _ _ => (pe_joinR pe_str (pe_lc (own := [("_law_at", 9)]) rfl sc_law.nd (pi_range1 (by rfl) T.range (pa_cons (pv 8) pa_nil)) (blkOk_by (own := [("_law_at", 9)]) (by kernel_rfl)) (fun _ _ _ _ _ => (pg_name (i := 9) sc_law.nd rfl (Or.inl rfl))) (fun _ _ _ _ _ => pts_nil) (fun _ _ _ _ _ => (pe_ix ix_str pe_str (pe_op op_and (pe_op op_shr (pv 2) (pv 9)) pe_int) (fun _ _ => rfl))))))) (pss_cons (ps_if (PW.pt (pw_or (pt_not (pt_val (C8.pe_c (cal__law_right T) hr (by decide) (by rfl) (pa_cons (pv 10) pa_nil)))) (pw_or1 (pt_not (pt_val (C8.pe_c (cal__law_right T) hr (by decide) (by rfl) (pa_cons (C8.pe_c (cal__law_turned T) hr (by decide) (by rfl) (pa_cons (pv 10) pa_nil)) pa_nil))))))) (pss_one (ps_ret pe_bl)) pss_nil) (pss_cons (ps_if (PW.pt (pw_or (pt_not (pt_val (C8.pe_c (cal__law_right T) hr (by decide) (by rfl) (pa_cons (pv 1) pa_nil)))) (pw_or (pt_not (pt_val (C8.pe_c (cal__law_right T) hr (by decide) (by rfl) (pa_cons (pv 7) pa_nil)))) (pw_or (pt_not (pt_val (C8.pe_c (cal__law_right T) hr (by decide) (by rfl) (pa_cons (pe_slice sl_list (pv 7) po_none (po_some pe_int)) pa_nil)))) (pw_or1 (pt_not (pt_val (C8.pe_c (cal__law_right T) hr (by decide) (by rfl) (pa_cons (pe_lst (pa_cons pe_str (pa_cons pe_str pa_nil))) pa_nil))))))))) (pss_one (ps_ret pe_bl)) pss_nil) (pss_cons (ps_set (i := 11) sc_law.nd rfl (Or.inl rfl) (pe_callTy (T := "list") cl_list (by rfl) T.list (by decide +kernel) (pa_cons (pv 1) pa_nil))) (pss_cons (ps_for PassesOwn.never rfl (pi_list (pe_ifExp (pt_cmpR (op_neD hr.units) (pv 1) (pe_lst pa_nil) (nomark _)) (pe_callB (id := "sorted") (cr_sortedSet rfl) (by rfl) T.sorted (by decide +kernel) (pa_cons (pe_callTy (T := "set") (cr_setI rfl) (by rfl) T.set (by decide +kernel) (pa_cons (pe_op op_cat (pe_listRg3 rfl (by rfl) T.list (prg_3 (by rfl) T.range pe_int (pe_callB (id := "len") cl_len (by rfl) T.len (by decide +kernel) (pa_cons (pv 1) pa_nil)) pe_int)) (pe_lst (pa_cons (pe_op op_sub (pe_callB (id := "len") cl_len (by rfl) T.len (by decide +kernel) (pa_cons (pv 1) pa_nil)) pe_int) pa_nil))) pa_nil)) pa_nil)) (pe_lst pa_nil))) (pg_name (i := 12) sc_law.nd rfl (Or.inr rfl)) (pss_cons (ps_set (i := 13) sc_law.nd rfl (Or.inl rfl) (C8.pe_c (cal_ahead_of T) hr (by decide) (by rfl) (pa_cons (pv 11) (pa_cons (pv 12) pa_nil)))) (pss_cons (ps_setLc (i := 15) (own := [("_law_one", 14)]) rfl sc_law.nd rfl rfl (sw_true rfl rfl rfl (by decide +kernel)) (pi_range1 (by rfl) T.range (pa_cons (pe_callB (id := "len") cl_len (by rfl) T.len (by decide +kernel) (pa_cons (pv 1) pa_nil)) pa_nil)) (blkOk_by (own := [("_law_one", 14)]) (by kernel_rfl)) (fun _ _ _ _ _ => (pg_name (i := 14) sc_law.nd rfl (Or.inl rfl))) (fun _ _ _ _ _ => (pts_one (pt_cmpR op_eq (pe_ix ix_str (pe_ix ix_list (pv 1) (pv 14) (fun _ _ => rfl)) (pv 12) (fun _ _ => rfl)) pe_str (nomark _)))) (fun _ _ _ _ _ => (pv 14))) (pss_cons (ps_if (PW.pt (pw_or (pt_not (pt_val (C8.pe_c (cal__law_numbers T) hr (by decide) (by rfl) (pa_cons (pv 13) (pa_cons (pe_callB (id := "len") cl_len (by rfl) T.len (by decide +kernel) (pa_cons (pv 15) pa_nil)) pa_nil))))) (pw_or (pt_cmpR (op_neD hr.units) (pv 13) (pv 15) (nomark _)) (pw_or1 (pt_cmpR (op_neD hr.units) (pv 11) (pv 1) (nomark _)))))) (pss_one (ps_ret pe_bl)) pss_nil) (pss_cons (ps_expr (pe_bm PySem.F.plainAttrs_list PySem.F.slot_list_append PySem.F.type_list_append mt_append (pv 13) (pa_cons pe_int pa_nil))) (pss_one (ps_if (pt_cmpR (op_neD hr.units) (C8.pe_c (cal_ahead_of T) hr (by decide) (by rfl) (pa_cons (pv 11) (pa_cons (pv 12) pa_nil))) (pv 15) (nomark _)) (pss_one (ps_ret pe_bl)) pss_nil))))))) (pss_one (ps_ret (pe_cmpR (op_eqD hr.units) (C8.pe_c (cal_turned T) hr (by decide) (by rfl) (pa_cons (pe_lst pa_nil) pa_nil)) (pe_lst pa_nil) (nomark _))))))))))))), ?_⟩
    obtain ⟨z1, z2⟩ := pick2_len hz
    refine q_law_table (ev_var rfl) hs hz fun Tb t H1 hTl hTr _ e1 ht => ?_
    have hs1 := ex_l e1 hs
    have sl1 : ∀ {σ : L2.St}, σ[0]? = some (some (.ref a)) → EvL (tSl3 K (tVar 0) tNoPart tNoPart (tPart (tC (.int 2)))) σ H1 ((pick ns none none (some 2)).map V.int) := fun h => EvL.is (el_sl3 (evs_var h hs1) eo_none eo_none (eo_some ev_c) (by decide) (by rw [List.length_map]; have := (step2_le ns.length (by omega)).1; omega)) (pick_int _ _ _ _)
    have sl2 : ∀ {σ : L2.St}, σ[0]? = some (some (.ref a)) → EvL (tSl3 K (tVar 0) (tPart (tC (.int 1))) tNoPart (tPart (tC (.int 2)))) σ H1 ((pick ns (some 1) none (some 2)).map V.int) := fun h => EvL.is (el_sl3 (evs_var h hs1) (eo_some ev_c) eo_none (eo_some ev_c) (by decide) (by rw [List.length_map]; have := (step2_le ns.length (by omega)).2; omega)) (pick_int _ _ _ _)
    refine q_pairLL (eu2 (el_map (g := V.int) (f := fun c => V.int (c % 7)) (els (sl1 rfl)) (by omega) (fun _ => rfl) fun c hc => ev_op (ev_var rfl) ev_c (rv_I (by decide))) (el_map (g := V.int) (f := fun c => V.int (c % 7)) (els (sl2 rfl)) (by omega) (fun _ => rfl) fun c hc => ev_op (ev_var rfl) ev_c (rv_I (by decide)))) fun p p' H2 e2 fp fp' hp hp' => ?_
    rw [map_int] at hp hp'
    have lA : ((pick ns none none (some 2)).map fun c => c % 7).length ≤ 64 := by rw [List.length_map]; exact z1
    have lB : ((pick ns (some 1) none (some 2)).map fun c => c % 7).length ≤ 64 := by rw [List.length_map]; exact z2
    revert hp hp' lA lB
    generalize ((pick ns none none (some 2)).map fun c => c % 7) = As
    generalize ((pick ns (some 1) none (some 2)).map fun c => c % 7) = Bs
    intro hp hp' lA lB
    clear sl1 sl2 z1 z2
    refine q_asgL (el_signs (l := As) (m := Bs) (g := V.int) (g' := V.int) (p := fun x y => decide (y < x)) (evs_var rfl (sq_of hp)) ⟨by omega, by omega⟩ (fun _ => rfl) (fun _ _ => evs_var rfl (sq_of hp')) (fun _ _ => rfl) fun x hx y hy => et_test (ev_op (ev_var rfl) (ev_var rfl) rv_I0)) fun o H3 _ e3 ho => ?_
    have lO : (As.map fun x => Bs.map fun y => decide (y < x)).length ≤ 64 := by rw [List.length_map]; exact lA
    have rO : Rect (As.map fun x => Bs.map fun y => decide (y < x)) Bs.length := rect_signs As Bs _
    revert ho lO rO
    generalize (As.map fun x => Bs.map fun y => decide (y < x)) = O
    intro ho lO rO
    have e13 := e2.trans e3
    have hs3 := ex_l e13 hs1
    obtain ⟨m, hm, lm⟩ := md_ok (a := ns.sum / 5) (n := ns.length + 2) (by omega)
    refine q_asg (v := .int (m : Nat)) (ev_is (ev_op (ev_op (ev_sum (evs_var rfl hs3)) ev_c (rv_I ⟨by decide, by decide⟩)) (ev_op (ev_lenInts (evs_var rfl hs3)) ev_c rv_I0) (rv_I (by omega))) (by rw [← hm]; rfl)) fun H4 e4 => ?_
    have hs4 := ex_l e4 hs3
    refine q_asgL (el_bits (w := m) (evs_var rfl hs4) ⟨by omega, by omega⟩ (fun _ => rfl) (fun _ => ev_var rfl) (fun _ _ => rfl) (fun _ _ => ev_var rfl) fun _ _ => ev_var rfl) fun wd H5 _ e5 hw => ?_
    have hW : At K H5 wd (bitsT ns m) m := ⟨sq_of hw, bitsT_rect _ _, by rw [bitsT_len]; omega, by omega⟩
    refine q_when (b := false) (et_is (et_or (et_not (et_B (ev_call (ea_cons (ev_var rfl) ea_nil) (sv_law_right hW)))) fun _ => et_not (et_B (ev_callS1 (els (el_call (ea_cons (ev_var rfl) ea_nil) (sl_law_turned hW))) fun l H6 e6 h6 => sv_law_right (hW.turned h6)))) (by simp)) (fun hb => nomatch hb) fun _ H6 e6 => ?_
    have e16 := ((e13.trans e4).trans e5).trans e6
    have hT6 : At K H6 t Tb ns.length := ⟨sq_of (e16 t _ ht), hTr, by omega, by omega⟩
    have hO6 : At K H6 o O Bs.length := ⟨sq_of (e6 o _ (e5 o _ (e4 o _ ho))), rO, by omega, by omega⟩
    refine q_when (b := false) (et_is (et_or (et_not (et_B (ev_call (ea_cons (ev_var rfl) ea_nil) (sv_law_right hT6)))) fun _ => et_or (et_not (et_B (ev_call (ea_cons (ev_var rfl) ea_nil) (sv_law_right hO6)))) fun _ =>
      et_or (et_not (et_B (ev_callS1 (els (EvL.is (el_sl (ev_var rfl) eo_none (eo_some ev_c) hO6.sq) (cutV1 O))) fun l H7 e7 h7 => sv_law_right ⟨h7, rect_take rO, by rw [List.length_take]; omega, by omega⟩))) fun _ =>
        et_not (et_B (ev_callS1 (els (EvL.is (el_lst (ea_cons ev_c (ea_cons ev_c ea_nil)) (show 2 ≤ 100000 by decide)) tv_blank2)) fun l H7 e7 h7 => sv_law_right (n := 0) ⟨h7, by intro r hr; simp at hr; subst hr; rfl, by decide, by decide⟩))) (by simp)) (fun hb => nomatch hb) fun _ H7 e7 => ?_
    have hT7 := hT6.mono e7
    refine q_asgL (el_copy (evs_var rfl hT7.sq)) fun hd H8 _ e8 hh => ?_
    have hT8 := hT7.mono e8
    have hH8 : At K H8 hd Tb ns.length := ⟨sq_of hh, hTr, by omega, by omega⟩
    refine q_forLP (P := fun xs => ∀ x ∈ xs, ∃ j : Nat, x = .int (j : Nat) ∧ j < Tb.length)
      (elp_if (et_test (ev_nempty (evs_var rfl hT8.sq))) (fun hne => ?_) fun _ => elp el_nil (by simp)) (fun σ' H' => Ex H8 H' ∧ ∃ y12 y13 y15, σ' = [some (.ref a), some (.ref t), none, some (.ref p), some (.ref p'), none, none, some (.ref o), some (.int (m : Nat)), none, some (.ref wd), some (.ref hd), y12, y13, none, y15])
      (fun H9 e9 => ⟨e9, _, _, _, rfl⟩) ?_ ?_
    · have h0 : 0 < Tb.length := List.length_pos_iff.mpr (by simpa using hne)
      refine elp_mono (elp_sortedSet (ns := threes Tb.length ++ [((Tb.length : Nat) : Int) - 1]) (els (EvL.is (el_cat (el_rg3 (ev_lenTab hT8 (ev_var rfl)) (by omega)) (el_lst (ea_cons (ev_op (ev_lenTab hT8 (ev_var rfl)) ev_c rv_I0) ea_nil) (show 1 ≤ 100000 by decide)) (by rw [List.length_map, threes_len]; simp; omega)) (by rw [List.map_append]; rfl))) (by rw [List.length_append, threes_len]; simp; omega)) ?_
      rintro xs ⟨ks, rfl, hk⟩ x hx
      obtain ⟨k, hk', rfl⟩ := List.mem_map.mp hx
      obtain ⟨j, rfl, hj⟩ := threes_in h0 ((hk.2 k).mp hk')
      exact ⟨j, rfl, hj⟩
    · rintro xs x σ' H9 hP hx ⟨e9, y12, y13, y15, rfl⟩ D' hrt hnx
      obtain ⟨j, rfl, hj⟩ := hP x hx
      have hT9 := hT8.mono e9
      have hH9 := hH8.mono e9
      rw [← hTl] at hT9 hH9
      refine q_asgL (el_call (ea_cons (ev_var rfl) (ea_cons (ev_var rfl) ea_nil)) (sl_ahead_of hH9 hj)) fun c H10 fc e10 hc => ?_
      have hT10 := hT9.mono e10
      refine q_asgL (EvL.is (el_filtR (p := fun i => gt Tb i j) (f := fun i : Nat => V.int (i : Nat)) (ev_lenTab hT10 (ev_var rfl)) (by omega) (fun _ => rfl) (fun i hi => et_test (ev_isX (ev_cell hT10 (ev_var rfl) (ev_var rfl) (ev_var rfl) hi hj))) (fun i hi _ => ev_var rfl)) rfl) fun d H11 fd e11 hd' => ?_
      have hT11 := hT10.mono e11
      have hH11 := (hH9.mono e10).mono e11
      have hc11 := e11 c _ hc
      have hcl := colOf_len Tb j
      have hd2 : H11 d = some (.lst (nv (colOf Tb j))) := hd'
      rw [nv_int] at hc11 hd2
      refine q_when (b := false) (et_is (et_or (et_not (et_B (ev_call (ea_cons (ev_var rfl) (ea_cons (ev_lenInts (evs_var rfl (sq_of hd2))) ea_nil)) (sv_law_numbers (sq_of hc11) (by rw [intsOf_len]; omega))))) fun _ =>
        et_or (et_test (ev_neInts (evs_var rfl (sq_of hc11)) (evs_var rfl (sq_of hd2)))) fun _ => et_test (ev_neTab (evs_var rfl hH11.sq) (evs_var rfl hT11.sq))) (by simp)) (fun hb => nomatch hb) fun _ H12 e12 => ?_
      refine q_app (e12 c _ hc11) (ev_var rfl) ev_c (by rw [List.length_map, intsOf_len]; omega) fun H13 e13 => ?_
      have ex9 : Ex H9 (upd H13 c (.lst ((intsOf (colOf Tb j)).map V.int ++ [.int 0]))) := Ex.mut ((((e10.trans e11).trans e12).trans e13)) fc
      have hH14 := hH9.mono ex9
      have hd14 : upd H13 c (.lst ((intsOf (colOf Tb j)).map V.int ++ [.int 0])) d = some (.lst ((intsOf (colOf Tb j)).map V.int)) := by
        rw [upd_ne (fun z : d = c => by rw [z, hc] at fd; cases fd)]
        exact e13 d _ (e12 d _ hd2)
      refine s_when (b := false) (et_is (et_test (ev_neInts (els (EvL.is (el_call (ea_cons (ev_var rfl) (ea_cons (ev_var rfl) ea_nil)) (sl_ahead_of hH14 hj)) (nv_int _))) (evs_var rfl (sq_of hd14)))) (by simp)) (fun hb => nomatch hb) fun _ H15 e15 => ?_
      exact hnx _ _ (ex9.trans e15) ⟨(e9.trans ex9).trans e15, _, _, _, rfl⟩
    · rintro σ' H9 ⟨e9, y12, y13, y15, rfl⟩
      have hnil : ∀ l H', SqL K H' l (tv ([] : List (List Bool))) → At K H' l [] 0 := fun l H' h => ⟨h, fun r hr => (by cases hr), (by decide), (by decide)⟩
      exact s_ret (ev_is (ev_eqTab (T := turnT [] 0) (T' := []) (els (el_callS1 (els el_nil) fun l H' _ h => sl_turned (hnil l H' h))) (els el_nil)) (by rw [turnT_nil]; rfl)) fun H10 _ => q H10

end

end WA

namespace WA
open PySem PySem.Spec PyProof.Rows L2 Evl

def dd_is_number : He.DefD := ⟨("is_number", none), "is_number", "is_number", defArgs s_is_number, defBody s_is_number, defScope s_is_number, [], []⟩
def dd_check_table : He.DefD := ⟨("check_table", none), "check_table", "check_table", defArgs s_check_table, defBody s_check_table, defScope s_check_table, [], []⟩
def dd_check_square : He.DefD := ⟨("check_square", none), "check_square", "check_square", defArgs s_check_square, defBody s_check_square, defScope s_check_square, [], []⟩
def dd_has : He.DefD := ⟨("has", none), "has", "has", defArgs s_has, defBody s_has, defScope s_has, [], []⟩
def dd_rows_with : He.DefD := ⟨("rows_with", none), "rows_with", "rows_with", defArgs s_rows_with, defBody s_rows_with, defScope s_rows_with, [], []⟩
def dd_turned : He.DefD := ⟨("turned", none), "turned", "turned", defArgs s_turned, defBody s_turned, defScope s_turned, [], []⟩
def dd_ahead_of : He.DefD := ⟨("ahead_of", none), "ahead_of", "ahead_of", defArgs s_ahead_of, defBody s_ahead_of, defScope s_ahead_of, [], []⟩
def dd_law_table : He.DefD := ⟨("_law_table", none), "_law_table", "_law_table", defArgs s_law_table, defBody s_law_table, defScope s_law_table, [], []⟩
def dd_law_turned : He.DefD := ⟨("_law_turned", none), "_law_turned", "_law_turned", defArgs s_law_turned, defBody s_law_turned, defScope s_law_turned, [], []⟩
def dd_law_numbers : He.DefD := ⟨("_law_numbers", none), "_law_numbers", "_law_numbers", defArgs s_law_numbers, defBody s_law_numbers, defScope s_law_numbers, [], []⟩
def dd_law_right : He.DefD := ⟨("_law_right", none), "_law_right", "_law_right", defArgs s_law_right, defBody s_law_right, defScope s_law_right, [], []⟩
def dd_law : He.DefD := ⟨("law", none), "law", "law", defArgs s_law, defBody s_law, defScope s_law, [], []⟩
def fnL : List He.DefD := [dd_is_number, dd_check_table, dd_check_square, dd_has, dd_rows_with, dd_turned, dd_ahead_of, dd_law_table, dd_law_turned, dd_law_numbers, dd_law_right, dd_law]
def faL : List He.Fa := [.free "len", .free "sum", .free "all", .free "sorted", .free "isinstance", .free "list", .free "set", .free "range", .free "enumerate", .free "zip", .free "str", .free "int", .free "bool", .glo "is_number", .glo "check_table", .glo "check_square", .glo "has", .glo "rows_with", .glo "turned", .glo "ahead_of", .glo "_law_table", .glo "_law_turned", .glo "_law_numbers", .glo "_law_right", .glo "law"]
theorem mkTx {K : PySem.W.Frag} {h : Heap} {mg : Str → Option Value} (X : K.In h) (G : h.Ns mainGlobals mg) (c : He.SaysD faL fnL K) : Tx K mg where
  len := He.free_ok X G (c.fact 0 (f := .free "len") rfl)
  sum := He.free_ok X G (c.fact 1 (f := .free "sum") rfl)
  all := He.free_ok X G (c.fact 2 (f := .free "all") rfl)
  sorted := He.free_ok X G (c.fact 3 (f := .free "sorted") rfl)
  isinstance := He.free_ok X G (c.fact 4 (f := .free "isinstance") rfl)
  list := He.free_ok X G (c.fact 5 (f := .free "list") rfl)
  set := He.free_ok X G (c.fact 6 (f := .free "set") rfl)
  range := He.free_ok X G (c.fact 7 (f := .free "range") rfl)
  enumerate := He.free_ok X G (c.fact 8 (f := .free "enumerate") rfl)
  zip := He.free_ok X G (c.fact 9 (f := .free "zip") rfl)
  str := He.free_ok X G (c.fact 10 (f := .free "str") rfl)
  int := He.free_ok X G (c.fact 11 (f := .free "int") rfl)
  bool := He.free_ok X G (c.fact 12 (f := .free "bool") rfl)
  d_is_number := (let ⟨fd, F⟩ := c.def_ 0 (d := dd_is_number) rfl; ⟨_, fd, F, He.glo_ok X G (c.fact 13 (f := .glo "is_number") rfl)⟩)
  d_check_table := (let ⟨fd, F⟩ := c.def_ 1 (d := dd_check_table) rfl; ⟨_, fd, F, He.glo_ok X G (c.fact 14 (f := .glo "check_table") rfl)⟩)
  d_check_square := (let ⟨fd, F⟩ := c.def_ 2 (d := dd_check_square) rfl; ⟨_, fd, F, He.glo_ok X G (c.fact 15 (f := .glo "check_square") rfl)⟩)
  d_has := (let ⟨fd, F⟩ := c.def_ 3 (d := dd_has) rfl; ⟨_, fd, F, He.glo_ok X G (c.fact 16 (f := .glo "has") rfl)⟩)
  d_rows_with := (let ⟨fd, F⟩ := c.def_ 4 (d := dd_rows_with) rfl; ⟨_, fd, F, He.glo_ok X G (c.fact 17 (f := .glo "rows_with") rfl)⟩)
  d_turned := (let ⟨fd, F⟩ := c.def_ 5 (d := dd_turned) rfl; ⟨_, fd, F, He.glo_ok X G (c.fact 18 (f := .glo "turned") rfl)⟩)
  d_ahead_of := (let ⟨fd, F⟩ := c.def_ 6 (d := dd_ahead_of) rfl; ⟨_, fd, F, He.glo_ok X G (c.fact 19 (f := .glo "ahead_of") rfl)⟩)
  d__law_table := (let ⟨fd, F⟩ := c.def_ 7 (d := dd_law_table) rfl; ⟨_, fd, F, He.glo_ok X G (c.fact 20 (f := .glo "_law_table") rfl)⟩)
  d__law_turned := (let ⟨fd, F⟩ := c.def_ 8 (d := dd_law_turned) rfl; ⟨_, fd, F, He.glo_ok X G (c.fact 21 (f := .glo "_law_turned") rfl)⟩)
  d__law_numbers := (let ⟨fd, F⟩ := c.def_ 9 (d := dd_law_numbers) rfl; ⟨_, fd, F, He.glo_ok X G (c.fact 22 (f := .glo "_law_numbers") rfl)⟩)
  d__law_right := (let ⟨fd, F⟩ := c.def_ 10 (d := dd_law_right) rfl; ⟨_, fd, F, He.glo_ok X G (c.fact 23 (f := .glo "_law_right") rfl)⟩)
  d_law := (let ⟨fd, F⟩ := c.def_ 11 (d := dd_law) rfl; ⟨_, fd, F, He.glo_ok X G (c.fact 24 (f := .glo "law") rfl)⟩)

/-! ### the head -/
abbrev RowW : PySem.W.OpenRow := PySem.W.OpenLaw.row PySem.Challenge.rw_wholeahead_k01_turned
abbrev hkW : PySem.W.Hook := He.hookD 18 faL fnL
def obW (s : PySem.W.SharedT) : He.AlD := He.obsDG 18 faL fnL (HandSHeadRun.getT s)
theorem obW_eq (s : PySem.W.SharedT) : obW s = hkW.obs s.abs := He.obsDG_eq (HandSHeadRun.getT_eq s)
theorem runW (w : World) : HandSHeadRun.RunEq RowW (PySem.W.view RowW.prog [18]) hkW obW 4000 ["__name__", "TableError", "BadTable", "BadSquare", "BadThing", "is_number", "check_table", "check_square", "has", "rows_with", "turned", "ahead_of", "_law_table", "_law_turned", "_law_numbers", "_law_right"] w := by
  intro os
  kernel_rfl
theorem factsW {P : Program} {w : World} {K : PySem.W.Frag} {h : Heap} {mg : Str → Option Value} {f : Addr} (X : K.In h) (G : h.Ns mainGlobals mg) (hfa : mg ("law" : Str) = some (.ref f)) (c : He.SaysD faL fnL K) :
    ∃ fd : FuncData, (∀ (s : Shared) (v : Value), BindsTo s fd ⟨[v], []⟩ [("_law_script", v)]) ∧ ∀ base : Heap, K.In base → base.Ns mainGlobals mg → FnOk P w K mg base C8.CX0 (3 + 1) f fd ["_law_script"] (sp_law K) := by
  have T := mkTx X G c
  obtain ⟨f', fd, F, e⟩ := T.d_law.ex
  cases hfa.symm.trans e
  have b := FunD.bindsA (ps := ["_law_script"]) F fun _ _ _ _ _ _ us hl => match us, hl with | [_], _ => rfl
  exact ⟨fd, fun s v => b s [v] rfl, fun base _ _ => ok_law T F⟩
end WA
open PySem PySem.W PySem.Calls PyProof.Rows
theorem PySem.Challenge.cw_wholeahead_k01_turned_holds : PySem.Challenge.rw_wholeahead_k01_turned.Holds := by
  w_on; o_law
  refine HandSHeadRun.head_any (r := OpenLaw.row PySem.Challenge.rw_wholeahead_k01_turned) (q := view (OpenLaw.row PySem.Challenge.rw_wholeahead_k01_turned).prog [18]) (H := WA.hkW) (ob := WA.obW) (M := 4000) (loose := ["__name__", "TableError", "BadTable", "BadSquare", "BadThing", "is_number", "check_table", "check_square", "has", "rows_with", "turned", "ahead_of", "_law_table", "_law_turned", "_law_numbers", "_law_right"]) (d := HandSHeadRun.topDef (OpenLaw.row PySem.Challenge.rw_wholeahead_k01_turned).prog 18) (kwd := []) WA.obW_eq
    (by kernel_rfl) (fun s => by kernel_rfl) WA.runW (by kernel_rfl) (by kernel_rfl) (by kernel_rfl) (by rfl) (by first | assumption | decide +kernel) (by decide +kernel) ⟨rfl, rfl, rfl, rfl, rfl, by decide +kernel⟩ ?hw ?hc
  case hw => w_witness2
  case hc =>
    refine L2.walk_ofE (l := PySem.Challenge.rw_wholeahead_k01_turned) (n := 63) (k := 3 + 1) (x := "_law_script") (CX := C8.CX0) rfl (by decide) (by kernel_rfl) ⟨rfl, by decide, by decide⟩ ?F (fun _ _ _ _ z => z)
    intro w mg fa h Y G hmg0
    obtain ⟨K, KX, c⟩ := Y
    have hmg : mg ("law" : PySem.Str) = some (.ref fa) := by
      have e : (HandSHeadRun.topDef (OpenLaw.row PySem.Challenge.rw_wholeahead_k01_turned).prog 18).name = ("law" : PySem.Str) := by kernel_rfl
      rw [← e]
      exact hmg0
    obtain ⟨fd, hb, hF⟩ := WA.factsW (P := (PySem.Challenge.rw_wholeahead_k01_turned).prog) (w := w) KX G hmg c
    exact ⟨K, fd, WA.sp_law K, KX, hb, fun H a ns hl hn hS => ⟨a, ns, rfl, hS, hl, fun _ => rfl⟩, hF⟩
