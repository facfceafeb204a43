import PyProof.Rows.All
import PySem.Challenge.RW_wholeahead_k07_refused
import Wide.All
import OpenK.AllK
import Wide.FinOn
import HandS.ForMost
import HandS.Evl
import HandS.Strs
import HandS.StrMore
import HandS.IsInst
import HandS.Codes
import HandS.Conv
import HandS.Style
import HandS.Defaults
import HandS.HeadEnd
import HandS.HeadHook2
import HandS.Head2
import HandS.Dict
import HandS.SetFor
import HandS.TupSets
import HandS.HotCalls
import HandS.ExcCtx
import HandS.ExcIs
import HandS.SuiteRaise
import PyProof.StrOps2
import HandS.CallLocal
import HandS.HeadHook1
import HandS.HeadHook4
import HandS.HeadWalk
import KE.KStateDown
set_option Elab.async false
set_option linter.all false
set_option maxRecDepth 100000
set_option maxHeartbeats 8000000
namespace WA
open PySem PySem.Spec PyProof.Rows L2 Evl
/-! ### tables as lists of lists of truth values -/
def sg (b : Bool) : Nat := if b then 120 else 45
def s1 (b : Bool) : Str := ⟨#[sg b]⟩
def rs (r : List Bool) : Str := ⟨(r.map sg).toArray⟩
abbrev Tb := List (List Bool)
def tv (T : Tb) : List V := T.map fun r => V.str (rs r)
theorem sg_inj : ∀ {a b : Bool}, sg a = sg b → a = b := by decide
theorem s1_x : ("x" : Str) = s1 true := by decide +kernel
theorem s1_d : ("-" : Str) = s1 false := by decide +kernel
theorem s1_inj {a b : Bool} (h : s1 a = s1 b) : a = b := by
  have e : (s1 a).cps.toList = (s1 b).cps.toList := by rw [h]
  have e2 : [sg a] = [sg b] := e
  exact sg_inj (List.cons.inj e2).1
theorem map_sg_inj : ∀ {a b : List Bool}, a.map sg = b.map sg → a = b
  | [], [], _ => rfl
  | [], _ :: _, h => by cases h
  | _ :: _, [], h => by cases h
  | x :: a, y :: b, h => by
    have h1 := List.cons.inj (show sg x :: a.map sg = sg y :: b.map sg from h)
    rw [sg_inj h1.1, map_sg_inj h1.2]
theorem rs_inj {a b : List Bool} (h : rs a = rs b) : a = b := map_sg_inj (show (rs a).cps.toList = (rs b).cps.toList by rw [h])
theorem rs_len (r : List Bool) : (rs r).length = r.length := by simp [rs, Str.length]
theorem rs_tl (r : List Bool) : (rs r).cps.toList = r.map sg := rfl
theorem tv_len (T : Tb) : (tv T).length = T.length := by unfold tv; rw [List.length_map]
theorem tv_inj : ∀ {a b : Tb}, tv a = tv b → a = b
  | [], [], _ => rfl
  | [], _ :: _, h => by cases h
  | _ :: _, [], h => by cases h
  | x :: a, y :: b, h => by
    have h1 := List.cons.inj (show V.str (rs x) :: tv a = V.str (rs y) :: tv b from h)
    rw [rs_inj (V.str.inj h1.1), tv_inj h1.2]
theorem tv_get {T : Tb} {i : Nat} {r : List Bool} (h : T[i]? = some r) : (tv T)[i]? = some (V.str (rs r)) := by
  unfold tv; rw [List.getElem?_map, h]; rfl
theorem joinL_nil : ∀ l : List (List Nat), TL.joinL [] l = l.flatten
  | [] => rfl
  | [p] => by show p = p ++ []; rw [List.append_nil]
  | p :: q :: r => by
    show p ++ ([] ++ TL.joinL [] (q :: r)) = p ++ (q :: r).flatten
    rw [List.nil_append, joinL_nil (q :: r)]
theorem sum_ones {α : Type} : ∀ bs : List α, (bs.map fun _ => 1).sum = bs.length
  | [] => rfl
  | b :: r => by rw [List.map_cons, List.sum_cons, sum_ones r, List.length_cons, Nat.add_comm]
theorem join_s1 (bs : List Bool) : Txt.join "" (bs.map s1) = rs bs := by
  refine TL.ext_tl ?_
  rw [TL.join_eq, TL.tl_join]
  have e0 : TL.tl ("" : Str) = [] := by decide +kernel
  rw [e0, joinL_nil]
  show _ = bs.map sg
  induction bs with
  | nil => rfl
  | cons b r ih =>
    show [sg b] ++ ((r.map s1).map TL.tl).flatten = sg b :: r.map sg
    rw [ih]; rfl
/-- rectangular: every row of width w -/
def Rect (T : Tb) (w : Nat) : Prop := ∀ r ∈ T, r.length = w
def gt (T : Tb) (i j : Nat) : Bool := (T.getD i []).getD j false
def turn (T : Tb) (w : Nat) : Tb := (List.range w).map fun j => T.map fun r => r.getD j false
theorem turn_len (T : Tb) (w : Nat) : (turn T w).length = w := by unfold turn; rw [List.length_map, List.length_range]
theorem turn_rect (T : Tb) (w : Nat) : Rect (turn T w) T.length := fun r hr => by
  unfold turn at hr
  obtain ⟨j, _, rfl⟩ := List.mem_map.mp hr
  rw [List.length_map]

/-! ### named readings -/
abbrev rAddI : R2 := rI0 fun i j => .int (i + j)
abbrev rSubI : R2 := rI0 fun i j => .int (i - j)
abbrev rMulI : R2 := rI CMul fun i j => .int (i * j)
abbrev rDivI : R2 := rI CDiv fun i j => .int (i / j)
abbrev rModI : R2 := rI (fun _ j => 0 < j) fun i j => .int (i % j)
abbrev rPowI : R2 := rI CPow fun i j => .int (i ^ j.toNat)
abbrev rShrI : R2 := rI (fun _ j => 0 ≤ j) fun i j => .int (i / 2 ^ j.toNat)
abbrev rAndI : R2 := rI0 fun i j => .int (Builtin.bitAnd i j)
abbrev rLtI : R2 := rI0 fun i j => .bl (decide (i < j))
abbrev rLeI : R2 := rI0 fun i j => .bl (decide (i ≤ j))
abbrev rGtI : R2 := rI0 fun i j => .bl (decide (j < i))
abbrev rGeI : R2 := rI0 fun i j => .bl (decide (j ≤ i))
abbrev rNegI : V → Hp → VK → Prop := rU fun i => .int (-i)
def rJoin (K : PySem.W.Frag) : V → List V → Hp → VK → Prop := fun x xs H Q => ∃ a p, ∃ ys : List Str, x = .str a ∧ xs = [.ref p] ∧ (SqL K H p (ys.map V.str) ∨ SqT K H p (ys.map V.str)) ∧
  (ys.map (·.length)).sum + ys.length * a.length ≤ 16777216 ∧ Q (.str (Txt.join a ys)) H
def rStripC : V → List V → Hp → VK → Prop := fun x xs H Q => ∃ a b, x = .str a ∧ xs = [.str b] ∧ a.length ≤ sizeLine ∧ Q (.str (Txt.stripChars a b)) H
def rCountS : V → List V → Hp → VK → Prop := fun x xs H Q => ∃ a b, x = .str a ∧ xs = [.str b] ∧ Q (.int (Txt.count a b)) H
def rLn (K : PySem.W.Frag) : List V → Hp → VK → Prop := fun xs H Q => ∃ x n, xs = [x] ∧ LenV K x H n ∧ Q (.int n) H
def rLs (K : PySem.W.Frag) : List V → Hp → VK → Prop := fun xs H Q => ∃ p ys, xs = [.ref p] ∧ (SqL K H p ys ∨ SqT K H p ys) ∧ ∀ l, H l = none → Q (.ref l) (upd H l (.lst ys))
/-- a + b, two texts -/
def rCatS : R2 := fun x y H Q => ∃ a b : Str, x = .str a ∧ y = .str b ∧ a.length + b.length ≤ sizeLine ∧ Q (.str (a ++ b)) H
section
variable {X : Cx} {o e : Expr} {to te : TE} {apos pos : Pos}
theorem pe_joinR (ho : PE X o to) (he : PE X e te) (hs : starEach [e] X.env = [(false, eval e X.env)] := by rfl) (hbase : attributeBase o "join" X.env (eval o X.env) = eval o X.env := by rfl) (hline : (apos.endLine == pos.line) = true := by rfl) :
    PE X (.Call (.Attribute o "join" apos) [e] [] pos) (tM1 (rJoin X.K) to te) := pe_m1 F.slot_str_join F.type_str_join mt_join ho he hs hbase hline
theorem pe_stripC (ho : PE X o to) (he : PE X e te) (hs : starEach [e] X.env = [(false, eval e X.env)] := by rfl) (hbase : attributeBase o "strip" X.env (eval o X.env) = eval o X.env := by rfl) (hline : (apos.endLine == pos.line) = true := by rfl) :
    PE X (.Call (.Attribute o "strip" apos) [e] [] pos) (tM1 rStripC to te) := pe_m1 F.slot_str_strip F.type_str_strip mt_stripChars ho he hs hbase hline
theorem pe_countS (ho : PE X o to) (he : PE X e te) (hs : starEach [e] X.env = [(false, eval e X.env)] := by rfl) (hbase : attributeBase o "count" X.env (eval o X.env) = eval o X.env := by rfl) (hline : (apos.endLine == pos.line) = true := by rfl) :
    PE X (.Call (.Attribute o "count" apos) [e] [] pos) (tM1 rCountS to te) := pe_m1 F.slot_str_count F.type_str_count mt_count ho he hs hbase hline
theorem cl_len : CallR X (.builtin "len") (rLn X.K) := call_len
theorem cl_list : CallR X (.type "list") (rLs X.K) := call_list_of
theorem op_catS : OpR X (binaryOp .Add) rCatS := op_add_str
end

/-! ### evaluation: a reference to a sequence -/
/-- evaluates to a list that reads xs (new or old) -/
def EvS (K : PySem.W.Frag) (te : TE) (σ : L2.St) (H : Hp) (xs : List V) : Prop := ∀ H1, Ex H H1 → ∀ Q : VK, (∀ p H2, Ex H1 H2 → SqL K H2 p xs → Q (.ref p) H2) → te σ H1 Q
section
variable {K : PySem.W.Frag} {σ : L2.St} {H H' : Hp} {ta tb te tx : TE} {t u : TT} {x y z v : V} {r : R2} {xs ys : List V}
theorem EvL.s (h : EvL te σ H xs) : EvS K te σ H xs := fun H1 e Q q => h H1 e Q fun p H2 _ e2 hp => q p H2 e2 (sq_of hp)
theorem Ev.s {a : Addr} (h : Ev te σ H (.ref a)) (hs : SqL K H a xs) : EvS K te σ H xs := fun H1 e Q q => h H1 e Q fun H2 e2 => q a H2 e2 (ex_l (e.trans e2) hs)
theorem evs_var {i : Nat} {a : Addr} (h : σ[i]? = some (some (.ref a))) (hs : SqL K H a xs) : EvS K (tVar i) σ H xs := Ev.s (ev_var h) hs
theorem EvS.mono (e : Ex H H') (h : EvS K te σ H xs) : EvS K te σ H' xs := fun H1 a Q q => h H1 (e.trans a) Q q
theorem EvS.is {ys : List V} (h : EvS K te σ H xs) (e : xs = ys) : EvS K te σ H ys := e ▸ h
theorem EvL.is {ys : List V} (h : EvL te σ H xs) (e : xs = ys) : EvL te σ H ys := e ▸ h
/-- len -/
theorem ev_lenS (h : EvS K te σ H xs) : Ev (tCB (rLn K) (tCons te tNil)) σ H (.int (xs.length : Nat)) := fun H1 e Q q =>
  h H1 e _ fun p H2 e2 hp => ⟨.ref p, xs.length, rfl, .inl ⟨xs, hp, rfl⟩, q H2 e2⟩
theorem ev_lenT {a : Str} (h : Ev te σ H (.str a)) (hz : a.length ≤ 100000) : Ev (tCB (rLn K) (tCons te tNil)) σ H (.int (a.length : Nat)) := fun H1 e Q q =>
  h H1 e _ fun H2 e2 => ⟨.str a, a.length, rfl, ⟨sz_of hz, rfl⟩, q H2 e2⟩
/-- list(xs): a copy -/
theorem el_copy (h : EvS K te σ H xs) : EvL (tCB (rLs K) (tCons te tNil)) σ H xs := fun H1 e Q q =>
  h H1 e _ fun p H2 e2 hp => ⟨p, xs, rfl, .inl hp, fun l hl => q l _ (fresh_back e2 hl) (e2.trans (Ex.new hl)) upd_same⟩
/-- xs[i] -/
theorem ev_ixLS {i : Int} (h : EvS K ta σ H xs) (hb : Ev tb σ H (.int i)) (ha : atI xs i = some v) : Ev (tOp (rIxL K) ta tb) σ H v := fun H1 e Q q =>
  h H1 e _ fun p H2 e2 hp => hb H2 (e.trans e2) _ fun H3 e3 => ⟨p, xs, i, v, rfl, rfl, ex_l e3 hp, ha, q H3 (e2.trans e3)⟩
theorem ev_ixU {i : Int} (h : EvU ta σ H xs) (hb : Ev tb σ H (.int i)) (ha : atI xs i = some v) : Ev (tOp (rIxT K) ta tb) σ H v := fun H1 e Q q =>
  h H1 e _ fun p H2 _ e2 hp => hb H2 (e.trans e2) _ fun H3 e3 => ⟨p, xs, i, v, rfl, rfl, ex_t e3 (st_of hp), ha, q H3 (e2.trans e3)⟩
/-- s[i] -/
theorem ev_ixSg {r : List Bool} {j : Nat} (h : Ev ta σ H (.str (rs r))) (hb : Ev tb σ H (.int (j : Nat))) (hj : j < r.length) (hz : r.length ≤ 100000) : Ev (tOp rIxS ta tb) σ H (.str (s1 (r.getD j false))) :=
  ev_op h hb (rv_ixS (by rw [rs_len]; exact hz) (by
    rw [rs_tl]
    refine atI_nat ?_
    rw [List.getElem?_map, List.getElem?_eq_getElem hj, List.getD_eq_getElem?_getD, List.getElem?_eq_getElem hj]; rfl))
/-- "x" if t else "-" -/
theorem ev_ifSg {b : Bool} (h : EvT t σ H b) : Ev (tIf t (tC (.str "x")) (tC (.str "-"))) σ H (.str (s1 b)) :=
  ev_if h (fun e => by subst e; exact s1_x ▸ ev_c) (fun e => by subst e; exact s1_d ▸ ev_c)
/-- "".join -/
theorem ev_joinS {bs : List Bool} (h : EvS K te σ H (bs.map fun b => V.str (s1 b))) (hz : bs.length ≤ 100000) : Ev (tM1 (rJoin K) (tC (.str "")) te) σ H (.str (rs bs)) := fun H1 e Q q =>
  ⟨⟨_, rfl⟩, h H1 e _ fun p H2 e2 hp => by
    refine ⟨"", p, bs.map s1, rfl, rfl, .inl (by rw [List.map_map]; exact hp), ?_, ?_⟩
    · have e1 : ((bs.map s1).map fun x => x.length) = bs.map fun _ => 1 := by rw [List.map_map]; rfl
      have e2 : ("" : Str).length = 0 := by decide +kernel
      rw [e1, e2, Nat.mul_zero, Nat.add_zero]
      have e3 := sum_ones bs
      omega
    · rw [join_s1]; exact q H2 e2⟩
/-- data equal to data -/
def dat : V → PyData
  | .non => .none | .bl b => .bool b | .int i => .int i | .str x => .str x
  | _ => .none
def isSI : V → Bool
  | .int _ => true | .str x => PyData.strOk x | _ => false
theorem dp_flat {H : Hp} : ∀ {v : V}, isSI v = true → Dp K H v (dat v)
  | .int i, _ => .int i
  | .str x, _ => .str x
  | .non, h | .bl _, h | .byt _, h | .flt _, h | .ref _, h | .ty _, h => by cases h
theorem dp_all {H : Hp} : ∀ {xs : List V}, xs.all isSI = true → DpAll K H xs (xs.map dat)
  | [], _ => .nil
  | x :: xs, h => by
    have h' := Bool.and_eq_true_iff.mp (show (isSI x && xs.all isSI) = true from h)
    exact .cons (dp_flat h'.1) (dp_all h'.2)
theorem eqv_flat : ∀ {x y : V}, isSI x = true → isSI y = true → PyData.eqv (dat x) (dat y) = decide (x = y)
  | .int i, .int j, _, _ => by rw [dec_int]; simp [dat, PyData.eqv]
  | .str i, .str j, _, _ => by rw [dec_str]; simp [dat, PyData.eqv]
  | .int i, .str j, _, _ => by simp [dat, PyData.eqv]
  | .str i, .int j, _, _ => by simp [dat, PyData.eqv]
  | .non, _, h, _ | .bl _, _, h, _ | .byt _, _, h, _ | .flt _, _, h, _ | .ref _, _, h, _ | .ty _, _, h, _ => by cases h
  | .int _, .non, _, h | .int _, .bl _, _, h | .int _, .byt _, _, h | .int _, .flt _, _, h | .int _, .ref _, _, h | .int _, .ty _, _, h => by cases h
  | .str _, .non, _, h | .str _, .bl _, _, h | .str _, .byt _, _, h | .str _, .flt _, _, h | .str _, .ref _, _, h | .str _, .ty _, _, h => by cases h
theorem eqvAll_flat : ∀ {xs ys : List V}, xs.all isSI = true → ys.all isSI = true → PyData.eqvAll (xs.map dat) (ys.map dat) = decide (xs = ys)
  | [], [], _, _ => rfl
  | [], y :: ys, _, _ => rfl
  | x :: xs, [], _, _ => rfl
  | x :: xs, y :: ys, h, g => by
    have h' := Bool.and_eq_true_iff.mp (show (isSI x && xs.all isSI) = true from h)
    have g' := Bool.and_eq_true_iff.mp (show (isSI y && ys.all isSI) = true from g)
    rw [List.map_cons, List.map_cons, PyData.eqvAll, eqv_flat h'.1 g'.1, eqvAll_flat h'.2 g'.2]
    by_cases e1 : x = y
    · by_cases e2 : xs = ys
      · simp [e1, e2]
      · simp [e1, e2]
    · simp [e1]
theorem lay_flat : ∀ {x : V}, isSI x = true → PyData.canLay0 (dat x) = true ∧ PyData.depth (dat x) = 0
  | .int i, _ => ⟨by simp [dat, PyData.canLay0], by simp [dat, PyData.depth]⟩
  | .str x, h => ⟨by simpa [dat, PyData.canLay0, isSI] using h, by simp [dat, PyData.depth]⟩
  | .non, h | .bl _, h | .byt _, h | .flt _, h | .ref _, h | .ty _, h => by cases h
theorem lay_all : ∀ {xs : List V}, xs.all isSI = true → PyData.canLayAll0 (xs.map dat) = true ∧ PyData.depthAll (xs.map dat) = 0
  | [], _ => ⟨rfl, rfl⟩
  | x :: xs, h => by
    have h' := Bool.and_eq_true_iff.mp (show (isSI x && xs.all isSI) = true from h)
    have a := lay_flat h'.1
    have b := lay_all h'.2
    refine ⟨?_, ?_⟩
    · show (PyData.canLay0 (dat x) && PyData.canLayAll0 (xs.map dat)) = true
      rw [a.1, b.1]; rfl
    · show max (PyData.depth (dat x)) (PyData.depthAll (xs.map dat)) = 0
      rw [a.2, b.2]; rfl
theorem shaped_flat {xs : List V} (h : xs.all isSI = true) : SeqAt.shaped (.list (xs.map dat)) = true := by
  have a := lay_all h
  unfold SeqAt.shaped
  have e1 : PyData.canLay0 (.list (xs.map dat)) = PyData.canLayAll0 (xs.map dat) := by simp [PyData.canLay0]
  have e2 : PyData.depth (.list (xs.map dat)) = PyData.depthAll (xs.map dat) + 1 := by simp [PyData.depth]
  rw [e1, e2, a.1, a.2]; rfl
theorem eqv_list {xs ys : List V} (h : xs.all isSI = true) (g : ys.all isSI = true) : PyData.eqv (.list (xs.map dat)) (.list (ys.map dat)) = decide (xs = ys) := by
  rw [PyData.eqv]; exact eqvAll_flat h g
/-- xs == ys, xs != ys: lists of ints and texts -/
theorem ev_eqS (h : EvS K ta σ H xs) (g : EvS K tb σ H ys) (fx : xs.all isSI = true) (fy : ys.all isSI = true) : Ev (tOp (rEqD K) ta tb) σ H (.bl (decide (xs = ys))) := fun H1 e Q q =>
  h H1 e _ fun p H2 e2 hp => g H2 (e.trans e2) _ fun p' H3 e3 hp' =>
    ⟨.list (xs.map dat), .list (ys.map dat), .lst (ex_l e3 hp) (dp_all fx), .lst hp' (dp_all fy), shaped_flat fx, shaped_flat fy, by rw [eqv_list fx fy]; exact q H3 (e2.trans e3)⟩
theorem ev_neS (h : EvS K ta σ H xs) (g : EvS K tb σ H ys) (fx : xs.all isSI = true) (fy : ys.all isSI = true) : Ev (tOp (rNeD K) ta tb) σ H (.bl (!decide (xs = ys))) := fun H1 e Q q =>
  h H1 e _ fun p H2 e2 hp => g H2 (e.trans e2) _ fun p' H3 e3 hp' =>
    ⟨.list (xs.map dat), .list (ys.map dat), .lst (ex_l e3 hp) (dp_all fx), .lst hp' (dp_all fy), shaped_flat fx, shaped_flat fy, by rw [eqv_list fx fy]; exact q H3 (e2.trans e3)⟩
theorem ok_s1 (b : Bool) : PyData.strOk (s1 b) = true := by cases b <;> decide +kernel
theorem ok_rs (r : List Bool) : PyData.strOk (rs r) = true := by
  unfold PyData.strOk
  rw [← Array.all_toList, rs_tl, List.all_eq_true]
  intro c hc
  obtain ⟨b, _, rfl⟩ := List.mem_map.mp hc
  cases b <;> decide
theorem si_tv (T : Tb) : (tv T).all isSI = true := by
  rw [List.all_eq_true]
  intro v hv
  obtain ⟨r, _, rfl⟩ := List.mem_map.mp hv
  exact ok_rs r
theorem si_ints (ns : List Int) : (ns.map V.int).all isSI = true := by
  rw [List.all_eq_true]
  intro v hv
  obtain ⟨r, _, rfl⟩ := List.mem_map.mp hv
  rfl
theorem evs {a : Addr} (h : Ev te σ H (.ref a)) (hs : SqL K H a xs) : EvS K te σ H xs := Ev.s h hs
theorem els (h : EvL te σ H xs) : EvS K te σ H xs := EvL.s h
/-- a op b op' c -/
theorem et_chain {r r' : R2} {tc : TE} {a b c : V} {p q : Bool} (ha : Ev ta σ H a) (hb : Ev tb σ H b) (hc : p = true → Ev tc σ H c) (hr : RV r a b H (.bl p)) (hr' : p = true → RV r' b c H (.bl q)) : EvT (tTest (tChain r r' ta tb tc)) σ H (p && q) := fun H1 e Q k =>
  ha H1 e _ fun H2 e2 => hb H2 (e.trans e2) _ fun H3 e3 => hr H3 ((e.trans e2).trans e3) _ fun H4 e4 => ⟨p, rfl, by
    cases p with
    | true =>
      rw [if_pos rfl]
      exact hc rfl H4 (((e.trans e2).trans e3).trans e4) _ fun H5 e5 => hr' rfl H5 ((((e.trans e2).trans e3).trans e4).trans e5) _ fun H6 e6 => ⟨q, rfl, k H6 ((((e2.trans e3).trans e4).trans e5).trans e6)⟩
    | false =>
      rw [if_neg Bool.false_ne_true]
      exact ⟨false, rfl, k H4 ((e2.trans e3).trans e4)⟩⟩
theorem ev_chain {r r' : R2} {tc : TE} {a b c : V} {p q : Bool} (ha : Ev ta σ H a) (hb : Ev tb σ H b) (hc : p = true → Ev tc σ H c) (hr : RV r a b H (.bl p)) (hr' : p = true → RV r' b c H (.bl q)) : Ev (tChain r r' ta tb tc) σ H (.bl (p && q)) := fun H1 e Q k =>
  ha H1 e _ fun H2 e2 => hb H2 (e.trans e2) _ fun H3 e3 => hr H3 ((e.trans e2).trans e3) _ fun H4 e4 => ⟨p, rfl, by
    cases p with
    | true =>
      rw [if_pos rfl]
      exact hc rfl H4 (((e.trans e2).trans e3).trans e4) _ fun H5 e5 => hr' rfl H5 ((((e.trans e2).trans e3).trans e4).trans e5) _ fun H6 e6 => k H6 ((((e2.trans e3).trans e4).trans e5).trans e6)
    | false =>
      rw [if_neg Bool.false_ne_true]
      exact k H4 ((e2.trans e3).trans e4)⟩
theorem el_nil : EvL (tLst tNil) σ H [] := el_lst ea_nil (Nat.zero_le _)
theorem dec_tv {a b : Tb} : decide (tv a = tv b) = decide (a = b) := by
  by_cases h : a = b
  · subst h; simp
  · rw [decide_eq_false h, decide_eq_false fun e => h (tv_inj e)]
theorem ints_inj : ∀ {a b : List Int}, a.map V.int = b.map V.int → a = b
  | [], [], _ => rfl
  | [], _ :: _, h => by cases h
  | _ :: _, [], h => by cases h
  | x :: a, y :: b, h => by
    have h1 := List.cons.inj (show V.int x :: a.map V.int = V.int y :: b.map V.int from h)
    rw [V.int.inj h1.1, ints_inj h1.2]
theorem dec_ints {a b : List Int} : decide (a.map V.int = b.map V.int) = decide (a = b) := by
  by_cases h : a = b
  · subst h; simp
  · rw [decide_eq_false h, decide_eq_false fun e => h (ints_inj e)]
/-! ### isinstance -/
theorem tyx_list {a : Addr} (h : SqL K H a xs) : TyX K H (.ref a) (.type "list") := by
  rcases h with (h | ⟨o, h⟩) | ⟨o, its, n, hk, hc, _⟩
  · exact .base (.lst h)
  · exact .base (.frz h)
  · exact .kList hk hc
theorem ev_isi {c : V} {ty u : Value} {b : Bool} (h : Ev te σ H x) (hc : ClsV c u) (hty : ∀ H1, Ex H H1 → TyX K H1 x ty) (hk : PySem.W.kitOne K ty u = some b) : Ev (tCB (rIsi K) (tCons te (tCons (tC c) tNil))) σ H (.bl b) := fun H1 e Q q =>
  h H1 e _ fun H2 e2 => ⟨x, c, ty, u, b, rfl, hc, hty H2 (e.trans e2), hk, q H2 e2⟩
theorem ev_isiL (h : EvS K te σ H xs) : Ev (tCB (rIsi K) (tCons te (tCons (tC (.ty "list")) tNil))) σ H (.bl true) := fun H1 e Q q =>
  h H1 e _ fun p H2 e2 hp => ⟨.ref p, .ty "list", _, _, true, rfl, .ty _, tyx_list hp, kit_ty (by decide +kernel), q H2 e2⟩
theorem ev_isiStr {s : Str} (h : Ev te σ H (.str s)) : Ev (tCB (rIsi K) (tCons te (tCons (tC (.ty "str")) tNil))) σ H (.bl true) := ev_isi h (.ty _) (fun _ _ => .base (.str s)) (kit_ty (by decide +kernel))
theorem ev_isiInt {i : Int} (h : Ev te σ H (.int i)) : Ev (tCB (rIsi K) (tCons te (tCons (tC (.ty "int")) tNil))) σ H (.bl true) := ev_isi h (.ty _) (fun _ _ => .base (.int i)) (kit_ty (by decide +kernel))
theorem ev_isiBool {i : Int} (h : Ev te σ H (.int i)) : Ev (tCB (rIsi K) (tCons te (tCons (tC (.ty "bool")) tNil))) σ H (.bl false) := ev_isi h (.ty _) (fun _ _ => .base (.int i)) (kit_ty (by decide +kernel))
/-! ### all, any, sum -/
theorem ev_all {bs : List Bool} (h : EvS K te σ H (bs.map V.bl)) : Ev (tCB (rAll K) (tCons te tNil)) σ H (.bl (bs.all id)) := fun H1 e Q q => h H1 e _ fun p H2 e2 hp => ⟨p, bs, rfl, hp, q H2 e2⟩
theorem ev_any {bs : List Bool} (h : EvS K te σ H (bs.map V.bl)) : Ev (tCB (rAny K) (tCons te tNil)) σ H (.bl (bs.any id)) := fun H1 e Q q => h H1 e _ fun p H2 e2 hp => ⟨p, bs, rfl, hp, q H2 e2⟩
theorem ev_allM {α : Type} {l : List α} {p : α → Bool} (h : EvS K te σ H (l.map fun x => V.bl (p x))) : Ev (tCB (rAll K) (tCons te tNil)) σ H (.bl (l.all p)) := by
  have e : (l.map p).all id = l.all p := by rw [List.all_map]; rfl
  rw [← e]
  exact ev_all (by rw [List.map_map]; exact h)
theorem ev_anyM {α : Type} {l : List α} {p : α → Bool} (h : EvS K te σ H (l.map fun x => V.bl (p x))) : Ev (tCB (rAny K) (tCons te tNil)) σ H (.bl (l.any p)) := by
  have e : (l.map p).any id = l.any p := by rw [List.any_map]; rfl
  rw [← e]
  exact ev_any (by rw [List.map_map]; exact h)
theorem ev_sum {ns : List Int} (h : EvS K te σ H (ns.map V.int)) : Ev (tCB (rSum K) (tCons te tNil)) σ H (.int ns.sum) := fun H1 e Q q => h H1 e _ fun p H2 e2 hp => ⟨p, ns, rfl, hp, q H2 e2⟩
end
/-! ### comprehensions -/
/-- n turns, each of which leads from what holds ahead of it to what holds behind it: a measure that falls -/
theorem n_turns {α : Type} {n : Nat} {a0 : α} {Stop : Nat → α → Prop} {Go : Nat → α → (α → Prop) → Prop} (Pv : Nat → α → Prop) (h0 : Pv 0 a0) (go : ∀ i a, i < n → Pv i a → Go i a (Pv (i + 1))) (stop : ∀ a, Pv n a → Stop n a) :
    ∃ W : Nat → Nat → α → Prop, (∃ m, W 0 m a0) ∧ ∀ i m a, W i m a → Stop i a ∨ ∃ N : α → Prop, (∀ a', N a' → ∃ m', m' < m ∧ W (i + 1) m' a') ∧ Go i a N := by
  refine ⟨fun i m a => i + m = n ∧ Pv i a, ⟨n, Nat.zero_add n, h0⟩, fun i m a ⟨e, p⟩ => ?_⟩
  cases m with
  | zero => exact .inl (stop a ((show i = n from e) ▸ p) |> fun q => (show i = n from e).symm ▸ q)
  | succ m => exact .inr ⟨Pv (i + 1), fun a' p' => ⟨m, Nat.lt_succ_self m, by omega, p'⟩, go i a (by omega) p⟩
/-- the test's word, and, if it is so, the item behind those of the list at D -/
abbrev PutTo (tt : TT) (te : TE) (D : Addr) (N : Hp → Prop) (σ2 : L2.St) (H2 : Hp) : Prop :=
  tt σ2 H2 fun b H3 => if b = true then te σ2 H3 fun y H4 => ∃ acc, H4 D = some (.lst acc) ∧ acc.length < sizeLine ∧ N (upd H4 D (.lst (acc ++ [y]))) else N H3
/-- over any iterator of n turns -/
theorem lc_it {J : It} {n : Nat} {g : TG} {tt : TT} {te : TE} {vs : List Nat} {σ : L2.St} {H1 : Hp} {D : Addr} {Qd : Hp → Prop} (Pv : Nat → Hp → Prop) (hstop : ∀ H, Pv n H → J.stop n H) (hgo : ∀ i H, i < n → Pv i H → J.go i H) (h0 : Pv 0 (upd H1 D (.lst [])))
    (hs : ∀ i x H H', i < n → Pv i H → J.yld i H x H' → g x (wipe σ vs) H' fun σ2 H2 => wipe σ2 vs = wipe σ vs ∧ PutTo tt te D (Pv (i + 1)) σ2 H2) (hd : ∀ H, Pv n H → Qd H) :
    ∃ W : Nat → Nat → Hp → Prop, (∃ k, W 0 k (upd H1 D (.lst []))) ∧ ∀ i k H, W i k H → (J.stop i H ∧ Qd H) ∨
      (J.go i H ∧ ∃ N : Hp → Prop, (∀ H', N H' → ∃ k', k' < k ∧ W (i + 1) k' H') ∧ ∀ x H', J.yld i H x H' → g x (wipe σ vs) H' fun σ2 H2 => wipe σ2 vs = wipe σ vs ∧ PutTo tt te D N σ2 H2) := by
  obtain ⟨W, w0, step⟩ := n_turns (Stop := fun i H => J.stop i H ∧ Qd H) (Go := fun i H N => J.go i H ∧ ∀ x H', J.yld i H x H' → g x (wipe σ vs) H' fun σ2 H2 => wipe σ2 vs = wipe σ vs ∧ PutTo tt te D N σ2 H2) Pv h0
    (fun i H lt p => ⟨hgo i H lt p, fun x H' y => hs i x H H' lt p y⟩) fun H p => ⟨hstop H p, hd H p⟩
  exact ⟨W, w0, fun i k H h => (step i k H h).imp id fun ⟨N, fall, go, put⟩ => ⟨go, N, fall, put⟩⟩
section
variable {K : PySem.W.Frag} {σ : L2.St} {H H' : Hp} {ta tb te tl : TE} {tt : TT} {xs ys : List V} {vs : List Nat}
/-- the list so far -/
def Lc (H : Hp) (D : Addr) (acc : List V) (H' : Hp) : Prop := H D = none ∧ Ex H H' ∧ H' D = some (.lst acc)
theorem lc_turn {D : Addr} {acc acc' : List V} {σ2 : L2.St} {b : Bool} {v : V} {N : Hp → Prop} (p : Lc H D acc H') (hl : acc.length < 100000) (ht : EvT tt σ2 H b) (he : b = true → Ev te σ2 H v) (hN : ∀ H2, Lc H D (if b = true then acc ++ [v] else acc) H2 → N H2) :
    tt σ2 H' fun b H3 => if b = true then te σ2 H3 fun y H4 => ∃ acc, H4 D = some (.lst acc) ∧ acc.length < sizeLine ∧ N (upd H4 D (.lst (acc ++ [y]))) else N H3 := by
  obtain ⟨p1, p2, p3⟩ := p
  refine ht H' p2 _ ?_
  intro H3 e3
  cases b with
  | true =>
    rw [if_pos rfl]
    refine he rfl H3 (p2.trans e3) _ fun H4 e4 => ⟨acc, e4 D _ (e3 D _ p3), sz_lt hl, hN _ ⟨p1, Ex.mut ((p2.trans e3).trans e4) p1, ?_⟩⟩
    rw [if_pos rfl]; exact upd_same
  | false =>
    rw [if_neg Bool.false_ne_true]
    refine hN _ ⟨p1, p2.trans e3, ?_⟩
    rw [if_neg Bool.false_ne_true]
    exact e3 D _ p3
theorem et_yes : EvT tYes σ H true := fun H1 _ _ q => q H1 (Ex.refl H1)
/-- what a filter and a map give of the first turns -/
def fm {α : Type} (p : α → Bool) (f : α → V) (l : List α) : List V := (l.filter p).map f
theorem fm_next {α : Type} {p : α → Bool} {f : α → V} {l : List α} {i : Nat} {x : α} (h : l[i]? = some x) : (if p x = true then fm p f (l.take i) ++ [f x] else fm p f (l.take i)) = fm p f (l.take (i + 1)) := by
  unfold fm
  have e : l.take (i + 1) = l.take i ++ [x] := by rw [List.take_add_one, h]; rfl
  rw [e, List.filter_append, List.map_append]
  cases hp : p x with
  | true => rw [if_pos rfl, List.filter_cons, if_pos hp]; rfl
  | false => rw [if_neg Bool.false_ne_true, List.filter_cons, if_neg (by rw [hp]; decide)]; show _ = _ ++ []; rw [List.append_nil]
theorem fm_len {α : Type} (p : α → Bool) (f : α → V) (l : List α) (i : Nat) : (fm p f (l.take i)).length ≤ l.length := by
  unfold fm
  rw [List.length_map]
  have h := List.length_filter_le p (l.take i)
  have h2 := List.length_take_le i l
  have h3 : (l.take i).length ≤ l.length := by rw [List.length_take]; omega
  omega
theorem fm_yes {α : Type} (f : α → V) (l : List α) : fm (fun _ => true) f l = l.map f := by
  unfold fm
  rw [List.filter_eq_self.mpr fun _ _ => rfl]
/-- [te for j in tl if tt], tl a list of the g's -/
theorem el_filt {α : Type} {l : List α} {g f : α → V} {p : α → Bool} {j : Nat} (h : EvS K tl σ H (l.map g)) (hz : l.length ≤ 40000) (hw : ∀ x, wipe ((wipe σ vs).set j (some x)) vs = wipe σ vs)
    (ht : ∀ x ∈ l, EvT tt ((wipe σ vs).set j (some (g x))) H (p x)) (he : ∀ x ∈ l, p x = true → Ev te ((wipe σ vs).set j (some (g x))) H (f x)) : EvL (tLc (iList K tl) (gName j) tt te vs) σ H (fm p f l) := fun H0 e Q q =>
  h H0 e _ fun a H1 e1 hx => ⟨a, rfl, ⟨_, hx⟩, fun D hD => lc_list (xs := l.map g) (fun i H' => Lc H1 D (fm p f (l.take i)) H') ⟨hD, Ex.new hD, upd_same⟩ (fun i H' _ pv => ex_l pv.2.1 hx)
    (fun i x H' hi pv => by
      rw [List.getElem?_map] at hi
      obtain ⟨y, hy, rfl⟩ := Option.map_eq_some_iff.mp hi
      have hm := List.mem_of_getElem? hy
      refine ⟨hw _, lc_turn (acc' := []) pv (by have := fm_len p f l i; omega) ((ht y hm).mono (e.trans e1)) (fun hb => (he y hm hb).mono (e.trans e1)) fun H2 h2 => ?_⟩
      rw [fm_next hy] at h2
      exact h2)
    (fun H' pv => by
      rw [List.length_map, List.take_length] at pv
      exact q D H' (fresh_back e1 pv.1) (e1.trans pv.2.1) pv.2.2)⟩
theorem el_map {α : Type} {l : List α} {g f : α → V} {j : Nat} (h : EvS K tl σ H (l.map g)) (hz : l.length ≤ 40000) (hw : ∀ x, wipe ((wipe σ vs).set j (some x)) vs = wipe σ vs)
    (he : ∀ x ∈ l, Ev te ((wipe σ vs).set j (some (g x))) H (f x)) : EvL (tLc (iList K tl) (gName j) tYes te vs) σ H (l.map f) := by
  rw [← fm_yes]
  exact el_filt h hz hw (fun _ _ => et_yes) fun x hx _ => he x hx
/-- over range(n) -/
theorem el_filtR {f : Nat → V} {p : Nat → Bool} {j n : Nat} {tn : TE} (h : Ev tn σ H (.int (n : Nat))) (hz : n ≤ 40000) (hw : ∀ x, wipe ((wipe σ vs).set j (some x)) vs = wipe σ vs)
    (ht : ∀ i, i < n → EvT tt ((wipe σ vs).set j (some (.int (i : Nat)))) H (p i)) (he : ∀ i, i < n → p i = true → Ev te ((wipe σ vs).set j (some (.int (i : Nat)))) H (f i)) : EvL (tLc (iRng1 (tCons tn tNil)) (gName j) tt te vs) σ H (fm p f (List.range n)) := fun H0 e Q q =>
  h H0 e _ fun H1 e1 => ⟨(n : Nat), rfl, by omega, by omega, fun D hD => lc_range (lo := 0) (n := ((n : Nat) : Int).toNat) (fun i H' => Lc H1 D (fm p f ((List.range n).take i)) H') ⟨hD, Ex.new hD, upd_same⟩
    (fun i H' hi pv => by
      have hi' : i < n := by omega
      have hy : (List.range n)[i]? = some i := by rw [List.getElem?_range hi']
      have e0 : (0 : Int) + (i : Int) = ((i : Nat) : Int) := Int.zero_add _
      rw [e0]
      refine ⟨hw _, lc_turn (acc' := []) pv (by have := fm_len p f (List.range n) i; rw [List.length_range] at this; omega) ((ht i hi').mono (e.trans e1)) (fun hb => (he i hi' hb).mono (e.trans e1)) fun H2 h2 => ?_⟩
      rw [fm_next hy] at h2
      exact h2)
    (fun H' pv => by
      have e2 : (List.range n).take ((n : Nat) : Int).toNat = List.range n := List.take_of_length_le (by rw [List.length_range]; omega)
      rw [e2] at pv
      exact q D H' (fresh_back e1 pv.1) (e1.trans pv.2.1) pv.2.2)⟩
theorem el_mapR {f : Nat → V} {j n : Nat} {tn : TE} (h : Ev tn σ H (.int (n : Nat))) (hz : n ≤ 40000) (hw : ∀ x, wipe ((wipe σ vs).set j (some x)) vs = wipe σ vs)
    (he : ∀ i, i < n → Ev te ((wipe σ vs).set j (some (.int (i : Nat)))) H (f i)) : EvL (tLc (iRng1 (tCons tn tNil)) (gName j) tYes te vs) σ H ((List.range n).map f) := by
  rw [← fm_yes]
  exact el_filtR h hz hw (fun _ _ => et_yes) fun i hi _ => he i hi
/-- a pair's names -/
theorem g_pair {i j : Nat} {T : Addr} {x y : V} {Q : L2.St → Hp → Prop} (hT : SqT K H T [x, y]) (q : Q ((σ.set i (some x)).set j (some y)) H) : gTup K 2 (gCons (gName i) (gCons (gName j) gNil)) (.ref T) σ H Q :=
  ⟨T, [x, y], rfl, hT, rfl, x, [y], rfl, y, [], rfl, rfl, q⟩
/-- over enumerate(tl) -/
theorem el_filtE {α : Type} {l : List α} {g : α → V} {f : Nat × α → V} {p : Nat × α → Bool} {i j : Nat} (h : EvS K tl σ H (l.map g)) (hz : l.length ≤ 40000) (hw : ∀ x y, wipe (((wipe σ vs).set i (some x)).set j (some y)) vs = wipe σ vs)
    (ht : ∀ (k : Nat) x, l[k]? = some x → EvT tt (((wipe σ vs).set i (some (.int (k : Nat)))).set j (some (g x))) H (p (k, x))) (he : ∀ (k : Nat) x, l[k]? = some x → p (k, x) = true → Ev te (((wipe σ vs).set i (some (.int (k : Nat)))).set j (some (g x))) H (f (k, x))) :
    EvL (tLc (iEnum K (tCons tl tNil)) (gTup K 2 (gCons (gName i) (gCons (gName j) gNil))) tt te vs) σ H (fm p f ((List.range l.length).zip l)) := fun H0 e Q q =>
  h H0 e _ fun a H1 e1 hx => ⟨a, _, rfl, hx, fun D hD => by
    have hlen : ((List.range l.length).zip l).length = l.length := by rw [List.length_zip, List.length_range]; omega
    refine lc_it (J := Ite K a) (n := l.length) (fun k H' => Lc H1 D (fm p f (((List.range l.length).zip l).take k)) H') (fun H' pv => ⟨_, ex_l pv.2.1 hx, by rw [List.length_map]; exact Nat.le_refl _⟩)
      (fun k H' hk pv => ⟨_, _, ex_l pv.2.1 hx, by rw [List.getElem?_map, List.getElem?_eq_getElem hk]; rfl⟩) ⟨hD, Ex.new hD, upd_same⟩ (fun k x H' H'' hk pv hy => ?_) (fun H' pv => ?_)
    · obtain ⟨T, y, rfl, hT, rfl, hf⟩ := hy
      have hl : l[k]? = some l[k] := List.getElem?_eq_getElem hk
      have ey : y = g l[k] := by
        have z := hf _ (ex_l pv.2.1 hx)
        rw [List.getElem?_map, hl] at z
        exact (Option.some.inj z).symm
      subst ey
      have hz2 : ((List.range l.length).zip l)[k]? = some (k, l[k]) := by rw [List.getElem?_zip_eq_some]; exact ⟨List.getElem?_range hk, hl⟩
      have nTD : D ≠ T := fun z => by rw [← z] at hT; rw [pv.2.2] at hT; cases hT
      have pv2 : Lc H1 D (fm p f (((List.range l.length).zip l).take k)) (upd H' T (.tup [.int (k : Nat), g l[k]])) := ⟨pv.1, pv.2.1.trans (Ex.new hT), by rw [upd_ne nTD]; exact pv.2.2⟩
      refine g_pair (st_of upd_same) ⟨hw _ _, lc_turn (acc' := []) pv2 (by have := fm_len p f ((List.range l.length).zip l) k; rw [hlen] at this; omega) ((ht k _ hl).mono (e.trans e1)) (fun hb => (he k _ hl hb).mono (e.trans e1)) fun H2 h2 => ?_⟩
      rw [fm_next hz2] at h2
      exact h2
    · have e2 : ((List.range l.length).zip l).take l.length = (List.range l.length).zip l := List.take_of_length_le (by rw [hlen]; exact Nat.le_refl _)
      rw [e2] at pv
      exact q D H' (fresh_back e1 pv.1) (e1.trans pv.2.1) pv.2.2⟩
theorem el_mapE {α : Type} {l : List α} {g : α → V} {f : Nat × α → V} {i j : Nat} (h : EvS K tl σ H (l.map g)) (hz : l.length ≤ 40000) (hw : ∀ x y, wipe (((wipe σ vs).set i (some x)).set j (some y)) vs = wipe σ vs)
    (he : ∀ (k : Nat) x, l[k]? = some x → Ev te (((wipe σ vs).set i (some (.int (k : Nat)))).set j (some (g x))) H (f (k, x))) :
    EvL (tLc (iEnum K (tCons tl tNil)) (gTup K 2 (gCons (gName i) (gCons (gName j) gNil))) tYes te vs) σ H (((List.range l.length).zip l).map f) := by
  rw [← fm_yes]
  exact el_filtE h hz hw (fun _ _ _ => et_yes) fun k x hx _ => he k x hx
/-- over zip(ta, tb), two lists of one length -/
theorem el_filtZ {α β : Type} {l : List α} {m : List β} {g : α → V} {g' : β → V} {f : α × β → V} {p : α × β → Bool} {i j : Nat} (h : EvS K ta σ H (l.map g)) (h' : EvS K tb σ H (m.map g')) (hz : l.length ≤ 40000) (hlm : l.length = m.length) (hw : ∀ x y, wipe (((wipe σ vs).set i (some x)).set j (some y)) vs = wipe σ vs)
    (ht : ∀ x y, (x, y) ∈ l.zip m → EvT tt (((wipe σ vs).set i (some (g x))).set j (some (g' y))) H (p (x, y))) (he : ∀ x y, (x, y) ∈ l.zip m → p (x, y) = true → Ev te (((wipe σ vs).set i (some (g x))).set j (some (g' y))) H (f (x, y))) :
    EvL (tLc (iZip K (tCons ta (tCons tb tNil))) (gTup K 2 (gCons (gName i) (gCons (gName j) gNil))) tt te vs) σ H (fm p f (l.zip m)) := fun H0 e Q q =>
  h H0 e _ fun a H1 e1 hx => h' H1 (e.trans e1) _ fun b H2 e2 hy => ⟨a, b, _, _, rfl, ex_l e2 hx, hy, fun D hD => by
    have hlen : (l.zip m).length = l.length := by rw [List.length_zip]; omega
    have e12 := e1.trans e2
    have hx2 := ex_l e2 hx
    refine lc_it (J := Itz K a b) (n := l.length) (fun k H' => Lc H2 D (fm p f ((l.zip m).take k)) H') (fun H' pv => ⟨_, _, ex_l pv.2.1 hx2, ex_l pv.2.1 hy, .inl (by rw [List.length_map]; exact Nat.le_refl _)⟩)
      (fun k H' hk pv => ⟨_, _, g l[k], g' (m[k]'(by omega)), ex_l pv.2.1 hx2, ex_l pv.2.1 hy, by rw [List.getElem?_map, List.getElem?_eq_getElem hk]; rfl, by rw [List.getElem?_map, List.getElem?_eq_getElem (show k < m.length by omega)]; rfl⟩) ⟨hD, Ex.new hD, upd_same⟩ (fun k x H' H'' hk pv hyl => ?_) (fun H' pv => ?_)
    · obtain ⟨T, x1, y1, rfl, hT, rfl, hf1, hf2⟩ := hyl
      have hk2 : k < m.length := by omega
      have hl : l[k]? = some l[k] := List.getElem?_eq_getElem hk
      have hm : m[k]? = some m[k] := List.getElem?_eq_getElem hk2
      have ex1 : x1 = g l[k] := by
        have z := hf1 _ (ex_l pv.2.1 hx2)
        rw [List.getElem?_map, hl] at z
        exact (Option.some.inj z).symm
      have ey1 : y1 = g' m[k] := by
        have z := hf2 _ (ex_l pv.2.1 hy)
        rw [List.getElem?_map, hm] at z
        exact (Option.some.inj z).symm
      subst ex1 ey1
      have hz2 : (l.zip m)[k]? = some (l[k], m[k]) := by rw [List.getElem?_zip_eq_some]; exact ⟨hl, hm⟩
      have hmem := List.mem_of_getElem? hz2
      have nTD : D ≠ T := fun z => by rw [← z] at hT; rw [pv.2.2] at hT; cases hT
      have pv2 : Lc H2 D (fm p f ((l.zip m).take k)) (upd H' T (.tup [g l[k], g' m[k]])) := ⟨pv.1, pv.2.1.trans (Ex.new hT), by rw [upd_ne nTD]; exact pv.2.2⟩
      refine g_pair (st_of upd_same) ⟨hw _ _, lc_turn (acc' := []) pv2 (by have := fm_len p f (l.zip m) k; rw [hlen] at this; omega) ((ht _ _ hmem).mono (e.trans e12)) (fun hb => (he _ _ hmem hb).mono (e.trans e12)) fun H3 h3 => ?_⟩
      rw [fm_next hz2] at h3
      exact h3
    · have e3 : (l.zip m).take l.length = l.zip m := List.take_of_length_le (by rw [hlen]; exact Nat.le_refl _)
      rw [e3] at pv
      exact q D H' (fresh_back e12 pv.1) (e12.trans pv.2.1) pv.2.2⟩
theorem el_mapZ {α β : Type} {l : List α} {m : List β} {g : α → V} {g' : β → V} {f : α × β → V} {i j : Nat} (h : EvS K ta σ H (l.map g)) (h' : EvS K tb σ H (m.map g')) (hz : l.length ≤ 40000) (hlm : l.length = m.length) (hw : ∀ x y, wipe (((wipe σ vs).set i (some x)).set j (some y)) vs = wipe σ vs)
    (he : ∀ x y, (x, y) ∈ l.zip m → Ev te (((wipe σ vs).set i (some (g x))).set j (some (g' y))) H (f (x, y))) :
    EvL (tLc (iZip K (tCons ta (tCons tb tNil))) (gTup K 2 (gCons (gName i) (gCons (gName j) gNil))) tYes te vs) σ H ((l.zip m).map f) := by
  rw [← fm_yes]
  exact el_filtZ h h' hz hlm hw (fun _ _ _ => et_yes) fun x y hx _ => he x y hx
end
/-! ### calls -/
section
variable {K : PySem.W.Frag} {σ : L2.St} {H H' : Hp} {ta tb te tl : TE} {xs : List V} {z : V} {sp : Sp} {E : XK}
/-- f(e), e a list -/
theorem ev_callS1 {dvs : List V} (h : EvS K te σ H xs) (hs : ∀ p H1, Ex H H1 → SqL K H1 p xs → SpV sp ([.ref p] ++ dvs) H1 z) : Ev (tCall sp dvs E (tCons te tNil)) σ H z := fun H1 e Q q =>
  h H1 e _ fun p H2 e2 hp => hs p H2 (e.trans e2) hp H2 (Ex.refl H2) Q (fun H3 e3 => q H3 (e2.trans e3)) E
theorem el_callS1 {dvs ys : List V} (h : EvS K te σ H xs) (hs : ∀ p H1, Ex H H1 → SqL K H1 p xs → SpL sp ([.ref p] ++ dvs) H1 ys) : EvL (tCall sp dvs E (tCons te tNil)) σ H ys := fun H1 e Q q =>
  h H1 e _ fun p H2 e2 hp => hs p H2 (e.trans e2) hp H2 (Ex.refl H2) Q (fun p' H3 h3 e3 h4 => q p' H3 (fresh_back e2 h3) (e2.trans e3) h4) E
/-- a promise: a value; a new list -/
def spV (R : List V → Hp → V → Prop) : Sp := fun vs H Q _ => ∃ z, R vs H z ∧ ∀ H2, Ex H H2 → Q z H2
def spL (R : List V → Hp → List V → Prop) : Sp := fun vs H Q _ => ∃ xs, R vs H xs ∧ ∀ p H2, H p = none → Ex H H2 → H2 p = some (.lst xs) → Q (.ref p) H2
theorem spV_of {R : List V → Hp → V → Prop} {vs : List V} (h : ∀ H1, Ex H H1 → R vs H1 z) : SpV (spV R) vs H z := fun H1 e Q q E => ⟨z, h H1 e, q⟩
theorem spL_of {R : List V → Hp → List V → Prop} {vs ys : List V} (h : ∀ H1, Ex H H1 → R vs H1 ys) : SpL (spL R) vs H ys := fun H1 e Q q E => ⟨ys, h H1 e, q⟩
end
/-! ### a def of the text -/
section
variable {P : Program} {w : World} {K : PySem.W.Frag} {mg : Str → Option Value} {base : Heap}
structure Dn (K : PySem.W.Frag) (mg : Str → Option Value) (x : Str) (st : Stmt) : Prop where
  ex : ∃ f fd, FunD K x x (defArgs st) (defBody st) (defScope st) [] [] f fd ∧ mg x = some (.ref f)
/-- a def's promise by its body -/
theorem Dn.cal {x : Str} {st : Stmt} {N ps : List Str} {k : Nat} {sp : Sp} (D : Dn K mg x st) (S : FnScope N ps (defScope st))
    (hb : ∀ (kV doc pm : Value) (an : Option Addr) (cdv ct : Value) (us : List Value), us.length = ps.length → bindArgs (PySem.W.fnOf x x (defArgs st) (defBody st) (defScope st) .none kV doc pm an cdv ct) ⟨us, []⟩ = pure (ps.zip us))
    (len : ∀ vs H Q E, sp vs H Q E → vs.length = ps.length)
    (hbody : ∀ (f : Addr) (cdv : Value) (A : Around) (outer : List Env) (s : Shared) (H : Hp) (vs : List V) (Q : VK) (E : XK), Room k (A.deeper (envOfC x (defScope st) s.heap.objs.size f cdv)) → sp vs H Q E →
      ∃ t, PSs (cxOf C8.CX0 P w K mg base N x (defScope st) f cdv A outer s H E).nox (defBody st) t ∧ t { nx := fun _ H' => Q .non H', rt := Q } (start N vs) H) : C8.Cal P w K mg base (k + 1) x sp [] := by
  obtain ⟨f, fd, F, hm⟩ := D.ex
  refine ⟨f, fd, ps, [], F.ok S len fun cdv A outer s H vs Q E hr h => ?_, hm, F.kp, F.bindsN hb, .nil⟩
  obtain ⟨t, h1, h2⟩ := hbody f cdv A outer s H vs Q E hr h
  exact ⟨t, h1.nox, h2⟩
/-- the law itself, by its body -/
theorem fn_ok {x y : Str} {st : Stmt} {N ps : List Str} {k : Nat} {sp : Sp} {f : Addr} {fd : FuncData} (F : FunD K x y (defArgs st) (defBody st) (defScope st) [] [] f fd) (S : FnScope N ps (defScope st))
    (len : ∀ vs H Q E, sp vs H Q E → vs.length = ps.length)
    (hbody : ∀ (f : Addr) (cdv : Value) (A : Around) (outer : List Env) (s : Shared) (H : Hp) (vs : List V) (Q : VK) (E : XK), Room k (A.deeper (envOfC y (defScope st) s.heap.objs.size f cdv)) → sp vs H Q E →
      ∃ t, PSs (cxOf C8.CX0 P w K mg base N y (defScope st) f cdv A outer s H E).nox (defBody st) t ∧ t { nx := fun _ H' => Q .non H', rt := Q } (start N vs) H) : FnOk P w K mg base C8.CX0 (k + 1) f fd ps sp :=
  F.ok S len fun cdv A outer s H vs Q E hr h => by
    obtain ⟨t, h1, h2⟩ := hbody f cdv A outer s H vs Q E hr h
    exact ⟨t, h1.nox, h2⟩
end
end WA

namespace WA
open PySem PySem.Spec PyProof.Rows L2 Evl
/-! ### slices by any step -/
def pick {α : Type} (xs : List α) (lo hi st : Option Int) : List α := (sliceRange (sliceBounds lo hi st xs.length).1 (sliceBounds lo hi st xs.length).2.1 (sliceBounds lo hi st xs.length).2.2).filterMap (xs[·]?)
theorem pick_map {α β : Type} (f : α → β) (xs : List α) (lo hi st : Option Int) : pick (xs.map f) lo hi st = (pick xs lo hi st).map f := by
  unfold pick
  rw [List.length_map, List.map_filterMap]
  congr 1
  funext i
  rw [List.getElem?_map]
theorem pick_len {α : Type} (xs : List α) (lo hi st : Option Int) : (pick xs lo hi st).length ≤ (sliceRange (sliceBounds lo hi st xs.length).1 (sliceBounds lo hi st xs.length).2.1 (sliceBounds lo hi st xs.length).2.2).length := List.length_filterMap_le _ _
theorem vals_pick : ∀ (is : List Nat) {xs : List V} {us : List Value}, Vals xs us → Vals (is.filterMap (xs[·]?)) (is.filterMap (us[·]?))
  | [], _, _, _ => .nil
  | i :: is, xs, us, r => by
    cases h : xs[i]? with
    | none =>
      rw [List.filterMap_cons_none h, List.filterMap_cons_none (r.none_of h)]
      exact vals_pick is r
    | some x =>
      obtain ⟨u, hu, ru⟩ := r.get h
      rw [List.filterMap_cons_some h, List.filterMap_cons_some hu]
      exact .cons ru (vals_pick is r)
def tSl3 (K : PySem.W.Frag) (te : TE) (tl th ts : TO) : TE := fun σ H Q => te σ H fun x H1 => tl σ H1 fun l H2 => th σ H2 fun u H3 => ts σ H3 fun st H4 => ∃ a xs, x = .ref a ∧ SqL K H4 a xs ∧ st ≠ some 0 ∧ (pick xs l u st).length ≤ sizeLine ∧
  ∀ p, H4 p = none → Q (.ref p) (upd H4 p (.lst (pick xs l u st)))
theorem pe_slice3 {X : Cx} {e : Expr} {te : TE} {lo hi : Option Expr} {st : Expr} {tl th ts : TO} {pos p2 : Pos} (he : PE X e te) (hl : PO X lo tl) (hu : PO X hi th) (hst : PO X (some st) ts)
    (hsub : ∀ o i, subscripted (.Slice lo hi (some st) p2) false o i = operate [o, i] (getItem o i) := by intros; with_unfolding_all rfl) : PE X (.Subscript e (.Slice lo hi (some st) p2) pos) (tSl3 X.K te tl th ts) := by
  refine ⟨fun pins s σ H Q I h => ?_⟩
  refine Subscript_ (thn (he.run pins s σ H _ I h) fun v s1 ⟨x, H1, I1, r1, q1⟩ => ?_)
  refine wpAny_Slice (thn (hl.run pins s1 σ H1 _ I1 q1) fun vl s2 ⟨l, H2, I2, pl, q2⟩ => thn (hu.run pins s2 σ H2 _ I2 q2) fun vu s3 ⟨u, H3, I3, pu, q3⟩ => thn (hst.run pins s3 σ H3 _ I3 q3) fun vs s4 ⟨k, H4, I4, pk, q4⟩ => ?_)
  obtain ⟨a, xs, rfl, hx, h0, hz, q⟩ := q4
  have I5 : Inv X pins σ H4 { s4 with heap := s4.heap.push { cls := .type "slice", data := .fields #[vl, vu, vs] } } := I4.kept (t' := s4.toks) fun b ob q => Heap.get?_push_of_some _ q
  cases r1
  obtain ⟨its, r, ht, hzx⟩ := I5.list hx
  have hlen := r.length
  refine tail_any (ops := [.ref a, .ref s4.heap.objs.size]) ht.isList.typeIs slot_list_getitem.lookup ?_ (hsub _ _)
  refine wpAny_getItem_list_slice ht.isList (Heap.IsSliceOf.new ..) pl pu pk h0 ?_ (by rw [List.size_toArray] <;> omega)
  have ep : slicePick its.toArray l u k = (pick its l u k).toArray := by
    unfold slicePick pick
    simp only [List.size_toArray, List.getElem?_toArray]
  have rv : Vals (pick xs l u k) (pick its l u k) := by
    unfold pick
    rw [hlen]
    exact vals_pick _ r
  rw [ep]
  exact ⟨.ref _, _, I5.laid (o := .lst (pick xs l u k)) (t' := s4.toks) (fun b ob q => Heap.get?_push_of_some _ q) (Nat.le_refl _) ⟨hz, _, 0, rv, Heap.get?_push_size _ rfl⟩, rfl, q _ (I5.hok.fresh (Nat.le_refl _))⟩
/-! ### list(range(a, b, c)) -/
def tRg3 (ta tb tc : TE) : L2.St → Hp → (Int → Int → Int → Hp → Prop) → Prop := fun σ H Q => ta σ H fun x H1 => tb σ H1 fun y H2 => tc σ H2 fun z H3 => ∃ i j k, x = .int i ∧ y = .int j ∧ z = .int k ∧ k ≠ 0 ∧ k.natAbs < 1073741824 ∧ Q i j k H3
def PRg3 (X : Cx) (e : Expr) (t : L2.St → Hp → (Int → Int → Int → Hp → Prop) → Prop) : Prop :=
  ∀ (pins : List (Addr × Obj)) (s : Shared) (σ : L2.St) (H : Hp) (Q : Int → Int → Int → Hp → Prop), Inv X pins σ H s → t σ H Q →
    wpAny (model X.prog X.w) X.A (eval e X.env) (fun x s' => ∃ r a b c t u v H', x = .ref r ∧ IsRange s'.heap r a b c t u v ∧ Inv X pins σ H' s' ∧ Q a b c H') X.xe s
theorem prg_3 {X : Cx} {a b c : Expr} {ta tb tc : TE} {p pos : Pos} (hg : Gl X "range") (hm : X.mg "range" = none) (ha : PE X a ta) (hb : PE X b tb) (hc : PE X c tc)
    (na : starEach [a, b, c] X.env = (false, eval a X.env) :: starEach [b, c] X.env := by rfl) (nb : starEach [b, c] X.env = (false, eval b X.env) :: starEach [c] X.env := by rfl) (nc : starEach [c] X.env = (false, eval c X.env) :: starEach [] X.env := by rfl)
    (hp : (backTo pos (starEach [b, c] X.env)).any (·.1) = false := by rfl) : PRg3 X (.Call (.Name "range" p) [a, b, c] [] pos) (tRg3 ta tb tc) := by
  intro pins s σ H Q I h
  refine Call_ (ld_blt I hg hm boot_range (PyProof.Rows.callWith_type1 (args_cons (thn (ha.run pins s σ H _ I h) fun v s1 ⟨x, H1, I1, r1, q1⟩ => args_cons (thn (hb.run pins s1 σ H1 _ I1 q1) fun u s2 ⟨y, H2, I2, r2, q2⟩ => one_arg hc I2 q2 (fun t s3 z H3 I3 r3 q => ?_) nc) nb) na) na hp))
  obtain ⟨i, j, k, rfl, rfl, rfl, k0, k1, q⟩ := q
  obtain ⟨t1, rfl⟩ := r1
  obtain ⟨t2, rfl⟩ := r2
  obtain ⟨t3, rfl⟩ := r3
  exact call_range_3 k0 ⟨_, i, j, k, _, _, _, H3, rfl, IsRange.new _ _ _ _ _ _ _, I3.kept fun b u e => Heap.get?_push_of_some _ e, q⟩ (.inl (PyProof.noPylong_small k1))
def rgV3 (a c : Int) (n : Nat) : List V := (List.range n).map fun i => V.int (a + (i : Nat) * c)
theorem vals_rg3 {a c : Int} {n : Nat} {acc : Array Value} (h : ItemsOf (fun i v => ∃ t, v = .int (a + i * c) t) acc n) : Vals (rgV3 a c n) acc.toList := by
  have e : acc.toList.length = n := by rw [Array.length_toList]; exact h.1
  unfold rgV3
  rw [← e]
  refine vals_of_get acc.toList _ fun j u hj => ?_
  obtain ⟨t, rfl⟩ := h.2 j u (by rw [← hj, Array.getElem?_toList])
  exact ⟨t, rfl⟩
def tLstRg3 (te : L2.St → Hp → (Int → Int → Int → Hp → Prop) → Prop) : TE := fun σ H Q => te σ H fun a b c H1 => ∃ n : Nat, Builtin.Range.small a b c = true ∧ Builtin.Range.rangeSize a b c = n ∧ n ≤ 1000 ∧ ∀ q, H1 q = none → Q (.ref q) (upd H1 q (.lst (rgV3 a c n)))
theorem pe_listRg3 {X : Cx} {e : Expr} {te : L2.St → Hp → (Int → Int → Int → Hp → Prop) → Prop} {p pos : Pos} (hc : X.calm = true) (hg : Gl X "list") (hm : X.mg "list" = none) (he : PRg3 X e te) (na : starEach [e] X.env = (false, eval e X.env) :: starEach [] X.env := by rfl) :
    PE X (.Call (.Name "list" p) [e] [] pos) (tLstRg3 te) := by
  refine ⟨fun pins s σ H Q I h => ?_⟩
  refine Call_ (ld_blt I hg hm boot_list (PyProof.Rows.callWith_type1 (args_cons (thn (he pins s σ H _ I h) fun x s1 ⟨r, a, b, c, t, u, v, H1, ex, hr, I1, n, b1, b2, b3, q⟩ => args_nil ?_) na) na))
  subst ex
  refine call_list_range (I1.ok.hd hc) hr b1 b2 (by omega) fun h' tk acc c' hk e' hi => ?_
  have hz : (rgV3 a c n).length ≤ sizeLine := by unfold rgV3; rw [List.length_map, List.length_range, sizeLine_eq]; omega
  exact ⟨.ref _, _, I1.laid (o := .lst (rgV3 a c n)) hk (Nat.le_refl _) ⟨hz, acc.toList, c', vals_rg3 hi, by rw [Array.toArray_toList]; exact e'⟩, rfl, q _ (I1.hok.fresh (Nat.le_refl _))⟩
theorem rg3_ok : ∀ n : Nat, n < 200 → Builtin.Range.small 0 n 3 = true ∧ Builtin.Range.rangeSize 0 n 3 = (((n + 2) / 3 : Nat) : Int) := by decide +kernel
end WA

namespace WA
open PySem PySem.Spec PyProof.Rows L2 Evl
/-! ### set(xs), xs a list, whatever its items are -/
/-- a set object just made -/
abbrev newSetO (w : World) : Obj := { cls := .type "set", dict := none, data := .set #[] 0 (.fresh 0 0 (!w.params.followText "set-order")) }
/-- all that stands in the one heap stands in the other one, too -/
def Grows (h h' : Heap) : Prop := ∀ b o, h.get? b = some o → h'.get? b = some o
/-- behind set(xs): what Fl says of the place that was free, and nothing else is changed -/
def Filled (Fl : Addr → Heap → Prop) (s s2 : Shared) : Prop := ∃ h' tk, s2 = { s with heap := h', toks := tk } ∧ Fl s.heap.objs.size h' ∧ Grows s.heap h'
/-- the loop over the list at l makes of an empty set at a what Fl says -/
def Fills (P : Program) (w : World) (l : Addr) (its : Array Value) (Fl : Addr → Heap → Prop) : Prop :=
  ∀ (A : Around) (a it : Addr) (t : Shared) (R : Result → Shared → Prop), A.handled = none → l ≠ it → a ∉ [it, l] → t.heap.get? a = some (newSetO w) → t.heap.IsListIter it l 0 → t.heap.IsList l its →
    (∀ t', Moved [a, it] (fun g g' => g' = g) t t' → Fl a t'.heap → R (.ok (.ret .none)) t') → codeAny (model P w) A (.builtin "set.update.loop" ⟨[.ref a, .ref it], []⟩) R t
theorem Fills.mono {P : Program} {w : World} {l : Addr} {its : Array Value} {Fl Fl' : Addr → Heap → Prop} (F : Fills P w l its Fl) (h : ∀ a p, Fl a p → Fl' a p) : Fills P w l its Fl' :=
  fun A a it t R x1 x2 x3 x4 x5 x6 q => F A a it t R x1 x2 x3 x4 x5 x6 fun t' m f => q t' m (h a _ f)
/-- the place behind the last one, and the one behind that -/
theorem new_apart {h : Heap} {o o' : Obj} {l : Addr} (e : h.get? l = some o) : l ≠ (h.push o').objs.size ∧ h.objs.size ∉ [(h.push o').objs.size, l] ∧ ∀ b u, h.get? b = some u → b ∉ [h.objs.size, (h.push o').objs.size] := by
  have z : (h.push o').objs.size = h.objs.size + 1 := Heap.size_push ..
  have far : ∀ (b : Addr) (u : Obj), h.get? b = some u → b ≠ (h.push o').objs.size ∧ b ≠ h.objs.size := fun b u eb => by
    have lt := Heap.lt_size eb
    exact ⟨fun q => Nat.lt_irrefl _ (Nat.lt_trans (z ▸ q ▸ lt : (h.objs.size + 1) < h.objs.size) (Nat.lt_succ_self _)), Nat.ne_of_lt lt⟩
  refine ⟨(far l o e).1, fun m => ?_, fun b u eb m => ?_⟩
  · rcases (List.mem_cons.mp m).imp_right List.mem_singleton.mp with q | q
    · exact Nat.ne_of_lt (Nat.lt_succ_self _) (q.trans z)
    · exact (far l o e).2 q.symm
  · rcases (List.mem_cons.mp m).imp_right List.mem_singleton.mp with q | q
    · exact (far b u eb).2 q
    · exact (far b u eb).1 q
section
variable {P : Program} {w : World} {l : Addr} {its : Array Value} {Fl : Addr → Heap → Prop} {A : Around} {s : Shared} {E : Value → Shared → Prop}
theorem fill_init (fl : Fills P w l its Fl) (hh : A.handled = none) (hl : s.heap.IsList l its) {R : PySem.Fin → Shared → Prop}
    (hR : ∀ f t, wants (fun r t => r = .none ∧ Filled Fl s t) E (.ok f) t → R (.done f) t) {E' : Value → Shared → Prop} :
    wpAny (model P w) A (Builtin.«set.__init__» ⟨[.ref s.heap.objs.size, .ref l], []⟩) R E' { s with heap := s.heap.push (newSetO w) } := by
  obtain ⟨⟨cl, di, da, sl⟩, hol, e1, nl, e2⟩ := hl
  dsimp only at e1 e2
  cases e1
  cases e2
  obtain ⟨ap1, ap2, ap3⟩ := new_apart (o' := newSetO w) hol
  have atNew : (s.heap.push (newSetO w)).get? s.heap.objs.size = some (newSetO w) := Heap.get?_push_size _ rfl
  have atOld := Heap.get?_push_of_some (newSetO w) hol
  have isl : (s.heap.push (newSetO w)).IsList l its := ⟨_, atOld, rfl, nl, rfl⟩
  have t1 := F.sub_list_set
  have t2 := F.sub_list_frozenset
  have t3 : (Value.type "list" == Value.type "dict") = false := by decide
  unfold Builtin.«set.__init__»
  unfold noKeywords Builtin.Frozenset.updateFrom
  generalize hPI : pyIter = PI
  wp_walk
  subst hPI
  refine wpAny_pyIter_list isl (wpAny_bind (wpAny_runValue (fl _ _ _ _ _ (by simp [hh]) ap1 ap2 (Heap.get?_push_of_some _ atNew) ⟨_, Heap.get?_push_size _ rfl, rfl, rfl⟩ (isl.push _) fun t m q => wpAny_pure (wpAny_pure (hR _ _ ⟨rfl, t.heap, t.toks, ?_, q, fun b o e => ?_⟩)))))
  · obtain ⟨th, tg, td, tt, to⟩ := t
    cases m.gens
    cases m.drawn
    cases m.os
    rfl
  · exact m.heap b o (ap3 b o e) (Heap.get?_push_of_some _ (Heap.get?_push_of_some _ e))
/-- set(xs) -/
theorem call_fill (fl : Fills P w l its Fl) (hh : A.handled = none) (hl : s.heap.IsList l its) {Q : Value → Shared → Prop} (hQ : ∀ t, Filled Fl s t → Q (.ref s.heap.objs.size) t) : wpAny (model P w) A (call (.type "set") [.ref l]) Q E s := by
  have tc := F.called_set
  obtain ⟨m1, m2, hm⟩ := tc.mro
  have hma := tc.made
  have hsu := tc.sub
  have k0 := F.typeCall_set_1 (.ref l)
  have k1 := tc.notType
  have k2 := tc.canCreate
  have quiet : (Code.builtin "type.__call__" ⟨[.type "set", .ref l], []⟩).quiet = true := Code.quiet_builtin _ (by decide +kernel)
  have plain := Around.under_plain (A := A) (weight_type_call_type "set" [.ref l] []) rfl
  refine wpAny_call (codeAny_of_tree (wpAny_pure ⟨quiet, codeAny_builtin F.entry_type_call ?_⟩))
  rw [plain]
  repeat any_goals first | assumption | wp_step
  let s0 : Shared := { s with heap := s.heap.push (newSetO w) }
  refine codeAny_mono (code_set_led1 (Q₁ := fun x t => x = .ref s.heap.objs.size ∧ t = s0) (E := E) (.ref l) ⟨rfl, rfl⟩) fun r1 t1 g1 => ?_
  match r1, g1 with
  | .error e, g1 => exact g1
  | .ok .next, g1 => exact g1.elim
  | .ok .brk, g1 => exact g1.elim
  | .ok .cont, g1 => exact g1.elim
  | .ok (.ret x), g1 =>
    obtain ⟨rfl, rfl⟩ := g1
    have hT : s0.TypeIs (.ref s.heap.objs.size) "set" := ⟨_, Heap.get?_push_size _ rfl, rfl⟩
    have y1 := tc.init.lookup
    have y2 := tc.init.bind (.ref s.heap.objs.size)
    repeat any_goals first | assumption | wp_step
    refine codeAny_mono (codeAny_call_builtin (R := wants (fun r t => r = .none ∧ Filled Fl s t) E) tc.init.plain F.entry_set_init (check_set_init_1 hT (fill_init fl (by simp [hh]) hl fun f t g => g))) fun r2 t2 g2 => ?_
    match r2, g2 with
    | .error e, g2 => exact g2
    | .ok .next, g2 => exact g2.elim
    | .ok .brk, g2 => exact g2.elim
    | .ok .cont, g2 => exact g2.elim
    | .ok (.ret x), g2 =>
      obtain ⟨rfl, mk⟩ := g2
      repeat any_goals first | assumption | wp_step
      exact hQ _ mk
end
/-! ### set(xs), xs a list of ints -/
theorem fills_ints {P : Program} {w : World} {l : Addr} {its : Array Value} {ns : List Int} (hi : IntsAre its.toList ns) (hb : ns.length + 1 < scanBound) : Fills P w l its fun a h => ∃ c, SetR w h a (fun j => decide (j ∈ ns)) c := by
  intro A a it t R hh hit ha h0 h1 h2 hR
  have hsz : its.size = ns.length := by
    have q := IntsAre.length hi
    rwa [Array.length_toList] at q
  have val : ∀ (i : Nat) (v : Value), its[i]? = some v → ∃ k t, ns[i]? = some k ∧ v = .int k t := by
    intro i v hv
    have hv' : its.toList[i]? = some v := by rw [Array.getElem?_toList]; exact hv
    obtain ⟨t, e⟩ := IntsAre.int_at hi i v hv'
    have hlt2 : i < ns.length := by rw [← hsz]; exact (Array.getElem?_eq_some_iff.mp hv).1
    refine ⟨ns[i], t, List.getElem?_eq_getElem hlt2, ?_⟩
    rw [e, List.getD_eq_getElem?_getD, List.getElem?_eq_getElem hlt2] <;> rfl
  exact set_update_ints (Walks.list (prog := P) (w := w) (A := A.in1) (by simp [hh]) it l hit its).toS a ha ns hsz hb val its.size 0 t rfl (Nat.zero_le _) ⟨h1, h2⟩ ⟨0, Nat.le_refl 0, setR_new_at h0⟩ fun t' c m _ r => hR t' m ⟨c, r⟩
/-- the members, one by one -/
def Keys0 (ns ks : List Int) : Prop := ks.Nodup ∧ ∀ k, k ∈ ks ↔ k ∈ ns
theorem setR_keys {w : World} {h : Heap} {a : Addr} {ns : List Int} {c : Nat} (R : SetR w h a (fun j => decide (j ∈ ns)) c) : ∃ ks, Keys0 ns ks ∧ ks.length = c := by
  obtain ⟨o, es, ep, t, _, _, _, _, nd, hk, _, _, hn, _⟩ := R
  refine ⟨es.toList.map keyOf, ⟨nd, fun k => ?_⟩, ?_⟩
  · have z := hk k
    simp only [decide_eq_true_eq] at z
    exact z.symm
  · rw [List.length_map, Array.length_toList]; exact hn
/-- set(xs) -/
def rSetI (K : PySem.W.Frag) (w : World) : List V → Hp → VK → Prop := fun xs H Q => ∃ p ns, xs = [.ref p] ∧ SqL K H p (ns.map V.int) ∧ ns.length ≤ 1000 ∧
  ∀ l ks, H l = none → Keys0 ns ks → Q (.ref l) (upd H l (SetO w l (fun j => decide (j ∈ ns)) ks.length))
theorem cr_setI {X : Cx} (hc : X.calm = true) : CallR X (.type "set") (rSetI X.K X.w) := by
  intro pins s σ H xs us Q I r ⟨p, ns, ex, hp, hz, q⟩
  subst ex
  rw [Vals.ref1 r]
  obtain ⟨its, rv, pl, hlen⟩ := I.list hp
  refine call_fill (fills_ints (ints_of_vals rv) (by have : 1000 + 1 < scanBound := (by decide); omega)) (I.ok.hd hc) pl.isList fun s2 ⟨h', tk, e, ⟨c, R⟩, kp⟩ => ?_
  obtain ⟨ks, k1, rfl⟩ := setR_keys R
  subst e
  exact ⟨.ref _, _, I.laid (t' := tk) kp (Nat.le_refl _) (setO_new R), rfl, q _ ks (I.hok.fresh (Nat.le_refl _)) k1⟩
theorem nodup_le {ks ns : List Int} (h : ks.Nodup) (g : ∀ k, k ∈ ks → k ∈ ns) : ks.length ≤ ns.length := by
  induction ks generalizing ns with
  | nil => simp
  | cons x r ih =>
    rw [List.nodup_cons] at h
    have hx := g x (by simp)
    have q := ih h.2 (ns := ns.erase x) fun k hk => (List.mem_erase_of_ne fun (z : k = x) => h.1 (by rw [← z]; exact hk)).mpr (g k (by simp [hk]))
    have p := List.length_pos_of_mem hx
    rw [List.length_erase_of_mem hx] at q
    simp only [List.length_cons]
    omega
theorem Keys0.le {ns ks : List Int} (h : Keys0 ns ks) : ks.length ≤ ns.length := nodup_le h.1 fun k hk => (h.2 k).mp hk
end WA

namespace WA
open PySem PySem.Spec PyProof.Rows L2 Evl
/-! ### signs stripped -/
theorem strip_signs (r : List Bool) : Txt.stripChars (rs r) "x-" = "" := by
  have h0 : ∀ b, (("x-" : Str).cps.contains (sg b)) = true := by intro b; cases b <;> decide +kernel
  have e1 : ((rs r).cps.toList.takeWhile ("x-" : Str).cps.contains).length = r.length := by
    rw [rs_tl]
    have : ∀ l : List Bool, ((l.map sg).takeWhile ("x-" : Str).cps.contains) = l.map sg := by
      intro l
      induction l with
      | nil => rfl
      | cons b l ih => rw [List.map_cons, List.takeWhile_cons, if_pos (h0 b), ih]
    rw [this, List.length_map]
  have e2 : stripLo ("x-" : Str).cps.contains true (rs r) = r.length := e1
  have e3 : stripHi ("x-" : Str).cps.contains true (rs r) r.length = r.length := by
    unfold stripHi
    rw [if_pos rfl, rs_tl, List.drop_of_length_le (by rw [List.length_map]; exact Nat.le_refl _), rs_len]
    rfl
  unfold Txt.stripChars Txt.stripBy
  unfold stripSame stripped
  rw [e2, e3, rs_len]
  cases r with
  | nil =>
    rw [if_pos (by rfl)]
    rfl
  | cons b r =>
    rw [if_neg (by simp)]
    refine TL.ext_tl ?_
    rw [TL.tl_strSub, Nat.sub_self, List.take_zero]
    decide +kernel
/-! ### a table at an address -/
structure At (K : PySem.W.Frag) (H : Hp) (a : Addr) (T : Tb) (w : Nat) : Prop where
  sq : SqL K H a (tv T)
  rect : Rect T w
  ln : T.length ≤ 1000
  lw : w ≤ 1000
theorem At.mono {K : PySem.W.Frag} {H H' : Hp} {a : Addr} {T : Tb} {w : Nat} (h : At K H a T w) (e : Ex H H') : At K H' a T w := ⟨ex_l e h.sq, h.rect, h.ln, h.lw⟩
theorem At.row {K : PySem.W.Frag} {H : Hp} {a : Addr} {T : Tb} {w i : Nat} (h : At K H a T w) (hi : i < T.length) : (T.getD i []).length = w := by
  rw [List.getD_eq_getElem?_getD, List.getElem?_eq_getElem hi]
  exact h.rect _ (List.getElem_mem hi)
theorem row_at {T : Tb} {i : Nat} (hi : i < T.length) : T[i]? = some (T.getD i []) := by
  rw [List.getD_eq_getElem?_getD, List.getElem?_eq_getElem hi]; rfl
theorem mem_row {T : Tb} {i : Nat} (hi : i < T.length) : T.getD i [] ∈ T := List.mem_of_getElem? (row_at hi)
section
variable {K : PySem.W.Frag} {σ : L2.St} {H H' : Hp} {te ta tb : TE}
theorem dec_s1 (b c : Bool) : decide (V.str (s1 b) = V.str (s1 c)) = decide (b = c) := by
  by_cases h : b = c
  · subst h; simp
  · rw [decide_eq_false h, decide_eq_false fun e => h (s1_inj (V.str.inj e))]
theorem ev_isX {b : Bool} (h : Ev te σ H (.str (s1 b))) : Ev (tOp rEq te (tC (.str "x"))) σ H (.bl b) :=
  ev_is (ev_op h ev_c (rv_eq rfl)) (by rw [s1_x, dec_s1]; cases b <;> rfl)
theorem ev_isD {b : Bool} (h : Ev te σ H (.str (s1 b))) : Ev (tOp rEq te (tC (.str "-"))) σ H (.bl (!b)) :=
  ev_is (ev_op h ev_c (rv_eq rfl)) (by rw [s1_d, dec_s1]; cases b <;> rfl)
/-- T[i] -/
theorem ev_rowI {T : Tb} {i : Nat} {v : V} (h : EvS K ta σ H (tv T)) (hi : i < T.length) (hb : Ev tb σ H (.int (i : Nat))) : Ev (tOp (rIxL K) ta tb) σ H (.str (rs (T.getD i []))) := ev_ixLS h hb (atI_nat (tv_get (row_at hi)))
/-- T[i][j] -/
theorem ev_cell {a : Addr} {T : Tb} {w i j : Nat} {tc : TE} (h : At K H a T w) (ha : Ev ta σ H (.ref a)) (hb : Ev tb σ H (.int (i : Nat))) (hc : Ev tc σ H (.int (j : Nat))) (hi : i < T.length) (hj : j < w) :
    Ev (tOp rIxS (tOp (rIxL K) ta tb) tc) σ H (.str (s1 (gt T i j))) := by
  have hr := h.row hi
  have := h.lw
  exact ev_ixSg (ev_rowI (v := .non) (evs ha h.sq) hi hb) hc (by omega) (by omega)
theorem ev_lenTab {a : Addr} {T : Tb} {w : Nat} (h : At K H a T w) (ha : Ev ta σ H (.ref a)) : Ev (tCB (rLn K) (tCons ta tNil)) σ H (.int (T.length : Nat)) := by
  have := ev_lenS (evs ha h.sq)
  rw [tv_len] at this
  exact this
theorem ev_lenRow {r : List Bool} (h : Ev te σ H (.str (rs r))) (hz : r.length ≤ 1000) : Ev (tCB (rLn K) (tCons te tNil)) σ H (.int (r.length : Nat)) := by
  have := ev_lenT (K := K) h (by rw [rs_len]; omega)
  rw [rs_len] at this
  exact this
/-- len(T[0]) -/
theorem ev_len0 {a : Addr} {T : Tb} {w : Nat} (h : At K H a T w) (ha : Ev ta σ H (.ref a)) (hn : T ≠ []) : Ev (tCB (rLn K) (tCons (tOp (rIxL K) ta (tC (.int 0))) tNil)) σ H (.int (w : Nat)) := by
  have h0 : 0 < T.length := List.length_pos_iff.mpr hn
  have hr := h.row h0
  have := h.lw
  have z := ev_lenRow (K := K) (ev_rowI (v := .non) (evs ha h.sq) h0 (tb := tC (.int 0)) ev_c) (by omega)
  rw [hr] at z
  exact z
/-- T == [] -/
theorem ev_empty {T : Tb} (h : EvS K ta σ H (tv T)) : Ev (tOp (rEqD K) ta (tLst tNil)) σ H (.bl (decide (T = []))) :=
  ev_is (ev_eqS h (els el_nil) (si_tv T) rfl) (by rw [show ([] : List V) = tv [] from rfl, dec_tv])
theorem ev_nempty {T : Tb} (h : EvS K ta σ H (tv T)) : Ev (tOp (rNeD K) ta (tLst tNil)) σ H (.bl (!decide (T = []))) :=
  ev_is (ev_neS h (els el_nil) (si_tv T) rfl) (by rw [show ([] : List V) = tv [] from rfl, dec_tv])
theorem ev_eqTab {T T' : Tb} (h : EvS K ta σ H (tv T)) (g : EvS K tb σ H (tv T')) : Ev (tOp (rEqD K) ta tb) σ H (.bl (decide (T = T'))) :=
  ev_is (ev_eqS h g (si_tv T) (si_tv T')) (by rw [dec_tv])
theorem ev_neTab {T T' : Tb} (h : EvS K ta σ H (tv T)) (g : EvS K tb σ H (tv T')) : Ev (tOp (rNeD K) ta tb) σ H (.bl (!decide (T = T'))) :=
  ev_is (ev_neS h g (si_tv T) (si_tv T')) (by rw [dec_tv])
theorem ev_eqInts {T T' : List Int} (h : EvS K ta σ H (T.map V.int)) (g : EvS K tb σ H (T'.map V.int)) : Ev (tOp (rEqD K) ta tb) σ H (.bl (decide (T = T'))) :=
  ev_is (ev_eqS h g (si_ints T) (si_ints T')) (by rw [dec_ints])
theorem ev_neInts {T T' : List Int} (h : EvS K ta σ H (T.map V.int)) (g : EvS K tb σ H (T'.map V.int)) : Ev (tOp (rNeD K) ta tb) σ H (.bl (!decide (T = T'))) :=
  ev_is (ev_neS h g (si_ints T) (si_ints T')) (by rw [dec_ints])
theorem ev_lenInts {ns : List Int} (h : EvS K ta σ H (ns.map V.int)) : Ev (tCB (rLn K) (tCons ta tNil)) σ H (.int (ns.length : Nat)) := by
  have := ev_lenS h
  rw [List.length_map] at this
  exact this
/-- row.strip("x-") != "" -/
theorem ev_strip {r : List Bool} (h : Ev te σ H (.str (rs r))) (hz : r.length ≤ 1000) : Ev (tM1 rStripC te (tC (.str "x-"))) σ H (.str "") := fun H1 e Q q =>
  h H1 e _ fun H2 e2 => ⟨⟨_, rfl⟩, ⟨rs r, "x-", rfl, rfl, sz_of (by rw [rs_len]; omega), by rw [strip_signs]; exact q H2 e2⟩⟩
/-- the turned table as a comprehension gives it -/
theorem el_turn {a : Addr} {T : Tb} {w j k : Nat} {t1 t2 : TE} {vs vs' : List Nat} {tn : TE} (h : At K H a T w) (hn : Ev tn σ H (.int (w : Nat))) (hw : ∀ x, wipe ((wipe σ vs).set j (some x)) vs = wipe σ vs)
    (hw' : ∀ x y, wipe ((wipe ((wipe σ vs).set j (some x)) vs').set k (some y)) vs' = wipe ((wipe σ vs).set j (some x)) vs')
    (ht : ∀ i, i < w → Ev t1 ((wipe σ vs).set j (some (.int (i : Nat)))) H (.ref a))
    (he : ∀ i r, i < w → r ∈ T → Ev t2 ((wipe ((wipe σ vs).set j (some (.int (i : Nat)))) vs').set k (some (.str (rs r)))) H (.str (s1 (r.getD i false)))) :
    EvL (tLc (iRng1 (tCons tn tNil)) (gName j) tYes (tM1 (rJoin K) (tC (.str "")) (tLc (iList K t1) (gName k) tYes t2 vs')) vs) σ H (tv (turn T w)) := by
  have hl := h.ln
  have hlw := h.lw
  refine EvL.is (el_mapR (f := fun i => V.str (rs (T.map fun r => r.getD i false))) hn (by omega) hw fun i hi => ?_) (by unfold tv turn; rw [List.map_map]; rfl)
  refine ev_joinS (bs := T.map fun r => r.getD i false) ?_ (by rw [List.length_map]; omega)
  rw [List.map_map]
  exact els (el_map (l := T) (g := fun r => V.str (rs r)) (evs (ht i hi) h.sq) (by omega) (hw' _) fun r hr => he i r hi hr)
end
/-! ### a bit's sign -/
def bit (c : Int) (k : Nat) : Bool := decide (c / 2 ^ k % 2 = 1)
section
variable {K : PySem.W.Frag} {σ : L2.St} {H H' : Hp} {ta tb te tx : TE} {t u : TT} {x y z v : V} {D : Ends} {tu tw tz : TS} {g : TG}
theorem ev_bitSg {c : Int} {k : Nat} (h : Ev ta σ H (.int c)) (h' : Ev tb σ H (.int (k : Nat))) : Ev (tOp rIxS (tC (.str "-x")) (tOp rAndI (tOp rShrI ta tb) (tC (.int 1)))) σ H (.str (s1 (bit c k))) := by
  have e1 : Builtin.bitAnd (c / 2 ^ ((k : Nat) : Int).toNat) 1 = c / 2 ^ k % 2 := by rw [Int.toNat_natCast, bitAnd_m1]
  have h1 : Ev (tOp rAndI (tOp rShrI ta tb) (tC (.int 1))) σ H (.int (c / 2 ^ k % 2)) := ev_is (ev_op (ev_op h h' (rv_I (Int.natCast_nonneg _))) ev_c rv_I0) (by rw [e1])
  have hl : ("-x" : Str).length ≤ 100000 := by decide +kernel
  have h2 : c / 2 ^ k % 2 = 0 ∨ c / 2 ^ k % 2 = 1 := by omega
  rcases h2 with h2 | h2
  · rw [h2] at h1
    have z := ev_op (ev_c (σ := σ) (H := H) (v := V.str "-x")) h1 (rv_ixS (c := 45) hl (by decide +kernel))
    refine ev_is z ?_
    unfold bit
    rw [h2]
    rfl
  · rw [h2] at h1
    have z := ev_op (ev_c (σ := σ) (H := H) (v := V.str "-x")) h1 (rv_ixS (c := 120) hl (by decide +kernel))
    refine ev_is z ?_
    unfold bit
    rw [h2]
    rfl
theorem q_asgUg {xs : List V} (h : EvU te σ H xs) (k : ∀ p H1, Ex H H1 → H1 p = some (.tup xs) → g (.ref p) σ H1 (tz D)) : tSeq (tAsg te g) tz D σ H := h H (Ex.refl H) _ fun p H1 _ e1 hp => k p H1 e1 hp
/-- i, j = a, b by a tuple -/
theorem q_pair {i j : Nat} (ha : Ev ta σ H x) (hb : Ev tb σ H y) (k : ∀ H1, Ex H H1 → tz D ((σ.set i (some x)).set j (some y)) H1) :
    tSeq (tAsg (tTup (tCons ta (tCons tb tNil))) (gTup K 2 (gCons (gName i) (gCons (gName j) gNil)))) tz D σ H :=
  q_asgUg (xs := [x, y]) (eu_tup (ea_cons ha (ea_cons hb ea_nil)) (show 2 ≤ 100000 by decide)) fun p H1 e1 hp => g_pair (st_of hp) (k H1 e1)
theorem q_parA {i j : Nat} {ts : TA} (h : EvA ts σ H [x, y]) (k : ∀ H1, Ex H H1 → tz D ((σ.set i (some x)).set j (some y)) H1) : tSeq (tPar i j ts) tz D σ H :=
  h H (Ex.refl H) _ fun H1 e1 => ⟨x, y, rfl, k H1 e1⟩
/-- i, j = a, b -/
theorem q_par {i j : Nat} (ha : Ev ta σ H x) (hb : Ev tb σ H y) (k : ∀ H1, Ex H H1 → tz D ((σ.set i (some x)).set j (some y)) H1) : tSeq (tPar i j (tCons ta (tCons tb tNil))) tz D σ H :=
  q_parA (ea_cons ha (ea_cons hb ea_nil)) k
/-- (a, b, c)[code % 3] -/
def pick3 (m : Int) (a b c : Int) : Int := if m = 0 then a else if m = 1 then b else c
theorem at_pick3 {m a b c : Int} (h : 0 ≤ m ∧ m < 3) : atI [V.int a, V.int b, V.int c] m = some (.int (pick3 m a b c)) := by
  have : m = 0 ∨ m = 1 ∨ m = 2 := by omega
  rcases this with rfl | rfl | rfl <;> rfl
theorem ev_pick3 {m a b c : Int} {tc tm : TE} (ha : Ev ta σ H (.int a)) (hb : Ev tb σ H (.int b)) (hc : Ev tc σ H (.int c)) (hm : Ev tm σ H (.int m)) (h : 0 ≤ m ∧ m < 3) :
    Ev (tOp (rIxT K) (tTup (tCons ta (tCons tb (tCons tc tNil)))) tm) σ H (.int (pick3 m a b c)) :=
  ev_ixU (eu_tup (ea_cons ha (ea_cons hb (ea_cons hc ea_nil))) (show 3 ≤ 100000 by decide)) hm (at_pick3 h)
def pick4 (m : Int) : Int := if m = 0 then 0 else if m = 1 then 1 else if m = 2 then 0 else 2
theorem ev_pick4 {m : Int} {tm : TE} (hm : Ev tm σ H (.int m)) (h : 0 ≤ m ∧ m < 4) :
    Ev (tOp (rIxT K) (tTup (tCons (tC (.int 0)) (tCons (tC (.int 1)) (tCons (tC (.int 0)) (tCons (tC (.int 2)) tNil))))) tm) σ H (.int (pick4 m)) :=
  ev_ixU (eu_tup (ea_cons ev_c (ea_cons ev_c (ea_cons ev_c (ea_cons ev_c ea_nil)))) (by decide)) hm (by
    have : m = 0 ∨ m = 1 ∨ m = 2 ∨ m = 3 := by omega
    rcases this with rfl | rfl | rfl | rfl <;> rfl)
theorem pick4_ok (m : Int) : 0 ≤ pick4 m ∧ pick4 m ≤ 2 := by
  unfold pick4
  split
  · omega
  · split
    · omega
    · split <;> omega
/-! ### a sign turned -/
theorem rs_app (a b : List Bool) : rs a ++ rs b = rs (a ++ b) := by
  refine TL.ext_tl ?_
  rw [TL.tl_append]
  show a.map sg ++ b.map sg = (a ++ b).map sg
  rw [List.map_append]
theorem cut_lo {r : List Bool} {j : Nat} (hj : j ≤ r.length) : cutS (rs r) none (some (j : Int)) = rs (r.take j) := by
  unfold cutS
  rw [HT.sIx_none, HT.sIx_nat, rs_len, rs_tl, List.drop_zero, Nat.sub_zero, Nat.min_eq_left hj, ← List.map_take]
  rfl
theorem cut_hi {r : List Bool} {j : Nat} (hj : j ≤ r.length) : cutS (rs r) (some (j : Int)) none = rs (r.drop j) := by
  unfold cutS
  rw [HT.sIx_none, HT.sIx_nat, rs_len, rs_tl, Nat.min_eq_left hj, ← List.map_drop]
  have e : ((r.drop j).map sg).take (r.length - j) = (r.drop j).map sg := List.take_of_length_le (by rw [List.length_map, List.length_drop]; exact Nat.le_refl _)
  rw [e]
  rfl
def flip (r : List Bool) (j : Nat) : List Bool := r.take j ++ [!r.getD j false] ++ r.drop (j + 1)
theorem flip_len {r : List Bool} {j : Nat} (h : j < r.length) : (flip r j).length = r.length := by
  unfold flip
  rw [List.length_append, List.length_append, List.length_take, List.length_drop]
  simp only [List.length_cons, List.length_nil]
  omega
theorem ev_cutLo {r : List Bool} {j : Nat} (h : Ev ta σ H (.str (rs r))) (hj : Ev tb σ H (.int (j : Nat))) (hl : j ≤ r.length) (hz : r.length ≤ 1000) : Ev (tSl rSlS ta tNoPart (tPart tb)) σ H (.str (rs (r.take j))) := fun H1 e Q q =>
  h H1 e _ fun H2 e2 => hj H2 (e.trans e2) _ fun H3 e3 => ⟨_, rfl, rs r, rfl, sz_of (by rw [rs_len]; omega), by rw [cut_lo hl]; exact q H3 (e2.trans e3)⟩
theorem ev_cutHi {r : List Bool} {j : Nat} (h : Ev ta σ H (.str (rs r))) (hj : Ev tb σ H (.int (j : Nat))) (hl : j ≤ r.length) (hz : r.length ≤ 1000) : Ev (tSl rSlS ta (tPart tb) tNoPart) σ H (.str (rs (r.drop j))) := fun H1 e Q q =>
  h H1 e _ fun H2 e2 => hj H2 (e.trans e2) _ fun H3 e3 => ⟨_, rfl, rs r, rfl, sz_of (by rw [rs_len]; omega), by rw [cut_hi hl]; exact q H3 (e2.trans e3)⟩
theorem ev_catS {a b : List Bool} (h : Ev ta σ H (.str (rs a))) (h' : Ev tb σ H (.str (rs b))) (hz : a.length ≤ 1000 ∧ b.length ≤ 1000) : Ev (tOp rCatS ta tb) σ H (.str (rs (a ++ b))) := ev_op h h' fun H1 e Q q =>
  ⟨rs a, rs b, rfl, rfl, sz_of (by rw [rs_len, rs_len]; omega), by rw [rs_app]; exact q H1 (Ex.refl H1)⟩
theorem s1_rs (b : Bool) : s1 b = rs [b] := rfl
/-- {'x': '-', '-': 'x'}[s] -/
theorem ev_other {b : Bool} (h : Ev te σ H (.str (s1 b))) : Ev (tDGet (tDisp [((tC (.str "x")), (tC (.str "-"))), ((tC (.str "-")), (tC (.str "x")))]) te) σ H (.str (rs [!b])) := fun H1 e Q q => by
  intro p hp
  refine ⟨upd_same, [(.inr "x", .str "-"), (.inr "-", .str "x")], rfl, by decide, ?_⟩
  have e1 : Ex H1 (upd (upd H1 p (.dK [])) p (.dK (mergeK [] [(.inr "x", .str "-"), (.inr "-", .str "x")]))) := Ex.mut (Ex.new hp) hp
  refine h _ (e.trans e1) _ fun H2 e2 => ⟨p, _, rfl, .inl ⟨_, .inr (s1 b), .inl (e2 p _ upd_same), rfl, ?_⟩, q H2 (e1.trans e2)⟩
  cases b
  · show some (V.str (rs [true])) = _
    rw [← s1_rs, ← s1_x, ← s1_d]
    decide +kernel
  · show some (V.str (rs [false])) = _
    rw [← s1_rs, ← s1_x, ← s1_d]
    decide +kernel
/-! ### tables made sign by sign -/
def bitsT (ns : List Int) (w : Nat) : Tb := ns.map fun c => (List.range w).map (bit c)
theorem bitsT_len (ns : List Int) (w : Nat) : (bitsT ns w).length = ns.length := List.length_map _
theorem bitsT_rect (ns : List Int) (w : Nat) : Rect (bitsT ns w) w := fun r hr => by
  obtain ⟨c, _, rfl⟩ := List.mem_map.mp hr
  rw [List.length_map, List.length_range]
theorem el_bits {ns : List Int} {w j k : Nat} {tl tn t1 t2 : TE} {vs vs' : List Nat} (h : EvS K tl σ H (ns.map V.int)) (hz : ns.length ≤ 1000 ∧ w ≤ 1000) (hw : ∀ x, wipe ((wipe σ vs).set j (some x)) vs = wipe σ vs)
    (hn : ∀ c : Int, Ev tn ((wipe σ vs).set j (some (.int c))) H (.int (w : Nat)))
    (hw' : ∀ x y, wipe ((wipe ((wipe σ vs).set j (some x)) vs').set k (some y)) vs' = wipe ((wipe σ vs).set j (some x)) vs')
    (h1 : ∀ (c : Int) (i : Nat), Ev t1 ((wipe ((wipe σ vs).set j (some (.int c))) vs').set k (some (.int (i : Nat)))) H (.int c))
    (h2 : ∀ (c : Int) (i : Nat), Ev t2 ((wipe ((wipe σ vs).set j (some (.int c))) vs').set k (some (.int (i : Nat)))) H (.int (i : Nat))) :
    EvL (tLc (iList K tl) (gName j) tYes (tM1 (rJoin K) (tC (.str "")) (tLc (iRng1 (tCons tn tNil)) (gName k) tYes (tOp rIxS (tC (.str "-x")) (tOp rAndI (tOp rShrI t1 t2) (tC (.int 1)))) vs')) vs) σ H (tv (bitsT ns w)) := by
  refine EvL.is (el_map (g := V.int) (f := fun c => V.str (rs ((List.range w).map (bit c)))) h (by omega) hw fun c hc => ?_) (by unfold tv bitsT; rw [List.map_map]; rfl)
  refine ev_joinS ?_ (by rw [List.length_map, List.length_range]; omega)
  rw [List.map_map]
  exact els (el_mapR (f := fun i => V.str (s1 (bit c i))) (hn c) (by omega) (hw' _) fun i hi => ev_bitSg (h1 c i) (h2 c i))
theorem el_signs {α β : Type} {l : List α} {m : List β} {g : α → V} {g' : β → V} {p : α → β → Bool} {j k : Nat} {tl tm : TE} {tt : TT} {vs vs' : List Nat} (h : EvS K tl σ H (l.map g)) (hz : l.length ≤ 1000 ∧ m.length ≤ 1000)
    (hw : ∀ x, wipe ((wipe σ vs).set j (some x)) vs = wipe σ vs) (hm : ∀ a ∈ l, EvS K tm ((wipe σ vs).set j (some (g a))) H (m.map g'))
    (hw' : ∀ x y, wipe ((wipe ((wipe σ vs).set j (some x)) vs').set k (some y)) vs' = wipe ((wipe σ vs).set j (some x)) vs')
    (ht : ∀ a ∈ l, ∀ b ∈ m, EvT tt ((wipe ((wipe σ vs).set j (some (g a))) vs').set k (some (g' b))) H (p a b)) :
    EvL (tLc (iList K tl) (gName j) tYes (tM1 (rJoin K) (tC (.str "")) (tLc (iList K tm) (gName k) tYes (tIf tt (tC (.str "x")) (tC (.str "-"))) vs')) vs) σ H (tv (l.map fun a => m.map fun b => p a b)) := by
  refine EvL.is (el_map (g := g) (f := fun a => V.str (rs (m.map fun b => p a b))) h (by omega) hw fun a ha => ?_) (by unfold tv; rw [List.map_map]; rfl)
  refine ev_joinS ?_ (by rw [List.length_map]; omega)
  rw [List.map_map]
  exact els (el_map (g := g') (f := fun b => V.str (s1 (p a b))) (hm a ha) (by omega) (hw' _) fun b hb => ev_ifSg (ht a ha b hb))
theorem rect_signs {α β : Type} (l : List α) (m : List β) (p : α → β → Bool) : Rect (l.map fun a => m.map fun b => p a b) m.length := fun r hr => by
  obtain ⟨a, _, rfl⟩ := List.mem_map.mp hr
  rw [List.length_map]
theorem tv_set (T : Tb) (i : Nat) (r : List Bool) : tv (T.set i r) = (tv T).set i (.str (rs r)) := by unfold tv; rw [List.map_set]
theorem rect_set {T : Tb} {w i : Nat} {r : List Bool} (h : Rect T w) (hr : r.length = w) : Rect (T.set i r) w := fun x hx => by
  rcases List.mem_or_eq_of_mem_set hx with hx | rfl
  · exact h x hx
  · exact hr
theorem md_ok {a : Int} {n : Nat} (hn : 0 < n) : ∃ i : Nat, a % (n : Int) = (i : Nat) ∧ i < n := ⟨(a % (n : Int)).toNat, by
  have := Int.emod_nonneg a (show (n : Int) ≠ 0 by omega)
  omega, by
  have := Int.emod_nonneg a (show (n : Int) ≠ 0 by omega)
  have := Int.emod_lt_of_pos a (show (0 : Int) < n by omega)
  omega⟩
end
end WA

namespace WA
open PySem PySem.Spec PyProof.Rows L2 Evl
theorem pick_int (ns : List Int) (lo hi st : Option Int) : pick (ns.map V.int) lo hi st = (pick ns lo hi st).map V.int := pick_map _ _ _ _ _
theorem pick_tv (T : Tb) (lo hi st : Option Int) : pick (tv T) lo hi st = tv (pick T lo hi st) := pick_map _ _ _ _ _
theorem pick_mem {α : Type} {xs : List α} {lo hi st : Option Int} {x : α} (h : x ∈ pick xs lo hi st) : x ∈ xs := by
  unfold pick at h
  obtain ⟨i, _, hi⟩ := List.mem_filterMap.mp h
  exact List.mem_of_getElem? hi
/-- how many a slice with a step takes at most -/
def stepLen (lo hi st : Option Int) (n : Nat) : Nat := (sliceRange (sliceBounds lo hi st n).1 (sliceBounds lo hi st n).2.1 (sliceBounds lo hi st n).2.2).length
section
variable {K : PySem.W.Frag} {w : World} {σ : L2.St} {H H' : Hp} {ta tb te tx : TE} {t u : TT} {x y z v : V} {D : Ends} {tu tw tz : TS} {g : TG} {xs ys : List V}
theorem el_sl3 {tl th ts : TO} {lo hi st : Option Int} (h : EvS K te σ H xs) (h1 : EvO tl σ H lo) (h2 : EvO th σ H hi) (h3 : EvO ts σ H st) (h0 : st ≠ some 0) (hz : stepLen lo hi st xs.length ≤ 1000) : EvL (tSl3 K te tl th ts) σ H (pick xs lo hi st) := fun H1 e Q q =>
  h H1 e _ fun a H2 e2 hx => h1 H2 (e.trans e2) _ fun H3 e3 => h2 H3 ((e.trans e2).trans e3) _ fun H4 e4 => h3 H4 (((e.trans e2).trans e3).trans e4) _ fun H5 e5 =>
    ⟨a, xs, rfl, ex_l ((e3.trans e4).trans e5) hx, h0, Nat.le_trans (pick_len _ _ _ _) (sz_of (Nat.le_trans hz (by decide))), fun p hp => q p _ (fresh_back (((e2.trans e3).trans e4).trans e5) hp) ((((e2.trans e3).trans e4).trans e5).trans (Ex.new hp)) upd_same⟩
theorem q_asgG {g : TG} (h : Ev te σ H v) (k : ∀ H1, Ex H H1 → g v σ H1 (tz D)) : tSeq (tAsg te g) tz D σ H := h H (Ex.refl H) _ fun H1 e1 => k H1 e1
/-- a tuple of two new lists -/
def EvU2 (te : TE) (σ : L2.St) (H : Hp) (xs ys : List V) : Prop := ∀ H1, Ex H H1 → ∀ Q : VK, (∀ a p q H2, H1 p = none → H1 q = none → Ex H1 H2 → H2 a = some (.tup [.ref p, .ref q]) → H2 p = some (.lst xs) → H2 q = some (.lst ys) → Q (.ref a) H2) → te σ H1 Q
theorem eu2 (ha : EvL ta σ H xs) (hb : EvL tb σ H ys) : EvU2 (tTup (tCons ta (tCons tb tNil))) σ H xs ys := fun H1 e Q q =>
  ha H1 e _ fun p H2 hp e2 h2 => hb H2 (e.trans e2) _ fun q' H3 hq e3 h3 => ⟨sz_of (show 2 ≤ 100000 by decide), fun a hn =>
    q a p q' _ hp (fresh_back e2 hq) ((e2.trans e3).trans (Ex.new hn)) upd_same (Ex.new hn p _ (e3 p _ h2)) (Ex.new hn q' _ h3)⟩
theorem q_pairLL {i j : Nat} (h : EvU2 te σ H xs ys) (k : ∀ p q H1, Ex H H1 → H p = none → H q = none → H1 p = some (.lst xs) → H1 q = some (.lst ys) → tz D ((σ.set i (some (.ref p))).set j (some (.ref q))) H1) :
    tSeq (tAsg te (gTup K 2 (gCons (gName i) (gCons (gName j) gNil)))) tz D σ H :=
  h H (Ex.refl H) _ fun a p q H1 fp fq e1 ha hp hq => g_pair (st_of ha) (k p q H1 e1 fp fq hp hq)
/-! ### a new list of which something is known -/
def EvLP (te : TE) (σ : L2.St) (H : Hp) (P : List V → Prop) : Prop := ∀ H1, Ex H H1 → ∀ Q : VK, (∀ xs p H2, P xs → H1 p = none → Ex H1 H2 → H2 p = some (.lst xs) → Q (.ref p) H2) → te σ H1 Q
theorem elp {P : List V → Prop} (h : EvL te σ H xs) (p : P xs) : EvLP te σ H P := fun H1 e Q q => h H1 e Q fun a H2 hp e2 h2 => q xs a H2 p hp e2 h2
theorem elp_mono {P P' : List V → Prop} (h : EvLP te σ H P) (p : ∀ xs, P xs → P' xs) : EvLP te σ H P' := fun H1 e Q q => h H1 e Q fun xs a H2 px hp e2 h2 => q xs a H2 (p xs px) hp e2 h2
theorem elp_if {P : List V → Prop} {b : Bool} (h : EvT t σ H b) (h1 : b = true → EvLP ta σ H P) (h2 : b = false → EvLP tb σ H P) : EvLP (tIf t ta tb) σ H P := fun H1 e Q q => h H1 e _ fun H2 e2 => by
  cases b with
  | true =>
    show ta σ H2 Q
    exact h1 rfl H2 (e.trans e2) Q fun xs p H3 px hp e3 h3 => q xs p H3 px (fresh_back e2 hp) (e2.trans e3) h3
  | false =>
    show tb σ H2 Q
    exact h2 rfl H2 (e.trans e2) Q fun xs p H3 px hp e3 h3 => q xs p H3 px (fresh_back e2 hp) (e2.trans e3) h3
theorem q_forLP {P : List V → Prop} {tl : TE} {j : Nat} (h : EvLP tl σ H P) (Pv : L2.St → Hp → Prop) (h0 : ∀ H1, Ex H H1 → Pv σ H1)
    (hs : ∀ xs x σ' H', P xs → x ∈ xs → Pv σ' H' → ∀ D' : Ends, D'.rt = D.rt → (∀ σ2 H2, Ex H' H2 → Pv σ2 H2 → D'.nx σ2 H2) → tu D' (σ'.set j (some x)) H')
    (hd : ∀ σ' H', Pv σ' H' → tz D σ' H') : tSeq (tFor (iList K tl) (gName j) tu) tz D σ H :=
  h H (Ex.refl H) _ fun xs p H1 px _ e1 hp => ⟨p, rfl, ⟨xs, sq_of hp⟩, for_list (fun _ σ' H' => Ex H1 H' ∧ Pv σ' H') ⟨Ex.refl H1, h0 H1 e1⟩ (fun _ _ _ _ q => sq_of (q.1 p _ hp))
    (fun i x σ' H' hx q => hs xs x σ' H' px (List.mem_of_getElem? hx) q.2 _ rfl fun σ2 H2 e2 pv => ⟨q.1.trans e2, pv⟩) fun σ' H' q => hd σ' H' q.2⟩
theorem s_forLP {P : List V → Prop} {tl : TE} {j : Nat} (h : EvLP tl σ H P) (Pv : L2.St → Hp → Prop) (h0 : ∀ H1, Ex H H1 → Pv σ H1)
    (hs : ∀ xs x σ' H', P xs → x ∈ xs → Pv σ' H' → ∀ D' : Ends, D'.rt = D.rt → (∀ σ2 H2, Ex H' H2 → Pv σ2 H2 → D'.nx σ2 H2) → tu D' (σ'.set j (some x)) H')
    (hd : ∀ σ' H', Pv σ' H' → D.nx σ' H') : tFor (iList K tl) (gName j) tu D σ H :=
  h H (Ex.refl H) _ fun xs p H1 px _ e1 hp => ⟨p, rfl, ⟨xs, sq_of hp⟩, for_list (fun _ σ' H' => Ex H1 H' ∧ Pv σ' H') ⟨Ex.refl H1, h0 H1 e1⟩ (fun _ _ _ _ q => sq_of (q.1 p _ hp))
    (fun i x σ' H' hx q => hs xs x σ' H' px (List.mem_of_getElem? hx) q.2 _ rfl fun σ2 H2 e2 pv => ⟨q.1.trans e2, pv⟩) fun σ' H' q => hd σ' H' q.2⟩
/-! ### lists put together, sets sorted -/
theorem el_cat (ha : EvL ta σ H xs) (hb : EvL tb σ H ys) (hz : xs.length + ys.length ≤ 1000) : EvL (tOp rCat ta tb) σ H (xs ++ ys) := fun H1 e Q q =>
  ha H1 e _ fun p H2 hp e2 h2 => hb H2 (e.trans e2) _ fun p' H3 hq e3 h3 => ⟨p, p', xs, ys, rfl, rfl, e3 p _ h2, h3, sz_of (by omega), fun l hl => q l _ (fresh_back (e2.trans e3) hl) ((e2.trans e3).trans (Ex.new hl)) upd_same⟩
def threes (n : Nat) : List Int := (List.range ((n + 2) / 3)).map fun (i : Nat) => (i : Int) * 3
theorem rg3_threes (n : Nat) : rgV3 0 3 ((n + 2) / 3) = (threes n).map V.int := by
  unfold rgV3 threes
  rw [List.map_map]
  refine List.map_congr_left fun i _ => ?_
  show V.int (0 + (i : Nat) * 3) = V.int ((i : Int) * 3)
  rw [Int.zero_add]
theorem el_rg3 {n : Nat} (h : Ev te σ H (.int (n : Nat))) (hn : n < 200) : EvL (tLstRg3 (tRg3 (tC (.int 0)) te (tC (.int 3)))) σ H ((threes n).map V.int) := fun H1 e Q q =>
  h H1 e _ fun H2 e2 => ⟨0, (n : Nat), 3, rfl, rfl, rfl, by decide, by decide, (n + 2) / 3, (rg3_ok n hn).1, (rg3_ok n hn).2, by omega, fun p hp => q p _ (fresh_back e2 hp) (e2.trans (Ex.new hp)) (by rw [rg3_threes]; exact upd_same)⟩
def Sorted0 (ns ks : List Int) : Prop := ks.Pairwise (· < ·) ∧ ∀ k, k ∈ ks ↔ k ∈ ns
theorem elp_sortedSet {ns : List Int} (h : EvS K te σ H (ns.map V.int)) (hz : ns.length < 64) : EvLP (tCB (rSortedSet w) (tCons (tCB (rSetI K w) (tCons te tNil)) tNil)) σ H (fun xs => ∃ ks, xs = ks.map V.int ∧ Sorted0 ns ks) := fun H1 e Q q =>
  h H1 e _ fun p H2 e2 hp => ⟨p, ns, rfl, hp, by omega, fun l ks hl hk => ⟨l, _, _, rfl, upd_same, by have := hk.le; omega, fun ms p' h1 h2 _ hn =>
    q _ p' _ ⟨ms, rfl, h1, fun k => by rw [h2 k, decide_eq_true_eq]⟩ (fresh_back (e2.trans (Ex.new hl)) hn) ((e2.trans (Ex.new hl)).trans (Ex.new hn)) upd_same⟩⟩
theorem threes_in {n : Nat} {k : Int} (hn : 0 < n) (h : k ∈ threes n ++ [(n : Int) - 1]) : ∃ j : Nat, k = (j : Nat) ∧ j < n := by
  rcases List.mem_append.mp h with h | h
  · obtain ⟨i, hi, rfl⟩ := List.mem_map.mp h
    have hi' := List.mem_range.mp hi
    exact ⟨i * 3, by rw [Int.natCast_mul]; rfl, by omega⟩
  · have e := List.mem_singleton.mp h
    exact ⟨n - 1, by omega, by omega⟩
theorem threes_len (n : Nat) : (threes n).length = (n + 2) / 3 := by unfold threes; rw [List.length_map, List.length_range]
end
/-- all rows that have a column -/
def colOf (T : Tb) (j : Nat) : List Nat := (List.range T.length).filter fun i => gt T i j
def nv (l : List Nat) : List V := l.map fun i : Nat => V.int (i : Nat)
def intsOf (l : List Nat) : List Int := l.map fun i : Nat => (i : Int)
theorem nv_eq (l : List Nat) : nv l = (intsOf l).map V.int := by unfold nv intsOf; rw [List.map_map]; rfl
theorem nv_int (l : List Nat) : nv l = (intsOf l).map V.int := nv_eq l
theorem nv_len (l : List Nat) : (nv l).length = l.length := List.length_map _
theorem intsOf_len (l : List Nat) : (intsOf l).length = l.length := List.length_map _
theorem colOf_len (T : Tb) (j : Nat) : (colOf T j).length ≤ T.length := by
  unfold colOf
  have h := List.length_filter_le (fun i => gt T i j) (List.range T.length)
  rwa [List.length_range] at h
/-! ### turned -/
def turnT (T : Tb) (w : Nat) : Tb := if T = [] then [] else turn T w
theorem turnT_nil (w : Nat) : turnT [] w = [] := rfl
theorem turnT_ne {T : Tb} {w : Nat} (h : T ≠ []) : turnT T w = turn T w := if_neg h
theorem turnT_rect (T : Tb) (w : Nat) : Rect (turnT T w) T.length := by
  by_cases h : T = []
  · subst h; intro r hr; cases hr
  · rw [turnT_ne h]; exact turn_rect T w
theorem turnT_len (T : Tb) (w : Nat) : (turnT T w).length ≤ w := by
  by_cases h : T = []
  · subst h; exact Nat.zero_le _
  · rw [turnT_ne h, turn_len]; exact Nat.le_refl _
theorem getD_map {α β : Type} (f : α → β) (l : List α) (i : Nat) (d : β) (e : α) (hi : i < l.length) : (l.map f).getD i d = f (l.getD i e) := by
  rw [List.getD_eq_getElem?_getD, List.getElem?_map, List.getElem?_eq_getElem hi, List.getD_eq_getElem?_getD, List.getElem?_eq_getElem hi]; rfl
theorem turn_get {T : Tb} {w j : Nat} (hj : j < w) : (turn T w).getD j [] = T.map fun r => r.getD j false := by
  unfold turn
  rw [getD_map (fun j => T.map fun r => r.getD j false) (List.range w) j [] 0 (by rw [List.length_range]; exact hj)]
  have e : (List.range w).getD j 0 = j := by rw [List.getD_eq_getElem?_getD, List.getElem?_range hj]; rfl
  rw [e]
theorem gt_turn {T : Tb} {w i j : Nat} (hj : j < w) (hi : i < T.length) : gt (turn T w) j i = gt T i j := by
  unfold gt
  rw [turn_get hj, getD_map (fun r : List Bool => r.getD j false) T i false [] hi]
theorem row_ext {r : List Bool} {n : Nat} (h : r.length = n) : ((List.range n).map fun j => r.getD j false) = r := by
  refine List.ext_getElem? fun i => ?_
  rw [List.getElem?_map]
  by_cases hi : i < n
  · rw [List.getElem?_range hi, List.getElem?_eq_getElem (by omega), Option.map_some, List.getD_eq_getElem?_getD, List.getElem?_eq_getElem (by omega)]; rfl
  · rw [List.getElem?_eq_none (by rw [List.length_range]; omega), List.getElem?_eq_none (by omega)]; rfl
/-- turned twice -/
theorem turn_turn {T : Tb} {w : Nat} (h : Rect T w) (hw : w ≠ 0) : turn (turn T w) T.length = T := by
  refine List.ext_getElem? fun i => ?_
  by_cases hi : i < T.length
  · have e : (turn (turn T w) T.length)[i]? = some ((turn T w).map fun r => r.getD i false) := by
      have hl : i < (turn (turn T w) T.length).length := by rw [turn_len]; exact hi
      rw [row_at hl, turn_get hi]
    rw [e, List.getElem?_eq_getElem hi]
    congr 1
    have hr : T[i].length = w := h _ (List.getElem_mem hi)
    rw [← row_ext hr]
    unfold turn
    rw [List.map_map]
    refine List.map_congr_left fun j hj => ?_
    show (T.map fun r => r.getD j false).getD i false = _
    rw [getD_map (fun r : List Bool => r.getD j false) T i false [] hi]
    rw [List.getD_eq_getElem?_getD (l := T), List.getElem?_eq_getElem hi]; rfl
  · rw [List.getElem?_eq_none (by rw [turn_len]; omega), List.getElem?_eq_none (by omega)]
theorem turnT_turnT {T : Tb} {w : Nat} (h : Rect T w) (hw : w ≠ 0) : turnT (turnT T w) T.length = T := by
  by_cases h0 : T = []
  · subst h0; rfl
  · have h1 : turn T w ≠ [] := fun z => by
      have := turn_len T w
      rw [z] at this
      exact hw this.symm
    rw [turnT_ne h0, turnT_ne h1, turn_turn h hw]
theorem At.turned {K : PySem.W.Frag} {H H' : Hp} {a p : Addr} {T : Tb} {w : Nat} (h : At K H a T w) (hp : SqL K H' p (tv (turnT T w))) : At K H' p (turnT T w) T.length :=
  ⟨hp, turnT_rect T w, Nat.le_trans (turnT_len T w) h.lw, h.ln⟩
end WA

namespace WA
open PySem PySem.Spec PyProof.Rows L2 Evl HotX
/-! ### [elt for name in range(n)] where an exception is handled -/
def tLcH (ta : TA) (g : TG) (te : TE) (vs : List Nat) : TE := fun σ H Q => ta σ H fun us H1 => ∃ n : Nat, us = [.int (n : Nat)] ∧ n ≤ 1000 ∧ ∀ D, H1 D = none → ∃ W : Nat → Hp → Prop, W 0 (upd H1 D (.lst [])) ∧
  (∀ i H', i < n → W i H' → g (.int (i : Nat)) (wipe σ vs) H' fun σ2 H2 => wipe σ2 vs = wipe σ vs ∧ te σ2 H2 fun y H3 => ∃ acc, H3 D = some (.lst acc) ∧ acc.length < sizeLine ∧ W (i + 1) (upd H3 D (.lst (acc ++ [y])))) ∧ ∀ H', W n H' → Q (.ref D) H'
theorem pe_lcHot {X : Cx} {elt tg a : Expr} {scope : Scope} {own : List (Str × Nat)} {p p2 pos : Pos} {ta : TA} {g : TG} {te : TE} (hot : L2H.HotC X) (hN : X.N.Nodup) (hgl : Gl X "range") (hmr : X.mg "range" = none) (ha : PA X [a] ta) (ok : BlkOk X.N X.env.scope scope own)
    (hg : ∀ (s : Shared) (H : Hp) (C : Addr) (cl : List (Str × Addr)) (fp : List Addr), PG (X.blk s H scope (compEnvC scope cl C X.env) fp) tg g)
    (he : ∀ (s : Shared) (H : Hp) (C : Addr) (cl : List (Str × Addr)) (fp : List Addr), PE (X.blk s H scope (compEnvC scope cl C X.env) fp) elt te)
    (hst : starEach [a] X.env = [(false, eval a X.env)] := by rfl) (hs : ∀ x, foldedSetIterable (.Call (.Name "range" p) [a] [] p2) X.env x = pure x := by intro _; rfl) :
    PE X (.ListComp elt [⟨tg, .Call (.Name "range" p) [a] [] p2, [], 0⟩] scope pos) (tLcH ta g te (own.map (·.2))) := by
  refine ⟨fun pins s σ H Q I h => ?_⟩
  obtain ⟨⟨xa, xo⟩, ⟨hh, fv, dv, cv⟩, hpx⟩ := hot
  have clo : ∀ y ∈ scope.names, y.2 = .free → ∃ c, X.env.cells.lookup y.1 = some c := fun y hy e => (ok.free y hy e).elim (fun k => I.ok.has _ (.inl k)) fun k => I.ok.has _ (.inr k)
  rw [eval_ListComp]
  refine wpAny_comprehension_free (use := none) rfl hs (closure_ok clo) ok.kind (fun y hy e => by rw [ok.uniq y hy, e]) ?_
  show wpAny (model X.prog X.w) X.A (eval (.Call (.Name "range" p) [a] [] p2) X.env) _ X.xe s
  refine Call_ (ld_blt I hgl hmr boot_range (PyProof.Rows.callWith_type1 (thn (ha.run p2 pins s σ H _ I h) fun us s1 ⟨vs, H1, I1, r1, n, ev, hn, q⟩ => ?_) hst rfl))
  subst ev
  obtain ⟨u0, rfl, tk0, rfl⟩ := vals1 r1
  -- the iterator of the range stands at it
  suffices key : ∀ (s2 : Shared) (it : Addr), L2.Inv X pins σ H1 s2 → IsRangeIter s2.heap it 0 (n : Int) 1 → FpOk X pins H1 it → wpAny (model X.prog X.w) X.A (newList []) (fun acc s₃ => wpAny (model X.prog X.w) X.A
      (newFunctionEnv scope X.env.globals (cloFrom X.env.cells scope.names []) [] X.env.qual none Value.none (some X.env)) (fun cenv s₄ => codeAny (model X.prog X.w) X.A
        (.compStart (.ListComp elt [⟨tg, .Call (.Name "range" p) [a] [] p2, [], 0⟩] scope pos) 0 (.ref it) acc { cenv with scope := relabel scope X.env }) (compPost (model X.prog X.w) X.A X.xe none (EP X pins σ Q) acc cenv.locals) s₄) X.xe s₃) X.xe s2 by
    refine call_range_1 (wpAny_pyIter_range (IsRange.new ..) (small_one (by omega) (by omega) (by omega) (by omega)) ?_)
    have J1 : L2.Inv X pins σ H1 { s1 with heap := s1.heap.push { cls := .type "range", data := .fields #[.int 0 s1.toks, .int (n : Nat) tk0, .int 1 (s1.toks + 1)] }, toks := s1.toks + 1 + 1 } := I1.kept fun b o e => Heap.get?_push_of_some _ e
    have e0 : Builtin.Range.rangeSize 0 ((n : Nat) : Int) 1 = (n : Int) := by rw [rangeSize_nat]; simp
    refine key _ _ (J1.kept (t' := s1.toks + 1 + 1) fun b o e => Heap.get?_push_of_some _ e) ?_ (J1.fpOk (Nat.le_refl _) (J1.hok.fresh (Nat.le_refl _)))
    rw [e0]
    exact Heap.get?_push_size _ rfl
  intro s2 it J st0 fp0
  obtain ⟨c0, c1, c2, c3, c4, c5⟩ := fp0
  have itlt : it < s2.heap.objs.size := Heap.lt_size st0
  refine wpAny_newObj_type (newEnv_comp ?_) (by show 0 ≤ sizeLine; decide)
  obtain ⟨W, w0, wstep, wend⟩ := q s2.heap.objs.size (J.hok.fresh (Nat.le_refl _))
  generalize hD : s2.heap.objs.size = D at w0 wstep wend ⊢
  generalize hs3 : ({ s2 with heap := s2.heap.push { cls := .type "list", data := .seq ([] : List Value).toArray } } : Shared) = s3
  have hp3 : s3.heap = s2.heap.push { cls := .type "list", data := .seq ([] : List Value).toArray } := by rw [← hs3]
  have J3 : L2.Inv X pins σ (upd H1 D (.lst [])) s3 := by
    rw [← hs3]
    exact J.laid (t' := s2.toks) (fun b o e => Heap.get?_push_of_some _ e) (Nat.le_of_eq hD) ⟨Nat.zero_le _, [], 0, .nil, by rw [← hD]; exact Heap.get?_push_size _ rfl⟩
  have neD : it ≠ D := by rw [← hD]; exact Nat.ne_of_lt itlt
  have lt3 : it < s3.heap.objs.size := by rw [hp3, Heap.size_push]; exact Nat.lt_succ_of_lt itlt
  have c0' : upd H1 D (.lst []) it = none := by rw [upd_ne neD]; exact c0
  have st3 : IsRangeIter s3.heap it 0 (n : Int) 1 := by rw [hp3]; exact Heap.get?_push_of_some _ st0
  -- the handled one, behind all that is tracked
  obtain ⟨x1, x2, x3, x4, x5⟩ := J3.pin (xa, xo) (List.mem_append_left _ hpx)
  have xstk : xa ∉ frs X.stack := fun z => (List.mem_cons.mp (J3.stkSub xa z)).elim x3 x4
  have xit : xa ≠ it := c5 (xa, xo) (List.mem_append_left _ hpx)
  generalize upd H1 D (.lst []) = H3 at J3 c0' x2 w0
  have J4 := block_start J3 ok hN (fp := [it]) fun b hb => by
    rw [List.mem_singleton.mp hb]
    exact ⟨⟨c0', c1, c2, c3, c4, c5⟩, lt3⟩
  have pg := hg s3 H3 s3.heap.objs.size (cellsFrom (s3.heap.objs.size + 1) scope.names (cloFrom X.env.cells scope.names [])) [it]
  have pe := he s3 H3 s3.heap.objs.size (cellsFrom (s3.heap.objs.size + 1) scope.names (cloFrom X.env.cells scope.names [])) [it]
  show codeAny _ _ (.compStart (.ListComp elt [⟨tg, .Call (.Name "range" p) [a] [] p2, [], 0⟩] scope pos) 0 (.ref it) (.ref D) (compEnvC scope (cellsFrom (s3.heap.objs.size + 1) scope.names (cloFrom X.env.cells scope.names [])) s3.heap.objs.size X.env)) (compPost (model X.prog X.w) X.A X.xe none (EP X pins σ Q) (.ref D) s3.heap.objs.size) { s3 with heap := pushCells (s3.heap.push { cls := .type "dict", data := .dict #[] }) scope.names }
  generalize hce : compEnvC scope (cellsFrom (s3.heap.objs.size + 1) scope.names (cloFrom X.env.cells scope.names [])) s3.heap.objs.size X.env = ce at J4 pg pe ⊢
  have hcl : ce.locals = s3.heap.objs.size := by rw [← hce]; rfl
  have st4 : IsRangeIter (pushCells (s3.heap.push { cls := .type "dict", data := .dict #[] }) scope.names) it 0 (n : Int) 1 := pushCells_keeps _ _ _ _ (Heap.get?_push_of_some _ st3)
  generalize hs4 : ({ s3 with heap := pushCells (s3.heap.push { cls := .type "dict", data := .dict #[] }) scope.names } : Shared) = s4 at J4 ⊢
  have st4 : IsRangeIter s4.heap it 0 (n : Int) 1 := by rw [← hs4]; exact st4
  have inFp : it ∈ [it] := List.mem_cons_self ..
  have itOk : ∀ {σ' : L2.St} {H' : Hp} {s' : Shared} {pl : List (Addr × Obj)}, L2.Inv (X.blk s3 H3 scope ce [it]) pl σ' H' s' → H' it = none → pl = [] → FpOk (X.blk s3 H3 scope ce [it]) pl H' it := fun {σ' H' s' pl} K' z e => by
    subst e
    exact ⟨z, (K'.ok.exf it inFp).1, K'.ok.exfs it inFp, .inl inFp, fun y c e => (K'.ok.exf it inFp).2 y c e, fun r hr => by cases hr⟩
  have body : codeAny (model X.prog X.w) X.A (.compLoop (.ListComp elt [⟨tg, .Call (.Name "range" p) [a] [] p2, [], 0⟩] scope pos) 0 (.ref it) (.ref D) ce) (compPost (model X.prog X.w) X.A X.xe none (EP X pins σ Q) (.ref D) s3.heap.objs.size) s4 := by
    refine compLoop_any (fun m s' => ∃ (i : Nat) (H' : Hp), m = n - i ∧ i ≤ n ∧ L2.Inv (X.blk s3 H3 scope ce [it]) [] (wipe σ (own.map (·.2))) H' s' ∧ IsRangeIter s'.heap it (i : Int) ((n : Int) - (i : Int)) 1 ∧ H' it = none ∧ W i H') ?_ n ⟨0, H3, by simp, Nat.zero_le _, J4, by simpa using st4, c0', w0⟩
    rintro m s5 ⟨i, H5, rfl, hin, J5, st5, n5, w5⟩
    have xs5 : s5.heap.get? xa = some xo := J5.base.keep xa xo x1 x2 xstk fun z => xit (List.mem_singleton.mp z)
    obtain ⟨a0, a1, a2, a3, a4, a5⟩ := itOk J5 n5 rfl
    by_cases hlt : i < n
    · refine wpAny_pyNext_range_item st5 (by omega) fun h6 st6 sb => ?_
      have J6 : L2.Inv (X.blk s3 H3 scope ce [it]) [] (wipe σ (own.map (·.2))) H5 { s5 with heap := h6, toks := s5.toks + 1 } := J5.turned (fun b o hb e => (sb.2 b hb).trans e) a0 a1 a3 a4 a5
      refine go_of (s := { s5 with heap := h6, toks := s5.toks + 1 }) (n := "range_iterator") st6 rfl rfl (by decide) ?_
      have J7 := J6.pinned (fp := [it]) (fun b hb => by rw [List.mem_singleton.mp hb]; exact itOk J6 n5 rfl) fun b hb => by
        rw [List.mem_singleton.mp hb]
        exact ⟨_, st6, fun v z => by cases z⟩
      refine thnF (pg.run _ _ _ H5 (.int (i : Nat)) _ _ J7 ⟨s5.toks, rfl⟩ (wstep i H5 hlt w5)) fun _ s8 ⟨σ8, H8, J8, hw8, q8⟩ => wpAny_tests_nil ?_
      rw [if_pos rfl]
      refine thnF (pe.run _ s8 σ8 H8 _ J8 q8) fun z s9 ⟨yv, H9, J9, r9, acc, hD9, hz9, w9⟩ => app_ok (X := X.blk s3 H3 scope ce [it]) J9 hD9 hz9 r9 fun s10 J10 => ?_
      obtain ⟨z1, z2, _⟩ := J10.pin (it, _) (List.mem_append_right _ (List.mem_append_right _ (mem_pinsAt inFp st6)))
      refine ⟨n - (i + 1), by omega, i + 1, _, rfl, hlt, (J10.unpinned (pins := [])).weak (by rw [← hw8, wipe_length]) (fun j v e => by rw [← hw8] at e; exact (wipe_some e).1), ?_, z2, w9⟩
      have e1 : ((i + 1 : Nat) : Int) = (i : Int) + 1 := by omega
      have e2 : (n : Int) - ((i : Int) + 1) = (n : Int) - (i : Int) - 1 := by omega
      rw [e1, e2]
      exact z1
    · have e : i = n := by omega
      subst e
      refine pyNext_range_end_hot (x1 := xa) ⟨hh, xo, fv, xs5, dv, cv⟩ st5 (by omega) fun h6 eb => ?_
      have J6 : L2.Inv (X.blk s3 H3 scope ce [it]) [] (wipe σ (own.map (·.2))) H5 { s5 with heap := h6, toks := s5.toks } := J5.turned (fun b o _ e => eb b o e) a0 a1 a3 a4 a5
      have J7 : L2.Inv X pins σ H5 { s5 with heap := h6, toks := s5.toks } := J3.call' (ch := [it]) J6.os J6.base J6.hok J6.bare fun b hb => by rw [List.mem_singleton.mp hb]; exact ⟨c3, c1, c4, c5⟩
      have nC : H5 s3.heap.objs.size = none := by rw [← hcl]; exact J6.free
      obtain ⟨mm, hns, _⟩ := J6.loc
      have hns : Heap.Ns h6 ce.locals mm := hns
      rw [hcl] at hns
      obtain ⟨b0, b1, b2, b3, b4, b5⟩ := J3.fpOk (Nat.le_refl s3.heap.objs.size) nC
      exact ⟨mm, hns, fun h7 sb => ⟨.ref D, H5, J7.turned (t' := s5.toks) (fun b o hb e => (sb.2 b hb).trans e) b0 b1 b3 b4 b5, rfl, wend H5 w5⟩⟩
  exact codeAny_compStart_list body (wpAny_pyIter_rangeiter st4 body)
end WA

namespace WA
open PySem PySem.Spec PyProof.Rows L2 Evl
/-! ### "-" * k -/
def rRepS : R2 := fun x y H Q => ∃ n : Nat, x = .str "-" ∧ y = .int (n : Nat) ∧ 1 ≤ n ∧ n < 1000 ∧ Q (.str (rs (List.replicate n false))) H
theorem fold_dash : ∀ (n : Nat) (acc : List Nat), List.foldl (fun x1 x2 => x1 ++ x2) acc.toArray (List.replicate n (#[45] : Array Nat)) = (acc ++ List.replicate n 45).toArray
  | 0, acc => by simp
  | n + 1, acc => by
    have e : acc.toArray ++ (#[45] : Array Nat) = (acc ++ [45]).toArray := by simp
    rw [List.replicate_succ, List.foldl_cons, e, fold_dash n (acc ++ [45]), List.append_assoc, List.replicate_succ]
    rfl
theorem rs_dash (n : Nat) : (⟨List.foldl (fun x1 x2 => x1 ++ x2) #[] (List.replicate n (#[45] : Array Nat))⟩ : Str) = rs (List.replicate n false) := by
  have := fold_dash n []
  rw [List.nil_append] at this
  have e0 : (#[] : Array Nat) = ([] : List Nat).toArray := rfl
  rw [e0, this]
  unfold rs
  rw [List.map_replicate]
  rfl
theorem cps_dash : ("-" : Str).cps = #[45] := by decide +kernel
theorem len_dash : ("-" : Str).length = 1 := by decide +kernel
theorem op_repS {X : Cx} : OpR X (binaryOp .Mult) rRepS := by
  intro pins s σ H x y v u Q I rx ry h
  obtain ⟨n, rfl, rfl, h1, h2, q⟩ := h
  obtain ⟨t, rfl⟩ := rx
  obtain ⟨t', rfl⟩ := ry
  have hz : sizeLine = 1000000000 ∨ True := .inr trivial
  refine PySem.P.mul_str ?_ ?_ ?_ ?_
  · have a1 : ¬ ((n : Int) < -(2 ^ 63 : Int)) := by omega
    have a2 : ¬ ((n : Int) ≥ 2 ^ 63) := by omega
    rw [decide_eq_false a1, decide_eq_false a2]; rfl
  · intro _ _
    rw [len_dash]
    have : ((2 : Int) ^ 63 - 1) / (n : Int) ≥ 1 := by
      refine (Int.le_ediv_iff_mul_le (by omega)).mpr ?_
      omega
    omega
  · intro _ _
    unfold Builtin.Str.tooLong
    rw [len_dash]
    refine decide_eq_false ?_
    have : (1000 : Nat) ≤ sizeLine := by decide
    simp
    omega
  · rw [if_neg (by omega)]
    by_cases h : n = 1
    · subst h
      rw [if_pos (by decide)]
      exact ⟨.str "-", H, I, ⟨_, rfl⟩, by
        have e : rs (List.replicate 1 false) = ("-" : Str) := by decide +kernel
        rw [e] at q
        exact q⟩
    · rw [if_neg (by rw [len_dash]; simp; omega)]
      have ez : (n : Int).toNat = n := by omega
      rw [ez, cps_dash, rs_dash]
      refine ⟨?_, .str (rs (List.replicate n false)), H, I.tok _, ⟨_, rfl⟩, q⟩
      rw [rs_len, List.length_replicate]
      have : (1000 : Nat) ≤ sizeLine := by decide
      omega
section
variable {σ : L2.St} {H : Hp} {ta tb : TE}
theorem ev_repS {n : Nat} (h : Ev ta σ H (.str "-")) (g : Ev tb σ H (.int (n : Nat))) (h1 : 1 ≤ n) (h2 : n < 1000) : Ev (tOp rRepS ta tb) σ H (.str (rs (List.replicate n false))) :=
  ev_op h g fun H1 e Q q => ⟨n, rfl, rfl, h1, h2, q H1 (Ex.refl H1)⟩
end
/-! ### defs that may raise -/
abbrev CXN (P : Program) (w : World) : CXT := L2N.CX P w
structure CalX (P : Program) (w : World) (K : PySem.W.Frag) (mg : Str → Option Value) (base : Heap) (k : Nat) (x : Str) (f : Addr) (sp : Sp) : Prop where
  ex : ∃ (fd : FuncData) (ps : List Str), FnOk P w K mg base (CXN P w) k f fd ps sp ∧ mg x = some (.ref f) ∧ PySem.W.keepIn K (.ref f) = true ∧ Binds K fd ps []
theorem FnOk.up {P : Program} {w : World} {K : PySem.W.Frag} {mg : Str → Option Value} {base : Heap} {CX : CXT} {j k : Nat} {f : Addr} {fd : FuncData} {ps : List Str} {sp : Sp} (F : FnOk P w K mg base CX j f fd ps sp) (h : j ≤ k) : FnOk P w K mg base CX k f fd ps sp := F.mono h
section
variable {X : Cx} {k j : Nat} {x : Str} {f : Addr} {sp : Sp} {p pos : Pos} {e fe : Expr} {es : List Expr} {t : TA} {tf : TE} {E : XK} {W : WX}
/-- f(..) in a def -/
theorem pe_cX (c : CalX X.prog X.w X.K X.mg X.base k x f sp) (hr : Room j X.A) (hk : k ≤ j) (hg : Gl X x) (tk : L2N.Takes X (fun cls d _ H => E cls d H)) (ha : PA X (e :: es) t)
    (hdb : (x == ("__debug__" : Str)) = false := by decide) (he : starEach (e :: es) X.env = (false, eval e X.env) :: starEach es X.env := by rfl) (hpl : (backTo pos (starEach es X.env)).any (·.1) = false := by rfl) :
    PE X (.Call (.Name x p) (e :: es) [] pos) (tCall sp [] E t) := by
  obtain ⟨fd, ps, F, hm, kp, b⟩ := c.ex
  exact pe_call F (hr.mono hk) hg hm kp b .nil (L2N.passes_call tk fun _ _ _ _ h => h) ha hdb he hpl
/-- f(..) in the body of a try -/
theorem pe_cW (c : CalX X.prog X.w X.K X.mg X.base k x f sp) (hr : Room j X.A) (hk : k ≤ j) (hg : Gl X x) (tk : L2N.Takes X W) (ha : PA X (e :: es) t)
    (hdb : (x == ("__debug__" : Str)) = false := by decide) (he : starEach (e :: es) X.env = (false, eval e X.env) :: starEach es X.env := by rfl) (hpl : (backTo pos (starEach es X.env)).any (·.1) = false := by rfl) :
    PE X (.Call (.Name x p) (e :: es) [] pos) (tCallS sp (WE W) t) := by
  obtain ⟨fd, ps, F, hm, kp, b⟩ := c.ex
  exact pe_callS F (hr.mono hk) hg hm kp b (fun σ => L2N.passAt tk σ) ha hdb he hpl
/-- a def by its address, of several -/
def tCallI (L : List (Addr × Sp)) (E : XK) (tf : TE) (t : TA) : TE := fun σ H Q => tf σ H fun v H1 => ∃ p ∈ L, v = .ref p.1 ∧ t σ H1 fun vs H2 => p.2 (vs ++ []) H2 Q E
theorem pe_callI {L : List (Addr × Sp)} {a b : Expr} {q : Pos} (c : ∀ p ∈ L, ∃ y, CalX X.prog X.w X.K X.mg X.base k y p.1 p.2) (hr : Room j X.A) (hk : k ≤ j) (tk : L2N.Takes X (fun cls d _ H => E cls d H)) (hf : PE X (.Subscript a b q) tf) (ha : PA X (e :: es) t)
    (he : starEach (e :: es) X.env = (false, eval e X.env) :: starEach es X.env := by rfl) (hpl : (backTo pos (starEach es X.env)).any (·.1) = false := by rfl)
    (hc : eval (.Call (.Subscript a b q) (e :: es) [] pos) X.env = (do callWith pos (← eval (.Subscript a b q) X.env) [] (backTo pos (starEach (e :: es) X.env)) (backToKw pos (keywordEach [] X.env))) := by rfl) :
    PE X (.Call (.Subscript a b q) (e :: es) [] pos) (tCallI L E tf t) := by
  refine ⟨fun pins s σ H Q I h => ?_⟩
  refine Call_ (thn (hf.run pins s σ H _ I h) fun v s1 ⟨x, H1, I1, r, hq⟩ => ?_) hc
  obtain ⟨p, hp, rfl, hq⟩ := hq
  cases r
  obtain ⟨y, cy⟩ := c p hp
  obtain ⟨fd, ps, F, hm, kp, b⟩ := cy.ex
  refine PySem.W.callWith_K (h₀ := X.base) I1.ok.mod.kin kp (thn (ha.run pos pins s1 σ H1 _ I1 hq) fun us s2 ⟨vs, H2, I2, r2, q2⟩ => ⟨I2.kIn, ?_⟩) he hpl
  exact run_fn F (hr.mono hk) b .nil (L2N.passes_call tk fun _ _ _ _ h => h) I2 r2 q2
/-- a call of a local name that holds one of several defs -/
def tCallK (L : List (Addr × Sp)) (i : Nat) (t : TA) : TE := fun σ H Q => ∃ p ∈ L, σ[i]? = some (some (.ref p.1)) ∧ t σ H fun vs H1 => p.2 (vs ++ []) H1 Q C8.E0
theorem pe_callK {L : List (Addr × Sp)} {i : Nat} (c : ∀ p ∈ L, ∃ y, C8.Cal X.prog X.w X.K X.mg X.base k y p.2 [] ∧ X.mg y = some (.ref p.1)) (hr : Room j X.A) (hk : k ≤ j) (hN : X.N[i]? = some x) (hv : Vis X.env.scope x) (ha : PA X (e :: es) t)
    (hdb : (x == ("__debug__" : Str)) = false := by decide) (hcd : (x == ("__classdict__" : Str)) = false := by decide)
    (he : starEach (e :: es) X.env = (false, eval e X.env) :: starEach es X.env := by rfl) (hpl : (backTo pos (starEach es X.env)).any (·.1) = false := by rfl) : PE X (.Call (.Name x p) (e :: es) [] pos) (tCallK L i t) := by
  refine ⟨fun pins s σ H Q I h => ?_⟩
  obtain ⟨q, hq, hs, h⟩ := h
  obtain ⟨y, cy, hy⟩ := c q hq
  obtain ⟨f, fd, ps, ds, F, hm, kp, b, d⟩ := cy.ex
  have ef : f = q.1 := Value.ref.inj (Option.some.inj (hm.symm.trans hy))
  subst ef
  have := Vals.length d
  cases d
  exact (pe_callL F (hr.mono hk) hN hv kp b .nil C8.pass0 ha hdb hcd he hpl).run pins s σ H Q I ⟨hs, h⟩
/-- raise C("text") -/
def tRaise (W : WX) (c : Value) : TS := fun _ σ H => W c none σ H
structure OwnX (K : PySem.W.Frag) (mg : Str → Option Value) (x : Str) (C : Addr) : Prop where
  ei : PySem.W.excIn K C He.veBase "ValueError.__new__" = true
  kp : PySem.W.keepIn K (.ref C) = true
  sb : PySem.W.subIn K (.ref C) (.type "BaseException") = some true
  ty : PySem.W.typeIn K (.ref C) = some (.type "type")
  mg : mg x = some (.ref C)
theorem ps_raiseX {C : Addr} {m : Str} {i : Nat} {p2 pr : Pos} (o : OwnX X.K X.mg x C) (hc : X.calm = true) (tk : L2N.Takes X W) (hg : Gl X x) (hdb : (x == ("__debug__" : Str)) = false := by decide) :
    PS X (.Raise (some (.Call (.Name x p) [.Constant (.str m) i p2] [] pos)) none pr) (tRaise W (.ref C)) :=
  L2N.ps_raise hc tk (L2N.pmk_own PySem.F.excBase_ValueError o.ei o.mg o.kp (raises_own o.sb o.ty) hg hdb)
end
theorem takes_none {X : Cx} : L2N.Takes X (fun _ _ _ _ => False) := fun _ _ ⟨_, _, _, _, _, _, _, _, _, _, _, _, _, _, _, _, w⟩ => w.elim
def tTry (K : PySem.W.Frag) (c : Value) (i : Nat) (ts : Addr → Value → Option Addr → TS) (tb : WX → TS) : TS := fun D σ H => tb (wAs K c i ts (fun _ _ _ _ => False) D) D σ H
section
variable {P : Program} {w : World} {K : PySem.W.Frag} {mg : Str → Option Value} {base : Heap}
/-- a raising def's promise by its body -/
theorem Dn.calX {x : Str} {st : Stmt} {N ps : List Str} {k : Nat} {sp : Sp} {a : Addr} (D : Dn K mg x st) (g : mg x = some (.ref a)) (S : FnScope N ps (defScope st))
    (hb : ∀ (kV doc pm : Value) (an : Option Addr) (cdv ct : Value) (us : List Value), us.length = ps.length → bindArgs (PySem.W.fnOf x x (defArgs st) (defBody st) (defScope st) .none kV doc pm an cdv ct) ⟨us, []⟩ = pure (ps.zip us))
    (len : ∀ vs H Q E, sp vs H Q E → vs.length = ps.length)
    (hbody : ∀ (f : Addr) (cdv : Value) (A : Around) (outer : List Env) (s : Shared) (H : Hp) (vs : List V) (Q : VK) (E : XK), Room k (A.deeper (envOfC x (defScope st) s.heap.objs.size f cdv)) → sp vs H Q E →
      ∃ t, PSs (cxOf (CXN P w) P w K mg base N x (defScope st) f cdv A outer s H E) (defBody st) t ∧ t { nx := fun _ H' => Q .non H', rt := Q } (start N vs) H) : CalX P w K mg base (k + 1) x a sp := by
  obtain ⟨f, fd, F, hm⟩ := D.ex
  have ef : f = a := Value.ref.inj (Option.some.inj (hm.symm.trans g))
  subst ef
  exact ⟨fd, ps, F.ok S len fun cdv A outer s H vs Q E hr h => hbody f cdv A outer s H vs Q E hr h, hm, F.kp, F.bindsN hb⟩
theorem CalX.up {x : Str} {k j : Nat} {sp : Sp} {a : Addr} (c : CalX P w K mg base k x a sp) (h : k ≤ j) : CalX P w K mg base j x a sp := by
  obtain ⟨fd, ps, F, r⟩ := c.ex
  exact ⟨fd, ps, F.mono h, r⟩
theorem cal_up {x : Str} {k j : Nat} {sp : Sp} (c : C8.Cal P w K mg base k x sp []) (h : k ≤ j) : C8.Cal P w K mg base j x sp [] := by
  obtain ⟨f, fd, ps, ds, F, r⟩ := c.ex
  exact ⟨f, fd, ps, ds, F.mono h, r⟩
end
/-! ### isinstance of the caught error -/
def rIsX (K : PySem.W.Frag) (cls : Value) (d : Option Addr) (a : Addr) : List V → Hp → VK → Prop := fun xs H Q => ∃ D, cls = .ref D ∧ d = none ∧ ExcC K D ∧ rIsE K D a xs H Q
theorem call_isX {X : Cx} {a : Addr} {cls : Value} {d : Option Addr} {oe : Obj} {pn : List (Addr × Obj)} (hz : L2N.Zn cls d oe) (hf : ∃ vs, oe.data = .fields vs) : CallR (X.suite a ((a, oe) :: pn)) (.builtin "isinstance") (rIsX X.K cls d a) := by
  intro pins s σ H xs us Q I r h
  obtain ⟨D, rfl, rfl, C, h⟩ := h
  exact call_isE C hz.zc hf pins s σ H xs us Q I r h
theorem hot_suite {X : Cx} {a : Addr} {cls : Value} {d : Option Addr} {oe : Obj} {pn : List (Addr × Obj)} (hz : L2N.Zn cls d oe) (hf : ∃ vs, oe.data = .fields vs) : L2H.HotC (X.suite a ((a, oe) :: pn)) := by
  obtain ⟨vs, hv⟩ := hf
  exact ⟨(a, oe), ⟨rfl, vs, hv, hz.2.2 vs hv⟩, List.mem_cons_self⟩
end WA

namespace WA
open PySem PySem.Spec PyProof.Rows L2 Evl
/-! ### the errors' classes -/
def xn : Nat → Str
  | 0 => "BadTable"
  | 1 => "BadSquare"
  | _ => "BadThing"
def xa (K : PySem.W.Frag) (c : Nat) : Addr := He.ga K (xn c)
def excCB (K : PySem.W.Frag) (D : Addr) : Bool :=
  decide (PySem.W.findIn K (.ref D) "__getattribute__" = some (some (.builtin "BaseException.__getattribute__"))) && (decide (PySem.W.findIn K (.ref D) "__getattr__" = some none) && (decide (PySem.W.subIn K (.ref D) (.type "BaseException") = some true) && (PySem.W.hasDictIn K D &&
    (decide (PySem.W.findIn K (.ref D) "__class__" = some (some (.builtin "object.__class__"))) && (decide (PySem.W.specialIn K (.builtin "object.__class__") "__get__" = some (some (.builtin "getset_descriptor.__get__"))) &&
      (decide (PySem.W.takesIn K (.builtin "object.__class__") = some true) && decide (PySem.W.mroIn K D (.type "object") = some true)))))))
theorem excCB_ok {K : PySem.W.Frag} {D : Addr} (h : excCB K D = true) : ExcC K D := by
  unfold excCB at h
  simp only [Bool.and_eq_true, decide_eq_true_eq] at h
  obtain ⟨a, b, c, d, e, f, g, i⟩ := h
  exact ⟨a, b, c, d, e, f, g, i⟩
def kxB (K : PySem.W.Frag) : Bool := [0, 1, 2].all fun c => excCB K (xa K c) && (([0, 1, 2].all fun e => decide (PySem.W.kitOne K (.ref (xa K c)) (.ref (xa K e)) = some (decide (c = e)))) && decide (PySem.W.kitOne K (.ref (xa K c)) (.type "ValueError") = some true))
structure KindX (K : PySem.W.Frag) : Prop where
  ex : ∀ c < 3, ExcC K (xa K c)
  is : ∀ c < 3, ∀ e < 3, PySem.W.kitOne K (.ref (xa K c)) (.ref (xa K e)) = some (decide (c = e))
  ve : ∀ c < 3, PySem.W.kitOne K (.ref (xa K c)) (.type "ValueError") = some true
theorem in3 {c : Nat} (h : c < 3) : c ∈ [0, 1, 2] := by
  match c, h with
  | 0, _ => simp
  | 1, _ => simp
  | 2, _ => simp
theorem kxB_ok {K : PySem.W.Frag} (h : kxB K = true) : KindX K := by
  unfold kxB at h
  rw [List.all_eq_true] at h
  refine ⟨fun c hc => excCB_ok (Bool.and_eq_true_iff.mp (h c (in3 hc))).1, fun c hc e he => ?_, fun c hc => ?_⟩
  · have := (Bool.and_eq_true_iff.mp (Bool.and_eq_true_iff.mp (h c (in3 hc))).2).1
    rw [List.all_eq_true] at this
    exact of_decide_eq_true (this e (in3 he))
  · exact of_decide_eq_true (Bool.and_eq_true_iff.mp (Bool.and_eq_true_iff.mp (h c (in3 hc))).2).2
/-! ### values by their type -/
inductive Kn (K : PySem.W.Frag) (H : Hp) : V → String → Prop
  | non : Kn K H .non "NoneType"
  | bl (b : Bool) : Kn K H (.bl b) "bool"
  | int (i : Int) : Kn K H (.int i) "int"
  | str (s : Str) : Kn K H (.str s) "str"
  | lst {a : Addr} {xs : List V} (h : SqL K H a xs) : Kn K H (.ref a) "list"
  | tup {a : Addr} {xs : List V} (h : H a = some (.tup xs)) : Kn K H (.ref a) "tuple"
  | dK {a : Addr} {kvs : List (Key × V)} (h : H a = some (.dK kvs)) : Kn K H (.ref a) "dict"
theorem Kn.mono {K : PySem.W.Frag} {H H' : Hp} {v : V} {T : String} (h : Kn K H v T) (e : Ex H H') : Kn K H' v T := by
  cases h with
  | non => exact .non
  | bl b => exact .bl b
  | int b => exact .int b
  | str b => exact .str b
  | lst h => exact .lst (ex_l e h)
  | tup h => exact .tup (e _ _ h)
  | dK h => exact .dK (e _ _ h)
theorem Kn.tyx {K : PySem.W.Frag} {H : Hp} {v : V} {T : String} (h : Kn K H v T) : TyX K H v (.type T) := by
  cases h with
  | non => exact .base .non
  | bl b => exact .base (.bl b)
  | int b => exact .base (.int b)
  | str b => exact .base (.str b)
  | lst h => exact tyx_list h
  | tup h => exact .base (.tup h)
  | dK h => exact .base (.dK h)
def isB (T c : String) : Bool := T == c || (T == "bool" && c == "int")
theorem Kn.kit {K : PySem.W.Frag} {H : Hp} {v : V} {T c : String} (h : Kn K H v T) (hc : c = "list" ∨ c = "str" ∨ c = "int" ∨ c = "bool") : kitB T c = some (isB T c) := by
  rcases hc with rfl | rfl | rfl | rfl <;> cases h <;> decide +kernel
def isStr : V → Bool
  | .str _ => true
  | _ => false
theorem Kn.isStr {K : PySem.W.Frag} {H : Hp} {v : V} {T : String} (h : Kn K H v T) : isB T "str" = WA.isStr v := by cases h <;> simp [isB, WA.isStr]
theorem ev_isiK {K : PySem.W.Frag} {σ : L2.St} {H : Hp} {te : TE} {v : V} {T c : String} (h : Ev te σ H v) (k : Kn K H v T) (hc : c = "list" ∨ c = "str" ∨ c = "int" ∨ c = "bool") : Ev (tCB (rIsi K) (tCons te (tCons (tC (.ty c)) tNil))) σ H (.bl (isB T c)) :=
  ev_isi h (.ty _) (fun _ e => (k.mono e).tyx) (kit_ty (k.kit hc))
/-! ### bad tables, bad squares, bad things -/
def badTx (ss : List Str) (s : Str) : Bool := !decide (s.length = (ss.headD "").length) || !decide (Txt.stripChars s "x-" = "")
inductive NoTab (K : PySem.W.Frag) (H : Hp) : V → Prop
  | ty {v : V} {T : String} (k : Kn K H v T) (h : isB T "list" = false) : NoTab K H v
  | its {a : Addr} {xs : List V} (h : SqL K H a xs) (hz : xs.length ≤ 1000) (k : ∀ x ∈ xs, ∃ T, Kn K H x T) (b : xs.all isStr = false) : NoTab K H (.ref a)
  | tx {a : Addr} {ss : List Str} (h : SqL K H a (ss.map V.str)) (hz : ss.length ≤ 1000 ∧ ∀ s ∈ ss, s.length ≤ 1000) (b : ss.any (badTx ss) = true) : NoTab K H (.ref a)
theorem NoTab.mono {K : PySem.W.Frag} {H H' : Hp} {v : V} (h : NoTab K H v) (e : Ex H H') : NoTab K H' v := by
  cases h with
  | ty k h => exact .ty (k.mono e) h
  | its h hz k b => exact .its (ex_l e h) hz (fun x hx => (k x hx).imp fun T z => z.mono e) b
  | tx h hz b => exact .tx (ex_l e h) hz b
def Wide (K : PySem.W.Frag) (H : Hp) (v : V) : Prop := ∃ a T w, v = .ref a ∧ At K H a T w ∧ T ≠ [] ∧ w ≠ T.length
theorem Wide.mono {K : PySem.W.Frag} {H H' : Hp} {v : V} (h : Wide K H v) (e : Ex H H') : Wide K H' v := by
  obtain ⟨a, T, w, rfl, h, r⟩ := h
  exact ⟨a, T, w, rfl, h.mono e, r⟩
inductive NoThing (K : PySem.W.Frag) (H : Hp) (n : Nat) : V → Prop
  | ty {v : V} {T : String} (k : Kn K H v T) (h : isB T "int" = false) : NoThing K H n v
  | bl (b : Bool) : NoThing K H n (.bl b)
  | out (i : Int) (h : ¬ (0 ≤ i ∧ i < n)) : NoThing K H n (.int i)
theorem NoThing.mono {K : PySem.W.Frag} {H H' : Hp} {n : Nat} {v : V} (h : NoThing K H n v) (e : Ex H H') : NoThing K H' n v := by
  cases h with
  | ty k h => exact .ty (k.mono e) h
  | bl b => exact .bl b
  | out i h => exact .out i h
/-- what the law's doors refuse -/
def Refuse (K : PySem.W.Frag) (H : Hp) (d : Int) (v : V) (c : Nat) : Prop :=
  (c = 0 ∧ 0 ≤ d ∧ d ≤ 5 ∧ NoTab K H v) ∨ (c = 1 ∧ 2 ≤ d ∧ d ≤ 5 ∧ Wide K H v) ∨ (c = 2 ∧ d = 5 ∧ ∃ a, v = .ref a ∧ SqL K H a []) ∨ (c = 2 ∧ d = 6 ∧ NoThing K H 2 v)
theorem Refuse.mono {K : PySem.W.Frag} {H H' : Hp} {d : Int} {v : V} {c : Nat} (h : Refuse K H d v c) (e : Ex H H') : Refuse K H' d v c := by
  rcases h with ⟨a, b, b2, h⟩ | ⟨a, b, b2, h⟩ | ⟨a, b, p, rfl, h⟩ | ⟨a, b, h⟩
  · exact .inl ⟨a, b, b2, h.mono e⟩
  · exact .inr (.inl ⟨a, b, b2, h.mono e⟩)
  · exact .inr (.inr (.inl ⟨a, b, p, rfl, ex_l e h⟩))
  · exact .inr (.inr (.inr ⟨a, b, h.mono e⟩))
theorem Refuse.lt {K : PySem.W.Frag} {H : Hp} {d : Int} {v : V} {c : Nat} (h : Refuse K H d v c) : c < 3 := by
  rcases h with ⟨a, _⟩ | ⟨a, _⟩ | ⟨a, _⟩ | ⟨a, _⟩ <;> omega
/-! ### promises of defs that may raise -/
/-- good: G; bad: an error of class c -/
def spR (K : PySem.W.Frag) (G : Sp) (B : List V → Hp → Nat → Prop) : Sp := fun vs H Q E => G vs H Q E ∨ ∃ c, B vs H c ∧ ∀ H', Ex H H' → E (.ref (xa K c)) none H'
section
variable {K : PySem.W.Frag} {σ : L2.St} {H H' : Hp} {te ta tb : TE} {ts : TA} {D : Ends} {tz : TS} {vs : List V} {v x : V} {xs : List V}
/-- te ends by an error -/
def EvX (te : TE) (σ : L2.St) (H : Hp) (X : Hp → Prop) : Prop := ∀ H1, Ex H H1 → ∀ Q : VK, (∀ H2, Ex H1 H2 → X H2) → te σ H1 Q
theorem ex_call {G : Sp} {B : List V → Hp → Nat → Prop} {E : XK} {c : Nat} (h : EvA ts σ H vs) (hb : ∀ H1, Ex H H1 → B (vs ++ []) H1 c) : EvX (tCall (spR K G B) [] E ts) σ H (fun H2 => E (.ref (xa K c)) none H2) := fun H1 e Q q =>
  h H1 e _ fun H2 e2 => .inr ⟨c, hb H2 (e.trans e2), fun H' e3 => q H' (e2.trans e3)⟩
theorem ev_callG {R : List V → Hp → V → Prop} {B : List V → Hp → Nat → Prop} {E : XK} (h : EvA ts σ H vs) (hb : ∀ H1, Ex H H1 → R (vs ++ []) H1 x) : Ev (tCall (spR K (spV R) B) [] E ts) σ H x := fun H1 e Q q =>
  h H1 e _ fun H2 e2 => .inl ⟨x, hb H2 (e.trans e2), fun H' e3 => q H' (e2.trans e3)⟩
theorem el_callG {R : List V → Hp → List V → Prop} {B : List V → Hp → Nat → Prop} {E : XK} (h : EvA ts σ H vs) (hb : ∀ H1, Ex H H1 → R (vs ++ []) H1 xs) : EvL (tCall (spR K (spL R) B) [] E ts) σ H xs := fun H1 e Q q =>
  h H1 e _ fun H2 e2 => .inl ⟨xs, hb H2 (e.trans e2), fun p H' hp e3 h3 => q p H' (fresh_back e2 hp) (e2.trans e3) h3⟩
theorem q_X {X : Hp → Prop} (h : EvX te σ H X) (k : ∀ H2, Ex H H2 → X H2) : tSeq (tDrop te) tz D σ H := h H (Ex.refl H) _ k
theorem s_X {X : Hp → Prop} (h : EvX te σ H X) (k : ∀ H2, Ex H H2 → X H2) : tRet te D σ H := h H (Ex.refl H) _ k
theorem s_dX {X : Hp → Prop} (h : EvX te σ H X) (k : ∀ H2, Ex H H2 → X H2) : tDrop te D σ H := h H (Ex.refl H) _ k
/-! ### values described -/
def EvP (te : TE) (σ : L2.St) (H : Hp) (P : V → Hp → Prop) : Prop := ∀ H1, Ex H H1 → ∀ Q : VK, (∀ v H2, Ex H1 H2 → P v H2 → Q v H2) → te σ H1 Q
def EvPA (ts : TA) (σ : L2.St) (H : Hp) (P : V → Hp → Prop) (n : Nat) : Prop := ∀ H1, Ex H H1 → ∀ Q : List V → Hp → Prop, (∀ vs H2, Ex H1 H2 → vs.length = n → (∀ v ∈ vs, P v H2) → Q vs H2) → ts σ H1 Q
def EvPL (te : TE) (σ : L2.St) (H : Hp) (P : V → Hp → Prop) (n : Nat) : Prop := ∀ H1, Ex H H1 → ∀ Q : VK, (∀ p xs H2, H1 p = none → Ex H1 H2 → H2 p = some (.lst xs) → xs.length = n → (∀ v ∈ xs, P v H2) → Q (.ref p) H2) → te σ H1 Q
def Mo (P : V → Hp → Prop) : Prop := ∀ {v H H'}, P v H → Ex H H' → P v H'
theorem evp {P : V → Hp → Prop} (h : Ev te σ H v) (p : ∀ H1, Ex H H1 → P v H1) : EvP te σ H P := fun H1 e Q q => h H1 e Q fun H2 e2 => q v H2 e2 (p H2 (e.trans e2))
theorem evpL {P : V → Hp → Prop} (h : EvL te σ H xs) (p : ∀ a H1, Ex H H1 → SqL K H1 a xs → P (.ref a) H1) : EvP te σ H P := fun H1 e Q q => h H1 e Q fun a H2 _ e2 h2 => q _ H2 e2 (p a H2 (e.trans e2) (sq_of h2))
theorem evpU {P : V → Hp → Prop} (h : EvU te σ H xs) (p : ∀ a H1, Ex H H1 → H1 a = some (.tup xs) → P (.ref a) H1) : EvP te σ H P := fun H1 e Q q => h H1 e Q fun a H2 _ e2 h2 => q _ H2 e2 (p a H2 (e.trans e2) h2)
theorem evp_dk {P : V → Hp → Prop} (p : ∀ a H1, Ex H H1 → H1 a = some (.dK []) → P (.ref a) H1) : EvP tDNewK σ H P := fun H1 e Q q => fun a ha => q _ _ (Ex.new ha) (p a _ (e.trans (Ex.new ha)) upd_same)
theorem evp_imp {P P' : V → Hp → Prop} (h : EvP te σ H P) (i : ∀ v H1, P v H1 → P' v H1) : EvP te σ H P' := fun H1 e Q q => h H1 e Q fun v H2 e2 p => q v H2 e2 (i v H2 p)
theorem epa_nil {P : V → Hp → Prop} : EvPA tNil σ H P 0 := fun H1 _ _ q => q [] H1 (Ex.refl H1) rfl fun _ h => nomatch h
theorem epa_cons {P : V → Hp → Prop} {n : Nat} (m : Mo P) (h : EvP te σ H P) (hr : EvPA ts σ H P n) : EvPA (tCons te ts) σ H P (n + 1) := fun H1 e Q q =>
  h H1 e _ fun v H2 e2 p => hr H2 (e.trans e2) _ fun vs H3 e3 hl hp => q (v :: vs) H3 (e2.trans e3) (by rw [List.length_cons, hl]) fun u hu => (List.mem_cons.mp hu).elim (fun z => z ▸ m p e3) (hp u)
theorem epl_lst {P : V → Hp → Prop} {n : Nat} (m : Mo P) (h : EvPA ts σ H P n) (hz : n ≤ 1000) : EvPL (tLst ts) σ H P n := fun H1 e Q q =>
  h H1 e _ fun vs H2 e2 hl hp => ⟨sz_of (by omega), fun p hn => q p vs _ (fresh_back e2 hn) (e2.trans (Ex.new hn)) upd_same hl fun v hv => m (hp v hv) (Ex.new hn)⟩
theorem EvPL.mono {P : V → Hp → Prop} {n : Nat} (e : Ex H H') (h : EvPL te σ H P n) : EvPL te σ H' P n := fun H1 a Q q => h H1 (e.trans a) Q q
theorem epl_cat {P : V → Hp → Prop} {n k : Nat} (m : Mo P) (ha : EvPL ta σ H P n) (hb : EvPL tb σ H P k) (hz : n + k ≤ 1000) : EvPL (tOp rCat ta tb) σ H P (n + k) := fun H1 e Q q =>
  ha H1 e _ fun a xs H2 na e2 h2 l2 p2 => hb H2 (e.trans e2) _ fun b ys H3 nb e3 h3 l3 p3 => ⟨a, b, xs, ys, rfl, rfl, e3 _ _ h2, h3, sz_of (by omega), fun p hp =>
    q p (xs ++ ys) _ (fresh_back (e2.trans e3) hp) ((e2.trans e3).trans (Ex.new hp)) upd_same (by rw [List.length_append, l2, l3]) fun v hv =>
      (List.mem_append.mp hv).elim (fun z => m (m (p2 v z) e3) (Ex.new hp)) fun z => m (p3 v z) (Ex.new hp)⟩
/-- a name's list -/
theorem epl_varcat {P : V → Hp → Prop} {n k i : Nat} {a : Addr} (m : Mo P) (hv : σ[i]? = some (some (.ref a))) (h2 : H a = some (.lst xs)) (l2 : xs.length = n) (p2 : ∀ v ∈ xs, P v H) (hb : EvPL tb σ H P k) (hz : n + k ≤ 1000) : EvPL (tOp rCat (tVar i) tb) σ H P (n + k) := fun H1 e Q q =>
  ⟨.ref a, hv, hb H1 e _ fun b ys H3 nb e3 h3 l3 p3 => ⟨a, b, xs, ys, rfl, rfl, e3 _ _ (e _ _ h2), h3, sz_of (by omega), fun p hp =>
    q p (xs ++ ys) _ (fresh_back e3 hp) (e3.trans (Ex.new hp)) upd_same (by rw [List.length_append, l2, l3]) fun v hv =>
      (List.mem_append.mp hv).elim (fun z => m (m (p2 v z) (e.trans e3)) (Ex.new hp)) fun z => m (p3 v z) (Ex.new hp)⟩⟩
/-- a list times an int -/
theorem el_rep {n : Nat} (h : EvL ta σ H xs) (g : Ev tb σ H (.int (n : Nat))) (hn : n ≤ 100) (hz : xs.length ≤ 10) : EvL (tOp rRep ta tb) σ H (List.replicate n xs).flatten := fun H1 e Q q =>
  h H1 e _ fun a H2 na e2 h2 => g H2 (e.trans e2) _ fun H3 e3 => ⟨a, n, xs, rfl, rfl, e3 _ _ h2, by omega, by omega, by
    have e0 : ((n : Nat) : Int).toNat = n := by omega
    rw [e0]
    refine sz_of (Nat.le_trans (Nat.mul_le_mul hz hn) (by decide)), fun p hp => by
    have e0 : ((n : Nat) : Int).toNat = n := by omega
    rw [e0]
    exact q p _ (fresh_back (e2.trans e3) hp) ((e2.trans e3).trans (Ex.new hp)) upd_same⟩
theorem q_asgE {i : Nat} (h : te σ H (fun v H1 => tz D (σ.set i (some v)) H1)) : tSeq (tAsg te (gName i)) tz D σ H := h
theorem rep_one {α : Type} (x : α) (n : Nat) : (List.replicate n [x]).flatten = List.replicate n x := by
  induction n with
  | zero => rfl
  | succ n ih => rw [List.replicate_succ, List.flatten_cons, ih, List.replicate_succ]; rfl
theorem mo_tab : Mo fun v H => NoTab K H v := fun h e => NoTab.mono h e
theorem mo_wide : Mo fun v H => Wide K H v := fun h e => Wide.mono h e
theorem mo_thing {n : Nat} : Mo fun v H => NoThing K H n v := fun h e => NoThing.mono h e
theorem mo_kn : Mo fun v H => ∃ T, Kn K H v T := fun h e => h.imp fun T z => z.mono e
/-- a list of texts that is no table -/
theorem evp_tx {ss : List Str} (h : EvL te σ H (ss.map V.str)) (hz : ss.length ≤ 1000 ∧ ∀ s ∈ ss, s.length ≤ 1000) (b : ss.any (badTx ss) = true) : EvP te σ H (fun v H => NoTab K H v) := evpL (K := K) h fun a H1 _ hs => .tx hs hz b
/-- a list with an item that is no text -/
theorem evp_its {n : Nat} (h : EvA ts σ H xs) (k : ∀ x ∈ xs, ∀ H1, Ex H H1 → ∃ T, Kn K H1 x T) (b : xs.all isStr = false) (hz : xs.length ≤ 1000) : EvP (tLst ts) σ H (fun v H => NoTab K H v) := evpL (K := K) (el_lst h (Nat.le_trans hz (by decide))) fun a H1 e hs => .its hs hz (fun x hx => k x hx H1 e) b
end
end WA

namespace WA
open PySem PySem.Spec PyProof.Rows L2 Evl
/-! ### lists of truth values, one equal to the other -/
theorem dp_bools {K : PySem.W.Frag} {H : Hp} : ∀ bs : List Bool, DpAll K H (bs.map V.bl) (bs.map PyData.bool)
  | [] => .nil
  | b :: r => .cons (.bl b) (dp_bools r)
theorem eqv_bools : ∀ bs cs : List Bool, PyData.eqvAll (bs.map PyData.bool) (cs.map PyData.bool) = decide (bs = cs)
  | [], [] => rfl
  | [], _ :: _ => rfl
  | _ :: _, [] => rfl
  | b :: r, c :: t => by
    have e : PyData.eqv (.bool b) (.bool c) = decide (b = c) := by cases b <;> cases c <;> simp [PyData.eqv]
    rw [List.map_cons, List.map_cons, PyData.eqvAll, e, eqv_bools r t]
    by_cases e1 : b = c
    · by_cases e2 : r = t
      · simp [e1, e2]
      · simp [e1, e2]
    · simp [e1]
theorem lay_bools : ∀ bs : List Bool, PyData.canLayAll0 (bs.map PyData.bool) = true ∧ PyData.depthAll (bs.map PyData.bool) = 0
  | [] => ⟨rfl, rfl⟩
  | b :: r => by
    have e1 : PyData.canLay0 (.bool b) = true := by simp [PyData.canLay0]
    have e2 : PyData.depth (.bool b) = 0 := by simp [PyData.depth]
    have i := lay_bools r
    refine ⟨?_, ?_⟩
    · show (PyData.canLay0 (.bool b) && PyData.canLayAll0 (r.map PyData.bool)) = true
      rw [e1, i.1]; rfl
    · show max (PyData.depth (.bool b)) (PyData.depthAll (r.map PyData.bool)) = 0
      rw [e2, i.2]; rfl
theorem shaped_bools (bs : List Bool) : SeqAt.shaped (.list (bs.map PyData.bool)) = true := by
  have a := lay_bools bs
  unfold SeqAt.shaped
  have e1 : PyData.canLay0 (.list (bs.map PyData.bool)) = PyData.canLayAll0 (bs.map PyData.bool) := by simp [PyData.canLay0]
  have e2 : PyData.depth (.list (bs.map PyData.bool)) = PyData.depthAll (bs.map PyData.bool) + 1 := by simp [PyData.depth]
  rw [e1, e2, a.1, a.2]; rfl
theorem dec_nat {a b : Nat} : decide (V.int (a : Nat) = V.int (b : Nat)) = decide (a = b) := by
  by_cases h : a = b
  · subst h; simp
  · rw [decide_eq_false h, decide_eq_false fun e => h (by have := V.int.inj e; omega)]
theorem dec_strV {a b : Str} : decide (V.str a = V.str b) = decide (a = b) := by
  by_cases h : a = b
  · subst h; simp
  · rw [decide_eq_false h, decide_eq_false fun e => h (V.str.inj e)]
section
variable {K : PySem.W.Frag} {σ : L2.St} {H H' : Hp} {te ta tb tc tl : TE} {t : TT} {ts : TA} {D : Ends} {tz tu : TS} {vs : List V} {v x y z : V} {xs ys : List V} {ws : List Nat}
theorem ev_eqBools {bs cs : List Bool} (h : EvS K ta σ H (bs.map V.bl)) (g : EvS K tb σ H (cs.map V.bl)) : Ev (tOp (rEqD K) ta tb) σ H (.bl (decide (bs = cs))) := fun H1 e Q q =>
  h H1 e _ fun p H2 e2 hp => g H2 (e.trans e2) _ fun p' H3 e3 hp' =>
    ⟨.list (bs.map PyData.bool), .list (cs.map PyData.bool), .lst (ex_l e3 hp) (dp_bools bs), .lst hp' (dp_bools cs), shaped_bools bs, shaped_bools cs, by rw [PyData.eqv, eqv_bools]; exact q H3 (e2.trans e3)⟩
theorem ev_stripG {s : Str} (h : Ev te σ H (.str s)) (hz : s.length ≤ 1000) : Ev (tM1 rStripC te (tC (.str "x-"))) σ H (.str (Txt.stripChars s "x-")) := fun H1 e Q q =>
  h H1 e _ fun H2 e2 => ⟨⟨_, rfl⟩, ⟨s, "x-", rfl, rfl, sz_of (by omega), q H2 e2⟩⟩
/-! ### ends by an error -/
theorem ex_if {b : Bool} {X : Hp → Prop} (h : EvT t σ H b) (h1 : b = true → EvX ta σ H X) (h2 : b = false → EvX tb σ H X) : EvX (tIf t ta tb) σ H X := fun H1 e Q q => h H1 e _ fun H2 e2 => by
  cases b with
  | true =>
    show ta σ H2 Q
    exact h1 rfl H2 (e.trans e2) Q fun H3 e3 => q H3 (e2.trans e3)
  | false =>
    show tb σ H2 Q
    exact h2 rfl H2 (e.trans e2) Q fun H3 e3 => q H3 (e2.trans e3)
theorem ex_callI {L : List (Addr × Sp)} {p : Addr × Sp} {tf : TE} {c : Nat} {E : XK} (hp : p ∈ L) (hf : Ev tf σ H (.ref p.1)) (h : EvA ts σ H vs)
    (hs : ∀ H1, Ex H H1 → ∀ Q : VK, (∀ H2, Ex H1 H2 → E (.ref (xa K c)) none H2) → p.2 (vs ++ []) H1 Q E) : EvX (tCallI L E tf ts) σ H (fun H2 => E (.ref (xa K c)) none H2) := fun H1 e Q q =>
  hf H1 e _ fun H2 e2 => ⟨p, hp, rfl, h H2 (e.trans e2) _ fun H3 e3 => hs H3 ((e.trans e2).trans e3) Q fun H4 e4 => q H4 ((e2.trans e3).trans e4)⟩
theorem ex_callS2 {G : Sp} {B : List V → Hp → Nat → Prop} {E : XK} {c : Nat} (h : EvS K ta σ H xs) (g : Ev tb σ H x) (hb : ∀ p H1, Ex H H1 → SqL K H1 p xs → B ([.ref p, x] ++ []) H1 c) :
    EvX (tCall (spR K G B) [] E (tCons ta (tCons tb tNil))) σ H (fun H2 => E (.ref (xa K c)) none H2) := fun H1 e Q q =>
  h H1 e _ fun p H2 e2 hp => g H2 (e.trans e2) _ fun H3 e3 => .inr ⟨c, hb p H3 ((e.trans e2).trans e3) (ex_l e3 hp), fun H' e4 => q H' ((e2.trans e3).trans e4)⟩
theorem ex_callT {G : Sp} {B : List V → Hp → Nat → Prop} {F : L2.St → XK} {c : Nat} (h : EvA ts σ H vs) (hb : ∀ H1, Ex H H1 → B vs H1 c) : EvX (tCallS (spR K G B) F ts) σ H (fun H2 => F σ (.ref (xa K c)) none H2) := fun H1 e Q q =>
  h H1 e _ fun H2 e2 => .inr ⟨c, hb H2 (e.trans e2), fun H' e3 => q H' (e2.trans e3)⟩
theorem el_callGS1 {R : List V → Hp → List V → Prop} {B : List V → Hp → Nat → Prop} {E : XK} (h : EvS K te σ H xs) (hb : ∀ p H1, Ex H H1 → SqL K H1 p xs → R ([.ref p] ++ []) H1 ys) : EvL (tCall (spR K (spL R) B) [] E (tCons te tNil)) σ H ys := fun H1 e Q q =>
  h H1 e _ fun p H2 e2 hp => .inl ⟨ys, hb p H2 (e.trans e2) hp, fun p' H3 hn e3 h3 => q p' H3 (fresh_back e2 hn) (e2.trans e3) h3⟩
theorem el_callGS2 {R : List V → Hp → List V → Prop} {B : List V → Hp → Nat → Prop} {E : XK} (h : EvS K ta σ H xs) (g : Ev tb σ H x) (hb : ∀ p H1, Ex H H1 → SqL K H1 p xs → R ([.ref p, x] ++ []) H1 ys) : EvL (tCall (spR K (spL R) B) [] E (tCons ta (tCons tb tNil))) σ H ys := fun H1 e Q q =>
  h H1 e _ fun p H2 e2 hp => g H2 (e.trans e2) _ fun H3 e3 => .inl ⟨ys, hb p H3 ((e.trans e2).trans e3) (ex_l e3 hp), fun p' H4 hn e4 h4 => q p' H4 (fresh_back (e2.trans e3) hn) ((e2.trans e3).trans e4) h4⟩
/-- f(x, [..], z) -/
theorem ev_call3L {sp : Sp} {E : XK} {a c : V} (ha : Ev ta σ H a) (hb : EvL tb σ H xs) (hc : Ev tc σ H c) (hs : ∀ p H1, Ex H H1 → H1 p = some (.lst xs) → SpV sp ([a, .ref p, c] ++ []) H1 z) : Ev (tCall sp [] E (tCons ta (tCons tb (tCons tc tNil)))) σ H z := fun H1 e Q q =>
  ha H1 e _ fun H2 e2 => hb H2 (e.trans e2) _ fun p H3 hn e3 h3 => hc H3 ((e.trans e2).trans e3) _ fun H4 e4 => hs p H4 (((e.trans e2).trans e3).trans e4) (e4 _ _ h3) H4 (Ex.refl H4) Q (fun H5 e5 => q H5 (((e2.trans e3).trans e4).trans e5)) E
/-! ### isinstance of the caught error -/
theorem ev_isErr {a : Addr} {c e : Nat} (kx : KindX K) (hc : c < 3) (he : e < 3) (h : Ev te σ H (.ref a)) : Ev (tCB (rIsX K (.ref (xa K c)) none a) (tCons te (tCons (tC (.ref (xa K e))) tNil))) σ H (.bl (decide (c = e))) := fun H1 ee Q q =>
  h H1 ee _ fun H2 e2 => ⟨xa K c, rfl, rfl, kx.ex c hc, .ref (xa K e), .ref (xa K e), _, rfl, fun u hu => by cases hu; rfl, kx.is c hc e he, q H2 e2⟩
theorem ev_isVE {a : Addr} {c : Nat} (kx : KindX K) (hc : c < 3) (h : Ev te σ H (.ref a)) : Ev (tCB (rIsX K (.ref (xa K c)) none a) (tCons te (tCons (tC (.ty "ValueError")) tNil))) σ H (.bl true) := fun H1 ee Q q =>
  h H1 ee _ fun H2 e2 => ⟨xa K c, rfl, rfl, kx.ex c hc, .ty "ValueError", .type "ValueError", _, rfl, fun u hu => by cases hu; rfl, kx.ve c hc, q H2 e2⟩
/-- [e for k in range(n)] where an error is handled -/
theorem el_lcH {f : Nat → V} {j n : Nat} (h : Ev ta σ H (.int (n : Nat))) (hz : n ≤ 1000) (hw : ∀ x, wipe ((wipe σ ws).set j (some x)) ws = wipe σ ws) (he : ∀ i, i < n → Ev te ((wipe σ ws).set j (some (.int (i : Nat)))) H (f i)) :
    EvL (tLcH (tCons ta tNil) (gName j) te ws) σ H ((List.range n).map f) := fun H1 e Q q =>
  h H1 e _ fun H2 e2 => ⟨n, rfl, hz, fun D hD => ⟨fun i H' => Lc H2 D ((List.range i).map f) H', ⟨hD, Ex.new hD, upd_same⟩, fun i H' hi pv => ⟨hw _, he i hi H' ((e.trans e2).trans pv.2.1) _ fun H3 e3 =>
    ⟨(List.range i).map f, e3 _ _ pv.2.2, sz_lt (by rw [List.length_map, List.length_range]; omega), hD, Ex.mut (pv.2.1.trans e3) hD, by rw [upd_same, List.range_succ, List.map_append]; rfl⟩⟩,
    fun H' pv => q D H' (fresh_back e2 hD) (e2.trans pv.2.1) pv.2.2⟩⟩
/-! ### words for bad values -/
theorem evp_ty {T : String} (h : Ev te σ H v) (k : ∀ H1, Kn K H1 v T) (hT : isB T "list" = false) : EvP te σ H (fun v H => NoTab K H v) := evp h fun H1 _ => .ty (k H1) hT
theorem evp_tup (h : EvU te σ H xs) : EvP te σ H (fun v H => NoTab K H v) := evpU h fun a H1 _ z => .ty (.tup z) (by decide)
theorem evp_dict : EvP tDNewK σ H (fun v H => NoTab K H v) := evp_dk fun a H1 _ z => .ty (.dK z) (by decide)
def NoStr (K : PySem.W.Frag) : V → Hp → Prop := fun v H => (∃ T, Kn K H v T) ∧ isStr v = false
theorem mo_nostr : Mo (NoStr K) := fun h e => ⟨h.1.imp fun T z => z.mono e, h.2⟩
theorem evp_nostr {n : Nat} (h : EvPA ts σ H (NoStr K) n) (h1 : 1 ≤ n) (hz : n ≤ 1000) : EvP (tLst ts) σ H (fun v H => NoTab K H v) := fun H1 e Q q =>
  epl_lst (P := NoStr K) mo_nostr h hz H1 e Q fun p xs H2 hp e2 hx hl hP => q _ H2 e2 (.its (sq_of hx) (by omega) (fun x hx => (hP x hx).1) (by
    cases xs with
    | nil => rw [List.length_nil] at hl; omega
    | cons x r => rw [List.all_cons, (hP x (List.mem_cons_self ..)).2]; rfl))
theorem evp_wide {T : Tb} {w : Nat} (h : EvL te σ H (tv T)) (hr : Rect T w) (hz : T.length ≤ 1000 ∧ w ≤ 1000) (hn : T ≠ []) (hw : w ≠ T.length) : EvP te σ H (fun v H => Wide K H v) :=
  evpL (K := K) h fun a H1 _ hs => ⟨a, T, w, rfl, ⟨hs, hr, hz.1, hz.2⟩, hn, hw⟩
theorem evt_ty {n : Nat} {T : String} (h : Ev te σ H v) (k : ∀ H1, Kn K H1 v T) (hT : isB T "int" = false) : EvP te σ H (fun v H => NoThing K H n v) := evp h fun H1 _ => .ty (k H1) hT
theorem evt_out {n : Nat} {i : Int} (h : Ev te σ H (.int i)) (hi : ¬ (0 ≤ i ∧ i < n)) : EvP te σ H (fun v H => NoThing K H n v) := evp h fun H1 _ => .out i hi
theorem evt_tup {n : Nat} (h : EvU te σ H xs) : EvP te σ H (fun v H => NoThing K H n v) := evpU h fun a H1 _ z => .ty (.tup z) (by decide)
theorem evt_lst {n : Nat} (h : EvL te σ H xs) : EvP te σ H (fun v H => NoThing K H n v) := evpL (K := K) h fun a H1 _ z => .ty (.lst z) (by decide)
theorem evt_dict {n : Nat} : EvP tDNewK σ H (fun v H => NoThing K H n v) := evp_dk fun a H1 _ z => .ty (.dK z) (by decide)
/-- a new list told by its items, and the heap ahead of it -/
def EvPB (te : TE) (σ : L2.St) (H : Hp) (P : V → Hp → Prop) (n : Nat) : Prop := ∀ H1, Ex H H1 → ∀ Q : VK, (∀ p xs Hb H2, Ex H1 Hb → Hb p = none → Ex Hb H2 → H2 p = some (.lst xs) → xs.length = n → (∀ v ∈ xs, P v Hb) → Q (.ref p) H2) → te σ H1 Q
theorem epb_varcat {P : V → Hp → Prop} {n k i : Nat} {a : Addr} (m : Mo P) (hv : σ[i]? = some (some (.ref a))) (h2 : H a = some (.lst xs)) (l2 : xs.length = n) (p2 : ∀ v ∈ xs, P v H) (hb : EvPL tb σ H P k) (hz : n + k ≤ 1000) : EvPB (tOp rCat (tVar i) tb) σ H P (n + k) := fun H1 e Q q =>
  ⟨.ref a, hv, hb H1 e _ fun b ys H3 nb e3 h3 l3 p3 => ⟨a, b, xs, ys, rfl, rfl, e3 _ _ (e _ _ h2), h3, sz_of (by omega), fun p hp =>
    q p (xs ++ ys) H3 _ e3 hp (Ex.new hp) upd_same (by rw [List.length_append, l2, l3]) fun v hv =>
      (List.mem_append.mp hv).elim (fun z => m (p2 v z) (e.trans e3)) fun z => p3 v z⟩⟩
/-- f(..) of a def that gives such a list; all of it; one of it -/
def spP (P : V → Hp → Prop) (n : Nat) : Sp := fun vs H Q _ => ∃ i : Int, vs = [.int i] ∧ 0 ≤ i ∧ ∀ p xs H2, H p = none → Ex H H2 → H2 p = some (.lst xs) → xs.length = n → (∀ v ∈ xs, P v H2) → Q (.ref p) H2
theorem epl_callK {P : V → Hp → Prop} {L : List (Addr × Sp)} {n j : Nat} {a : Addr} {i : Int} (hp : (a, spP P n) ∈ L) (hv : σ[j]? = some (some (.ref a))) (h : Ev te σ H (.int i)) (hi : 0 ≤ i) : EvPL (tCallK L j (tCons te tNil)) σ H P n := fun H1 e Q q =>
  ⟨_, hp, hv, h H1 e _ fun H2 e2 => ⟨i, rfl, hi, fun p xs H3 hn e3 h3 hl hP => q p xs H3 (fresh_back e2 hn) (e2.trans e3) h3 hl hP⟩⟩
theorem ev_allP {P : V → Hp → Prop} {n j : Nat} (h : EvPL tl σ H P n) (hz : n ≤ 1000) (hw : ∀ x, wipe ((wipe σ ws).set j (some x)) ws = wipe σ ws) (he : ∀ x H', Ex H H' → P x H' → Ev te ((wipe σ ws).set j (some x)) H' (.bl true)) :
    Ev (tCB (rAll K) (tCons (tLc (iList K tl) (gName j) tYes te ws) tNil)) σ H (.bl true) := fun H1 e Q q =>
  h H1 e _ fun p xs H2 hp e2 hx hl hP => by
    have z : Ev (tCB (rAll K) (tCons (tLc (iList K (tC (.ref p))) (gName j) tYes te ws) tNil)) σ H2 (.bl true) :=
      ev_is (ev_allM (l := xs) (p := fun _ => true) (els (el_map (l := xs) (g := fun x => x) (f := fun _ => V.bl true) (EvS.is (evs ev_c (sq_of hx)) (List.map_id' xs).symm) (by omega) hw fun x hx' => he x H2 (e.trans e2) (hP x hx')))) (by simp)
    exact z H2 (Ex.refl H2) Q fun H3 e3 => q H3 (e2.trans e3)
theorem q_forPL {P : V → Hp → Prop} {n : Nat} {g : TG} (m : Mo P) (h : EvPL tl σ H P n) (Pv : L2.St → Hp → Prop) (h0 : ∀ H1, Ex H H1 → Pv σ H1)
    (hs : ∀ x σ' H', P x H' → Pv σ' H' → ∀ D' : Ends, D'.rt = D.rt → (∀ σ2 H2, Ex H' H2 → Pv σ2 H2 → D'.nx σ2 H2) → g x σ' H' (tu D'))
    (hd : ∀ σ' H', Pv σ' H' → tz D σ' H') : tSeq (tFor (iList K tl) g tu) tz D σ H :=
  h H (Ex.refl H) _ fun p xs H1 _ e1 hp hl hP => ⟨p, rfl, ⟨xs, sq_of hp⟩, for_list (fun _ σ' H' => Ex H1 H' ∧ Pv σ' H') ⟨Ex.refl H1, h0 H1 e1⟩ (fun _ _ _ _ q => sq_of (q.1 p _ hp))
    (fun i x σ' H' hx q => hs x σ' H' (m (hP x (List.mem_of_getElem? hx)) q.1) q.2 _ rfl fun σ2 H2 e2 pv => ⟨q.1.trans e2, pv⟩) fun σ' H' q => hd σ' H' q.2⟩
theorem g_triple {i j k : Nat} {T : Addr} {Q : L2.St → Hp → Prop} (hT : SqT K H T [x, y, z]) (q : Q (((σ.set i (some x)).set j (some y)).set k (some z)) H) : gTup K 3 (gCons (gName i) (gCons (gName j) (gCons (gName k) gNil))) (.ref T) σ H Q :=
  ⟨T, [x, y, z], rfl, hT, rfl, x, [y, z], rfl, y, [z], rfl, z, [], rfl, rfl, q⟩
theorem q_asgPL {P : V → Hp → Prop} {n i : Nat} (h : EvPL te σ H P n) (k : ∀ p xs H1, Ex H H1 → H1 p = some (.lst xs) → xs.length = n → (∀ v ∈ xs, P v H1) → tz D (σ.set i (some (.ref p))) H1) : tSeq (tAsg te (gName i)) tz D σ H :=
  h H (Ex.refl H) _ fun p xs H1 _ e1 hp hl hP => k p xs H1 e1 hp hl hP
theorem q_asgPB {P : V → Hp → Prop} {n i : Nat} (h : EvPB te σ H P n) (k : ∀ p xs Hb H1, Ex H Hb → Hb p = none → Ex Hb H1 → H1 p = some (.lst xs) → xs.length = n → (∀ v ∈ xs, P v Hb) → tz D (σ.set i (some (.ref p))) H1) : tSeq (tAsg te (gName i)) tz D σ H :=
  h H (Ex.refl H) _ fun p xs Hb H1 e1 hn e2 hp hl hP => k p xs Hb H1 e1 hn e2 hp hl hP
theorem s_retPL {P : V → Hp → Prop} {n : Nat} (h : EvPL te σ H P n) (k : ∀ p xs H1, H p = none → Ex H H1 → H1 p = some (.lst xs) → xs.length = n → (∀ v ∈ xs, P v H1) → D.rt (.ref p) H1) : tRet te D σ H :=
  h H (Ex.refl H) _ fun p xs H1 hn e1 hp hl hP => k p xs H1 hn e1 hp hl hP
end
/-! ### rows by hand -/
theorem rs_append (a b : List Bool) : rs a ++ rs b = rs (a ++ b) := by
  refine TL.ext_tl ?_
  rw [TL.tl_append]
  show a.map sg ++ b.map sg = (a ++ b).map sg
  rw [List.map_append]
/-! ### more words -/
def scV : V → Bool
  | .non => true | .bl _ => true | .int _ => true | .str _ => true
  | _ => false
theorem kn_sc {K : PySem.W.Frag} {H : Hp} : ∀ {v : V}, scV v = true → ∃ T, Kn K H v T
  | .non, _ => ⟨_, .non⟩ | .bl b, _ => ⟨_, .bl b⟩ | .int i, _ => ⟨_, .int i⟩ | .str s, _ => ⟨_, .str s⟩
  | .byt _, h | .flt _, h | .ref _, h | .ty _, h => by cases h
theorem bad_rows {T : Tb} {r0 r : List Bool} (h0 : T.head? = some r0) (hr : r ∈ T) (hl : r.length ≠ r0.length) : (T.map rs).any (badTx (T.map rs)) = true := by
  rw [List.any_eq_true]
  refine ⟨rs r, List.mem_map.mpr ⟨r, hr, rfl⟩, ?_⟩
  cases T with
  | nil => cases h0
  | cons z t =>
    cases h0
    unfold badTx
    rw [List.map_cons, List.headD_cons, rs_len, rs_len, decide_eq_false hl]
    rfl
theorem tv_rs (T : Tb) : tv T = (T.map rs).map V.str := by unfold tv; rw [List.map_map]; rfl
theorem rgV_ints (n : Nat) : rgV 0 (n : Int) = (intsOf (List.range n)).map V.int := by
  unfold rgV intsOf
  rw [List.map_map, Int.sub_zero, Int.toNat_natCast]
  refine List.map_congr_left fun i _ => ?_
  show V.int (0 + (i : Int)) = V.int (i : Int)
  rw [Int.zero_add]
section
variable {K : PySem.W.Frag} {σ : L2.St} {H H' : Hp} {te ta tb tl : TE} {ts : TA} {xs : List V} {v : V}
theorem evp_sc (h : EvA ts σ H xs) (hs : xs.all scV = true) (b : xs.all isStr = false) (hz : xs.length ≤ 1000) : EvP (tLst ts) σ H (fun v H => NoTab K H v) :=
  evp_its (n := 0) h (fun x hx H1 _ => kn_sc (List.all_eq_true.mp hs x hx)) b hz
theorem evp_tb {T : Tb} {r0 r : List Bool} (h : EvL te σ H (tv T)) (hz : T.length ≤ 1000 ∧ ∀ r ∈ T, r.length ≤ 1000) (h0 : T.head? = some r0) (hr : r ∈ T) (hl : r.length ≠ r0.length) : EvP te σ H (fun v H => NoTab K H v) :=
  evp_tx (ss := T.map rs) (EvL.is h (tv_rs T)) ⟨by rw [List.length_map]; exact hz.1, fun s hs => by
    obtain ⟨r, hr, rfl⟩ := List.mem_map.mp hs
    rw [rs_len]; exact hz.2 r hr⟩ (bad_rows h0 hr hl)
theorem ev_cat {a b : Str} (h : Ev ta σ H (.str a)) (g : Ev tb σ H (.str b)) (hz : a.length + b.length ≤ 1000) : Ev (tOp rCatS ta tb) σ H (.str (a ++ b)) := ev_op h g fun H1 _ Q q => ⟨a, b, rfl, rfl, sz_of (by omega), q H1 (Ex.refl H1)⟩
/-- k + e % m -/
theorem ev_addMod {i k : Int} {m n : Nat} (h : Ev te σ H (.int i)) (hm : 0 < m) (e : k + i % (m : Nat) = (n : Nat)) : Ev (tOp rAddI (tC (.int k)) (tOp rModI te (tC (.int (m : Nat))))) σ H (.int (n : Nat)) :=
  ev_is (ev_op ev_c (ev_op h ev_c (rv_I (show (0 : Int) < (m : Nat) by omega))) rv_I0) (by rw [e])
theorem el_rep1 {n : Nat} {s : Str} {tk : TE} (g : Ev tk σ H (.int (n : Nat))) (hn : n ≤ 100) : EvL (tOp rRep (tLst (tCons (tC (.str s)) tNil)) tk) σ H (List.replicate n (.str s)) :=
  EvL.is (el_rep (el_lst (ea_cons ev_c ea_nil) (show 1 ≤ 100000 by decide)) g hn (show 1 ≤ 10 by decide)) (rep_one _ _)
theorem tv_repl (r : List Bool) (n : Nat) : tv (List.replicate n r) = List.replicate n (.str (rs r)) := by unfold tv; rw [List.map_replicate]
theorem el_listR {n : Nat} (h : Ev te σ H (.int (n : Nat))) (hn : n ≤ 1000) : EvL (tLstRg (tRg1 te)) σ H ((intsOf (List.range n)).map V.int) := fun H1 e Q q =>
  h H1 e _ fun H2 e2 => ⟨(n : Nat), rfl, RgOk.of_le (by omega) (by omega) (by omega) (by omega), fun p hp => q p _ (fresh_back e2 hp) (e2.trans (Ex.new hp)) (by rw [upd_same, rgV_ints])⟩
end
theorem tv_ex : [V.str "-x", V.str "--"] = tv [[false, true], [false, false]] := by decide +kernel
end WA

namespace WA
open PySem PySem.Spec PyProof.Rows L2 Evl

def topS (i : Nat) : Stmt := PySem.Challenge.pw_wholeahead_k07_refused.main.body.getD i (.Pass ⟨0, 0, 0, 0⟩)
abbrev s_is_number : Stmt := topS 7
abbrev nm_is_number : List Str := ["thing"]
theorem sc_is_number : FnScope nm_is_number ["thing"] (defScope s_is_number) := ⟨rfl, rfl, rfl, by decide +kernel, rfl, by decide +kernel, by decide +kernel⟩
abbrev s_check_table : Stmt := topS 8
abbrev nm_check_table : List Str := ["table", "row"]
theorem sc_check_table : FnScope nm_check_table ["table"] (defScope s_check_table) := ⟨rfl, rfl, rfl, by decide +kernel, rfl, by decide +kernel, by decide +kernel⟩
abbrev s_check_square : Stmt := topS 9
abbrev nm_check_square : List Str := ["table"]
theorem sc_check_square : FnScope nm_check_square ["table"] (defScope s_check_square) := ⟨rfl, rfl, rfl, by decide +kernel, rfl, by decide +kernel, by decide +kernel⟩
abbrev s_has : Stmt := topS 10
abbrev nm_has : List Str := ["table", "row", "column"]
theorem sc_has : FnScope nm_has ["table", "row", "column"] (defScope s_has) := ⟨rfl, rfl, rfl, by decide +kernel, rfl, by decide +kernel, by decide +kernel⟩
abbrev s_rows_with : Stmt := topS 11
abbrev nm_rows_with : List Str := ["table", "column", "row"]
theorem sc_rows_with : FnScope nm_rows_with ["table", "column"] (defScope s_rows_with) := ⟨rfl, rfl, rfl, by decide +kernel, rfl, by decide +kernel, by decide +kernel⟩
abbrev s_turned : Stmt := topS 12
abbrev nm_turned : List Str := ["table", "column", "row"]
theorem sc_turned : FnScope nm_turned ["table"] (defScope s_turned) := ⟨rfl, rfl, rfl, by decide +kernel, rfl, by decide +kernel, by decide +kernel⟩
abbrev s_ahead_of : Stmt := topS 13
abbrev nm_ahead_of : List Str := ["table", "thing"]
theorem sc_ahead_of : FnScope nm_ahead_of ["table", "thing"] (defScope s_ahead_of) := ⟨rfl, rfl, rfl, by decide +kernel, rfl, by decide +kernel, by decide +kernel⟩
abbrev s_steps : Stmt := topS 30
abbrev nm_steps : List Str := ["table", "cross", "row", "rows", "columns", "column"]
theorem sc_steps : FnScope nm_steps ["table"] (defScope s_steps) := ⟨rfl, rfl, rfl, by decide +kernel, rfl, by decide +kernel, by decide +kernel⟩
abbrev s_stretches : Stmt := topS 33
abbrev nm_stretches : List Str := ["table", "found", "begins", "ends", "row", "begin", "sign", "thing", "unlike"]
theorem sc_stretches : FnScope nm_stretches ["table"] (defScope s_stretches) := ⟨rfl, rfl, rfl, by decide +kernel, rfl, by decide +kernel, by decide +kernel⟩
abbrev s_ranks : Stmt := topS 36
abbrev nm_ranks : List Str := ["table", "found", "sizes", "one", "other"]
theorem sc_ranks : FnScope nm_ranks ["table"] (defScope s_ranks) := ⟨rfl, rfl, rfl, by decide +kernel, rfl, by decide +kernel, by decide +kernel⟩
abbrev s_line : Stmt := topS 38
abbrev nm_line : List Str := ["table", "found", "sizes", "one", "other", "thing"]
theorem sc_line : FnScope nm_line ["table"] (defScope s_line) := ⟨rfl, rfl, rfl, by decide +kernel, rfl, by decide +kernel, by decide +kernel⟩
abbrev s_law_ask : Stmt := topS 40
abbrev nm_law_ask : List Str := ["_law_door", "_law_thing"]
theorem sc_law_ask : FnScope nm_law_ask ["_law_door", "_law_thing"] (defScope s_law_ask) := ⟨rfl, rfl, rfl, by decide +kernel, rfl, by decide +kernel, by decide +kernel⟩
abbrev s_law_due : Stmt := topS 41
abbrev nm_law_due : List Str := ["_law_door", "_law_thing", "_law_due_here", "error", "_law_found", "_law_k"]
theorem sc_law_due : FnScope nm_law_due ["_law_door", "_law_thing", "_law_due_here"] (defScope s_law_due) := ⟨rfl, rfl, rfl, by decide +kernel, rfl, by decide +kernel, by decide +kernel⟩
abbrev s_law_tables : Stmt := topS 42
abbrev nm_law_tables : List Str := ["_law_cell", "_law_some"]
theorem sc_law_tables : FnScope nm_law_tables ["_law_cell"] (defScope s_law_tables) := ⟨rfl, rfl, rfl, by decide +kernel, rfl, by decide +kernel, by decide +kernel⟩
abbrev s_law_wides : Stmt := topS 43
abbrev nm_law_wides : List Str := ["_law_cell"]
theorem sc_law_wides : FnScope nm_law_wides ["_law_cell"] (defScope s_law_wides) := ⟨rfl, rfl, rfl, by decide +kernel, rfl, by decide +kernel, by decide +kernel⟩
abbrev s_law_things : Stmt := topS 44
abbrev nm_law_things : List Str := ["_law_cell"]
theorem sc_law_things : FnScope nm_law_things ["_law_cell"] (defScope s_law_things) := ⟨rfl, rfl, rfl, by decide +kernel, rfl, by decide +kernel, by decide +kernel⟩
abbrev s_law : Stmt := topS 45
abbrev nm_law : List Str := ["_law_script", "_law_doors", "_law_things_here", "_law_due_here", "_law_door", "_law_thing", "_law_cell", "_law_some"]
theorem sc_law : FnScope nm_law ["_law_script"] (defScope s_law) := ⟨rfl, rfl, rfl, by decide +kernel, rfl, by decide +kernel, by decide +kernel⟩
def tfL : List He.Defn := []
def exB (K : PySem.W.Frag) : Bool := kxB K
structure Tx (K : PySem.W.Frag) (mg : Str → Option Value) : Prop where
  len : mg "len" = none
  all : mg "all" = none
  sorted : mg "sorted" = none
  min : mg "min" = none
  isinstance : mg "isinstance" = none
  list : mg "list" = none
  set : mg "set" = none
  range : mg "range" = none
  enumerate : mg "enumerate" = none
  zip : mg "zip" = none
  str : mg "str" = none
  int : mg "int" = none
  bool : mg "bool" = none
  ValueError : mg "ValueError" = none
  d_is_number : Dn K mg "is_number" s_is_number
  g_is_number : mg "is_number" = some (.ref (He.ga K "is_number"))
  d_check_table : Dn K mg "check_table" s_check_table
  g_check_table : mg "check_table" = some (.ref (He.ga K "check_table"))
  d_check_square : Dn K mg "check_square" s_check_square
  g_check_square : mg "check_square" = some (.ref (He.ga K "check_square"))
  d_has : Dn K mg "has" s_has
  g_has : mg "has" = some (.ref (He.ga K "has"))
  d_rows_with : Dn K mg "rows_with" s_rows_with
  g_rows_with : mg "rows_with" = some (.ref (He.ga K "rows_with"))
  d_turned : Dn K mg "turned" s_turned
  g_turned : mg "turned" = some (.ref (He.ga K "turned"))
  d_ahead_of : Dn K mg "ahead_of" s_ahead_of
  g_ahead_of : mg "ahead_of" = some (.ref (He.ga K "ahead_of"))
  d_steps : Dn K mg "steps" s_steps
  g_steps : mg "steps" = some (.ref (He.ga K "steps"))
  d_stretches : Dn K mg "stretches" s_stretches
  g_stretches : mg "stretches" = some (.ref (He.ga K "stretches"))
  d_ranks : Dn K mg "ranks" s_ranks
  g_ranks : mg "ranks" = some (.ref (He.ga K "ranks"))
  d_line : Dn K mg "line" s_line
  g_line : mg "line" = some (.ref (He.ga K "line"))
  d__law_ask : Dn K mg "_law_ask" s_law_ask
  g__law_ask : mg "_law_ask" = some (.ref (He.ga K "_law_ask"))
  d__law_due : Dn K mg "_law_due" s_law_due
  g__law_due : mg "_law_due" = some (.ref (He.ga K "_law_due"))
  d__law_tables : Dn K mg "_law_tables" s_law_tables
  g__law_tables : mg "_law_tables" = some (.ref (He.ga K "_law_tables"))
  d__law_wides : Dn K mg "_law_wides" s_law_wides
  g__law_wides : mg "_law_wides" = some (.ref (He.ga K "_law_wides"))
  d__law_things : Dn K mg "_law_things" s_law_things
  g__law_things : mg "_law_things" = some (.ref (He.ga K "_law_things"))
  d_law : Dn K mg "law" s_law
  g_TableError : mg "TableError" = some (.ref (He.ga K "TableError"))
  g_BadTable : mg "BadTable" = some (.ref (He.ga K "BadTable"))
  x_BadTable : OwnX K mg "BadTable" (He.ga K "BadTable")
  em_BadTable : PySem.W.exmOne K (.ref (He.ga K "BadTable")) (.ref (He.ga K "TableError")) = some true
  g_BadSquare : mg "BadSquare" = some (.ref (He.ga K "BadSquare"))
  x_BadSquare : OwnX K mg "BadSquare" (He.ga K "BadSquare")
  em_BadSquare : PySem.W.exmOne K (.ref (He.ga K "BadSquare")) (.ref (He.ga K "TableError")) = some true
  g_BadThing : mg "BadThing" = some (.ref (He.ga K "BadThing"))
  x_BadThing : OwnX K mg "BadThing" (He.ga K "BadThing")
  em_BadThing : PySem.W.exmOne K (.ref (He.ga K "BadThing")) (.ref (He.ga K "TableError")) = some true
  kx : KindX K

end WA

namespace WA
open PySem PySem.Spec PyProof.Rows L2 Evl

section
variable {P : Program} {w : World} {K : PySem.W.Frag} {mg : Str → Option Value} {base : Heap}
/-! ### is_number -/
def sp_is_number (K : PySem.W.Frag) : Sp := spV fun vs H z => ∃ v T, vs = [v] ∧ Kn K H v T ∧ z = .bl (isB T "int" && !isB T "bool")
theorem sv_is_number {H : Hp} {v : V} {T : String} (k : Kn K H v T) : SpV (sp_is_number K) ([v] ++ []) H (.bl (isB T "int" && !isB T "bool")) := spV_of fun _ e => ⟨v, T, rfl, k.mono e, rfl⟩
theorem cal_is_number (T : Tx K mg) : C8.Cal P w K mg base (0 + 1) "is_number" (sp_is_number K) [] := by
  refine T.d_is_number.cal sc_is_number (fun _ _ _ _ _ _ us hl => match us, hl with | [_], _ => rfl) ?_ ?_
  · rintro vs H Q E ⟨z, ⟨v, T, rfl, _⟩, _⟩; rfl
  · rintro f cdv A outer s H vs Q E hr ⟨z, ⟨v, Ty, rfl, k, rfl⟩, q⟩
    refine ⟨(tRet (tAndV (tCB (rIsi K) (tCons (tVar 0) (tCons (tC (.ty "int")) tNil))) (tNotV (tCB (rIsi K) (tCons (tVar 0) (tCons (tC (.ty "bool")) tNil)))))), (pss_one (ps_ret (pe_and (pe_callB (id := "isinstance") call_isi (by rfl) T.isinstance (by decide +kernel) (pa_cons (pv 0) (pa_cons (pe_bltn (v := .ty "int") (by rfl) T.int (by decide +kernel) rfl) pa_nil))) (pe_one (pe_not (pe_callB (id := "isinstance") call_isi (by rfl) T.isinstance (by decide +kernel) (pa_cons (pv 0) (pa_cons (pe_bltn (v := .ty "bool") (by rfl) T.bool (by decide +kernel) rfl) pa_nil)))))))), ?_⟩
    exact s_ret (ev_andV (ev_isiK (ev_var rfl) k (.inr (.inr (.inl rfl)))) fun _ => ev_notV (ev_isiK (ev_var rfl) k (.inr (.inr (.inr rfl))))) q
/-! ### check_table -/
def B1 (K : PySem.W.Frag) : List V → Hp → Nat → Prop := fun vs H c => ∃ v, vs = [v] ∧ c = 0 ∧ NoTab K H v
def B2 (K : PySem.W.Frag) : List V → Hp → Nat → Prop := fun vs H c => ∃ v, vs = [v] ∧ ((c = 0 ∧ NoTab K H v) ∨ (c = 1 ∧ Wide K H v))
def sp_check_table (K : PySem.W.Frag) : Sp := spR K (spV fun vs H z => ∃ a T w, vs = [.ref a] ∧ At K H a T w ∧ z = .non) (B1 K)
theorem calX_check_table (T : Tx K mg) : CalX P w K mg base (0 + 1) "check_table" (He.ga K "check_table") (sp_check_table K) := by
  refine T.d_check_table.calX T.g_check_table sc_check_table (fun _ _ _ _ _ _ us hl => match us, hl with | [_], _ => rfl) ?_ ?_
  · rintro vs H Q E (⟨z, ⟨a, T, n, rfl, _⟩, _⟩ | ⟨c, ⟨v, rfl, _⟩, _⟩) <;> rfl
  · rintro f cdv A outer s H vs Q E hr (⟨z, ⟨a, Tb, n, rfl, hT, rfl⟩, q⟩ | ⟨c, ⟨v, rfl, rfl, hv⟩, q⟩)
    · refine ⟨(tSeq (tIfS (tOr (tNot (tB (tCB (rIsi K) (tCons (tVar 0) (tCons (tC (.ty "list")) tNil))))) (tNot (tB (tCB (rAll K) (tCons (tLc (iList K (tVar 0)) (gName 1) tYes (tCB (rIsi K) (tCons (tVar 1) (tCons (tC (.ty "str")) tNil))) [1]) tNil))))) (tRaise (fun cls d _ H => E cls d H) (.ref (He.ga K "BadTable"))) tNext) (tFor (iList K (tVar 0)) (gName 1) (tIfS (tOr (tTest (tOp rNe (tCB (rLn K) (tCons (tVar 1) tNil)) (tCB (rLn K) (tCons (tOp (rIxL K) (tVar 0) (tC (.int 0))) tNil)))) (tTest (tOp rNe (tM1 rStripC (tVar 1) (tC (.str "x-"))) (tC (.str ""))))) (tRaise (fun cls d _ H => E cls d H) (.ref (He.ga K "BadTable"))) tNext))), (pss_cons (ps_if (PW.pt (pw_or (pt_not (pt_val (pe_callB (id := "isinstance") call_isi (by rfl) T.isinstance (by decide +kernel) (pa_cons (pv 0) (pa_cons (pe_bltn (v := .ty "list") (by rfl) T.list (by decide +kernel) rfl) pa_nil))))) (pw_or1 (pt_not (pt_val (pe_callB (id := "all") (cr_all rfl) (by rfl) T.all (by decide +kernel) (pa_cons (pe_lc (own := [("row", 1)]) rfl sc_check_table.nd (pi_list (pv 0)) (blkOk_by (own := [("row", 1)]) (by kernel_rfl)) (fun _ _ _ _ _ => (pg_name (i := 1) sc_check_table.nd rfl (Or.inl rfl))) (fun _ _ _ _ _ => pts_nil) (fun _ _ _ _ _ => (pe_callB (id := "isinstance") call_isi (by rfl) T.isinstance (by decide +kernel) (pa_cons (pv 1) (pa_cons (pe_bltn (v := .ty "str") (by rfl) T.str (by decide +kernel) rfl) pa_nil))))) pa_nil))))))) (pss_one (ps_raiseX T.x_BadTable rfl (L2N.takes_of rfl rfl rfl rfl) (by rfl))) pss_nil) (pss_one (ps_for (passes_of rfl) rfl (pi_list (pv 0)) (pg_name (i := 1) sc_check_table.nd rfl (Or.inl rfl)) (pss_one (ps_if (PW.pt (pw_or (pt_cmpR op_ne (pe_callB (id := "len") cl_len (by rfl) T.len (by decide +kernel) (pa_cons (pv 1) pa_nil)) (pe_callB (id := "len") cl_len (by rfl) T.len (by decide +kernel) (pa_cons (pe_ix ix_list (pv 0) pe_int (fun _ _ => rfl)) pa_nil)) (nomark _)) (pw_or1 (pt_cmpR op_ne (pe_stripC (pv 1) pe_str) pe_str (nomark _))))) (pss_one (ps_raiseX T.x_BadTable rfl (L2N.takes_of rfl rfl rfl rfl) (by rfl))) pss_nil))))), ?_⟩
      have hl := hT.ln
      have hw := hT.lw
      refine q_when (b := false) (et_is (et_or (et_not (et_B (ev_isiL (evs_var rfl hT.sq)))) fun _ => et_not (et_B (ev_allM (l := Tb) (p := fun _ => true) (els (el_map (g := fun r => V.str (rs r)) (evs_var rfl hT.sq) (by omega) (fun _ => rfl) fun r hr => ev_isiStr (ev_var rfl)))))) (by simp)) (fun hb => nomatch hb) fun _ H1 e1 => ?_
      have h1 := hT.mono e1
      refine s_forLn (ev_var rfl) h1.sq (fun i σ' H' => Ex H1 H' ∧ ∃ y, σ' = [some (.ref a), y]) (fun H2 e2 => ⟨e2, none, rfl⟩) (fun i σ' H' _ p => ex_l p.1 h1.sq) ?_ ?_
      · rintro i x σ' H' hx ⟨e2, y, rfl⟩
        have h2 := h1.mono e2
        obtain ⟨r, hr, rfl⟩ := List.mem_map.mp (List.mem_of_getElem? hx)
        have hlen : r.length = n := hT.rect r hr
        have hne : Tb ≠ [] := List.ne_nil_of_mem hr
        refine s_when (b := false) (et_is (et_or (et_test (ev_op (ev_lenRow (ev_var (v := .str (rs r)) rfl) (by omega)) (ev_len0 h2 (ev_var rfl) hne) (rv_ne rfl))) fun _ => et_test (ev_op (ev_strip (ev_var (v := .str (rs r)) rfl) (by omega)) ev_c (rv_ne rfl))) ?_) (fun hb => nomatch hb) fun _ H3 e3 => ⟨e2.trans e3, _, rfl⟩
        rw [hlen]; simp
      · rintro σ' H' ⟨e2, y, rfl⟩
        exact q H' (e1.trans e2)
    · refine ⟨(tSeq (tIfS (tOr (tNot (tB (tCB (rIsi K) (tCons (tVar 0) (tCons (tC (.ty "list")) tNil))))) (tNot (tB (tCB (rAll K) (tCons (tLc (iList K (tVar 0)) (gName 1) tYes (tCB (rIsi K) (tCons (tVar 1) (tCons (tC (.ty "str")) tNil))) [1]) tNil))))) (tRaise (fun cls d _ H => E cls d H) (.ref (He.ga K "BadTable"))) tNext) (tFor (iList K (tVar 0)) (gName 1) (tIfS (tOr (tTest (tOp rNe (tCB (rLn K) (tCons (tVar 1) tNil)) (tCB (rLn K) (tCons (tOp (rIxL K) (tVar 0) (tC (.int 0))) tNil)))) (tTest (tOp rNe (tM1 rStripC (tVar 1) (tC (.str "x-"))) (tC (.str ""))))) (tRaise (fun cls d _ H => E cls d H) (.ref (He.ga K "BadTable"))) tNext))), (pss_cons (ps_if (PW.pt (pw_or (pt_not (pt_val (pe_callB (id := "isinstance") call_isi (by rfl) T.isinstance (by decide +kernel) (pa_cons (pv 0) (pa_cons (pe_bltn (v := .ty "list") (by rfl) T.list (by decide +kernel) rfl) pa_nil))))) (pw_or1 (pt_not (pt_val (pe_callB (id := "all") (cr_all rfl) (by rfl) T.all (by decide +kernel) (pa_cons (pe_lc (own := [("row", 1)]) rfl sc_check_table.nd (pi_list (pv 0)) (blkOk_by (own := [("row", 1)]) (by kernel_rfl)) (fun _ _ _ _ _ => (pg_name (i := 1) sc_check_table.nd rfl (Or.inl rfl))) (fun _ _ _ _ _ => pts_nil) (fun _ _ _ _ _ => (pe_callB (id := "isinstance") call_isi (by rfl) T.isinstance (by decide +kernel) (pa_cons (pv 1) (pa_cons (pe_bltn (v := .ty "str") (by rfl) T.str (by decide +kernel) rfl) pa_nil))))) pa_nil))))))) (pss_one (ps_raiseX T.x_BadTable rfl (L2N.takes_of rfl rfl rfl rfl) (by rfl))) pss_nil) (pss_one (ps_for (passes_of rfl) rfl (pi_list (pv 0)) (pg_name (i := 1) sc_check_table.nd rfl (Or.inl rfl)) (pss_one (ps_if (PW.pt (pw_or (pt_cmpR op_ne (pe_callB (id := "len") cl_len (by rfl) T.len (by decide +kernel) (pa_cons (pv 1) pa_nil)) (pe_callB (id := "len") cl_len (by rfl) T.len (by decide +kernel) (pa_cons (pe_ix ix_list (pv 0) pe_int (fun _ _ => rfl)) pa_nil)) (nomark _)) (pw_or1 (pt_cmpR op_ne (pe_stripC (pv 1) pe_str) pe_str (nomark _))))) (pss_one (ps_raiseX T.x_BadTable rfl (L2N.takes_of rfl rfl rfl rfl) (by rfl))) pss_nil))))), ?_⟩
      cases hv with
      | @ty _ Ty k h =>
        refine q_when (b := true) (et_is (et_or (b := true) (et_not (et_B (ev_isiK (ev_var rfl) k (.inl rfl)))) fun hb => absurd hb (by rw [h]; decide)) (by rw [h]; rfl)) (fun _ H1 e1 => q H1 e1) fun hb => nomatch hb
      | @its a xs h hz k b =>
        refine q_when (b := true) (et_is (et_or (et_not (et_B (ev_isiL (evs_var rfl h)))) fun _ => et_not (et_B (ev_allM (l := xs) (p := isStr) (els (el_map (l := xs) (g := fun x => x) (f := fun x => V.bl (isStr x)) (EvS.is (evs_var rfl h) (List.map_id' xs).symm) (by omega) (fun _ => rfl) fun x hx => ?_))))) (by rw [b]; rfl)) (fun _ H1 e1 => q H1 e1) fun hb => nomatch hb
        obtain ⟨Ty, kx⟩ := k x hx
        exact ev_is (ev_isiK (ev_var rfl) kx (.inr (.inl rfl))) (by rw [kx.isStr])
      | @tx a ss h hz b =>
        refine q_when (b := false) (et_is (et_or (et_not (et_B (ev_isiL (evs_var rfl h)))) fun _ => et_not (et_B (ev_allM (l := ss) (p := fun _ => true) (els (el_map (g := V.str) (evs_var rfl h) (by omega) (fun _ => rfl) fun r hr => ev_isiStr (ev_var rfl)))))) (by simp)) (fun hb => nomatch hb) fun _ H1 e1 => ?_
        have h1 := ex_l e1 h
        refine s_forLn (ev_var rfl) h1 (fun i σ' H' => Ex H1 H' ∧ (∃ y, σ' = [some (.ref a), y]) ∧ ∀ (j : Nat) (s : Str), j < i → ss[j]? = some s → badTx ss s = false) (fun H2 e2 => ⟨e2, ⟨none, rfl⟩, fun j s hj => absurd hj (Nat.not_lt_zero _)⟩) (fun i σ' H' _ p => ex_l p.1 h1) ?_ ?_
        · rintro i x σ' H' hx ⟨e2, ⟨y, rfl⟩, hb0⟩
          have h2 := ex_l e2 h1
          rw [List.getElem?_map] at hx
          obtain ⟨s, hs, rfl⟩ := Option.map_eq_some_iff.mp hx
          have hm : s ∈ ss := List.mem_of_getElem? hs
          have hsl := hz.2 s hm
          have hne : ss ≠ [] := List.ne_nil_of_mem hm
          have h0 : ss[0]? = some (ss.headD "") := by cases ss with
            | nil => exact absurd rfl hne
            | cons z r => rfl
          have h0l := hz.2 _ (List.mem_of_getElem? h0)
          refine s_when (b := badTx ss s) (et_is (et_or (et_test (ev_op (ev_lenT (ev_var (v := .str s) rfl) (by omega)) (ev_lenT (ev_ixLS (v := .str (ss.headD "")) (evs_var rfl h2) ev_c (atI_nat (j := 0) (by rw [List.getElem?_map, h0]; rfl))) (by omega)) (rv_ne rfl))) fun _ => et_test (ev_op (ev_stripG (ev_var (v := .str s) rfl) (by omega)) ev_c (rv_ne rfl))) ?_) (fun _ H3 e3 => q H3 ((e1.trans e2).trans e3)) fun hb H3 e3 => ⟨e2.trans e3, ⟨_, rfl⟩, fun j t hj ht => ?_⟩
          · unfold badTx
            rw [dec_nat, dec_strV]
          · rcases Nat.lt_succ_iff_lt_or_eq.mp hj with hj | rfl
            · exact hb0 j t hj ht
            · rw [hs] at ht
              cases ht
              exact hb
        · rintro σ' H' ⟨e2, ⟨y, rfl⟩, hb0⟩
          exfalso
          rw [List.any_eq_true] at b
          obtain ⟨s, hm, hs⟩ := b
          obtain ⟨j, hj, hjs⟩ := List.getElem_of_mem hm
          have := hb0 j s (by rw [List.length_map]; exact hj) (by rw [List.getElem?_eq_getElem hj, hjs])
          rw [this] at hs
          cases hs
/-! ### check_square -/
def sp_check_square (K : PySem.W.Frag) : Sp := spR K (spV fun vs H z => ∃ a T, vs = [.ref a] ∧ At K H a T T.length ∧ z = .non) (B2 K)
theorem calX_check_square (T : Tx K mg) : CalX P w K mg base (1 + 1) "check_square" (He.ga K "check_square") (sp_check_square K) := by
  refine T.d_check_square.calX T.g_check_square sc_check_square (fun _ _ _ _ _ _ us hl => match us, hl with | [_], _ => rfl) ?_ ?_
  · rintro vs H Q E (⟨z, ⟨a, T, rfl, _⟩, _⟩ | ⟨c, ⟨v, rfl, _⟩, _⟩) <;> rfl
  · rintro f cdv A outer s H vs Q E hr (⟨z, ⟨a, Tb, rfl, hT, rfl⟩, q⟩ | ⟨c, ⟨v, rfl, ⟨rfl, hv⟩ | ⟨rfl, hv⟩⟩, q⟩)
    · refine ⟨(tSeq (tDrop (tCall (sp_check_table K) [] E (tCons (tVar 0) tNil))) (tIfS (tAnd (tTest (tOp (rNeD K) (tVar 0) (tLst tNil))) (tTest (tOp rNe (tCB (rLn K) (tCons (tOp (rIxL K) (tVar 0) (tC (.int 0))) tNil)) (tCB (rLn K) (tCons (tVar 0) tNil))))) (tRaise (fun cls d _ H => E cls d H) (.ref (He.ga K "BadSquare"))) tNext)), (pss_cons (ps_expr (pe_cX (calX_check_table T) hr (by decide) (by rfl) (L2N.takes_of rfl rfl rfl rfl) (pa_cons (pv 0) pa_nil))) (pss_one (ps_if (PW.pt (pw_and (pt_cmpR (op_neD hr.units) (pv 0) (pe_lst pa_nil) (nomark _)) (pw_and1 (pt_cmpR op_ne (pe_callB (id := "len") cl_len (by rfl) T.len (by decide +kernel) (pa_cons (pe_ix ix_list (pv 0) pe_int (fun _ _ => rfl)) pa_nil)) (pe_callB (id := "len") cl_len (by rfl) T.len (by decide +kernel) (pa_cons (pv 0) pa_nil)) (nomark _))))) (pss_one (ps_raiseX T.x_BadSquare rfl (L2N.takes_of rfl rfl rfl rfl) (by rfl))) pss_nil))), ?_⟩
      refine q_drop (ev_callG (x := .non) (ea_cons (ev_var rfl) ea_nil) fun H1 e1 => ⟨a, Tb, Tb.length, rfl, hT.mono e1, rfl⟩) fun H1 e1 => ?_
      have h1 := hT.mono e1
      refine s_when (b := false) (et_is (et_and (et_test (ev_nempty (evs_var rfl h1.sq))) fun hne => et_test (ev_op (ev_len0 h1 (ev_var rfl) (by simpa using hne)) (ev_lenTab h1 (ev_var rfl)) (rv_ne rfl))) (by simp)) (fun hb => nomatch hb) fun _ H2 e2 => q H2 (e1.trans e2)
    · refine ⟨(tSeq (tDrop (tCall (sp_check_table K) [] E (tCons (tVar 0) tNil))) (tIfS (tAnd (tTest (tOp (rNeD K) (tVar 0) (tLst tNil))) (tTest (tOp rNe (tCB (rLn K) (tCons (tOp (rIxL K) (tVar 0) (tC (.int 0))) tNil)) (tCB (rLn K) (tCons (tVar 0) tNil))))) (tRaise (fun cls d _ H => E cls d H) (.ref (He.ga K "BadSquare"))) tNext)), (pss_cons (ps_expr (pe_cX (calX_check_table T) hr (by decide) (by rfl) (L2N.takes_of rfl rfl rfl rfl) (pa_cons (pv 0) pa_nil))) (pss_one (ps_if (PW.pt (pw_and (pt_cmpR (op_neD hr.units) (pv 0) (pe_lst pa_nil) (nomark _)) (pw_and1 (pt_cmpR op_ne (pe_callB (id := "len") cl_len (by rfl) T.len (by decide +kernel) (pa_cons (pe_ix ix_list (pv 0) pe_int (fun _ _ => rfl)) pa_nil)) (pe_callB (id := "len") cl_len (by rfl) T.len (by decide +kernel) (pa_cons (pv 0) pa_nil)) (nomark _))))) (pss_one (ps_raiseX T.x_BadSquare rfl (L2N.takes_of rfl rfl rfl rfl) (by rfl))) pss_nil))), ?_⟩
      exact q_X (ex_call (c := 0) (ea_cons (ev_var rfl) ea_nil) fun H1 e1 => ⟨v, rfl, rfl, hv.mono e1⟩) fun H2 e2 => q H2 e2
    · refine ⟨(tSeq (tDrop (tCall (sp_check_table K) [] E (tCons (tVar 0) tNil))) (tIfS (tAnd (tTest (tOp (rNeD K) (tVar 0) (tLst tNil))) (tTest (tOp rNe (tCB (rLn K) (tCons (tOp (rIxL K) (tVar 0) (tC (.int 0))) tNil)) (tCB (rLn K) (tCons (tVar 0) tNil))))) (tRaise (fun cls d _ H => E cls d H) (.ref (He.ga K "BadSquare"))) tNext)), (pss_cons (ps_expr (pe_cX (calX_check_table T) hr (by decide) (by rfl) (L2N.takes_of rfl rfl rfl rfl) (pa_cons (pv 0) pa_nil))) (pss_one (ps_if (PW.pt (pw_and (pt_cmpR (op_neD hr.units) (pv 0) (pe_lst pa_nil) (nomark _)) (pw_and1 (pt_cmpR op_ne (pe_callB (id := "len") cl_len (by rfl) T.len (by decide +kernel) (pa_cons (pe_ix ix_list (pv 0) pe_int (fun _ _ => rfl)) pa_nil)) (pe_callB (id := "len") cl_len (by rfl) T.len (by decide +kernel) (pa_cons (pv 0) pa_nil)) (nomark _))))) (pss_one (ps_raiseX T.x_BadSquare rfl (L2N.takes_of rfl rfl rfl rfl) (by rfl))) pss_nil))), ?_⟩
      obtain ⟨a, Tb, n, rfl, hT, hne, hnw⟩ := hv
      refine q_drop (ev_callG (x := .non) (ea_cons (ev_var rfl) ea_nil) fun H1 e1 => ⟨a, Tb, n, rfl, hT.mono e1, rfl⟩) fun H1 e1 => ?_
      have h1 := hT.mono e1
      refine s_when (b := true) (et_is (et_and (et_test (ev_nempty (evs_var rfl h1.sq))) fun _ => et_test (ev_op (ev_len0 h1 (ev_var rfl) hne) (ev_lenTab h1 (ev_var rfl)) (rv_ne rfl))) (by rw [dec_nat, decide_eq_false hne, decide_eq_false hnw]; rfl)) (fun _ H2 e2 => q H2 (e1.trans e2)) fun hb => nomatch hb
/-! ### has -/
def sp_has (K : PySem.W.Frag) : Sp := spV fun vs H z => ∃ a T w i j, vs = [.ref a, .int (i : Nat), .int (j : Nat)] ∧ At K H a T w ∧ i < T.length ∧ j < w ∧ z = .bl (gt T i j)
theorem sv_has {H : Hp} {a : Addr} {T : Tb} {n i j : Nat} (h : At K H a T n) (hi : i < T.length) (hj : j < n) : SpV (sp_has K) ([.ref a, .int (i : Nat), .int (j : Nat)] ++ []) H (.bl (gt T i j)) :=
  spV_of fun _ e => ⟨a, T, n, i, j, rfl, h.mono e, hi, hj, rfl⟩
theorem cal_has (T : Tx K mg) : C8.Cal P w K mg base (0 + 1) "has" (sp_has K) [] := by
  refine T.d_has.cal sc_has (fun _ _ _ _ _ _ us hl => match us, hl with | [_, _, _], _ => rfl) ?_ ?_
  · rintro vs H Q E ⟨z, ⟨a, T, n, i, j, rfl, _⟩, _⟩; rfl
  · rintro f cdv A outer s H vs Q E hr ⟨z, ⟨a, Tb, n, i, j, rfl, hT, hi, hj, rfl⟩, q⟩
    refine ⟨(tRet (tOp rEq (tOp rIxS (tOp (rIxL K) (tVar 0) (tVar 1)) (tVar 2)) (tC (.str "x")))), (pss_one (ps_ret (pe_cmpR op_eq (pe_ix ix_str (pe_ix ix_list (pv 0) (pv 1) (fun _ _ => rfl)) (pv 2) (fun _ _ => rfl)) pe_str (nomark _)))), ?_⟩
    exact s_ret (ev_isX (ev_cell hT (ev_var rfl) (ev_var rfl) (ev_var rfl) hi hj)) q
/-! ### rows_with -/
def sp_rows_with (K : PySem.W.Frag) : Sp := spL fun vs H xs => ∃ a T w j, vs = [.ref a, .int (j : Nat)] ∧ At K H a T w ∧ (T ≠ [] → j < w) ∧ xs = nv (colOf T j)
theorem sl_rows_with {H : Hp} {a : Addr} {T : Tb} {n j : Nat} (h : At K H a T n) (hj : T ≠ [] → j < n) : SpL (sp_rows_with K) ([.ref a, .int (j : Nat)] ++ []) H (nv (colOf T j)) :=
  spL_of fun _ e => ⟨a, T, n, j, rfl, h.mono e, hj, rfl⟩
theorem cal_rows_with (T : Tx K mg) : C8.Cal P w K mg base (1 + 1) "rows_with" (sp_rows_with K) [] := by
  refine T.d_rows_with.cal sc_rows_with (fun _ _ _ _ _ _ us hl => match us, hl with | [_, _], _ => rfl) ?_ ?_
  · rintro vs H Q E ⟨z, ⟨a, T, n, j, rfl, _⟩, _⟩; rfl
  · rintro f cdv A outer s H vs Q E hr ⟨z, ⟨a, Tb, n, j, rfl, hT, hj, rfl⟩, q⟩
    refine ⟨(tRet (tLc (iRng1 (tCons (tCB (rLn K) (tCons (tVar 0) tNil)) tNil)) (gName 2) (tB (tCall (sp_has K) [] C8.E0 (tCons (tVar 0) (tCons (tVar 2) (tCons (tVar 1) tNil))))) (tVar 2) [2])), (pss_one (ps_ret (pe_lc (own := [("row", 2)]) rfl sc_rows_with.nd (pi_range1 (by rfl) T.range (pa_cons (pe_callB (id := "len") cl_len (by rfl) T.len (by decide +kernel) (pa_cons (pv 0) pa_nil)) pa_nil)) (blkOk_by (own := [("row", 2)]) (by kernel_rfl)) (fun _ _ _ _ _ => (pg_name (i := 2) sc_rows_with.nd rfl (Or.inl rfl))) (fun _ _ _ _ _ => (pts_one (pt_val (C8.pe_c (cal_has T) hr (by decide) (by rfl) (pa_cons (pv 0) (pa_cons (pv 2) (pa_cons (pv 1) pa_nil))))))) (fun _ _ _ _ _ => (pv 2))))), ?_⟩
    have hl := hT.ln
    refine s_retL (el_filtR (p := fun i => gt Tb i j) (f := fun i : Nat => V.int (i : Nat)) (ev_lenTab hT (ev_var rfl)) (by omega) (fun _ => rfl) (fun i hi => ?_) (fun i hi _ => ev_var rfl)) q
    exact et_B (ev_call (ea_cons (ev_var rfl) (ea_cons (ev_var rfl) (ea_cons (ev_var rfl) ea_nil))) (sv_has hT hi (hj (List.length_pos_iff.mp (by omega)))))
/-! ### turned -/
def sp_turned (K : PySem.W.Frag) : Sp := spR K (spL fun vs H xs => ∃ a T w, vs = [.ref a] ∧ At K H a T w ∧ xs = tv (turnT T w)) (B1 K)
theorem calX_turned (T : Tx K mg) : CalX P w K mg base (1 + 1) "turned" (He.ga K "turned") (sp_turned K) := by
  refine T.d_turned.calX T.g_turned sc_turned (fun _ _ _ _ _ _ us hl => match us, hl with | [_], _ => rfl) ?_ ?_
  · rintro vs H Q E (⟨z, ⟨a, T, n, rfl, _⟩, _⟩ | ⟨c, ⟨v, rfl, _⟩, _⟩) <;> rfl
  · rintro f cdv A outer s H vs Q E hr (⟨z, ⟨a, Tb, n, rfl, hT, rfl⟩, q⟩ | ⟨c, ⟨v, rfl, rfl, hv⟩, q⟩)
    · refine ⟨(tSeq (tDrop (tCall (sp_check_table K) [] E (tCons (tVar 0) tNil))) (tSeq (tIfS (tTest (tOp (rEqD K) (tVar 0) (tLst tNil))) (tRet (tLst tNil)) tNext) (tRet (tLc (iRng1 (tCons (tCB (rLn K) (tCons (tOp (rIxL K) (tVar 0) (tC (.int 0))) tNil)) tNil)) (gName 1) tYes (tM1 (rJoin K) (tC (.str "")) (tLc (iList K (tVar 0)) (gName 2) tYes (tOp rIxS (tVar 2) (tVar 1)) [2])) [1])))), (pss_cons (ps_expr (pe_cX (calX_check_table T) hr (by decide) (by rfl) (L2N.takes_of rfl rfl rfl rfl) (pa_cons (pv 0) pa_nil))) (pss_cons (ps_if (pt_cmpR (op_eqD hr.units) (pv 0) (pe_lst pa_nil) (nomark _)) (pss_one (ps_ret (pe_lst pa_nil))) pss_nil) (pss_one (ps_ret (pe_lc (own := [("column", 1)]) rfl sc_turned.nd (pi_range1 (by rfl) T.range (pa_cons (pe_callB (id := "len") cl_len (by rfl) T.len (by decide +kernel) (pa_cons (pe_ix ix_list (pv 0) pe_int (fun _ _ => rfl)) pa_nil)) pa_nil)) (blkOk_by (own := [("column", 1)]) (by kernel_rfl)) (fun _ _ _ _ _ => (pg_name (i := 1) sc_turned.nd rfl (Or.inr rfl))) (fun _ _ _ _ _ => pts_nil) (fun _ _ _ _ _ => (pe_joinR pe_str (pe_lc (own := [("row", 2)]) rfl sc_turned.nd (pi_list (pv 0)) (blkOk_by (own := [("row", 2)]) (by kernel_rfl)) (fun _ _ _ _ _ => (pg_name (i := 2) sc_turned.nd rfl (Or.inl rfl))) (fun _ _ _ _ _ => pts_nil) (fun _ _ _ _ _ => (pe_ix ix_str (pv 2) (pv 1) (fun _ _ => rfl))))))))))), ?_⟩
      refine q_drop (ev_callG (x := .non) (ea_cons (ev_var rfl) ea_nil) fun H1 e1 => ⟨a, Tb, n, rfl, hT.mono e1, rfl⟩) fun H1 e1 => ?_
      have h1 := hT.mono e1
      refine q_when (et_test (ev_empty (evs_var rfl h1.sq))) (fun hb H2 e2 => ?_) fun hb H2 e2 => ?_
      · have hT0 : Tb = [] := of_decide_eq_true hb
        subst hT0
        exact s_retL el_nil fun p H3 hp e3 h3 => q p H3 (fresh_back (e1.trans e2) hp) ((e1.trans e2).trans e3) h3
      · have hne : Tb ≠ [] := of_decide_eq_false hb
        have h2 := h1.mono e2
        have e12 := e1.trans e2
        have et : turnT Tb n = turn Tb n := if_neg hne
        rw [et] at q
        refine s_retL (el_turn h2 (ev_len0 h2 (ev_var rfl) hne) (fun _ => rfl) (fun _ _ => rfl) (fun i hi => ev_var rfl) fun i r hi hr => ?_) fun p H3 hp e3 h3 => q p H3 (fresh_back e12 hp) (e12.trans e3) h3
        have hlen := hT.rect r hr
        have := hT.lw
        exact ev_ixSg (ev_var (v := .str (rs r)) rfl) (ev_var rfl) (by omega) (by omega)
    · refine ⟨(tSeq (tDrop (tCall (sp_check_table K) [] E (tCons (tVar 0) tNil))) (tSeq (tIfS (tTest (tOp (rEqD K) (tVar 0) (tLst tNil))) (tRet (tLst tNil)) tNext) (tRet (tLc (iRng1 (tCons (tCB (rLn K) (tCons (tOp (rIxL K) (tVar 0) (tC (.int 0))) tNil)) tNil)) (gName 1) tYes (tM1 (rJoin K) (tC (.str "")) (tLc (iList K (tVar 0)) (gName 2) tYes (tOp rIxS (tVar 2) (tVar 1)) [2])) [1])))), (pss_cons (ps_expr (pe_cX (calX_check_table T) hr (by decide) (by rfl) (L2N.takes_of rfl rfl rfl rfl) (pa_cons (pv 0) pa_nil))) (pss_cons (ps_if (pt_cmpR (op_eqD hr.units) (pv 0) (pe_lst pa_nil) (nomark _)) (pss_one (ps_ret (pe_lst pa_nil))) pss_nil) (pss_one (ps_ret (pe_lc (own := [("column", 1)]) rfl sc_turned.nd (pi_range1 (by rfl) T.range (pa_cons (pe_callB (id := "len") cl_len (by rfl) T.len (by decide +kernel) (pa_cons (pe_ix ix_list (pv 0) pe_int (fun _ _ => rfl)) pa_nil)) pa_nil)) (blkOk_by (own := [("column", 1)]) (by kernel_rfl)) (fun _ _ _ _ _ => (pg_name (i := 1) sc_turned.nd rfl (Or.inr rfl))) (fun _ _ _ _ _ => pts_nil) (fun _ _ _ _ _ => (pe_joinR pe_str (pe_lc (own := [("row", 2)]) rfl sc_turned.nd (pi_list (pv 0)) (blkOk_by (own := [("row", 2)]) (by kernel_rfl)) (fun _ _ _ _ _ => (pg_name (i := 2) sc_turned.nd rfl (Or.inl rfl))) (fun _ _ _ _ _ => pts_nil) (fun _ _ _ _ _ => (pe_ix ix_str (pv 2) (pv 1) (fun _ _ => rfl))))))))))), ?_⟩
      exact q_X (ex_call (c := 0) (ea_cons (ev_var rfl) ea_nil) fun H1 e1 => ⟨v, rfl, rfl, hv.mono e1⟩) fun H2 e2 => q H2 e2
/-! ### ahead_of -/
def sp_ahead_of (K : PySem.W.Frag) : Sp := spR K (spL fun vs H xs => ∃ a T j, vs = [.ref a, .int (j : Nat)] ∧ At K H a T T.length ∧ j < T.length ∧ xs = nv (colOf T j))
  fun vs H c => ∃ v x, vs = [v, x] ∧ ((c = 0 ∧ NoTab K H v) ∨ (c = 1 ∧ Wide K H v) ∨ (c = 2 ∧ ∃ a T, v = .ref a ∧ At K H a T T.length ∧ NoThing K H T.length x))
theorem calX_ahead_of (T : Tx K mg) : CalX P w K mg base (2 + 1) "ahead_of" (He.ga K "ahead_of") (sp_ahead_of K) := by
  refine T.d_ahead_of.calX T.g_ahead_of sc_ahead_of (fun _ _ _ _ _ _ us hl => match us, hl with | [_, _], _ => rfl) ?_ ?_
  · rintro vs H Q E (⟨z, ⟨a, T, j, rfl, _⟩, _⟩ | ⟨c, ⟨v, x, rfl, _⟩, _⟩) <;> rfl
  · rintro f cdv A outer s H vs Q E hr (⟨z, ⟨a, Tb, j, rfl, hT, hj, rfl⟩, q⟩ | ⟨c, ⟨v, x, rfl, ⟨rfl, hv⟩ | ⟨rfl, hv⟩ | ⟨rfl, a, Tb, rfl, hT, hx⟩⟩, q⟩)
    · refine ⟨(tSeq (tDrop (tCall (sp_check_square K) [] E (tCons (tVar 0) tNil))) (tSeq (tIfS (tOr (tNot (tB (tCall (sp_is_number K) [] C8.E0 (tCons (tVar 1) tNil)))) (tNot (tTest (tChain rLeI rLtI (tC (.int 0)) (tVar 1) (tCB (rLn K) (tCons (tVar 0) tNil)))))) (tRaise (fun cls d _ H => E cls d H) (.ref (He.ga K "BadThing"))) tNext) (tRet (tCall (sp_rows_with K) [] C8.E0 (tCons (tVar 0) (tCons (tVar 1) tNil)))))), (pss_cons (ps_expr (pe_cX (calX_check_square T) hr (by decide) (by rfl) (L2N.takes_of rfl rfl rfl rfl) (pa_cons (pv 0) pa_nil))) (pss_cons (ps_if (PW.pt (pw_or (pt_not (pt_val (C8.pe_c (cal_is_number T) hr (by decide) (by rfl) (pa_cons (pv 1) pa_nil)))) (pw_or1 (pt_not (pt_chain op_le op_lt pe_int (pv 1) (pe_callB (id := "len") cl_len (by rfl) T.len (by decide +kernel) (pa_cons (pv 0) pa_nil))))))) (pss_one (ps_raiseX T.x_BadThing rfl (L2N.takes_of rfl rfl rfl rfl) (by rfl))) pss_nil) (pss_one (ps_ret (C8.pe_c (cal_rows_with T) hr (by decide) (by rfl) (pa_cons (pv 0) (pa_cons (pv 1) pa_nil))))))), ?_⟩
      refine q_drop (ev_callG (x := .non) (ea_cons (ev_var rfl) ea_nil) fun H1 e1 => ⟨a, Tb, rfl, hT.mono e1, rfl⟩) fun H1 e1 => ?_
      have h1 := hT.mono e1
      refine q_when (b := false) (et_is (et_or (et_not (et_B (ev_call (ea_cons (ev_var rfl) ea_nil) (sv_is_number (.int _))))) fun _ => et_not (et_chain ev_c (ev_var rfl) (fun _ => ev_lenTab h1 (ev_var rfl)) rv_I0 fun _ => rv_I0)) (by rw [decide_eq_true (show (0 : Int) ≤ (j : Nat) by omega), decide_eq_true (show ((j : Nat) : Int) < (Tb.length : Nat) by omega)]; rfl)) (fun hb => nomatch hb) fun _ H2 e2 => ?_
      have e12 := e1.trans e2
      exact s_retL (el_call (ea_cons (ev_var rfl) (ea_cons (ev_var rfl) ea_nil)) (sl_rows_with (hT.mono e12) fun _ => hj)) fun p H3 hp e3 h3 => q p H3 (fresh_back e12 hp) (e12.trans e3) h3
    · refine ⟨(tSeq (tDrop (tCall (sp_check_square K) [] E (tCons (tVar 0) tNil))) (tSeq (tIfS (tOr (tNot (tB (tCall (sp_is_number K) [] C8.E0 (tCons (tVar 1) tNil)))) (tNot (tTest (tChain rLeI rLtI (tC (.int 0)) (tVar 1) (tCB (rLn K) (tCons (tVar 0) tNil)))))) (tRaise (fun cls d _ H => E cls d H) (.ref (He.ga K "BadThing"))) tNext) (tRet (tCall (sp_rows_with K) [] C8.E0 (tCons (tVar 0) (tCons (tVar 1) tNil)))))), (pss_cons (ps_expr (pe_cX (calX_check_square T) hr (by decide) (by rfl) (L2N.takes_of rfl rfl rfl rfl) (pa_cons (pv 0) pa_nil))) (pss_cons (ps_if (PW.pt (pw_or (pt_not (pt_val (C8.pe_c (cal_is_number T) hr (by decide) (by rfl) (pa_cons (pv 1) pa_nil)))) (pw_or1 (pt_not (pt_chain op_le op_lt pe_int (pv 1) (pe_callB (id := "len") cl_len (by rfl) T.len (by decide +kernel) (pa_cons (pv 0) pa_nil))))))) (pss_one (ps_raiseX T.x_BadThing rfl (L2N.takes_of rfl rfl rfl rfl) (by rfl))) pss_nil) (pss_one (ps_ret (C8.pe_c (cal_rows_with T) hr (by decide) (by rfl) (pa_cons (pv 0) (pa_cons (pv 1) pa_nil))))))), ?_⟩
      exact q_X (ex_call (c := 0) (ea_cons (ev_var rfl) ea_nil) fun H1 e1 => ⟨v, rfl, .inl ⟨rfl, hv.mono e1⟩⟩) fun H2 e2 => q H2 e2
    · refine ⟨(tSeq (tDrop (tCall (sp_check_square K) [] E (tCons (tVar 0) tNil))) (tSeq (tIfS (tOr (tNot (tB (tCall (sp_is_number K) [] C8.E0 (tCons (tVar 1) tNil)))) (tNot (tTest (tChain rLeI rLtI (tC (.int 0)) (tVar 1) (tCB (rLn K) (tCons (tVar 0) tNil)))))) (tRaise (fun cls d _ H => E cls d H) (.ref (He.ga K "BadThing"))) tNext) (tRet (tCall (sp_rows_with K) [] C8.E0 (tCons (tVar 0) (tCons (tVar 1) tNil)))))), (pss_cons (ps_expr (pe_cX (calX_check_square T) hr (by decide) (by rfl) (L2N.takes_of rfl rfl rfl rfl) (pa_cons (pv 0) pa_nil))) (pss_cons (ps_if (PW.pt (pw_or (pt_not (pt_val (C8.pe_c (cal_is_number T) hr (by decide) (by rfl) (pa_cons (pv 1) pa_nil)))) (pw_or1 (pt_not (pt_chain op_le op_lt pe_int (pv 1) (pe_callB (id := "len") cl_len (by rfl) T.len (by decide +kernel) (pa_cons (pv 0) pa_nil))))))) (pss_one (ps_raiseX T.x_BadThing rfl (L2N.takes_of rfl rfl rfl rfl) (by rfl))) pss_nil) (pss_one (ps_ret (C8.pe_c (cal_rows_with T) hr (by decide) (by rfl) (pa_cons (pv 0) (pa_cons (pv 1) pa_nil))))))), ?_⟩
      exact q_X (ex_call (c := 1) (ea_cons (ev_var rfl) ea_nil) fun H1 e1 => ⟨v, rfl, .inr ⟨rfl, hv.mono e1⟩⟩) fun H2 e2 => q H2 e2
    · refine ⟨(tSeq (tDrop (tCall (sp_check_square K) [] E (tCons (tVar 0) tNil))) (tSeq (tIfS (tOr (tNot (tB (tCall (sp_is_number K) [] C8.E0 (tCons (tVar 1) tNil)))) (tNot (tTest (tChain rLeI rLtI (tC (.int 0)) (tVar 1) (tCB (rLn K) (tCons (tVar 0) tNil)))))) (tRaise (fun cls d _ H => E cls d H) (.ref (He.ga K "BadThing"))) tNext) (tRet (tCall (sp_rows_with K) [] C8.E0 (tCons (tVar 0) (tCons (tVar 1) tNil)))))), (pss_cons (ps_expr (pe_cX (calX_check_square T) hr (by decide) (by rfl) (L2N.takes_of rfl rfl rfl rfl) (pa_cons (pv 0) pa_nil))) (pss_cons (ps_if (PW.pt (pw_or (pt_not (pt_val (C8.pe_c (cal_is_number T) hr (by decide) (by rfl) (pa_cons (pv 1) pa_nil)))) (pw_or1 (pt_not (pt_chain op_le op_lt pe_int (pv 1) (pe_callB (id := "len") cl_len (by rfl) T.len (by decide +kernel) (pa_cons (pv 0) pa_nil))))))) (pss_one (ps_raiseX T.x_BadThing rfl (L2N.takes_of rfl rfl rfl rfl) (by rfl))) pss_nil) (pss_one (ps_ret (C8.pe_c (cal_rows_with T) hr (by decide) (by rfl) (pa_cons (pv 0) (pa_cons (pv 1) pa_nil))))))), ?_⟩
      refine q_drop (ev_callG (x := .non) (ea_cons (ev_var rfl) ea_nil) fun H1 e1 => ⟨a, Tb, rfl, hT.mono e1, rfl⟩) fun H1 e1 => ?_
      have h1 := hT.mono e1
      cases hx with
      | @ty x Ty k h =>
        exact q_when (b := true) (et_is (et_or (b := true) (et_not (et_B (ev_call (ea_cons (ev_var rfl) ea_nil) (sv_is_number (k.mono e1))))) fun hb => absurd hb (by rw [h]; exact Bool.noConfusion)) (by rw [h]; rfl)) (fun _ H2 e2 => q H2 (e1.trans e2)) fun hb => nomatch hb
      | bl b =>
        exact q_when (b := true) (et_is (et_or (b := true) (et_not (et_B (ev_call (ea_cons (ev_var rfl) ea_nil) (sv_is_number (.bl b))))) fun hb => absurd hb (by decide)) (by decide)) (fun _ H2 e2 => q H2 (e1.trans e2)) fun hb => nomatch hb
      | out i h =>
        refine q_when (b := true) (et_is (et_or (et_not (et_B (ev_call (ea_cons (ev_var rfl) ea_nil) (sv_is_number (.int _))))) fun _ => et_not (et_chain ev_c (ev_var rfl) (fun _ => ev_lenTab h1 (ev_var rfl)) rv_I0 fun _ => rv_I0)) ?_) (fun _ H2 e2 => q H2 (e1.trans e2)) fun hb => nomatch hb
        have e0 : (decide ((0 : Int) ≤ i) && decide (i < (Tb.length : Nat))) = false := by
          by_cases h0 : (0 : Int) ≤ i
          · rw [decide_eq_true h0, decide_eq_false fun z => h ⟨h0, z⟩]; rfl
          · rw [decide_eq_false h0]; rfl
        rw [e0]; decide
/-! ### the tellers: their first statement alone -/
def sp_steps (K : PySem.W.Frag) : Sp := spR K (fun _ _ _ _ => False) (B1 K)
def sp_stretches (K : PySem.W.Frag) : Sp := spR K (fun _ _ _ _ => False) (B2 K)
def sp_ranks (K : PySem.W.Frag) : Sp := spR K (fun _ _ _ _ => False) (B2 K)
def sp_line (K : PySem.W.Frag) : Sp := spR K (fun _ _ _ _ => False) (B2 K)
theorem calX_steps (T : Tx K mg) : CalX P w K mg base (1 + 1) "steps" (He.ga K "steps") (sp_steps K) := by
  refine T.d_steps.calX T.g_steps sc_steps (fun _ _ _ _ _ _ us hl => match us, hl with | [_], _ => rfl) ?_ ?_
  · rintro vs H Q E (h | ⟨c, ⟨v, rfl, _⟩, _⟩)
    · exact h.elim
    · rfl
  · rintro f cdv A outer s H vs Q E hr (h | ⟨c, ⟨v, rfl, rfl, hv⟩, q⟩)
    · exact h.elim
    · refine ⟨(tSeq (tDrop (tCall (sp_check_table K) [] E (tCons (tVar 0) tNil))) tNever), (pss_cons (ps_expr (pe_cX (calX_check_table T) hr (by decide) (by rfl) (L2N.takes_of rfl rfl rfl rfl) (pa_cons (pv 0) pa_nil))) pss_never), ?_⟩
      exact q_X (ex_call (c := 0) (ea_cons (ev_var rfl) ea_nil) fun H1 e1 => ⟨v, rfl, rfl, hv.mono e1⟩) fun H2 e2 => q H2 e2
theorem calX_stretches (T : Tx K mg) : CalX P w K mg base (2 + 1) "stretches" (He.ga K "stretches") (sp_stretches K) := by
  refine T.d_stretches.calX T.g_stretches sc_stretches (fun _ _ _ _ _ _ us hl => match us, hl with | [_], _ => rfl) ?_ ?_
  · rintro vs H Q E (h | ⟨c, ⟨v, rfl, _⟩, _⟩)
    · exact h.elim
    · rfl
  · rintro f cdv A outer s H vs Q E hr (h | ⟨c, ⟨v, rfl, hv⟩, q⟩)
    · exact h.elim
    · refine ⟨(tSeq (tDrop (tCall (sp_check_square K) [] E (tCons (tVar 0) tNil))) tNever), (pss_cons (ps_expr (pe_cX (calX_check_square T) hr (by decide) (by rfl) (L2N.takes_of rfl rfl rfl rfl) (pa_cons (pv 0) pa_nil))) pss_never), ?_⟩
      exact q_X (ex_call (c := c) (ea_cons (ev_var rfl) ea_nil) fun H1 e1 => ⟨v, rfl, hv.imp (fun z => ⟨z.1, z.2.mono e1⟩) fun z => ⟨z.1, z.2.mono e1⟩⟩) fun H2 e2 => q H2 e2
theorem calX_ranks (T : Tx K mg) : CalX P w K mg base (2 + 1) "ranks" (He.ga K "ranks") (sp_ranks K) := by
  refine T.d_ranks.calX T.g_ranks sc_ranks (fun _ _ _ _ _ _ us hl => match us, hl with | [_], _ => rfl) ?_ ?_
  · rintro vs H Q E (h | ⟨c, ⟨v, rfl, _⟩, _⟩)
    · exact h.elim
    · rfl
  · rintro f cdv A outer s H vs Q E hr (h | ⟨c, ⟨v, rfl, hv⟩, q⟩)
    · exact h.elim
    · refine ⟨(tSeq (tDrop (tCall (sp_check_square K) [] E (tCons (tVar 0) tNil))) tNever), (pss_cons (ps_expr (pe_cX (calX_check_square T) hr (by decide) (by rfl) (L2N.takes_of rfl rfl rfl rfl) (pa_cons (pv 0) pa_nil))) pss_never), ?_⟩
      exact q_X (ex_call (c := c) (ea_cons (ev_var rfl) ea_nil) fun H1 e1 => ⟨v, rfl, hv.imp (fun z => ⟨z.1, z.2.mono e1⟩) fun z => ⟨z.1, z.2.mono e1⟩⟩) fun H2 e2 => q H2 e2
theorem calX_line (T : Tx K mg) : CalX P w K mg base (2 + 1) "line" (He.ga K "line") (sp_line K) := by
  refine T.d_line.calX T.g_line sc_line (fun _ _ _ _ _ _ us hl => match us, hl with | [_], _ => rfl) ?_ ?_
  · rintro vs H Q E (h | ⟨c, ⟨v, rfl, _⟩, _⟩)
    · exact h.elim
    · rfl
  · rintro f cdv A outer s H vs Q E hr (h | ⟨c, ⟨v, rfl, hv⟩, q⟩)
    · exact h.elim
    · refine ⟨(tSeq (tDrop (tCall (sp_check_square K) [] E (tCons (tVar 0) tNil))) tNever), (pss_cons (ps_expr (pe_cX (calX_check_square T) hr (by decide) (by rfl) (L2N.takes_of rfl rfl rfl rfl) (pa_cons (pv 0) pa_nil))) pss_never), ?_⟩
      exact q_X (ex_call (c := c) (ea_cons (ev_var rfl) ea_nil) fun H1 e1 => ⟨v, rfl, hv.imp (fun z => ⟨z.1, z.2.mono e1⟩) fun z => ⟨z.1, z.2.mono e1⟩⟩) fun H2 e2 => q H2 e2
end

end WA

namespace WA
open PySem PySem.Spec PyProof.Rows L2 Evl

section
variable {P : Program} {w : World} {K : PySem.W.Frag} {mg : Str → Option Value} {base : Heap}
/-! ### the doors by number -/
def lstI (K : PySem.W.Frag) : List (Addr × Sp) := [(He.ga K "turned", sp_turned K), (He.ga K "steps", sp_steps K), (He.ga K "stretches", sp_stretches K), (He.ga K "ranks", sp_ranks K), (He.ga K "line", sp_line K)]
theorem callsI (T : Tx K mg) : ∀ p ∈ lstI K, ∃ y, CalX P w K mg base 3 y p.1 p.2 := by
  intro p hp
  simp only [lstI, List.mem_cons, List.not_mem_nil, or_false] at hp
  rcases hp with rfl | rfl | rfl | rfl | rfl
  · exact ⟨_, (calX_turned T).up (by decide)⟩
  · exact ⟨_, (calX_steps T).up (by decide)⟩
  · exact ⟨_, calX_stretches T⟩
  · exact ⟨_, calX_ranks T⟩
  · exact ⟨_, calX_line T⟩
theorem bad0 : ∀ p ∈ lstI K, ∀ (H : Hp) (v : V) (Q : VK) (E : XK), NoTab K H v → (∀ H3, Ex H H3 → E (.ref (xa K 0)) none H3) → p.2 ([v] ++ []) H Q E := by
  intro p hp H v Q E hv q
  simp only [lstI, List.mem_cons, List.not_mem_nil, or_false] at hp
  rcases hp with rfl | rfl | rfl | rfl | rfl
  · exact .inr ⟨0, ⟨v, rfl, rfl, hv⟩, q⟩
  · exact .inr ⟨0, ⟨v, rfl, rfl, hv⟩, q⟩
  · exact .inr ⟨0, ⟨v, rfl, .inl ⟨rfl, hv⟩⟩, q⟩
  · exact .inr ⟨0, ⟨v, rfl, .inl ⟨rfl, hv⟩⟩, q⟩
  · exact .inr ⟨0, ⟨v, rfl, .inl ⟨rfl, hv⟩⟩, q⟩
theorem bad1 : ∀ (k : Nat) (p : Addr × Sp), 2 ≤ k → (lstI K)[k]? = some p → ∀ (H : Hp) (v : V) (Q : VK) (E : XK), Wide K H v → (∀ H3, Ex H H3 → E (.ref (xa K 1)) none H3) → p.2 ([v] ++ []) H Q E
  | 0, _, h, _, _, _, _, _, _, _ => absurd h (by decide)
  | 1, _, h, _, _, _, _, _, _, _ => absurd h (by decide)
  | 2, _, _, hp, H, v, Q, E, hv, q => by cases hp; exact .inr ⟨1, ⟨v, rfl, .inr ⟨rfl, hv⟩⟩, q⟩
  | 3, _, _, hp, H, v, Q, E, hv, q => by cases hp; exact .inr ⟨1, ⟨v, rfl, .inr ⟨rfl, hv⟩⟩, q⟩
  | 4, _, _, hp, H, v, Q, E, hv, q => by cases hp; exact .inr ⟨1, ⟨v, rfl, .inr ⟨rfl, hv⟩⟩, q⟩
  | k + 5, _, _, hp, _, _, _, _, _, _ => by cases hp
theorem ask_in {σ : L2.St} {H : Hp} {D : Ends} {v : V} {E : XK} {k c : Nat} {p : Addr × Sp} (hk : (lstI K)[k]? = some p) (h0 : σ[0]? = some (some (.int (k : Nat)))) (h1 : σ[1]? = some (some v))
    (hs : ∀ H2, Ex H H2 → ∀ Q : VK, (∀ H3, Ex H2 H3 → E (.ref (xa K c)) none H3) → p.2 ([v] ++ []) H2 Q E) (q : ∀ H2, Ex H H2 → E (.ref (xa K c)) none H2) :
    tRet (tCallI (lstI K) E (tOp (rIxL K) (tLst (tCons (tC (.ref (He.ga K "turned"))) (tCons (tC (.ref (He.ga K "steps"))) (tCons (tC (.ref (He.ga K "stretches"))) (tCons (tC (.ref (He.ga K "ranks"))) (tCons (tC (.ref (He.ga K "line"))) tNil)))))) (tVar 0)) (tCons (tVar 1) tNil)) D σ H := by
  refine s_X (ex_callI (List.mem_of_getElem? hk) (ev_ixLS (xs := (lstI K).map fun p => V.ref p.1) (els (el_lst (ea_cons ev_c (ea_cons ev_c (ea_cons ev_c (ea_cons ev_c (ea_cons ev_c ea_nil))))) (show 5 ≤ 100000 by decide))) (ev_var h0) (atI_nat (by rw [List.getElem?_map, hk]; rfl))) (ea_cons (ev_var h1) ea_nil) fun H2 e2 Q hq => hs H2 e2 Q hq) q
/-! ### _law_ask -/
def sp_law_ask (K : PySem.W.Frag) : Sp := spR K (fun _ _ _ _ => False) fun vs H c => ∃ (d : Int) (v : V), vs = [.int d, v] ∧ Refuse K H d v c
theorem calX__law_ask (T : Tx K mg) : CalX P w K mg base (3 + 1) "_law_ask" (He.ga K "_law_ask") (sp_law_ask K) := by
  refine T.d__law_ask.calX T.g__law_ask sc_law_ask (fun _ _ _ _ _ _ us hl => match us, hl with | [_, _], _ => rfl) ?_ ?_
  · rintro vs H Q E (h | ⟨c, ⟨d, v, rfl, _⟩, _⟩)
    · exact h.elim
    · rfl
  · rintro f cdv A outer s H vs Q E hr (h | ⟨c, ⟨d, v, rfl, hv⟩, q⟩)
    · exact h.elim
    refine ⟨(tSeq (tIfS (tTest (tOp rLtI (tVar 0) (tC (.int 5)))) (tRet (tCallI (lstI K) E (tOp (rIxL K) (tLst (tCons (tC (.ref (He.ga K "turned"))) (tCons (tC (.ref (He.ga K "steps"))) (tCons (tC (.ref (He.ga K "stretches"))) (tCons (tC (.ref (He.ga K "ranks"))) (tCons (tC (.ref (He.ga K "line"))) tNil)))))) (tVar 0)) (tCons (tVar 1) tNil))) tNext) (tRet (tIf (tTest (tOp rEq (tVar 0) (tC (.int 5)))) (tCall (sp_ahead_of K) [] E (tCons (tVar 1) (tCons (tC .non) tNil))) (tCall (sp_ahead_of K) [] E (tCons (tLst (tCons (tC (.str "-x")) (tCons (tC (.str "--")) tNil))) (tCons (tVar 1) tNil)))))), (pss_cons (ps_if (pt_cmpR op_lt (pv 0) pe_int (nomark _)) (pss_one (ps_ret (pe_callI (k := 3) (callsI T) hr (by decide) (L2N.takes_of rfl rfl rfl rfl) (pe_ix ix_list (pe_lst (pa_cons (pe_glob (by rfl) T.g_turned rfl) (pa_cons (pe_glob (by rfl) T.g_steps rfl) (pa_cons (pe_glob (by rfl) T.g_stretches rfl) (pa_cons (pe_glob (by rfl) T.g_ranks rfl) (pa_cons (pe_glob (by rfl) T.g_line rfl) pa_nil)))))) (pv 0) (fun _ _ => rfl)) (pa_cons (pv 1) pa_nil)))) pss_nil) (pss_one (ps_ret (pe_ifExp (pt_cmpR op_eq (pv 0) pe_int (nomark _)) (pe_cX (calX_ahead_of T) hr (by decide) (by rfl) (L2N.takes_of rfl rfl rfl rfl) (pa_cons (pv 1) (pa_cons pe_non pa_nil))) (pe_cX (calX_ahead_of T) hr (by decide) (by rfl) (L2N.takes_of rfl rfl rfl rfl) (pa_cons (pe_lst (pa_cons pe_str (pa_cons pe_str pa_nil))) (pa_cons (pv 1) pa_nil))))))), ?_⟩
    refine q_when (et_test (ev_op (ev_var rfl) ev_c rv_I0)) (fun hb H1 e1 => ?_) fun hb H1 e1 => ?_
    · have hd : d < 5 := of_decide_eq_true hb
      rcases hv with ⟨rfl, h0, _, hv⟩ | ⟨rfl, h0, _, hv⟩ | ⟨_, h5, _⟩ | ⟨_, h6, _⟩
      · obtain ⟨k, rfl⟩ := Int.eq_ofNat_of_zero_le h0
        have hk : k < (lstI K).length := (show k < 5 by omega)
        exact ask_in (k := k) (List.getElem?_eq_getElem hk) rfl rfl (fun H2 e2 Q hq => bad0 _ (List.getElem_mem hk) H2 v Q E (hv.mono (e1.trans e2)) hq) fun H2 e2 => q H2 (e1.trans e2)
      · obtain ⟨k, rfl⟩ := Int.eq_ofNat_of_zero_le (show 0 ≤ d by omega)
        have hk : k < (lstI K).length := (show k < 5 by omega)
        exact ask_in (k := k) (List.getElem?_eq_getElem hk) rfl rfl (fun H2 e2 Q hq => bad1 k _ (by omega) (List.getElem?_eq_getElem hk) H2 v Q E (hv.mono (e1.trans e2)) hq) fun H2 e2 => q H2 (e1.trans e2)
      · omega
      · omega
    · have hd : ¬ d < 5 := of_decide_eq_false hb
      have q1 : ∀ H2, Ex H1 H2 → E (.ref (xa K c)) none H2 := fun H2 e2 => q H2 (e1.trans e2)
      rcases hv with ⟨rfl, h0, h5, hv⟩ | ⟨rfl, h0, h5, hv⟩ | ⟨rfl, rfl, a, rfl, hv⟩ | ⟨rfl, rfl, hv⟩
      · have e5 : d = 5 := by omega
        subst e5
        exact s_X (ex_if (b := true) (et_is (et_test (ev_op (ev_var rfl) ev_c (rv_eq rfl))) (by decide)) (fun _ => ex_call (c := 0) (ea_cons (ev_var rfl) (ea_cons ev_c ea_nil)) fun H2 e2 => ⟨v, .non, rfl, .inl ⟨rfl, hv.mono (e1.trans e2)⟩⟩) fun z => nomatch z) q1
      · have e5 : d = 5 := by omega
        subst e5
        exact s_X (ex_if (b := true) (et_is (et_test (ev_op (ev_var rfl) ev_c (rv_eq rfl))) (by decide)) (fun _ => ex_call (c := 1) (ea_cons (ev_var rfl) (ea_cons ev_c ea_nil)) fun H2 e2 => ⟨v, .non, rfl, .inr (.inl ⟨rfl, hv.mono (e1.trans e2)⟩)⟩) fun z => nomatch z) q1
      · exact s_X (ex_if (b := true) (et_is (et_test (ev_op (ev_var rfl) ev_c (rv_eq rfl))) (by decide)) (fun _ => ex_call (c := 2) (ea_cons (ev_var rfl) (ea_cons ev_c ea_nil)) fun H2 e2 => ⟨.ref a, .non, rfl, .inr (.inr ⟨rfl, a, [], rfl, ⟨ex_l (e1.trans e2) hv, (fun r hr => by cases hr), Nat.zero_le _, Nat.zero_le _⟩, .ty .non (by decide)⟩)⟩) fun z => nomatch z) q1
      · exact s_X (ex_if (b := false) (et_is (et_test (ev_op (ev_var rfl) ev_c (rv_eq rfl))) (by decide)) (fun z => nomatch z) fun _ => ex_callS2 (c := 2) (xs := tv [[false, true], [false, false]]) (els (EvL.is (el_lst (ea_cons ev_c (ea_cons ev_c ea_nil)) (show 2 ≤ 100000 by decide)) tv_ex)) (ev_var rfl) fun p H2 e2 hp => ⟨.ref p, v, rfl, .inr (.inr ⟨rfl, p, _, rfl, ⟨hp, (by intro r hr; simp at hr; rcases hr with rfl | rfl <;> rfl), by decide, by decide⟩, hv.mono (e1.trans e2)⟩)⟩) q1
/-! ### _law_due -/
def sp_law_due (K : PySem.W.Frag) : Sp := spV fun vs H z => ∃ (d : Int) (v : V) (c : Nat), vs = [.int d, v, .int (c : Nat)] ∧ Refuse K H d v c ∧ z = .bl true
theorem sv_law_due {H : Hp} {d : Int} {v : V} {c : Nat} (h : Refuse K H d v c) : SpV (sp_law_due K) ([.int d, v, .int (c : Nat)] ++ []) H (.bl true) := spV_of fun _ e => ⟨d, v, c, rfl, h.mono e, rfl⟩
theorem due_bits : ∀ c < 3, decide ([decide (c = 0), decide (c = 1), decide (c = 2)] = (List.range 3).map fun k => decide (k = c)) = true := by decide
theorem exm_ok7 (T : Tx K mg) : ∀ c < 3, PySem.W.exmOne K (.ref (xa K c)) (.ref (He.ga K "TableError")) = some true
  | 0, _ => T.em_BadTable
  | 1, _ => T.em_BadSquare
  | 2, _ => T.em_BadThing
  | c + 3, h => absurd h (by omega)
theorem cal__law_due (T : Tx K mg) : C8.Cal P w K mg base (4 + 1) "_law_due" (sp_law_due K) [] := by
  refine T.d__law_due.cal sc_law_due (fun _ _ _ _ _ _ us hl => match us, hl with | [_, _, _], _ => rfl) ?_ ?_
  · rintro vs H Q E ⟨z, ⟨d, v, c, rfl, _⟩, _⟩; rfl
  · rintro f cdv A outer s H vs Q E hr ⟨z, ⟨d, v, c, rfl, hv, rfl⟩, q⟩
    refine ⟨(tSeq (tTry K (.ref (He.ga K "TableError")) 3 (fun a cls d => (tSeq (tAsg (tLst (tCons (tCB (rIsX K cls d a) (tCons (tVar 3) (tCons (tC (.ref (He.ga K "BadTable"))) tNil))) (tCons (tCB (rIsX K cls d a) (tCons (tVar 3) (tCons (tC (.ref (He.ga K "BadSquare"))) tNil))) (tCons (tCB (rIsX K cls d a) (tCons (tVar 3) (tCons (tC (.ref (He.ga K "BadThing"))) tNil))) tNil)))) (gName 4)) (tRet (tAndV (tOp (rEqD K) (tVar 4) (tLcH (tCons (tC (.int 3)) tNil) (gName 5) (tOp rEq (tVar 5) (tVar 2)) [5])) (tCB (rIsX K cls d a) (tCons (tVar 3) (tCons (tC (.ty "ValueError")) tNil))))))) (fun W => (tDrop (tCallS (sp_law_ask K) (WE W) (tCons (tVar 0) (tCons (tVar 1) tNil)))))) (tRet (tC (.bl false)))), (pss_cons (L2N.ps_try_as (i := 3) (tb := fun W => (tDrop (tCallS (sp_law_ask K) (WE W) (tCons (tVar 0) (tCons (tVar 1) tNil))))) (ts := fun a cls d => (tSeq (tAsg (tLst (tCons (tCB (rIsX K cls d a) (tCons (tVar 3) (tCons (tC (.ref (He.ga K "BadTable"))) tNil))) (tCons (tCB (rIsX K cls d a) (tCons (tVar 3) (tCons (tC (.ref (He.ga K "BadSquare"))) tNil))) (tCons (tCB (rIsX K cls d a) (tCons (tVar 3) (tCons (tC (.ref (He.ga K "BadThing"))) tNil))) tNil)))) (gName 4)) (tRet (tAndV (tOp (rEqD K) (tVar 4) (tLcH (tCons (tC (.int 3)) tNil) (gName 5) (tOp rEq (tVar 5) (tVar 2)) [5])) (tCB (rIsX K cls d a) (tCons (tVar 3) (tCons (tC (.ty "ValueError")) tNil))))))) (Wout := fun _ _ _ _ => False) rfl rfl sc_law_due.nd rfl rfl ⟨by rfl, by decide, .inl T.g_TableError⟩ takes_none (fun W pn xe tkW _ => (pss_one (ps_expr (pe_cW (calX__law_ask T) hr (by decide) (by rfl) tkW (pa_cons (pv 0) (pa_cons (pv 1) pa_nil)))))) (fun a oe cls d pn hz hf => (pss_cons (ps_set (i := 4) sc_law_due.nd rfl (Or.inl rfl) (pe_lst (pa_cons (pe_callB (id := "isinstance") (call_isX hz hf) (by rfl) T.isinstance (by decide +kernel) (pa_cons (pv 3) (pa_cons (pe_glob (by rfl) T.g_BadTable rfl) pa_nil))) (pa_cons (pe_callB (id := "isinstance") (call_isX hz hf) (by rfl) T.isinstance (by decide +kernel) (pa_cons (pv 3) (pa_cons (pe_glob (by rfl) T.g_BadSquare rfl) pa_nil))) (pa_cons (pe_callB (id := "isinstance") (call_isX hz hf) (by rfl) T.isinstance (by decide +kernel) (pa_cons (pv 3) (pa_cons (pe_glob (by rfl) T.g_BadThing rfl) pa_nil))) pa_nil))))) (pss_one (ps_ret (pe_and (pe_cmpR (op_eqD hr.units) (pv 4) (pe_lcHot (own := [("_law_k", 5)]) (hot_suite hz hf) sc_law_due.nd (by rfl) T.range (pa_cons pe_int pa_nil) (blkOk_by (own := [("_law_k", 5)]) (by kernel_rfl)) (fun _ _ _ _ _ => (pg_name (i := 5) sc_law_due.nd rfl (Or.inl rfl))) (fun _ _ _ _ _ => (pe_cmpR op_eq (pv 5) (pv 2) (nomark _)))) (nomark _)) (pe_one (pe_callB (id := "isinstance") (call_isX hz hf) (by rfl) T.isinstance (by decide +kernel) (pa_cons (pv 3) (pa_cons (pe_bltn (v := .ty "ValueError") (by rfl) T.ValueError (by decide +kernel) rfl) pa_nil)))))))))) (pss_one (ps_ret pe_bl))), ?_⟩
    have hc := hv.lt
    have kx := T.kx
    refine s_dX (ex_callT (c := c) (ea_cons (ev_var rfl) (ea_cons (ev_var rfl) ea_nil)) fun H1 e1 => ⟨d, v, rfl, hv.mono e1⟩) fun H1 e1 => ⟨true, exm_ok7 T c hc, fun _ a ha => ?_, fun z => nomatch z⟩
    refine q_asgL (xs := [decide (c = 0), decide (c = 1), decide (c = 2)].map V.bl) (el_lst (ea_cons (ev_isErr (e := 0) kx hc (by decide) (ev_var rfl)) (ea_cons (ev_isErr (e := 1) kx hc (by decide) (ev_var rfl)) (ea_cons (ev_isErr (e := 2) kx hc (by decide) (ev_var rfl)) ea_nil))) (show 3 ≤ 100000 by decide)) fun p H2 _ e2 hp => ?_
    refine s_ret (ev_is (ev_andV (ev_eqBools (evs_var rfl (sq_of hp)) (els (EvL.is (el_lcH (f := fun k => V.bl (decide (k = c))) (n := 3) ev_c (by decide) (fun _ => rfl) fun k hk => ev_is (ev_op (ev_var rfl) (ev_var rfl) (rv_eq rfl)) (by rw [dec_nat])) (show _ = ((List.range 3).map fun k => decide (k = c)).map V.bl by rw [List.map_map]; rfl)))) fun _ => ev_isVE kx hc (ev_var rfl)) (by rw [due_bits c hc]; rfl)) fun H3 e3 => q H3 ((e1.trans e2).trans e3)
end

end WA

namespace WA
open PySem PySem.Spec PyProof.Rows L2 Evl

section
variable {K : PySem.W.Frag} {σ : L2.St} {H : Hp} {te : TE} {i : Int}
/-! ### items that hang on the cell -/
def txOk (ss : List Str) : Bool := decide (ss.length ≤ 1000) && (ss.all (fun s => decide (s.length ≤ 1000)) && ss.any (badTx ss))
theorem evp_txK {ss : List Str} (h : EvL te σ H (ss.map V.str)) (b : txOk ss = true) : EvP te σ H (fun v H => NoTab K H v) := by
  unfold txOk at b
  rw [Bool.and_eq_true, Bool.and_eq_true, List.all_eq_true, decide_eq_true_eq] at b
  exact evp_tx h ⟨b.1, fun s hs => of_decide_eq_true (b.2.1 s hs)⟩ b.2.2
theorem rs_dx : ("-x" : Str) = rs [false, true] := by decide +kernel
theorem el_dx (h : Ev te σ H (.int i)) : ∃ n : Nat, n < 6 ∧ EvL (tLst (tCons (tC (.str "-x")) (tCons (tOp rCatS (tC (.str "-x")) (tOp rRepS (tC (.str "-")) (tOp rAddI (tC (.int 1)) (tOp rModI te (tC (.int 5)))))) tNil))) σ H (tv [[false, true], [false, true] ++ List.replicate (n + 1) false]) := by
  obtain ⟨c, hc, hl⟩ := md_ok (a := i) (n := 5) (by decide)
  refine ⟨c, by omega, EvL.is (xs := [.str "-x", .str ("-x" ++ rs (List.replicate (c + 1) false))]) (el_lst (ea_cons ev_c (ea_cons (ev_cat ev_c (ev_repS ev_c (ev_addMod (m := 5) h (by decide) (by rw [hc]; omega)) (by omega) (by omega)) ?_) ea_nil)) (show 2 ≤ 100000 by decide)) ?_⟩
  · rw [rs_dx, rs_len, rs_len, List.length_replicate]
    show 2 + (c + 1) ≤ 1000
    omega
  · rw [rs_dx, rs_append]
    rfl
theorem bad_dx {n : Nat} (hn : n < 6) {p : Addr} {H : Hp} (h : H p = some (.lst (tv [[false, true], [false, true] ++ List.replicate (n + 1) false]))) : NoTab K H (.ref p) := by
  refine .tx (ss := [[false, true], [false, true] ++ List.replicate (n + 1) false].map rs) (sq_of (by rw [h, tv_rs])) ⟨?_, fun s hs => ?_⟩ (bad_rows (r := [false, true] ++ List.replicate (n + 1) false) rfl (List.mem_cons_of_mem _ (List.mem_cons_self ..)) ?_)
  · exact show 2 ≤ 1000 by decide
  · obtain ⟨r, hr, rfl⟩ := List.mem_map.mp hs
    rw [rs_len]
    rcases List.mem_cons.mp hr with rfl | hr
    · exact show 2 ≤ 1000 by decide
    · rw [List.mem_singleton.mp hr, List.length_append, List.length_replicate]
      show 2 + (n + 1) ≤ 1000
      omega
  · rw [List.length_append, List.length_replicate]
    show 2 + (n + 1) ≠ 2
    omega
theorem tv_xdx (n : Nat) : List.replicate n (V.str "x-x") ++ [V.str "x-"] = tv (List.replicate n [true, false, true] ++ [[true, false]]) := by
  have e1 : ("x-x" : Str) = rs [true, false, true] := by decide +kernel
  have e2 : ("x-" : Str) = rs [true, false] := by decide +kernel
  unfold tv
  rw [List.map_append, List.map_replicate, e1, e2]
  rfl
theorem ep_last (h : Ev te σ H (.int i)) : EvP (tOp rCat (tOp rRep (tLst (tCons (tC (.str "x-x")) tNil)) (tOp rAddI (tC (.int 1)) (tOp rModI te (tC (.int 4))))) (tLst (tCons (tC (.str "x-")) tNil))) σ H (fun v H => NoTab K H v) := by
  obtain ⟨c, hc, hl⟩ := md_ok (a := i) (n := 4) (by decide)
  have hlen : (List.replicate (c + 1) [true, false, true] ++ [[true, false]]).length = c + 2 := by rw [List.length_append, List.length_replicate]; rfl
  refine evp_tb (T := List.replicate (c + 1) [true, false, true] ++ [[true, false]]) (r0 := [true, false, true]) (r := [true, false]) (EvL.is (el_cat (el_rep1 (n := c + 1) (ev_addMod (m := 4) h (by decide) (by rw [hc]; omega)) (by omega)) (el_lst (ea_cons ev_c ea_nil) (show 1 ≤ 100000 by decide)) ?_) (tv_xdx _)) ⟨by rw [hlen]; omega, fun r hr => ?_⟩ rfl (List.mem_append_right _ (List.mem_singleton.mpr rfl)) (by decide)
  · rw [List.length_replicate]
    show c + 1 + 1 ≤ 1000
    omega
  · rcases List.mem_append.mp hr with hr | hr
    · rw [List.eq_of_mem_replicate hr]
      decide
    · rw [List.mem_singleton.mp hr]
      decide
theorem ne_repl {α : Type} {n : Nat} {x : α} (h : 0 < n) : List.replicate n x ≠ [] := List.ne_nil_of_length_pos (by rw [List.length_replicate]; exact h)
theorem ew_1 (h : Ev te σ H (.int i)) : EvP (tLst (tCons (tOp rRepS (tC (.str "-")) (tOp rAddI (tC (.int 2)) (tOp rModI te (tC (.int 7))))) tNil)) σ H (fun v H => Wide K H v) := by
  obtain ⟨c, hc, hl⟩ := md_ok (a := i) (n := 7) (by decide)
  refine evp_wide (T := [List.replicate (c + 2) false]) (w := c + 2) (el_lst (ea_cons (ev_repS ev_c (ev_addMod (m := 7) h (by decide) (by rw [hc]; omega)) (by omega) (by omega)) ea_nil) (show 1 ≤ 100000 by decide)) (fun r hr => by rw [List.mem_singleton.mp hr, List.length_replicate]) ⟨show 1 ≤ 1000 by decide, by omega⟩ (fun z => nomatch z) (show c + 2 ≠ 1 by omega)
theorem ew_2 (h : Ev te σ H (.int i)) : EvP (tOp rRep (tLst (tCons (tC (.str "-x-")) tNil)) (tOp rAddI (tC (.int 1)) (tOp rModI te (tC (.int 2))))) σ H (fun v H => Wide K H v) := by
  obtain ⟨c, hc, hl⟩ := md_ok (a := i) (n := 2) (by decide)
  have e1 : ("-x-" : Str) = rs [false, true, false] := by decide +kernel
  refine evp_wide (T := List.replicate (c + 1) [false, true, false]) (w := 3) (EvL.is (el_rep1 (n := c + 1) (ev_addMod (m := 2) h (by decide) (by rw [hc]; omega)) (by omega)) (by rw [tv_repl, e1])) (fun r hr => by rw [List.eq_of_mem_replicate hr]; rfl) ⟨by rw [List.length_replicate]; omega, by decide⟩ (ne_repl (by omega)) (by rw [List.length_replicate]; omega)
theorem ew_3 (h : Ev te σ H (.int i)) : EvP (tOp rRep (tLst (tCons (tC (.str "x")) tNil)) (tOp rAddI (tC (.int 2)) (tOp rModI te (tC (.int 9))))) σ H (fun v H => Wide K H v) := by
  obtain ⟨c, hc, hl⟩ := md_ok (a := i) (n := 9) (by decide)
  have e1 : ("x" : Str) = rs [true] := by decide +kernel
  refine evp_wide (T := List.replicate (c + 2) [true]) (w := 1) (EvL.is (el_rep1 (n := c + 2) (ev_addMod (m := 9) h (by decide) (by rw [hc]; omega)) (by omega)) (by rw [tv_repl, e1])) (fun r hr => by rw [List.eq_of_mem_replicate hr]; rfl) ⟨by rw [List.length_replicate]; omega, by decide⟩ (ne_repl (by omega)) (by rw [List.length_replicate]; omega)
end
section
variable {P : Program} {w : World} {K : PySem.W.Frag} {mg : Str → Option Value} {base : Heap}
/-! ### the lists of bad values -/
def sp_law_tables (K : PySem.W.Frag) : Sp := spP (fun v H => NoTab K H v) 25
def sp_law_wides (K : PySem.W.Frag) : Sp := spP (fun v H => Wide K H v) 6
def sp_law_things (K : PySem.W.Frag) : Sp := spP (fun v H => NoThing K H 2 v) 10
theorem cal__law_tables (T : Tx K mg) : C8.Cal P w K mg base (0 + 1) "_law_tables" (sp_law_tables K) [] := by
  refine T.d__law_tables.cal sc_law_tables (fun _ _ _ _ _ _ us hl => match us, hl with | [_], _ => rfl) ?_ ?_
  · rintro vs H Q E ⟨i, rfl, _⟩; rfl
  · rintro f cdv A outer s H vs Q E hr ⟨i, rfl, hi, q⟩
    refine ⟨(tSeq (tAsg (tLst (tCons (tC .non) (tCons (tC (.str "x")) (tCons (tTup (tCons (tC (.str "x")) tNil)) (tCons tDNewK (tCons (tC (.int 5)) (tCons (tVar 0) (tCons (tLst (tCons (tC .non) tNil)) (tCons (tLst (tCons (tC (.int 5)) tNil)) (tCons (tLst (tCons (tVar 0) tNil)) (tCons (tLst (tCons (tC (.str "x")) (tCons (tC .non) tNil))) (tCons (tLst (tCons (tLst (tCons (tC (.str "x")) tNil)) tNil)) tNil)))))))))))) (gName 1)) (tSeq (tAsg (tOp rCat (tVar 1) (tLst (tCons (tLst (tCons (tC (.str "X")) tNil)) (tCons (tLst (tCons (tC (.str "x ")) tNil)) (tCons (tLst (tCons (tC (.str "o")) tNil)) (tCons (tLst (tCons (tC (.str "x")) (tCons (tC (.str "xx")) tNil))) (tCons (tLst (tCons (tC (.str "--")) (tCons (tC (.str "-")) tNil))) (tCons (tLst (tCons (tC (.str "-")) (tCons (tC (.str "")) tNil))) (tCons (tLst (tCons (tC (.str "")) (tCons (tC (.str "-")) tNil))) (tCons (tLst (tCons (tC (.str "x\n")) tNil)) (tCons (tLst (tCons (tC (.str "+")) tNil)) (tCons (tLst (tCons (tC (.str "x-")) (tCons (tC (.str "x?")) tNil))) tNil)))))))))))) (gName 1)) (tSeq (tDrop (tBM K "list" rAppend (tVar 1) (tCons (tLst (tCons (tC (.str "-x")) (tCons (tOp rCatS (tC (.str "-x")) (tOp rRepS (tC (.str "-")) (tOp rAddI (tC (.int 1)) (tOp rModI (tVar 0) (tC (.int 5)))))) tNil))) tNil))) (tRet (tOp rCat (tVar 1) (tLst (tCons (tLst (tCons (tC (.str "--")) (tCons (tC (.str "--")) (tCons (tC (.bl true)) tNil)))) (tCons (tLst (tCons (tTup (tCons (tC (.str "x")) tNil)) tNil)) (tCons (tOp rCat (tOp rRep (tLst (tCons (tC (.str "x-x")) tNil)) (tOp rAddI (tC (.int 1)) (tOp rModI (tVar 0) (tC (.int 4))))) (tLst (tCons (tC (.str "x-")) tNil))) tNil))))))))), (pss_cons (ps_set (i := 1) sc_law_tables.nd rfl (Or.inl rfl) (pe_lst (pa_cons pe_non (pa_cons pe_str (pa_cons (pe_tup (pa_cons pe_str pa_nil)) (pa_cons pe_dnewK (pa_cons pe_int (pa_cons (pv 0) (pa_cons (pe_lst (pa_cons pe_non pa_nil)) (pa_cons (pe_lst (pa_cons pe_int pa_nil)) (pa_cons (pe_lst (pa_cons (pv 0) pa_nil)) (pa_cons (pe_lst (pa_cons pe_str (pa_cons pe_non pa_nil))) (pa_cons (pe_lst (pa_cons (pe_lst (pa_cons pe_str pa_nil)) pa_nil)) pa_nil))))))))))))) (pss_cons (ps_set (i := 1) sc_law_tables.nd rfl (Or.inl rfl) (pe_op op_cat (pv 1) (pe_lst (pa_cons (pe_lst (pa_cons pe_str pa_nil)) (pa_cons (pe_lst (pa_cons pe_str pa_nil)) (pa_cons (pe_lst (pa_cons pe_str pa_nil)) (pa_cons (pe_lst (pa_cons pe_str (pa_cons pe_str pa_nil))) (pa_cons (pe_lst (pa_cons pe_str (pa_cons pe_str pa_nil))) (pa_cons (pe_lst (pa_cons pe_str (pa_cons pe_str pa_nil))) (pa_cons (pe_lst (pa_cons pe_str (pa_cons pe_str pa_nil))) (pa_cons (pe_lst (pa_cons pe_str pa_nil)) (pa_cons (pe_lst (pa_cons pe_str pa_nil)) (pa_cons (pe_lst (pa_cons pe_str (pa_cons pe_str pa_nil))) pa_nil))))))))))))) (pss_cons (ps_expr (pe_bm PySem.F.plainAttrs_list PySem.F.slot_list_append PySem.F.type_list_append mt_append (pv 1) (pa_cons (pe_lst (pa_cons pe_str (pa_cons (pe_op op_catS pe_str (pe_op op_repS pe_str (pe_op op_add pe_int (pe_op op_mod (pv 0) pe_int)))) pa_nil))) pa_nil))) (pss_one (ps_ret (pe_op op_cat (pv 1) (pe_lst (pa_cons (pe_lst (pa_cons pe_str (pa_cons pe_str (pa_cons pe_bl pa_nil)))) (pa_cons (pe_lst (pa_cons (pe_tup (pa_cons pe_str pa_nil)) pa_nil)) (pa_cons (pe_op op_cat (pe_op op_rep (pe_lst (pa_cons pe_str pa_nil)) (pe_op op_add pe_int (pe_op op_mod (pv 0) pe_int))) (pe_lst (pa_cons pe_str pa_nil))) pa_nil)))))))))), ?_⟩
    refine q_asgPL (P := (fun v H => NoTab K H v)) (n := 11) (epl_lst (P := (fun v H => NoTab K H v)) mo_tab
        (epa_cons mo_tab (evp_ty ev_c (fun _ => .non) (by decide))
        (epa_cons mo_tab (evp_ty ev_c (fun _ => .str _) (by decide))
        (epa_cons mo_tab (evp_tup (eu_tup (ea_cons ev_c ea_nil) (show 1 ≤ 100000 by decide)))
        (epa_cons mo_tab evp_dict
        (epa_cons mo_tab (evp_ty ev_c (fun _ => .int _) (by decide))
        (epa_cons mo_tab (evp_ty (ev_var rfl) (fun _ => .int i) (by decide))
        (epa_cons mo_tab (evp_sc (xs := [.non]) (ea_cons ev_c ea_nil) rfl rfl (by decide))
        (epa_cons mo_tab (evp_sc (xs := [.int 5]) (ea_cons ev_c ea_nil) rfl rfl (by decide))
        (epa_cons mo_tab (evp_sc (xs := [.int i]) (ea_cons (ev_var rfl) ea_nil) rfl rfl (show 1 ≤ 1000 by decide))
        (epa_cons mo_tab (evp_sc (xs := [.str "x", .non]) (ea_cons ev_c (ea_cons ev_c ea_nil)) rfl rfl (by decide))
        (epa_cons mo_tab (evp_nostr (n := 1) (epa_cons mo_nostr (evpL (K := K) (el_lst (ea_cons ev_c ea_nil) (show 1 ≤ 100000 by decide)) fun a H1 _ z => ⟨⟨_, .lst z⟩, rfl⟩) epa_nil) (by decide) (by decide))
        epa_nil))))))))))) (by decide)) fun p xs H1 e1 hp hl hP => ?_
    refine q_asgPB (P := (fun v H => NoTab K H v)) (n := 21) (epb_varcat (P := (fun v H => NoTab K H v)) (n := 11) (k := 10) mo_tab rfl hp hl hP (epl_lst (P := (fun v H => NoTab K H v)) mo_tab
        (epa_cons mo_tab (evp_txK (ss := ["X"]) (el_lst (ea_cons ev_c ea_nil) (show 1 ≤ 100000 by decide)) (by decide +kernel))
        (epa_cons mo_tab (evp_txK (ss := ["x "]) (el_lst (ea_cons ev_c ea_nil) (show 1 ≤ 100000 by decide)) (by decide +kernel))
        (epa_cons mo_tab (evp_txK (ss := ["o"]) (el_lst (ea_cons ev_c ea_nil) (show 1 ≤ 100000 by decide)) (by decide +kernel))
        (epa_cons mo_tab (evp_txK (ss := ["x", "xx"]) (el_lst (ea_cons ev_c (ea_cons ev_c ea_nil)) (show 2 ≤ 100000 by decide)) (by decide +kernel))
        (epa_cons mo_tab (evp_txK (ss := ["--", "-"]) (el_lst (ea_cons ev_c (ea_cons ev_c ea_nil)) (show 2 ≤ 100000 by decide)) (by decide +kernel))
        (epa_cons mo_tab (evp_txK (ss := ["-", ""]) (el_lst (ea_cons ev_c (ea_cons ev_c ea_nil)) (show 2 ≤ 100000 by decide)) (by decide +kernel))
        (epa_cons mo_tab (evp_txK (ss := ["", "-"]) (el_lst (ea_cons ev_c (ea_cons ev_c ea_nil)) (show 2 ≤ 100000 by decide)) (by decide +kernel))
        (epa_cons mo_tab (evp_txK (ss := ["x\n"]) (el_lst (ea_cons ev_c ea_nil) (show 1 ≤ 100000 by decide)) (by decide +kernel))
        (epa_cons mo_tab (evp_txK (ss := ["+"]) (el_lst (ea_cons ev_c ea_nil) (show 1 ≤ 100000 by decide)) (by decide +kernel))
        (epa_cons mo_tab (evp_txK (ss := ["x-", "x?"]) (el_lst (ea_cons ev_c (ea_cons ev_c ea_nil)) (show 2 ≤ 100000 by decide)) (by decide +kernel))
        epa_nil)))))))))) (by decide)) (by decide)) fun l ys Hb H2 eb hn e2 hl2 hy hY => ?_
    obtain ⟨n, hn6, hdx⟩ := el_dx (σ := [some (.int i), some (.ref l)]) (H := H2) (te := tVar 0) (i := i) (ev_var rfl)
    refine q_appL hl2 (ev_var rfl) hdx (by omega) fun p3 H3 hn3 e3 hp3 => ?_
    have hne : p3 ≠ l := fun z => by rw [z, hl2] at hn3; cases hn3
    have hb3 : Ex Hb (upd H3 l (.lst (ys ++ [.ref p3]))) := Ex.mut (e2.trans e3) hn
    have eH : Ex H (upd H3 l (.lst (ys ++ [.ref p3]))) := (e1.trans eb).trans hb3
    have hall : ∀ v ∈ ys ++ [.ref p3], NoTab K (upd H3 l (.lst (ys ++ [.ref p3]))) v := fun v hv => by
      rcases List.mem_append.mp hv with hv | hv
      · exact (hY v hv).mono hb3
      · rw [List.mem_singleton.mp hv]
        exact bad_dx hn6 (by rw [upd_ne hne]; exact hp3)
    exact s_retPL (P := (fun v H => NoTab K H v)) (n := 25) (epl_varcat (P := (fun v H => NoTab K H v)) (n := 22) (k := 3) mo_tab rfl upd_same (by rw [List.length_append, hy]; rfl) hall (epl_lst (P := (fun v H => NoTab K H v)) mo_tab
        (epa_cons mo_tab (evp_sc (xs := [.str "--", .str "--", .bl true]) (ea_cons ev_c (ea_cons ev_c (ea_cons ev_c ea_nil))) rfl rfl (by decide))
        (epa_cons mo_tab (evp_nostr (n := 1) (epa_cons mo_nostr (evpU (eu_tup (ea_cons ev_c ea_nil) (show 1 ≤ 100000 by decide)) fun a H1 _ z => ⟨⟨_, .tup z⟩, rfl⟩) epa_nil) (by decide) (by decide))
        (epa_cons mo_tab (ep_last (ev_var rfl))
        epa_nil))) (by decide)) (by decide)) fun p5 zs H5 hn5 e5 h5 hl5 hP5 => q p5 zs H5 (fresh_back eH hn5) (eH.trans e5) h5 hl5 hP5
theorem cal__law_wides (T : Tx K mg) : C8.Cal P w K mg base (0 + 1) "_law_wides" (sp_law_wides K) [] := by
  refine T.d__law_wides.cal sc_law_wides (fun _ _ _ _ _ _ us hl => match us, hl with | [_], _ => rfl) ?_ ?_
  · rintro vs H Q E ⟨i, rfl, _⟩; rfl
  · rintro f cdv A outer s H vs Q E hr ⟨i, rfl, hi, q⟩
    refine ⟨(tRet (tLst (tCons (tLst (tCons (tC (.str "xx")) tNil)) (tCons (tLst (tCons (tC (.str "x")) (tCons (tC (.str "-")) tNil))) (tCons (tLst (tCons (tC (.str "")) tNil)) (tCons (tLst (tCons (tOp rRepS (tC (.str "-")) (tOp rAddI (tC (.int 2)) (tOp rModI (tVar 0) (tC (.int 7))))) tNil)) (tCons (tOp rRep (tLst (tCons (tC (.str "-x-")) tNil)) (tOp rAddI (tC (.int 1)) (tOp rModI (tVar 0) (tC (.int 2))))) (tCons (tOp rRep (tLst (tCons (tC (.str "x")) tNil)) (tOp rAddI (tC (.int 2)) (tOp rModI (tVar 0) (tC (.int 9))))) tNil)))))))), (pss_one (ps_ret (pe_lst (pa_cons (pe_lst (pa_cons pe_str pa_nil)) (pa_cons (pe_lst (pa_cons pe_str (pa_cons pe_str pa_nil))) (pa_cons (pe_lst (pa_cons pe_str pa_nil)) (pa_cons (pe_lst (pa_cons (pe_op op_repS pe_str (pe_op op_add pe_int (pe_op op_mod (pv 0) pe_int))) pa_nil)) (pa_cons (pe_op op_rep (pe_lst (pa_cons pe_str pa_nil)) (pe_op op_add pe_int (pe_op op_mod (pv 0) pe_int))) (pa_cons (pe_op op_rep (pe_lst (pa_cons pe_str pa_nil)) (pe_op op_add pe_int (pe_op op_mod (pv 0) pe_int))) pa_nil))))))))), ?_⟩
    exact s_retPL (P := (fun v H => Wide K H v)) (n := 6) (epl_lst (P := (fun v H => Wide K H v)) mo_wide
        (epa_cons mo_wide (evp_wide (T := [[true, true]]) (w := 2) (EvL.is (el_lst (ea_cons ev_c ea_nil) (show 1 ≤ 100000 by decide)) (by decide +kernel)) (show ∀ r ∈ [[true, true]], r.length = 2 by decide) (by decide) (by decide) (by decide))
        (epa_cons mo_wide (evp_wide (T := [[true], [false]]) (w := 1) (EvL.is (el_lst (ea_cons ev_c (ea_cons ev_c ea_nil)) (show 2 ≤ 100000 by decide)) (by decide +kernel)) (show ∀ r ∈ [[true], [false]], r.length = 1 by decide) (by decide) (by decide) (by decide))
        (epa_cons mo_wide (evp_wide (T := [[]]) (w := 0) (EvL.is (el_lst (ea_cons ev_c ea_nil) (show 1 ≤ 100000 by decide)) (by decide +kernel)) (show ∀ r ∈ [([] : List Bool)], r.length = 0 by decide) (by decide) (by decide) (by decide))
        (epa_cons mo_wide (ew_1 (ev_var rfl))
        (epa_cons mo_wide (ew_2 (ev_var rfl))
        (epa_cons mo_wide (ew_3 (ev_var rfl))
        epa_nil)))))) (by decide)) q
theorem cal__law_things (T : Tx K mg) : C8.Cal P w K mg base (0 + 1) "_law_things" (sp_law_things K) [] := by
  refine T.d__law_things.cal sc_law_things (fun _ _ _ _ _ _ us hl => match us, hl with | [_], _ => rfl) ?_ ?_
  · rintro vs H Q E ⟨i, rfl, _⟩; rfl
  · rintro f cdv A outer s H vs Q E hr ⟨i, rfl, hi, q⟩
    refine ⟨(tRet (tLst (tCons (tC .non) (tCons (tUn rNegI (tC (.int 1))) (tCons (tOp rSubI (tUn rNegI (tC (.int 1))) (tVar 0)) (tCons (tC (.int 2)) (tCons (tOp rAddI (tC (.int 2)) (tVar 0)) (tCons (tC (.bl true)) (tCons (tC (.str "1")) (tCons (tLst (tCons (tC (.int 1)) tNil)) (tCons (tTup (tCons (tC (.int 0)) tNil)) (tCons tDNewK tNil)))))))))))), (pss_one (ps_ret (pe_lst (pa_cons pe_non (pa_cons (pe_un un_neg pe_int) (pa_cons (pe_op op_sub (pe_un un_neg pe_int) (pv 0)) (pa_cons pe_int (pa_cons (pe_op op_add pe_int (pv 0)) (pa_cons pe_bl (pa_cons pe_str (pa_cons (pe_lst (pa_cons pe_int pa_nil)) (pa_cons (pe_tup (pa_cons pe_int pa_nil)) (pa_cons pe_dnewK pa_nil))))))))))))), ?_⟩
    exact s_retPL (P := (fun v H => NoThing K H 2 v)) (n := 10) (epl_lst (P := (fun v H => NoThing K H 2 v)) mo_thing
        (epa_cons mo_thing (evt_ty ev_c (fun _ => .non) (by decide))
        (epa_cons mo_thing (evt_out (ev_un ev_c ru_neg) (by decide))
        (epa_cons mo_thing (evt_out (ev_op (ev_un ev_c ru_neg) (ev_var rfl) rv_I0) (by omega))
        (epa_cons mo_thing (evt_out ev_c (by decide))
        (epa_cons mo_thing (evt_out (ev_op ev_c (ev_var rfl) rv_I0) (by omega))
        (epa_cons mo_thing (evp ev_c fun _ _ => .bl true)
        (epa_cons mo_thing (evt_ty ev_c (fun _ => .str _) (by decide))
        (epa_cons mo_thing (evt_lst (el_lst (ea_cons ev_c ea_nil) (show 1 ≤ 100000 by decide)))
        (epa_cons mo_thing (evt_tup (eu_tup (ea_cons ev_c ea_nil) (show 1 ≤ 100000 by decide)))
        (epa_cons mo_thing evt_dict
        epa_nil)))))))))) (by decide)) q
/-! ### a name that holds one of them -/
def lstK (K : PySem.W.Frag) : List (Addr × Sp) := [(He.ga K "_law_tables", sp_law_tables K), (He.ga K "_law_wides", sp_law_wides K), (He.ga K "_law_things", sp_law_things K)]
theorem callsK (T : Tx K mg) : ∀ p ∈ lstK K, ∃ y, C8.Cal P w K mg base 1 y p.2 [] ∧ mg y = some (.ref p.1) := by
  intro p hp
  simp only [lstK, List.mem_cons, List.not_mem_nil, or_false] at hp
  rcases hp with rfl | rfl | rfl
  · exact ⟨_, cal__law_tables T, T.g__law_tables⟩
  · exact ⟨_, cal__law_wides T, T.g__law_wides⟩
  · exact ⟨_, cal__law_things T, T.g__law_things⟩
/-! ### the three turns of the law -/
def Tri (K : PySem.W.Frag) : V → Hp → Prop := fun v H => ∃ (t l a : Addr) (c n : Nat) (ds : List Int) (Pd : V → Hp → Prop), v = .ref t ∧ H t = some (.tup [.ref l, .ref a, .int (c : Nat)]) ∧ SqL K H l (ds.map V.int) ∧ 1 ≤ ds.length ∧ ds.length ≤ 10 ∧ 1 ≤ n ∧ n ≤ 1000 ∧
  (a, spP Pd n) ∈ lstK K ∧ ∀ d ∈ ds, ∀ x H', Pd x H' → Refuse K H' d x c
theorem mo_tri : Mo (Tri K) := fun ⟨t, l, a, c, n, ds, Pd, ev, ht, hl, r⟩ e => ⟨t, l, a, c, n, ds, Pd, ev, e _ _ ht, ex_l e hl, r⟩
theorem evp_tri {σ : L2.St} {H : Hp} {te : TE} {a : Addr} {c n : Nat} {ds : List Int} {Pd : V → Hp → Prop} (h : EvL te σ H (ds.map V.int)) (hd : 1 ≤ ds.length ∧ ds.length ≤ 10) (hn : 1 ≤ n ∧ n ≤ 1000) (hp : (a, spP Pd n) ∈ lstK K) (hR : ∀ d ∈ ds, ∀ x H', Pd x H' → Refuse K H' d x c) :
    EvP (tTup (tCons te (tCons (tC (.ref a)) (tCons (tC (.int (c : Nat))) tNil)))) σ H (Tri K) := fun H1 e Q q =>
  h H1 e _ fun l H2 hn2 e2 hl => ⟨sz_of (show 3 ≤ 100000 by decide), fun t ht => q _ _ (e2.trans (Ex.new ht)) ⟨t, l, a, c, n, ds, Pd, rfl, upd_same, ex_l (Ex.new ht) (sq_of hl), hd.1, hd.2, hn.1, hn.2, hp, hR⟩⟩
/-! ### the law -/
def sp_law (K : PySem.W.Frag) : Sp := fun vs H Q _ => ∃ (a : Addr) (ns : List Int), vs = [.ref a] ∧ SqL K H a (ns.map V.int) ∧ ns.length ≤ 63 ∧ ∀ H', Q (.bl true) H'
theorem ok_law (T : Tx K mg) {f : Addr} {fd : FuncData} (F : FunD K "law" "law" (defArgs s_law) (defBody s_law) (defScope s_law) [] [] f fd) : FnOk P w K mg base C8.CX0 (6 + 1) f fd ["_law_script"] (sp_law K) := by
  refine fn_ok F sc_law ?_ ?_
  · rintro vs H Q E ⟨a, ns, rfl, _⟩; rfl
  · rintro f cdv A outer s H vs Q E hr ⟨a, ns, rfl, hs, hz, q⟩
    refine ⟨(tSeq (tFor (iList K (tLst (tCons (tTup (tCons (tLstRg (tRg1 (tC (.int 6)))) (tCons (tC (.ref (He.ga K "_law_tables"))) (tCons (tC (.int 0)) tNil)))) (tCons (tTup (tCons (tLst (tCons (tC (.int 2)) (tCons (tC (.int 3)) (tCons (tC (.int 4)) (tCons (tC (.int 5)) tNil))))) (tCons (tC (.ref (He.ga K "_law_wides"))) (tCons (tC (.int 1)) tNil)))) (tCons (tTup (tCons (tLst (tCons (tC (.int 6)) tNil)) (tCons (tC (.ref (He.ga K "_law_things"))) (tCons (tC (.int 2)) tNil)))) tNil))))) (gTup K 3 (gCons (gName 1) (gCons (gName 2) (gCons (gName 3) gNil)))) (tSeq (tFor (iList K (tVar 1)) (gName 4) (tIfS (tNot (tB (tCB (rAll K) (tCons (tLc (iList K (tCallK (lstK K) 2 (tCons (tCB (rLn K) (tCons (tVar 0) tNil)) tNil))) (gName 5) tYes (tCall (sp_law_due K) [] C8.E0 (tCons (tVar 4) (tCons (tVar 5) (tCons (tVar 3) tNil)))) [5]) tNil)))) (tRet (tC (.bl false))) tNext)) (tFor (iList K (tVar 0)) (gName 6) (tSeq (tAsg (tCallK (lstK K) 2 (tCons (tOp rModI (tVar 6) (tOp rPowI (tC (.int 10)) (tC (.int 60)))) tNil)) (gName 7)) (tIfS (tNot (tB (tCall (sp_law_due K) [] C8.E0 (tCons (tOp (rIxL K) (tVar 1) (tOp rModI (tVar 6) (tCB (rLn K) (tCons (tVar 1) tNil)))) (tCons (tOp (rIxL K) (tVar 7) (tOp rModI (tOp rDivI (tVar 6) (tCB (rLn K) (tCons (tVar 1) tNil))) (tCB (rLn K) (tCons (tVar 7) tNil)))) (tCons (tVar 3) tNil)))))) (tRet (tC (.bl false))) tNext))))) (tSeq (tIfS (tNot (tB (tCall (sp_law_due K) [] C8.E0 (tCons (tC (.int 5)) (tCons (tLst tNil) (tCons (tC (.int 2)) tNil)))))) (tRet (tC (.bl false))) tNext) (tRet (tAndV (tOp (rEqD K) (tCall (sp_ahead_of K) [] C8.E0 (tCons (tLst (tCons (tC (.str "-x")) (tCons (tC (.str "--")) tNil))) (tCons (tC (.int 1)) tNil))) (tLst (tCons (tC (.int 0)) tNil))) (tAndV (tOp (rEqD K) (tCall (sp_turned K) [] C8.E0 (tCons (tLst (tCons (tC (.str "x-")) tNil)) tNil)) (tLst (tCons (tC (.str "x")) (tCons (tC (.str "-")) tNil)))) (tOp (rEqD K) (tCall (sp_turned K) [] C8.E0 (tCons (tLst (tCons (tC (.str "")) tNil)) tNil)) (tLst tNil))))))), (pss_cons (ps_for PassesOwn.never rfl (pi_list (pe_lst (pa_cons (pe_tup (pa_cons (pe_listRg rfl (by rfl) T.list (prg_1 (by rfl) T.range pe_int)) (pa_cons (pe_glob (by rfl) T.g__law_tables rfl) (pa_cons pe_int pa_nil)))) (pa_cons (pe_tup (pa_cons (pe_lst (pa_cons pe_int (pa_cons pe_int (pa_cons pe_int (pa_cons pe_int pa_nil))))) (pa_cons (pe_glob (by rfl) T.g__law_wides rfl) (pa_cons pe_int pa_nil)))) (pa_cons (pe_tup (pa_cons (pe_lst (pa_cons pe_int pa_nil)) (pa_cons (pe_glob (by rfl) T.g__law_things rfl) (pa_cons pe_int pa_nil)))) pa_nil))))) (pg_tup rfl (pgs_cons (pg_name (i := 1) sc_law.nd rfl (Or.inl rfl)) (pgs_cons (pg_name (i := 2) sc_law.nd rfl (Or.inl rfl)) (pgs_cons (pg_name (i := 3) sc_law.nd rfl (Or.inr rfl)) pgs_nil)))) (pss_cons (ps_for PassesOwn.never rfl (pi_list (pv 1)) (pg_name (i := 4) sc_law.nd rfl (Or.inr rfl)) (pss_one (ps_if (pt_not (pt_val (pe_callB (id := "all") (cr_all rfl) (by rfl) T.all (by decide +kernel) (pa_cons (pe_lc (own := [("_law_thing", 5)]) rfl sc_law.nd (pi_list (pe_callK (i := 2) (k := 1) (callsK T) hr (by decide) rfl (Or.inl rfl) (pa_cons (pe_callB (id := "len") cl_len (by rfl) T.len (by decide +kernel) (pa_cons (pv 0) pa_nil)) pa_nil))) (blkOk_by (own := [("_law_thing", 5)]) (by kernel_rfl)) (fun _ _ _ _ _ => (pg_name (i := 5) sc_law.nd rfl (Or.inl rfl))) (fun _ _ _ _ _ => pts_nil) (fun _ _ _ _ _ => (C8.pe_c (cal__law_due T) hr (by decide) (by rfl) (pa_cons (pv 4) (pa_cons (pv 5) (pa_cons (pv 3) pa_nil)))))) pa_nil)))) (pss_one (ps_ret pe_bl)) pss_nil))) (pss_one (ps_for PassesOwn.never rfl (pi_list (pv 0)) (pg_name (i := 6) sc_law.nd rfl (Or.inl rfl)) (pss_cons (ps_set (i := 7) sc_law.nd rfl (Or.inl rfl) (pe_callK (i := 2) (k := 1) (callsK T) hr (by decide) rfl (Or.inl rfl) (pa_cons (pe_op op_mod (pv 6) (pe_op op_pow pe_int pe_int)) pa_nil))) (pss_one (ps_if (pt_not (pt_val (C8.pe_c (cal__law_due T) hr (by decide) (by rfl) (pa_cons (pe_ix ix_list (pv 1) (pe_op op_mod (pv 6) (pe_callB (id := "len") cl_len (by rfl) T.len (by decide +kernel) (pa_cons (pv 1) pa_nil))) (fun _ _ => rfl)) (pa_cons (pe_ix ix_list (pv 7) (pe_op op_mod (pe_op op_fdiv (pv 6) (pe_callB (id := "len") cl_len (by rfl) T.len (by decide +kernel) (pa_cons (pv 1) pa_nil))) (pe_callB (id := "len") cl_len (by rfl) T.len (by decide +kernel) (pa_cons (pv 7) pa_nil))) (fun _ _ => rfl)) (pa_cons (pv 3) pa_nil)))))) (pss_one (ps_ret pe_bl)) pss_nil))))))) (pss_cons (ps_if (pt_not (pt_val (C8.pe_c (cal__law_due T) hr (by decide) (by rfl) (pa_cons pe_int (pa_cons (pe_lst pa_nil) (pa_cons pe_int pa_nil)))))) (pss_one (ps_ret pe_bl)) pss_nil) (pss_one (ps_ret (pe_and (pe_cmpR (op_eqD hr.units) (pe_cX (calX_ahead_of T) hr (by decide) (by rfl) takes_none (pa_cons (pe_lst (pa_cons pe_str (pa_cons pe_str pa_nil))) (pa_cons pe_int pa_nil))) (pe_lst (pa_cons pe_int pa_nil)) (nomark _)) (pe_and (pe_cmpR (op_eqD hr.units) (pe_cX (calX_turned T) hr (by decide) (by rfl) takes_none (pa_cons (pe_lst (pa_cons pe_str pa_nil)) pa_nil)) (pe_lst (pa_cons pe_str (pa_cons pe_str pa_nil))) (nomark _)) (pe_one (pe_cmpR (op_eqD hr.units) (pe_cX (calX_turned T) hr (by decide) (by rfl) takes_none (pa_cons (pe_lst (pa_cons pe_str pa_nil)) pa_nil)) (pe_lst pa_nil) (nomark _))))))))), ?_⟩
    refine q_forPL (P := Tri K) (n := 3) mo_tri (epl_lst (P := Tri K) mo_tri
        (epa_cons mo_tri (evp_tri (c := 0) (n := 25) (ds := intsOf (List.range 6)) (Pd := (fun v H => NoTab K H v)) (el_listR (n := 6) ev_c (by decide)) (by decide) (by decide) (by simp only [lstK, sp_law_tables]; exact List.mem_cons_self ..) fun d hd x H' hx => .inl ⟨rfl, (show ∀ d ∈ intsOf (List.range 6), 0 ≤ d by decide) d hd, (show ∀ d ∈ intsOf (List.range 6), d ≤ 5 by decide) d hd, hx⟩)
        (epa_cons mo_tri (evp_tri (c := 1) (n := 6) (ds := [2, 3, 4, 5]) (Pd := (fun v H => Wide K H v)) (el_lst (ea_cons ev_c (ea_cons ev_c (ea_cons ev_c (ea_cons ev_c ea_nil)))) (show 4 ≤ 100000 by decide)) (by decide) (by decide) (by simp only [lstK, sp_law_wides]; exact List.mem_cons_of_mem _ (List.mem_cons_self ..)) fun d hd x H' hx => .inr (.inl ⟨rfl, (show ∀ d ∈ ([2, 3, 4, 5] : List Int), 2 ≤ d by decide) d hd, (show ∀ d ∈ ([2, 3, 4, 5] : List Int), d ≤ 5 by decide) d hd, hx⟩))
        (epa_cons mo_tri (evp_tri (c := 2) (n := 10) (ds := [6]) (Pd := (fun v H => NoThing K H 2 v)) (el_lst (ea_cons ev_c ea_nil) (show 1 ≤ 100000 by decide)) (by decide) (by decide) (by simp only [lstK, sp_law_things]; exact List.mem_cons_of_mem _ (List.mem_cons_of_mem _ (List.mem_cons_self ..))) fun d hd x H' hx => .inr (.inr (.inr ⟨rfl, List.mem_singleton.mp hd, hx⟩)))
        epa_nil))) (by decide))
      (fun σ' H' => Ex H H' ∧ ∃ y1 y2 y3 y4 y5 y6 y7, σ' = [some (.ref a), y1, y2, y3, y4, y5, y6, y7]) (fun H1 e1 => ⟨e1, _, _, _, _, _, _, _, rfl⟩) ?_ ?_
    · rintro x σ' H1 ⟨t, l, b, c, n, ds, Pd, rfl, ht, hl, hd1, hd10, hn1, hn2, hm, hR⟩ ⟨e1, y1, y2, y3, y4, y5, y6, y7, rfl⟩ D' hrt hnx
      refine g_triple (st_of ht) ?_
      refine q_forLn (ev_var rfl) hl (fun i σ' H' => Ex H1 H' ∧ ∃ y4 y5, σ' = [some (.ref a), some (.ref l), some (.ref b), some (.int (c : Nat)), y4, y5, y6, y7]) (fun H2 e2 => ⟨e2, _, _, rfl⟩) (fun i σ' H' _ p => ex_l p.1 hl) ?_ ?_
      · rintro i x σ' H2 hx ⟨e2, y4, y5, rfl⟩
        obtain ⟨d, hd, rfl⟩ := List.mem_map.mp (List.mem_of_getElem? hx)
        refine s_when (b := false) (et_is (et_not (et_B (ev_allP (P := Pd) (n := n) (epl_callK (i := (ns.length : Nat)) hm rfl (ev_lenInts (evs_var rfl (ex_l (e1.trans e2) hs))) (by omega)) hn2 (fun _ => rfl) fun x H3 e3 hx => ev_call (ea_cons (ev_var rfl) (ea_cons (ev_var rfl) (ea_cons (ev_var rfl) ea_nil))) (sv_law_due (hR d hd x H3 hx))))) rfl) (fun hb => nomatch hb) fun _ H3 e3 => ⟨e2.trans e3, _, _, rfl⟩
      · rintro σ' H2 ⟨e2, y4, y5, rfl⟩
        have hs2 := ex_l (e1.trans e2) hs
        refine s_forLn (ev_var rfl) hs2 (fun i σ' H' => Ex H2 H' ∧ ∃ y6 y7, σ' = [some (.ref a), some (.ref l), some (.ref b), some (.int (c : Nat)), y4, y5, y6, y7]) (fun H3 e3 => ⟨e3, _, _, rfl⟩) (fun i σ' H' _ p => ex_l p.1 hs2) ?_ ?_
        · rintro i x σ' H3 hx ⟨e3, y6, y7, rfl⟩
          obtain ⟨cell, _, rfl⟩ := List.mem_map.mp (List.mem_of_getElem? hx)
          refine q_asgPL (P := Pd) (n := n) (epl_callK hm rfl (ev_op (ev_var rfl) (ev_op ev_c ev_c (rv_I (show CPow 10 60 from ⟨by decide, by decide, by decide⟩))) (rv_I (show (0 : Int) < 10 ^ (60 : Int).toNat by decide))) (Int.emod_nonneg _ (by decide))) fun p xs H4 e4 hp hxl hP => ?_
          have hl4 := ex_l ((e2.trans e3).trans e4) hl
          obtain ⟨j, hj, hjl⟩ := md_ok (a := cell) (n := ds.length) (by omega)
          obtain ⟨k, hk, hkl⟩ := md_ok (a := cell / (ds.length : Nat)) (n := xs.length) (by omega)
          have hdj : ds[j]? = some ds[j] := List.getElem?_eq_getElem hjl
          have hxk : xs[k]? = some xs[k] := List.getElem?_eq_getElem hkl
          refine s_when (b := false) (et_is (et_not (et_B (ev_call (ea_cons (ev_ixLS (v := .int ds[j]) (evs_var rfl hl4) (ev_op (ev_var rfl) (ev_lenInts (evs_var rfl hl4)) (rv_I (show (0 : Int) < (ds.length : Nat) by omega))) (by rw [hj]; exact atI_nat (by rw [List.getElem?_map, hdj]; rfl)))
            (ea_cons (ev_ixLS (v := xs[k]) (evs_var rfl (sq_of hp)) (ev_op (ev_op (ev_var rfl) (ev_lenInts (evs_var rfl hl4)) (rv_I (show CDiv cell (ds.length : Nat) from ⟨by omega, by omega⟩))) (ev_lenS (evs_var rfl (sq_of hp))) (rv_I (show (0 : Int) < (xs.length : Nat) by omega))) (by rw [hk]; exact atI_nat hxk))
            (ea_cons (ev_var rfl) ea_nil))) (sv_law_due (hR _ (List.getElem_mem hjl) _ H4 (hP _ (List.getElem_mem hkl))))))) rfl) (fun hb => nomatch hb) fun _ H5 e5 => ⟨(e3.trans e4).trans e5, _, _, rfl⟩
        · rintro σ' H3 ⟨e3, y6, y7, rfl⟩
          exact hnx _ _ (e2.trans e3) ⟨(e1.trans e2).trans e3, _, _, _, _, _, _, _, rfl⟩
    · rintro σ' H1 ⟨e1, y1, y2, y3, y4, y5, y6, y7, rfl⟩
      refine q_when (b := false) (et_is (et_not (et_B (ev_call3L (xs := []) ev_c el_nil ev_c fun p H2 e2 hp => sv_law_due (d := 5) (c := 2) (.inr (.inr (.inl ⟨rfl, rfl, p, rfl, sq_of hp⟩)))))) rfl) (fun hb => nomatch hb) fun _ H2 e2 => ?_
      refine s_ret (ev_is (ev_andV (ev_eqInts (T := [0]) (T' := [0]) (els (el_callGS2 (xs := tv [[false, true], [false, false]]) (x := .int (1 : Nat)) (els (EvL.is (el_lst (ea_cons ev_c (ea_cons ev_c ea_nil)) (show 2 ≤ 100000 by decide)) tv_ex)) ev_c fun p H3 e3 hp => ⟨p, [[false, true], [false, false]], 1, rfl, ⟨hp, (by intro r hr; simp at hr; rcases hr with rfl | rfl <;> rfl), by decide, by decide⟩, by decide, by decide +kernel⟩)) (els (el_lst (ea_cons ev_c ea_nil) (show 1 ≤ 100000 by decide)))) fun _ =>
        ev_andV (ev_eqTab (T := [[true], [false]]) (T' := [[true], [false]]) (els (el_callGS1 (xs := tv [[true, false]]) (els (EvL.is (el_lst (ea_cons ev_c ea_nil) (show 1 ≤ 100000 by decide)) (by decide +kernel))) fun p H3 e3 hp => ⟨p, [[true, false]], 2, rfl, ⟨hp, (by intro r hr; simp at hr; subst hr; rfl), by decide, by decide⟩, by decide +kernel⟩)) (els (EvL.is (el_lst (ea_cons ev_c (ea_cons ev_c ea_nil)) (show 2 ≤ 100000 by decide)) (by decide +kernel)))) fun _ =>
          ev_empty (T := []) (els (el_callGS1 (xs := tv [[]]) (els (EvL.is (el_lst (ea_cons ev_c ea_nil) (show 1 ≤ 100000 by decide)) (by decide +kernel))) fun p H3 e3 hp => ⟨p, [[]], 0, rfl, ⟨hp, (by intro r hr; simp at hr; subst hr; rfl), by decide, by decide⟩, by decide +kernel⟩))) (by rfl)) fun H3 _ => q H3
end

end WA

namespace WA
open PySem PySem.Spec PyProof.Rows L2 Evl

def dd_is_number : He.DefD := ⟨("is_number", none), "is_number", "is_number", defArgs s_is_number, defBody s_is_number, defScope s_is_number, [], []⟩
def dd_check_table : He.DefD := ⟨("check_table", none), "check_table", "check_table", defArgs s_check_table, defBody s_check_table, defScope s_check_table, [], []⟩
def dd_check_square : He.DefD := ⟨("check_square", none), "check_square", "check_square", defArgs s_check_square, defBody s_check_square, defScope s_check_square, [], []⟩
def dd_has : He.DefD := ⟨("has", none), "has", "has", defArgs s_has, defBody s_has, defScope s_has, [], []⟩
def dd_rows_with : He.DefD := ⟨("rows_with", none), "rows_with", "rows_with", defArgs s_rows_with, defBody s_rows_with, defScope s_rows_with, [], []⟩
def dd_turned : He.DefD := ⟨("turned", none), "turned", "turned", defArgs s_turned, defBody s_turned, defScope s_turned, [], []⟩
def dd_ahead_of : He.DefD := ⟨("ahead_of", none), "ahead_of", "ahead_of", defArgs s_ahead_of, defBody s_ahead_of, defScope s_ahead_of, [], []⟩
def dd_steps : He.DefD := ⟨("steps", none), "steps", "steps", defArgs s_steps, defBody s_steps, defScope s_steps, [], []⟩
def dd_stretches : He.DefD := ⟨("stretches", none), "stretches", "stretches", defArgs s_stretches, defBody s_stretches, defScope s_stretches, [], []⟩
def dd_ranks : He.DefD := ⟨("ranks", none), "ranks", "ranks", defArgs s_ranks, defBody s_ranks, defScope s_ranks, [], []⟩
def dd_line : He.DefD := ⟨("line", none), "line", "line", defArgs s_line, defBody s_line, defScope s_line, [], []⟩
def dd_law_ask : He.DefD := ⟨("_law_ask", none), "_law_ask", "_law_ask", defArgs s_law_ask, defBody s_law_ask, defScope s_law_ask, [], []⟩
def dd_law_due : He.DefD := ⟨("_law_due", none), "_law_due", "_law_due", defArgs s_law_due, defBody s_law_due, defScope s_law_due, [], []⟩
def dd_law_tables : He.DefD := ⟨("_law_tables", none), "_law_tables", "_law_tables", defArgs s_law_tables, defBody s_law_tables, defScope s_law_tables, [], []⟩
def dd_law_wides : He.DefD := ⟨("_law_wides", none), "_law_wides", "_law_wides", defArgs s_law_wides, defBody s_law_wides, defScope s_law_wides, [], []⟩
def dd_law_things : He.DefD := ⟨("_law_things", none), "_law_things", "_law_things", defArgs s_law_things, defBody s_law_things, defScope s_law_things, [], []⟩
def dd_law : He.DefD := ⟨("law", none), "law", "law", defArgs s_law, defBody s_law, defScope s_law, [], []⟩
def fnL : List He.DefD := [dd_is_number, dd_check_table, dd_check_square, dd_has, dd_rows_with, dd_turned, dd_ahead_of, dd_steps, dd_stretches, dd_ranks, dd_line, dd_law_ask, dd_law_due, dd_law_tables, dd_law_wides, dd_law_things, dd_law]
def fctL : List He.Fa := [.free "len", .free "all", .free "sorted", .free "min", .free "isinstance", .free "list", .free "set", .free "range", .free "enumerate", .free "zip", .free "str", .free "int", .free "bool", .free "ValueError", .glo "is_number", .glo "check_table", .glo "check_square", .glo "has", .glo "rows_with", .glo "turned", .glo "ahead_of", .glo "steps", .glo "stretches", .glo "ranks", .glo "line", .glo "_law_ask", .glo "_law_due", .glo "_law_tables", .glo "_law_wides", .glo "_law_things", .glo "law", .glo "TableError", .glo "BadTable", .exc "BadTable", .exm "BadTable" "TableError" true, .glo "BadSquare", .exc "BadSquare", .exm "BadSquare" "TableError" true, .glo "BadThing", .exc "BadThing", .exm "BadThing" "TableError" true]
theorem mkTx {w : World} {K : PySem.W.Frag} {h : Heap} {mg : Str → Option Value} (X : K.In h) (G : h.Ns mainGlobals mg) (cx : He.SaysX fctL fnL [] tfL exB w h K) : Tx K mg :=
  have c : He.SaysD fctL fnL K := cx.t.d
  ⟨(He.free_ok X G (c.fact 0 (f := .free "len") rfl) : _),
   (He.free_ok X G (c.fact 1 (f := .free "all") rfl) : _),
   (He.free_ok X G (c.fact 2 (f := .free "sorted") rfl) : _),
   (He.free_ok X G (c.fact 3 (f := .free "min") rfl) : _),
   (He.free_ok X G (c.fact 4 (f := .free "isinstance") rfl) : _),
   (He.free_ok X G (c.fact 5 (f := .free "list") rfl) : _),
   (He.free_ok X G (c.fact 6 (f := .free "set") rfl) : _),
   (He.free_ok X G (c.fact 7 (f := .free "range") rfl) : _),
   (He.free_ok X G (c.fact 8 (f := .free "enumerate") rfl) : _),
   (He.free_ok X G (c.fact 9 (f := .free "zip") rfl) : _),
   (He.free_ok X G (c.fact 10 (f := .free "str") rfl) : _),
   (He.free_ok X G (c.fact 11 (f := .free "int") rfl) : _),
   (He.free_ok X G (c.fact 12 (f := .free "bool") rfl) : _),
   (He.free_ok X G (c.fact 13 (f := .free "ValueError") rfl) : _),
   ((let ⟨fd, F⟩ := c.def_ 0 (d := dd_is_number) rfl; ⟨_, fd, F, He.glo_ok X G (c.fact 14 (f := .glo "is_number") rfl)⟩) : _),
   (He.glo_ok X G (c.fact 14 (f := .glo "is_number") rfl) : _),
   ((let ⟨fd, F⟩ := c.def_ 1 (d := dd_check_table) rfl; ⟨_, fd, F, He.glo_ok X G (c.fact 15 (f := .glo "check_table") rfl)⟩) : _),
   (He.glo_ok X G (c.fact 15 (f := .glo "check_table") rfl) : _),
   ((let ⟨fd, F⟩ := c.def_ 2 (d := dd_check_square) rfl; ⟨_, fd, F, He.glo_ok X G (c.fact 16 (f := .glo "check_square") rfl)⟩) : _),
   (He.glo_ok X G (c.fact 16 (f := .glo "check_square") rfl) : _),
   ((let ⟨fd, F⟩ := c.def_ 3 (d := dd_has) rfl; ⟨_, fd, F, He.glo_ok X G (c.fact 17 (f := .glo "has") rfl)⟩) : _),
   (He.glo_ok X G (c.fact 17 (f := .glo "has") rfl) : _),
   ((let ⟨fd, F⟩ := c.def_ 4 (d := dd_rows_with) rfl; ⟨_, fd, F, He.glo_ok X G (c.fact 18 (f := .glo "rows_with") rfl)⟩) : _),
   (He.glo_ok X G (c.fact 18 (f := .glo "rows_with") rfl) : _),
   ((let ⟨fd, F⟩ := c.def_ 5 (d := dd_turned) rfl; ⟨_, fd, F, He.glo_ok X G (c.fact 19 (f := .glo "turned") rfl)⟩) : _),
   (He.glo_ok X G (c.fact 19 (f := .glo "turned") rfl) : _),
   ((let ⟨fd, F⟩ := c.def_ 6 (d := dd_ahead_of) rfl; ⟨_, fd, F, He.glo_ok X G (c.fact 20 (f := .glo "ahead_of") rfl)⟩) : _),
   (He.glo_ok X G (c.fact 20 (f := .glo "ahead_of") rfl) : _),
   ((let ⟨fd, F⟩ := c.def_ 7 (d := dd_steps) rfl; ⟨_, fd, F, He.glo_ok X G (c.fact 21 (f := .glo "steps") rfl)⟩) : _),
   (He.glo_ok X G (c.fact 21 (f := .glo "steps") rfl) : _),
   ((let ⟨fd, F⟩ := c.def_ 8 (d := dd_stretches) rfl; ⟨_, fd, F, He.glo_ok X G (c.fact 22 (f := .glo "stretches") rfl)⟩) : _),
   (He.glo_ok X G (c.fact 22 (f := .glo "stretches") rfl) : _),
   ((let ⟨fd, F⟩ := c.def_ 9 (d := dd_ranks) rfl; ⟨_, fd, F, He.glo_ok X G (c.fact 23 (f := .glo "ranks") rfl)⟩) : _),
   (He.glo_ok X G (c.fact 23 (f := .glo "ranks") rfl) : _),
   ((let ⟨fd, F⟩ := c.def_ 10 (d := dd_line) rfl; ⟨_, fd, F, He.glo_ok X G (c.fact 24 (f := .glo "line") rfl)⟩) : _),
   (He.glo_ok X G (c.fact 24 (f := .glo "line") rfl) : _),
   ((let ⟨fd, F⟩ := c.def_ 11 (d := dd_law_ask) rfl; ⟨_, fd, F, He.glo_ok X G (c.fact 25 (f := .glo "_law_ask") rfl)⟩) : _),
   (He.glo_ok X G (c.fact 25 (f := .glo "_law_ask") rfl) : _),
   ((let ⟨fd, F⟩ := c.def_ 12 (d := dd_law_due) rfl; ⟨_, fd, F, He.glo_ok X G (c.fact 26 (f := .glo "_law_due") rfl)⟩) : _),
   (He.glo_ok X G (c.fact 26 (f := .glo "_law_due") rfl) : _),
   ((let ⟨fd, F⟩ := c.def_ 13 (d := dd_law_tables) rfl; ⟨_, fd, F, He.glo_ok X G (c.fact 27 (f := .glo "_law_tables") rfl)⟩) : _),
   (He.glo_ok X G (c.fact 27 (f := .glo "_law_tables") rfl) : _),
   ((let ⟨fd, F⟩ := c.def_ 14 (d := dd_law_wides) rfl; ⟨_, fd, F, He.glo_ok X G (c.fact 28 (f := .glo "_law_wides") rfl)⟩) : _),
   (He.glo_ok X G (c.fact 28 (f := .glo "_law_wides") rfl) : _),
   ((let ⟨fd, F⟩ := c.def_ 15 (d := dd_law_things) rfl; ⟨_, fd, F, He.glo_ok X G (c.fact 29 (f := .glo "_law_things") rfl)⟩) : _),
   (He.glo_ok X G (c.fact 29 (f := .glo "_law_things") rfl) : _),
   ((let ⟨fd, F⟩ := c.def_ 16 (d := dd_law) rfl; ⟨_, fd, F, He.glo_ok X G (c.fact 30 (f := .glo "law") rfl)⟩) : _),
   (He.glo_ok X G (c.fact 31 (f := .glo "TableError") rfl) : _),
   (He.glo_ok X G (c.fact 32 (f := .glo "BadTable") rfl) : _),
   ((have z := He.exc_ok (c.fact 33 (f := .exc "BadTable") rfl); ⟨z.1, z.2.1, z.2.2.1, z.2.2.2, He.glo_ok X G (c.fact 32 (f := .glo "BadTable") rfl)⟩) : _),
   (He.exm_ok (c.fact 34 (f := .exm "BadTable" "TableError" true) rfl) : _),
   (He.glo_ok X G (c.fact 35 (f := .glo "BadSquare") rfl) : _),
   ((have z := He.exc_ok (c.fact 36 (f := .exc "BadSquare") rfl); ⟨z.1, z.2.1, z.2.2.1, z.2.2.2, He.glo_ok X G (c.fact 35 (f := .glo "BadSquare") rfl)⟩) : _),
   (He.exm_ok (c.fact 37 (f := .exm "BadSquare" "TableError" true) rfl) : _),
   (He.glo_ok X G (c.fact 38 (f := .glo "BadThing") rfl) : _),
   ((have z := He.exc_ok (c.fact 39 (f := .exc "BadThing") rfl); ⟨z.1, z.2.1, z.2.2.1, z.2.2.2, He.glo_ok X G (c.fact 38 (f := .glo "BadThing") rfl)⟩) : _),
   (He.exm_ok (c.fact 40 (f := .exm "BadThing" "TableError" true) rfl) : _),
   (kxB_ok cx.more : _)⟩

/-! ### the head -/
abbrev RowW : PySem.W.OpenRow := PySem.W.OpenLaw.row PySem.Challenge.rw_wholeahead_k07_refused
abbrev hkW : PySem.W.Hook := He.hookX 45 fctL fnL [] tfL exB
def obW (s : PySem.W.SharedT) : He.AlX := He.obsX 45 fctL fnL [] tfL exB (HandSHeadRun.getT s)
theorem obW_eq (s : PySem.W.SharedT) : obW s = hkW.obs s.abs := He.obsX_eq (HandSHeadRun.getT_eq s)
theorem runW (w : World) : HandSHeadRun.RunEq RowW (PySem.W.view RowW.prog [45]) hkW obW 8000 ((["_wall", "__name__", "TableError", "BadTable", "BadSquare", "BadThing", "is_number", "check_table", "check_square", "has", "rows_with", "turned", "ahead_of", "Answer", "Steps", "Cross", "Stretches", "Self", "Ranks", "Mutual"] : List PySem.Str) ++ (["Beside", "Line", "Neither", "Round", "only_in", "cross_of", "levels_of", "steps", "self_of", "sizes_of", "stretches", "mutual_of", "first_ahead", "ranks", "neither_of", "line", "_law_ask", "_law_due", "_law_tables", "_law_wides"] : List PySem.Str) ++ (["_law_things"] : List PySem.Str)) w := by
  intro os
  kernel_rfl
theorem factsW {w : World} {K : PySem.W.Frag} {h : Heap} {mg : Str → Option Value} {f : Addr} (X : K.In h) (G : h.Ns mainGlobals mg) (hfa : mg ("law" : Str) = some (.ref f)) (c : He.SaysX fctL fnL [] tfL exB w h K) :
    LamX.LawAtS PySem.Challenge.rw_wholeahead_k07_refused w K C8.CX0 (6 + 1) 63 "_law_script" mg f h := by
  have T := mkTx X G c
  obtain ⟨f', fd, F, e⟩ := T.d_law.ex
  cases hfa.symm.trans e
  have b := FunD.bindsA (ps := ["_law_script"]) F fun _ _ _ _ _ _ us hl => match us, hl with | [_], _ => rfl
  refine ⟨fd, tfL.map (He.cT K), sp_law K, fun p hp => ?_, fun p hp => ?_, fun p hp => ?_, fun s v => b s [v] rfl, fun H a ns hl _ hH hS => ⟨a, ns, rfl, hS, hl, fun _ => rfl⟩, fun base _ _ hB => ok_law T F⟩
  · obtain ⟨t, ht, rfl⟩ := List.mem_map.mp hp
    exact c.empty t ht
  · obtain ⟨t, ht, rfl⟩ := List.mem_map.mp hp
    exact c.out t ht
  · obtain ⟨t, ht, rfl⟩ := List.mem_map.mp hp
    exact PySem.W.codeHd_of_K X (c.hd t ht)
end WA
open PySem PySem.W PySem.Calls PyProof.Rows
theorem PySem.Challenge.cw_wholeahead_k07_refused_holds : PySem.Challenge.rw_wholeahead_k07_refused.Holds := by
  w_on; o_law
  refine HandSHeadRun.head_any (r := OpenLaw.row PySem.Challenge.rw_wholeahead_k07_refused) (q := view (OpenLaw.row PySem.Challenge.rw_wholeahead_k07_refused).prog [45]) (H := WA.hkW) (ob := WA.obW) (M := 8000) (loose := ((["_wall", "__name__", "TableError", "BadTable", "BadSquare", "BadThing", "is_number", "check_table", "check_square", "has", "rows_with", "turned", "ahead_of", "Answer", "Steps", "Cross", "Stretches", "Self", "Ranks", "Mutual"] : List PySem.Str) ++ (["Beside", "Line", "Neither", "Round", "only_in", "cross_of", "levels_of", "steps", "self_of", "sizes_of", "stretches", "mutual_of", "first_ahead", "ranks", "neither_of", "line", "_law_ask", "_law_due", "_law_tables", "_law_wides"] : List PySem.Str) ++ (["_law_things"] : List PySem.Str))) (d := HandSHeadRun.topDef (OpenLaw.row PySem.Challenge.rw_wholeahead_k07_refused).prog 45) (kwd := []) WA.obW_eq
    (by kernel_rfl) (fun s => by kernel_rfl) WA.runW (by kernel_rfl) (by kernel_rfl) (by kernel_rfl) (by rfl) (by first | assumption | decide +kernel) (by decide +kernel) ⟨rfl, rfl, rfl, rfl, rfl, by decide +kernel⟩ ?hw ?hc
  case hw => w_witness2
  case hc =>
    refine LamX.walk_ofTsE (l := PySem.Challenge.rw_wholeahead_k07_refused) (n := 63) (k := 6 + 1) (x := "_law_script") (CX := fun _ => C8.CX0) rfl (by decide) (by kernel_rfl) ⟨rfl, by decide, by decide⟩ ?F (fun _ _ _ _ _ z => z)
    intro w mg fa h Y G hmg0
    obtain ⟨K, KX, c⟩ := Y
    have hmg : mg ("law" : PySem.Str) = some (.ref fa) := by
      have e : (HandSHeadRun.topDef (OpenLaw.row PySem.Challenge.rw_wholeahead_k07_refused).prog 45).name = ("law" : PySem.Str) := by kernel_rfl
      rw [← e]
      exact hmg0
    exact ⟨K, KX, WA.factsW KX G hmg c⟩
