import PyProof.Rows.All
import Wide.All
import OpenK.AllK
import Wide.FinOn
import HandS.ForMost
import HandS.ForExc
import HandS.IsInst
import HandS.SortInts
import HandS.Wide
import HandS.ExcIs
import PySem.Challenge.RW_millshare_k11_told_back
set_option Elab.async false
set_option linter.all false
set_option maxRecDepth 100000
set_option maxHeartbeats 4000000
namespace Ms
open PySem PySem.Spec PyProof.Rows L2
/-! ### the relations by name -/
abbrev rAddI : R2 := rI0 fun i j => .int (i + j)
abbrev rSubI : R2 := rI0 fun i j => .int (i - j)
abbrev rMulW : R2 := rI CMulW fun i j => .int (i * j)
abbrev rModI : R2 := rI (fun _ j => 0 < j) fun i j => .int (i % j)
abbrev rDivI : R2 := rI CDiv fun i j => .int (i / j)
abbrev rPowI : R2 := rI CPow fun i j => .int (i ^ j.toNat)
abbrev rLtI : R2 := rI0 fun i j => .bl (decide (i < j))
abbrev rLeI : R2 := rI0 fun i j => .bl (decide (i ≤ j))
abbrev rGtI : R2 := rI0 fun i j => .bl (decide (j < i))
abbrev rGeI : R2 := rI0 fun i j => .bl (decide (j ≤ i))
abbrev rCatS : R2 := fun x y H Q => ∃ i j, x = .str i ∧ y = .str j ∧ i.length + j.length ≤ sizeLine ∧ Q (.str (i ++ j)) H
def rLenV (K : PySem.W.Frag) : List V → Hp → VK → Prop := fun xs H Q => ∃ x n, xs = [x] ∧ LenV K x H n ∧ Q (.int n) H
def rMin2 : List V → Hp → VK → Prop := fun xs H Q => ∃ i j, xs = [.int i, .int j] ∧ Q (.int (if j < i then j else i)) H
def rMax2 : List V → Hp → VK → Prop := fun xs H Q => ∃ i j, xs = [.int i, .int j] ∧ Q (.int (if j > i then j else i)) H
def rInt1 : List V → Hp → VK → Prop := fun xs H Q => (∃ i, xs = [.int i] ∧ Q (.int i) H) ∨ ∃ k, xs = [.bl k] ∧ Q (.int (if k then 1 else 0)) H
def rListOf (K : PySem.W.Frag) : List V → Hp → VK → Prop := fun xs H Q => ∃ p ys, xs = [.ref p] ∧ (SqL K H p ys ∨ SqT K H p ys) ∧ ∀ l, H l = none → Q (.ref l) (upd H l (.lst ys))
theorem c_list {X : Cx} : CallR X (.type "list") (rListOf X.K) := call_list_of
theorem c_len {X : Cx} : CallR X (.builtin "len") (rLenV X.K) := call_len
theorem c_min2 {X : Cx} (hc : X.calm = true) : CallR X (.builtin "min") rMin2 := call_min2 hc
theorem c_max2 {X : Cx} (hc : X.calm = true) : CallR X (.builtin "max") rMax2 := call_max2 hc
theorem c_int1 {X : Cx} : CallR X (.type "int") rInt1 := call_int1
/-! ### readings, one step each -/
section
variable {σ : L2.St} {H : Hp} {D : Ends} {t u : TS} {te ta tb tc : TE} {Q : VK} {QT : Bool → Hp → Prop} {tt ut : TT} {K : PySem.W.Frag} {r r' : R2} {i j : Int} {g : Int → Int → V} {C : Int → Int → Prop} {n : Nat} {x y v : V}
theorem w_seq : tSeq t u D σ H = t { D with nx := u D } σ H := rfl
theorem w_asg {gg : TG} : tAsg te gg D σ H = te σ H fun x H1 => gg x σ H1 D.nx := rfl
theorem w_name {QG : L2.St → Hp → Prop} : gName n v σ H QG = QG (σ.set n (some v)) H := rfl
theorem w_var : tVar n σ H Q = ∃ v, σ[n]? = some (some v) ∧ Q v H := rfl
theorem w_c : tC v σ H Q = Q v H := rfl
theorem w_op : tOp r ta tb σ H Q = ta σ H fun x H1 => tb σ H1 fun y H2 => r x y H2 Q := rfl
theorem w_un {r : V → Hp → VK → Prop} : tUn r ta σ H Q = ta σ H fun x H1 => r x H1 Q := rfl
theorem w_I0 : rI0 g (.int i) (.int j) H Q = Q (g i j) H := propext ⟨fun ⟨_, _, e1, e2, q⟩ => by cases e1; cases e2; exact q, fun q => ⟨i, j, rfl, rfl, q⟩⟩
theorem w_I : rI C g (.int i) (.int j) H Q = (C i j ∧ Q (g i j) H) := propext ⟨fun ⟨_, _, e1, e2, q⟩ => by cases e1; cases e2; exact q, fun q => ⟨i, j, rfl, rfl, q⟩⟩
theorem w_U {g : Int → V} : rU g (.int i) H Q = Q (g i) H := propext ⟨fun ⟨_, e1, q⟩ => by cases e1; exact q, fun q => ⟨i, rfl, q⟩⟩
theorem w_eqI : rEq (.int i) (.int j) H Q = Q (.bl (decide (i = j))) H := by
  have e : decide (V.int i = V.int j) = decide (i = j) := by rw [dec_int, Bool.beq_eq_decide_eq]
  show (true = true ∧ Q (.bl (decide (V.int i = V.int j))) H) = _
  rw [e]; simp
theorem w_neI : rNe (.int i) (.int j) H Q = Q (.bl (!decide (i = j))) H := by
  have e : decide (V.int i = V.int j) = decide (i = j) := by rw [dec_int, Bool.beq_eq_decide_eq]
  show (true = true ∧ Q (.bl (!decide (V.int i = V.int j))) H) = _
  rw [e]; simp
theorem w_test : tTest te σ H QT = te σ H fun x H' => ∃ k, x = .bl k ∧ QT k H' := rfl
theorem w_B : tB te σ H QT = te σ H fun x H' => ∃ k, x = .bl k ∧ QT k H' := rfl
theorem w_bl {b : Bool} {p : Bool → Prop} : (∃ k, V.bl b = V.bl k ∧ p k) = p b := propext ⟨fun ⟨_, e, q⟩ => by cases e; exact q, fun q => ⟨b, rfl, q⟩⟩
theorem w_and : tAnd tt ut σ H QT = tt σ H fun c H1 => if c = true then ut σ H1 QT else QT false H1 := rfl
theorem w_or : tOr tt ut σ H QT = tt σ H fun c H1 => if c = true then QT true H1 else ut σ H1 QT := rfl
theorem w_not : tNot tt σ H QT = tt σ H fun c H1 => QT (!c) H1 := rfl
theorem w_andV : tAndV ta tb σ H Q = ta σ H fun x H1 => ∃ c, x = .bl c ∧ if c = true then tb σ H1 Q else Q (.bl false) H1 := rfl
theorem w_orV : tOrV ta tb σ H Q = ta σ H fun x H1 => ∃ c, x = .bl c ∧ if c = true then Q (.bl true) H1 else tb σ H1 Q := rfl
theorem w_notV : tNotV ta σ H Q = ta σ H fun x H1 => ∃ c, x = .bl c ∧ Q (.bl (!c)) H1 := rfl
theorem w_if : tIfS tt t u D σ H = tt σ H fun b H1 => if b = true then t D σ H1 else u D σ H1 := rfl
theorem w_ret : tRet te D σ H = te σ H D.rt := rfl
theorem w_retN : tRetN D σ H = D.rt .non H := rfl
theorem w_drop : tDrop te D σ H = te σ H fun _ H1 => D.nx σ H1 := rfl
theorem w_next : tNext D σ H = D.nx σ H := rfl
theorem w_aug {ti : TIp} : tAug n te ti D σ H = ∃ x, σ[n]? = some (some x) ∧ te σ H fun y H1 => ti x y H1 fun z H2 => D.nx (σ.set n (some z)) H2 := rfl
theorem w_ipI {f : Int → Int → Int} : ipI f (.int i) (.int j) H Q = Q (.int (f i j)) H := propext ⟨fun ⟨_, _, e1, e2, q⟩ => by cases e1; cases e2; exact q, fun q => ⟨i, j, rfl, rfl, q⟩⟩
theorem w_nil {QA : List V → Hp → Prop} : tNil σ H QA = QA [] H := rfl
theorem w_cons {tr : TA} {QA : List V → Hp → Prop} : tCons ta tr σ H QA = ta σ H fun x H1 => tr σ H1 fun xs H2 => QA (x :: xs) H2 := rfl
theorem w_cb {rr : List V → Hp → VK → Prop} {tr : TA} : tCB rr tr σ H Q = tr σ H fun vs H1 => rr vs H1 Q := rfl
theorem w_call {sp : Sp} {E : XK} {tr : TA} : tCall sp [] E tr σ H Q = tr σ H fun vs H1 => sp vs H1 Q E := by
  unfold tCall
  simp only [List.append_nil]
theorem w_min2 : rMin2 [.int i, .int j] H Q = Q (.int (min i j)) H := by
  have e : (if j < i then j else i) = min i j := by
    by_cases h : j < i
    · rw [if_pos h]; omega
    · rw [if_neg h]; omega
  refine propext ⟨fun ⟨_, _, e1, q⟩ => ?_, fun q => ⟨i, j, rfl, ?_⟩⟩
  · cases e1; rw [e] at q; exact q
  · rw [e]; exact q
theorem w_max2 : rMax2 [.int i, .int j] H Q = Q (.int (max i j)) H := by
  have e : (if j > i then j else i) = max i j := by
    by_cases h : j > i
    · rw [if_pos h]; omega
    · rw [if_neg h]; omega
  refine propext ⟨fun ⟨_, _, e1, q⟩ => ?_, fun q => ⟨i, j, rfl, ?_⟩⟩
  · cases e1; rw [e] at q; exact q
  · rw [e]; exact q
theorem w_int1b {b : Bool} : rInt1 [.bl b] H Q = Q (.int (if b then 1 else 0)) H := propext ⟨fun h => by rcases h with ⟨_, e, _⟩ | ⟨_, e, q⟩ <;> cases e; exact q, fun q => .inr ⟨b, rfl, q⟩⟩
theorem w_chain : tChain r r' ta tb tc σ H Q = ta σ H fun x H1 => tb σ H1 fun y H2 => r x y H2 fun z H3 => ∃ k, z = .bl k ∧ (if k = true then tc σ H3 fun w' H4 => r' y w' H4 Q else Q (.bl false) H3) := rfl
theorem w_tup {tr : TA} : tTup tr σ H Q = tr σ H fun xs H1 => xs.length ≤ sizeLine ∧ ∀ p, H1 p = none → Q (.ref p) (upd H1 p (.tup xs)) := rfl
theorem w_lst {tr : TA} : tLst tr σ H Q = tr σ H fun xs H1 => xs.length ≤ sizeLine ∧ ∀ p, H1 p = none → Q (.ref p) (upd H1 p (.lst xs)) := rfl
theorem line5 : (5 : Nat) ≤ sizeLine := by decide
theorem w_sz0 : (0 ≤ sizeLine) = True := eq_true (by decide)
theorem w_sz1 : (0 + 1 ≤ sizeLine) = True := eq_true (by decide)
theorem w_sz2 : (0 + 1 + 1 ≤ sizeLine) = True := eq_true (by decide)
theorem w_pow {b : Nat} {k : Nat} (h : b < 2 ^ 64) (hk : k ≤ 1000000) : CPow (b : Int) (k : Int) := ⟨by omega, by omega, by simpa using h⟩
end
abbrev rMulI : R2 := rI CMul fun i j => .int (i * j)
/-- the law's promise -/
def spTrue (K : PySem.W.Frag) : Sp := fun vs H Q _ => ∃ (a : Addr) (ns : List Int), vs = [.ref a] ∧ SqL K H a (ns.map V.int) ∧ ns.length ≤ 63 ∧ ∀ H', Q (.bl true) H'
theorem noCX {P : Program} {w : World} {H : Hp} {s : Shared} {e : Value} {s' : Shared} (h : L2.CX P w [] H s (fun _ _ _ => False) e s') : False := by
  obtain ⟨_, _, _, _, _, _, _, _, _, _, _, _, z⟩ := h
  exact z.elim
theorem same_upd {H : Hp} {p : Addr} {o : HO} (h : H p = none) : Same H (upd H p o) := fun b x e => by
  rw [upd_ne (ne_of_none e h)]
  exact e
theorem w_cxK {CX : CXT} {P : Program} {w : World} {K : PySem.W.Frag} {mg : Str → Option Value} {base : Heap} {N : List Str} {qual : Str} {scope : Scope} {f : Addr} {cd : Value} {A : Around} {outer : List Env} {s : Shared} {H : Hp} {E : XK} : (cxOf CX P w K mg base N qual scope f cd A outer s H E).K = K := rfl
/-- the ways of an if joined: M holds where they meet -/
theorem if_join {c : TT} {t u : TS} {N : L2.St → Hp → Prop} {rt : VK} {bk ct : L2.St → Hp → Prop} {σ : L2.St} {H : Hp} (M : L2.St → Hp → Prop) (hM : ∀ σ' H', M σ' H' → N σ' H')
    (h : ∀ N' : L2.St → Hp → Prop, (∀ σ' H', M σ' H' → N' σ' H') → tIfS c t u ⟨N', rt, bk, ct⟩ σ H) : tIfS c t u ⟨N, rt, bk, ct⟩ σ H := h N hM
theorem cmulL {i j : Int} (h : -18446744073709551616 < i) (h2 : i < 18446744073709551616) : CMul i j := .inl ⟨h, h2⟩
theorem cmulR {i j : Int} (h : -18446744073709551616 < j) (h2 : j < 18446744073709551616) : CMul i j := .inr ⟨h, h2⟩
theorem w_CDiv {i j : Int} : CDiv i j = (0 < j ∧ j < 1073741824) := rfl
theorem w_CMul {i j : Int} : CMul i j = ((-18446744073709551616 < i ∧ i < 18446744073709551616) ∨ (-18446744073709551616 < j ∧ j < 18446744073709551616)) := rfl
theorem w_cp19 : CPow 10 19 = True := eq_true ⟨by decide, by decide, by decide⟩
theorem w_p19 : (10 : Int) ^ Int.toNat 19 = 10000000000000000000 := by decide
theorem w_cp30 : CPow 10 30 = True := eq_true ⟨by decide, by decide, by decide⟩
theorem w_p30 : (10 : Int) ^ Int.toNat 30 = 1000000000000000000000000000000 := by decide
theorem w_bm {K : PySem.W.Frag} {T : String} {r : V → List V → Hp → VK → Prop} {to : TE} {t : TA} {σ : L2.St} {H : Hp} {Q : VK} : tBM K T r to t σ H Q = to σ H fun x H1 => tyV K T x H1 ∧ t σ H1 fun xs H2 => r x xs H2 Q := rfl
theorem w_bm0 {K : PySem.W.Frag} {T : String} {r : V → List V → Hp → VK → Prop} {to : TE} {σ : L2.St} {H : Hp} {Q : VK} : tBM0 K T r to σ H Q = to σ H fun x H1 => tyV K T x H1 ∧ r x [] H1 Q := rfl
theorem w_nat2 : ((2 : Nat) : Int) = 2 := rfl
theorem w_cp50 : CPow 10 50 = True := eq_true ⟨by decide, by decide, by decide⟩
theorem w_p50 : (10 : Int) ^ Int.toNat 50 = 100000000000000000000000000000000000000000000000000 := by decide
theorem w_eqS {x y : Str} {H : Hp} {Q : VK} : rEq (.str x) (.str y) H Q = Q (.bl (decide (x = y))) H := by
  have e : decide (V.str x = V.str y) = decide (x = y) := by
    by_cases h : x = y
    · simp [h]
    · simp [h]
  show (true = true ∧ Q (.bl (decide (V.str x = V.str y))) H) = _
  rw [e]; simp
theorem w_neS {x y : Str} {H : Hp} {Q : VK} : rNe (.str x) (.str y) H Q = Q (.bl (!decide (x = y))) H := by
  have e : decide (V.str x = V.str y) = decide (x = y) := by
    by_cases h : x = y
    · simp [h]
    · simp [h]
  show (true = true ∧ Q (.bl (!decide (V.str x = V.str y))) H) = _
  rw [e]; simp
/-! ### rows: a list of pairs (many, cost) -/
def PairAt (H : Hp) (p : Addr) (r : Int × Int) : Prop := H p = some (.tup [.int r.1, .int r.2])
abbrev Pairs (H : Hp) (ps : List Addr) (rs : List (Int × Int)) : Prop := Paired (PairAt H) ps rs
def RowsAt (H : Hp) (a : Addr) (rs : List (Int × Int)) : Prop := ∃ ps, H a = some (.lst (ps.map V.ref)) ∧ Pairs H ps rs ∧ rs.length ≤ 10000
theorem PairAt.same {H H' : Hp} {p : Addr} {r : Int × Int} (h : PairAt H p r) (s : Same H H') : PairAt H' p r := s _ _ h
theorem Pairs.same {H H' : Hp} {ps : List Addr} {rs : List (Int × Int)} (h : Pairs H ps rs) (s : Same H H') : Pairs H' ps rs := Paired.mapP h fun _ _ e => s _ _ e
theorem RowsAt.same {H H' : Hp} {a : Addr} {rs : List (Int × Int)} (h : RowsAt H a rs) (s : Same H H') : RowsAt H' a rs := by
  obtain ⟨ps, e, p, z⟩ := h
  exact ⟨ps, s _ _ e, p.same s, z⟩
theorem Pairs.get {H : Hp} : ∀ {ps : List Addr} {rs : List (Int × Int)} {i : Nat} {r : Int × Int}, Pairs H ps rs → rs[i]? = some r → ∃ p, ps[i]? = some p ∧ PairAt H p r
  | _, _, _, _, .nil, e => by simp at e
  | _, _, 0, _, .cons h _, e => by simp at e; subst e; exact ⟨_, rfl, h⟩
  | _, _, i + 1, r, .cons _ t, e => by
    obtain ⟨p, h1, h2⟩ := Pairs.get (i := i) (r := r) t (by simpa using e)
    exact ⟨p, by simpa using h1, h2⟩
theorem Pairs.len {H : Hp} {ps : List Addr} {rs : List (Int × Int)} (h : Pairs H ps rs) : ps.length = rs.length := Paired.length h
theorem Pairs.snoc {H : Hp} {ps : List Addr} {rs : List (Int × Int)} {p : Addr} {r : Int × Int} (h : Pairs H ps rs) (e : PairAt H p r) : Pairs H (ps ++ [p]) (rs ++ [r]) := Paired.snoc h e
theorem Pairs.app {H : Hp} : ∀ {ps qs : List Addr} {rs ts : List (Int × Int)}, Pairs H ps rs → Pairs H qs ts → Pairs H (ps ++ qs) (rs ++ ts)
  | _, _, _, _, .nil, s => s
  | _, _, _, _, .cons r t, s => .cons r (Pairs.app t s)
theorem Pairs.dropLast {H : Hp} : ∀ {ps : List Addr} {rs : List (Int × Int)}, Pairs H ps rs → Pairs H ps.dropLast rs.dropLast
  | _, _, .nil => .nil
  | [_], [_], .cons _ .nil => .nil
  | _ :: _ :: _, _ :: _ :: _, .cons h (.cons h2 t) => .cons h (Pairs.dropLast (.cons h2 t))
/-! ### data: == of lists of pairs, of ints, of pairs -/
def dPair (r : Int × Int) : PyData := .tuple [.int r.1, .int r.2]
theorem dp_pair {K : PySem.W.Frag} {H : Hp} {p : Addr} {r : Int × Int} (h : PairAt H p r) : Dp K H (.ref p) (dPair r) := .tup (SqT.of h) (.cons (.int _) (.cons (.int _) .nil))
theorem dp_pairs {K : PySem.W.Frag} {H : Hp} : ∀ {ps : List Addr} {rs : List (Int × Int)}, Pairs H ps rs → DpAll K H (ps.map V.ref) (rs.map dPair)
  | _, _, .nil => .nil
  | _, _, .cons h t => .cons (dp_pair h) (dp_pairs t)
theorem dp_rows {K : PySem.W.Frag} {H : Hp} {a : Addr} {rs : List (Int × Int)} (h : RowsAt H a rs) : Dp K H (.ref a) (.list (rs.map dPair)) := by
  obtain ⟨ps, e, p, _⟩ := h
  exact .lst (SqL.of e) (dp_pairs p)
theorem dp_ints {K : PySem.W.Frag} {H : Hp} : ∀ ns : List Int, DpAll K H (ns.map V.int) (ns.map PyData.int)
  | [] => .nil
  | n :: r => .cons (.int n) (dp_ints r)
theorem lay_pairs : ∀ rs : List (Int × Int), PyData.canLayAll0 (rs.map dPair) = true
  | [] => by simp [PyData.canLayAll0]
  | r :: rs => by simp [PyData.canLayAll0, PyData.canLay0, dPair, lay_pairs rs]
theorem lay_ints : ∀ rs : List Int, PyData.canLayAll0 (rs.map PyData.int) = true
  | [] => by simp [PyData.canLayAll0]
  | r :: rs => by simp [PyData.canLayAll0, PyData.canLay0, lay_ints rs]
theorem dep_pairs : ∀ rs : List (Int × Int), PyData.depthAll (rs.map dPair) ≤ 5
  | [] => by simp [PyData.depthAll]
  | r :: rs => by
    have h := dep_pairs rs
    simp [PyData.depthAll, PyData.depth, dPair]
    omega
theorem dep_ints : ∀ rs : List Int, PyData.depthAll (rs.map PyData.int) ≤ 5
  | [] => by simp [PyData.depthAll]
  | r :: rs => by
    have h := dep_ints rs
    simp [PyData.depthAll, PyData.depth]
    omega
theorem shaped_rows (rs : List (Int × Int)) : SeqAt.shaped (.list (rs.map dPair)) = true := by
  have h := dep_pairs rs
  simp [SeqAt.shaped, PyData.canLay0, lay_pairs, PyData.depth]
  omega
theorem shaped_ints (rs : List Int) : SeqAt.shaped (.list (rs.map PyData.int)) = true := by
  have h := dep_ints rs
  simp [SeqAt.shaped, PyData.canLay0, lay_ints, PyData.depth]
  omega
theorem shaped_tints (rs : List Int) : SeqAt.shaped (.tuple (rs.map PyData.int)) = true := by
  have h := dep_ints rs
  simp [SeqAt.shaped, PyData.canLay0, lay_ints, PyData.depth]
  omega
theorem eqv_pairs : ∀ rs ts : List (Int × Int), PyData.eqvAll (rs.map dPair) (ts.map dPair) = decide (rs = ts)
  | [], [] => by simp [PyData.eqvAll]
  | [], _ :: _ => by simp [PyData.eqvAll]
  | _ :: _, [] => by simp [PyData.eqvAll]
  | r :: rs, t :: ts => by
    obtain ⟨a, b⟩ := r
    obtain ⟨c, d⟩ := t
    simp only [List.map_cons, PyData.eqvAll, dPair, PyData.eqv, eqv_pairs rs ts, List.cons.injEq, Prod.mk.injEq, Bool.decide_and, Bool.and_true, Bool.beq_eq_decide_eq]
theorem eqv_ints : ∀ rs ts : List Int, PyData.eqvAll (rs.map PyData.int) (ts.map PyData.int) = decide (rs = ts)
  | [], [] => by simp [PyData.eqvAll]
  | [], _ :: _ => by simp [PyData.eqvAll]
  | _ :: _, [] => by simp [PyData.eqvAll]
  | r :: rs, t :: ts => by
    simp only [List.map_cons, PyData.eqvAll, PyData.eqv, eqv_ints rs ts, List.cons.injEq, Bool.decide_and, Bool.beq_eq_decide_eq]
section
variable {K : PySem.W.Frag} {H : Hp} {a b : Addr} {rs ts : List (Int × Int)} {ns ms : List Int} {Q : VK}
theorem eq_rows (h : RowsAt H a rs) (h' : RowsAt H b ts) (q : Q (.bl (decide (rs = ts))) H) : rEqD K (.ref a) (.ref b) H Q :=
  ⟨_, _, dp_rows h, dp_rows h', shaped_rows _, shaped_rows _, by rw [show PyData.eqv (.list (rs.map dPair)) (.list (ts.map dPair)) = decide (rs = ts) by simp only [PyData.eqv, eqv_pairs]]; exact q⟩
theorem ne_rows (h : RowsAt H a rs) (h' : RowsAt H b ts) (q : Q (.bl (!decide (rs = ts))) H) : rNeD K (.ref a) (.ref b) H Q :=
  ⟨_, _, dp_rows h, dp_rows h', shaped_rows _, shaped_rows _, by rw [show PyData.eqv (.list (rs.map dPair)) (.list (ts.map dPair)) = decide (rs = ts) by simp only [PyData.eqv, eqv_pairs]]; exact q⟩
theorem rows_nil (h : H a = some (.lst [])) : RowsAt H a [] := ⟨[], h, .nil, by simp⟩
theorem dp_intsL (h : SqL K H a (ns.map V.int)) : Dp K H (.ref a) (.list (ns.map PyData.int)) := .lst h (dp_ints ns)
theorem eq_ints (h : SqL K H a (ns.map V.int)) (h' : SqL K H b (ms.map V.int)) (q : Q (.bl (decide (ns = ms))) H) : rEqD K (.ref a) (.ref b) H Q :=
  ⟨_, _, dp_intsL h, dp_intsL h', shaped_ints _, shaped_ints _, by rw [show PyData.eqv (.list (ns.map PyData.int)) (.list (ms.map PyData.int)) = decide (ns = ms) by simp only [PyData.eqv, eqv_ints]]; exact q⟩
theorem ne_ints (h : SqL K H a (ns.map V.int)) (h' : SqL K H b (ms.map V.int)) (q : Q (.bl (!decide (ns = ms))) H) : rNeD K (.ref a) (.ref b) H Q :=
  ⟨_, _, dp_intsL h, dp_intsL h', shaped_ints _, shaped_ints _, by rw [show PyData.eqv (.list (ns.map PyData.int)) (.list (ms.map PyData.int)) = decide (ns = ms) by simp only [PyData.eqv, eqv_ints]]; exact q⟩
theorem dp_tints (h : H a = some (.tup (ns.map V.int))) : Dp K H (.ref a) (.tuple (ns.map PyData.int)) := .tup (SqT.of h) (dp_ints ns)
theorem ne_tints (h : H a = some (.tup (ns.map V.int))) (h' : H b = some (.tup (ms.map V.int))) (q : Q (.bl (!decide (ns = ms))) H) : rNeD K (.ref a) (.ref b) H Q :=
  ⟨_, _, dp_tints h, dp_tints h', shaped_tints _, shaped_tints _, by rw [show PyData.eqv (.tuple (ns.map PyData.int)) (.tuple (ms.map PyData.int)) = decide (ns = ms) by simp only [PyData.eqv, eqv_ints]]; exact q⟩
theorem eq_tints (h : H a = some (.tup (ns.map V.int))) (h' : H b = some (.tup (ms.map V.int))) (q : Q (.bl (decide (ns = ms))) H) : rEqD K (.ref a) (.ref b) H Q :=
  ⟨_, _, dp_tints h, dp_tints h', shaped_tints _, shaped_tints _, by rw [show PyData.eqv (.tuple (ns.map PyData.int)) (.tuple (ms.map PyData.int)) = decide (ns = ms) by simp only [PyData.eqv, eqv_ints]]; exact q⟩
theorem len_l {xs : List V} (h : SqL K H a xs) (q : Q (.int xs.length) H) : rLenV K [.ref a] H Q := ⟨_, _, rfl, .inl ⟨_, h, rfl⟩, q⟩
theorem len_t {xs : List V} (h : SqT K H a xs) (q : Q (.int xs.length) H) : rLenV K [.ref a] H Q := ⟨_, _, rfl, .inr ⟨_, h, rfl⟩, q⟩
end
section
variable {K : PySem.W.Frag} {H : Hp} {a b : Addr} {rs ts : List (Int × Int)} {ns ms : List Int} {Q : VK} {i : Int} {v : V} {xs : List V}
theorem ix_l (h : SqL K H a xs) (e : atI xs i = some v) (q : Q v H) : rIxL K (.ref a) (.int i) H Q := ⟨a, xs, i, v, rfl, rfl, h, e, q⟩
theorem ix_t (h : SqT K H a xs) (e : atI xs i = some v) (q : Q v H) : rIxT K (.ref a) (.int i) H Q := ⟨a, xs, i, v, rfl, rfl, h, e, q⟩
theorem at_i {α : Type} {xs : List α} {v : α} {i : Int} (h0 : 0 ≤ i) (e : xs[i.toNat]? = some v) : atI xs i = some v := by
  have h := atI_nat (xs := xs) (j := i.toNat) e
  rw [Int.toNat_of_nonneg h0] at h
  exact h
theorem ix_int (h : SqL K H a (ns.map V.int)) (h0 : 0 ≤ i) (h1 : i < ns.length) (q : ∀ c, c ∈ ns → ns[i.toNat]? = some c → Q (.int c) H) : rIxL K (.ref a) (.int i) H Q := by
  have hl : i.toNat < ns.length := by omega
  refine ix_l h (at_i h0 (v := .int (ns[i.toNat])) ?_) (q _ (List.getElem_mem hl) (List.getElem?_eq_getElem hl))
  rw [List.getElem?_map, List.getElem?_eq_getElem hl]
  rfl
theorem ix_rows (h : RowsAt H a rs) (h0 : 0 ≤ i) (h1 : i < rs.length) (q : ∀ p r, PairAt H p r → rs[i.toNat]? = some r → Q (.ref p) H) : rIxL K (.ref a) (.int i) H Q := by
  obtain ⟨ps, e, hp, _⟩ := h
  have hl : i.toNat < rs.length := by omega
  obtain ⟨p, e1, e2⟩ := hp.get (List.getElem?_eq_getElem hl)
  refine ix_l (SqL.of e) (at_i h0 (v := .ref p) ?_) (q p _ e2 (List.getElem?_eq_getElem hl))
  rw [List.getElem?_map, e1]
  rfl
theorem ix_p0 {p : Addr} {r : Int × Int} (h : PairAt H p r) (q : Q (.int r.1) H) : rIxT K (.ref p) (.int 0) H Q := ix_t (SqT.of h) rfl q
theorem ix_p1 {p : Addr} {r : Int × Int} (h : PairAt H p r) (q : Q (.int r.2) H) : rIxT K (.ref p) (.int 1) H Q := ix_t (SqT.of h) rfl q
theorem lenV_l {n : Nat} (h : SqL K H a xs) (e : xs.length = n) : LenV K (.ref a) H n := .inl ⟨xs, h, e.symm⟩
theorem len_rows (h : RowsAt H a rs) (q : Q (.int rs.length) H) : rLenV K [.ref a] H Q := by
  obtain ⟨ps, e, hp, _⟩ := h
  exact ⟨_, _, rfl, .inl ⟨_, SqL.of e, by rw [List.length_map]; exact hp.len.symm⟩, q⟩
theorem lenV_rows (h : RowsAt H a rs) : LenV K (.ref a) H rs.length := by
  obtain ⟨ps, e, hp, _⟩ := h
  exact lenV_l (SqL.of e) (by rw [List.length_map]; exact hp.len)
end
section
variable {K : PySem.W.Frag} {H : Hp} {a : Addr} {Q : VK} {i : Int} {xs : List V} {rs : List (Int × Int)}
theorem isi_ty {x : V} {t n : String} {b : Bool} (h : TyOf K H x (.type t)) (e : kitB t n = some b) (q : Q (.bl b) H) : rIsi K [x, .ty n] H Q := ⟨x, .ty n, .type t, .type n, b, rfl, .ty n, .base h, kit_ty e, q⟩
theorem isi_ii (q : Q (.bl true) H) : rIsi K [.int i, .ty "int"] H Q := isi_ty (.int i) (by decide +kernel) q
theorem isi_ib (q : Q (.bl false) H) : rIsi K [.int i, .ty "bool"] H Q := isi_ty (.int i) (by decide +kernel) q
theorem isi_ll (h : H a = some (.lst xs)) (q : Q (.bl true) H) : rIsi K [.ref a, .ty "list"] H Q := isi_ty (.lst h) (by decide +kernel) q
theorem isi_tt (h : H a = some (.tup xs)) (q : Q (.bl true) H) : rIsi K [.ref a, .ty "tuple"] H Q := isi_ty (.tup h) (by decide +kernel) q
theorem isi_rows (h : RowsAt H a rs) (q : Q (.bl true) H) : rIsi K [.ref a, .ty "list"] H Q := by
  obtain ⟨ps, e, _⟩ := h
  exact isi_ll e q
end
/-! ### a loop over rows, a comprehension over rows -/
/-- a loop over what J says; a comprehension over it -/
def rForJ (J : It) (g : TG) (tb : TS) (D : Ends) (σ : L2.St) (H1 : Hp) : Prop := ∃ W : Nat → Nat → L2.St → Hp → Prop, (∃ m, W 0 m σ H1) ∧ ∀ i m σ H, W i m σ H →
  (J.stop i H ∧ D.nx σ H) ∨ (J.go i H ∧ ∃ N : L2.St → Hp → Prop, (∀ σ' H', N σ' H' → ∃ m', m' < m ∧ W (i + 1) m' σ' H') ∧ ∀ x H', J.yld i H x H' → g x σ H' fun σ2 H2 => tb { D with nx := N, ct := N, bk := D.nx } σ2 H2)
def rLcJ (J : It) (g : TG) (tt : TT) (te : TE) (vs : List Nat) (σ : L2.St) (H1 : Hp) (Q : VK) : Prop := ∀ D, H1 D = none → ∃ W : Nat → Nat → Hp → Prop, (∃ m, W 0 m (upd H1 D (.lst []))) ∧ ∀ i m H, W i m H →
  (J.stop i H ∧ Q (.ref D) H) ∨ (J.go i H ∧ ∃ Nx : Hp → Prop, (∀ H', Nx H' → ∃ m', m' < m ∧ W (i + 1) m' H') ∧ ∀ x H', J.yld i H x H' → g x (wipe σ vs) H' fun σ2 H2 => wipe σ2 vs = wipe σ vs ∧ tt σ2 H2 fun b H3 =>
    if b = true then te σ2 H3 fun y H4 => ∃ acc, H4 D = some (.lst acc) ∧ acc.length < sizeLine ∧ Nx (upd H4 D (.lst (acc ++ [y]))) else Nx H3)
def rForL (K : PySem.W.Frag) (a : Addr) (g : TG) (tb : TS) (D : Ends) (σ : L2.St) (H : Hp) : Prop := (∃ xs, SqL K H a xs) ∧ rForJ (Itl K a) g tb D σ H
def rForR (n : Int) (g : TG) (tb : TS) (D : Ends) (σ : L2.St) (H : Hp) : Prop := (-(2 ^ 62) ≤ n ∧ n < 2 ^ 62) ∧ rForJ (Itr 0 n.toNat) g tb D σ H
def rLcL (K : PySem.W.Frag) (a : Addr) (g : TG) (tt : TT) (te : TE) (vs : List Nat) (σ : L2.St) (H : Hp) (Q : VK) : Prop := (∃ xs, SqL K H a xs) ∧ rLcJ (Itl K a) g tt te vs σ H Q
def rLcR (n : Int) (g : TG) (tt : TT) (te : TE) (vs : List Nat) (σ : L2.St) (H : Hp) (Q : VK) : Prop := (-(2 ^ 62) ≤ n ∧ n < 2 ^ 62) ∧ rLcJ (Itr 0 n.toNat) g tt te vs σ H Q
section
variable {K : PySem.W.Frag} {g : TG} {tb : TS} {D : Ends} {σ : L2.St} {H : Hp} {tl : TE} {ta : TA} {tt : TT} {te : TE} {vs : List Nat} {Q : VK}
theorem w_forL : tFor (iList K tl) g tb D σ H = tl σ H fun x H1 => ∃ a, x = .ref a ∧ rForL K a g tb D σ H1 := rfl
theorem w_forR : tFor (iRng1 ta) g tb D σ H = ta σ H fun vs H1 => ∃ n, vs = [.int n] ∧ rForR n g tb D σ H1 := by
  have e : ∀ (j : Int) (P : Prop), (-(2 ^ 62) ≤ j ∧ j < 2 ^ 62 ∧ P) = ((-(2 ^ 62) ≤ j ∧ j < 2 ^ 62) ∧ P) := fun j P => propext ⟨fun ⟨a, b, c⟩ => ⟨⟨a, b⟩, c⟩, fun ⟨⟨a, b⟩, c⟩ => ⟨a, b, c⟩⟩
  unfold tFor iRng1
  simp only [e]
  rfl
theorem w_lcL : tLc (iList K tl) g tt te vs σ H Q = tl σ H fun x H1 => ∃ a, x = .ref a ∧ rLcL K a g tt te vs σ H1 Q := rfl
theorem w_lcR : tLc (iRng1 ta) g tt te vs σ H Q = ta σ H fun us H1 => ∃ n, us = [.int n] ∧ rLcR n g tt te vs σ H1 Q := by
  have e : ∀ (j : Int) (P : Prop), (-(2 ^ 62) ≤ j ∧ j < 2 ^ 62 ∧ P) = ((-(2 ^ 62) ≤ j ∧ j < 2 ^ 62) ∧ P) := fun j P => propext ⟨fun ⟨a, b, c⟩ => ⟨⟨a, b⟩, c⟩, fun ⟨⟨a, b⟩, c⟩ => ⟨a, b, c⟩⟩
  unfold tLc iRng1
  simp only [e]
  rfl
theorem w_wipe0 : wipe σ [] = σ := rfl
theorem w_wipe1 {v : Nat} : wipe σ (v :: vs) = (wipe σ vs).set v none := rfl
end
section
variable {K : PySem.W.Frag} {a : Addr} {ps : List Addr} {rs : List (Int × Int)} {i j : Nat} {tb : TS} {D : Ends} {σ : L2.St} {H : Hp} {tl : TE}
theorem for_rows (Pv : Nat → L2.St → Hp → Prop) (h0 : Pv 0 σ H) (hl : ∀ n σ H, n ≤ rs.length → Pv n σ H → H a = some (.lst (ps.map V.ref)) ∧ Pairs H ps rs)
    (hs : ∀ n r σ H, rs[n]? = some r → Pv n σ H → ∀ N : L2.St → Hp → Prop, (∀ σ' H', Pv (n + 1) σ' H' → N σ' H') → tb { D with nx := N, ct := N, bk := D.nx } ((σ.set i (some (.int r.1))).set j (some (.int r.2))) H)
    (hd : ∀ σ H, Pv rs.length σ H → D.nx σ H) : rForL K a (gTup K 2 (gCons (gName i) (gCons (gName j) gNil))) tb D σ H := by
  refine ⟨⟨_, SqL.of (hl 0 σ H (Nat.zero_le _) h0).1⟩, for_list (K := K) (a := a) (xs := ps.map V.ref) (fun n σ H => n ≤ rs.length ∧ Pv n σ H) ⟨Nat.zero_le _, h0⟩ (fun n σ H _ p => SqL.of (hl n σ H p.1 p.2).1) (fun n x σ H e p => ?_) (fun σ H p => ?_)⟩
  · obtain ⟨hn, p⟩ := p
    have hp := (hl n σ H hn p).2
    rw [List.getElem?_map] at e
    cases e1 : ps[n]? with
    | none => rw [e1] at e; cases e
    | some q =>
      rw [e1] at e
      have ex : V.ref q = x := Option.some.inj e
      subst ex
      have hlt : n < rs.length := by
        have := (List.getElem?_eq_some_iff.mp e1).1
        rw [← hp.len]; exact this
      obtain ⟨q', e2, hq⟩ := hp.get (List.getElem?_eq_getElem hlt)
      rw [e1] at e2
      cases e2
      exact ⟨q, _, rfl, SqT.of hq, rfl, _, _, rfl, _, _, rfl, rfl, hs n _ σ H (List.getElem?_eq_getElem hlt) p _ fun σ' H' z => ⟨hlt, z⟩⟩
  · rw [List.length_map, (hl _ σ H p.1 p.2).2.len] at p
    exact hd σ H p.2
theorem lc_rows {tt : TT} {te : TE} {vs : List Nat} {Q : VK} (hr : RowsAt H a rs) (p : Int × Int → Bool) (f : Int × Int → V)
    (hw : ∀ r : Int × Int, wipe (((wipe σ vs).set i (some (.int r.1))).set j (some (.int r.2))) vs = wipe σ vs)
    (ht : ∀ (r : Int × Int) (H' : Hp) (R : Bool → Hp → Prop), Same H H' → R (p r) H' → tt (((wipe σ vs).set i (some (.int r.1))).set j (some (.int r.2))) H' R)
    (he : ∀ (r : Int × Int) (H' : Hp) (R : VK), r ∈ rs → p r = true → Same H H' → R (f r) H' → te (((wipe σ vs).set i (some (.int r.1))).set j (some (.int r.2))) H' R)
    (hq : ∀ D, H D = none → Q (.ref D) (upd H D (.lst ((rs.filter p).map f)))) : rLcL K a (gTup K 2 (gCons (gName i) (gCons (gName j) gNil))) tt te vs σ H Q := by
  obtain ⟨ps, ea, hp, hz⟩ := hr
  refine ⟨⟨_, SqL.of ea⟩, fun D hD => lc_list (K := K) (a := a) (xs := ps.map V.ref) (fun n H' => n ≤ rs.length ∧ H' = upd H D (.lst (((rs.take n).filter p).map f))) ⟨Nat.zero_le _, rfl⟩ (fun n H' _ z => ?_) (fun n x H' e z => ?_) (fun H' z => ?_)⟩
  · rw [z.2, ]
    exact SqL.of ((same_upd hD) _ _ ea)
  · obtain ⟨hn, rfl⟩ := z
    have s1 : Same H (upd H D (.lst (((rs.take n).filter p).map f))) := same_upd hD
    rw [List.getElem?_map] at e
    cases e1 : ps[n]? with
    | none => rw [e1] at e; cases e
    | some q =>
      rw [e1] at e
      have ex : V.ref q = x := Option.some.inj e
      subst ex
      have hlt : n < rs.length := by
        have := (List.getElem?_eq_some_iff.mp e1).1
        rw [← hp.len]; exact this
      obtain ⟨q', e2, hq'⟩ := hp.get (List.getElem?_eq_getElem hlt)
      rw [e1] at e2
      cases e2
      have ht1 : rs.take (n + 1) = rs.take n ++ [rs[n]] := by
        rw [List.take_add_one, List.getElem?_eq_getElem hlt]; rfl
      refine ⟨q, _, rfl, SqT.of (s1 _ _ hq'), rfl, _, _, rfl, _, _, rfl, rfl, hw _, ht _ _ _ s1 ?_⟩
      by_cases hpn : p rs[n] = true
      · rw [if_pos hpn]
        refine he _ _ _ (List.getElem_mem hlt) hpn s1 ⟨_, upd_same, ?_, hlt, ?_⟩
        · rw [List.length_map]
          refine Nat.lt_of_le_of_lt (List.length_filter_le _ _) (Nat.lt_of_le_of_lt (List.length_take_le _ _) ?_)
          exact Nat.lt_of_lt_of_le hlt (Nat.le_trans hz (by decide))
        · rw [upd_upd, ht1, List.filter_append, List.map_append]
          simp only [List.filter_cons, hpn, if_true, List.filter_nil, List.map_cons, List.map_nil]
      · rw [if_neg hpn]
        refine ⟨hlt, ?_⟩
        rw [ht1, List.filter_append, List.map_append]
        simp only [List.filter_cons, hpn, if_false, List.filter_nil, List.map_nil, List.append_nil, Bool.false_eq_true]
  · obtain ⟨_, rfl⟩ := z
    rw [List.length_map, hp.len, List.take_length]
    exact hq D hD
end
section
variable {K : PySem.W.Frag} {H H' : Hp} {o a : Addr} {xs ys : List V} {v : V} {Q : VK} {ps : List Addr} {rs : List (Int × Int)}
theorem tyv_l (h : H o = some (.lst xs)) : tyV K "list" (.ref o) H := .inl ⟨rfl, _, SqL.of h⟩
theorem app_l (h : H o = some (.lst xs)) (hz : xs.length < 1000000) (q : Q .non (upd H o (.lst (xs ++ [v])))) : rAppend (.ref o) [v] H Q := ⟨o, xs, v, rfl, rfl, h, Nat.lt_of_lt_of_le hz (by decide), q⟩
theorem pop_l (h : H o = some (.lst (xs ++ [v]))) (q : Q v (upd H o (.lst xs))) : rPop (.ref o) [] H Q := ⟨o, xs ++ [v], v, rfl, rfl, h, by simp, by rw [List.dropLast_concat]; exact q⟩
theorem ix_last (h : H o = some (.lst (xs ++ [v]))) (q : Q v H) : rIxL K (.ref o) (.int (-1)) H Q := ix_l (SqL.of h) (atI_last _ _) q
theorem same_mut (s : Same H H') (n : H o = none) {u : HO} : Same H (upd H' o u) := fun b x e => by
  rw [upd_ne (ne_of_none e n)]
  exact s b x e
theorem Pairs.updL (h : H o = some (.lst xs)) (hp : Pairs H ps rs) : Pairs (upd H o (.lst ys)) ps rs := Paired.mapP hp fun p r e => by
  have e' : H p = some (.tup [.int r.1, .int r.2]) := e
  show upd H o (.lst ys) p = _
  rw [upd_ne (ne_of e' h (by intro z; cases z))]
  exact e'
theorem rows_of (h : H a = some (.lst (ps.map V.ref))) (hp : Pairs H ps rs) (hz : rs.length ≤ 10000) : RowsAt H a rs := ⟨ps, h, hp, hz⟩
end
theorem Pairs.snoc_inv {H : Hp} {l : Int × Int} : ∀ {b : List (Int × Int)} {qs : List Addr}, Pairs H qs (b ++ [l]) → ∃ q0 p0, qs = q0 ++ [p0] ∧ Pairs H q0 b ∧ PairAt H p0 l
  | [], [_], .cons h .nil => ⟨[], _, rfl, .nil, h⟩
  | _ :: b, q :: qs, .cons h t => by
    obtain ⟨q0, p0, e, t0, h0⟩ := Pairs.snoc_inv (b := b) t
    exact ⟨q :: q0, p0, by rw [e]; rfl, .cons h t0, h0⟩
theorem PairAt.updL {H : Hp} {o p : Addr} {xs ys : List V} {r : Int × Int} (e : PairAt H p r) (h : H o = some (.lst xs)) : PairAt (upd H o (.lst ys)) p r := by
  have e' : H p = some (.tup [.int r.1, .int r.2]) := e
  show upd H o (.lst ys) p = _
  rw [upd_ne (ne_of e' h (by intro z; cases z))]
  exact e'
theorem RowsAt.but {H H' : Hp} {x a C dx : Addr} {fs : List (Str × V)} {rs : List (Int × Int)} (h : RowsAt H a rs) (hx : H x = some (.ins C dx fs)) (k : ∀ y o, H y = some o → y ≠ x → H' y = some o) : RowsAt H' a rs := by
  obtain ⟨ps, e, p, z⟩ := h
  exact ⟨ps, k _ _ e (ne_of e hx (by intro q; cases q)), Paired.mapP p fun q r e => k _ _ e (ne_of (show H q = some (.tup [.int r.1, .int r.2]) from e) hx (by intro q; cases q)), z⟩
theorem but_upd {H : Hp} {x : Addr} {o : HO} : ∀ y u, H y = some u → y ≠ x → upd H x o y = some u := fun y u e n => by rw [upd_ne n]; exact e
theorem fil_all {α : Type} (rs : List α) : rs.filter (fun _ => true) = rs := by simp
theorem lc_rowsI {K : PySem.W.Frag} {a : Addr} {rs : List (Int × Int)} {i j : Nat} {σ : L2.St} {H : Hp} {tt : TT} {te : TE} {vs : List Nat} {Q : VK} (hr : RowsAt H a rs) (p : Int × Int → Bool) (f : Int × Int → Int)
    (hw : ∀ r : Int × Int, wipe (((wipe σ vs).set i (some (.int r.1))).set j (some (.int r.2))) vs = wipe σ vs)
    (ht : ∀ (r : Int × Int) (H' : Hp) (R : Bool → Hp → Prop), Same H H' → R (p r) H' → tt (((wipe σ vs).set i (some (.int r.1))).set j (some (.int r.2))) H' R)
    (he : ∀ (r : Int × Int) (H' : Hp) (R : VK), r ∈ rs → p r = true → Same H H' → R (.int (f r)) H' → te (((wipe σ vs).set i (some (.int r.1))).set j (some (.int r.2))) H' R)
    (hq : ∀ D, H D = none → Q (.ref D) (upd H D (.lst (((rs.filter p).map f).map V.int)))) : rLcL K a (gTup K 2 (gCons (gName i) (gCons (gName j) gNil))) tt te vs σ H Q :=
  lc_rows hr p (fun r => .int (f r)) hw ht he fun D hD => by
    have h := hq D hD
    rw [List.map_map] at h
    exact h

section
variable {K : PySem.W.Frag} {tb : TS} {D : Ends} {σ : L2.St} {H : Hp} {ta : TA} {g : TG} {tl : TE} {i : Nat} {a : Addr} {xs : List V} {Q : VK}
theorem for_rng {n : Int} (h1 : -(2 ^ 62) ≤ n) (h2 : n < 2 ^ 62) (Pv : Nat → L2.St → Hp → Prop) (h0 : Pv 0 σ H)
      (hs : ∀ (k : Nat) (σ : L2.St) (H : Hp), (k : Int) < n → Pv k σ H → ∀ N : L2.St → Hp → Prop, (∀ σ' H', Pv (k + 1) σ' H' → N σ' H') → g (.int k) σ H fun σ2 H2 => tb { D with nx := N, ct := N, bk := D.nx } σ2 H2) (hd : ∀ σ H, Pv n.toNat σ H → D.nx σ H) :
    rForR n g tb D σ H := by
  refine ⟨⟨h1, h2⟩, for_range (lo := 0) (n := n.toNat) Pv h0 (fun k σ H hk p => ?_) hd⟩
  rw [Int.zero_add]
  exact hs k σ H (by omega) p _ fun _ _ z => z
theorem for_lst (Pv : Nat → L2.St → Hp → Prop) (h0 : Pv 0 σ H) (hl : ∀ n σ H, n ≤ xs.length → Pv n σ H → SqL K H a xs)
    (hs : ∀ n x σ H, xs[n]? = some x → Pv n σ H → ∀ N : L2.St → Hp → Prop, (∀ σ' H', Pv (n + 1) σ' H' → N σ' H') → tb { D with nx := N, ct := N, bk := D.nx } (σ.set i (some x)) H)
    (hd : ∀ σ H, Pv xs.length σ H → D.nx σ H) : rForL K a (gName i) tb D σ H :=
  ⟨⟨_, hl 0 σ H (Nat.zero_le _) h0⟩, for_list (K := K) (a := a) (xs := xs) Pv h0 hl (fun n x σ H e p => hs n x σ H e p _ fun _ _ z => z) hd⟩
/-- a comprehension over a range that makes pairs -/
theorem lc_rngP {te : TE} {vs : List Nat} {n : Int} (rows : List (Int × Int)) (hn : n = rows.length) (hz : rows.length ≤ 10000) (hw : ∀ v : Option V, wipe ((wipe σ vs).set i v) vs = wipe σ vs)
    (he : ∀ (k : Nat) (r : Int × Int) (H' : Hp) (R : VK), rows[k]? = some r → Same H H' → (∀ p, H' p = none → R (.ref p) (upd H' p (.tup [.int r.1, .int r.2]))) → te ((wipe σ vs).set i (some (.int k))) H' R)
    (hq : ∀ (H' : Hp) (D : Addr), Same H H' → H D = none → RowsAt H' D rows → Q (.ref D) H') : rLcR n (gName i) tYes te vs σ H Q := by
  subst hn
  refine ⟨⟨by omega, by omega⟩, fun D nD => lc_range (lo := 0) (n := (rows.length : Int).toNat) (fun k H' => Same H H' ∧ ∃ qs, H' D = some (.lst (qs.map V.ref)) ∧ Pairs H' qs (rows.take k)) ⟨same_upd nD, [], upd_same, .nil⟩ (fun k H' hk p => ?_) (fun H' p => ?_)⟩
  · obtain ⟨s1, qs, e1, p1⟩ := p
    have hk' : k < rows.length := by omega
    rw [Int.zero_add]
    refine ⟨hw _, he k rows[k] H' _ (List.getElem?_eq_getElem hk') s1 fun p np => ⟨qs.map V.ref, (same_upd np) _ _ e1, ?_, same_mut (s1.trans (same_upd np)) nD, qs ++ [p], ?_, ?_⟩⟩
    · rw [List.length_map, p1.len]
      exact Nat.lt_of_le_of_lt (List.length_take_le _ _) (Nat.lt_of_lt_of_le hk' (Nat.le_trans hz (by decide)))
    · rw [upd_same, List.map_append]; rfl
    · rw [List.take_add_one, List.getElem?_eq_getElem hk']
      exact ((p1.same (same_upd np)).snoc (r := rows[k]) upd_same).updL ((same_upd np) _ _ e1)
  · obtain ⟨s1, qs, e1, p1⟩ := p
    rw [show (rows.length : Int).toNat = rows.length by omega, List.take_length] at p1
    exact hq H' D s1 nD ⟨qs, e1, p1, hz⟩
end
theorem pairs_at {H : Hp} {ps : List Addr} {rs : List (Int × Int)} {n : Nat} {x : V} (hp : Pairs H ps rs) (e : (ps.map V.ref)[n]? = some x) : ∃ p r, x = .ref p ∧ rs[n]? = some r ∧ PairAt H p r := by
  rw [List.getElem?_map] at e
  cases e1 : ps[n]? with
  | none => rw [e1] at e; cases e
  | some q =>
    rw [e1] at e
    have ex : V.ref q = x := Option.some.inj e
    have hlt : n < rs.length := by
      have := (List.getElem?_eq_some_iff.mp e1).1
      rw [← hp.len]; exact this
    obtain ⟨q', e2, hq⟩ := hp.get (List.getElem?_eq_getElem hlt)
    rw [e1] at e2
    cases e2
    exact ⟨q, _, ex.symm, List.getElem?_eq_getElem hlt, hq⟩
section
variable {H : Hp} {l b : Addr} {xs zs : List V} {v : V} {Q : VK}
theorem cat_l (h : H l = some (.lst xs)) (h' : H b = some (.lst zs)) (hz : xs.length + zs.length ≤ 1000000) (q : ∀ p, H p = none → Q (.ref p) (upd H p (.lst (xs ++ zs)))) : rCat (.ref l) (.ref b) H Q :=
  ⟨l, b, xs, zs, rfl, rfl, h, h', Nat.le_trans hz (by decide), q⟩
theorem rep_l {n : Int} (h : H l = some (.lst xs)) (h1 : 0 ≤ n) (h2 : xs.length * n.toNat ≤ 1000000) (h3 : n ≤ 1000000) (q : ∀ p, H p = none → Q (.ref p) (upd H p (.lst (List.replicate n.toNat xs).flatten))) : rRep (.ref l) (.int n) H Q :=
  ⟨l, n, xs, rfl, rfl, h, by omega, by omega, Nat.le_trans h2 (by decide), q⟩
end

section
variable {K : PySem.W.Frag} {σ : L2.St} {H : Hp} {te : TE} {Q : VK} {r : V → Option Int → Option Int → Hp → VK → Prop} {tl th : TO} {QO : Option Int → Hp → Prop} {a : Addr} {rs : List (Int × Int)} {xs : List V} {n : Int}
theorem w_slice : tSl r te tl th σ H Q = te σ H fun x H1 => tl σ H1 fun l H2 => th σ H2 fun u H3 => r x l u H3 Q := rfl
theorem w_nopart : tNoPart σ H QO = QO none H := rfl
theorem w_part : tPart te σ H QO = te σ H fun x H1 => ∃ i, x = .int i ∧ QO (some i) H1 := rfl
theorem cut_to (h : 0 ≤ n) : cutV xs none (some n) = xs.take n.toNat := by
  obtain ⟨k, rfl⟩ : ∃ k : Nat, n = k := ⟨n.toNat, by omega⟩
  unfold cutV
  rw [HT.sIx_none, HT.sIx_nat, List.drop_zero, Int.toNat_natCast, Nat.sub_zero]
  by_cases hk : k ≤ xs.length
  · rw [Nat.min_eq_left hk]
  · rw [Nat.min_eq_right (by omega), List.take_of_length_le (Nat.le_refl _), List.take_of_length_le (by omega)]
theorem cut_from (h : 0 ≤ n) : cutV xs (some n) none = xs.drop n.toNat := by
  obtain ⟨k, rfl⟩ : ∃ k : Nat, n = k := ⟨n.toNat, by omega⟩
  unfold cutV
  rw [HT.sIx_none, HT.sIx_nat, Int.toNat_natCast]
  by_cases hk : k ≤ xs.length
  · rw [Nat.min_eq_left hk, List.take_of_length_le (by rw [List.length_drop]; exact Nat.le_refl _)]
  · rw [Nat.min_eq_right (by omega), List.drop_eq_nil_of_le (Nat.le_refl _), List.drop_eq_nil_of_le (by omega), List.take_nil]
theorem Pairs.take {H : Hp} : ∀ {ps : List Addr} {rs : List (Int × Int)} (n : Nat), Pairs H ps rs → Pairs H (ps.take n) (rs.take n)
  | _, _, 0, _ => .nil
  | _, _, _ + 1, .nil => .nil
  | _, _, n + 1, .cons r t => .cons r (Pairs.take n t)
theorem Pairs.drop {H : Hp} : ∀ {ps : List Addr} {rs : List (Int × Int)} (n : Nat), Pairs H ps rs → Pairs H (ps.drop n) (rs.drop n)
  | _, _, 0, h => h
  | _, _, _ + 1, .nil => .nil
  | _, _, n + 1, .cons _ t => Pairs.drop n t
theorem sl_to (h : RowsAt H a rs) (h0 : 0 ≤ n) (q : ∀ (H' : Hp) (p : Addr), Same H H' → H p = none → RowsAt H' p (rs.take n.toNat) → Q (.ref p) H') : rSlL K (.ref a) none (some n) H Q := by
  obtain ⟨ps, e, hp, hz⟩ := h
  refine ⟨a, _, rfl, SqL.of e, fun p np => ?_⟩
  rw [cut_to h0, ← List.map_take]
  exact q _ p (same_upd np) np ⟨_, upd_same, (hp.same (same_upd np)).take _, Nat.le_trans (List.length_take_le' _ _) hz⟩
theorem sl_from (h : RowsAt H a rs) (h0 : 0 ≤ n) (q : ∀ (H' : Hp) (p : Addr), Same H H' → H p = none → RowsAt H' p (rs.drop n.toNat) → Q (.ref p) H') : rSlL K (.ref a) (some n) none H Q := by
  obtain ⟨ps, e, hp, hz⟩ := h
  refine ⟨a, _, rfl, SqL.of e, fun p np => ?_⟩
  rw [cut_from h0, ← List.map_drop]
  exact q _ p (same_upd np) np ⟨_, upd_same, (hp.same (same_upd np)).drop _, by rw [List.length_drop]; omega⟩
end
def rForT (K : PySem.W.Frag) (a : Addr) (g : TG) (tb : TS) (D : Ends) (σ : L2.St) (H : Hp) : Prop := (∃ xs, SqT K H a xs) ∧ rForJ (Itt K a) g tb D σ H
section
variable {K : PySem.W.Frag} {tb : TS} {D : Ends} {σ : L2.St} {H : Hp} {g : TG} {tl : TE} {i : Nat} {a : Addr} {xs : List V}
theorem w_forT : tFor (iTup K tl) g tb D σ H = tl σ H fun x H1 => ∃ a, x = .ref a ∧ rForT K a g tb D σ H1 := rfl
theorem for_tupl (Pv : Nat → L2.St → Hp → Prop) (h0 : Pv 0 σ H) (hl : ∀ n σ H, n ≤ xs.length → Pv n σ H → SqT K H a xs)
    (hs : ∀ n x σ H, xs[n]? = some x → Pv n σ H → ∀ N : L2.St → Hp → Prop, (∀ σ' H', Pv (n + 1) σ' H' → N σ' H') → tb { D with nx := N, ct := N, bk := D.nx } (σ.set i (some x)) H)
    (hd : ∀ σ H, Pv xs.length σ H → D.nx σ H) : rForT K a (gName i) tb D σ H :=
  ⟨⟨_, hl 0 σ H (Nat.zero_le _) h0⟩, for_tup (K := K) (a := a) (xs := xs) Pv h0 hl (fun n x σ H e p => hs n x σ H e p _ fun _ _ z => z) hd⟩
end
def rLcT (K : PySem.W.Frag) (a : Addr) (g : TG) (tt : TT) (te : TE) (vs : List Nat) (σ : L2.St) (H : Hp) (Q : VK) : Prop := (∃ xs, SqT K H a xs) ∧ rLcJ (Itt K a) g tt te vs σ H Q
section
variable {K : PySem.W.Frag} {g : TG} {σ : L2.St} {H : Hp} {tl : TE} {tt : TT} {te : TE} {vs : List Nat} {Q : VK} {i : Nat} {a : Addr} {xs : List V}
theorem w_lcT : tLc (iTup K tl) g tt te vs σ H Q = tl σ H fun x H1 => ∃ a, x = .ref a ∧ rLcT K a g tt te vs σ H1 Q := rfl
/-- a comprehension over a range that makes ints -/
theorem lc_rngI (P : Int → Prop) {n : Int} (h0 : 0 ≤ n) (h1 : n ≤ 100000) (hw : ∀ v : Option V, wipe ((wipe σ vs).set i v) vs = wipe σ vs)
    (he : ∀ (k : Nat) (H' : Hp) (R : VK), (k : Int) < n → Same H H' → (∀ (v : Int) (H2 : Hp), Same H' H2 → P v → R (.int v) H2) → te ((wipe σ vs).set i (some (.int k))) H' R)
    (hq : ∀ (H' : Hp) (D : Addr) (ns : List Int), Same H H' → H D = none → H' D = some (.lst (ns.map V.int)) → (ns.length : Int) = n → (∀ v ∈ ns, P v) → Q (.ref D) H') : rLcR n (gName i) tYes te vs σ H Q := by
  refine ⟨⟨by omega, by omega⟩, fun D nD => lc_range (lo := 0) (n := n.toNat) (fun k H' => Same H H' ∧ ∃ ns : List Int, H' D = some (.lst (ns.map V.int)) ∧ ns.length = k ∧ ∀ v ∈ ns, P v) ⟨same_upd nD, [], upd_same, rfl, by simp⟩ (fun k H' hk p => ?_) (fun H' p => ?_)⟩
  · obtain ⟨s1, ns, e1, l1, p1⟩ := p
    rw [Int.zero_add]
    refine ⟨hw _, he k H' _ (by omega) s1 fun v H2 s2 hv => ⟨ns.map V.int, s2 _ _ e1, ?_, same_mut (s1.trans s2) nD, ns ++ [v], ?_, by simp [l1], ?_⟩⟩
    · rw [List.length_map]
      exact Nat.lt_of_lt_of_le (show ns.length < 1000000 by omega) (by decide)
    · rw [upd_same, List.map_append]; rfl
    · intro u hu
      rcases List.mem_append.mp hu with hu | hu
      · exact p1 u hu
      · simp at hu; rw [hu]; exact hv
  · obtain ⟨s1, ns, e1, l1, p1⟩ := p
    exact hq H' D ns s1 nD e1 (by omega) p1
/-- a comprehension over a tuple, the heap as it was -/
theorem lc_tupV (h : SqT K H a xs) (hz : xs.length ≤ 1000) (p : V → Bool) (f : V → V) (hw : ∀ v : Option V, wipe ((wipe σ vs).set i v) vs = wipe σ vs)
    (ht : ∀ (v : V) (H' : Hp) (R : Bool → Hp → Prop), v ∈ xs → R (p v) H' → tt ((wipe σ vs).set i (some v)) H' R)
    (he : ∀ (v : V) (H' : Hp) (R : VK), v ∈ xs → R (f v) H' → te ((wipe σ vs).set i (some v)) H' R)
    (hq : ∀ D, H D = none → Q (.ref D) (upd H D (.lst ((xs.filter p).map f)))) : rLcT K a (gName i) tt te vs σ H Q := by
  refine ⟨⟨_, h⟩, fun D nD => lc_tup (K := K) (a := a) (xs := xs) (fun n H' => n ≤ xs.length ∧ H' = upd H D (.lst (((xs.take n).filter p).map f))) ⟨Nat.zero_le _, rfl⟩ (fun n H' _ z => ?_) (fun n x H' e z => ?_) (fun H' z => ?_)⟩
  · rw [z.2]
    have s1 : Same H (upd H D (.lst (((xs.take n).filter p).map f))) := same_upd nD
    rcases h with (h | ⟨o, h⟩) | h
    · exact .inl (.inl (s1 _ _ h))
    · exact .inl (.inr ⟨o, s1 _ _ h⟩)
    · exact .inr h
  · obtain ⟨hn, rfl⟩ := z
    have hlt := (List.getElem?_eq_some_iff.mp e).1
    have hm := List.mem_of_getElem? e
    have ht1 : xs.take (n + 1) = xs.take n ++ [x] := by rw [List.take_add_one, e]; rfl
    refine ⟨hw _, ht x _ _ hm ?_⟩
    by_cases hpn : p x = true
    · rw [if_pos hpn]
      refine he x _ _ hm ⟨_, upd_same, ?_, hlt, ?_⟩
      · rw [List.length_map]
        refine Nat.lt_of_le_of_lt (List.length_filter_le _ _) (Nat.lt_of_le_of_lt (List.length_take_le _ _) ?_)
        exact Nat.lt_of_lt_of_le hlt (Nat.le_trans hz (by decide))
      · rw [upd_upd, ht1, List.filter_append, List.map_append]
        simp only [List.filter_cons, hpn, if_true, List.filter_nil, List.map_cons, List.map_nil]
    · rw [if_neg hpn]
      refine ⟨hlt, ?_⟩
      rw [ht1, List.filter_append, List.map_append]
      simp only [List.filter_cons, hpn, if_false, List.filter_nil, List.map_nil, List.append_nil, Bool.false_eq_true]
  · obtain ⟨_, rfl⟩ := z
    rw [List.take_length]
    exact hq D nD
end
def vNonneg : V → Bool
  | .int n => decide (0 ≤ n)
  | _ => false
theorem vNonneg_int (n : Int) : vNonneg (.int n) = decide (0 ≤ n) := rfl
/-! ### rows, plainly -/
abbrev Rw := List (Int × Int)
def tot (rs : Rw) : Int := (rs.map (·.1)).sum
/-- one more stretch behind those that are put together -/
def stepM (acc : Rw) (r : Int × Int) : Rw := match acc.getLast? with
  | some l => if l.2 = r.2 then acc.dropLast ++ [(r.1 + l.1, r.2)] else acc ++ [r]
  | none => acc ++ [r]
def one (rs : Rw) : Rw := rs.foldl stepM []
theorem one_nil : one [] = [] := rfl
theorem one_snoc (rs : Rw) (r : Int × Int) : one (rs ++ [r]) = stepM (one rs) r := by
  unfold one
  rw [List.foldl_append]
  rfl
theorem stepM_nil (r : Int × Int) : stepM [] r = [r] := rfl
theorem stepM_snoc (a : Rw) (l r : Int × Int) : stepM (a ++ [l]) r = if l.2 = r.2 then a ++ [(r.1 + l.1, r.2)] else a ++ [l] ++ [r] := by
  unfold stepM
  rw [List.getLast?_append]
  simp
theorem rw_cases (a : Rw) : a = [] ∨ ∃ b l, a = b ++ [l] := by
  cases h : a.getLast? with
  | none => exact .inl (List.getLast?_eq_none_iff.mp h)
  | some l =>
    obtain ⟨ys, e⟩ := List.getLast?_eq_some_iff.mp h
    exact .inr ⟨ys, l, e⟩
theorem take_snoc {rs : Rw} {n : Nat} {r : Int × Int} (h : rs[n]? = some r) : rs.take (n + 1) = rs.take n ++ [r] := by
  rw [List.take_add_one, h]; rfl
theorem tot_nil : tot [] = 0 := rfl
theorem tot_cons (r : Int × Int) (rs : Rw) : tot (r :: rs) = r.1 + tot rs := by simp [tot]
theorem tot_app (rs ts : Rw) : tot (rs ++ ts) = tot rs + tot ts := by simp [tot]
/-- how many pieces of a cost -/
def cnt (c : Int) (rs : Rw) : Int := tot (rs.filter fun r => decide (r.2 = c))
theorem cnt_nil (c : Int) : cnt c [] = 0 := rfl
theorem cnt_cons (c : Int) (r : Int × Int) (rs : Rw) : cnt c (r :: rs) = (if r.2 = c then r.1 else 0) + cnt c rs := by
  unfold cnt
  by_cases h : r.2 = c
  · rw [List.filter_cons_of_pos (by simp [h]), tot_cons, if_pos h]
  · rw [List.filter_cons_of_neg (by simp [h]), if_neg h]; omega
theorem cnt_app (c : Int) (rs ts : Rw) : cnt c (rs ++ ts) = cnt c rs + cnt c ts := by
  unfold cnt
  rw [List.filter_append, tot_app]
/-- a mill's stretches: pieces there are, the costs rise -/
def Pos (rs : Rw) : Prop := ∀ r ∈ rs, 1 ≤ r.1
def Inc (rs : Rw) : Prop := rs.Pairwise fun r t => r.2 < t.2
def NonDec (rs : Rw) : Prop := rs.Pairwise fun r t => r.2 ≤ t.2
/-- costs and all pieces within bounds -/
def Bnd (rs : Rw) : Prop := (∀ r ∈ rs, r.2.natAbs < 10 ^ 60) ∧ tot rs < 10 ^ 60
/-- stretches of which a mill can be made -/
def Ok (rs : Rw) : Prop := Pos rs ∧ NonDec rs
theorem Inc.nonDec {rs : Rw} (h : Inc rs) : NonDec rs := List.Pairwise.imp (fun h => Int.le_of_lt h) h
theorem one_inc : ∀ {rs : Rw}, Inc rs → one rs = rs := by
  intro rs
  suffices H : ∀ (n : Nat) (rs : Rw), rs.length = n → Inc rs → one rs = rs from H _ rs rfl
  intro n
  induction n with
  | zero => intro rs e _; rw [List.length_eq_zero_iff.mp e]; rfl
  | succ n ih =>
    intro rs e h
    rcases rw_cases rs with rfl | ⟨b, l, rfl⟩
    · rfl
    · have hb : Inc b := (List.pairwise_append.mp h).1
      rw [one_snoc, ih b (by simpa using e) hb]
      rcases rw_cases b with rfl | ⟨b', l', rfl⟩
      · rfl
      · rw [stepM_snoc, if_neg]
        have := (List.pairwise_append.mp h).2.2 l' (by simp) l (by simp)
        omega
theorem one_last : ∀ (rs : Rw) (r : Int × Int), ∃ b l, one (rs ++ [r]) = b ++ [l] ∧ l.2 = r.2 := fun rs r => by
  rw [one_snoc]
  rcases rw_cases (one rs) with e | ⟨b, l, e⟩
  · rw [e]; exact ⟨[], r, rfl, rfl⟩
  · rw [e, stepM_snoc]
    by_cases h : l.2 = r.2
    · rw [if_pos h]; exact ⟨b, _, rfl, rfl⟩
    · rw [if_neg h]; exact ⟨b ++ [l], r, rfl, rfl⟩
theorem ok_take {rs : Rw} {n : Nat} (h : Ok rs) : Ok (rs.take n) := ⟨fun r hr => h.1 r (List.mem_of_mem_take hr), List.Pairwise.sublist (List.take_sublist n rs) h.2⟩
/-- a stretch more: just when it has pieces and its cost is not below the last one's -/
theorem ok_snoc {rs : Rw} {m c : Int} (h : Ok rs) : Ok (rs ++ [(m, c)]) ↔ 1 ≤ m ∧ ∀ l b, one rs = b ++ [l] → l.2 ≤ c := by
  constructor
  · rintro ⟨h1, h2⟩
    refine ⟨h1 (m, c) (by simp), fun l b e => ?_⟩
    rcases rw_cases rs with rfl | ⟨a, r, rfl⟩
    · rw [one_nil] at e; simp at e
    · obtain ⟨b', l', e', hl⟩ := one_last a r
      rw [e] at e'
      have e2 : l = l' := by simpa using (List.append_inj' e' rfl).2
      rw [e2, hl]
      exact (List.pairwise_append.mp h2).2.2 r (by simp) (m, c) (by simp)
  · rintro ⟨h1, h2⟩
    refine ⟨fun r hr => ?_, List.pairwise_append.mpr ⟨h.2, by simp, fun r hr t ht => ?_⟩⟩
    · rcases List.mem_append.mp hr with hr | hr
      · exact h.1 r hr
      · simp at hr; rw [hr]; exact h1
    · simp at ht
      rw [ht]
      rcases rw_cases rs with rfl | ⟨a, x, rfl⟩
      · simp at hr
      · obtain ⟨b', l', e', hl⟩ := one_last a x
        have h3 := h2 l' b' e'
        show r.2 ≤ c
        rcases List.mem_append.mp hr with hr | hr
        · have := (List.pairwise_append.mp h.2).2.2 r hr x (by simp)
          omega
        · simp at hr; rw [hr]; omega
def few (p : Int) (rs : Rw) : Int := tot (rs.filter fun r => decide (r.2 < p))
def most (p : Int) (rs : Rw) : Int := tot (rs.filter fun r => decide (r.2 ≤ p))
theorem most_eq (p : Int) : ∀ rs : Rw, most p rs = few p rs + cnt p rs
  | [] => rfl
  | r :: rs => by
    have ih := most_eq p rs
    unfold most few cnt at *
    by_cases h1 : r.2 < p
    · rw [List.filter_cons_of_pos (by simp; omega), List.filter_cons_of_pos (by simp [h1]), List.filter_cons_of_neg (by simp; omega), tot_cons, tot_cons]; omega
    · by_cases h2 : r.2 = p
      · rw [List.filter_cons_of_pos (by simp; omega), List.filter_cons_of_neg (by simp; omega), List.filter_cons_of_pos (by simp [h2]), tot_cons, tot_cons]; omega
      · rw [List.filter_cons_of_neg (by simp; omega), List.filter_cons_of_neg (by simp; omega), List.filter_cons_of_neg (by simp; omega)]; omega
def Drawn (rs : Rw) : Prop := ∀ r ∈ rs, 1 ≤ r.1 ∧ r.1 ≤ 10 ^ 38 ∧ r.2.natAbs < 10 ^ 38
theorem ok_zip {rs : Rw} {ns : List Int} (hd : Drawn rs) (hp : ns.Perm (rs.map (·.2))) (hs : ns.Pairwise (· ≤ ·)) : Ok ((rs.map (·.1)).zip ns) ∧ Drawn ((rs.map (·.1)).zip ns) ∧ ((rs.map (·.1)).zip ns).length = rs.length := by
  have hl : (rs.map (·.1)).length = ns.length := by rw [hp.length_eq]; simp
  have h2 : ((rs.map (·.1)).zip ns).map Prod.snd = ns := List.map_snd_zip (Nat.le_of_eq hl.symm)
  have hD : Drawn ((rs.map (·.1)).zip ns) := fun r hr => by
    obtain ⟨h3, h4⟩ := List.of_mem_zip (a := r.1) (b := r.2) hr
    obtain ⟨t, ht, e⟩ := List.mem_map.mp h3
    obtain ⟨u, hu, e2⟩ := List.mem_map.mp (hp.mem_iff.mp h4)
    have a := hd t ht
    have b := hd u hu
    rw [e] at a
    rw [e2] at b
    exact ⟨a.1, a.2.1, b.2.2⟩
  refine ⟨⟨fun r hr => (hD r hr).1, ?_⟩, hD, ?_⟩
  · have h5 : (((rs.map (·.1)).zip ns).map Prod.snd).Pairwise (· ≤ ·) := by rw [h2]; exact hs
    exact List.pairwise_map.mp h5
  · rw [List.length_zip, ← hl, Nat.min_self, List.length_map]
theorem snoc_ind {P : Rw → Prop} (h0 : P []) (h1 : ∀ b l, P b → P (b ++ [l])) : ∀ rs, P rs := by
  have H : ∀ (n : Nat) (rs : Rw), rs.length = n → P rs := by
    intro n
    induction n with
    | zero => intro rs e; rw [List.length_eq_zero_iff.mp e]; exact h0
    | succ n ih =>
      intro rs e
      rcases rw_cases rs with rfl | ⟨b, l, rfl⟩
      · exact h0
      · exact h1 b l (ih b (by simpa using e))
  exact fun rs => H _ rs rfl
theorem ok_front {b : Rw} {l : Int × Int} (h : Ok (b ++ [l])) : Ok b := ⟨fun r hr => h.1 r (by simp [hr]), (List.pairwise_append.mp h.2).1⟩
theorem one_cnt (c : Int) : ∀ rs : Rw, cnt c (one rs) = cnt c rs := by
  refine snoc_ind rfl fun b l ih => ?_
  rw [one_snoc, cnt_app, ← ih]
  rcases rw_cases (one b) with e | ⟨a, x, e⟩
  · rw [e, stepM_nil, cnt_nil]; omega
  · rw [e, stepM_snoc]
    by_cases h : x.2 = l.2
    · rw [if_pos h, cnt_app, cnt_app, cnt_cons, cnt_cons, cnt_cons, cnt_nil]
      by_cases h2 : l.2 = c
      · simp only [h2, h, if_true]; omega
      · have h3 : ¬ x.2 = c := by rw [h]; exact h2
        simp only [h2, h3, if_false]; omega
    · rw [if_neg h, cnt_app, cnt_app]
theorem one_tot : ∀ rs : Rw, tot (one rs) = tot rs := by
  refine snoc_ind rfl fun b l ih => ?_
  rw [one_snoc, tot_app, ← ih]
  rcases rw_cases (one b) with e | ⟨a, x, e⟩
  · rw [e, stepM_nil, tot_nil]; omega
  · rw [e, stepM_snoc]
    by_cases h : x.2 = l.2
    · rw [if_pos h, tot_app, tot_app, tot_cons, tot_cons, tot_cons, tot_nil]; simp; omega
    · rw [if_neg h, tot_app]
theorem one_len : ∀ rs : Rw, (one rs).length ≤ rs.length := by
  refine snoc_ind (Nat.le_refl _) fun b l ih => ?_
  rw [one_snoc]
  rcases rw_cases (one b) with e | ⟨a, x, e⟩
  · rw [e, stepM_nil]; simp
  · rw [e, stepM_snoc]
    rw [e] at ih
    by_cases h : x.2 = l.2
    · rw [if_pos h]; simp at ih ⊢; omega
    · rw [if_neg h]; simp at ih ⊢; omega
theorem one_mem : ∀ (rs : Rw) (r : Int × Int), r ∈ one rs → ∃ t ∈ rs, t.2 = r.2 := by
  refine snoc_ind (by simp [one_nil]) fun b l ih r hr => ?_
  rw [one_snoc] at hr
  rcases rw_cases (one b) with e | ⟨a, x, e⟩
  · rw [e, stepM_nil] at hr
    simp at hr
    exact ⟨l, by simp, by rw [hr]⟩
  · rw [e, stepM_snoc] at hr
    rw [e] at ih
    have lift : r ∈ a ++ [x] → ∃ t ∈ b ++ [l], t.2 = r.2 := fun h => by
      obtain ⟨t, ht, e⟩ := ih r h
      exact ⟨t, by simp [ht], e⟩
    by_cases h : x.2 = l.2
    · rw [if_pos h] at hr
      rcases List.mem_append.mp hr with hr | hr
      · exact lift (by simp [hr])
      · simp at hr
        exact ⟨l, by simp, by rw [hr]⟩
    · rw [if_neg h] at hr
      rcases List.mem_append.mp hr with hr | hr
      · exact lift hr
      · simp at hr
        exact ⟨l, by simp, by rw [hr]⟩
theorem one_pos : ∀ rs : Rw, Pos rs → Pos (one rs) := by
  refine snoc_ind (fun h => h) fun b l ih h => ?_
  have hb := ih fun r hr => h r (by simp [hr])
  have hl := h l (by simp)
  rw [one_snoc]
  rcases rw_cases (one b) with e | ⟨a, x, e⟩
  · rw [e, stepM_nil]; intro r hr; simp at hr; rw [hr]; exact hl
  · rw [e, stepM_snoc]
    rw [e] at hb
    have hx := hb x (by simp)
    by_cases hc : x.2 = l.2
    · rw [if_pos hc]
      intro r hr
      rcases List.mem_append.mp hr with hr | hr
      · exact hb r (by simp [hr])
      · simp at hr; rw [hr]; show 1 ≤ l.1 + x.1; omega
    · rw [if_neg hc]
      intro r hr
      rcases List.mem_append.mp hr with hr | hr
      · exact hb r hr
      · simp at hr; rw [hr]; exact hl
theorem one_incr : ∀ rs : Rw, Ok rs → Inc (one rs) := by
  refine snoc_ind (fun _ => by simp [one_nil, Inc]) fun b l ih h => ?_
  have hb := ih (ok_front h)
  have hl := ((ok_snoc (m := l.1) (c := l.2) (ok_front h)).mp h).2
  rw [one_snoc]
  rcases rw_cases (one b) with e | ⟨a, x, e⟩
  · rw [e, stepM_nil]; simp [Inc]
  · have hx := hl x a e
    rw [e, stepM_snoc]
    rw [e] at hb
    obtain ⟨ha, _, hax⟩ := List.pairwise_append.mp hb
    by_cases hc : x.2 = l.2
    · rw [if_pos hc]
      refine List.pairwise_append.mpr ⟨ha, by simp, fun r hr t ht => ?_⟩
      simp at ht
      rw [ht]
      show r.2 < l.2
      rw [← hc]
      exact hax r hr x (by simp)
    · rw [if_neg hc]
      refine List.pairwise_append.mpr ⟨hb, by simp, fun r hr t ht => ?_⟩
      simp at ht
      rw [ht]
      rcases List.mem_append.mp hr with hr | hr
      · have := hax r hr x (by simp); omega
      · simp at hr; rw [hr]; omega
/-- a drawn mill's stretches: rising costs, pieces there are, within bounds -/
structure Good (rs : Rw) : Prop where
  pos : Pos rs
  inc : Inc rs
  bnd : Bnd rs
theorem Good.ok {rs : Rw} (h : Good rs) : Ok rs := ⟨h.pos, h.inc.nonDec⟩
theorem Good.one {rs : Rw} (h : Good rs) : one rs = rs := one_inc h.inc
theorem drawn_tot : ∀ rs : Rw, Drawn rs → 0 ≤ tot rs ∧ tot rs ≤ rs.length * 10 ^ 38
  | [], _ => by simp [tot_nil]
  | r :: rs, h => by
    have ih := drawn_tot rs fun x hx => h x (by simp [hx])
    have hr := h r (by simp)
    rw [tot_cons, List.length_cons]
    omega
theorem good_one {rs : Rw} (ok : Ok rs) (d : Drawn rs) (hz : rs.length ≤ 1000) : Good (one rs) := by
  refine ⟨one_pos rs ok.1, one_incr rs ok, fun r hr => ?_, ?_⟩
  · obtain ⟨t, ht, e⟩ := one_mem rs r hr
    have := (d t ht).2.2
    rw [e] at this
    omega
  · rw [one_tot]
    have := (drawn_tot rs d).2
    omega
theorem tot_nonneg : ∀ {rs : Rw}, Pos rs → 0 ≤ tot rs
  | [], _ => by simp [tot_nil]
  | r :: rs, h => by
    have ih := tot_nonneg (rs := rs) fun x hx => h x (by simp [hx])
    have hr := h r (by simp)
    rw [tot_cons]
    omega
/-! ### mills -/
def millFs (b s : Int) (l : Addr) : List (Str × V) := putF "size" (.int s) (putF "stretches" (.ref l) (putF "base" (.int b) []))
theorem ne_bs : ¬ ("base" : Str) = "stretches" := by decide +kernel
theorem ne_bz : ¬ ("base" : Str) = "size" := by decide +kernel
theorem ne_sz : ¬ ("stretches" : Str) = "size" := by decide +kernel
theorem millFs_base (b s : Int) (l : Addr) : (millFs b s l).lookup ("base" : Str) = some (.int b) := by
  unfold millFs
  rw [lookup_putF, if_neg ne_bz, lookup_putF, if_neg ne_bs, lookup_putF, if_pos rfl]
theorem millFs_str (b s : Int) (l : Addr) : (millFs b s l).lookup ("stretches" : Str) = some (.ref l) := by
  unfold millFs
  rw [lookup_putF, if_neg ne_sz, lookup_putF, if_pos rfl]
theorem millFs_size (b s : Int) (l : Addr) : (millFs b s l).lookup ("size" : Str) = some (.int s) := by
  unfold millFs
  rw [lookup_putF, if_pos rfl]
theorem millFs_no (b s : Int) (l : Addr) {m : Str} (h1 : ¬ m = "base") (h2 : ¬ m = "stretches") (h3 : ¬ m = "size") : (millFs b s l).lookup m = none := by
  unfold millFs
  rw [lookup_putF, if_neg h3, lookup_putF, if_neg h2, lookup_putF, if_neg h1]
  rfl
/-- what the class says of fields -/
structure MillC (K : PySem.W.Frag) (C : Addr) : Prop where
  cl : Cls K C
  nb : NoAttr K C "base"
  ns : NoAttr K C "stretches"
  nz : NoAttr K C "size"
/-- a mill of this base and these stretches at x -/
def MillAt (C : Addr) (H : Hp) (x : Addr) (b : Int) (rs : Rw) : Prop := ∃ dx l, H x = some (.ins C dx (millFs b (tot rs) l)) ∧ RowsAt H l rs
theorem MillAt.same {C : Addr} {H H' : Hp} {x : Addr} {b : Int} {rs : Rw} (h : MillAt C H x b rs) (s : Same H H') : MillAt C H' x b rs := by
  obtain ⟨dx, l, e, r⟩ := h
  exact ⟨dx, l, s _ _ e, r.same s⟩
def rFld (K : PySem.W.Frag) (f : Str) (x : V) (H : Hp) (Q : VK) : Prop := ∃ a C dx fs v, x = .ref a ∧ H a = some (.ins C dx fs) ∧ Cls K C ∧ NoAttr K C f ∧ fs.lookup f = some v ∧ Q v H
section
variable {K : PySem.W.Frag} {C : Addr} {H : Hp} {x : Addr} {b : Int} {rs : Rw} {Q : VK} {σ : L2.St} {ta : TE}
theorem w_fld {f : Str} : tFld K ta f σ H Q = ta σ H fun x H1 => rFld K f x H1 Q := rfl
theorem fld_base (h : MillAt C H x b rs) (c : MillC K C) (q : Q (.int b) H) : rFld K "base" (.ref x) H Q := by
  obtain ⟨dx, l, e, r⟩ := h
  exact ⟨x, C, dx, _, _, rfl, e, c.cl, c.nb, millFs_base _ _ _, q⟩
theorem fld_size (h : MillAt C H x b rs) (c : MillC K C) (q : Q (.int (tot rs)) H) : rFld K "size" (.ref x) H Q := by
  obtain ⟨dx, l, e, r⟩ := h
  exact ⟨x, C, dx, _, _, rfl, e, c.cl, c.nz, millFs_size _ _ _, q⟩
theorem fld_str (h : MillAt C H x b rs) (c : MillC K C) (q : ∀ l, RowsAt H l rs → Q (.ref l) H) : rFld K "stretches" (.ref x) H Q := by
  obtain ⟨dx, l, e, r⟩ := h
  exact ⟨x, C, dx, _, _, rfl, e, c.cl, c.ns, millFs_str _ _ _, q l r⟩
theorem MillAt.rows (h : MillAt C H x b rs) (c : MillC K C) : ∃ l, RowsAt H l rs ∧ ∀ Q : VK, Q (.ref l) H → rFld K "stretches" (.ref x) H Q := by
  obtain ⟨dx, l, e, r⟩ := h
  exact ⟨l, r, fun Q q => ⟨x, C, dx, _, _, rfl, e, c.cl, c.ns, millFs_str _ _ _, q⟩⟩
theorem MillAt.self (h : MillAt C H x b rs) (m : Str) (h1 : ¬ m = "base") (h2 : ¬ m = "stretches") (h3 : ¬ m = "size") : ∃ dx fs, H x = some (.ins C dx fs) ∧ fs.lookup m = none := by
  obtain ⟨dx, l, e, r⟩ := h
  exact ⟨dx, _, e, millFs_no _ _ _ h1 h2 h3⟩
def rMake (C : Addr) (sp : Sp) (E : XK) (vs : List V) (H1 : Hp) (Q : VK) : Prop := ∀ x dx, H1 x = none → H1 dx = none → dx ≠ x → sp (.ref x :: vs) (upd (upd H1 dx (.own x)) x (.ins C dx [])) (fun v H2 => v = .non ∧ Q (.ref x) H2) E
theorem w_make {sp : Sp} {E : XK} {t : TA} : tMake C sp [] E t σ H Q = t σ H fun vs H1 => rMake C sp E vs H1 Q := by
  unfold tMake rMake
  simp only [List.append_nil]
theorem w_meth {m : Str} {sp : Sp} {E : XK} {t : TA} : tMeth C m sp [] E ta t σ H Q = ta σ H fun x H1 => ∃ a dx fs, x = .ref a ∧ H1 a = some (.ins C dx fs) ∧ fs.lookup m = none ∧ t σ H1 fun vs H2 => sp (x :: vs) H2 Q E := by
  unfold tMeth
  simp only [List.append_nil]
theorem w_sfld {D : Ends} {tv : TE} {f : Str} : sFld K ta tv f D σ H = tv σ H fun y H1 => ta σ H1 fun x H2 => ∃ a C dx fs, x = .ref a ∧ H2 a = some (.ins C dx fs) ∧ Cls K C ∧ NoAttr K C f ∧ fs.length < 1000 ∧ D.nx σ (upd H2 a (.ins C dx (putF f y fs))) := rfl
theorem sum_ints {a : Addr} {ns : List Int} (h : H a = some (.lst (ns.map V.int))) (q : Q (.int ns.sum) H) : rSum K [.ref a] H Q := ⟨a, ns, rfl, SqL.of h, q⟩
end
/-- behind a new instance: all else stays -/
theorem same_new {H : Hp} {x dx C : Addr} (nx : H x = none) (nd : H dx = none) {H' : Hp} (k : ∀ y o, (upd (upd H dx (.own x)) x (.ins C dx [])) y = some o → y ≠ x → H' y = some o) : Same H H' := fun b o e =>
  k b o (by rw [upd_ne (ne_of_none e nx), upd_ne (ne_of_none e nd)]; exact e) (ne_of_none e nx)
theorem putF_len (f : Str) (v : V) : ∀ fs : List (Str × V), (putF f v fs).length ≤ fs.length + 1
  | [] => by simp [putF]
  | (g, x) :: r => by
    have ih := putF_len f v r
    show (if g = f then (g, v) :: r else (g, x) :: putF f v r).length ≤ r.length + 1 + 1
    by_cases h : g = f
    · rw [if_pos h]; simp
    · rw [if_neg h]; simp; omega
theorem len1 (f : Str) (v : V) : (putF f v []).length < 1000 := Nat.lt_of_le_of_lt (putF_len f v []) (by decide)
theorem len2 (f g : Str) (v u : V) : (putF f v (putF g u [])).length < 1000 := Nat.lt_of_le_of_lt (putF_len f v _) (by have := putF_len g u []; simp at this; omega)
/-- a mill whose list of stretches was not there in N -/
def MillAtF (C : Addr) (N H : Hp) (x : Addr) (b : Int) (rs : Rw) : Prop := ∃ dx l, H x = some (.ins C dx (millFs b (tot rs) l)) ∧ RowsAt H l rs ∧ N l = none
theorem MillAtF.at_ {C : Addr} {N H : Hp} {x : Addr} {b : Int} {rs : Rw} (h : MillAtF C N H x b rs) : MillAt C H x b rs := by
  obtain ⟨dx, l, e, r, _⟩ := h
  exact ⟨dx, l, e, r⟩
theorem MillAtF.same {C : Addr} {N H H' : Hp} {x : Addr} {b : Int} {rs : Rw} (h : MillAtF C N H x b rs) (s : Same H H') : MillAtF C N H' x b rs := by
  obtain ⟨dx, l, e, r, n⟩ := h
  exact ⟨dx, l, s _ _ e, r.same s, n⟩
theorem MillAtF.older {C : Addr} {N N' H : Hp} {x : Addr} {b : Int} {rs : Rw} (h : MillAtF C N H x b rs) (s : Same N' N) : MillAtF C N' H x b rs := by
  obtain ⟨dx, l, e, r, n⟩ := h
  exact ⟨dx, l, e, r, s.free n⟩
/-- a list that was there before the mill may change -/
theorem MillAtF.updL {C : Addr} {N H : Hp} {x a : Addr} {b : Int} {rs : Rw} {o : HO} {xs ys : List V} (h : MillAtF C N H x b rs) (hn : N a = some o) (ha : H a = some (.lst xs)) : MillAtF C N (upd H a (.lst ys)) x b rs := by
  obtain ⟨dx, l, e, r, n⟩ := h
  obtain ⟨ps, e2, hp, z⟩ := r
  refine ⟨dx, l, by rw [upd_ne (ne_of e ha (by intro q; cases q))]; exact e, ⟨ps, ?_, hp.updL ha, z⟩, n⟩
  rw [upd_ne fun q => by rw [q, hn] at n; cases n]
  exact e2
/-! ### what pieces cost -/
def costOf (b : Int) : Rw → Int → Int
  | [], _ => b
  | r :: rs, n => costOf (b + min r.1 n * r.2) rs (n - min r.1 n)
def cst : Rw → Int → Int
  | [], _ => 0
  | r :: rs, n => min r.1 n * r.2 + cst rs (n - min r.1 n)
def pcs : Rw → Int → Int
  | [], _ => 0
  | r :: rs, n => if n ≤ r.1 then r.2 else pcs rs (n - r.1)
theorem costOf_eq : ∀ (rs : Rw) (b n : Int), costOf b rs n = b + cst rs n
  | [], b, n => by simp [costOf, cst]
  | r :: rs, b, n => by
    rw [costOf, cst, costOf_eq rs]
    omega
theorem cst_zero : ∀ {rs : Rw}, Pos rs → cst rs 0 = 0
  | [], _ => rfl
  | r :: rs, h => by
    have hr := h r (by simp)
    have e : min r.1 0 = 0 := by omega
    rw [cst, e, Int.zero_mul, Int.sub_zero, cst_zero fun x hx => h x (by simp [hx])]
    rfl
theorem Pos.tail {r : Int × Int} {rs : Rw} (h : Pos (r :: rs)) : Pos rs := fun x hx => h x (by simp [hx])
theorem Inc.tail {r : Int × Int} {rs : Rw} (h : Inc (r :: rs)) : Inc rs := (List.pairwise_cons.mp h).2
theorem Inc.head {r : Int × Int} {rs : Rw} (h : Inc (r :: rs)) : ∀ t ∈ rs, r.2 < t.2 := (List.pairwise_cons.mp h).1
theorem cst_le {r : Int × Int} {rs : Rw} {n : Int} (h : Pos (r :: rs)) (hn : n ≤ r.1) : cst (r :: rs) n = n * r.2 := by
  have e : min r.1 n = n := by omega
  rw [cst, e, Int.sub_self, cst_zero h.tail]; omega
theorem cst_gt {r : Int × Int} {rs : Rw} {n : Int} (hn : r.1 ≤ n) : cst (r :: rs) n = r.1 * r.2 + cst rs (n - r.1) := by
  have e : min r.1 n = r.1 := by omega
  rw [cst, e]
/-- a piece costs what one more piece makes dearer -/
theorem cst_step : ∀ {rs : Rw} {n : Int}, Pos rs → 1 ≤ n → n ≤ tot rs → cst rs n - cst rs (n - 1) = pcs rs n
  | [], n, _, h1, h2 => by rw [tot_nil] at h2; omega
  | r :: rs, n, h, h1, h2 => by
    rw [tot_cons] at h2
    rw [pcs]
    by_cases hn : n ≤ r.1
    · rw [if_pos hn, cst_le h hn, cst_le h (by omega), Int.sub_mul]; omega
    · rw [if_neg hn, cst_gt (by omega), cst_gt (by omega)]
      have ih := cst_step (rs := rs) (n := n - r.1) h.tail (by omega) (by omega)
      rw [show n - r.1 - 1 = n - 1 - r.1 by omega] at ih
      omega
/-- the most that a price brings -/
def gn (p : Int) : Rw → Int
  | [] => 0
  | r :: rs => (if r.2 < p then r.1 * (p - r.2) else 0) + gn p rs
theorem few_cons (p : Int) (r : Int × Int) (rs : Rw) : few p (r :: rs) = (if r.2 < p then r.1 else 0) + few p rs := by
  unfold few
  by_cases h : r.2 < p
  · rw [List.filter_cons_of_pos (by simp [h]), tot_cons, if_pos h]
  · rw [List.filter_cons_of_neg (by simp [h]), if_neg h]; omega
theorem most_cons (p : Int) (r : Int × Int) (rs : Rw) : most p (r :: rs) = (if r.2 ≤ p then r.1 else 0) + most p rs := by
  unfold most
  by_cases h : r.2 ≤ p
  · rw [List.filter_cons_of_pos (by simp [h]), tot_cons, if_pos h]
  · rw [List.filter_cons_of_neg (by simp [h]), if_neg h]; omega
theorem few_none {p : Int} : ∀ {rs : Rw}, (∀ t ∈ rs, p ≤ t.2) → few p rs = 0
  | [], _ => rfl
  | r :: rs, h => by rw [few_cons, if_neg (by have := h r (by simp); omega), few_none fun t ht => h t (by simp [ht])]; rfl
theorem most_none {p : Int} : ∀ {rs : Rw}, (∀ t ∈ rs, p < t.2) → most p rs = 0
  | [], _ => rfl
  | r :: rs, h => by rw [most_cons, if_neg (by have := h r (by simp); omega), most_none fun t ht => h t (by simp [ht])]; rfl
theorem gn_none {p : Int} : ∀ {rs : Rw}, (∀ t ∈ rs, p ≤ t.2) → gn p rs = 0
  | [], _ => rfl
  | r :: rs, h => by rw [gn, if_neg (by have := h r (by simp); omega), gn_none fun t ht => h t (by simp [ht])]; rfl
theorem few_nonneg (p : Int) : ∀ {rs : Rw}, Pos rs → 0 ≤ few p rs
  | [], _ => Int.le_refl _
  | r :: rs, h => by
    have ih := few_nonneg p h.tail
    have hr := h r (by simp)
    rw [few_cons]; split <;> omega
theorem few_most (p : Int) : ∀ {rs : Rw}, Pos rs → few p rs ≤ most p rs
  | [], _ => Int.le_refl _
  | r :: rs, h => by
    have ih := few_most p h.tail
    have hr := h r (by simp)
    rw [few_cons, most_cons]
    by_cases h1 : r.2 < p
    · rw [if_pos h1, if_pos (by omega)]; omega
    · rw [if_neg h1]; split <;> omega
theorem most_tot (p : Int) : ∀ {rs : Rw}, Pos rs → most p rs ≤ tot rs
  | [], _ => Int.le_refl _
  | r :: rs, h => by
    have ih := most_tot p h.tail
    have hr := h r (by simp)
    rw [most_cons, tot_cons]; split <;> omega
/-- THE LAW OF PRICES: a price brings at most its gain, and just that from the fewest to the most -/
theorem price_law (p : Int) : ∀ {rs : Rw} {n : Int}, Pos rs → Inc rs → 0 ≤ n → n ≤ tot rs → p * n - cst rs n ≤ gn p rs ∧ (p * n - cst rs n = gn p rs ↔ few p rs ≤ n ∧ n ≤ most p rs)
  | [], n, _, _, h0, h1 => by
    rw [tot_nil] at h1
    have e : n = 0 := by omega
    subst e
    simp [cst, gn, few, most, tot]
  | r :: rs, n, hp, hi, h0, h1 => by
    have hr := hp r (by simp)
    rw [tot_cons] at h1
    rw [gn, few_cons, most_cons]
    by_cases hn : n ≤ r.1
    · rw [cst_le hp hn]
      have ev : p * n - n * r.2 = n * (p - r.2) := by rw [Int.mul_sub, Int.mul_comm p n]
      rw [ev]
      by_cases hc : r.2 < p
      · rw [if_pos hc, if_pos hc, if_pos (by omega)]
        obtain ⟨a, b⟩ := price_law p (rs := rs) (n := 0) hp.tail hi.tail (by omega) (tot_nonneg hp.tail)
        rw [cst_zero hp.tail] at a b
        have f0 := few_nonneg p hp.tail
        have fm := few_most p hp.tail
        have h3 : n * (p - r.2) ≤ r.1 * (p - r.2) := Int.mul_le_mul_of_nonneg_right hn (by omega)
        refine ⟨by omega, fun h => ?_, fun ⟨h, _⟩ => ?_⟩
        · have e1 : n * (p - r.2) = r.1 * (p - r.2) := by omega
          have e2 : n = r.1 := Int.eq_of_mul_eq_mul_right (by omega) e1
          have e3 : gn p rs = 0 := by omega
          have := b.mp (by omega)
          omega
        · have e2 : n = r.1 := by omega
          have : gn p rs = 0 := by
            have := b.mpr ⟨by omega, by omega⟩
            omega
          rw [e2]; omega
      · have hl : ∀ t ∈ rs, p ≤ t.2 := fun t ht => by have := hi.head t ht; omega
        rw [if_neg hc, if_neg hc, gn_none hl, few_none hl]
        by_cases he : r.2 ≤ p
        · have e : p - r.2 = 0 := by omega
          rw [if_pos he, most_none fun t ht => by have := hi.head t ht; omega, e]
          omega
        · rw [if_neg he, most_none fun t ht => by have := hi.head t ht; omega]
          have h3 : n * (p - r.2) ≤ n * (-1) := Int.mul_le_mul_of_nonneg_left (by omega) h0
          refine ⟨by omega, fun h => by omega, fun h => ?_⟩
          have : n = 0 := by omega
          rw [this]; omega
    · rw [cst_gt (by omega)]
      obtain ⟨a, b⟩ := price_law p (rs := rs) (n := n - r.1) hp.tail hi.tail (by omega) (by omega)
      have ev : p * n - (r.1 * r.2 + cst rs (n - r.1)) = r.1 * (p - r.2) + (p * (n - r.1) - cst rs (n - r.1)) := by
        rw [Int.mul_sub, Int.mul_sub, Int.mul_comm p r.1]; omega
      rw [ev]
      by_cases hc : r.2 < p
      · rw [if_pos hc, if_pos hc, if_pos (by omega)]
        refine ⟨by omega, fun h => ?_, fun h => ?_⟩
        · have := b.mp (by omega); omega
        · have := b.mpr (by omega); omega
      · have hl : ∀ t ∈ rs, p ≤ t.2 := fun t ht => by have := hi.head t ht; omega
        have hm : most p rs = 0 := most_none fun t ht => by have := hi.head t ht; omega
        rw [gn_none hl, few_none hl, hm] at b
        rw [gn_none hl] at a
        have h3 : r.1 * (p - r.2) ≤ 0 := Int.mul_nonpos_of_nonneg_of_nonpos (by omega) (by omega)
        have hs : p * (n - r.1) - cst rs (n - r.1) ≠ 0 := fun h => by have := b.mp h; omega
        rw [if_neg hc, if_neg hc, gn_none hl, few_none hl, hm]
        refine ⟨by omega, fun h => by omega, fun h => ?_⟩
        split at h <;> omega
/-- a piece's price: fewer cost less, as many cost no more -/
theorem pcs_few : ∀ {rs : Rw} {n : Int}, Pos rs → Inc rs → 1 ≤ n → n ≤ tot rs → few (pcs rs n) rs < n ∧ n ≤ most (pcs rs n) rs ∧ ∃ r ∈ rs, r.2 = pcs rs n
  | [], n, _, _, h0, h1 => by rw [tot_nil] at h1; omega
  | r :: rs, n, hp, hi, h0, h1 => by
    have hr := hp r (by simp)
    rw [tot_cons] at h1
    rw [pcs, few_cons, most_cons]
    by_cases hn : n ≤ r.1
    · rw [if_pos hn, if_neg (by omega), if_pos (Int.le_refl _), few_none fun t ht => by have := hi.head t ht; omega]
      have h2 := few_most r.2 hp.tail
      have h3 := few_nonneg r.2 hp.tail
      exact ⟨by omega, by omega, r, by simp, rfl⟩
    · obtain ⟨a, b, t, ht, e⟩ := pcs_few (rs := rs) (n := n - r.1) hp.tail hi.tail (by omega) (by omega)
      have := hi.head t ht
      rw [if_neg hn, if_pos (by omega), if_pos (by omega)]
      exact ⟨by omega, by omega, t, by simp [ht], e⟩
/-! ### bounds -/
theorem n200 {i : Int} (h : i.natAbs < 10 ^ 62) : i.natAbs < 2 ^ 210 := Nat.lt_of_lt_of_le h (by decide)
theorem mulW {i j : Int} (h : i.natAbs < 10 ^ 62) (h2 : j.natAbs < 10 ^ 62) : CMulW i j := wide_mul (n200 h) (n200 h2) (by decide) (by decide) (by decide)
/-! ### sums over rows; pairs taken apart -/
section
variable {K : PySem.W.Frag} {a : Addr} {rs : Rw} {i j : Nat} {σ : L2.St} {H : Hp} {tt : TT} {te : TE} {vs : List Nat} {Q : VK}
theorem sum_all (hr : RowsAt H a rs) (q : ∀ H' : Hp, Same H H' → Q (.int (tot rs)) H')
    (hw : ∀ r : Int × Int, wipe (((wipe σ vs).set i (some (.int r.1))).set j (some (.int r.2))) vs = wipe σ vs := by intro r; rfl)
    (he : ∀ (r : Int × Int) (H' : Hp) (R : VK), R (.int r.1) H' → te (((wipe σ vs).set i (some (.int r.1))).set j (some (.int r.2))) H' R := by intro r H' R h; exact ⟨_, rfl, h⟩) :
    rLcL K a (gTup K 2 (gCons (gName i) (gCons (gName j) gNil))) tYes te vs σ H (fun x H1 => rSum K [x] H1 Q) :=
  lc_rowsI hr (fun _ => true) (·.1) hw (fun r H' R _ h => h) (fun r H' R _ _ _ h => he r H' R h) fun D nD => by
    rw [fil_all]
    exact sum_ints upd_same (q _ (same_upd nD))
theorem sum_fil (hr : RowsAt H a rs) (p : Int × Int → Bool) (q : ∀ H' : Hp, Same H H' → Q (.int (tot (rs.filter p))) H')
    (ht : ∀ (r : Int × Int) (H' : Hp) (R : Bool → Hp → Prop), R (p r) H' → tt (((wipe σ vs).set i (some (.int r.1))).set j (some (.int r.2))) H' R := by intro r H' R h; exact ⟨_, rfl, _, rfl, _, _, rfl, rfl, _, rfl, h⟩)
    (hw : ∀ r : Int × Int, wipe (((wipe σ vs).set i (some (.int r.1))).set j (some (.int r.2))) vs = wipe σ vs := by intro r; rfl)
    (he : ∀ (r : Int × Int) (H' : Hp) (R : VK), R (.int r.1) H' → te (((wipe σ vs).set i (some (.int r.1))).set j (some (.int r.2))) H' R := by intro r H' R h; exact ⟨_, rfl, h⟩) :
    rLcL K a (gTup K 2 (gCons (gName i) (gCons (gName j) gNil))) tt te vs σ H (fun x H1 => rSum K [x] H1 Q) :=
  lc_rowsI hr p (·.1) hw (fun r H' R _ h => ht r H' R h) (fun r H' R _ _ _ h => he r H' R h) fun D nD => sum_ints upd_same (q _ (same_upd nD))
theorem asg_pair {n : Nat} {t : Addr} {x y : V} {QS : L2.St → Hp → Prop} (h : H t = some (.tup [x, y])) (hn : n = 2) (q : QS ((σ.set i (some x)).set j (some y)) H) : gTup K n (gCons (gName i) (gCons (gName j) gNil)) (.ref t) σ H QS := by
  subst hn
  exact ⟨t, [x, y], rfl, SqT.of h, rfl, _, _, rfl, _, _, rfl, rfl, q⟩
end
theorem tot_take : ∀ {rs : Rw} (k : Nat), Pos rs → 0 ≤ tot (rs.take k) ∧ tot (rs.take k) ≤ tot rs
  | [], k, _ => by simp [tot_nil]
  | r :: rs, 0, h => by
    have := tot_nonneg h
    simp [tot_nil]; exact this
  | r :: rs, k + 1, h => by
    have ih := tot_take (rs := rs) k h.tail
    have hr := h r (by simp)
    rw [List.take_succ_cons, tot_cons, tot_cons]; omega
/-! ### exceptions that are kept -/
/-- an exception of the class cls, caught and kept, at a -/
def EXO (cls : Value) (a : Addr) : HO := .ext fun h => ∃ (oe : Obj) (vs : Array Value), h.get? a = some oe ∧ Zc cls none oe ∧ oe.data = .fields vs
section
variable {X : Cx} {pins : List (Addr × Obj)} {σ : L2.St} {H : Hp} {s : Shared}
theorem exo_ok {P : Program} {w : World} {h : Heap} {a : Addr} {cls : Value} {oe : Obj} {vs : Array Value} (e : h.get? a = some oe) (z : Zc cls none oe) (d : oe.data = .fields vs) : ObjOk P w H h a (EXO cls a) :=
  ⟨⟨oe, vs, e, z, d⟩, ⟨oe, e⟩, fun _ _ ⟨o, v, q, r⟩ k => ⟨o, v, k o q, r⟩⟩
/-- what is pinned may be tracked -/
theorem inv_track {a : Addr} {oe : Obj} {vs : Array Value} {cls : Value} (I : Inv X ((a, oe) :: pins) σ H s) (z : Zc cls none oe) (d : oe.data = .fields vs) (h0 : X.s_0.heap.get? a = none) (hp : ∀ p ∈ X.pn ++ pins, p.1 ≠ a) : Inv X pins σ (upd H a (EXO cls a)) s := by
  obtain ⟨ha, na, nL, nF, _⟩ := I.pin (a, oe) (List.mem_append_right _ List.mem_cons_self)
  have n0 : ∀ b o, X.s_0.heap.get? b = some o → b ≠ a := fun b o e z => by rw [z, h0] at e; cases e
  refine ⟨I.ok, I.os, I.bare, ⟨I.base.keep, I.base.slot, fun b o e n hx => ?_, I.base.there, fun b xs q => ?_, fun b o u q => ?_, fun b ps q => ?_⟩, I.loc, I.cell, ?_, fun x c e => ?_, fun p hp' => ?_, fun b o e => ?_, I.len⟩
  · rw [upd_ne (n0 b o e)]
    exact I.base.free b o e n hx
  · have := I.base.tups b xs q
    rw [upd_ne (ne_of_none this na)]
    exact this
  · have := I.base.frzs b o u q
    rw [upd_ne (ne_of_none this na)]
    exact this
  · obtain ⟨m, e⟩ := I.base.tbls b ps q
    exact ⟨m, by rw [upd_ne (ne_of_none e na)]; exact e⟩
  · rw [upd_ne (Ne.symm nL)]
    exact I.free
  · have : c ≠ a := fun q => by
      obtain ⟨v, hc⟩ := I.cell x c e
      obtain ⟨o, ho, hd⟩ : ∃ o, s.heap.get? c = some o ∧ ∃ v, o.data = .cell v := by
        have := hc
        unfold Heap.IsCell at this
        first
          | exact ⟨_, this, v, rfl⟩
          | (obtain ⟨o, h1, h2⟩ := this; exact ⟨o, h1, _, h2⟩)
      rw [q] at ho
      have e1 : some oe = some o := ha.symm.trans ho
      cases e1
      obtain ⟨v', hd⟩ := hd
      rw [d] at hd
      cases hd
    rw [upd_ne this]
    exact I.freeC x c e
  · obtain ⟨h1, h2, h3⟩ := I.pin p (by
      rcases List.mem_append.mp hp' with h | h
      · exact List.mem_append_left _ h
      · exact List.mem_append_right _ (List.mem_cons_of_mem _ h))
    refine ⟨h1, ?_, h3⟩
    rw [upd_ne (hp p hp')]
    exact h2
  · by_cases hb : b = a
    · subst hb
      rw [upd_same] at e
      cases e
      exact exo_ok ha z d
    · rw [upd_ne hb] at e
      exact (I.hok b o e).stay (fun c v _ q => q) (fun c q => by rw [upd_ne (ne_of_none q na)]; exact q) fun c xs q => by rw [upd_ne (ne_of_none q na)]; exact q
end
/-- what the clause 'except x as n' wishes where its suite keeps the exception -/
def wAsK (K : PySem.W.Frag) (c : Value) (i : Nat) (ts : Addr → Value → TS) (Wout : WX) (D : Ends) : WX := fun cls d σ H =>
  ∃ b, PySem.W.exmOne K cls c = some b ∧ (b = true → d = none ∧ ∀ a, H a = none → ts a cls { nx := fun σ' H' => H' a = none ∧ D.nx (σ'.set i none) (upd H' a (EXO cls a)), rt := fun _ _ => False } (σ.set i (some (.ref a))) H) ∧
    (b = false → Wout cls d σ H)
section
variable {X : Cx} {x n : Str} {c : Value} {i : Nat} {body suite : List Stmt} {b₀ : Stmt} {np pos pos' : PySem.Pos} {tb : WX → TS} {ts : Addr → Value → TS} {Wout : WX}
theorem ps_try_keep (hs : X.stack = X.env :: X.outer) (hf : X.env.frame = some X.env.locals) (hex : X.ex = []) (hN : X.N.Nodup) (hi : X.N[i]? = some n) (hln : X.env.kindOf n = some .local) (hc : Names X x c) (tk : Takes X Wout)
    (hb : ∀ (W : WX) (pn : List (Addr × Obj)) (xe : Value → Shared → Prop), Takes (X.tr pn xe) W → PassesOwn (model X.prog X.w) X.A X.env xe → PSs (X.tr pn xe) body (tb W))
    (hsu : ∀ (a : Addr) (oe : Obj) (cls : Value) (pn : List (Addr × Obj)), Zc cls none oe → (∃ vs, oe.data = .fields vs) → PSs (X.suite a ((a, oe) :: pn)) (b₀ :: suite) (ts a cls)) :
    PS X (.Try body [.ExceptHandler (some (.Name x np)) (some n) (b₀ :: suite) pos'] [] [] pos) (fun D σ H => tb (wAsK X.K c i ts Wout D) D σ H) := by
  refine ⟨fun pins s σ H D I h => ?_⟩
  have ok := I.ok
  have hfr : X.A.frames = some (X.env :: X.outer) := by rw [ok.frames, hs]
  have hloc : Loc X.env.scope n := .inl hln
  refine wpAny_Try_except ?_
  refine wpAny_mono ((hb (wAsK X.K c i ts Wout D) (X.pn ++ pins) (fun e s₁ => wpAny (model X.prog X.w) X.A (noteFrame e X.env) (fun _ s₂ => wpAny (model X.prog X.w) X.A (setFlight e none) (fun _ s₃ =>
    wpAny (model X.prog X.w) X.A (handleBy e X.env [.ExceptHandler (some (.Name x np)) (some n) (b₀ :: suite) pos']) (SP X pins D) X.xe s₃) X.xe s₂) X.xe s₁) (fun u s' xx => ?_) PassesOwn.looking).run [] s σ H D (I.toTry _) h) (fun f s1 hsp => ?_) (fun e s1 he => he)
  · -- the catch
    obtain ⟨a, B, sI, pins', σ', H', cls, d, rfl, J', nb, up, sky, na, os, ag, b, hb1, hyes, hno⟩ := xx
    have J : Inv X pins σ' H' sI := J'.ofTry ok
    have sky' : Sky B (X.env :: X.outer) a (Zc cls d) X.env.locals s'.heap := by rw [← hs]; exact sky
    show wpAny (model X.prog X.w) X.A (noteFrame (.ref a) X.env) _ _ _
    refine Sky.land Zc.steady hfr hf sky' fun h3 fl3 up3 => ?_
    have J3 : Inv X pins σ' H' { s' with heap := h3 } := J.landed nb fl3.1 (up.trans up3) os ag
    obtain ⟨oe3, vs3, he3, hz3, hd3⟩ := fl3.there
    have notFr : ∀ {h : Heap} {o : Obj} {vs : Array Value}, h.FunFrames B (X.env :: X.outer) → h.get? a = some o → o.data = .fields vs → a ∉ frs (X.env :: X.outer) := fun {h o vs} ff e dd hm => by
      obtain ⟨_, o', e', hnf⟩ := ff.mem hm
      rw [e] at e'; cases e'
      exact hnf _ dd
    have nfr := notFr fl3.2.2.1 he3 hd3
    have nL : a ≠ X.env.locals := fun z => nfr (List.mem_filterMap.mpr ⟨X.env, List.mem_cons_self, by rw [hf, z]⟩)
    have nF : a ∉ X.fs := fun hm => by
      obtain ⟨e, he, q⟩ := List.mem_filterMap.mp hm
      exact nfr (List.mem_filterMap.mpr ⟨e, List.mem_cons_of_mem _ he, q⟩)
    have nI : sI.heap.get? a = none := by
      cases q : sI.heap.get? a with
      | none => rfl
      | some o =>
        have := nb a o q (by rw [hs]; exact nfr)
        rw [fl3.2.1] at this
        cases this
    have n0 : X.s_0.heap.get? a = none := by
      cases q : X.s_0.heap.get? a with
      | none => rfl
      | some o =>
        obtain ⟨o', e'⟩ := J.base.there a o q (by rw [hex]; exact List.not_mem_nil)
        rw [nI] at e'
        cases e'
    have nP : ∀ p ∈ X.pn ++ pins, p.1 ≠ a := fun p hp z => by
      have := (J.pin p hp).1
      rw [z, nI] at this
      cases this
    have S3 := J3.suite he3 hd3 na nL nF
    refine wpAny_handleBy_cons (codeAny_handlers_test ?_) (by intro q; cases q)
    have LT : PySem.W.Looks (model X.prog X.w) h3 (typeOf (.ref a)) cls := fun A Q E s k q => wpAny_typeOf_ref (k _ _ he3) (by rw [hz3.1]; exact q)
    have LM := PySem.W.exm_one (M := model X.prog X.w) (J3.kIn) LT hb1
    have test : ∀ {Q : Value → Shared → Prop} {E : Value → Shared → Prop}, Q c { s' with heap := h3 } → wpAny (model X.prog X.w) (X.A.mark (some (.ref a))) (eval (.Name x np) X.env) Q E { s' with heap := h3 } := fun {Q E} q => by
      obtain ⟨hg, hdbg, hm | ⟨hm, hv, hnn⟩⟩ := hc
      · exact ld_glob (X := X.suite a ((a, oe3) :: (X.pn ++ pins))) S3 hg hm q hdbg
      · exact ld_blt (X := X.suite a ((a, oe3) :: (X.pn ++ pins))) S3 hg hm hv q hnn hdbg
    refine test (LM.here ?_)
    cases b with
    | true =>
      obtain ⟨hd0, hys⟩ := hyes rfl
      subst hd0
      refine codeAny_handlers_suite_as ?_
      refine HandSPX.lands_againZ fl3 fun h4 fl4 up4 => ?_
      have J4 : Inv X pins σ' H' { s' with heap := h4 } := J.landed nb fl4.1 ((up.trans up3).trans up4) os ag
      obtain ⟨oe4, vs4, he4, hz4, hd4⟩ := fl4.there
      have S4 := J4.suite he4 hd4 na nL nF
      refine store_ok (X := X.suite a ((a, oe4) :: (X.pn ++ pins))) (v := .ref a) S4 hN hi hloc rfl (fun s5 S5 => ?_) (.inr hln)
      refine wpAny_mono ((hsu a oe4 cls (X.pn ++ pins) hz4 ⟨_, hd4⟩).run [] s5 _ H' _ S5 (hys a na)) (fun f s6 hsp => ?_) (fun _ _ z => False.elim z)
      have unsu : ∀ {σ6 : L2.St} {H6 : Hp} {s6 : Shared}, Inv (X.suite a ((a, oe4) :: (X.pn ++ pins))) [] σ6 H6 s6 → Inv X ((a, oe4) :: pins) σ6 H6 s6 := fun {σ6 H6 s6} S6 =>
        ⟨ok, S6.os, S6.bare, S6.base, S6.loc, S6.cell, S6.free, S6.freeC, fun p hp => S6.pin p (List.mem_append_left _ (by
          rcases List.mem_append.mp hp with h | h
          · exact List.mem_cons_of_mem _ (List.mem_append_left _ h)
          · rcases List.mem_cons.mp h with h | h
            · rw [h]; exact List.mem_cons_self
            · exact List.mem_cons_of_mem _ (List.mem_append_right _ h))), S6.hok, S6.len⟩
      cases f with
      | next =>
        obtain ⟨σ6, H6, S6, n6, q6⟩ := hsp
        exact gone_ok (unsu S6) hN hi hln fun s7 J7 => ⟨_, _, inv_track J7 hz4 hd4 n0 nP, q6⟩
      | brk =>
        obtain ⟨σ6, H6, S6, q6⟩ := hsp
        exact False.elim q6
      | cont =>
        obtain ⟨σ6, H6, S6, q6⟩ := hsp
        exact False.elim q6
      | ret u =>
        obtain ⟨v6, σ6, H6, S6, r6, q6⟩ := hsp
        exact False.elim q6
    | false =>
      show wpAny _ X.A (handleBy (.ref a) X.env []) _ _ _
      refine wpAny_handleBy_nil ?_
      obtain ⟨k1, k2, k3, oe, vs, T, oT, ts', he, hz, hd, h1, hr⟩ := id fl3
      unfold PySem.passOn
      refine wpAny_bind (wpAny_field he hd h1 ?_)
      rw [if_neg (show ¬ ((Value.ref T == Value.none) = true) from by simp)]
      have fin : wpAny (model X.prog X.w) X.A (setFlight (.ref a) X.env.frame) (fun _ s4 => wpAny (model X.prog X.w) X.A (throw (.ref a) : Sem Flow) (SP X pins D) X.xe s4) X.xe { s' with heap := h3 } := by
        rw [hf]
        refine HandSPX.setFlight_upZ fl3 fun h4 hh4 up4 => wpAny_throw (tk _ _ ?_)
        exact ⟨a, B, sI, pins, σ', H', cls, d, rfl, J, nb, (up.trans up3).trans up4, .inr (.inr (by rw [hs]; exact hh4)), na, os, ag, hno rfl⟩
      first
        | exact wpAny_bind (wpAny_pure (wpAny_bind fin))
        | exact wpAny_bind fin
  · cases f with
    | next =>
      obtain ⟨σ', H', J', q⟩ := hsp
      exact wpAny_execs_nil ⟨σ', H', J'.ofTry ok, q⟩
    | brk =>
      obtain ⟨σ', H', J', q⟩ := hsp
      exact ⟨σ', H', J'.ofTry ok, q⟩
    | cont =>
      obtain ⟨σ', H', J', q⟩ := hsp
      exact ⟨σ', H', J'.ofTry ok, q⟩
    | ret u =>
      obtain ⟨v, σ', H', J', r, q⟩ := hsp
      exact ⟨v, σ', H', J'.ofTry ok, r, q⟩
end
/-! ### calls that may raise, in a try's body -/
section
variable {X : Cx} {CX : CXT} {k : Nat} {f C : Addr} {fd : FuncData} {ps : List Str} {sp : Sp} {E : L2.St → XK} {x m : Str} {p pos apos : PySem.Pos} {e o : Expr} {es : List Expr} {ta : TE} {t : TA}
def rMakeS (C : Addr) (sp : Sp) (E : XK) (vs : List V) (H1 : Hp) (Q : VK) : Prop := rMake C sp E vs H1 Q
def tMakeS (C : Addr) (sp : Sp) (E : L2.St → XK) (t : TA) : TE := fun σ H Q => t σ H fun vs H1 => rMake C sp (E σ) vs H1 Q
def tMethS (C : Addr) (m : Str) (sp : Sp) (E : L2.St → XK) (ta : TE) (t : TA) : TE := fun σ H Q => ta σ H fun x H1 => ∃ a dx fs, x = .ref a ∧ H1 a = some (.ins C dx fs) ∧ fs.lookup m = none ∧ t σ H1 fun vs H2 => sp (x :: vs) H2 Q (E σ)
theorem run_makeS {pins : List (Addr × Obj)} {σ : L2.St} {H : Hp} {s : Shared} {Q : VK} {us : List Value} {vs : List V} (M : Mk X.K C f) (F : FnOk X.prog X.w X.K X.mg X.base CX k f fd ps sp) (hr : Room (k + 1) X.A) (hb : Binds X.K fd ps [])
    (hx : PassesAt CX X σ (E σ)) (I : Inv X pins σ H s) (r : Vals vs us) (h : rMake C sp (E σ) vs H Q) :
    wpAny (model X.prog X.w) X.A (call (.ref C) us) (EP X pins σ Q) X.xe s := by
  have hq := h (s.heap.objs.size + 1) s.heap.objs.size (I.hok.fresh (Nat.le_succ _)) (I.hok.fresh (Nat.le_refl _)) (Nat.ne_of_lt (Nat.lt_succ_self _))
  have I2 := Inv.made (C := C) I
  have r2 : Vals (V.ref (s.heap.objs.size + 1) :: vs) (Value.ref (s.heap.objs.size + 1) :: us) := .cons rfl r
  have hl : (Value.ref (s.heap.objs.size + 1) :: us ++ []).length = ps.length := by
    have e := r2.length
    rw [F.len _ _ _ _ hq] at e
    rw [List.append_nil]
    exact e.symm
  have hb' := hb _ (Value.ref (s.heap.objs.size + 1) :: us) I2.kIn hl
  rw [List.append_nil] at hb'
  refine wpAny_call (make_map (f := f) I.kIn M.makes M.init (beq_iff_eq.mp M.fn) (codeAny_mono (F.run _ X.stack _ _ ⟨Value.ref (s.heap.objs.size + 1) :: us, []⟩ (Value.ref (s.heap.objs.size + 1) :: us) _ _ (E σ) (hr.make C us [])
    (I2.env0.make C us []) hb' r2 hq) fun r s' hq' => ?_))
  cases r with
  | error e => exact hx pins _ _ e s' I2 hq'
  | ok fl =>
    cases fl with
    | ret u =>
      obtain ⟨v, H', I3, rv, ev, q3⟩ := I2.after hq'
      subst ev
      exact ⟨rv, ⟨V.ref (s.heap.objs.size + 1), H', I3, rfl, q3⟩⟩
    | next => exact False.elim hq'
    | brk => exact False.elim hq'
    | cont => exact False.elim hq'
theorem pe_makeS (M : Mk X.K C f) (F : FnOk X.prog X.w X.K X.mg X.base CX k f fd ps sp) (hr : Room (k + 1) X.A) (hg : Gl X x) (hm : X.mg x = some (.ref C)) (hb : Binds X.K fd ps []) (hx : ∀ σ, PassesAt CX X σ (E σ))
    (ha : PA X (e :: es) t) (hdb : (x == ("__debug__" : Str)) = false := by decide) (he : starEach (e :: es) X.env = (false, eval e X.env) :: starEach es X.env := by rfl) (hpl : (backTo pos (starEach es X.env)).any (·.1) = false := by rfl) :
    PE X (.Call (.Name x p) (e :: es) [] pos) (tMakeS C sp E t) := by
  refine ⟨fun pins s σ H Q I h => ?_⟩
  refine wpAny_Call_Name_kw (ld_glob I hg hm ?_ hdb)
  refine PySem.W.callWith_K (h₀ := X.base) I.ok.mod.kin M.kp (thn (ha.run pos pins s σ H _ I h) fun us s1 ⟨vs, H1, I1, r, q⟩ => ⟨I1.kIn, ?_⟩) he hpl
  exact run_makeS M F hr hb (hx σ) I1 r q
theorem pe_methS {pl : Sem Bool} (he : PE X o ta) (c : Cls X.K C) (hm : Meth X.K C m f) (F : FnOk X.prog X.w X.K X.mg X.base CX k f fd ps sp) (hr : Room k X.A) (hb : Binds X.K fd ps []) (hx : ∀ σ, PassesAt CX X σ (E σ)) (ha : PA X (e :: es) t)
    (hst : starEach (e :: es) X.env = (false, eval e X.env) :: starEach es X.env := by rfl) (hpl : (backTo pos (starEach es X.env)).any (·.1) = false := by rfl)
    (ht : eval (.Call (.Attribute o m apos) (e :: es) [] pos) X.env = (do
      let ov ← eval o X.env
      standAt apos.atName
      let (f, first) ← holding [ov] (getMethod ov m pl)
      callWith pos f first (backTo pos (starEach (e :: es) X.env)) (backToKw pos (keywordEach [] X.env))) := by rfl) :
    PE X (.Call (.Attribute o m apos) (e :: es) [] pos) (tMethS C m sp E ta t) := by
  refine ⟨fun pins s σ H Q I h => ?_⟩
  refine PySem.W.methodCall_KW (pl := pl) (thn (he.run pins s σ H _ I h) fun u s1 ⟨x, H1, I1, rx, a, dx, fs, ex, ea, l, q⟩ => ?_) ht
  subst ex
  obtain rfl : u = Value.ref a := rx
  refine getmeth_ok I1 ea c hm l ?_
  refine PySem.W.callWith_K (first := [.ref a]) (h₀ := X.base) I.ok.mod.kin hm.kp (thn (ha.run pos pins s1 σ H1 _ I1 q) fun us s2 ⟨vs, H2, I2, r, q2⟩ => ⟨I2.kIn, ?_⟩) hst hpl
  exact run_fnS (us := .ref a :: us) (vs := .ref a :: vs) F hr hb (hx σ) I2 (.cons rfl r) q2
theorem w_makeS {σ : L2.St} {H : Hp} {Q : VK} : tMakeS C sp E t σ H Q = t σ H fun vs H1 => rMake C sp (E σ) vs H1 Q := rfl
theorem w_methS {σ : L2.St} {H : Hp} {Q : VK} : tMethS C m sp E ta t σ H Q = ta σ H fun x H1 => ∃ a dx fs, x = .ref a ∧ H1 a = some (.ins C dx fs) ∧ fs.lookup m = none ∧ t σ H1 fun vs H2 => sp (x :: vs) H2 Q (E σ) := rfl
theorem w_callS {σ : L2.St} {H : Hp} {Q : VK} : tCallS sp E t σ H Q = t σ H fun vs H1 => sp vs H1 Q (E σ) := rfl
end
/-! ### isinstance of a kept exception; count in a list of flat things -/
section
variable {X : Cx}
def rIsX (K : PySem.W.Frag) : List V → Hp → VK → Prop := fun xs H Q => ∃ (a D : Addr) (c : V) (cv : Value) (b : Bool), xs = [.ref a, c] ∧ H a = some (EXO (.ref D) a) ∧ ExcC K D ∧ ClsV c cv ∧ PySem.W.kitOne K (.ref D) cv = some b ∧ Q (.bl b) H
theorem call_isX : CallR X (.builtin "isinstance") (rIsX X.K) := by
  intro pins s σ H xs us Q I r h
  obtain ⟨a, D, c, cv, b, rfl, hH, C, hcv, e, q⟩ := h
  cases r with
  | cons rx rr =>
    cases rr with
    | cons rt rr =>
      cases rr
      cases rx
      have ec := hcv.eq rt
      subst ec
      obtain ⟨⟨oe, vs, hget, hz, hv⟩, _, _⟩ := (show ObjOk X.prog X.w H s.heap a (EXO (.ref D) a) from I.hok a _ hH)
      have J : PySem.W.InstAt s.heap a oe D none := by
        obtain ⟨oc, od, oda, osl⟩ := oe
        obtain ⟨h1, h2⟩ := hz
        dsimp only at h1 h2 hv
        subst h1 h2 hv
        exact ⟨hget, rfl, rfl, trivial⟩
      exact PySem.W.kia_one (PySem.W.handS_kitx_exc C.hg C.hk C.hs C.hd C.ha C.hn C.ht C.hm) I.kIn J e (fun z => nomatch z) fun tk => ⟨.bl b, H, I.kept (t' := tk) fun _ _ z => z, rfl, q⟩
theorem count_eqU {x : V} : ∀ {xs : List V} {us : List Value}, Vals xs us → xs.all flatV = true → us.countP (eqU x) = xs.countP fun y => eqV y x
  | _, _, .nil, _ => rfl
  | y :: xs, u :: us, .cons r t, f => by
    rw [List.all_cons, Bool.and_eq_true] at f
    rw [List.countP_cons, List.countP_cons, eqU_of r f.1, count_eqU t f.2]
def rCntV (K : PySem.W.Frag) : V → List V → Hp → VK → Prop := fun x xs H Q => ∃ (p : Addr) (ys : List V) (y : V), x = .ref p ∧ xs = [y] ∧ SqL K H p ys ∧ flatV y = true ∧ ys.all flatV = true ∧ Q (.int (ys.countP fun z => eqV z y : Nat)) H
theorem mt_countB : MtR X "list.count" (rCntV X.K) := by
  intro pins s σ H x xs v us Q I rx rxs h
  obtain ⟨p, ys, y, rfl, rfl, hs, fy, fys, q⟩ := h
  cases rx
  obtain ⟨u, rfl, ru⟩ := rxs.one
  obtain ⟨its, rv, ⟨⟨cls, dd, data, sl⟩, n, ho, hc, hdn, hd⟩, hlen⟩ := I.list hs
  simp only at hc hd
  subst hc hd
  refine call_meets PySem.F.slot_list_count ⟨_, ho, rfl⟩ PySem.F.entry_list_count (PySem.F.args_list_count_2 _ _)
    (SeqAt.list_countAt p its.toArray n dd sl u (eqU y)) ⟨ho, fun u' hu' => mem_eqAt ru fy rv fys u' (by simpa using hu'), ?_⟩
  refine ⟨.int (ys.countP fun z => eqV z y : Nat), H, I.tok _, ⟨s.toks, ?_⟩, q⟩
  show Value.int ((its.toArray.toList.countP (eqU y) : Nat) : Int) s.toks = _
  rw [show its.toArray.toList.countP (eqU y) = ys.countP fun z => eqV z y from count_eqU rv fys]
end
section
variable {K : PySem.W.Frag} {H : Hp} {a D C : Addr} {b : Bool} {Q : VK} {p : Addr} {ys : List V}
theorem isx (hE : H a = some (EXO (.ref D) a)) (xc : ExcC K D) (k : PySem.W.kitOne K (.ref D) (.ref C) = some b) (q : Q (.bl b) H) : rIsX K [.ref a, .ref C] H Q := ⟨a, D, .ref C, .ref C, b, rfl, hE, xc, .own C, k, q⟩
theorem isxT {n : String} (hE : H a = some (EXO (.ref D) a)) (xc : ExcC K D) (k : PySem.W.kitOne K (.ref D) (.type n) = some b) (q : Q (.bl b) H) : rIsX K [.ref a, .ty n] H Q := ⟨a, D, .ty n, .type n, b, rfl, hE, xc, .ty n, k, q⟩
theorem cnt_l {n : Nat} (h : SqL K H p ys) (f : ys.all flatV = true) (e : ys.countP (fun z => eqV z (.bl true)) = n) (q : Q (.int n) H) : rCntV K (.ref p) [.bl true] H Q := ⟨p, ys, .bl true, rfl, rfl, h, rfl, f, by rw [e]; exact q⟩
theorem ind_l (j : Nat) (h : SqL K H p ys) (f : ys.all flatV = true) (e : ys[j]? = some (.bl true)) (no : ∀ (m : Nat) (z' : V), m < j → ys[m]? = some z' → z' = .bl false) (q : Q (.int j) H) : rIndex K (.ref p) [.bl true] H Q :=
  ⟨p, ys, .bl true, j, .bl true, rfl, rfl, h, rfl, f, e, rfl, fun m z' h1 h2 => by rw [no m z' h1 h2]; rfl, q⟩
end
theorem ite_or {p q A B : Prop} [Decidable p] [Decidable q] : (if p then A else if q then A else B) = if p ∨ q then A else B := by
  by_cases hp : p
  · simp [hp]
  · by_cases hq : q
    · simp [hp, hq]
    · simp [hp, hq]
section
variable {H : Hp} {a b : Addr} {xs ys : Rw} {Q : VK} {t l : Addr} {r : Int × Int}
theorem cat_rows (h : RowsAt H a xs) (h' : RowsAt H b ys) (hz : xs.length + ys.length ≤ 10000) (q : ∀ (H' : Hp) (p : Addr), Same H H' → H p = none → RowsAt H' p (xs ++ ys) → Q (.ref p) H') : rCat (.ref a) (.ref b) H Q := by
  obtain ⟨ps, e, hp, z⟩ := h
  obtain ⟨qs, e', hq, z'⟩ := h'
  refine cat_l e e' (by rw [List.length_map, List.length_map, hp.len, hq.len]; omega) fun p np => ?_
  refine q _ p (same_upd np) np ⟨ps ++ qs, by rw [upd_same, List.map_append], (hp.same (same_upd np)).app (hq.same (same_upd np)), by rw [List.length_append]; exact hz⟩
theorem rows_one (h : PairAt H t r) (n : H l = none) : RowsAt (upd H l (.lst [V.ref t])) l [r] := ⟨[t], upd_same, .cons (h.same (same_upd n)) .nil, by simp⟩
end
theorem list_rows {K : PySem.W.Frag} {H : Hp} {a : Addr} {rs : Rw} {Q : VK} (h : RowsAt H a rs) (q : ∀ (H' : Hp) (l : Addr), Same H H' → H l = none → RowsAt H' l rs → Q (.ref l) H') : rListOf K [.ref a] H Q := by
  obtain ⟨ps, e, hp, z⟩ := h
  exact ⟨a, _, rfl, .inl (SqL.of e), fun l nl => q _ l (same_upd nl) nl ⟨ps, upd_same, hp.same (same_upd nl), z⟩⟩
theorem list_any {K : PySem.W.Frag} {H : Hp} {a : Addr} {xs : List V} {Q : VK} (h : SqL K H a xs) (q : ∀ l, H l = none → Q (.ref l) (upd H l (.lst xs))) : rListOf K [.ref a] H Q := ⟨a, _, rfl, .inl h, q⟩
theorem kit_t {K : PySem.W.Frag} {D : Addr} : PySem.W.kitOne K (.ref D) (.ref D) = some true := by
  unfold PySem.W.kitOne
  rw [if_pos (beq_self_eq_true _)]
theorem kit_f {K : PySem.W.Frag} {D C : Addr} {b : Bool} (hne : D ≠ C) (hd : PySem.W.hasDictIn K C = true) (ht : PySem.W.typeIn K (.ref C) = some (.type "type")) (hs : PySem.W.subIn K (.ref D) (.ref C) = some b) : PySem.W.kitOne K (.ref D) (.ref C) = some b := by
  unfold PySem.W.kitOne
  rw [if_neg fun h => hne (Value.ref.inj (beq_iff_eq.mp h))]
  obtain ⟨cd, hc, _⟩ := PySem.W.any_some hd
  have e : ((PySem.W.clsIn K C).isSome && PySem.W.typeIn K (.ref C) == some (.type "type")) = true := by rw [hc, ht]; rfl
  show (if ((PySem.W.clsIn K C).isSome && PySem.W.typeIn K (.ref C) == some (.type "type")) = true then PySem.W.subIn K (.ref D) (.ref C) else none) = some b
  rw [if_pos e]
  exact hs
theorem kit_v {K : PySem.W.Frag} {D : Addr} (hs : PySem.W.subIn K (.ref D) (.type "ValueError") = some true) : PySem.W.kitOne K (.ref D) (.type "ValueError") = some true := by
  unfold PySem.W.kitOne
  rw [if_neg fun h => by have := beq_iff_eq.mp h; cases this]
  show (if PySem.W.kitMeta "ValueError" = true then PySem.W.subIn K (.ref D) (.type "ValueError") else none) = some true
  rw [if_pos (by decide +kernel)]
  exact hs
/-! ### comprehensions over lists of anything -/
section
variable {K : PySem.W.Frag} {g : TG} {σ : L2.St} {H : Hp} {tt : TT} {te : TE} {vs : List Nat} {Q : VK} {i : Nat} {a : Addr} {xs : List V}
theorem w_yes {QT : Bool → Hp → Prop} : tYes σ H QT = QT true H := rfl
theorem lc_lstG (h : SqL K H a xs) (hz : xs.length ≤ 10000) (P : Addr → Nat → V → Hp → Prop) (hs : ∀ D k v H1 H2, P D k v H1 → Same H1 H2 → P D k v H2)
    (hu : ∀ D k v H1 ys zs, P D k v H1 → H1 D = some (.lst ys) → P D k v (upd H1 D (.lst zs)))
    (he : ∀ (D : Addr) (k : Nat) (x : V) (H' : Hp) (R : VK) (ys : List V), xs[k]? = some x → Same H H' → H' D = some (.lst ys) → (∀ (v : V) (H2 : Hp), Same H' H2 → P D k v H2 → R v H2) → g x (wipe σ vs) H' fun σ2 H2 => wipe σ2 vs = wipe σ vs ∧ te σ2 H2 R)
    (hq : ∀ (H' : Hp) (D : Addr) (ys : List V), Same H H' → H D = none → H' D = some (.lst ys) → ys.length = xs.length → (∀ k v, ys[k]? = some v → P D k v H') → Q (.ref D) H')
    (hg : ∀ x σ H' (R R' : L2.St → Hp → Prop), (∀ σ2 H2, R σ2 H2 → R' σ2 H2) → g x σ H' R → g x σ H' R') : rLcL K a g tYes te vs σ H Q := by
  refine ⟨⟨_, h⟩, fun D nD => lc_list (K := K) (a := a) (xs := xs) (fun k H' => Same H H' ∧ ∃ ys, H' D = some (.lst ys) ∧ ys.length = k ∧ ∀ j v, ys[j]? = some v → P D j v H') ⟨same_upd nD, [], upd_same, rfl, by simp⟩ (fun k H' _ p => p.1.seq h) (fun k x H' e p => ?_) (fun H' p => ?_)⟩
  · obtain ⟨s1, ys, e1, l1, p1⟩ := p
    have hk := (List.getElem?_eq_some_iff.mp e).1
    refine hg _ _ _ _ _ (fun σ2 H2 z => ⟨z.1, by have h2 := z.2; simp only [w_yes, if_true]; exact h2⟩) (he D k x H' (fun y H4 => ∃ acc, H4 D = some (.lst acc) ∧ acc.length < sizeLine ∧ (Same H (upd H4 D (.lst (acc ++ [y]))) ∧ ∃ ys, (upd H4 D (.lst (acc ++ [y]))) D = some (.lst ys) ∧ ys.length = k + 1 ∧ ∀ j v, ys[j]? = some v → P D j v (upd H4 D (.lst (acc ++ [y]))))) ys e s1 e1 fun v H2 s2 hv => ?_)
    · refine ⟨ys, s2 _ _ e1, Nat.lt_of_lt_of_le (show ys.length < 1000000 by omega) (by decide), same_mut (s1.trans s2) nD, ys ++ [v], upd_same, by simp [l1], fun j u hj => ?_⟩
      refine hu D j u H2 ys _ ?_ (s2 _ _ e1)
      by_cases hjl : j < ys.length
      · rw [List.getElem?_append_left hjl] at hj
        exact hs D j u H' H2 (p1 j u hj) s2
      · have hjk : j = k := by
          have := (List.getElem?_eq_some_iff.mp hj).1
          rw [List.length_append] at this
          simp at this
          omega
        subst hjk
        rw [List.getElem?_append_right (by omega), l1, Nat.sub_self] at hj
        cases hj
        exact hv
  · obtain ⟨s1, ys, e1, l1, p1⟩ := p
    exact hq H' D ys s1 nD e1 l1 p1
/-- .. that makes ints of ints -/
theorem lc_lstI {ns : List Int} (h : SqL K H a (ns.map V.int)) (hz : ns.length ≤ 10000) (f : Int → Int) (hw : ∀ v : Option V, wipe ((wipe σ vs).set i v) vs = wipe σ vs)
    (he : ∀ (n : Int) (H' : Hp) (R : VK), n ∈ ns → Same H H' → (∀ H2 : Hp, Same H' H2 → R (.int (f n)) H2) → te ((wipe σ vs).set i (some (.int n))) H' R)
    (hq : ∀ (H' : Hp) (D : Addr), Same H H' → H D = none → H' D = some (.lst ((ns.map f).map V.int)) → Q (.ref D) H') : rLcL K a (gName i) tYes te vs σ H Q := by
  refine lc_lstG (g := gName i) h (by rw [List.length_map]; exact hz) (fun _ k v _ => ∃ n, ns[k]? = some n ∧ v = .int (f n)) (fun _ _ _ _ _ p _ => p) (fun _ _ _ _ _ _ p _ => p) (fun D k x H' R ys e s1 e1 r => ?_) (fun H' D ys s1 nD e1 l1 p1 => ?_) (fun x σ H' R R' m r => m _ _ r)
  · rw [List.getElem?_map] at e
    cases e2 : ns[k]? with
    | none => rw [e2] at e; cases e
    | some n =>
      rw [e2] at e
      cases e
      exact ⟨hw _, he n H' R (List.mem_of_getElem? e2) s1 fun H2 s2 => r _ H2 s2 ⟨n, e2, rfl⟩⟩
  · have : ys = (ns.map f).map V.int := by
      refine List.ext_getElem? fun k => ?_
      cases hk : ys[k]? with
      | none =>
        have h1 := List.getElem?_eq_none_iff.mp hk
        rw [List.length_map] at l1
        exact (List.getElem?_eq_none_iff.mpr (by simp; omega)).symm
      | some v =>
        obtain ⟨n, e2, rfl⟩ := p1 k v hk
        simp [e2]
    rw [this] at e1
    exact hq H' D s1 nD e1
end
def IsMax (m : Int) (ns : List Int) : Prop := m ∈ ns ∧ ∀ y ∈ ns, y ≤ m
theorem IsMax.uniq {m n : Int} {ns : List Int} (h : IsMax m ns) (h' : IsMax n ns) : m = n := by
  have a := h.2 n h'.1
  have b := h'.2 m h.1
  omega
theorem max_l {K : PySem.W.Frag} {H : Hp} {a : Addr} {ns : List Int} {Q : VK} (h : SqL K H a (ns.map V.int)) (h0 : ns ≠ []) (q : ∀ m, IsMax m ns → Q (.int m) H) : rMax K [.ref a] H Q := ⟨a, ns, rfl, h, List.length_pos_iff.mpr h0, fun m h1 h2 => q m ⟨h1, h2⟩⟩
/-! ### told back by prices -/
/-- what a price tells of a number's cost -/
def tells (b : Int) (rs : Rw) (n p : Int) : Int := p * n - (gn p rs - b)
theorem tells_le {b n p : Int} {rs : Rw} (h : Good rs) (h0 : 0 ≤ n) (h1 : n ≤ tot rs) : tells b rs n p ≤ b + cst rs n := by
  have := (price_law p h.pos h.inc h0 h1).1
  unfold tells
  omega
theorem tells_eq {b n p : Int} {rs : Rw} (h : Good rs) (h0 : 0 ≤ n) (h1 : n ≤ tot rs) (h2 : few p rs ≤ n) (h3 : n ≤ most p rs) : tells b rs n p = b + cst rs n := by
  have := (price_law p h.pos h.inc h0 h1).2.mpr ⟨h2, h3⟩
  unfold tells
  omega
theorem tells_this {b n : Int} {rs : Rw} (h : Good rs) (h0 : 1 ≤ n) (h1 : n ≤ tot rs) : tells b rs n (pcs rs n) = b + cst rs n := by
  obtain ⟨a, c, _⟩ := pcs_few h.pos h.inc h0 h1
  exact tells_eq h (by omega) h1 (by omega) c
theorem tells_next {b n : Int} {rs : Rw} (h : Good rs) (h0 : 0 ≤ n) (h1 : n < tot rs) : tells b rs n (pcs rs (n + 1)) = b + cst rs n := by
  obtain ⟨a, c, _⟩ := pcs_few h.pos h.inc (n := n + 1) (by omega) (by omega)
  exact tells_eq h h0 (by omega) (by omega) (by omega)
def pricesOf (rs : Rw) : List Int := if rs = [] then [0] else rs.map (·.2)
theorem tells_own {b n : Int} {rs : Rw} (h : Good rs) (h0 : 0 ≤ n) (h1 : n ≤ tot rs) : ∃ p ∈ pricesOf rs, tells b rs n p = b + cst rs n := by
  unfold pricesOf
  by_cases hn : rs = []
  · subst hn
    rw [tot_nil] at h1
    refine ⟨0, by simp, ?_⟩
    have : n = 0 := by omega
    subst this
    simp [tells, gn, cst]
  · rw [if_neg hn]
    have ht : 0 < tot rs := by
      cases rs with
      | nil => exact absurd rfl hn
      | cons r rs =>
        have := tot_nonneg h.pos.tail
        have := h.pos r (by simp)
        rw [tot_cons]; omega
    by_cases hz : n = 0
    · subst hz
      obtain ⟨_, _, r, hr, e⟩ := pcs_few h.pos h.inc (n := 0 + 1) (by omega) (by omega)
      exact ⟨_, List.mem_map.mpr ⟨r, hr, e⟩, tells_next h (by omega) ht⟩
    · obtain ⟨_, _, r, hr, e⟩ := pcs_few h.pos h.inc (n := n) (by omega) h1
      exact ⟨_, List.mem_map.mpr ⟨r, hr, e⟩, tells_this h (by omega) h1⟩
/-- the greatest that prices tell, where one of them tells the cost -/
theorem max_tells {b n m : Int} {rs : Rw} {ps : List Int} (h : Good rs) (h0 : 0 ≤ n) (h1 : n ≤ tot rs) (hm : IsMax m (ps.map (tells b rs n))) (e : ∃ p ∈ ps, tells b rs n p = b + cst rs n) : m = b + cst rs n := by
  obtain ⟨p, hp, e⟩ := e
  have h2 := hm.2 _ (List.mem_map.mpr ⟨p, hp, rfl⟩)
  obtain ⟨p', _, e'⟩ := List.mem_map.mp hm.1
  have h3 := tells_le (b := b) (p := p') h h0 h1
  omega
theorem max_tells_le {b n m : Int} {rs : Rw} {ps : List Int} (h : Good rs) (h0 : 0 ≤ n) (h1 : n ≤ tot rs) (hm : IsMax m (ps.map (tells b rs n))) : m ≤ b + cst rs n := by
  obtain ⟨p', _, e'⟩ := List.mem_map.mp hm.1
  have h3 := tells_le (b := b) (p := p') h h0 h1
  omega
theorem pcs_bnd {n : Int} {rs : Rw} (h : Good rs) (h0 : 1 ≤ n) (h1 : n ≤ tot rs) : (pcs rs n).natAbs < 10 ^ 60 := by
  obtain ⟨_, _, r, hr, e⟩ := pcs_few h.pos h.inc h0 h1
  have := h.bnd.1 r hr
  rw [e] at this
  exact this
theorem prices_bnd {rs : Rw} (h : Good rs) : ∀ p ∈ pricesOf rs, p.natAbs < 10 ^ 62 := by
  intro p hp
  unfold pricesOf at hp
  by_cases hn : rs = []
  · rw [if_pos hn] at hp; simp at hp; subst hp; decide
  · rw [if_neg hn] at hp
    obtain ⟨r, hr, e⟩ := List.mem_map.mp hp
    have := h.bnd.1 r hr
    rw [e] at this
    omega
theorem prices_ne (rs : Rw) : pricesOf rs ≠ [] := by
  unfold pricesOf
  by_cases hn : rs = []
  · rw [if_pos hn]; simp
  · rw [if_neg hn]; simp [hn]
theorem prices_len (rs : Rw) : (pricesOf rs).length ≤ rs.length + 1 := by
  unfold pricesOf
  split
  · simp
  · simp
local macro_rules | `(tactic| walk_at "wp") => `(tactic| try simp only [w_forL, w_forR, w_forT, w_lcL, w_lcR, w_lcT, w_wipe0, w_wipe1, w_makeS, w_methS, w_callS, w_fld, w_make, w_meth, w_sfld, w_bm, w_bm0, w_seq, w_asg, w_name, w_var, w_c, w_op, w_un, w_I0, w_I, w_U, w_eqI, w_neI, w_test, w_B, w_bl, w_and, w_or, w_not, w_andV, w_orV, w_notV, w_ret, w_retN, w_drop, w_next, w_aug, w_ipI, w_nil, w_cons, w_cb, w_call, w_min2, w_max2, w_chain, w_tup, w_lst, w_sz0, w_sz1, w_sz2, L2.start, List.map_cons, List.map_nil, List.length_cons, List.length_nil, Nat.reduceAdd, Nat.reduceSub, List.replicate_succ, List.replicate_zero, List.cons_append, List.nil_append, List.set_cons_zero, List.set_cons_succ, List.getElem?_cons_zero, List.getElem?_cons_succ, Option.some.injEq, exists_and_left, exists_eq_left', exists_eq_left, true_and, and_true, decide_eq_true_eq, w_cxK, List.cons.injEq, V.int.injEq, V.bl.injEq, V.str.injEq, V.ref.injEq, w_CDiv, w_CMul, w_cp19, w_p19, w_cp30, w_p30, w_cp50, w_p50, w_eqS, w_neS, Int.reduceLT, Int.reduceLE, Int.reduceNeg, or_true, true_or, and_self, if_true, if_false, Bool.false_eq_true, Bool.not_true, Bool.not_false, decide_true, decide_false, w_nat2, eq_self, reduceCtorEq, w_int1b, w_slice, w_nopart, w_part])
local macro_rules | `(tactic| walk_at "wpi") => `(tactic| try simp only [w_if, w_forL, w_forR, w_forT, w_lcL, w_lcR, w_lcT, w_wipe0, w_wipe1, w_makeS, w_methS, w_callS, w_fld, w_make, w_meth, w_sfld, w_bm, w_bm0, w_seq, w_asg, w_name, w_var, w_c, w_op, w_un, w_I0, w_I, w_U, w_eqI, w_neI, w_test, w_B, w_bl, w_and, w_or, w_not, w_andV, w_orV, w_notV, w_ret, w_retN, w_drop, w_next, w_aug, w_ipI, w_nil, w_cons, w_cb, w_call, w_min2, w_max2, w_chain, w_tup, w_lst, w_sz0, w_sz1, w_sz2, L2.start, List.map_cons, List.map_nil, List.length_cons, List.length_nil, Nat.reduceAdd, Nat.reduceSub, List.replicate_succ, List.replicate_zero, List.cons_append, List.nil_append, List.set_cons_zero, List.set_cons_succ, List.getElem?_cons_zero, List.getElem?_cons_succ, Option.some.injEq, exists_and_left, exists_eq_left', exists_eq_left, true_and, and_true, decide_eq_true_eq, w_cxK, List.cons.injEq, V.int.injEq, V.bl.injEq, V.str.injEq, V.ref.injEq, w_CDiv, w_CMul, w_cp19, w_p19, w_cp30, w_p30, w_cp50, w_p50, w_eqS, w_neS, Int.reduceLT, Int.reduceLE, Int.reduceNeg, or_true, true_or, and_self, if_true, if_false, Bool.false_eq_true, Bool.not_true, Bool.not_false, decide_true, decide_false, w_nat2, eq_self, reduceCtorEq, w_int1b, w_slice, w_nopart, w_part])
local macro_rules | `(tactic| walk_at "same") => `(tactic| first | exact Same.refl _ | assumption | (refine Same.trans ?_ (same_upd (by assumption)); walk_at "same") | (refine Same.trans ?_ (by assumption); walk_at "same"))
def topS (i : Nat) : Stmt := PySem.Challenge.pw_millshare_k11_told_back.main.body.getD i (.Pass ⟨0, 0, 0, 0⟩)
abbrev s_back : Stmt := topS 9
abbrev N_back : List Str := ["mill", "prices", "many", "price"]
theorem sc_back : FnScope N_back ["mill", "prices", "many"] (defScope s_back) := ⟨rfl, rfl, rfl, by decide +kernel, rfl, by decide +kernel, by decide +kernel⟩
abbrev s_put_together : Stmt := topS 11
abbrev N_put_together : List Str := ["stretches", "found", "many", "cost"]
theorem sc_put_together : FnScope N_put_together ["stretches"] (defScope s_put_together) := ⟨rfl, rfl, rfl, by decide +kernel, rfl, by decide +kernel, by decide +kernel⟩
abbrev s_Mill_init : Stmt := inClass (topS 12) 0
abbrev N_Mill_init : List Str := ["self", "base", "stretches", "many", "cost"]
theorem sc_Mill_init : FnScope N_Mill_init ["self", "base", "stretches"] (defScope s_Mill_init) := ⟨rfl, rfl, rfl, by decide +kernel, rfl, by decide +kernel, by decide +kernel⟩
abbrev s_Mill_cost : Stmt := inClass (topS 12) 1
abbrev N_Mill_cost : List Str := ["self", "many", "total", "here", "cost", "first"]
theorem sc_Mill_cost : FnScope N_Mill_cost ["self", "many"] (defScope s_Mill_cost) := ⟨rfl, rfl, rfl, by decide +kernel, rfl, by decide +kernel, by decide +kernel⟩
abbrev s_Mill_piece : Stmt := inClass (topS 12) 2
abbrev N_Mill_piece : List Str := ["self", "number", "here", "cost"]
theorem sc_Mill_piece : FnScope N_Mill_piece ["self", "number"] (defScope s_Mill_piece) := ⟨rfl, rfl, rfl, by decide +kernel, rfl, by decide +kernel, by decide +kernel⟩
abbrev s_Mill_by_price : Stmt := inClass (topS 12) 3
abbrev N_Mill_by_price : List Str := ["self", "price", "fewest", "many", "cost"]
theorem sc_Mill_by_price : FnScope N_Mill_by_price ["self", "price"] (defScope s_Mill_by_price) := ⟨rfl, rfl, rfl, by decide +kernel, rfl, by decide +kernel, by decide +kernel⟩
abbrev s_Mill_gain : Stmt := inClass (topS 12) 4
abbrev N_Mill_gain : List Str := ["self", "price", "fewest"]
theorem sc_Mill_gain : FnScope N_Mill_gain ["self", "price"] (defScope s_Mill_gain) := ⟨rfl, rfl, rfl, by decide +kernel, rfl, by decide +kernel, by decide +kernel⟩
abbrev s_Mill_prices : Stmt := inClass (topS 12) 5
abbrev N_Mill_prices : List Str := ["self", "many", "cost"]
theorem sc_Mill_prices : FnScope N_Mill_prices ["self"] (defScope s_Mill_prices) := ⟨rfl, rfl, rfl, by decide +kernel, rfl, by decide +kernel, by decide +kernel⟩
abbrev s_l_cell_at : Stmt := topS 14
abbrev N_l_cell_at : List Str := ["_law_script", "_law_k", "_law_cell", "_law_mixed"]
theorem sc_l_cell_at : FnScope N_l_cell_at ["_law_script", "_law_k"] (defScope s_l_cell_at) := ⟨rfl, rfl, rfl, by decide +kernel, rfl, by decide +kernel, by decide +kernel⟩
abbrev s_l_whole : Stmt := topS 15
abbrev N_l_whole : List Str := ["_law_found"]
theorem sc_l_whole : FnScope N_l_whole ["_law_found"] (defScope s_l_whole) := ⟨rfl, rfl, rfl, by decide +kernel, rfl, by decide +kernel, by decide +kernel⟩
abbrev s_l_wide : Stmt := topS 16
abbrev N_l_wide : List Str := ["_law_cell"]
theorem sc_l_wide : FnScope N_l_wide ["_law_cell"] (defScope s_l_wide) := ⟨rfl, rfl, rfl, by decide +kernel, rfl, by decide +kernel, by decide +kernel⟩
abbrev s_l_cost : Stmt := topS 17
abbrev N_l_cost : List Str := ["_law_cell", "_law_number_here"]
theorem sc_l_cost : FnScope N_l_cost ["_law_cell"] (defScope s_l_cost) := ⟨rfl, rfl, rfl, by decide +kernel, rfl, by decide +kernel, by decide +kernel⟩
abbrev s_l_stretches : Stmt := topS 18
abbrev N_l_stretches : List Str := ["_law_script", "_law_at", "_law_most", "_law_rows", "_law_k", "_law_cell", "_law_costs", "_law_many", "_law_cost_here"]
theorem sc_l_stretches : FnScope N_l_stretches ["_law_script", "_law_at", "_law_most"] (defScope s_l_stretches) := ⟨rfl, rfl, rfl, by decide +kernel, rfl, by decide +kernel, by decide +kernel⟩
abbrev s_l_one : Stmt := topS 19
abbrev N_l_one : List Str := ["_law_rows", "_law_found", "_law_many", "_law_cost_here"]
theorem sc_l_one : FnScope N_l_one ["_law_rows"] (defScope s_l_one) := ⟨rfl, rfl, rfl, by decide +kernel, rfl, by decide +kernel, by decide +kernel⟩
abbrev s_l_cost_of : Stmt := topS 21
abbrev N_l_cost_of : List Str := ["_law_base", "_law_rows", "_law_many", "_law_here", "_law_cost_here"]
theorem sc_l_cost_of : FnScope N_l_cost_of ["_law_base", "_law_rows", "_law_many"] (defScope s_l_cost_of) := ⟨rfl, rfl, rfl, by decide +kernel, rfl, by decide +kernel, by decide +kernel⟩
abbrev s_l_number : Stmt := topS 22
abbrev N_l_number : List Str := ["_law_cell", "_law_rows", "_law_size", "_law_place", "_law_ends", "_law_many", "_law_cost_here"]
theorem sc_l_number : FnScope N_l_number ["_law_cell", "_law_rows"] (defScope s_l_number) := ⟨rfl, rfl, rfl, by decide +kernel, rfl, by decide +kernel, by decide +kernel⟩
abbrev s_l_kind : Stmt := topS 23
abbrev N_l_kind : List Str := ["_law_e", "_law_kinds"]
theorem sc_l_kind : FnScope N_l_kind ["_law_e"] (defScope s_l_kind) := ⟨rfl, rfl, rfl, by decide +kernel, rfl, by decide +kernel, by decide +kernel⟩
abbrev s_l_told : Stmt := topS 24
abbrev N_l_told : List Str := ["_law_mill", "_law_prices", "_law_many", "_law_error", "_law_e"]
theorem sc_l_told : FnScope N_l_told ["_law_mill", "_law_prices", "_law_many"] (defScope s_l_told) := ⟨rfl, rfl, rfl, by decide +kernel, rfl, by decide +kernel, by decide +kernel⟩
abbrev s_l_price : Stmt := topS 25
abbrev N_l_price : List Str := ["_law_cell", "_law_rows"]
theorem sc_l_price : FnScope N_l_price ["_law_cell", "_law_rows"] (defScope s_l_price) := ⟨rfl, rfl, rfl, by decide +kernel, rfl, by decide +kernel, by decide +kernel⟩
abbrev s_l_brought : Stmt := topS 26
abbrev N_l_brought : List Str := ["_law_base", "_law_rows", "_law_price_here", "_law_many", "_law_fewest", "_law_here", "_law_cost_here"]
theorem sc_l_brought : FnScope N_l_brought ["_law_base", "_law_rows", "_law_price_here", "_law_many"] (defScope s_l_brought) := ⟨rfl, rfl, rfl, by decide +kernel, rfl, by decide +kernel, by decide +kernel⟩
abbrev s_l_law : Stmt := topS 27
abbrev N_l_law : List Str := ["_law_script", "_law_base", "_law_rows", "_law_mill", "_law_size", "_law_cell", "_law_prices", "_law_many", "_law_wrong", "_law_handed", "_law_found", "_law_whole_here", "_law_due", "_law_k", "_law_cost_here", "_law_price_here"]
theorem sc_l_law : FnScope N_l_law ["_law_script"] (defScope s_l_law) := ⟨rfl, rfl, rfl, by decide +kernel, rfl, by decide +kernel, by decide +kernel⟩
/-- where things stand -/
structure Adr where
  MillError : Addr
  NoMill : Addr
  NoCount : Addr
  NoPart : Addr
  NoPrice : Addr
  NoName : Addr
  NoText : Addr
  Mill : Addr
  f_back : Addr
  d_back : FuncData
  f_put_together : Addr
  d_put_together : FuncData
  f_Mill_init : Addr
  d_Mill_init : FuncData
  f_Mill_cost : Addr
  d_Mill_cost : FuncData
  f_Mill_piece : Addr
  d_Mill_piece : FuncData
  f_Mill_by_price : Addr
  d_Mill_by_price : FuncData
  f_Mill_gain : Addr
  d_Mill_gain : FuncData
  f_Mill_prices : Addr
  d_Mill_prices : FuncData
  f_l_cell_at : Addr
  d_l_cell_at : FuncData
  f_l_whole : Addr
  d_l_whole : FuncData
  f_l_wide : Addr
  d_l_wide : FuncData
  f_l_cost : Addr
  d_l_cost : FuncData
  f_l_stretches : Addr
  d_l_stretches : FuncData
  f_l_one : Addr
  d_l_one : FuncData
  f_l_cost_of : Addr
  d_l_cost_of : FuncData
  f_l_number : Addr
  d_l_number : FuncData
  f_l_kind : Addr
  d_l_kind : FuncData
  f_l_told : Addr
  d_l_told : FuncData
  f_l_price : Addr
  d_l_price : FuncData
  f_l_brought : Addr
  d_l_brought : FuncData
  f_l_law : Addr
  d_l_law : FuncData
/-- what the top has written -/
structure Txt (K : PySem.W.Frag) (mg : Str → Option Value) (A : Adr) : Prop where
  g_MillError : mg "MillError" = some (.ref A.MillError)
  k_MillError : PySem.W.keepIn K (.ref A.MillError) = true
  x_MillError : PySem.W.excIn K A.MillError [.type "ValueError", .type "Exception", .type "BaseException", .type "object"] "ValueError.__new__" = true
  rb_MillError : PySem.W.subIn K (.ref A.MillError) (.type "BaseException") = some true
  rt_MillError : PySem.W.typeIn K (.ref A.MillError) = some (.type "type")
  g_NoMill : mg "NoMill" = some (.ref A.NoMill)
  k_NoMill : PySem.W.keepIn K (.ref A.NoMill) = true
  x_NoMill : PySem.W.excIn K A.NoMill [.type "ValueError", .type "Exception", .type "BaseException", .type "object"] "ValueError.__new__" = true
  rb_NoMill : PySem.W.subIn K (.ref A.NoMill) (.type "BaseException") = some true
  rt_NoMill : PySem.W.typeIn K (.ref A.NoMill) = some (.type "type")
  g_NoCount : mg "NoCount" = some (.ref A.NoCount)
  k_NoCount : PySem.W.keepIn K (.ref A.NoCount) = true
  x_NoCount : PySem.W.excIn K A.NoCount [.type "ValueError", .type "Exception", .type "BaseException", .type "object"] "ValueError.__new__" = true
  rb_NoCount : PySem.W.subIn K (.ref A.NoCount) (.type "BaseException") = some true
  rt_NoCount : PySem.W.typeIn K (.ref A.NoCount) = some (.type "type")
  g_NoPart : mg "NoPart" = some (.ref A.NoPart)
  k_NoPart : PySem.W.keepIn K (.ref A.NoPart) = true
  x_NoPart : PySem.W.excIn K A.NoPart [.type "ValueError", .type "Exception", .type "BaseException", .type "object"] "ValueError.__new__" = true
  rb_NoPart : PySem.W.subIn K (.ref A.NoPart) (.type "BaseException") = some true
  rt_NoPart : PySem.W.typeIn K (.ref A.NoPart) = some (.type "type")
  g_NoPrice : mg "NoPrice" = some (.ref A.NoPrice)
  k_NoPrice : PySem.W.keepIn K (.ref A.NoPrice) = true
  x_NoPrice : PySem.W.excIn K A.NoPrice [.type "ValueError", .type "Exception", .type "BaseException", .type "object"] "ValueError.__new__" = true
  rb_NoPrice : PySem.W.subIn K (.ref A.NoPrice) (.type "BaseException") = some true
  rt_NoPrice : PySem.W.typeIn K (.ref A.NoPrice) = some (.type "type")
  g_NoName : mg "NoName" = some (.ref A.NoName)
  k_NoName : PySem.W.keepIn K (.ref A.NoName) = true
  x_NoName : PySem.W.excIn K A.NoName [.type "ValueError", .type "Exception", .type "BaseException", .type "object"] "ValueError.__new__" = true
  rb_NoName : PySem.W.subIn K (.ref A.NoName) (.type "BaseException") = some true
  rt_NoName : PySem.W.typeIn K (.ref A.NoName) = some (.type "type")
  g_NoText : mg "NoText" = some (.ref A.NoText)
  k_NoText : PySem.W.keepIn K (.ref A.NoText) = true
  x_NoText : PySem.W.excIn K A.NoText [.type "ValueError", .type "Exception", .type "BaseException", .type "object"] "ValueError.__new__" = true
  rb_NoText : PySem.W.subIn K (.ref A.NoText) (.type "BaseException") = some true
  rt_NoText : PySem.W.typeIn K (.ref A.NoText) = some (.type "type")
  xc_NoPrice : ExcC K A.NoPrice
  xm_NoPrice : PySem.W.exmOne K (.ref A.NoPrice) (.ref A.MillError) = some true
  ki_NoPrice_NoMill : PySem.W.kitOne K (.ref A.NoPrice) (.ref A.NoMill) = some false
  ki_NoPrice_NoCount : PySem.W.kitOne K (.ref A.NoPrice) (.ref A.NoCount) = some false
  ki_NoPrice_NoPart : PySem.W.kitOne K (.ref A.NoPrice) (.ref A.NoPart) = some false
  ki_NoPrice_NoPrice : PySem.W.kitOne K (.ref A.NoPrice) (.ref A.NoPrice) = some true
  ki_NoPrice_NoName : PySem.W.kitOne K (.ref A.NoPrice) (.ref A.NoName) = some false
  ki_NoPrice_NoText : PySem.W.kitOne K (.ref A.NoPrice) (.ref A.NoText) = some false
  ki_NoPrice_M : PySem.W.kitOne K (.ref A.NoPrice) (.ref A.MillError) = some true
  ki_NoPrice_V : PySem.W.kitOne K (.ref A.NoPrice) (.type "ValueError") = some true
  xc_NoCount : ExcC K A.NoCount
  xm_NoCount : PySem.W.exmOne K (.ref A.NoCount) (.ref A.MillError) = some true
  ki_NoCount_NoMill : PySem.W.kitOne K (.ref A.NoCount) (.ref A.NoMill) = some false
  ki_NoCount_NoCount : PySem.W.kitOne K (.ref A.NoCount) (.ref A.NoCount) = some true
  ki_NoCount_NoPart : PySem.W.kitOne K (.ref A.NoCount) (.ref A.NoPart) = some false
  ki_NoCount_NoPrice : PySem.W.kitOne K (.ref A.NoCount) (.ref A.NoPrice) = some false
  ki_NoCount_NoName : PySem.W.kitOne K (.ref A.NoCount) (.ref A.NoName) = some false
  ki_NoCount_NoText : PySem.W.kitOne K (.ref A.NoCount) (.ref A.NoText) = some false
  ki_NoCount_M : PySem.W.kitOne K (.ref A.NoCount) (.ref A.MillError) = some true
  ki_NoCount_V : PySem.W.kitOne K (.ref A.NoCount) (.type "ValueError") = some true
  g_Mill : mg "Mill" = some (.ref A.Mill)
  cl_Mill : Cls K A.Mill
  mk_Mill : Mk K A.Mill A.f_Mill_init
  na_Mill_base : NoAttr K A.Mill "base"
  na_Mill_stretches : NoAttr K A.Mill "stretches"
  na_Mill_size : NoAttr K A.Mill "size"
  F_back : Fun K "back" "back" s_back A.f_back A.d_back
  b_back : Binds K A.d_back ["mill", "prices", "many"] []
  g_back : mg "back" = some (.ref A.f_back)
  F_put_together : Fun K "put_together" "put_together" s_put_together A.f_put_together A.d_put_together
  b_put_together : Binds K A.d_put_together ["stretches"] []
  g_put_together : mg "put_together" = some (.ref A.f_put_together)
  F_Mill_init : Fun K "__init__" "Mill.__init__" s_Mill_init A.f_Mill_init A.d_Mill_init
  b_Mill_init : Binds K A.d_Mill_init ["self", "base", "stretches"] []
  F_Mill_cost : Fun K "cost" "Mill.cost" s_Mill_cost A.f_Mill_cost A.d_Mill_cost
  b_Mill_cost : Binds K A.d_Mill_cost ["self", "many"] []
  m_Mill_cost : Meth K A.Mill "cost" A.f_Mill_cost
  F_Mill_piece : Fun K "piece" "Mill.piece" s_Mill_piece A.f_Mill_piece A.d_Mill_piece
  b_Mill_piece : Binds K A.d_Mill_piece ["self", "number"] []
  m_Mill_piece : Meth K A.Mill "piece" A.f_Mill_piece
  F_Mill_by_price : Fun K "by_price" "Mill.by_price" s_Mill_by_price A.f_Mill_by_price A.d_Mill_by_price
  b_Mill_by_price : Binds K A.d_Mill_by_price ["self", "price"] []
  m_Mill_by_price : Meth K A.Mill "by_price" A.f_Mill_by_price
  F_Mill_gain : Fun K "gain" "Mill.gain" s_Mill_gain A.f_Mill_gain A.d_Mill_gain
  b_Mill_gain : Binds K A.d_Mill_gain ["self", "price"] []
  m_Mill_gain : Meth K A.Mill "gain" A.f_Mill_gain
  F_Mill_prices : Fun K "prices" "Mill.prices" s_Mill_prices A.f_Mill_prices A.d_Mill_prices
  b_Mill_prices : Binds K A.d_Mill_prices ["self"] []
  m_Mill_prices : Meth K A.Mill "prices" A.f_Mill_prices
  F_l_cell_at : Fun K "_law_cell_at" "_law_cell_at" s_l_cell_at A.f_l_cell_at A.d_l_cell_at
  b_l_cell_at : Binds K A.d_l_cell_at ["_law_script", "_law_k"] []
  g__law_cell_at : mg "_law_cell_at" = some (.ref A.f_l_cell_at)
  F_l_whole : Fun K "_law_whole" "_law_whole" s_l_whole A.f_l_whole A.d_l_whole
  b_l_whole : Binds K A.d_l_whole ["_law_found"] []
  g__law_whole : mg "_law_whole" = some (.ref A.f_l_whole)
  F_l_wide : Fun K "_law_wide" "_law_wide" s_l_wide A.f_l_wide A.d_l_wide
  b_l_wide : Binds K A.d_l_wide ["_law_cell"] []
  g__law_wide : mg "_law_wide" = some (.ref A.f_l_wide)
  F_l_cost : Fun K "_law_cost" "_law_cost" s_l_cost A.f_l_cost A.d_l_cost
  b_l_cost : Binds K A.d_l_cost ["_law_cell"] []
  g__law_cost : mg "_law_cost" = some (.ref A.f_l_cost)
  F_l_stretches : Fun K "_law_stretches" "_law_stretches" s_l_stretches A.f_l_stretches A.d_l_stretches
  b_l_stretches : Binds K A.d_l_stretches ["_law_script", "_law_at", "_law_most"] []
  g__law_stretches : mg "_law_stretches" = some (.ref A.f_l_stretches)
  F_l_one : Fun K "_law_one" "_law_one" s_l_one A.f_l_one A.d_l_one
  b_l_one : Binds K A.d_l_one ["_law_rows"] []
  g__law_one : mg "_law_one" = some (.ref A.f_l_one)
  F_l_cost_of : Fun K "_law_cost_of" "_law_cost_of" s_l_cost_of A.f_l_cost_of A.d_l_cost_of
  b_l_cost_of : Binds K A.d_l_cost_of ["_law_base", "_law_rows", "_law_many"] []
  g__law_cost_of : mg "_law_cost_of" = some (.ref A.f_l_cost_of)
  F_l_number : Fun K "_law_number" "_law_number" s_l_number A.f_l_number A.d_l_number
  b_l_number : Binds K A.d_l_number ["_law_cell", "_law_rows"] []
  g__law_number : mg "_law_number" = some (.ref A.f_l_number)
  F_l_kind : Fun K "_law_kind" "_law_kind" s_l_kind A.f_l_kind A.d_l_kind
  b_l_kind : Binds K A.d_l_kind ["_law_e"] []
  g__law_kind : mg "_law_kind" = some (.ref A.f_l_kind)
  F_l_told : Fun K "_law_told" "_law_told" s_l_told A.f_l_told A.d_l_told
  b_l_told : Binds K A.d_l_told ["_law_mill", "_law_prices", "_law_many"] []
  g__law_told : mg "_law_told" = some (.ref A.f_l_told)
  F_l_price : Fun K "_law_price" "_law_price" s_l_price A.f_l_price A.d_l_price
  b_l_price : Binds K A.d_l_price ["_law_cell", "_law_rows"] []
  g__law_price : mg "_law_price" = some (.ref A.f_l_price)
  F_l_brought : Fun K "_law_brought" "_law_brought" s_l_brought A.f_l_brought A.d_l_brought
  b_l_brought : Binds K A.d_l_brought ["_law_base", "_law_rows", "_law_price_here", "_law_many"] []
  g__law_brought : mg "_law_brought" = some (.ref A.f_l_brought)
  F_l_law : Fun K "law" "law" s_l_law A.f_l_law A.d_l_law
  b_l_law : Binds K A.d_l_law ["_law_script"] []
  g_law : mg "law" = some (.ref A.f_l_law)
  n_ValueError : mg "ValueError" = none
  n_bool : mg "bool" = none
  n_int : mg "int" = none
  n_isinstance : mg "isinstance" = none
  n_len : mg "len" = none
  n_list : mg "list" = none
  n_max : mg "max" = none
  n_min : mg "min" = none
  n_range : mg "range" = none
  n_sorted : mg "sorted" = none
  n_sum : mg "sum" = none
  n_tuple : mg "tuple" = none
theorem Txt.mc {K : PySem.W.Frag} {mg : Str → Option Value} {A : Adr} (T : Txt K mg A) : MillC K A.Mill := ⟨T.cl_Mill, T.na_Mill_base, T.na_Mill_stretches, T.na_Mill_size⟩
def sp_Mill_by_price (K : PySem.W.Frag) (A : Adr) : Sp := fun vs H Q E => ∃ (x : Addr) (b : Int) (rs : Rw) (p : Int), vs = [.ref x, .int p] ∧ MillAt A.Mill H x b rs ∧
  ∀ (H' : Hp) (t : Addr), Same H H' → H t = none → H' t = some (.tup [.int (few p rs), .int (most p rs)]) → Q (.ref t) H'
section
variable {P : Program} {w : World} {K : PySem.W.Frag} {mg : Str → Option Value} {base : Heap} {A : Adr}
theorem ok_Mill_by_price (T : Txt K mg A) : FnOk P w K mg base (L2.CX P w) 1 A.f_Mill_by_price A.d_Mill_by_price ["self", "price"] (sp_Mill_by_price K A) := by
  refine T.F_Mill_by_price.okX sc_Mill_by_price (fun vs H Q E h => ?_) (fun cdv AA outer s H vs Q E hr h => ?_)
  · obtain ⟨_, _, _, _, rfl, _⟩ := h
    rfl
  · obtain ⟨x, b, rs, p, rfl, hM, q⟩ := h
    refine ⟨_, (pss_cons (ps_set (i := 2) sc_Mill_by_price.nd rfl (.inl rfl) (pe_callB (cr_sum rfl) (by rfl) T.n_sum (by decide +kernel) (pa_cons (pe_lc (own := [("many", 3), ("cost", 4)]) (g := gTup K 2 (gCons (gName 3) (gCons (gName 4) gNil))) (tt := tTest (tOp (rLtI) (tVar 4) (tVar 1))) (te := tVar 3) rfl sc_Mill_by_price.nd (pi_list (pe_fld (pv 0) rfl)) (blkOk_by (own := [("many", 3), ("cost", 4)]) (N := N_Mill_by_price) (sc := defScope s_Mill_by_price) (by decide +kernel)) (fun _ _ _ _ _ => (pg_tup rfl (pgs_cons (pg_name (i := 3) sc_Mill_by_price.nd rfl (.inl rfl)) (pgs_cons (pg_name (i := 4) sc_Mill_by_price.nd rfl (.inl rfl)) pgs_nil)))) (fun _ _ _ _ _ => (pts_one (pt_cmpR op_lt (pv 4) (pv 1) (nomark _)))) (fun _ _ _ _ _ => (pv 3))) pa_nil)))
        (pss_one (ps_ret (pe_tup (pa_cons (pv 2) (pa_cons (pe_op op_add (pv 2) (pe_callB (cr_sum rfl) (by rfl) T.n_sum (by decide +kernel) (pa_cons (pe_lc (own := [("many", 3), ("cost", 4)]) (g := gTup K 2 (gCons (gName 3) (gCons (gName 4) gNil))) (tt := tTest (tOp (rEq) (tVar 4) (tVar 1))) (te := tVar 3) rfl sc_Mill_by_price.nd (pi_list (pe_fld (pv 0) rfl)) (blkOk_by (own := [("many", 3), ("cost", 4)]) (N := N_Mill_by_price) (sc := defScope s_Mill_by_price) (by decide +kernel)) (fun _ _ _ _ _ => (pg_tup rfl (pgs_cons (pg_name (i := 3) sc_Mill_by_price.nd rfl (.inl rfl)) (pgs_cons (pg_name (i := 4) sc_Mill_by_price.nd rfl (.inl rfl)) pgs_nil)))) (fun _ _ _ _ _ => (pts_one (pt_cmpR op_eq (pv 4) (pv 1) (nomark _)))) (fun _ _ _ _ _ => (pv 3))) pa_nil))) pa_nil)))))), ?_⟩
    walk_at "wp"
    refine fld_str hM T.mc fun l hl => ?_
    walk_at "wp"
    refine lc_rowsI (a := l) hl (fun r => decide (r.2 < p)) (·.1) (fun r => rfl) (fun r H' R _ h => ?_) (fun r H' R _ _ _ h => ⟨_, rfl, h⟩) fun D nD => ?_
    · walk_at "wp"
      exact h
    refine sum_ints upd_same ?_
    walk_at "wp"
    have s1 : Same H (upd H D (.lst (((rs.filter fun r => decide (r.2 < p)).map (·.1)).map V.int))) := same_upd nD
    refine fld_str (hM.same s1) T.mc fun l2 hl2 => ?_
    walk_at "wp"
    refine lc_rowsI (a := l2) hl2 (fun r => decide (r.2 = p)) (·.1) (fun r => rfl) (fun r H' R _ h => ?_) (fun r H' R _ _ _ h => ⟨_, rfl, h⟩) fun D2 nD2 => ?_
    · walk_at "wp"
      exact h
    refine sum_ints upd_same ?_
    walk_at "wp"
    intro t nt
    have s2 := same_upd (o := .lst (((rs.filter fun r => decide (r.2 = p)).map (·.1)).map V.int)) nD2
    refine q _ t ((s1.trans s2).trans (same_upd nt)) ((s1.trans s2).free nt) ?_
    rw [upd_same, most_eq]
    rfl

end
/-- what so many pieces cost; other numbers are refused -/
def sp_Mill_cost (K : PySem.W.Frag) (A : Adr) : Sp := fun vs H Q E => ∃ (x : Addr) (b : Int) (rs : Rw) (n : Int), vs = [.ref x, .int n] ∧ MillAt A.Mill H x b rs ∧ Good rs ∧ (0 ≤ n ∧ n ≤ tot rs → Q (.int (b + cst rs n)) H) ∧
  (¬ (0 ≤ n ∧ n ≤ tot rs) → E (.ref A.NoCount) none H)
section
variable {P : Program} {w : World} {K : PySem.W.Frag} {mg : Str → Option Value} {base : Heap} {A : Adr}
theorem ok_Mill_cost (T : Txt K mg A) : FnOk P w K mg base (L2.CX P w) 1 A.f_Mill_cost A.d_Mill_cost ["self", "many"] (sp_Mill_cost K A) := by
  refine T.F_Mill_cost.okX sc_Mill_cost (fun vs H Q E h => ?_) (fun cdv AA outer s H vs Q E hr h => ?_)
  · obtain ⟨_, _, _, _, rfl, _⟩ := h
    rfl
  · obtain ⟨x, b, rs, n, rfl, hM, hG, q, qe⟩ := h
    refine ⟨_, (pss_cons (ps_if (pt_not (pt_chain op_le op_le pe_int (pv 1) (pe_fld (pv 0) rfl)))
          (pss_one (ps_raise rfl (takes_of rfl rfl rfl rfl) (pmk_own PySem.F.excBase_ValueError T.x_NoCount T.g_NoCount T.k_NoCount (raises_own T.rb_NoCount T.rt_NoCount) rfl)))
          pss_nil)
        (pss_cons (ps_set (i := 2) sc_Mill_cost.nd rfl (.inl rfl) (pe_fld (pv 0) rfl))
        (pss_cons (ps_for (passes_of rfl) rfl (pi_list (pe_fld (pv 0) rfl)) (pg_tup rfl (pgs_cons (pg_name (i := 3) sc_Mill_cost.nd rfl (.inl rfl)) (pgs_cons (pg_name (i := 4) sc_Mill_cost.nd rfl (.inl rfl)) pgs_nil)))
          (pss_cons (ps_set (i := 5) sc_Mill_cost.nd rfl (.inl rfl) (pe_callB (c_min2 rfl) (by rfl) T.n_min (by decide +kernel) (pa_cons (pv 3) (pa_cons (pv 1) pa_nil))))
          (pss_cons (ps_aug (i := 2) sc_Mill_cost.nd rfl (.inl rfl) (pe_op op_mulW (pv 5) (pv 4)) ip_add)
          (pss_one (ps_aug (i := 1) sc_Mill_cost.nd rfl (.inl rfl) (pv 5) ip_sub)))))
        (pss_one (ps_ret (pv 2)))))), ?_⟩
    walk_at "wpi"
    have walk : 0 ≤ n ∧ n ≤ tot rs → rFld K "base" (.ref x) H fun v H1 => rFld K "stretches" (.ref x) H1 fun v2 H2 => ∃ a, v2 = .ref a ∧ rForL K a (gTup K 2 (gCons (gName 3) (gCons (gName 4) gNil)))
        (tSeq (tAsg (tCB rMin2 (tCons (tVar 3) (tCons (tVar 1) tNil))) (gName 5)) (tSeq (tAug 2 (tOp rMulW (tVar 5) (tVar 4)) (ipI fun i j => i + j)) (tAug 1 (tVar 5) (ipI fun i j => i - j))))
        { nx := tRet (tVar 2) { nx := fun _ H' => Q .non H', rt := Q }, rt := Q } [some (.ref x), some (.int n), some v, none, none, none] H2 := by
      rintro ⟨h0, h1⟩
      refine fld_base hM T.mc (fld_str hM T.mc fun l hl => ⟨l, rfl, ?_⟩)
      obtain ⟨ps, ea, hp, hz⟩ := hl
      refine for_rows (K := K) (a := l) (ps := ps) (rs := rs) (fun k σ H' => H' = H ∧ ∃ t n' y z u, σ = [some (.ref x), some (.int n'), some (.int t), y, z, u] ∧ t + cst (rs.drop k) n' = b + cst rs n ∧ 0 ≤ n' ∧ n' ≤ tot rs) ⟨rfl, b, n, none, none, none, rfl, by simp, h0, h1⟩ ?_ ?_ ?_
      · rintro k σ H' hk ⟨rfl, _⟩
        exact ⟨ea, hp⟩
      · rintro k r σ H' hk ⟨rfl, t, n', y, z, u, rfl, e, h2, h3⟩ N hN
        have hkl := (List.getElem?_eq_some_iff.mp hk).1
        have hd : rs.drop k = r :: rs.drop (k + 1) := by rw [List.drop_eq_getElem_cons hkl, (List.getElem?_eq_some_iff.mp hk).2]
        have hr1 := hG.pos r (List.mem_of_getElem? hk)
        have hb := hG.bnd.1 r (List.mem_of_getElem? hk)
        have ht := hG.bnd.2
        rw [hd, cst] at e
        walk_at "wp"
        refine ⟨mulW (by omega) (by omega), ?_⟩
        exact hN _ _ ⟨rfl, _, _, _, _, _, rfl, by omega, by omega, by omega⟩
      · rintro σ H' ⟨rfl, t, n', y, z, u, rfl, e, h2, h3⟩
        rw [List.drop_length, cst] at e
        walk_at "wp"
        rw [show t = b + cst rs n by omega]
        exact q ⟨h0, h1⟩
    refine ite2 (fun h0 => fld_size hM T.mc ?_) (fun h0 => ?_)
    · walk_at "wp"
      by_cases h1 : n ≤ tot rs
      · simp only [h1, decide_true, Bool.not_true, Bool.false_eq_true, if_false]
        exact walk ⟨h0, h1⟩
      · simp only [h1, decide_false, Bool.not_false, if_true]
        exact qe (by omega)
    · exact qe (by omega)

end
/-- the most that a price brings -/
def sp_Mill_gain (K : PySem.W.Frag) (A : Adr) : Sp := fun vs H Q E => ∃ (x : Addr) (b : Int) (rs : Rw) (p : Int), vs = [.ref x, .int p] ∧ MillAt A.Mill H x b rs ∧ Good rs ∧ p.natAbs < 10 ^ 62 ∧ ∀ H' : Hp, Same H H' → Q (.int (gn p rs - b)) H'
section
variable {P : Program} {w : World} {K : PySem.W.Frag} {mg : Str → Option Value} {base : Heap} {A : Adr}
theorem ok_Mill_gain (T : Txt K mg A) : FnOk P w K mg base (L2.CX P w) 2 A.f_Mill_gain A.d_Mill_gain ["self", "price"] (sp_Mill_gain K A) := by
  have G_Mill_by_price := ok_Mill_by_price (P := P) (w := w) (base := base) T
  have G_Mill_cost := ok_Mill_cost (P := P) (w := w) (base := base) T
  refine T.F_Mill_gain.okX sc_Mill_gain (fun vs H Q E h => ?_) (fun cdv AA outer s H vs Q E hr h => ?_)
  · obtain ⟨_, _, _, _, rfl, _⟩ := h
    rfl
  · obtain ⟨x, b, rs, p, rfl, hM, hG, hp, q⟩ := h
    refine ⟨_, (pss_cons (ps_set (i := 2) sc_Mill_gain.nd rfl (.inl rfl) (pe_ix ix_tup (pe_meth (E := E0) (pv 0) T.cl_Mill T.m_Mill_by_price G_Mill_by_price (hr.mono (by decide)) T.b_Mill_by_price .nil passL (pa_cons (pv 1) pa_nil)) pe_int (fun _ _ => rfl)))
        (pss_one (ps_ret (pe_op op_sub (pe_op op_mulW (pv 1) (pv 2)) (pe_meth (E := E0) (pv 0) T.cl_Mill T.m_Mill_cost G_Mill_cost (hr.mono (by decide)) T.b_Mill_cost .nil passL (pa_cons (pv 2) pa_nil)))))), ?_⟩
    walk_at "wp"
    obtain ⟨dx, fs, e7, hl7⟩ := hM.self "by_price" (by decide +kernel) (by decide +kernel) (by decide +kernel)
    refine ⟨dx, fs, e7, hl7, ⟨x, b, rs, p, rfl, hM, fun H8 t s8 nt et => ?_⟩⟩
    refine ix_t (SqT.of et) rfl ?_
    walk_at "wp"
    have h1 := few_nonneg p hG.pos
    have h2 := few_most p hG.pos
    have h3 := most_tot p hG.pos
    have h4 := hG.bnd.2
    refine ⟨mulW hp (by omega), ?_⟩
    obtain ⟨dx, fs, e7, hl7⟩ := (hM.same s8).self "cost" (by decide +kernel) (by decide +kernel) (by decide +kernel)
    refine ⟨dx, fs, e7, hl7, ⟨x, b, rs, _, rfl, hM.same s8, hG, fun _ => ?_, fun z => absurd ⟨h1, by omega⟩ z⟩⟩
    walk_at "wp"
    have e := (price_law p hG.pos hG.inc h1 (by omega)).2.mpr ⟨Int.le_refl _, h2⟩
    rw [show p * few p rs - (b + cst rs (few p rs)) = gn p rs - b by omega]
    exact q _ s8

end
/-- the greatest that prices tell of a number's cost -/
def sp_back (K : PySem.W.Frag) (A : Adr) : Sp := fun vs H Q E => ∃ (x : Addr) (b : Int) (rs : Rw) (l : Addr) (ps : List Int) (n : Int), vs = [.ref x, .ref l, .int n] ∧ MillAt A.Mill H x b rs ∧ Good rs ∧ SqL K H l (ps.map V.int) ∧ ps.length ≤ 10000 ∧ (∀ p ∈ ps, p.natAbs < 10 ^ 62) ∧
  (ps ≠ [] → 0 ≤ n ∧ n ≤ tot rs → ∀ (H' : Hp) (m : Int), Same H H' → IsMax m (ps.map (tells b rs n)) → Q (.int m) H') ∧ (ps = [] → E (.ref A.NoPrice) none H) ∧ (ps ≠ [] → ¬ (0 ≤ n ∧ n ≤ tot rs) → E (.ref A.NoCount) none H)
section
variable {P : Program} {w : World} {K : PySem.W.Frag} {mg : Str → Option Value} {base : Heap} {A : Adr}
theorem ok_back (T : Txt K mg A) : FnOk P w K mg base (L2.CX P w) 3 A.f_back A.d_back ["mill", "prices", "many"] (sp_back K A) := by
  have G_Mill_gain := ok_Mill_gain (P := P) (w := w) (base := base) T
  refine T.F_back.okX sc_back (fun vs H Q E h => ?_) (fun cdv AA outer s H vs Q E hr h => ?_)
  · obtain ⟨_, _, _, _, _, _, rfl, _⟩ := h
    rfl
  · obtain ⟨x, b, rs, l, ps, n, rfl, hM, hG, hl, hz, hps, q, qe, qc⟩ := h
    refine ⟨_, (pss_cons (ps_if (pt_cmpR op_eq (pe_callB c_len (by rfl) T.n_len (by decide +kernel) (pa_cons (pv 1) pa_nil)) pe_int (nomark _))
          (pss_one (ps_raise rfl (takes_of rfl rfl rfl rfl) (pmk_own PySem.F.excBase_ValueError T.x_NoPrice T.g_NoPrice T.k_NoPrice (raises_own T.rb_NoPrice T.rt_NoPrice) rfl)))
          pss_nil)
        (pss_cons (ps_if (pt_not (pt_chain op_le op_le pe_int (pv 2) (pe_fld (pv 0) rfl)))
          (pss_one (ps_raise rfl (takes_of rfl rfl rfl rfl) (pmk_own PySem.F.excBase_ValueError T.x_NoCount T.g_NoCount T.k_NoCount (raises_own T.rb_NoCount T.rt_NoCount) rfl)))
          pss_nil)
        (pss_one (ps_ret (pe_callB (cr_max rfl) (by rfl) T.n_max (by decide +kernel) (pa_cons (pe_lc (own := [("price", 3)]) (g := gName 3) (tt := tYes) (te := tOp rSubI (tOp rMulW (tVar 3) (tVar 2)) (tMeth A.Mill "gain" (sp_Mill_gain K A) [] E0 (tVar 0) ((tCons (tVar 3) tNil)))) rfl sc_back.nd (pi_list (pv 1)) (blkOk_by (own := [("price", 3)]) (N := N_back) (sc := defScope s_back) (by decide +kernel)) (fun _ _ _ _ _ => (pg_name (i := 3) sc_back.nd rfl (.inl rfl))) (fun _ _ _ _ _ => pts_nil) (fun _ _ _ _ _ => (pe_op op_sub (pe_op op_mulW (pv 3) (pv 2)) (pe_meth (E := E0) (pv 0) T.cl_Mill T.m_Mill_gain G_Mill_gain (hr.mono (by decide)) T.b_Mill_gain .nil passL (pa_cons (pv 3) pa_nil))))) pa_nil)))))), ?_⟩
    walk_at "wpi"
    refine len_l hl ?_
    walk_at "wp"
    refine ite2 (fun h0 => qe (by simpa using h0)) (fun h0 => ?_)
    have hne : ps ≠ [] := fun z => h0 (by rw [z]; rfl)
    have tb := hG.bnd.2
    have cont : 0 ≤ n ∧ n ≤ tot rs → rLcL K l (gName 3) tYes (tOp rSubI (tOp rMulW (tVar 3) (tVar 2)) (tMeth A.Mill "gain" (sp_Mill_gain K A) [] E0 (tVar 0) (tCons (tVar 3) tNil))) [3] [some (.ref x), some (.ref l), some (.int n), none] H fun x H1 => rMax K [x] H1 Q := fun hn => by
      refine lc_lstI hl hz (tells b rs n) (fun v => rfl) (fun p H' R hp s1 h => ?_) (fun H' D s1 nD e1 => max_l (SqL.of e1) (by simpa using hne) fun m hm => q hne hn H' m s1 hm)
      walk_at "wp"
      refine ⟨mulW (hps p hp) (by omega), ?_⟩
      obtain ⟨dx, fs, e7, hl7⟩ := (hM.same s1).self "gain" (by decide +kernel) (by decide +kernel) (by decide +kernel)
      refine ⟨dx, fs, e7, hl7, ⟨x, b, rs, p, rfl, hM.same s1, hG, hps p hp, fun H2 s2 => ?_⟩⟩
      walk_at "wp"
      exact h H2 s2
    refine ite2 (fun h1 => fld_size hM T.mc ?_) (fun h1 => qc hne (by omega))
    walk_at "wp"
    by_cases h2 : n ≤ tot rs
    · simp only [h2, decide_true, Bool.not_true, Bool.false_eq_true, if_false]
      exact cont ⟨h1, h2⟩
    · simp only [h2, decide_false, Bool.not_false, if_true]
      exact qc hne (by omega)

end
/-- like ones put together: a new list; what makes no mill is refused -/
def sp_put_together (K : PySem.W.Frag) (A : Adr) : Sp := fun vs H Q E => ∃ (a : Addr) (rs : Rw), vs = [.ref a] ∧ RowsAt H a rs ∧ (Ok rs → ∀ (H' : Hp) (p : Addr), Same H H' → H p = none → RowsAt H' p (one rs) → Q (.ref p) H') ∧
  (¬ Ok rs → ∀ H' : Hp, Same H H' → E (.ref A.NoMill) none H')
section
variable {P : Program} {w : World} {K : PySem.W.Frag} {mg : Str → Option Value} {base : Heap} {A : Adr}
theorem ok_put_together (T : Txt K mg A) : FnOk P w K mg base (L2.CX P w) 1 A.f_put_together A.d_put_together ["stretches"] (sp_put_together K A) := by
  refine T.F_put_together.okX sc_put_together (fun vs H Q E h => ?_) (fun cdv AA outer s H vs Q E hr h => ?_)
  · obtain ⟨_, _, rfl, _⟩ := h
    rfl
  · obtain ⟨a, rs, rfl, hR, q, qe⟩ := h
    refine ⟨_, (pss_cons (ps_set (i := 1) sc_put_together.nd rfl (.inl rfl) (pe_lst pa_nil))
        (pss_cons (ps_for (passes_of rfl) rfl (pi_list (pv 0)) (pg_tup rfl (pgs_cons (pg_name (i := 2) sc_put_together.nd rfl (.inl rfl)) (pgs_cons (pg_name (i := 3) sc_put_together.nd rfl (.inl rfl)) pgs_nil)))
          (pss_cons (ps_if (PW.pt (pw_or (pt_cmpR op_lt (pv 2) pe_int (nomark _)) (pw_or1 (PW.pt (pw_and (pt_cmpR (op_neD hr.units) (pv 1) (pe_lst pa_nil) (nomark _)) (pw_and1 (pt_cmpR op_lt (pv 3) (pe_ix ix_tup (pe_ix ix_list (pv 1) (pe_un un_neg pe_int) (fun _ _ => rfl)) pe_int (fun _ _ => rfl)) (nomark _))))))))
            (pss_one (ps_raise rfl (takes_of rfl rfl rfl rfl) (pmk_own PySem.F.excBase_ValueError T.x_NoMill T.g_NoMill T.k_NoMill (raises_own T.rb_NoMill T.rt_NoMill) rfl)))
            pss_nil)
          (pss_cons (ps_if (PW.pt (pw_and (pt_cmpR (op_neD hr.units) (pv 1) (pe_lst pa_nil) (nomark _)) (pw_and1 (pt_cmpR op_eq (pv 3) (pe_ix ix_tup (pe_ix ix_list (pv 1) (pe_un un_neg pe_int) (fun _ _ => rfl)) pe_int (fun _ _ => rfl)) (nomark _)))))
            (pss_one (ps_aug (i := 2) sc_put_together.nd rfl (.inl rfl) (pe_ix ix_tup (pe_bm0 PySem.F.plainAttrs_list PySem.F.slot_list_pop PySem.F.type_list_pop mt_pop (pv 1)) pe_int (fun _ _ => rfl)) ip_add))
            pss_nil)
          (pss_one (ps_expr (pe_bm PySem.F.plainAttrs_list PySem.F.slot_list_append PySem.F.type_list_append mt_append (pv 1) (pa_cons (pe_tup (pa_cons (pv 2) (pa_cons (pv 3) pa_nil))) pa_nil)))))))
        (pss_one (ps_ret (pv 1))))), ?_⟩
    walk_at "wp"
    intro o no
    obtain ⟨ps, ea, hp, hz⟩ := id hR
    refine for_rows (K := K) (a := a) (ps := ps) (rs := rs) (fun n σ H' => Ok (rs.take n) ∧ ∃ x y qs, σ = [some (.ref a), some (.ref o), x, y] ∧ Same H H' ∧ H' o = some (.lst (qs.map V.ref)) ∧ Pairs H' qs (one (rs.take n)) ∧ (one (rs.take n)).length ≤ n)
      ⟨⟨by simp [Pos], by simp [NonDec]⟩, none, none, [], rfl, same_upd no, upd_same, .nil, Nat.le_refl _⟩ ?_ ?_ ?_
    · rintro n σ H' hn ⟨_, x, y, qs, rfl, s1, e1, p1, l1⟩
      exact ⟨s1 _ _ ea, hp.same s1⟩
    · rintro n ⟨m, c⟩ σ H' hn ⟨ok, x, y, qs, rfl, s1, e1, p1, l1⟩ N hN
      have hn2 : n < rs.length := (List.getElem?_eq_some_iff.mp hn).1
      have okn : Ok (rs.take (n + 1)) ↔ 1 ≤ m ∧ ∀ l b, one (rs.take n) = b ++ [l] → l.2 ≤ c := by
        rw [take_snoc hn]
        exact ok_snoc ok
      have okr : Ok rs → Ok (rs.take (n + 1)) := ok_take
      rw [take_snoc hn, one_snoc, ← take_snoc hn] at hN
      generalize one (rs.take n) = acc at p1 l1 hN okn
      walk_at "wp"
      refine if_join (fun σ' H2 => ∃ qs', σ' = [some (.ref a), some (.ref o), some (.int m), some (.int c)] ∧ Same H H2 ∧ H2 o = some (.lst (qs'.map V.ref)) ∧ Pairs H2 qs' acc ∧ Ok (rs.take (n + 1))) ?_ ?_
      · rintro σ' H2 ⟨qs', rfl, s2, e2, p2, ok2⟩
        walk_at "wp"
        refine if_join (fun σ' H2 => ∃ m' qs' acc', σ' = [some (.ref a), some (.ref o), some (.int m'), some (.int c)] ∧ Same H H2 ∧ H2 o = some (.lst (qs'.map V.ref)) ∧ Pairs H2 qs' acc' ∧ acc' ++ [(m', c)] = stepM acc (m, c) ∧ acc'.length ≤ n) ?_ ?_
        · rintro σ' H2 ⟨m', qs', acc', rfl, s2, e2, p2, es, l2⟩
          walk_at "wp"
          refine ⟨tyv_l e2, fun p np => ?_⟩
          have e3 : upd H2 p (.tup [.int m', .int c]) o = some (.lst (qs'.map V.ref)) := (same_upd np) _ _ e2
          refine app_l e3 (by rw [List.length_map, p2.len]; omega) (hN _ _ ⟨ok2, _, _, qs' ++ [p], rfl, same_mut (s2.trans (same_upd np)) no, ?_, ?_, ?_⟩)
          · rw [upd_same, List.map_append]; rfl
          · rw [← es]
            exact ((p2.same (same_upd np)).snoc (r := (m', c)) upd_same).updL e3
          · rw [← es, List.length_append]; simp; omega
        · intro N' hN'
          rw [w_if]
          walk_at "wp"
          intro p np
          have s3 : Same H2 (upd H2 p (.lst [])) := same_upd np
          refine ne_rows (ts := []) ((rows_of e2 p2 (by omega)).same s3) (rows_nil upd_same) ?_
          walk_at "wp"
          have e2' := s3 _ _ e2
          have p2' := p2.same s3
          rcases rw_cases acc with rfl | ⟨b, l, rfl⟩
          · exact hN' _ _ ⟨m, qs', [], rfl, s2.trans s3, e2', p2', rfl, Nat.zero_le _⟩
          · obtain ⟨q0, p0, rfl, pb, pl⟩ := p2'.snoc_inv
            have e3 : upd H2 p (.lst []) o = some (.lst (q0.map V.ref ++ [V.ref p0])) := by rw [e2', List.map_append]; rfl
            simp only [List.append_eq_nil_iff, List.cons_ne_self, and_false, decide_false, Bool.not_false, if_true, reduceCtorEq]
            refine ix_last e3 (ix_p1 pl ?_)
            walk_at "wp"
            refine ite2 (fun hc => ?_) (fun hc => ?_)
            · refine ⟨tyv_l e3, pop_l e3 ?_⟩
              have pl2 : PairAt (upd (upd H2 p (.lst [])) o (.lst (q0.map V.ref))) p0 l := pl.updL e3
              refine ix_p0 pl2 ?_
              walk_at "wp"
              refine hN' _ _ ⟨m + l.1, q0, b, rfl, same_mut (s2.trans s3) no, upd_same, pb.updL e3, ?_, ?_⟩
              · rw [stepM_snoc, if_pos hc.symm]
              · simp at l1; omega
            · refine hN' _ _ ⟨m, _, b ++ [l], rfl, s2.trans s3, e2', p2', ?_, l1⟩
              rw [stepM_snoc, if_neg fun z => hc z.symm]
      · intro N' hN'
        rw [w_if]
        walk_at "wp"
        refine ite2 (fun hm => ?_) (fun hm => ?_)
        · exact qe (fun z => by have := (okn.mp (okr z)).1; omega) _ s1
        · intro p np
          have s2 : Same H' (upd H' p (.lst [])) := same_upd np
          refine ne_rows (ts := []) ((rows_of e1 p1 (by omega)).same s2) (rows_nil upd_same) ?_
          walk_at "wp"
          have e2 := s2 _ _ e1
          have p2 := p1.same s2
          rcases rw_cases acc with rfl | ⟨b, l, rfl⟩
          · exact hN' _ _ ⟨qs, rfl, s1.trans s2, e2, p2, okn.mpr ⟨by omega, fun l b z => by simp at z⟩⟩
          · obtain ⟨q0, p0, rfl, pb, pl⟩ := p2.snoc_inv
            have e3 : upd H' p (.lst []) o = some (.lst (q0.map V.ref ++ [V.ref p0])) := by rw [e2, List.map_append]; rfl
            simp only [List.append_eq_nil_iff, List.cons_ne_self, and_false, decide_false, Bool.not_false, if_true, reduceCtorEq]
            refine ix_last e3 (ix_p1 pl ?_)
            walk_at "wp"
            refine ite2 (fun hc => ?_) (fun hc => ?_)
            · exact qe (fun z => by have := (okn.mp (okr z)).2 l b rfl; omega) _ (s1.trans s2)
            · refine hN' _ _ ⟨_, rfl, s1.trans s2, e2, p2, okn.mpr ⟨by omega, fun l' b' z => ?_⟩⟩
              have : l = l' := by simpa using (List.append_inj' z rfl).2
              subst this
              omega
    · rintro σ H' ⟨ok, x, y, qs, rfl, s1, e1, p1, l1⟩
      rw [List.take_length] at p1 l1 ok
      walk_at "wp"
      exact q ok H' o s1 no ⟨qs, e1, p1, Nat.le_trans l1 hz⟩

end
/-- a new mill; what makes none is refused -/
def sp_Mill_init (K : PySem.W.Frag) (A : Adr) : Sp := fun vs H Q E => ∃ (x : Addr) (b : Int) (a dx : Addr) (rs : Rw), vs = [.ref x, .int b, .ref a] ∧ H x = some (.ins A.Mill dx []) ∧ RowsAt H a rs ∧
  (Ok rs → ∀ H' : Hp, MillAtF A.Mill H H' x b (one rs) → (∀ y o, H y = some o → y ≠ x → H' y = some o) → Q .non H') ∧ (¬ Ok rs → ∀ H' : Hp, (∀ y o, H y = some o → y ≠ x → H' y = some o) → E (.ref A.NoMill) none H')
section
variable {P : Program} {w : World} {K : PySem.W.Frag} {mg : Str → Option Value} {base : Heap} {A : Adr}
theorem ok_Mill_init (T : Txt K mg A) : FnOk P w K mg base (L2.CX P w) 2 A.f_Mill_init A.d_Mill_init ["self", "base", "stretches"] (sp_Mill_init K A) := by
  have G_put_together := ok_put_together (P := P) (w := w) (base := base) T
  refine T.F_Mill_init.okX sc_Mill_init (fun vs H Q E h => ?_) (fun cdv AA outer s H vs Q E hr h => ?_)
  · obtain ⟨_, _, _, _, _, rfl, _⟩ := h
    rfl
  · obtain ⟨x, b, a, dx, rs, rfl, hx, hR, q, qe⟩ := h
    refine ⟨_, (pss_cons (ps_fld (pv 0) (pv 1) rfl)
        (pss_cons (ps_fld (pv 0) (pe_call (E := E) G_put_together (hr.mono (by decide)) (by rfl) T.g_put_together T.F_put_together.kp T.b_put_together .nil (passes_call (W := fun cls d _ H => E cls d H) (takes_of rfl rfl rfl rfl) fun _ _ _ _ h => h) (pa_cons (pv 2) pa_nil)) rfl)
        (pss_one (ps_fld (pv 0) (pe_callB (cr_sum rfl) (by rfl) T.n_sum (by decide +kernel) (pa_cons (pe_lc (own := [("many", 3), ("cost", 4)]) (g := gTup K 2 (gCons (gName 3) (gCons (gName 4) gNil))) (tt := tYes) (te := tVar 3) rfl sc_Mill_init.nd (pi_list (pe_fld (pv 0) rfl)) (blkOk_by (own := [("many", 3), ("cost", 4)]) (N := N_Mill_init) (sc := defScope s_Mill_init) (by decide +kernel)) (fun _ _ _ _ _ => (pg_tup rfl (pgs_cons (pg_name (i := 3) sc_Mill_init.nd rfl (.inl rfl)) (pgs_cons (pg_name (i := 4) sc_Mill_init.nd rfl (.inl rfl)) pgs_nil)))) (fun _ _ _ _ _ => pts_nil) (fun _ _ _ _ _ => (pv 3))) pa_nil)) rfl)))), ?_⟩
    walk_at "wp"
    refine ⟨A.Mill, dx, [], hx, T.mc.cl, T.mc.nb, (by decide), ?_⟩
    refine ⟨a, rs, rfl, hR.but hx but_upd, fun ok H1 l s1 nl hl => ?_, fun nok H1 s1 => qe nok H1 fun y o e n => s1 _ _ (but_upd y o e n)⟩
    have h1 : H1 x = some (.ins A.Mill dx (putF "base" (.int b) [])) := s1 _ _ upd_same
    walk_at "wp"
    refine ⟨A.Mill, dx, _, h1, T.mc.cl, T.mc.ns, len1 _ _, ?_⟩
    have hl2 : RowsAt (upd H1 x (.ins A.Mill dx (putF "stretches" (.ref l) (putF "base" (.int b) [])))) l (one rs) := hl.but h1 but_upd
    refine ⟨x, A.Mill, dx, _, _, rfl, upd_same, T.mc.cl, T.mc.ns, by rw [lookup_putF, if_pos rfl], ?_⟩
    walk_at "wp"
    refine lc_rowsI (a := l) hl2 (fun _ => true) (·.1) (fun r => rfl) (fun r H' R _ h => h) (fun r H' R _ _ _ h => ⟨_, rfl, h⟩) fun D nD => ?_
    rw [fil_all]
    refine sum_ints upd_same ?_
    walk_at "wp"
    have hxD : x ≠ D := ne_of_none (show upd H1 x (.ins A.Mill dx (putF "stretches" (.ref l) (putF "base" (.int b) []))) x = some _ from upd_same) nD
    refine ⟨A.Mill, dx, _, by rw [upd_ne hxD]; exact upd_same, T.mc.cl, T.mc.nz, len2 _ _ _ _, ?_⟩
    refine q ok _ ⟨dx, l, upd_same, (hl2.same (same_upd nD)).but (x := x) (by rw [upd_ne hxD]; exact upd_same) but_upd, ?_⟩ fun y o e n => ?_
    · cases z : H l with
      | none => rfl
      | some o =>
        by_cases hx2 : l = x
        · rw [hx2, upd_same] at nl; cases nl
        · rw [upd_ne hx2, z] at nl; cases nl
    rw [upd_ne n, upd_ne (ne_of_none (but_upd y o (s1 _ _ (but_upd y o e n)) n) nD), upd_ne n]
    exact s1 _ _ (but_upd y o e n)
/-- Mill(b, rows) -/
theorem make_millF {a : Addr} {b : Int} {rs : Rw} {H : Hp} {Q : VK} {E : XK} (hR : RowsAt H a rs) (ok : Ok rs) (q : ∀ (H' : Hp) (x : Addr), Same H H' → H x = none → MillAtF A.Mill H H' x b (one rs) → Q (.ref x) H') :
    rMake A.Mill (sp_Mill_init K A) E [.int b, .ref a] H Q := fun x dx nx nd ne => by
  have s1 : Same H (upd (upd H dx (.own x)) x (.ins A.Mill dx [])) := fun y o e => by rw [upd_ne (ne_of_none e nx), upd_ne (ne_of_none e nd)]; exact e
  exact ⟨x, b, a, dx, rs, rfl, upd_same, hR.same s1, fun _ H' hM k => ⟨rfl, q H' x (same_new nx nd k) nx (hM.older s1)⟩, fun nok => absurd ok nok⟩
theorem make_mill {a : Addr} {b : Int} {rs : Rw} {H : Hp} {Q : VK} {E : XK} (hR : RowsAt H a rs) (ok : Ok rs) (q : ∀ (H' : Hp) (x : Addr), Same H H' → H x = none → MillAt A.Mill H' x b (one rs) → Q (.ref x) H') :
    rMake A.Mill (sp_Mill_init K A) E [.int b, .ref a] H Q := make_millF hR ok fun H' x s n m => q H' x s n m.at_
end
/-- what a piece costs; a piece that there is not is refused -/
def sp_Mill_piece (K : PySem.W.Frag) (A : Adr) : Sp := fun vs H Q E => ∃ (x : Addr) (b : Int) (rs : Rw) (n : Int), vs = [.ref x, .int n] ∧ MillAt A.Mill H x b rs ∧ Good rs ∧ (1 ≤ n ∧ n ≤ tot rs → Q (.int (pcs rs n)) H) ∧
  (¬ (1 ≤ n ∧ n ≤ tot rs) → E (.ref A.NoCount) none H)
section
variable {P : Program} {w : World} {K : PySem.W.Frag} {mg : Str → Option Value} {base : Heap} {A : Adr}
theorem ok_Mill_piece (T : Txt K mg A) : FnOk P w K mg base (L2.CX P w) 1 A.f_Mill_piece A.d_Mill_piece ["self", "number"] (sp_Mill_piece K A) := by
  refine T.F_Mill_piece.okX sc_Mill_piece (fun vs H Q E h => ?_) (fun cdv AA outer s H vs Q E hr h => ?_)
  · obtain ⟨_, _, _, _, rfl, _⟩ := h
    rfl
  · obtain ⟨x, b, rs, n, rfl, hM, hG, q, qe⟩ := h
    refine ⟨_, (pss_cons (ps_if (pt_not (pt_chain op_le op_le pe_int (pv 1) (pe_fld (pv 0) rfl)))
          (pss_one (ps_raise rfl (takes_of rfl rfl rfl rfl) (pmk_own PySem.F.excBase_ValueError T.x_NoCount T.g_NoCount T.k_NoCount (raises_own T.rb_NoCount T.rt_NoCount) rfl)))
          pss_nil)
        (pss_cons (ps_for (passes_of rfl) rfl (pi_list (pe_fld (pv 0) rfl)) (pg_tup rfl (pgs_cons (pg_name (i := 2) sc_Mill_piece.nd rfl (.inl rfl)) (pgs_cons (pg_name (i := 3) sc_Mill_piece.nd rfl (.inl rfl)) pgs_nil)))
          (pss_cons (ps_if (pt_cmpR op_le (pv 1) (pv 2) (nomark _))
            (pss_one (ps_ret (pv 3)))
            pss_nil)
          (pss_one (ps_aug (i := 1) sc_Mill_piece.nd rfl (.inl rfl) (pv 2) ip_sub))))
        (pss_one (ps_ret pe_non)))), ?_⟩
    walk_at "wpi"
    have walk : 1 ≤ n ∧ n ≤ tot rs → rFld K "stretches" (.ref x) H fun v2 H2 => ∃ a, v2 = .ref a ∧ rForL K a (gTup K 2 (gCons (gName 2) (gCons (gName 3) gNil)))
        (tSeq (tIfS (tTest (tOp rLeI (tVar 1) (tVar 2))) (tRet (tVar 3)) tNext) (tAug 1 (tVar 2) (ipI fun i j => i - j)))
        { nx := tRet (tC .non) { nx := fun _ H' => Q .non H', rt := Q }, rt := Q } [some (.ref x), some (.int n), none, none] H2 := by
      rintro ⟨h0, h1⟩
      refine fld_str hM T.mc fun l hl => ⟨l, rfl, ?_⟩
      obtain ⟨ps, ea, hp, hz⟩ := hl
      refine for_rows (K := K) (a := l) (ps := ps) (rs := rs) (fun k σ H' => H' = H ∧ ∃ n' y z, σ = [some (.ref x), some (.int n'), y, z] ∧ pcs (rs.drop k) n' = pcs rs n ∧ 1 ≤ n' ∧ n' ≤ tot (rs.drop k)) ⟨rfl, n, none, none, rfl, by simp, h0, by simpa using h1⟩ ?_ ?_ ?_
      · rintro k σ H' hk ⟨rfl, _⟩
        exact ⟨ea, hp⟩
      · rintro k r σ H' hk ⟨rfl, n', y, z, rfl, e, h2, h3⟩ N hN
        have hkl := (List.getElem?_eq_some_iff.mp hk).1
        have hd : rs.drop k = r :: rs.drop (k + 1) := by rw [List.drop_eq_getElem_cons hkl, (List.getElem?_eq_some_iff.mp hk).2]
        rw [hd, pcs] at e
        rw [hd, tot_cons] at h3
        walk_at "wpi"
        refine ite2 (fun hle => ?_) (fun hle => ?_)
        · rw [if_pos hle] at e
          rw [e]
          exact q ⟨h0, h1⟩
        · rw [if_neg hle] at e
          exact hN _ _ ⟨rfl, _, _, _, rfl, e, by omega, by omega⟩
      · rintro σ H' ⟨rfl, n', y, z, rfl, e, h2, h3⟩
        rw [List.drop_length, tot_nil] at h3
        omega
    refine ite2 (fun h0 => fld_size hM T.mc ?_) (fun h0 => ?_)
    · walk_at "wp"
      by_cases h1 : n ≤ tot rs
      · simp only [h1, decide_true, Bool.not_true, Bool.false_eq_true, if_false]
        exact walk ⟨h0, h1⟩
      · simp only [h1, decide_false, Bool.not_false, if_true]
        exact qe (by omega)
    · exact qe (by omega)

end
def sp_Mill_prices (K : PySem.W.Frag) (A : Adr) : Sp := fun vs H Q E => ∃ (x : Addr) (b : Int) (rs : Rw), vs = [.ref x] ∧ MillAt A.Mill H x b rs ∧
  ∀ (H' : Hp) (t : Addr), Same H H' → H t = none → H' t = some (.lst ((if rs = [] then [0] else rs.map (·.2)).map V.int)) → Q (.ref t) H'
section
variable {P : Program} {w : World} {K : PySem.W.Frag} {mg : Str → Option Value} {base : Heap} {A : Adr}
theorem ok_Mill_prices (T : Txt K mg A) : FnOk P w K mg base (L2.CX P w) 1 A.f_Mill_prices A.d_Mill_prices ["self"] (sp_Mill_prices K A) := by
  refine T.F_Mill_prices.okX sc_Mill_prices (fun vs H Q E h => ?_) (fun cdv AA outer s H vs Q E hr h => ?_)
  · obtain ⟨_, _, _, rfl, _⟩ := h
    rfl
  · obtain ⟨x, b, rs, rfl, hM, q⟩ := h
    refine ⟨_, (pss_cons (ps_if (pt_cmpR (op_eqD hr.units) (pe_fld (pv 0) rfl) (pe_lst pa_nil) (nomark _))
          (pss_one (ps_ret (pe_lst (pa_cons pe_int pa_nil))))
          pss_nil)
        (pss_one (ps_ret (pe_lc (own := [("many", 1), ("cost", 2)]) (g := gTup K 2 (gCons (gName 1) (gCons (gName 2) gNil))) (tt := tYes) (te := tVar 2) rfl sc_Mill_prices.nd (pi_list (pe_fld (pv 0) rfl)) (blkOk_by (own := [("many", 1), ("cost", 2)]) (N := N_Mill_prices) (sc := defScope s_Mill_prices) (by decide +kernel)) (fun _ _ _ _ _ => (pg_tup rfl (pgs_cons (pg_name (i := 1) sc_Mill_prices.nd rfl (.inl rfl)) (pgs_cons (pg_name (i := 2) sc_Mill_prices.nd rfl (.inl rfl)) pgs_nil)))) (fun _ _ _ _ _ => pts_nil) (fun _ _ _ _ _ => (pv 2)))))), ?_⟩
    walk_at "wpi"
    refine fld_str hM T.mc fun l hl => ?_
    walk_at "wp"
    intro p np
    have s1 := same_upd (o := .lst []) np
    refine eq_rows (hl.same s1) (rows_nil upd_same) ?_
    walk_at "wp"
    refine ite2 (fun hn => ?_) (fun hn => ?_)
    · intro t nt
      refine q _ t (s1.trans (same_upd nt)) (s1.free nt) ?_
      rw [upd_same, if_pos hn]
      rfl
    · refine fld_str (hM.same s1) T.mc fun l hl => ?_
      walk_at "wp"
      refine lc_rowsI (a := l) hl (fun _ => true) (·.2) (fun r => rfl) (fun r H' R _ h => h) (fun r H' R _ _ _ h => ⟨_, rfl, h⟩) fun D nD => ?_
      rw [fil_all]
      refine q _ D (s1.trans (same_upd nD)) (s1.free nD) ?_
      rw [upd_same, if_neg hn]

end
/-- a cell of the script, mixed: some number from 0 on, below 2^62 -/
def sp_l_cell_at (K : PySem.W.Frag) (A : Adr) : Sp := fun vs H Q _ => ∃ (a : Addr) (ns : List Int) (k : Int), vs = [.ref a, .int k] ∧ SqL K H a (ns.map V.int) ∧ ns.length ≤ 63 ∧ 0 ≤ k ∧ k < 1000000 ∧
  ∀ (H' : Hp) (c : Int), Same H H' → 0 ≤ c → c < 4611686018427387904 → Q (.int c) H'
section
variable {P : Program} {w : World} {K : PySem.W.Frag} {mg : Str → Option Value} {base : Heap} {A : Adr}
theorem ok_l_cell_at (T : Txt K mg A) : FnOk P w K mg base (L2.CX P w) 1 A.f_l_cell_at A.d_l_cell_at ["_law_script", "_law_k"] (sp_l_cell_at K A) := by
  refine T.F_l_cell_at.okX sc_l_cell_at (fun vs H Q E h => ?_) (fun cdv AA outer s H vs Q E hr h => ?_)
  · obtain ⟨_, _, _, rfl, _⟩ := h
    rfl
  · obtain ⟨a, ns, k, rfl, hS, hlen, hk, hk2, q⟩ := h
    refine ⟨_, (pss_cons (ps_set (i := 2) sc_l_cell_at.nd rfl (.inl rfl) pe_int)
        (pss_cons (ps_if (pt_cmpR (op_neD hr.units) (pv 0) (pe_lst pa_nil) (nomark _))
          (pss_one (ps_set (i := 2) sc_l_cell_at.nd rfl (.inl rfl) (pe_ix ix_list (pv 0) (pe_op op_mod (pv 1) (pe_callB c_len (by rfl) T.n_len (by decide +kernel) (pa_cons (pv 0) pa_nil))) (fun _ _ => rfl))))
          pss_nil)
        (pss_cons (ps_set (i := 3) sc_l_cell_at.nd rfl (.inl rfl) (pe_op op_mod (pe_op op_add (pe_op op_mul (pv 2) pe_int) (pe_op op_mul (pe_op op_add (pv 1) pe_int) pe_int)) pe_int))
        (pss_cons (ps_set (i := 3) sc_l_cell_at.nd rfl (.inl rfl) (pe_op op_mod (pe_op op_mul (pe_op op_mod (pe_op op_mul (pv 3) (pv 3)) pe_int) pe_int) pe_int))
        (pss_one (ps_ret (pe_op op_add (pe_op op_mul (pv 3) pe_int) (pe_op op_mod (pe_op op_mul (pv 3) (pv 3)) pe_int)))))))), ?_⟩
    walk_at "wp"
    refine if_join (fun σ' H' => ∃ c : Int, σ' = [some (.ref a), some (.int k), some (.int c), none] ∧ Same H H') ?_ ?_
    · rintro σ' H' ⟨c, rfl, s1⟩
      walk_at "wp"
      generalize hm : (c * 48271 + (k + 1) * 7919) % 2147483647 = m
      have m0 : 0 ≤ m ∧ m < 2147483647 := by omega
      generalize m * m = mm
      generalize hy : mm % 2147483629 * 48271 % 2147483647 = z
      have z0 : 0 ≤ z ∧ z < 2147483647 := by omega
      have y0 : 0 ≤ mm % 2147483629 ∧ mm % 2147483629 < 2147483629 := by omega
      generalize z * z = zz
      refine ⟨.inl ⟨by omega, by omega⟩, .inl ⟨by omega, by omega⟩, ?_⟩
      exact q H' _ s1 (by omega) (by omega)
    · intro N' hN
      rw [w_if]
      walk_at "wp"
      intro p hp
      have s1 := same_upd (o := .lst []) hp
      refine ne_ints (ms := []) (s1.seq hS) (SqL.of upd_same) ?_
      walk_at "wp"
      by_cases hn : ns = []
      · rw [hn]
        exact hN _ _ ⟨0, rfl, s1⟩
      · have hl : 0 < ns.length := List.length_pos_iff.mpr hn
        simp only [hn, decide_false, Bool.not_false, if_true]
        refine len_l (s1.seq hS) ?_
        walk_at "wp"
        rw [List.length_map]
        refine ⟨by omega, ?_⟩
        refine ix_int (s1.seq hS) (Int.emod_nonneg _ (by omega)) (Int.emod_lt_of_pos _ (by omega)) fun c _ _ => ?_
        exact hN _ _ ⟨c, rfl, s1⟩

end
/-- is it a whole number -/
def sp_l_whole (K : PySem.W.Frag) (A : Adr) : Sp := fun vs H Q _ => ∃ (i : Int), vs = [.int i] ∧ Q (.bl true) H
section
variable {P : Program} {w : World} {K : PySem.W.Frag} {mg : Str → Option Value} {base : Heap} {A : Adr}
theorem ok_l_whole (T : Txt K mg A) : FnOk P w K mg base (L2.CX P w) 1 A.f_l_whole A.d_l_whole ["_law_found"] (sp_l_whole K A) := by
  refine T.F_l_whole.okX sc_l_whole (fun vs H Q E h => ?_) (fun cdv AA outer s H vs Q E hr h => ?_)
  · obtain ⟨_, rfl, _⟩ := h
    rfl
  · obtain ⟨i, rfl, q⟩ := h
    refine ⟨_, (pss_one (ps_ret (pe_and (pe_callB call_isi (by rfl) T.n_isinstance (by decide +kernel) (pa_cons (pv 0) (pa_cons (pe_bltn (v := .ty "int") (by rfl) T.n_int (by decide +kernel) rfl) pa_nil))) (pe_one (pe_not (pe_callB call_isi (by rfl) T.n_isinstance (by decide +kernel) (pa_cons (pv 0) (pa_cons (pe_bltn (v := .ty "bool") (by rfl) T.n_bool (by decide +kernel) rfl) pa_nil)))))))), ?_⟩
    walk_at "wp"
    refine isi_ii ⟨true, rfl, iteT (isi_ib ⟨false, rfl, q⟩)⟩
theorem w_whole {i : Int} {H : Hp} {Q : VK} {E : XK} : sp_l_whole K A [.int i] H Q E = Q (.bl true) H := propext ⟨fun ⟨_, e, q⟩ => by cases e; exact q, fun q => ⟨i, rfl, q⟩⟩
end
/-- a number of up to 38 figures -/
def sp_l_wide (K : PySem.W.Frag) (A : Adr) : Sp := fun vs H Q _ => ∃ (c : Int), vs = [.int c] ∧ 0 ≤ c ∧ ∀ n, 0 ≤ n → n < 100000000000000000000000000000000000000 → Q (.int n) H
section
variable {P : Program} {w : World} {K : PySem.W.Frag} {mg : Str → Option Value} {base : Heap} {A : Adr}
theorem ok_l_wide (T : Txt K mg A) : FnOk P w K mg base (L2.CX P w) 1 A.f_l_wide A.d_l_wide ["_law_cell"] (sp_l_wide K A) := by
  refine T.F_l_wide.okX sc_l_wide (fun vs H Q E h => ?_) (fun cdv AA outer s H vs Q E hr h => ?_)
  · obtain ⟨_, rfl, _⟩ := h
    rfl
  · obtain ⟨c, rfl, hc, q⟩ := h
    refine ⟨_, (pss_cons (ps_if (pt_cmpR op_lt (pe_op op_mod (pv 0) pe_int) pe_int (nomark _))
          (pss_one (ps_ret (pe_op op_mod (pe_op op_fdiv (pv 0) pe_int) pe_int)))
          pss_nil)
        (pss_cons (ps_if (pt_cmpR op_eq (pe_op op_mod (pv 0) pe_int) pe_int (nomark _))
          (pss_one (ps_ret (pe_op op_mod (pe_op op_fdiv (pv 0) pe_int) pe_int)))
          pss_nil)
        (pss_one (ps_ret (pe_op op_add (pe_op op_mul (pe_op op_mod (pe_op op_mul (pe_op op_fdiv (pv 0) pe_int) pe_int) (pe_op op_pow pe_int pe_int)) (pe_op op_pow pe_int pe_int)) (pe_op op_mod (pe_op op_fdiv (pv 0) pe_int) (pe_op op_pow pe_int pe_int))))))), ?_⟩
    walk_at "wpi"
    refine ite2 (fun _ => q _ (by omega) (by omega)) fun _ => ite2 (fun _ => q _ (by omega) (by omega)) fun _ => q _ (by omega) (by omega)

end
/-- a cost of up to 38 figures, of any sign -/
def sp_l_cost (K : PySem.W.Frag) (A : Adr) : Sp := fun vs H Q _ => ∃ (c : Int), vs = [.int c] ∧ 0 ≤ c ∧ ∀ n : Int, n.natAbs < 100000000000000000000000000000000000000 → Q (.int n) H
section
variable {P : Program} {w : World} {K : PySem.W.Frag} {mg : Str → Option Value} {base : Heap} {A : Adr}
theorem ok_l_cost (T : Txt K mg A) : FnOk P w K mg base (L2.CX P w) 2 A.f_l_cost A.d_l_cost ["_law_cell"] (sp_l_cost K A) := by
  have G_l_wide := ok_l_wide (P := P) (w := w) (base := base) T
  refine T.F_l_cost.okX sc_l_cost (fun vs H Q E h => ?_) (fun cdv AA outer s H vs Q E hr h => ?_)
  · obtain ⟨_, rfl, _⟩ := h
    rfl
  · obtain ⟨c, rfl, hc, q⟩ := h
    refine ⟨_, (pss_cons (ps_set (i := 1) sc_l_cost.nd rfl (.inl rfl) (pe_call (E := E0) G_l_wide (hr.mono (by decide)) (by rfl) T.g__law_wide T.F_l_wide.kp T.b_l_wide .nil passL (pa_cons (pe_op op_fdiv (pv 0) pe_int) pa_nil)))
        (pss_cons (ps_if (pt_cmpR op_eq (pe_op op_mod (pv 0) pe_int) pe_int (nomark _))
          (pss_one (ps_ret (pe_un un_neg (pv 1))))
          pss_nil)
        (pss_one (ps_ret (pv 1))))), ?_⟩
    walk_at "wp"
    refine ⟨_, rfl, by omega, fun n h0 h1 => ?_⟩
    walk_at "wpi"
    exact ite2 (fun _ => q _ (by omega)) fun _ => q _ (by omega)

end
/-- drawn stretches: some, each of up to 10^38 pieces, costs of up to 38 figures, never falling: a new list -/
def sp_l_stretches (K : PySem.W.Frag) (A : Adr) : Sp := fun vs H Q _ => ∃ (a : Addr) (ns : List Int) (at_ mst : Int), vs = [.ref a, .int at_, .int mst] ∧ SqL K H a (ns.map V.int) ∧ ns.length ≤ 63 ∧ 0 ≤ at_ ∧ at_ < 900000 ∧ 0 ≤ mst ∧ mst ≤ 60 ∧
  ∀ (H' : Hp) (p : Addr) (rs : Rw), Same H H' → H p = none → RowsAt H' p rs → Ok rs → Drawn rs → rs.length ≤ mst.toNat → Q (.ref p) H'
section
variable {P : Program} {w : World} {K : PySem.W.Frag} {mg : Str → Option Value} {base : Heap} {A : Adr}
theorem ok_l_stretches (T : Txt K mg A) : FnOk P w K mg base (L2.CX P w) 3 A.f_l_stretches A.d_l_stretches ["_law_script", "_law_at", "_law_most"] (sp_l_stretches K A) := by
  have G_l_cell_at := ok_l_cell_at (P := P) (w := w) (base := base) T
  have G_l_cost := ok_l_cost (P := P) (w := w) (base := base) T
  have G_l_wide := ok_l_wide (P := P) (w := w) (base := base) T
  refine T.F_l_stretches.okX sc_l_stretches (fun vs H Q E h => ?_) (fun cdv AA outer s H vs Q E hr h => ?_)
  · obtain ⟨_, _, _, _, rfl, _⟩ := h
    rfl
  · obtain ⟨a, ns, at_, mst, rfl, hS, hlen, ha0, ha1, hm0, hm1, q⟩ := h
    refine ⟨_, (pss_cons (ps_set (i := 3) sc_l_stretches.nd rfl (.inr rfl) (pe_lst pa_nil))
        (pss_cons (ps_for (passes_of rfl) rfl (pi_range1 (by rfl) T.n_range (pa_cons (pe_op op_mod (pe_call (E := E0) G_l_cell_at (hr.mono (by decide)) (by rfl) T.g__law_cell_at T.F_l_cell_at.kp T.b_l_cell_at .nil passL (pa_cons (pv 0) (pa_cons (pv 1) pa_nil))) (pe_op op_add (pv 2) pe_int)) pa_nil)) (pg_name (i := 4) sc_l_stretches.nd rfl (.inl rfl))
          (pss_cons (ps_set (i := 5) sc_l_stretches.nd rfl (.inl rfl) (pe_call (E := E0) G_l_cell_at (hr.mono (by decide)) (by rfl) T.g__law_cell_at T.F_l_cell_at.kp T.b_l_cell_at .nil passL (pa_cons (pv 0) (pa_cons (pe_op op_add (pe_op op_add (pv 1) pe_int) (pv 4)) pa_nil))))
          (pss_one (ps_expr (pe_bm PySem.F.plainAttrs_list PySem.F.slot_list_append PySem.F.type_list_append mt_append (pv 3) (pa_cons (pe_tup (pa_cons (pe_op op_add pe_int (pe_call (E := E0) G_l_wide (hr.mono (by decide)) (by rfl) T.g__law_wide T.F_l_wide.kp T.b_l_wide .nil passL (pa_cons (pe_op op_fdiv (pv 5) pe_int) pa_nil))) (pa_cons (pe_call (E := E0) G_l_cost (hr.mono (by decide)) (by rfl) T.g__law_cost T.F_l_cost.kp T.b_l_cost .nil passL (pa_cons (pe_call (E := E0) G_l_cell_at (hr.mono (by decide)) (by rfl) T.g__law_cell_at T.F_l_cell_at.kp T.b_l_cell_at .nil passL (pa_cons (pv 0) (pa_cons (pe_op op_add (pe_op op_add (pv 1) pe_int) (pv 4)) pa_nil))) pa_nil)) pa_nil))) pa_nil))))))
        (pss_cons (ps_set (i := 6) sc_l_stretches.nd rfl (.inr rfl) (pe_callB cr_sortedI (by rfl) T.n_sorted (by decide +kernel) (pa_cons (pe_lc (own := [("_law_many", 7), ("_law_cost_here", 8)]) (g := gTup K 2 (gCons (gName 7) (gCons (gName 8) gNil))) (tt := tYes) (te := tVar 8) rfl sc_l_stretches.nd (pi_list (pv 3)) (blkOk_by (own := [("_law_many", 7), ("_law_cost_here", 8)]) (N := N_l_stretches) (sc := defScope s_l_stretches) (by decide +kernel)) (fun _ _ _ _ _ => (pg_tup rfl (pgs_cons (pg_name (i := 7) sc_l_stretches.nd rfl (.inl rfl)) (pgs_cons (pg_name (i := 8) sc_l_stretches.nd rfl (.inl rfl)) pgs_nil)))) (fun _ _ _ _ _ => pts_nil) (fun _ _ _ _ _ => (pv 8))) pa_nil)))
        (pss_one (ps_ret (pe_lc (own := [("_law_k", 4)]) (g := gName 4) (tt := tYes) (te := tTup ((tCons (tOp (rIxT K) (tOp (rIxL K) (tVar 3) (tVar 4)) (tC (.int 0))) (tCons (tOp (rIxL K) (tVar 6) (tVar 4)) tNil)))) rfl sc_l_stretches.nd (pi_range1 (by rfl) T.n_range (pa_cons (pe_callB c_len (by rfl) T.n_len (by decide +kernel) (pa_cons (pv 3) pa_nil)) pa_nil)) (blkOk_by (own := [("_law_k", 4)]) (N := N_l_stretches) (sc := defScope s_l_stretches) (by decide +kernel)) (fun _ _ _ _ _ => (pg_name (i := 4) sc_l_stretches.nd rfl (.inl rfl))) (fun _ _ _ _ _ => pts_nil) (fun _ _ _ _ _ => (pe_tup (pa_cons (pe_ix ix_tup (pe_ix ix_list (pv 3) (pv 4) (fun _ _ => rfl)) pe_int (fun _ _ => rfl)) (pa_cons (pe_ix ix_list (pv 6) (pv 4) (fun _ _ => rfl)) pa_nil)))))))))), ?_⟩
    walk_at "wp"
    intro o no
    have s0 := same_upd (o := .lst []) no
    refine ⟨a, ns, at_, rfl, s0.seq hS, hlen, ha0, by omega, fun H1 c0 s1 h0 h1 => ?_⟩
    walk_at "wp"
    refine ⟨by omega, ?_⟩
    have hn0 : 0 ≤ c0 % (mst + 1) := Int.emod_nonneg _ (by omega)
    have hn1 : c0 % (mst + 1) < mst + 1 := Int.emod_lt_of_pos _ (by omega)
    generalize c0 % (mst + 1) = n at hn0 hn1
    refine for_rng (by omega) (by omega) (fun k σ H' => ∃ x y qs rs, σ = [some (.ref a), some (.int at_), some (.int mst), some (.ref o), x, y, none, none, none] ∧ Same H H' ∧ H' o = some (.lst (qs.map V.ref)) ∧ Pairs H' qs rs ∧ rs.length = k ∧ Drawn rs)
      ⟨none, none, [], [], rfl, s0.trans s1, s1 _ _ upd_same, .nil, rfl, by simp [Drawn]⟩ ?_ ?_
    · rintro k σ H' hk ⟨x, y, qs, rs, rfl, s2, e2, p2, l2, d2⟩ N hN
      walk_at "wp"
      refine ⟨a, ns, _, rfl, s2.seq hS, hlen, by omega, by omega, fun H3 c s3 hc0 hc1 => ?_⟩
      walk_at "wp"
      have e3 := s3 _ _ e2
      refine ⟨tyv_l e3, ⟨_, rfl, by omega, fun m hm0 hm1 => ?_⟩⟩
      walk_at "wp"
      refine ⟨a, ns, _, rfl, (s2.trans s3).seq hS, hlen, by omega, by omega, fun H4 c4 s4 _ _ => ⟨_, rfl, by omega, fun d hd => ?_⟩⟩
      walk_at "wp"
      intro p np
      have e4 := (same_upd (o := .tup [.int (1 + m), .int d]) np) _ _ (s4 _ _ e3)
      refine app_l e4 (by rw [List.length_map, p2.len]; omega) (hN _ _ ⟨_, _, qs ++ [p], rs ++ [(1 + m, d)], rfl, same_mut (((s2.trans s3).trans s4).trans (same_upd np)) no, ?_, ?_, ?_, ?_⟩)
      · rw [upd_same, List.map_append]; rfl
      · exact ((((p2.same s3).same s4).same (same_upd np)).snoc (r := (1 + m, d)) upd_same).updL e4
      · simp [l2]
      · intro r hr
        rcases List.mem_append.mp hr with hr | hr
        · exact d2 r hr
        · simp at hr
          rw [hr]
          exact ⟨by show 1 ≤ 1 + m; omega, by show 1 + m ≤ 10 ^ 38; omega, by show d.natAbs < 10 ^ 38; omega⟩
    · rintro σ H' ⟨x, y, qs, rs, rfl, s2, e2, p2, l2, d2⟩
      walk_at "wp"
      have hR : RowsAt H' o rs := rows_of e2 p2 (by omega)
      refine lc_rowsI (a := o) hR (fun _ => true) (·.2) (fun r => rfl) (fun r H' R _ h => h) (fun r H' R _ _ _ h => ⟨_, rfl, h⟩) fun D nD => ?_
      rw [fil_all]
      refine ⟨D, rs.map (·.2), rfl, SqL.of upd_same, fun ns' p perm srt np => ?_⟩
      walk_at "wp"
      obtain ⟨ok, dr, ll⟩ := ok_zip d2 perm srt
      have s3 := same_upd (o := .lst ((rs.map (·.2)).map V.int)) nD
      have s4 := same_upd (o := .lst (ns'.map V.int)) np
      have hR2 := (hR.same s3).same s4
      refine len_rows hR2 ?_
      walk_at "wp"
      refine lc_rngP ((rs.map (·.1)).zip ns') (by rw [ll]) (by omega) (fun v => rfl) (fun j r H4 R hr s5 h => ?_) (fun H4 D2 s5 nD2 hR4 => ?_)
      · walk_at "wp"
        have hj := (List.getElem?_eq_some_iff.mp hr).1
        rw [List.getElem?_zip_eq_some] at hr
        obtain ⟨h1, h2⟩ := hr
        refine ix_rows (hR2.same s5) (by omega) (by omega) fun t r' ht hr' => ix_p0 ht ?_
        refine ix_l (SqL.of (s5 _ _ upd_same)) (at_i (v := .int r.2) (by omega) ?_) ?_
        · rw [show ((j : Int)).toNat = j by omega, List.getElem?_map, h2]; rfl
        · walk_at "wp"
          have e1 : r'.1 = r.1 := by
            rw [show ((j : Int)).toNat = j by omega] at hr'
            rw [List.getElem?_map, hr'] at h1
            exact Option.some.inj h1
          rw [e1]
          exact h
      · have s6 := ((s2.trans s3).trans s4)
        exact q H4 D2 _ (s6.trans s5) (s6.free nD2) hR4 ok dr (by omega)

end
/-- like ones put together: a new list -/
def sp_l_one (K : PySem.W.Frag) (A : Adr) : Sp := fun vs H Q _ => ∃ (a : Addr) (rs : Rw), vs = [.ref a] ∧ RowsAt H a rs ∧ ∀ (H' : Hp) (p : Addr), Same H H' → H p = none → RowsAt H' p (one rs) → Q (.ref p) H'
section
variable {P : Program} {w : World} {K : PySem.W.Frag} {mg : Str → Option Value} {base : Heap} {A : Adr}
theorem ok_l_one (T : Txt K mg A) : FnOk P w K mg base (L2.CX P w) 1 A.f_l_one A.d_l_one ["_law_rows"] (sp_l_one K A) := by
  refine T.F_l_one.okX sc_l_one (fun vs H Q E h => ?_) (fun cdv AA outer s H vs Q E hr h => ?_)
  · obtain ⟨_, _, rfl, _⟩ := h
    rfl
  · obtain ⟨a, rs, rfl, hR, q⟩ := h
    refine ⟨_, (pss_cons (ps_set (i := 1) sc_l_one.nd rfl (.inl rfl) (pe_lst pa_nil))
        (pss_cons (ps_for (passes_of rfl) rfl (pi_list (pv 0)) (pg_tup rfl (pgs_cons (pg_name (i := 2) sc_l_one.nd rfl (.inl rfl)) (pgs_cons (pg_name (i := 3) sc_l_one.nd rfl (.inl rfl)) pgs_nil)))
          (pss_cons (ps_if (PW.pt (pw_and (pt_cmpR (op_neD hr.units) (pv 1) (pe_lst pa_nil) (nomark _)) (pw_and1 (pt_cmpR op_eq (pe_ix ix_tup (pe_ix ix_list (pv 1) (pe_un un_neg pe_int) (fun _ _ => rfl)) pe_int (fun _ _ => rfl)) (pv 3) (nomark _)))))
            (pss_one (ps_set (i := 2) sc_l_one.nd rfl (.inl rfl) (pe_op op_add (pv 2) (pe_ix ix_tup (pe_bm0 PySem.F.plainAttrs_list PySem.F.slot_list_pop PySem.F.type_list_pop mt_pop (pv 1)) pe_int (fun _ _ => rfl)))))
            pss_nil)
          (pss_one (ps_expr (pe_bm PySem.F.plainAttrs_list PySem.F.slot_list_append PySem.F.type_list_append mt_append (pv 1) (pa_cons (pe_tup (pa_cons (pv 2) (pa_cons (pv 3) pa_nil))) pa_nil))))))
        (pss_one (ps_ret (pv 1))))), ?_⟩
    walk_at "wp"
    intro o no
    obtain ⟨ps, ea, hp, hz⟩ := id hR
    refine for_rows (K := K) (a := a) (ps := ps) (rs := rs) (fun n σ H' => ∃ x y qs, σ = [some (.ref a), some (.ref o), x, y] ∧ Same H H' ∧ H' o = some (.lst (qs.map V.ref)) ∧ Pairs H' qs (one (rs.take n)) ∧ (one (rs.take n)).length ≤ n)
      ⟨none, none, [], rfl, same_upd no, upd_same, .nil, Nat.le_refl _⟩ ?_ ?_ ?_
    · rintro n σ H' hn ⟨x, y, qs, rfl, s1, e1, p1, l1⟩
      exact ⟨s1 _ _ ea, hp.same s1⟩
    · rintro n ⟨m, c⟩ σ H' hn ⟨x, y, qs, rfl, s1, e1, p1, l1⟩ N hN
      have hn2 : n < rs.length := (List.getElem?_eq_some_iff.mp hn).1
      rw [take_snoc hn, one_snoc] at hN
      generalize one (rs.take n) = acc at p1 l1 hN
      walk_at "wp"
      refine if_join (fun σ' H2 => ∃ m' qs' acc', σ' = [some (.ref a), some (.ref o), some (.int m'), some (.int c)] ∧ Same H H2 ∧ H2 o = some (.lst (qs'.map V.ref)) ∧ Pairs H2 qs' acc' ∧ acc' ++ [(m', c)] = stepM acc (m, c) ∧ acc'.length ≤ n) ?_ ?_
      · rintro σ' H2 ⟨m', qs', acc', rfl, s2, e2, p2, es, l2⟩
        walk_at "wp"
        refine ⟨tyv_l e2, fun p np => ?_⟩
        have hpo : p ≠ o := fun z => by rw [z, e2] at np; cases np
        have e3 : upd H2 p (.tup [.int m', .int c]) o = some (.lst (qs'.map V.ref)) := (same_upd np) _ _ e2
        refine app_l e3 (by rw [List.length_map, p2.len]; omega) (hN _ _ ⟨_, _, qs' ++ [p], rfl, same_mut (s2.trans (same_upd np)) no, ?_, ?_, ?_⟩)
        · rw [upd_same, List.map_append]; rfl
        · rw [← es]
          exact ((p2.same (same_upd np)).snoc (r := (m', c)) upd_same).updL e3
        · rw [← es, List.length_append]; simp; omega
      · intro N' hN'
        rw [w_if]
        walk_at "wp"
        intro p np
        have s2 : Same H' (upd H' p (.lst [])) := same_upd np
        refine ne_rows (ts := []) ((rows_of e1 p1 (by omega)).same s2) (rows_nil upd_same) ?_
        walk_at "wp"
        have e2 := s2 _ _ e1
        have p2 := p1.same s2
        rcases rw_cases acc with rfl | ⟨b, l, rfl⟩
        · exact hN' _ _ ⟨m, qs, [], rfl, s1.trans s2, e2, p2, rfl, Nat.zero_le _⟩
        · obtain ⟨q0, p0, rfl, pb, pl⟩ := p2.snoc_inv
          have e3 : upd H' p (.lst []) o = some (.lst (q0.map V.ref ++ [V.ref p0])) := by rw [e2, List.map_append]; rfl
          simp only [List.append_eq_nil_iff, List.cons_ne_self, and_false, decide_false, Bool.not_false, if_true, reduceCtorEq]
          refine ix_last e3 (ix_p1 pl ?_)
          walk_at "wp"
          refine ite2 (fun hc => ?_) (fun hc => ?_)
          · refine ⟨tyv_l e3, pop_l e3 ?_⟩
            have pl2 : PairAt (upd (upd H' p (.lst [])) o (.lst (q0.map V.ref))) p0 l := pl.updL e3
            refine ix_p0 pl2 ?_
            walk_at "wp"
            refine hN' _ _ ⟨m + l.1, q0, b, rfl, same_mut (s1.trans s2) no, upd_same, pb.updL e3, ?_, ?_⟩
            · rw [stepM_snoc, if_pos hc]
            · simp at l1; omega
          · refine hN' _ _ ⟨m, _, b ++ [l], rfl, s1.trans s2, e2, p2, ?_, l1⟩
            rw [stepM_snoc, if_neg hc]
    · rintro σ H' ⟨x, y, qs, rfl, s1, e1, p1, l1⟩
      rw [List.take_length] at p1 l1
      walk_at "wp"
      exact q H' o s1 no ⟨qs, e1, p1, Nat.le_trans l1 hz⟩

end
/-- what so many pieces cost, from the cheapest on -/
def sp_l_cost_of (K : PySem.W.Frag) (A : Adr) : Sp := fun vs H Q E => ∃ (b : Int) (a : Addr) (rs : Rw) (n : Int), vs = [.int b, .ref a, .int n] ∧ RowsAt H a rs ∧ Good rs ∧ 0 ≤ n ∧ n < 10 ^ 61 ∧ Q (.int (b + cst rs n)) H
section
variable {P : Program} {w : World} {K : PySem.W.Frag} {mg : Str → Option Value} {base : Heap} {A : Adr}
theorem ok_l_cost_of (T : Txt K mg A) : FnOk P w K mg base (L2.CX P w) 1 A.f_l_cost_of A.d_l_cost_of ["_law_base", "_law_rows", "_law_many"] (sp_l_cost_of K A) := by
  refine T.F_l_cost_of.okX sc_l_cost_of (fun vs H Q E h => ?_) (fun cdv AA outer s H vs Q E hr h => ?_)
  · obtain ⟨_, _, _, _, rfl, _⟩ := h
    rfl
  · obtain ⟨b, a, rs, n, rfl, hR, hG, h0, h1, q⟩ := h
    refine ⟨_, (pss_cons (ps_for (passes_of rfl) rfl (pi_list (pv 1)) (pg_tup rfl (pgs_cons (pg_name (i := 3) sc_l_cost_of.nd rfl (.inl rfl)) (pgs_cons (pg_name (i := 4) sc_l_cost_of.nd rfl (.inl rfl)) pgs_nil)))
          (pss_cons (ps_set (i := 0) sc_l_cost_of.nd rfl (.inl rfl) (pe_op op_add (pv 0) (pe_op op_mulW (pe_callB (c_min2 rfl) (by rfl) T.n_min (by decide +kernel) (pa_cons (pv 3) (pa_cons (pv 2) pa_nil))) (pv 4))))
          (pss_one (ps_set (i := 2) sc_l_cost_of.nd rfl (.inl rfl) (pe_op op_sub (pv 2) (pe_callB (c_min2 rfl) (by rfl) T.n_min (by decide +kernel) (pa_cons (pv 3) (pa_cons (pv 2) pa_nil))))))))
        (pss_one (ps_ret (pv 0)))), ?_⟩
    walk_at "wp"
    obtain ⟨ps, ea, hp, hz⟩ := hR
    refine for_rows (K := K) (a := a) (ps := ps) (rs := rs) (fun k σ H' => H' = H ∧ ∃ t n' y z, σ = [some (.int t), some (.ref a), some (.int n'), y, z] ∧ t + cst (rs.drop k) n' = b + cst rs n ∧ 0 ≤ n' ∧ n' < 10 ^ 61) ⟨rfl, b, n, none, none, rfl, by simp, h0, h1⟩ ?_ ?_ ?_
    · rintro k σ H' hk ⟨rfl, _⟩
      exact ⟨ea, hp⟩
    · rintro k r σ H' hk ⟨rfl, t, n', y, z, rfl, e, h2, h3⟩ N hN
      have hkl := (List.getElem?_eq_some_iff.mp hk).1
      have hd : rs.drop k = r :: rs.drop (k + 1) := by rw [List.drop_eq_getElem_cons hkl, (List.getElem?_eq_some_iff.mp hk).2]
      have hr1 := hG.pos r (List.mem_of_getElem? hk)
      have hb := hG.bnd.1 r (List.mem_of_getElem? hk)
      rw [hd, cst] at e
      walk_at "wp"
      refine ⟨mulW (by omega) (by omega), ?_⟩
      exact hN _ _ ⟨rfl, _, _, _, _, rfl, by omega, by omega, by omega⟩
    · rintro σ H' ⟨rfl, t, n', y, z, rfl, e, h2, h3⟩
      rw [List.drop_length, cst] at e
      walk_at "wp"
      rw [show t = b + cst rs n by omega]
      exact q

end
/-- some number of pieces that can be -/
def sp_l_number (K : PySem.W.Frag) (A : Adr) : Sp := fun vs H Q E => ∃ (c : Int) (a : Addr) (rs : Rw), vs = [.int c, .ref a] ∧ RowsAt H a rs ∧ Good rs ∧ 0 ≤ c ∧ ∀ (H' : Hp) (n : Int), Same H H' → 0 ≤ n → n ≤ tot rs → Q (.int n) H'
section
variable {P : Program} {w : World} {K : PySem.W.Frag} {mg : Str → Option Value} {base : Heap} {A : Adr}
theorem ok_l_number (T : Txt K mg A) : FnOk P w K mg base (L2.CX P w) 1 A.f_l_number A.d_l_number ["_law_cell", "_law_rows"] (sp_l_number K A) := by
  refine T.F_l_number.okX sc_l_number (fun vs H Q E h => ?_) (fun cdv AA outer s H vs Q E hr h => ?_)
  · obtain ⟨_, _, _, rfl, _⟩ := h
    rfl
  · obtain ⟨c, a, rs, rfl, hR, hG, hc, q⟩ := h
    refine ⟨_, (pss_cons (ps_set (i := 2) sc_l_number.nd rfl (.inl rfl) (pe_callB (cr_sum rfl) (by rfl) T.n_sum (by decide +kernel) (pa_cons (pe_lc (own := [("_law_many", 5), ("_law_cost_here", 6)]) (g := gTup K 2 (gCons (gName 5) (gCons (gName 6) gNil))) (tt := tYes) (te := tVar 5) rfl sc_l_number.nd (pi_list (pv 1)) (blkOk_by (own := [("_law_many", 5), ("_law_cost_here", 6)]) (N := N_l_number) (sc := defScope s_l_number) (by decide +kernel)) (fun _ _ _ _ _ => (pg_tup rfl (pgs_cons (pg_name (i := 5) sc_l_number.nd rfl (.inl rfl)) (pgs_cons (pg_name (i := 6) sc_l_number.nd rfl (.inl rfl)) pgs_nil)))) (fun _ _ _ _ _ => pts_nil) (fun _ _ _ _ _ => (pv 5))) pa_nil)))
        (pss_cons (ps_if (PW.pt (pw_or (pt_cmpR op_eq (pe_op op_mod (pv 0) pe_int) pe_int (nomark _)) (pw_or1 (pt_cmpR (op_eqD hr.units) (pv 1) (pe_lst pa_nil) (nomark _)))))
          (pss_one (ps_ret (pe_op op_mod (pe_op op_fdiv (pv 0) pe_int) (pe_op op_add (pv 2) pe_int))))
          pss_nil)
        (pss_cons (ps_set (i := 3) sc_l_number.nd rfl (.inl rfl) (pe_op op_mod (pe_op op_fdiv (pv 0) pe_int) (pe_callB c_len (by rfl) T.n_len (by decide +kernel) (pa_cons (pv 1) pa_nil))))
        (pss_cons (ps_set (i := 4) sc_l_number.nd rfl (.inl rfl) (pe_callB (cr_sum rfl) (by rfl) T.n_sum (by decide +kernel) (pa_cons (pe_lc (own := [("_law_many", 5), ("_law_cost_here", 6)]) (g := gTup K 2 (gCons (gName 5) (gCons (gName 6) gNil))) (tt := tYes) (te := tVar 5) rfl sc_l_number.nd (pi_list (pe_slice sl_list (pv 1) po_none (po_some (pe_op op_add (pv 3) pe_int)))) (blkOk_by (own := [("_law_many", 5), ("_law_cost_here", 6)]) (N := N_l_number) (sc := defScope s_l_number) (by decide +kernel)) (fun _ _ _ _ _ => (pg_tup rfl (pgs_cons (pg_name (i := 5) sc_l_number.nd rfl (.inl rfl)) (pgs_cons (pg_name (i := 6) sc_l_number.nd rfl (.inl rfl)) pgs_nil)))) (fun _ _ _ _ _ => pts_nil) (fun _ _ _ _ _ => (pv 5))) pa_nil)))
        (pss_one (ps_ret (pe_callB (c_max2 rfl) (by rfl) T.n_max (by decide +kernel) (pa_cons pe_int (pa_cons (pe_callB (c_min2 rfl) (by rfl) T.n_min (by decide +kernel) (pa_cons (pv 2) (pa_cons (pe_op op_sub (pe_op op_add (pv 4) (pe_op op_mod (pe_op op_fdiv (pe_op op_fdiv (pv 0) pe_int) (pe_callB c_len (by rfl) T.n_len (by decide +kernel) (pa_cons (pv 1) pa_nil))) pe_int)) pe_int) pa_nil))) pa_nil))))))))), ?_⟩
    walk_at "wpi"
    refine lc_rowsI (a := a) hR (fun _ => true) (·.1) (fun r => rfl) (fun r H' R _ h => h) (fun r H' R _ _ _ h => ⟨_, rfl, h⟩) fun D nD => ?_
    rw [fil_all]
    refine sum_ints upd_same ?_
    have s1 := same_upd (o := .lst ((rs.map (·.1)).map V.int)) nD
    have ht := tot_nonneg hG.pos
    rw [show (rs.map (·.1)).sum = tot rs from rfl]
    walk_at "wp"
    have fst : ∀ H' : Hp, Same H H' → 0 < tot rs + 1 ∧ Q (.int (c / 3 % (tot rs + 1))) H' := fun H' s => ⟨by omega, q H' _ s (Int.emod_nonneg _ (by omega)) (by have := Int.emod_lt_of_pos (c / 3) (show 0 < tot rs + 1 by omega); omega)⟩
    refine ite2 (fun _ => fst _ s1) fun _ => ?_
    intro p np
    have s2 := same_upd (o := .lst []) np
    refine eq_rows ((hR.same s1).same s2) (rows_nil upd_same) ?_
    walk_at "wp"
    refine ite2 (fun _ => fst _ (s1.trans s2)) fun hn => ?_
    have hl : 0 < rs.length := List.length_pos_iff.mpr hn
    have hz : rs.length ≤ 10000 := hR.choose_spec.2.2
    refine len_rows ((hR.same s1).same s2) ?_
    walk_at "wp"
    refine ⟨by omega, ?_⟩
    have h0 : 0 ≤ c / 3 % (rs.length : Int) := Int.emod_nonneg _ (by omega)
    generalize c / 3 % (rs.length : Int) = place at h0
    refine sl_to ((hR.same s1).same s2) (by omega) fun H3 p3 s3 np3 hR3 => ?_
    walk_at "wp"
    refine lc_rowsI (a := p3) hR3 (fun _ => true) (·.1) (fun r => rfl) (fun r H' R _ h => h) (fun r H' R _ _ _ h => ⟨_, rfl, h⟩) fun D2 nD2 => ?_
    refine sum_ints upd_same ?_
    walk_at "wp"
    have s4 := (same_upd (o := .lst (((List.filter (fun _ => true) (rs.take (place + 1).toNat)).map (·.1)).map V.int)) nD2)
    refine len_rows ((((hR.same s1).same s2).same s3).same s4) ?_
    walk_at "wp"
    refine ⟨⟨by omega, by omega⟩, ?_⟩
    exact q _ _ (((s1.trans s2).trans s3).trans s4) (by omega) (by omega)

end
/-- the class of a refusal, in a word -/
def sp_l_kind (K : PySem.W.Frag) (A : Adr) : Sp := fun vs H Q _ => (vs = [.non] ∧ ∀ H' : Hp, Same H H' → Q (.str "none") H') ∨ (∃ a, vs = [.ref a] ∧ H a = some (EXO (.ref A.NoPrice) a) ∧ ∀ H' : Hp, Same H H' → Q (.str "price") H') ∨ (∃ a, vs = [.ref a] ∧ H a = some (EXO (.ref A.NoCount) a) ∧ ∀ H' : Hp, Same H H' → Q (.str "count") H')
section
variable {P : Program} {w : World} {K : PySem.W.Frag} {mg : Str → Option Value} {base : Heap} {A : Adr}
theorem ok_l_kind (T : Txt K mg A) : FnOk P w K mg base (L2.CX P w) 1 A.f_l_kind A.d_l_kind ["_law_e"] (sp_l_kind K A) := by
  refine T.F_l_kind.okX sc_l_kind (fun vs H Q E h => ?_) (fun cdv AA outer s H vs Q E hr h => ?_)
  · rcases h with ⟨rfl, _⟩ | ⟨_, rfl, _⟩ | ⟨_, rfl, _⟩ <;> rfl
  · refine ⟨_, (pss_cons (ps_if (pt_cmpR op_isN (pv 0) pe_non (nomark _))
          (pss_one (ps_ret pe_str))
          pss_nil)
        (pss_cons (ps_set (i := 1) sc_l_kind.nd rfl (.inl rfl) (pe_lst (pa_cons (pe_callB call_isX (by rfl) T.n_isinstance (by decide +kernel) (pa_cons (pv 0) (pa_cons (pe_glob (v := .ref A.NoMill) rfl T.g_NoMill rfl) pa_nil))) (pa_cons (pe_callB call_isX (by rfl) T.n_isinstance (by decide +kernel) (pa_cons (pv 0) (pa_cons (pe_glob (v := .ref A.NoCount) rfl T.g_NoCount rfl) pa_nil))) (pa_cons (pe_callB call_isX (by rfl) T.n_isinstance (by decide +kernel) (pa_cons (pv 0) (pa_cons (pe_glob (v := .ref A.NoPart) rfl T.g_NoPart rfl) pa_nil))) (pa_cons (pe_callB call_isX (by rfl) T.n_isinstance (by decide +kernel) (pa_cons (pv 0) (pa_cons (pe_glob (v := .ref A.NoPrice) rfl T.g_NoPrice rfl) pa_nil))) pa_nil))))))
        (pss_cons (ps_set (i := 1) sc_l_kind.nd rfl (.inl rfl) (pe_op op_cat (pv 1) (pe_lst (pa_cons (pe_callB call_isX (by rfl) T.n_isinstance (by decide +kernel) (pa_cons (pv 0) (pa_cons (pe_glob (v := .ref A.NoName) rfl T.g_NoName rfl) pa_nil))) (pa_cons (pe_callB call_isX (by rfl) T.n_isinstance (by decide +kernel) (pa_cons (pv 0) (pa_cons (pe_glob (v := .ref A.NoText) rfl T.g_NoText rfl) pa_nil))) pa_nil)))))
        (pss_cons (ps_if (PW.pt (pw_or (pt_cmpR op_ne (pe_bm PySem.F.plainAttrs_list PySem.F.slot_list_count PySem.F.type_list_count mt_countB (pv 1) (pa_cons pe_bl pa_nil)) pe_int (nomark _)) (pw_or (pt_not (pt_val (pe_callB call_isX (by rfl) T.n_isinstance (by decide +kernel) (pa_cons (pv 0) (pa_cons (pe_glob (v := .ref A.MillError) rfl T.g_MillError rfl) pa_nil))))) (pw_or1 (pt_not (pt_val (pe_callB call_isX (by rfl) T.n_isinstance (by decide +kernel) (pa_cons (pv 0) (pa_cons (pe_bltn (v := .ty "ValueError") (by rfl) T.n_ValueError (by decide +kernel) rfl) pa_nil)))))))))
          (pss_one (ps_ret pe_str))
          pss_nil)
        (pss_one (ps_ret (pe_ix ix_list (pe_lst (pa_cons pe_str (pa_cons pe_str (pa_cons pe_str (pa_cons pe_str (pa_cons pe_str (pa_cons pe_str pa_nil))))))) (pe_bm PySem.F.plainAttrs_list PySem.F.slot_list_index PySem.F.type_list_index mt_index (pv 1) (pa_cons pe_bl pa_nil)) (fun _ _ => rfl)))))))), ?_⟩
    rcases h with ⟨rfl, q⟩ | ⟨a, rfl, hE, q⟩ | ⟨a, rfl, hE, q⟩
    · walk_at "wpi"
      exact q _ (Same.refl _)
    · walk_at "wpi"
      refine isx hE T.xc_NoPrice T.ki_NoPrice_NoMill ?_
      walk_at "wp"
      refine isx hE T.xc_NoPrice T.ki_NoPrice_NoCount ?_
      walk_at "wp"
      refine isx hE T.xc_NoPrice T.ki_NoPrice_NoPart ?_
      walk_at "wp"
      refine isx hE T.xc_NoPrice T.ki_NoPrice_NoPrice ?_
      walk_at "wp"
      refine ⟨by decide, fun p np => ?_⟩
      have s1 := same_upd (o := .lst [V.bl false, V.bl false, V.bl false, V.bl true]) np
      have hE1 := s1 _ _ hE
      refine isx hE1 T.xc_NoPrice T.ki_NoPrice_NoName ?_
      walk_at "wp"
      refine isx hE1 T.xc_NoPrice T.ki_NoPrice_NoText ?_
      walk_at "wp"
      intro p2 np2
      have s2 := same_upd (o := .lst [V.bl false, V.bl false]) np2
      refine cat_l (s2 _ _ upd_same) upd_same (by decide) fun p3 np3 => ?_
      have s3 := same_upd (o := .lst [V.bl false, V.bl false, V.bl false, V.bl true, V.bl false, V.bl false]) np3
      have hE3 := s3 _ _ (s2 _ _ hE1)
      walk_at "wp"
      refine ⟨tyv_l upd_same, cnt_l (n := 1) (SqL.of upd_same) (by decide) (by decide) ?_⟩
      walk_at "wp"
      rw [show decide (((1 : Nat) : Int) = 1) = true from rfl]
      walk_at "wp"
      refine isx hE3 T.xc_NoPrice T.ki_NoPrice_M ?_
      walk_at "wp"
      refine isxT hE3 T.xc_NoPrice T.ki_NoPrice_V ?_
      walk_at "wp"
      refine ⟨by decide, fun p4 np4 => ?_⟩
      have s4 := same_upd (o := .lst [V.str "mill", V.str "count", V.str "part", V.str "price", V.str "name", V.str "text"]) np4
      refine ⟨tyv_l (s4 _ _ upd_same), ind_l 3 (SqL.of (s4 _ _ upd_same)) (by decide) rfl (fun m z h1 h2 => ?_) ?_⟩
      · match m, h1, h2 with
        | 0, _, h2 => cases h2; rfl
        | 1, _, h2 => cases h2; rfl
        | 2, _, h2 => cases h2; rfl
        | n + 3, h1, _ => exact absurd h1 (by omega)
      · refine ix_l (SqL.of upd_same) (at_i (by decide) rfl) ?_
        exact q _ (((s1.trans s2).trans s3).trans s4)
    · walk_at "wpi"
      refine isx hE T.xc_NoCount T.ki_NoCount_NoMill ?_
      walk_at "wp"
      refine isx hE T.xc_NoCount T.ki_NoCount_NoCount ?_
      walk_at "wp"
      refine isx hE T.xc_NoCount T.ki_NoCount_NoPart ?_
      walk_at "wp"
      refine isx hE T.xc_NoCount T.ki_NoCount_NoPrice ?_
      walk_at "wp"
      refine ⟨by decide, fun p np => ?_⟩
      have s1 := same_upd (o := .lst [V.bl false, V.bl true, V.bl false, V.bl false]) np
      have hE1 := s1 _ _ hE
      refine isx hE1 T.xc_NoCount T.ki_NoCount_NoName ?_
      walk_at "wp"
      refine isx hE1 T.xc_NoCount T.ki_NoCount_NoText ?_
      walk_at "wp"
      intro p2 np2
      have s2 := same_upd (o := .lst [V.bl false, V.bl false]) np2
      refine cat_l (s2 _ _ upd_same) upd_same (by decide) fun p3 np3 => ?_
      have s3 := same_upd (o := .lst [V.bl false, V.bl true, V.bl false, V.bl false, V.bl false, V.bl false]) np3
      have hE3 := s3 _ _ (s2 _ _ hE1)
      walk_at "wp"
      refine ⟨tyv_l upd_same, cnt_l (n := 1) (SqL.of upd_same) (by decide) (by decide) ?_⟩
      walk_at "wp"
      rw [show decide (((1 : Nat) : Int) = 1) = true from rfl]
      walk_at "wp"
      refine isx hE3 T.xc_NoCount T.ki_NoCount_M ?_
      walk_at "wp"
      refine isxT hE3 T.xc_NoCount T.ki_NoCount_V ?_
      walk_at "wp"
      refine ⟨by decide, fun p4 np4 => ?_⟩
      have s4 := same_upd (o := .lst [V.str "mill", V.str "count", V.str "part", V.str "price", V.str "name", V.str "text"]) np4
      refine ⟨tyv_l (s4 _ _ upd_same), ind_l 1 (SqL.of (s4 _ _ upd_same)) (by decide) rfl (fun m z h1 h2 => ?_) ?_⟩
      · match m, h1, h2 with
        | 0, _, h2 => cases h2; rfl
        | n + 1, h1, _ => exact absurd h1 (by omega)
      · refine ix_l (SqL.of upd_same) (at_i (by decide) rfl) ?_
        exact q _ (((s1.trans s2).trans s3).trans s4)

end
/-- what back tells of what it refuses -/
def sp_l_told (K : PySem.W.Frag) (A : Adr) : Sp := fun vs H Q E => ∃ (x : Addr) (b : Int) (rs : Rw) (l : Addr) (ps : List Int) (n : Int), vs = [.ref x, .ref l, .int n] ∧ MillAt A.Mill H x b rs ∧ Good rs ∧ SqL K H l (ps.map V.int) ∧ ps.length ≤ 10000 ∧ (∀ p ∈ ps, p.natAbs < 10 ^ 62) ∧
  (ps = [] ∨ ¬ (0 ≤ n ∧ n ≤ tot rs)) ∧ ∀ H' : Hp, Same H H' → Q (.str (if ps = [] then "price" else "count")) H'
section
variable {P : Program} {w : World} {K : PySem.W.Frag} {mg : Str → Option Value} {base : Heap} {A : Adr}
theorem ok_l_told (T : Txt K mg A) : FnOk P w K mg base (L2.CX P w) 4 A.f_l_told A.d_l_told ["_law_mill", "_law_prices", "_law_many"] (sp_l_told K A) := by
  have G_back := ok_back (P := P) (w := w) (base := base) T
  have G_l_kind := ok_l_kind (P := P) (w := w) (base := base) T
  refine T.F_l_told.okX sc_l_told (fun vs H Q E h => ?_) (fun cdv AA outer s H vs Q E hr h => ?_)
  · obtain ⟨_, _, _, _, _, _, rfl, _⟩ := h
    rfl
  · obtain ⟨x, b, rs, l, ps, n, rfl, hM, hG, hl, hz, hps, hw, q⟩ := h
    refine ⟨_, (pss_cons (ps_set (i := 3) sc_l_told.nd rfl (.inl rfl) pe_non)
        (pss_cons (ps_try_keep (i := 4) (tb := fun W => (tDrop (tCallS (sp_back K A) (WE W) ((tCons (tVar 0) (tCons (tVar 1) (tCons (tVar 2) tNil))))))) (ts := fun a cls => tAsg (tVar 4) (gName 3)) (Wout := fun _ _ _ _ => False) rfl rfl rfl sc_l_told.nd rfl rfl ⟨rfl, by decide, .inl T.g_MillError⟩ takes0
          (fun W pn xe tk _ => (pss_one (ps_expr (pe_callS G_back (hr.mono (by decide)) (by rfl) T.g_back T.F_back.kp T.b_back (fun σ => passAt tk σ) (pa_cons (pv 0) (pa_cons (pv 1) (pa_cons (pv 2) pa_nil)))))))
          (fun a oe cls pn hz hf => (pss_one (ps_set (i := 3) sc_l_told.nd rfl (.inl rfl) (pv 4)))))
        (pss_one (ps_ret (pe_call (E := E0) G_l_kind (hr.mono (by decide)) (by rfl) T.g__law_kind T.F_l_kind.kp T.b_l_kind .nil passL (pa_cons (pv 3) pa_nil)))))), ?_⟩
    walk_at "wp"
    refine ⟨x, b, rs, l, ps, n, rfl, hM, hG, hl, hz, hps, fun h1 h2 => ?_, fun h1 => ?_, fun h1 h2 => ?_⟩
    · exact absurd hw (by rintro (h | h); exact h1 h; exact h h2)
    · refine ⟨true, T.xm_NoPrice, fun _ => ⟨rfl, fun e he => ?_⟩, fun z => by cases z⟩
      walk_at "wp"
      refine ⟨he, .inr (.inl ⟨e, rfl, upd_same, fun H2 s2 => ?_⟩)⟩
      have := q H2 ((same_upd he).trans s2)
      rw [if_pos h1] at this
      exact this
    · refine ⟨true, T.xm_NoCount, fun _ => ⟨rfl, fun e he => ?_⟩, fun z => by cases z⟩
      walk_at "wp"
      refine ⟨he, .inr (.inr ⟨e, rfl, upd_same, fun H2 s2 => ?_⟩)⟩
      have := q H2 ((same_upd he).trans s2)
      rw [if_neg h1] at this
      exact this

end
/-- some price -/
def sp_l_price (K : PySem.W.Frag) (A : Adr) : Sp := fun vs H Q _ => ∃ (c : Int) (a : Addr) (rs : Rw), vs = [.int c, .ref a] ∧ RowsAt H a rs ∧ Bnd rs ∧ 0 ≤ c ∧ ∀ (H' : Hp) (p : Int), Same H H' → p.natAbs < 10 ^ 61 → Q (.int p) H'
section
variable {P : Program} {w : World} {K : PySem.W.Frag} {mg : Str → Option Value} {base : Heap} {A : Adr}
theorem ok_l_price (T : Txt K mg A) : FnOk P w K mg base (L2.CX P w) 3 A.f_l_price A.d_l_price ["_law_cell", "_law_rows"] (sp_l_price K A) := by
  have G_l_cost := ok_l_cost (P := P) (w := w) (base := base) T
  refine T.F_l_price.okX sc_l_price (fun vs H Q E h => ?_) (fun cdv AA outer s H vs Q E hr h => ?_)
  · obtain ⟨_, _, _, rfl, _⟩ := h
    rfl
  · obtain ⟨c, a, rs, rfl, hR, hB, hc, q⟩ := h
    refine ⟨_, (pss_cons (ps_if (PW.pt (pw_or (pt_cmpR (op_eqD hr.units) (pv 1) (pe_lst pa_nil) (nomark _)) (pw_or1 (pt_cmpR op_eq (pe_op op_mod (pv 0) pe_int) pe_int (nomark _)))))
          (pss_one (ps_ret (pe_call (E := E0) G_l_cost (hr.mono (by decide)) (by rfl) T.g__law_cost T.F_l_cost.kp T.b_l_cost .nil passL (pa_cons (pe_op op_fdiv (pv 0) pe_int) pa_nil))))
          pss_nil)
        (pss_one (ps_ret (pe_op op_sub (pe_op op_add (pe_ix ix_tup (pe_ix ix_list (pv 1) (pe_op op_mod (pe_op op_fdiv (pv 0) pe_int) (pe_callB c_len (by rfl) T.n_len (by decide +kernel) (pa_cons (pv 1) pa_nil))) (fun _ _ => rfl)) pe_int (fun _ _ => rfl)) (pe_op op_mod (pv 0) pe_int)) pe_int)))), ?_⟩
    walk_at "wpi"
    intro o no
    have s1 := same_upd (o := .lst []) no
    refine eq_rows (hR.same s1) (rows_nil upd_same) ?_
    walk_at "wp"
    have drawn : sp_l_cost K A [.int (c / 4)] (upd H o (.lst [])) Q E0 := ⟨_, rfl, by omega, fun n hn => q _ n s1 (by omega)⟩
    refine ite2 (fun _ => drawn) (fun hn => ite2 (fun _ => drawn) fun _ => ?_)
    have hl : 0 < rs.length := List.length_pos_iff.mpr hn
    refine len_rows (hR.same s1) ?_
    walk_at "wp"
    refine ⟨by omega, ?_⟩
    refine ix_rows (hR.same s1) (Int.emod_nonneg _ (by omega)) (Int.emod_lt_of_pos _ (by omega)) fun p r hp e => ix_p1 hp ?_
    walk_at "wp"
    have := hB.1 r (List.mem_of_getElem? e)
    exact q _ _ s1 (by omega)

end
/-- what a price tells of a number's cost, by going through -/
def sp_l_brought (K : PySem.W.Frag) (A : Adr) : Sp := fun vs H Q E => ∃ (b : Int) (a : Addr) (rs : Rw) (p n : Int), vs = [.int b, .ref a, .int p, .int n] ∧ RowsAt H a rs ∧ Good rs ∧ p.natAbs < 10 ^ 62 ∧ 0 ≤ n ∧ n ≤ tot rs ∧ ∀ H' : Hp, Same H H' → Q (.int (tells b rs n p)) H'
section
variable {P : Program} {w : World} {K : PySem.W.Frag} {mg : Str → Option Value} {base : Heap} {A : Adr}
theorem ok_l_brought (T : Txt K mg A) : FnOk P w K mg base (L2.CX P w) 2 A.f_l_brought A.d_l_brought ["_law_base", "_law_rows", "_law_price_here", "_law_many"] (sp_l_brought K A) := by
  have G_l_cost_of := ok_l_cost_of (P := P) (w := w) (base := base) T
  refine T.F_l_brought.okX sc_l_brought (fun vs H Q E h => ?_) (fun cdv AA outer s H vs Q E hr h => ?_)
  · obtain ⟨_, _, _, _, _, rfl, _⟩ := h
    rfl
  · obtain ⟨b, a, rs, p, n, rfl, hR, hG, hp, h0, h1, q⟩ := h
    refine ⟨_, (pss_cons (ps_set (i := 4) sc_l_brought.nd rfl (.inl rfl) (pe_callB (cr_sum rfl) (by rfl) T.n_sum (by decide +kernel) (pa_cons (pe_lc (own := [("_law_here", 5), ("_law_cost_here", 6)]) (g := gTup K 2 (gCons (gName 5) (gCons (gName 6) gNil))) (tt := tTest (tOp (rLtI) (tVar 6) (tVar 2))) (te := tVar 5) rfl sc_l_brought.nd (pi_list (pv 1)) (blkOk_by (own := [("_law_here", 5), ("_law_cost_here", 6)]) (N := N_l_brought) (sc := defScope s_l_brought) (by decide +kernel)) (fun _ _ _ _ _ => (pg_tup rfl (pgs_cons (pg_name (i := 5) sc_l_brought.nd rfl (.inl rfl)) (pgs_cons (pg_name (i := 6) sc_l_brought.nd rfl (.inl rfl)) pgs_nil)))) (fun _ _ _ _ _ => (pts_one (pt_cmpR op_lt (pv 6) (pv 2) (nomark _)))) (fun _ _ _ _ _ => (pv 5))) pa_nil)))
        (pss_one (ps_ret (pe_op op_add (pe_op op_sub (pe_op op_mulW (pv 2) (pv 3)) (pe_op op_mulW (pv 2) (pv 4))) (pe_call (E := E0) G_l_cost_of (hr.mono (by decide)) (by rfl) T.g__law_cost_of T.F_l_cost_of.kp T.b_l_cost_of .nil passL (pa_cons (pv 0) (pa_cons (pv 1) (pa_cons (pv 4) pa_nil)))))))), ?_⟩
    have f0 := few_nonneg p hG.pos
    have fm := few_most p hG.pos
    have mt := most_tot p hG.pos
    have tb := hG.bnd.2
    have ef := (price_law p hG.pos hG.inc f0 (by omega)).2.mpr ⟨Int.le_refl _, fm⟩
    walk_at "wp"
    refine sum_fil hR (fun r => decide (r.2 < p)) fun H3 s3 => ?_
    rw [show tot (rs.filter fun r => decide (r.2 < p)) = few p rs from rfl]
    walk_at "wp"
    refine ⟨mulW hp (by omega), mulW hp (by omega), ⟨b, a, rs, _, rfl, hR.same s3, hG, f0, by omega, ?_⟩⟩
    walk_at "wp"
    rw [show p * n - p * few p rs + (b + cst rs (few p rs)) = tells b rs n p by unfold tells; omega]
    exact q H3 s3

end
abbrev sp_l_law (K : PySem.W.Frag) (A : Adr) : Sp := spTrue K
section
variable {P : Program} {w : World} {K : PySem.W.Frag} {mg : Str → Option Value} {base : Heap} {A : Adr}
theorem ok_l_law (T : Txt K mg A) : FnOk P w K mg base (L2.CX P w) 5 A.f_l_law A.d_l_law ["_law_script"] (sp_l_law K A) := by
  have G_l_cost := ok_l_cost (P := P) (w := w) (base := base) T
  have G_l_cell_at := ok_l_cell_at (P := P) (w := w) (base := base) T
  have G_l_one := ok_l_one (P := P) (w := w) (base := base) T
  have G_l_stretches := ok_l_stretches (P := P) (w := w) (base := base) T
  have G_Mill_init := ok_Mill_init (P := P) (w := w) (base := base) T
  have G_l_price := ok_l_price (P := P) (w := w) (base := base) T
  have G_l_number := ok_l_number (P := P) (w := w) (base := base) T
  have G_l_told := ok_l_told (P := P) (w := w) (base := base) T
  have G_back := ok_back (P := P) (w := w) (base := base) T
  have G_l_cost_of := ok_l_cost_of (P := P) (w := w) (base := base) T
  have G_l_brought := ok_l_brought (P := P) (w := w) (base := base) T
  have G_l_whole := ok_l_whole (P := P) (w := w) (base := base) T
  have G_Mill_piece := ok_Mill_piece (P := P) (w := w) (base := base) T
  have G_Mill_prices := ok_Mill_prices (P := P) (w := w) (base := base) T
  refine T.F_l_law.okX sc_l_law (fun vs H Q E h => ?_) (fun cdv AA outer s H vs Q E hr h => ?_)
  · obtain ⟨_, _, rfl, _⟩ := h
    rfl
  · obtain ⟨a, ns, rfl, hS, hlen, q⟩ := h
    refine ⟨_, (pss_cons (ps_set (i := 1) sc_l_law.nd rfl (.inr rfl) (pe_call (E := E0) G_l_cost (hr.mono (by decide)) (by rfl) T.g__law_cost T.F_l_cost.kp T.b_l_cost .nil passL (pa_cons (pe_call (E := E0) G_l_cell_at (hr.mono (by decide)) (by rfl) T.g__law_cell_at T.F_l_cell_at.kp T.b_l_cell_at .nil passL (pa_cons (pv 0) (pa_cons pe_int pa_nil))) pa_nil)))
        (pss_cons (ps_set (i := 2) sc_l_law.nd rfl (.inr rfl) (pe_call (E := E0) G_l_one (hr.mono (by decide)) (by rfl) T.g__law_one T.F_l_one.kp T.b_l_one .nil passL (pa_cons (pe_call (E := E0) G_l_stretches (hr.mono (by decide)) (by rfl) T.g__law_stretches T.F_l_stretches.kp T.b_l_stretches .nil passL (pa_cons (pv 0) (pa_cons pe_int (pa_cons pe_int pa_nil)))) pa_nil)))
        (pss_cons (ps_set (i := 3) sc_l_law.nd rfl (.inl rfl) (pe_make (E := E0) T.mk_Mill G_Mill_init (hr.mono (by decide)) (by rfl) T.g_Mill T.b_Mill_init .nil passL (pa_cons (pv 1) (pa_cons (pv 2) pa_nil))))
        (pss_cons (ps_set (i := 4) sc_l_law.nd rfl (.inl rfl) (pe_callB (cr_sum rfl) (by rfl) T.n_sum (by decide +kernel) (pa_cons (pe_lc (own := [("_law_many", 7), ("_law_cost_here", 14)]) (g := gTup K 2 (gCons (gName 7) (gCons (gName 14) gNil))) (tt := tYes) (te := tVar 7) rfl sc_l_law.nd (pi_list (pv 2)) (blkOk_by (own := [("_law_many", 7), ("_law_cost_here", 14)]) (N := N_l_law) (sc := defScope s_l_law) (by decide +kernel)) (fun _ _ _ _ _ => (pg_tup rfl (pgs_cons (pg_name (i := 7) sc_l_law.nd rfl (.inl rfl)) (pgs_cons (pg_name (i := 14) sc_l_law.nd rfl (.inl rfl)) pgs_nil)))) (fun _ _ _ _ _ => pts_nil) (fun _ _ _ _ _ => (pv 7))) pa_nil)))
        (pss_cons (ps_set (i := 5) sc_l_law.nd rfl (.inl rfl) (pe_call (E := E0) G_l_cell_at (hr.mono (by decide)) (by rfl) T.g__law_cell_at T.F_l_cell_at.kp T.b_l_cell_at .nil passL (pa_cons (pv 0) (pa_cons pe_int pa_nil))))
        (pss_cons (ps_setLc (i := 6) (own := [("_law_k", 13)]) (g := gName 13) (tt := tYes) (te := tCall (sp_l_price K A) [] E0 ((tCons (tCall (sp_l_cell_at K A) [] E0 ((tCons (tVar 0) (tCons (tOp rAddI (tC (.int 90)) (tVar 13)) tNil)))) (tCons (tVar 2) tNil)))) rfl sc_l_law.nd rfl rfl (sw_true rfl rfl rfl (by decide +kernel)) (pi_range1 (by rfl) T.n_range (pa_cons (pe_op op_add pe_int (pe_op op_mod (pv 5) pe_int)) pa_nil)) (blkOk_by (own := [("_law_k", 13)]) (N := N_l_law) (sc := defScope s_l_law) (by decide +kernel)) (fun _ _ _ _ _ => (pg_name (i := 13) sc_l_law.nd rfl (.inl rfl))) (fun _ _ _ _ _ => pts_nil) (fun _ _ _ _ _ => (pe_call (E := E0) G_l_price (hr.mono (by decide)) (by rfl) T.g__law_price T.F_l_price.kp T.b_l_price .nil passL (pa_cons (pe_call (E := E0) G_l_cell_at (hr.mono (by decide)) (by rfl) T.g__law_cell_at T.F_l_cell_at.kp T.b_l_cell_at .nil passL (pa_cons (pv 0) (pa_cons (pe_op op_add pe_int (pv 13)) pa_nil))) (pa_cons (pv 2) pa_nil)))))
        (pss_cons (ps_set (i := 7) sc_l_law.nd rfl (.inr rfl) (pe_call (E := E0) G_l_number (hr.mono (by decide)) (by rfl) T.g__law_number T.F_l_number.kp T.b_l_number .nil passL (pa_cons (pe_call (E := E0) G_l_cell_at (hr.mono (by decide)) (by rfl) T.g__law_cell_at T.F_l_cell_at.kp T.b_l_cell_at .nil passL (pa_cons (pv 0) (pa_cons pe_int pa_nil))) (pa_cons (pv 2) pa_nil))))
        (pss_cons (ps_set (i := 8) sc_l_law.nd rfl (.inl rfl) (pe_ix ix_list (pe_lst (pa_cons (pe_op op_sub (pe_un un_neg pe_int) (pe_op op_mod (pe_op op_fdiv (pv 5) pe_int) (pe_op op_pow pe_int pe_int))) (pa_cons (pe_op op_add (pv 4) pe_int) (pa_cons (pe_un un_neg pe_int) pa_nil)))) (pe_op op_mod (pe_op op_fdiv (pv 5) pe_int) pe_int) (fun _ _ => rfl)))
        (pss_cons (ps_if (PW.pt (pw_or (pt_cmpR op_ne (pe_call (E := E0) G_l_told (hr.mono (by decide)) (by rfl) T.g__law_told T.F_l_told.kp T.b_l_told .nil passL (pa_cons (pv 3) (pa_cons (pe_lst pa_nil) (pa_cons (pv 7) pa_nil)))) pe_str (nomark _)) (pw_or1 (pt_cmpR op_ne (pe_call (E := E0) G_l_told (hr.mono (by decide)) (by rfl) T.g__law_told T.F_l_told.kp T.b_l_told .nil passL (pa_cons (pv 3) (pa_cons (pe_lst pa_nil) (pa_cons (pv 8) pa_nil)))) pe_str (nomark _)))))
          (pss_one (ps_ret pe_bl))
          pss_nil)
        (pss_cons (ps_if (pt_cmpR op_ne (pe_call (E := E0) G_l_told (hr.mono (by decide)) (by rfl) T.g__law_told T.F_l_told.kp T.b_l_told .nil passL (pa_cons (pv 3) (pa_cons (pv 6) (pa_cons (pv 8) pa_nil)))) pe_str (nomark _))
          (pss_one (ps_ret pe_bl))
          pss_nil)
        (pss_cons (ps_set (i := 9) sc_l_law.nd rfl (.inl rfl) (pe_callTy c_list (by rfl) T.n_list (by decide +kernel) (pa_cons (pv 6) pa_nil)))
        (pss_cons (ps_set (i := 10) sc_l_law.nd rfl (.inl rfl) (pe_call (E := E0) G_back (hr.mono (by decide)) (by rfl) T.g_back T.F_back.kp T.b_back .nil passL (pa_cons (pv 3) (pa_cons (pv 9) (pa_cons (pv 7) pa_nil)))))
        (pss_cons (ps_set (i := 11) sc_l_law.nd rfl (.inl rfl) (pe_call (E := E0) G_l_cost_of (hr.mono (by decide)) (by rfl) T.g__law_cost_of T.F_l_cost_of.kp T.b_l_cost_of .nil passL (pa_cons (pv 1) (pa_cons (pv 2) (pa_cons (pv 7) pa_nil)))))
        (pss_cons (ps_set (i := 12) sc_l_law.nd rfl (.inl rfl) (pe_callB (cr_max rfl) (by rfl) T.n_max (by decide +kernel) (pa_cons (pe_lc (own := [("_law_price_here", 15)]) (g := gName 15) (tt := tYes) (te := tCall (sp_l_brought K A) [] E0 ((tCons (tVar 1) (tCons (tVar 2) (tCons (tVar 15) (tCons (tVar 7) tNil)))))) rfl sc_l_law.nd (pi_list (pv 6)) (blkOk_by (own := [("_law_price_here", 15)]) (N := N_l_law) (sc := defScope s_l_law) (by decide +kernel)) (fun _ _ _ _ _ => (pg_name (i := 15) sc_l_law.nd rfl (.inl rfl))) (fun _ _ _ _ _ => pts_nil) (fun _ _ _ _ _ => (pe_call (E := E0) G_l_brought (hr.mono (by decide)) (by rfl) T.g__law_brought T.F_l_brought.kp T.b_l_brought .nil passL (pa_cons (pv 1) (pa_cons (pv 2) (pa_cons (pv 15) (pa_cons (pv 7) pa_nil))))))) pa_nil)))
        (pss_cons (ps_if (PW.pt (pw_or (pt_not (pt_val (pe_call (E := E0) G_l_whole (hr.mono (by decide)) (by rfl) T.g__law_whole T.F_l_whole.kp T.b_l_whole .nil passL (pa_cons (pv 10) pa_nil)))) (pw_or1 (pt_cmpR op_ne (pv 10) (pv 12) (nomark _)))))
          (pss_one (ps_ret pe_bl))
          pss_nil)
        (pss_cons (ps_if (PW.pt (pw_or (pt_cmpR op_gt (pv 10) (pv 11) (nomark _)) (pw_or1 (pt_cmpR (op_neD hr.units) (pv 9) (pv 6) (nomark _)))))
          (pss_one (ps_ret pe_bl))
          pss_nil)
        (pss_cons (ps_if (PW.pt (pw_and (pt_cmpR op_gt (pv 7) pe_int (nomark _)) (pw_and1 (pt_cmpR op_ne (pe_call (E := E0) G_back (hr.mono (by decide)) (by rfl) T.g_back T.F_back.kp T.b_back .nil passL (pa_cons (pv 3) (pa_cons (pe_op op_cat (pv 6) (pe_lst (pa_cons (pe_meth (E := E0) (pv 3) T.cl_Mill T.m_Mill_piece G_Mill_piece (hr.mono (by decide)) T.b_Mill_piece .nil passL (pa_cons (pv 7) pa_nil)) pa_nil))) (pa_cons (pv 7) pa_nil)))) (pv 11) (nomark _)))))
          (pss_one (ps_ret pe_bl))
          pss_nil)
        (pss_cons (ps_if (PW.pt (pw_and (pt_cmpR op_lt (pv 7) (pv 4) (nomark _)) (pw_and1 (pt_cmpR op_ne (pe_call (E := E0) G_back (hr.mono (by decide)) (by rfl) T.g_back T.F_back.kp T.b_back .nil passL (pa_cons (pv 3) (pa_cons (pe_op op_cat (pe_lst (pa_cons (pe_meth (E := E0) (pv 3) T.cl_Mill T.m_Mill_piece G_Mill_piece (hr.mono (by decide)) T.b_Mill_piece .nil passL (pa_cons (pe_op op_add (pv 7) pe_int) pa_nil)) pa_nil)) (pv 6)) (pa_cons (pv 7) pa_nil)))) (pv 11) (nomark _)))))
          (pss_one (ps_ret pe_bl))
          pss_nil)
        (pss_one (ps_ret (pe_cmpR op_eq (pe_call (E := E0) G_back (hr.mono (by decide)) (by rfl) T.g_back T.F_back.kp T.b_back .nil passL (pa_cons (pv 3) (pa_cons (pe_meth0 (E := E0) (pv 3) T.cl_Mill T.m_Mill_prices G_Mill_prices (hr.mono (by decide)) T.b_Mill_prices .nil passL) (pa_cons (pv 7) pa_nil)))) (pv 11) (nomark _)))))))))))))))))))))), ?_⟩
    walk_at "wp"
    refine ⟨a, ns, 0, rfl, hS, hlen, by omega, by omega, fun H1 c1 s1 hc1 _ => ⟨_, rfl, hc1, fun bs hbase => ?_⟩⟩
    walk_at "wp"
    refine ⟨a, ns, 4, 8, rfl, s1.seq hS, hlen, by omega, by omega, by omega, by omega, fun H2 p2 rs0 s2 np2 hR0 ok0 dr0 ll0 => ?_⟩
    refine ⟨p2, rs0, rfl, hR0, fun H3 p3 s3 np3 hR => ?_⟩
    have hG : Good (one rs0) := good_one ok0 dr0 (by omega)
    have hlr : (one rs0).length ≤ 8 := by have := one_len rs0; omega
    generalize one rs0 = rs at hR hG hlr
    walk_at "wp"
    refine make_mill hR hG.ok fun H4 x s4 nx hM => ?_
    rw [hG.one] at hM
    walk_at "wp"
    have hS4 := (((s1.trans s2).trans s3).trans s4).seq hS
    have hR4 := hR.same s4
    refine sum_all hR4 fun H5 s5 => ?_
    walk_at "wp"
    refine ⟨a, ns, 1, rfl, s5.seq hS4, hlen, by omega, by omega, fun H6 c s6 hc _ => ?_⟩
    walk_at "wp"
    refine lc_rngI (fun p => p.natAbs < 10 ^ 61) (by omega) (by omega) (fun v => rfl) (fun k H' R hk s7 h => ?_) (fun H7 D ps s7 nD e7 l7 hps => ?_)
    · walk_at "wp"
      refine ⟨a, ns, _, rfl, ((s5.trans s6).trans s7).seq hS4, hlen, by omega, by omega, fun H8 c8 s8 hc8 _ => ?_⟩
      exact ⟨c8, p3, rs, rfl, hR4.same (((s5.trans s6).trans s7).trans s8), hG.bnd, hc8, fun H9 p s9 hp => h p H9 (s8.trans s9) hp⟩
    walk_at "wp"
    have s47 := (s5.trans s6).trans s7
    refine ⟨a, ns, _, rfl, s47.seq hS4, hlen, by omega, by omega, fun H8 c8 s8 hc8 _ => ?_⟩
    refine ⟨c8, p3, rs, rfl, hR4.same (s47.trans s8), hG, hc8, fun H9 n s9 n0 n1 => ?_⟩
    walk_at "wp"
    refine ⟨by decide, fun p np => ?_⟩
    have tb := hG.bnd.2
    have ht := tot_nonneg hG.pos
    have c30 : 0 ≤ c / 8 % 1000000000000000000000000000000 := Int.emod_nonneg _ (by omega)
    generalize c / 8 % 1000000000000000000000000000000 = d at c30
    have s10 := same_upd (o := .lst [V.int (-1 - d), V.int (tot rs + 1), V.int (-1)]) np
    have s79 := (s8.trans s9).trans s10
    have hps62 : ∀ p ∈ ps, p.natAbs < 10 ^ 62 := fun p hp => by have := hps p hp; omega
    have hpz : ps.length ≤ 6 := by omega
    have hpn : ps ≠ [] := fun z => by rw [z] at l7; simp at l7; omega
    refine ix_int (ns := [-1 - d, tot rs + 1, -1]) (SqL.of upd_same) (by omega) (by simp; omega) fun w hw _ => ?_
    have hwn : ¬ (0 ≤ w ∧ w ≤ tot rs) := by simp at hw; omega
    walk_at "wp"
    rw [w_if]
    walk_at "wp"
    intro q1 nq1
    have s11 := same_upd (o := .lst []) nq1
    refine ⟨x, bs, rs, q1, [], n, rfl, hM.same ((s47.trans s79).trans s11), hG, (SqL.of upd_same : SqL K _ q1 []), by simp, by simp, .inl rfl, fun H12 s12 => ?_⟩
    rw [if_pos rfl]
    walk_at "wp"
    intro q2 nq2
    have s13 := same_upd (o := .lst []) nq2
    have s713 := ((s79.trans s11).trans s12).trans s13
    refine ⟨x, bs, rs, q2, [], w, rfl, hM.same (s47.trans s713), hG, (SqL.of upd_same : SqL K _ q2 []), by simp, by simp, .inl rfl, fun H14 s14 => ?_⟩
    rw [if_pos rfl]
    walk_at "wp"
    rw [w_if]
    walk_at "wp"
    have s714 := s713.trans s14
    refine ⟨x, bs, rs, D, ps, w, rfl, hM.same (s47.trans s714), hG, SqL.of (s714 _ _ e7), by omega, hps62, .inr hwn, fun H15 s15 => ?_⟩
    rw [if_neg hpn]
    walk_at "wp"
    have s715 := s714.trans s15
    refine list_any (SqL.of (s715 _ _ e7)) fun hd nhd => ?_
    have s16 := same_upd (o := .lst (ps.map V.int)) nhd
    have s716 := s715.trans s16
    refine ⟨x, bs, rs, hd, ps, n, rfl, hM.same (s47.trans s716), hG, SqL.of upd_same, by omega, hps62, fun _ _ H17 m s17 hm => ?_, fun z => absurd z hpn, fun _ z => absurd ⟨n0, n1⟩ z⟩
    walk_at "wp"
    have s717 := s716.trans s17
    refine ⟨bs, p3, rs, n, rfl, hR4.same (s47.trans s717), hG, n0, by omega, ?_⟩
    refine lc_lstI (SqL.of (s717 _ _ e7)) (by omega) (tells bs rs n) (fun v => rfl) (fun p H' R hp s1 h => ?_) (fun H18 D2 s18 nD2 e18 => max_l (SqL.of e18) (by simpa using hpn) fun m2 hm2 => ?_)
    · walk_at "wp"
      exact ⟨bs, p3, rs, p, n, rfl, hR4.same ((s47.trans s717).trans s1), hG, hps62 p hp, n0, n1, fun H2 s2 => h H2 s2⟩
    have em : m2 = m := hm2.uniq hm
    subst em
    walk_at "wp"
    rw [w_if]
    walk_at "wp"
    rw [w_whole]
    walk_at "wp"
    rw [w_if]
    walk_at "wp"
    have s718 := s717.trans s18
    have hle := max_tells_le hG n0 n1 hm
    rw [if_neg (by omega)]
    refine ne_ints (SqL.of ((s17.trans s18) _ _ upd_same)) (SqL.of (s718 _ _ e7)) ?_
    rw [show decide (ps = ps) = true from decide_eq_true rfl]
    walk_at "wp"
    refine if_join (fun σ' H' => σ' = [some (.ref a), some (.int bs), some (.ref p3), some (.ref x), some (.int (tot rs)), some (.int c), some (.ref D), some (.int n), some (.int w), some (.ref hd), some (.int m2), some (.int (bs + cst rs n)), some (.int m2), none, none, none] ∧ Same H7 H') ?_ ?_
    · rintro σ' H19 ⟨rfl, s719⟩
      walk_at "wp"
      refine if_join (fun σ' H' => σ' = [some (.ref a), some (.int bs), some (.ref p3), some (.ref x), some (.int (tot rs)), some (.int c), some (.ref D), some (.int n), some (.int w), some (.ref hd), some (.int m2), some (.int (bs + cst rs n)), some (.int m2), none, none, none] ∧ Same H7 H') ?_ ?_
      · rintro σ' H20 ⟨rfl, s720⟩
        walk_at "wp"
        have s420 := s47.trans s720
        obtain ⟨dx, fs, e', hl'⟩ := (hM.same s420).self "prices" (by decide +kernel) (by decide +kernel) (by decide +kernel)
        refine ⟨dx, fs, e', hl', ⟨x, bs, rs, rfl, hM.same s420, fun H21 t s21 nt et => ?_⟩⟩
        have hz : rs.length ≤ 10000 := hR4.choose_spec.2.2
        refine ⟨x, bs, rs, t, pricesOf rs, n, rfl, hM.same (s420.trans s21), hG, SqL.of et, by have := prices_len rs; omega, prices_bnd hG, fun _ _ H22 m3 s22 hm3 => ?_, fun z => absurd z (prices_ne rs), fun _ z => absurd ⟨n0, n1⟩ z⟩
        walk_at "wp"
        rw [show decide (m3 = bs + cst rs n) = true from decide_eq_true (max_tells hG n0 n1 hm3 (tells_own hG n0 n1))]
        exact q _
      · intro N hN
        walk_at "wpi"
        refine ite2 (fun hlt => ?_) (fun _ => hN _ _ ⟨rfl, s719⟩)
        have s419 := s47.trans s719
        obtain ⟨dx, fs, e', hl'⟩ := (hM.same s419).self "piece" (by decide +kernel) (by decide +kernel) (by decide +kernel)
        refine ⟨dx, fs, e', hl', ⟨x, bs, rs, n + 1, rfl, hM.same s419, hG, fun _ => ?_, fun z => absurd ⟨by omega, by omega⟩ z⟩⟩
        walk_at "wp"
        intro l nl
        have s20 := same_upd (o := .lst [V.int (pcs rs (n + 1))]) nl
        refine cat_l upd_same (s20 _ _ (s719 _ _ e7)) (by simp; omega) fun l2 nl2 => ?_
        have s21 := same_upd (o := .lst ([V.int (pcs rs (n + 1))] ++ ps.map V.int)) nl2
        have s721 := (s719.trans s20).trans s21
        refine ⟨x, bs, rs, l2, pcs rs (n + 1) :: ps, n, rfl, hM.same (s47.trans s721), hG, SqL.of upd_same, by simp; omega, ?_, fun _ _ H22 m3 s22 hm3 => ?_, fun z => by simp at z, fun _ z => absurd ⟨n0, n1⟩ z⟩
        · intro p hp
          rcases List.mem_cons.mp hp with rfl | hp
          · have := pcs_bnd hG (n := n + 1) (by omega) (by omega); omega
          · exact hps62 p hp
        walk_at "wp"
        rw [show decide (m3 = bs + cst rs n) = true from decide_eq_true (max_tells hG n0 n1 hm3 ⟨_, List.mem_cons_self, tells_next hG n0 hlt⟩)]
        walk_at "wp"
        exact hN _ _ ⟨rfl, s721.trans s22⟩
    · intro N hN
      walk_at "wpi"
      refine ite2 (fun hlt => ?_) (fun _ => hN _ _ ⟨rfl, s718⟩)
      have s418 := s47.trans s718
      obtain ⟨dx, fs, e', hl'⟩ := (hM.same s418).self "piece" (by decide +kernel) (by decide +kernel) (by decide +kernel)
      refine ⟨dx, fs, e', hl', ⟨x, bs, rs, n, rfl, hM.same s418, hG, fun _ => ?_, fun z => absurd ⟨by omega, by omega⟩ z⟩⟩
      walk_at "wp"
      intro l nl
      have s20 := same_upd (o := .lst [V.int (pcs rs n)]) nl
      refine cat_l (s20 _ _ (s718 _ _ e7)) upd_same (by simp; omega) fun l2 nl2 => ?_
      have s21 := same_upd (o := .lst (ps.map V.int ++ [V.int (pcs rs n)])) nl2
      have s721 := (s718.trans s20).trans s21
      refine ⟨x, bs, rs, l2, ps ++ [pcs rs n], n, rfl, hM.same (s47.trans s721), hG, SqL.of (by rw [upd_same, List.map_append]; rfl), by simp; omega, ?_, fun _ _ H22 m3 s22 hm3 => ?_, fun z => by simp at z, fun _ z => absurd ⟨n0, n1⟩ z⟩
      · intro p hp
        rcases List.mem_append.mp hp with hp | hp
        · exact hps62 p hp
        · simp at hp
          rw [hp]
          have := pcs_bnd hG (n := n) (by omega) n1; omega
      walk_at "wp"
      rw [show decide (m3 = bs + cst rs n) = true from decide_eq_true (max_tells hG n0 n1 hm3 ⟨_, List.mem_append_right _ List.mem_cons_self, tells_this hG (by omega) n1⟩)]
      walk_at "wp"
      exact hN _ _ ⟨rfl, s721.trans s22⟩

end
theorem all_mk {l : PySem.W.OpenLaw} {w : World} {K : PySem.W.Frag} {h : Heap} {mg : Str → Option Value} {fa C_MillError C_NoMill C_NoCount C_NoPart C_NoPrice C_NoName C_NoText C_Mill f_back f_put_together f_Mill_init f_Mill_cost f_Mill_piece f_Mill_by_price f_Mill_gain f_Mill_prices f_l_cell_at f_l_whole f_l_wide f_l_cost f_l_stretches f_l_one f_l_cost_of f_l_number f_l_kind f_l_told f_l_price f_l_brought f_l_law : Addr} (X : K.In h) (G : h.Ns mainGlobals mg) (hfa : mg "law" = some (.ref fa))
    {od_back an_back : Option Addr} {sl_back : Array (Option Value)} {oc_back kV_back dc_back pm_back cd_back ct_back : Value}
    {od_put_together an_put_together : Option Addr} {sl_put_together : Array (Option Value)} {oc_put_together kV_put_together dc_put_together pm_put_together cd_put_together ct_put_together : Value}
    {od_Mill_init an_Mill_init : Option Addr} {sl_Mill_init : Array (Option Value)} {oc_Mill_init kV_Mill_init dc_Mill_init pm_Mill_init cd_Mill_init ct_Mill_init : Value}
    {od_Mill_cost an_Mill_cost : Option Addr} {sl_Mill_cost : Array (Option Value)} {oc_Mill_cost kV_Mill_cost dc_Mill_cost pm_Mill_cost cd_Mill_cost ct_Mill_cost : Value}
    {od_Mill_piece an_Mill_piece : Option Addr} {sl_Mill_piece : Array (Option Value)} {oc_Mill_piece kV_Mill_piece dc_Mill_piece pm_Mill_piece cd_Mill_piece ct_Mill_piece : Value}
    {od_Mill_by_price an_Mill_by_price : Option Addr} {sl_Mill_by_price : Array (Option Value)} {oc_Mill_by_price kV_Mill_by_price dc_Mill_by_price pm_Mill_by_price cd_Mill_by_price ct_Mill_by_price : Value}
    {od_Mill_gain an_Mill_gain : Option Addr} {sl_Mill_gain : Array (Option Value)} {oc_Mill_gain kV_Mill_gain dc_Mill_gain pm_Mill_gain cd_Mill_gain ct_Mill_gain : Value}
    {od_Mill_prices an_Mill_prices : Option Addr} {sl_Mill_prices : Array (Option Value)} {oc_Mill_prices kV_Mill_prices dc_Mill_prices pm_Mill_prices cd_Mill_prices ct_Mill_prices : Value}
    {od_l_cell_at an_l_cell_at : Option Addr} {sl_l_cell_at : Array (Option Value)} {oc_l_cell_at kV_l_cell_at dc_l_cell_at pm_l_cell_at cd_l_cell_at ct_l_cell_at : Value}
    {od_l_whole an_l_whole : Option Addr} {sl_l_whole : Array (Option Value)} {oc_l_whole kV_l_whole dc_l_whole pm_l_whole cd_l_whole ct_l_whole : Value}
    {od_l_wide an_l_wide : Option Addr} {sl_l_wide : Array (Option Value)} {oc_l_wide kV_l_wide dc_l_wide pm_l_wide cd_l_wide ct_l_wide : Value}
    {od_l_cost an_l_cost : Option Addr} {sl_l_cost : Array (Option Value)} {oc_l_cost kV_l_cost dc_l_cost pm_l_cost cd_l_cost ct_l_cost : Value}
    {od_l_stretches an_l_stretches : Option Addr} {sl_l_stretches : Array (Option Value)} {oc_l_stretches kV_l_stretches dc_l_stretches pm_l_stretches cd_l_stretches ct_l_stretches : Value}
    {od_l_one an_l_one : Option Addr} {sl_l_one : Array (Option Value)} {oc_l_one kV_l_one dc_l_one pm_l_one cd_l_one ct_l_one : Value}
    {od_l_cost_of an_l_cost_of : Option Addr} {sl_l_cost_of : Array (Option Value)} {oc_l_cost_of kV_l_cost_of dc_l_cost_of pm_l_cost_of cd_l_cost_of ct_l_cost_of : Value}
    {od_l_number an_l_number : Option Addr} {sl_l_number : Array (Option Value)} {oc_l_number kV_l_number dc_l_number pm_l_number cd_l_number ct_l_number : Value}
    {od_l_kind an_l_kind : Option Addr} {sl_l_kind : Array (Option Value)} {oc_l_kind kV_l_kind dc_l_kind pm_l_kind cd_l_kind ct_l_kind : Value}
    {od_l_told an_l_told : Option Addr} {sl_l_told : Array (Option Value)} {oc_l_told kV_l_told dc_l_told pm_l_told cd_l_told ct_l_told : Value}
    {od_l_price an_l_price : Option Addr} {sl_l_price : Array (Option Value)} {oc_l_price kV_l_price dc_l_price pm_l_price cd_l_price ct_l_price : Value}
    {od_l_brought an_l_brought : Option Addr} {sl_l_brought : Array (Option Value)} {oc_l_brought kV_l_brought dc_l_brought pm_l_brought cd_l_brought ct_l_brought : Value}
    {od_l_law an_l_law : Option Addr} {sl_l_law : Array (Option Value)} {oc_l_law kV_l_law dc_l_law pm_l_law cd_l_law ct_l_law : Value}
    (a_MillError : PySem.W.nsIn K mainGlobals "MillError" = some (some (.ref C_MillError)))
    (a_NoMill : PySem.W.nsIn K mainGlobals "NoMill" = some (some (.ref C_NoMill)))
    (a_NoCount : PySem.W.nsIn K mainGlobals "NoCount" = some (some (.ref C_NoCount)))
    (a_NoPart : PySem.W.nsIn K mainGlobals "NoPart" = some (some (.ref C_NoPart)))
    (a_NoPrice : PySem.W.nsIn K mainGlobals "NoPrice" = some (some (.ref C_NoPrice)))
    (a_NoName : PySem.W.nsIn K mainGlobals "NoName" = some (some (.ref C_NoName)))
    (a_NoText : PySem.W.nsIn K mainGlobals "NoText" = some (some (.ref C_NoText)))
    (a_Mill : PySem.W.nsIn K mainGlobals "Mill" = some (some (.ref C_Mill)))
    (k_MillError : PySem.W.keepIn K (.ref C_MillError) = true)
    (x_MillError : PySem.W.excIn K C_MillError [.type "ValueError", .type "Exception", .type "BaseException", .type "object"] "ValueError.__new__" = true)
    (rb_MillError : PySem.W.subIn K (.ref C_MillError) (.type "BaseException") = some true)
    (rt_MillError : PySem.W.typeIn K (.ref C_MillError) = some (.type "type"))
    (k_NoMill : PySem.W.keepIn K (.ref C_NoMill) = true)
    (x_NoMill : PySem.W.excIn K C_NoMill [.type "ValueError", .type "Exception", .type "BaseException", .type "object"] "ValueError.__new__" = true)
    (rb_NoMill : PySem.W.subIn K (.ref C_NoMill) (.type "BaseException") = some true)
    (rt_NoMill : PySem.W.typeIn K (.ref C_NoMill) = some (.type "type"))
    (k_NoCount : PySem.W.keepIn K (.ref C_NoCount) = true)
    (x_NoCount : PySem.W.excIn K C_NoCount [.type "ValueError", .type "Exception", .type "BaseException", .type "object"] "ValueError.__new__" = true)
    (rb_NoCount : PySem.W.subIn K (.ref C_NoCount) (.type "BaseException") = some true)
    (rt_NoCount : PySem.W.typeIn K (.ref C_NoCount) = some (.type "type"))
    (k_NoPart : PySem.W.keepIn K (.ref C_NoPart) = true)
    (x_NoPart : PySem.W.excIn K C_NoPart [.type "ValueError", .type "Exception", .type "BaseException", .type "object"] "ValueError.__new__" = true)
    (rb_NoPart : PySem.W.subIn K (.ref C_NoPart) (.type "BaseException") = some true)
    (rt_NoPart : PySem.W.typeIn K (.ref C_NoPart) = some (.type "type"))
    (k_NoPrice : PySem.W.keepIn K (.ref C_NoPrice) = true)
    (x_NoPrice : PySem.W.excIn K C_NoPrice [.type "ValueError", .type "Exception", .type "BaseException", .type "object"] "ValueError.__new__" = true)
    (rb_NoPrice : PySem.W.subIn K (.ref C_NoPrice) (.type "BaseException") = some true)
    (rt_NoPrice : PySem.W.typeIn K (.ref C_NoPrice) = some (.type "type"))
    (k_NoName : PySem.W.keepIn K (.ref C_NoName) = true)
    (x_NoName : PySem.W.excIn K C_NoName [.type "ValueError", .type "Exception", .type "BaseException", .type "object"] "ValueError.__new__" = true)
    (rb_NoName : PySem.W.subIn K (.ref C_NoName) (.type "BaseException") = some true)
    (rt_NoName : PySem.W.typeIn K (.ref C_NoName) = some (.type "type"))
    (k_NoText : PySem.W.keepIn K (.ref C_NoText) = true)
    (x_NoText : PySem.W.excIn K C_NoText [.type "ValueError", .type "Exception", .type "BaseException", .type "object"] "ValueError.__new__" = true)
    (rb_NoText : PySem.W.subIn K (.ref C_NoText) (.type "BaseException") = some true)
    (rt_NoText : PySem.W.typeIn K (.ref C_NoText) = some (.type "type"))
    (hd_MillError : PySem.W.hasDictIn K C_MillError = true)
    (hd_NoMill : PySem.W.hasDictIn K C_NoMill = true)
    (hd_NoCount : PySem.W.hasDictIn K C_NoCount = true)
    (hd_NoPart : PySem.W.hasDictIn K C_NoPart = true)
    (hd_NoPrice : PySem.W.hasDictIn K C_NoPrice = true)
    (hd_NoName : PySem.W.hasDictIn K C_NoName = true)
    (hd_NoText : PySem.W.hasDictIn K C_NoText = true)
    (ehg_NoPrice : PySem.W.findIn K (.ref C_NoPrice) "__getattribute__" = some (some (.builtin "BaseException.__getattribute__")))
    (ehk_NoPrice : PySem.W.findIn K (.ref C_NoPrice) "__getattr__" = some none)
    (eha_NoPrice : PySem.W.findIn K (.ref C_NoPrice) "__class__" = some (some (.builtin "object.__class__")))
    (ehn_NoPrice : PySem.W.specialIn K (.builtin "object.__class__") "__get__" = some (some (.builtin "getset_descriptor.__get__")))
    (eht_NoPrice : PySem.W.takesIn K (.builtin "object.__class__") = some true)
    (ehm_NoPrice : PySem.W.mroIn K C_NoPrice (.type "object") = some true)
    (sm_NoPrice : PySem.W.subIn K (.ref C_NoPrice) (.ref C_MillError) = some true)
    (ks_NoPrice_NoMill : PySem.W.subIn K (.ref C_NoPrice) (.ref C_NoMill) = some false)
    (nq_NoPrice_NoMill : C_NoPrice ≠ C_NoMill)
    (ks_NoPrice_NoCount : PySem.W.subIn K (.ref C_NoPrice) (.ref C_NoCount) = some false)
    (nq_NoPrice_NoCount : C_NoPrice ≠ C_NoCount)
    (ks_NoPrice_NoPart : PySem.W.subIn K (.ref C_NoPrice) (.ref C_NoPart) = some false)
    (nq_NoPrice_NoPart : C_NoPrice ≠ C_NoPart)
    (ks_NoPrice_NoName : PySem.W.subIn K (.ref C_NoPrice) (.ref C_NoName) = some false)
    (nq_NoPrice_NoName : C_NoPrice ≠ C_NoName)
    (ks_NoPrice_NoText : PySem.W.subIn K (.ref C_NoPrice) (.ref C_NoText) = some false)
    (nq_NoPrice_NoText : C_NoPrice ≠ C_NoText)
    (nq_NoPrice_M : C_NoPrice ≠ C_MillError)
    (sv_NoPrice : PySem.W.subIn K (.ref C_NoPrice) (.type "ValueError") = some true)
    (ehg_NoCount : PySem.W.findIn K (.ref C_NoCount) "__getattribute__" = some (some (.builtin "BaseException.__getattribute__")))
    (ehk_NoCount : PySem.W.findIn K (.ref C_NoCount) "__getattr__" = some none)
    (eha_NoCount : PySem.W.findIn K (.ref C_NoCount) "__class__" = some (some (.builtin "object.__class__")))
    (ehn_NoCount : PySem.W.specialIn K (.builtin "object.__class__") "__get__" = some (some (.builtin "getset_descriptor.__get__")))
    (eht_NoCount : PySem.W.takesIn K (.builtin "object.__class__") = some true)
    (ehm_NoCount : PySem.W.mroIn K C_NoCount (.type "object") = some true)
    (sm_NoCount : PySem.W.subIn K (.ref C_NoCount) (.ref C_MillError) = some true)
    (ks_NoCount_NoMill : PySem.W.subIn K (.ref C_NoCount) (.ref C_NoMill) = some false)
    (nq_NoCount_NoMill : C_NoCount ≠ C_NoMill)
    (ks_NoCount_NoPart : PySem.W.subIn K (.ref C_NoCount) (.ref C_NoPart) = some false)
    (nq_NoCount_NoPart : C_NoCount ≠ C_NoPart)
    (ks_NoCount_NoPrice : PySem.W.subIn K (.ref C_NoCount) (.ref C_NoPrice) = some false)
    (nq_NoCount_NoPrice : C_NoCount ≠ C_NoPrice)
    (ks_NoCount_NoName : PySem.W.subIn K (.ref C_NoCount) (.ref C_NoName) = some false)
    (nq_NoCount_NoName : C_NoCount ≠ C_NoName)
    (ks_NoCount_NoText : PySem.W.subIn K (.ref C_NoCount) (.ref C_NoText) = some false)
    (nq_NoCount_NoText : C_NoCount ≠ C_NoText)
    (nq_NoCount_M : C_NoCount ≠ C_MillError)
    (sv_NoCount : PySem.W.subIn K (.ref C_NoCount) (.type "ValueError") = some true)
    (pg_Mill : PySem.W.plainGet K C_Mill Str.empty = true)
    (hd_Mill : PySem.W.hasDictIn K C_Mill = true)
    (po_Mill : PySem.W.plainOver K C_Mill = true)
    (sa_Mill : PySem.W.findIn K (.ref C_Mill) "__setattr__" = some (some (.builtin "object.__setattr__")))
    (mk_Mill : PySem.W.makesIn K C_Mill = true)
    (kc_Mill : PySem.W.keepIn K (.ref C_Mill) = true)
    (na_Mill_base : PySem.W.findIn K (.ref C_Mill) "base" = some none)
    (na_Mill_stretches : PySem.W.findIn K (.ref C_Mill) "stretches" = some none)
    (na_Mill_size : PySem.W.findIn K (.ref C_Mill) "size" = some none)
    (a_back : PySem.W.nsIn K mainGlobals "back" = some (some (.ref f_back)))
    (l_back : K.lookup f_back = some ⟨oc_back, od_back, .func (PySem.W.fnOf "back" "back" (defArgs s_back) (defBody s_back) (defScope s_back) .none kV_back dc_back pm_back an_back cd_back ct_back), sl_back⟩)
    (c_back : PySem.W.codeIn K cd_back "back" = true)
    (k_back : PySem.W.keepIn K (.ref f_back) = true)
    (a_put_together : PySem.W.nsIn K mainGlobals "put_together" = some (some (.ref f_put_together)))
    (l_put_together : K.lookup f_put_together = some ⟨oc_put_together, od_put_together, .func (PySem.W.fnOf "put_together" "put_together" (defArgs s_put_together) (defBody s_put_together) (defScope s_put_together) .none kV_put_together dc_put_together pm_put_together an_put_together cd_put_together ct_put_together), sl_put_together⟩)
    (c_put_together : PySem.W.codeIn K cd_put_together "put_together" = true)
    (k_put_together : PySem.W.keepIn K (.ref f_put_together) = true)
    (a_Mill_init : PySem.W.findIn K (.ref C_Mill) "__init__" = some (some (.ref f_Mill_init)))
    (i_Mill_init : PySem.W.isFn K (.ref f_Mill_init) = true)
    (l_Mill_init : K.lookup f_Mill_init = some ⟨oc_Mill_init, od_Mill_init, .func (PySem.W.fnOf "__init__" "Mill.__init__" (defArgs s_Mill_init) (defBody s_Mill_init) (defScope s_Mill_init) .none kV_Mill_init dc_Mill_init pm_Mill_init an_Mill_init cd_Mill_init ct_Mill_init), sl_Mill_init⟩)
    (c_Mill_init : PySem.W.codeIn K cd_Mill_init "Mill.__init__" = true)
    (k_Mill_init : PySem.W.keepIn K (.ref f_Mill_init) = true)
    (a_Mill_cost : PySem.W.findIn K (.ref C_Mill) "cost" = some (some (.ref f_Mill_cost)))
    (i_Mill_cost : PySem.W.isFn K (.ref f_Mill_cost) = true)
    (l_Mill_cost : K.lookup f_Mill_cost = some ⟨oc_Mill_cost, od_Mill_cost, .func (PySem.W.fnOf "cost" "Mill.cost" (defArgs s_Mill_cost) (defBody s_Mill_cost) (defScope s_Mill_cost) .none kV_Mill_cost dc_Mill_cost pm_Mill_cost an_Mill_cost cd_Mill_cost ct_Mill_cost), sl_Mill_cost⟩)
    (c_Mill_cost : PySem.W.codeIn K cd_Mill_cost "Mill.cost" = true)
    (k_Mill_cost : PySem.W.keepIn K (.ref f_Mill_cost) = true)
    (a_Mill_piece : PySem.W.findIn K (.ref C_Mill) "piece" = some (some (.ref f_Mill_piece)))
    (i_Mill_piece : PySem.W.isFn K (.ref f_Mill_piece) = true)
    (l_Mill_piece : K.lookup f_Mill_piece = some ⟨oc_Mill_piece, od_Mill_piece, .func (PySem.W.fnOf "piece" "Mill.piece" (defArgs s_Mill_piece) (defBody s_Mill_piece) (defScope s_Mill_piece) .none kV_Mill_piece dc_Mill_piece pm_Mill_piece an_Mill_piece cd_Mill_piece ct_Mill_piece), sl_Mill_piece⟩)
    (c_Mill_piece : PySem.W.codeIn K cd_Mill_piece "Mill.piece" = true)
    (k_Mill_piece : PySem.W.keepIn K (.ref f_Mill_piece) = true)
    (a_Mill_by_price : PySem.W.findIn K (.ref C_Mill) "by_price" = some (some (.ref f_Mill_by_price)))
    (i_Mill_by_price : PySem.W.isFn K (.ref f_Mill_by_price) = true)
    (l_Mill_by_price : K.lookup f_Mill_by_price = some ⟨oc_Mill_by_price, od_Mill_by_price, .func (PySem.W.fnOf "by_price" "Mill.by_price" (defArgs s_Mill_by_price) (defBody s_Mill_by_price) (defScope s_Mill_by_price) .none kV_Mill_by_price dc_Mill_by_price pm_Mill_by_price an_Mill_by_price cd_Mill_by_price ct_Mill_by_price), sl_Mill_by_price⟩)
    (c_Mill_by_price : PySem.W.codeIn K cd_Mill_by_price "Mill.by_price" = true)
    (k_Mill_by_price : PySem.W.keepIn K (.ref f_Mill_by_price) = true)
    (a_Mill_gain : PySem.W.findIn K (.ref C_Mill) "gain" = some (some (.ref f_Mill_gain)))
    (i_Mill_gain : PySem.W.isFn K (.ref f_Mill_gain) = true)
    (l_Mill_gain : K.lookup f_Mill_gain = some ⟨oc_Mill_gain, od_Mill_gain, .func (PySem.W.fnOf "gain" "Mill.gain" (defArgs s_Mill_gain) (defBody s_Mill_gain) (defScope s_Mill_gain) .none kV_Mill_gain dc_Mill_gain pm_Mill_gain an_Mill_gain cd_Mill_gain ct_Mill_gain), sl_Mill_gain⟩)
    (c_Mill_gain : PySem.W.codeIn K cd_Mill_gain "Mill.gain" = true)
    (k_Mill_gain : PySem.W.keepIn K (.ref f_Mill_gain) = true)
    (a_Mill_prices : PySem.W.findIn K (.ref C_Mill) "prices" = some (some (.ref f_Mill_prices)))
    (i_Mill_prices : PySem.W.isFn K (.ref f_Mill_prices) = true)
    (l_Mill_prices : K.lookup f_Mill_prices = some ⟨oc_Mill_prices, od_Mill_prices, .func (PySem.W.fnOf "prices" "Mill.prices" (defArgs s_Mill_prices) (defBody s_Mill_prices) (defScope s_Mill_prices) .none kV_Mill_prices dc_Mill_prices pm_Mill_prices an_Mill_prices cd_Mill_prices ct_Mill_prices), sl_Mill_prices⟩)
    (c_Mill_prices : PySem.W.codeIn K cd_Mill_prices "Mill.prices" = true)
    (k_Mill_prices : PySem.W.keepIn K (.ref f_Mill_prices) = true)
    (a_l_cell_at : PySem.W.nsIn K mainGlobals "_law_cell_at" = some (some (.ref f_l_cell_at)))
    (l_l_cell_at : K.lookup f_l_cell_at = some ⟨oc_l_cell_at, od_l_cell_at, .func (PySem.W.fnOf "_law_cell_at" "_law_cell_at" (defArgs s_l_cell_at) (defBody s_l_cell_at) (defScope s_l_cell_at) .none kV_l_cell_at dc_l_cell_at pm_l_cell_at an_l_cell_at cd_l_cell_at ct_l_cell_at), sl_l_cell_at⟩)
    (c_l_cell_at : PySem.W.codeIn K cd_l_cell_at "_law_cell_at" = true)
    (k_l_cell_at : PySem.W.keepIn K (.ref f_l_cell_at) = true)
    (a_l_whole : PySem.W.nsIn K mainGlobals "_law_whole" = some (some (.ref f_l_whole)))
    (l_l_whole : K.lookup f_l_whole = some ⟨oc_l_whole, od_l_whole, .func (PySem.W.fnOf "_law_whole" "_law_whole" (defArgs s_l_whole) (defBody s_l_whole) (defScope s_l_whole) .none kV_l_whole dc_l_whole pm_l_whole an_l_whole cd_l_whole ct_l_whole), sl_l_whole⟩)
    (c_l_whole : PySem.W.codeIn K cd_l_whole "_law_whole" = true)
    (k_l_whole : PySem.W.keepIn K (.ref f_l_whole) = true)
    (a_l_wide : PySem.W.nsIn K mainGlobals "_law_wide" = some (some (.ref f_l_wide)))
    (l_l_wide : K.lookup f_l_wide = some ⟨oc_l_wide, od_l_wide, .func (PySem.W.fnOf "_law_wide" "_law_wide" (defArgs s_l_wide) (defBody s_l_wide) (defScope s_l_wide) .none kV_l_wide dc_l_wide pm_l_wide an_l_wide cd_l_wide ct_l_wide), sl_l_wide⟩)
    (c_l_wide : PySem.W.codeIn K cd_l_wide "_law_wide" = true)
    (k_l_wide : PySem.W.keepIn K (.ref f_l_wide) = true)
    (a_l_cost : PySem.W.nsIn K mainGlobals "_law_cost" = some (some (.ref f_l_cost)))
    (l_l_cost : K.lookup f_l_cost = some ⟨oc_l_cost, od_l_cost, .func (PySem.W.fnOf "_law_cost" "_law_cost" (defArgs s_l_cost) (defBody s_l_cost) (defScope s_l_cost) .none kV_l_cost dc_l_cost pm_l_cost an_l_cost cd_l_cost ct_l_cost), sl_l_cost⟩)
    (c_l_cost : PySem.W.codeIn K cd_l_cost "_law_cost" = true)
    (k_l_cost : PySem.W.keepIn K (.ref f_l_cost) = true)
    (a_l_stretches : PySem.W.nsIn K mainGlobals "_law_stretches" = some (some (.ref f_l_stretches)))
    (l_l_stretches : K.lookup f_l_stretches = some ⟨oc_l_stretches, od_l_stretches, .func (PySem.W.fnOf "_law_stretches" "_law_stretches" (defArgs s_l_stretches) (defBody s_l_stretches) (defScope s_l_stretches) .none kV_l_stretches dc_l_stretches pm_l_stretches an_l_stretches cd_l_stretches ct_l_stretches), sl_l_stretches⟩)
    (c_l_stretches : PySem.W.codeIn K cd_l_stretches "_law_stretches" = true)
    (k_l_stretches : PySem.W.keepIn K (.ref f_l_stretches) = true)
    (a_l_one : PySem.W.nsIn K mainGlobals "_law_one" = some (some (.ref f_l_one)))
    (l_l_one : K.lookup f_l_one = some ⟨oc_l_one, od_l_one, .func (PySem.W.fnOf "_law_one" "_law_one" (defArgs s_l_one) (defBody s_l_one) (defScope s_l_one) .none kV_l_one dc_l_one pm_l_one an_l_one cd_l_one ct_l_one), sl_l_one⟩)
    (c_l_one : PySem.W.codeIn K cd_l_one "_law_one" = true)
    (k_l_one : PySem.W.keepIn K (.ref f_l_one) = true)
    (a_l_cost_of : PySem.W.nsIn K mainGlobals "_law_cost_of" = some (some (.ref f_l_cost_of)))
    (l_l_cost_of : K.lookup f_l_cost_of = some ⟨oc_l_cost_of, od_l_cost_of, .func (PySem.W.fnOf "_law_cost_of" "_law_cost_of" (defArgs s_l_cost_of) (defBody s_l_cost_of) (defScope s_l_cost_of) .none kV_l_cost_of dc_l_cost_of pm_l_cost_of an_l_cost_of cd_l_cost_of ct_l_cost_of), sl_l_cost_of⟩)
    (c_l_cost_of : PySem.W.codeIn K cd_l_cost_of "_law_cost_of" = true)
    (k_l_cost_of : PySem.W.keepIn K (.ref f_l_cost_of) = true)
    (a_l_number : PySem.W.nsIn K mainGlobals "_law_number" = some (some (.ref f_l_number)))
    (l_l_number : K.lookup f_l_number = some ⟨oc_l_number, od_l_number, .func (PySem.W.fnOf "_law_number" "_law_number" (defArgs s_l_number) (defBody s_l_number) (defScope s_l_number) .none kV_l_number dc_l_number pm_l_number an_l_number cd_l_number ct_l_number), sl_l_number⟩)
    (c_l_number : PySem.W.codeIn K cd_l_number "_law_number" = true)
    (k_l_number : PySem.W.keepIn K (.ref f_l_number) = true)
    (a_l_kind : PySem.W.nsIn K mainGlobals "_law_kind" = some (some (.ref f_l_kind)))
    (l_l_kind : K.lookup f_l_kind = some ⟨oc_l_kind, od_l_kind, .func (PySem.W.fnOf "_law_kind" "_law_kind" (defArgs s_l_kind) (defBody s_l_kind) (defScope s_l_kind) .none kV_l_kind dc_l_kind pm_l_kind an_l_kind cd_l_kind ct_l_kind), sl_l_kind⟩)
    (c_l_kind : PySem.W.codeIn K cd_l_kind "_law_kind" = true)
    (k_l_kind : PySem.W.keepIn K (.ref f_l_kind) = true)
    (a_l_told : PySem.W.nsIn K mainGlobals "_law_told" = some (some (.ref f_l_told)))
    (l_l_told : K.lookup f_l_told = some ⟨oc_l_told, od_l_told, .func (PySem.W.fnOf "_law_told" "_law_told" (defArgs s_l_told) (defBody s_l_told) (defScope s_l_told) .none kV_l_told dc_l_told pm_l_told an_l_told cd_l_told ct_l_told), sl_l_told⟩)
    (c_l_told : PySem.W.codeIn K cd_l_told "_law_told" = true)
    (k_l_told : PySem.W.keepIn K (.ref f_l_told) = true)
    (a_l_price : PySem.W.nsIn K mainGlobals "_law_price" = some (some (.ref f_l_price)))
    (l_l_price : K.lookup f_l_price = some ⟨oc_l_price, od_l_price, .func (PySem.W.fnOf "_law_price" "_law_price" (defArgs s_l_price) (defBody s_l_price) (defScope s_l_price) .none kV_l_price dc_l_price pm_l_price an_l_price cd_l_price ct_l_price), sl_l_price⟩)
    (c_l_price : PySem.W.codeIn K cd_l_price "_law_price" = true)
    (k_l_price : PySem.W.keepIn K (.ref f_l_price) = true)
    (a_l_brought : PySem.W.nsIn K mainGlobals "_law_brought" = some (some (.ref f_l_brought)))
    (l_l_brought : K.lookup f_l_brought = some ⟨oc_l_brought, od_l_brought, .func (PySem.W.fnOf "_law_brought" "_law_brought" (defArgs s_l_brought) (defBody s_l_brought) (defScope s_l_brought) .none kV_l_brought dc_l_brought pm_l_brought an_l_brought cd_l_brought ct_l_brought), sl_l_brought⟩)
    (c_l_brought : PySem.W.codeIn K cd_l_brought "_law_brought" = true)
    (k_l_brought : PySem.W.keepIn K (.ref f_l_brought) = true)
    (a_l_law : PySem.W.nsIn K mainGlobals "law" = some (some (.ref f_l_law)))
    (l_l_law : K.lookup f_l_law = some ⟨oc_l_law, od_l_law, .func (PySem.W.fnOf "law" "law" (defArgs s_l_law) (defBody s_l_law) (defScope s_l_law) .none kV_l_law dc_l_law pm_l_law an_l_law cd_l_law ct_l_law), sl_l_law⟩)
    (c_l_law : PySem.W.codeIn K cd_l_law "law" = true)
    (k_l_law : PySem.W.keepIn K (.ref f_l_law) = true)
    (n_ValueError : PySem.W.nsIn K mainGlobals "ValueError" = some none)
    (n_bool : PySem.W.nsIn K mainGlobals "bool" = some none)
    (n_int : PySem.W.nsIn K mainGlobals "int" = some none)
    (n_isinstance : PySem.W.nsIn K mainGlobals "isinstance" = some none)
    (n_len : PySem.W.nsIn K mainGlobals "len" = some none)
    (n_list : PySem.W.nsIn K mainGlobals "list" = some none)
    (n_max : PySem.W.nsIn K mainGlobals "max" = some none)
    (n_min : PySem.W.nsIn K mainGlobals "min" = some none)
    (n_range : PySem.W.nsIn K mainGlobals "range" = some none)
    (n_sorted : PySem.W.nsIn K mainGlobals "sorted" = some none)
    (n_sum : PySem.W.nsIn K mainGlobals "sum" = some none)
    (n_tuple : PySem.W.nsIn K mainGlobals "tuple" = some none) :
    ∃ fd : FuncData, (∀ (s : Shared) (v : Value), BindsTo s fd ⟨[v], []⟩ [("_law_script", v)]) ∧ ∀ base : Heap, K.In base → base.Ns mainGlobals mg → FnOk l.prog w K mg base (L2.CX l.prog w) 5 fa fd ["_law_script"] (spTrue K) := by
  have e : fa = f_l_law := Value.ref.inj (Option.some.inj (hfa.symm.trans (PySem.W.mg_of X G a_l_law)))
  rw [e]
  let A : Adr := { MillError := C_MillError, NoMill := C_NoMill, NoCount := C_NoCount, NoPart := C_NoPart, NoPrice := C_NoPrice, NoName := C_NoName, NoText := C_NoText, Mill := C_Mill, f_back := f_back, d_back := PySem.W.fnOf "back" "back" (defArgs s_back) (defBody s_back) (defScope s_back) .none kV_back dc_back pm_back an_back cd_back ct_back, f_put_together := f_put_together, d_put_together := PySem.W.fnOf "put_together" "put_together" (defArgs s_put_together) (defBody s_put_together) (defScope s_put_together) .none kV_put_together dc_put_together pm_put_together an_put_together cd_put_together ct_put_together, f_Mill_init := f_Mill_init, d_Mill_init := PySem.W.fnOf "__init__" "Mill.__init__" (defArgs s_Mill_init) (defBody s_Mill_init) (defScope s_Mill_init) .none kV_Mill_init dc_Mill_init pm_Mill_init an_Mill_init cd_Mill_init ct_Mill_init, f_Mill_cost := f_Mill_cost, d_Mill_cost := PySem.W.fnOf "cost" "Mill.cost" (defArgs s_Mill_cost) (defBody s_Mill_cost) (defScope s_Mill_cost) .none kV_Mill_cost dc_Mill_cost pm_Mill_cost an_Mill_cost cd_Mill_cost ct_Mill_cost, f_Mill_piece := f_Mill_piece, d_Mill_piece := PySem.W.fnOf "piece" "Mill.piece" (defArgs s_Mill_piece) (defBody s_Mill_piece) (defScope s_Mill_piece) .none kV_Mill_piece dc_Mill_piece pm_Mill_piece an_Mill_piece cd_Mill_piece ct_Mill_piece, f_Mill_by_price := f_Mill_by_price, d_Mill_by_price := PySem.W.fnOf "by_price" "Mill.by_price" (defArgs s_Mill_by_price) (defBody s_Mill_by_price) (defScope s_Mill_by_price) .none kV_Mill_by_price dc_Mill_by_price pm_Mill_by_price an_Mill_by_price cd_Mill_by_price ct_Mill_by_price, f_Mill_gain := f_Mill_gain, d_Mill_gain := PySem.W.fnOf "gain" "Mill.gain" (defArgs s_Mill_gain) (defBody s_Mill_gain) (defScope s_Mill_gain) .none kV_Mill_gain dc_Mill_gain pm_Mill_gain an_Mill_gain cd_Mill_gain ct_Mill_gain, f_Mill_prices := f_Mill_prices, d_Mill_prices := PySem.W.fnOf "prices" "Mill.prices" (defArgs s_Mill_prices) (defBody s_Mill_prices) (defScope s_Mill_prices) .none kV_Mill_prices dc_Mill_prices pm_Mill_prices an_Mill_prices cd_Mill_prices ct_Mill_prices, f_l_cell_at := f_l_cell_at, d_l_cell_at := PySem.W.fnOf "_law_cell_at" "_law_cell_at" (defArgs s_l_cell_at) (defBody s_l_cell_at) (defScope s_l_cell_at) .none kV_l_cell_at dc_l_cell_at pm_l_cell_at an_l_cell_at cd_l_cell_at ct_l_cell_at, f_l_whole := f_l_whole, d_l_whole := PySem.W.fnOf "_law_whole" "_law_whole" (defArgs s_l_whole) (defBody s_l_whole) (defScope s_l_whole) .none kV_l_whole dc_l_whole pm_l_whole an_l_whole cd_l_whole ct_l_whole, f_l_wide := f_l_wide, d_l_wide := PySem.W.fnOf "_law_wide" "_law_wide" (defArgs s_l_wide) (defBody s_l_wide) (defScope s_l_wide) .none kV_l_wide dc_l_wide pm_l_wide an_l_wide cd_l_wide ct_l_wide, f_l_cost := f_l_cost, d_l_cost := PySem.W.fnOf "_law_cost" "_law_cost" (defArgs s_l_cost) (defBody s_l_cost) (defScope s_l_cost) .none kV_l_cost dc_l_cost pm_l_cost an_l_cost cd_l_cost ct_l_cost, f_l_stretches := f_l_stretches, d_l_stretches := PySem.W.fnOf "_law_stretches" "_law_stretches" (defArgs s_l_stretches) (defBody s_l_stretches) (defScope s_l_stretches) .none kV_l_stretches dc_l_stretches pm_l_stretches an_l_stretches cd_l_stretches ct_l_stretches, f_l_one := f_l_one, d_l_one := PySem.W.fnOf "_law_one" "_law_one" (defArgs s_l_one) (defBody s_l_one) (defScope s_l_one) .none kV_l_one dc_l_one pm_l_one an_l_one cd_l_one ct_l_one, f_l_cost_of := f_l_cost_of, d_l_cost_of := PySem.W.fnOf "_law_cost_of" "_law_cost_of" (defArgs s_l_cost_of) (defBody s_l_cost_of) (defScope s_l_cost_of) .none kV_l_cost_of dc_l_cost_of pm_l_cost_of an_l_cost_of cd_l_cost_of ct_l_cost_of, f_l_number := f_l_number, d_l_number := PySem.W.fnOf "_law_number" "_law_number" (defArgs s_l_number) (defBody s_l_number) (defScope s_l_number) .none kV_l_number dc_l_number pm_l_number an_l_number cd_l_number ct_l_number, f_l_kind := f_l_kind, d_l_kind := PySem.W.fnOf "_law_kind" "_law_kind" (defArgs s_l_kind) (defBody s_l_kind) (defScope s_l_kind) .none kV_l_kind dc_l_kind pm_l_kind an_l_kind cd_l_kind ct_l_kind, f_l_told := f_l_told, d_l_told := PySem.W.fnOf "_law_told" "_law_told" (defArgs s_l_told) (defBody s_l_told) (defScope s_l_told) .none kV_l_told dc_l_told pm_l_told an_l_told cd_l_told ct_l_told, f_l_price := f_l_price, d_l_price := PySem.W.fnOf "_law_price" "_law_price" (defArgs s_l_price) (defBody s_l_price) (defScope s_l_price) .none kV_l_price dc_l_price pm_l_price an_l_price cd_l_price ct_l_price, f_l_brought := f_l_brought, d_l_brought := PySem.W.fnOf "_law_brought" "_law_brought" (defArgs s_l_brought) (defBody s_l_brought) (defScope s_l_brought) .none kV_l_brought dc_l_brought pm_l_brought an_l_brought cd_l_brought ct_l_brought, f_l_law := f_l_law, d_l_law := PySem.W.fnOf "law" "law" (defArgs s_l_law) (defBody s_l_law) (defScope s_l_law) .none kV_l_law dc_l_law pm_l_law an_l_law cd_l_law ct_l_law }
  have T : Txt K mg A := { g_MillError := PySem.W.mg_of X G a_MillError, k_MillError := k_MillError, x_MillError := x_MillError, rb_MillError := rb_MillError, rt_MillError := rt_MillError, g_NoMill := PySem.W.mg_of X G a_NoMill, k_NoMill := k_NoMill, x_NoMill := x_NoMill, rb_NoMill := rb_NoMill, rt_NoMill := rt_NoMill, g_NoCount := PySem.W.mg_of X G a_NoCount, k_NoCount := k_NoCount, x_NoCount := x_NoCount, rb_NoCount := rb_NoCount, rt_NoCount := rt_NoCount, g_NoPart := PySem.W.mg_of X G a_NoPart, k_NoPart := k_NoPart, x_NoPart := x_NoPart, rb_NoPart := rb_NoPart, rt_NoPart := rt_NoPart, g_NoPrice := PySem.W.mg_of X G a_NoPrice, k_NoPrice := k_NoPrice, x_NoPrice := x_NoPrice, rb_NoPrice := rb_NoPrice, rt_NoPrice := rt_NoPrice, g_NoName := PySem.W.mg_of X G a_NoName, k_NoName := k_NoName, x_NoName := x_NoName, rb_NoName := rb_NoName, rt_NoName := rt_NoName, g_NoText := PySem.W.mg_of X G a_NoText, k_NoText := k_NoText, x_NoText := x_NoText, rb_NoText := rb_NoText, rt_NoText := rt_NoText, xc_NoPrice := ⟨ehg_NoPrice, ehk_NoPrice, rb_NoPrice, hd_NoPrice, eha_NoPrice, ehn_NoPrice, eht_NoPrice, ehm_NoPrice⟩, xm_NoPrice := PySem.W.exm_ref rb_MillError hd_MillError rt_MillError sm_NoPrice, ki_NoPrice_NoMill := kit_f nq_NoPrice_NoMill hd_NoMill rt_NoMill ks_NoPrice_NoMill, ki_NoPrice_NoCount := kit_f nq_NoPrice_NoCount hd_NoCount rt_NoCount ks_NoPrice_NoCount, ki_NoPrice_NoPart := kit_f nq_NoPrice_NoPart hd_NoPart rt_NoPart ks_NoPrice_NoPart, ki_NoPrice_NoPrice := kit_t, ki_NoPrice_NoName := kit_f nq_NoPrice_NoName hd_NoName rt_NoName ks_NoPrice_NoName, ki_NoPrice_NoText := kit_f nq_NoPrice_NoText hd_NoText rt_NoText ks_NoPrice_NoText, ki_NoPrice_M := kit_f nq_NoPrice_M hd_MillError rt_MillError sm_NoPrice, ki_NoPrice_V := kit_v sv_NoPrice, xc_NoCount := ⟨ehg_NoCount, ehk_NoCount, rb_NoCount, hd_NoCount, eha_NoCount, ehn_NoCount, eht_NoCount, ehm_NoCount⟩, xm_NoCount := PySem.W.exm_ref rb_MillError hd_MillError rt_MillError sm_NoCount, ki_NoCount_NoMill := kit_f nq_NoCount_NoMill hd_NoMill rt_NoMill ks_NoCount_NoMill, ki_NoCount_NoCount := kit_t, ki_NoCount_NoPart := kit_f nq_NoCount_NoPart hd_NoPart rt_NoPart ks_NoCount_NoPart, ki_NoCount_NoPrice := kit_f nq_NoCount_NoPrice hd_NoPrice rt_NoPrice ks_NoCount_NoPrice, ki_NoCount_NoName := kit_f nq_NoCount_NoName hd_NoName rt_NoName ks_NoCount_NoName, ki_NoCount_NoText := kit_f nq_NoCount_NoText hd_NoText rt_NoText ks_NoCount_NoText, ki_NoCount_M := kit_f nq_NoCount_M hd_MillError rt_MillError sm_NoCount, ki_NoCount_V := kit_v sv_NoCount, g_Mill := PySem.W.mg_of X G a_Mill, cl_Mill := ⟨pg_Mill, hd_Mill, po_Mill, sa_Mill⟩, mk_Mill := ⟨mk_Mill, a_Mill_init, i_Mill_init, kc_Mill⟩, na_Mill_base := na_Mill_base, na_Mill_stretches := na_Mill_stretches, na_Mill_size := na_Mill_size, F_back := fun_mk (st := s_back) l_back c_back k_back, b_back := (fun_mk (st := s_back) l_back c_back k_back).binds (ps := ["mill", "prices", "many"]) fun _ _ _ _ _ _ us hl => match us, hl with | [_, _, _], _ => rfl, g_back := PySem.W.mg_of X G a_back, F_put_together := fun_mk (st := s_put_together) l_put_together c_put_together k_put_together, b_put_together := (fun_mk (st := s_put_together) l_put_together c_put_together k_put_together).binds (ps := ["stretches"]) fun _ _ _ _ _ _ us hl => match us, hl with | [_], _ => rfl, g_put_together := PySem.W.mg_of X G a_put_together, F_Mill_init := fun_mk (st := s_Mill_init) l_Mill_init c_Mill_init k_Mill_init, b_Mill_init := (fun_mk (st := s_Mill_init) l_Mill_init c_Mill_init k_Mill_init).binds (ps := ["self", "base", "stretches"]) fun _ _ _ _ _ _ us hl => match us, hl with | [_, _, _], _ => rfl, F_Mill_cost := fun_mk (st := s_Mill_cost) l_Mill_cost c_Mill_cost k_Mill_cost, b_Mill_cost := (fun_mk (st := s_Mill_cost) l_Mill_cost c_Mill_cost k_Mill_cost).binds (ps := ["self", "many"]) fun _ _ _ _ _ _ us hl => match us, hl with | [_, _], _ => rfl, m_Mill_cost := ⟨a_Mill_cost, i_Mill_cost, k_Mill_cost⟩, F_Mill_piece := fun_mk (st := s_Mill_piece) l_Mill_piece c_Mill_piece k_Mill_piece, b_Mill_piece := (fun_mk (st := s_Mill_piece) l_Mill_piece c_Mill_piece k_Mill_piece).binds (ps := ["self", "number"]) fun _ _ _ _ _ _ us hl => match us, hl with | [_, _], _ => rfl, m_Mill_piece := ⟨a_Mill_piece, i_Mill_piece, k_Mill_piece⟩, F_Mill_by_price := fun_mk (st := s_Mill_by_price) l_Mill_by_price c_Mill_by_price k_Mill_by_price, b_Mill_by_price := (fun_mk (st := s_Mill_by_price) l_Mill_by_price c_Mill_by_price k_Mill_by_price).binds (ps := ["self", "price"]) fun _ _ _ _ _ _ us hl => match us, hl with | [_, _], _ => rfl, m_Mill_by_price := ⟨a_Mill_by_price, i_Mill_by_price, k_Mill_by_price⟩, F_Mill_gain := fun_mk (st := s_Mill_gain) l_Mill_gain c_Mill_gain k_Mill_gain, b_Mill_gain := (fun_mk (st := s_Mill_gain) l_Mill_gain c_Mill_gain k_Mill_gain).binds (ps := ["self", "price"]) fun _ _ _ _ _ _ us hl => match us, hl with | [_, _], _ => rfl, m_Mill_gain := ⟨a_Mill_gain, i_Mill_gain, k_Mill_gain⟩, F_Mill_prices := fun_mk (st := s_Mill_prices) l_Mill_prices c_Mill_prices k_Mill_prices, b_Mill_prices := (fun_mk (st := s_Mill_prices) l_Mill_prices c_Mill_prices k_Mill_prices).binds (ps := ["self"]) fun _ _ _ _ _ _ us hl => match us, hl with | [_], _ => rfl, m_Mill_prices := ⟨a_Mill_prices, i_Mill_prices, k_Mill_prices⟩, F_l_cell_at := fun_mk (st := s_l_cell_at) l_l_cell_at c_l_cell_at k_l_cell_at, b_l_cell_at := (fun_mk (st := s_l_cell_at) l_l_cell_at c_l_cell_at k_l_cell_at).binds (ps := ["_law_script", "_law_k"]) fun _ _ _ _ _ _ us hl => match us, hl with | [_, _], _ => rfl, g__law_cell_at := PySem.W.mg_of X G a_l_cell_at, F_l_whole := fun_mk (st := s_l_whole) l_l_whole c_l_whole k_l_whole, b_l_whole := (fun_mk (st := s_l_whole) l_l_whole c_l_whole k_l_whole).binds (ps := ["_law_found"]) fun _ _ _ _ _ _ us hl => match us, hl with | [_], _ => rfl, g__law_whole := PySem.W.mg_of X G a_l_whole, F_l_wide := fun_mk (st := s_l_wide) l_l_wide c_l_wide k_l_wide, b_l_wide := (fun_mk (st := s_l_wide) l_l_wide c_l_wide k_l_wide).binds (ps := ["_law_cell"]) fun _ _ _ _ _ _ us hl => match us, hl with | [_], _ => rfl, g__law_wide := PySem.W.mg_of X G a_l_wide, F_l_cost := fun_mk (st := s_l_cost) l_l_cost c_l_cost k_l_cost, b_l_cost := (fun_mk (st := s_l_cost) l_l_cost c_l_cost k_l_cost).binds (ps := ["_law_cell"]) fun _ _ _ _ _ _ us hl => match us, hl with | [_], _ => rfl, g__law_cost := PySem.W.mg_of X G a_l_cost, F_l_stretches := fun_mk (st := s_l_stretches) l_l_stretches c_l_stretches k_l_stretches, b_l_stretches := (fun_mk (st := s_l_stretches) l_l_stretches c_l_stretches k_l_stretches).binds (ps := ["_law_script", "_law_at", "_law_most"]) fun _ _ _ _ _ _ us hl => match us, hl with | [_, _, _], _ => rfl, g__law_stretches := PySem.W.mg_of X G a_l_stretches, F_l_one := fun_mk (st := s_l_one) l_l_one c_l_one k_l_one, b_l_one := (fun_mk (st := s_l_one) l_l_one c_l_one k_l_one).binds (ps := ["_law_rows"]) fun _ _ _ _ _ _ us hl => match us, hl with | [_], _ => rfl, g__law_one := PySem.W.mg_of X G a_l_one, F_l_cost_of := fun_mk (st := s_l_cost_of) l_l_cost_of c_l_cost_of k_l_cost_of, b_l_cost_of := (fun_mk (st := s_l_cost_of) l_l_cost_of c_l_cost_of k_l_cost_of).binds (ps := ["_law_base", "_law_rows", "_law_many"]) fun _ _ _ _ _ _ us hl => match us, hl with | [_, _, _], _ => rfl, g__law_cost_of := PySem.W.mg_of X G a_l_cost_of, F_l_number := fun_mk (st := s_l_number) l_l_number c_l_number k_l_number, b_l_number := (fun_mk (st := s_l_number) l_l_number c_l_number k_l_number).binds (ps := ["_law_cell", "_law_rows"]) fun _ _ _ _ _ _ us hl => match us, hl with | [_, _], _ => rfl, g__law_number := PySem.W.mg_of X G a_l_number, F_l_kind := fun_mk (st := s_l_kind) l_l_kind c_l_kind k_l_kind, b_l_kind := (fun_mk (st := s_l_kind) l_l_kind c_l_kind k_l_kind).binds (ps := ["_law_e"]) fun _ _ _ _ _ _ us hl => match us, hl with | [_], _ => rfl, g__law_kind := PySem.W.mg_of X G a_l_kind, F_l_told := fun_mk (st := s_l_told) l_l_told c_l_told k_l_told, b_l_told := (fun_mk (st := s_l_told) l_l_told c_l_told k_l_told).binds (ps := ["_law_mill", "_law_prices", "_law_many"]) fun _ _ _ _ _ _ us hl => match us, hl with | [_, _, _], _ => rfl, g__law_told := PySem.W.mg_of X G a_l_told, F_l_price := fun_mk (st := s_l_price) l_l_price c_l_price k_l_price, b_l_price := (fun_mk (st := s_l_price) l_l_price c_l_price k_l_price).binds (ps := ["_law_cell", "_law_rows"]) fun _ _ _ _ _ _ us hl => match us, hl with | [_, _], _ => rfl, g__law_price := PySem.W.mg_of X G a_l_price, F_l_brought := fun_mk (st := s_l_brought) l_l_brought c_l_brought k_l_brought, b_l_brought := (fun_mk (st := s_l_brought) l_l_brought c_l_brought k_l_brought).binds (ps := ["_law_base", "_law_rows", "_law_price_here", "_law_many"]) fun _ _ _ _ _ _ us hl => match us, hl with | [_, _, _, _], _ => rfl, g__law_brought := PySem.W.mg_of X G a_l_brought, F_l_law := fun_mk (st := s_l_law) l_l_law c_l_law k_l_law, b_l_law := (fun_mk (st := s_l_law) l_l_law c_l_law k_l_law).binds (ps := ["_law_script"]) fun _ _ _ _ _ _ us hl => match us, hl with | [_], _ => rfl, g_law := PySem.W.mg_of X G a_l_law, n_ValueError := PySem.W.mg_none_of X G n_ValueError, n_bool := PySem.W.mg_none_of X G n_bool, n_int := PySem.W.mg_none_of X G n_int, n_isinstance := PySem.W.mg_none_of X G n_isinstance, n_len := PySem.W.mg_none_of X G n_len, n_list := PySem.W.mg_none_of X G n_list, n_max := PySem.W.mg_none_of X G n_max, n_min := PySem.W.mg_none_of X G n_min, n_range := PySem.W.mg_none_of X G n_range, n_sorted := PySem.W.mg_none_of X G n_sorted, n_sum := PySem.W.mg_none_of X G n_sum, n_tuple := PySem.W.mg_none_of X G n_tuple }
  exact ⟨A.d_l_law, fun s v => .of_eq rfl, fun base _ _ => ok_l_law T⟩
end Ms
open PySem PySem.W PyProof.Rows
set_option maxHeartbeats 0 in
theorem PySem.Challenge.cw_millshare_k11_told_back_holds : PySem.Challenge.rw_millshare_k11_told_back.Holds := by
  w_on; o_law; k_head; (case hw => w_witness2)
  k_fill
  refine L2.walk_of (l := PySem.Challenge.rw_millshare_k11_told_back) (n := 63) (k := 5) (x := "_law_script") (CX := fun w => L2.CX (PySem.Challenge.rw_millshare_k11_told_back).prog w) (sp := fun w => Ms.spTrue _) rfl (by decide) rfl ⟨rfl, by decide, by decide⟩ (fun w h Y => PySem.W.kIn_of Y) ?F (fun _ _ a ns hl _ hS => ⟨a, ns, rfl, hS, hl, fun _ => rfl⟩) (fun _ _ _ _ _ h => Ms.noCX h)
  case F =>
    intro w mg fa h KX G hmg
    refine' Ms.all_mk KX G hmg ?a_MillError ?a_NoMill ?a_NoCount ?a_NoPart ?a_NoPrice ?a_NoName ?a_NoText ?a_Mill ?k_MillError ?x_MillError ?rb_MillError ?rt_MillError ?k_NoMill ?x_NoMill ?rb_NoMill ?rt_NoMill ?k_NoCount ?x_NoCount ?rb_NoCount ?rt_NoCount ?k_NoPart ?x_NoPart ?rb_NoPart ?rt_NoPart ?k_NoPrice ?x_NoPrice ?rb_NoPrice ?rt_NoPrice ?k_NoName ?x_NoName ?rb_NoName ?rt_NoName ?k_NoText ?x_NoText ?rb_NoText ?rt_NoText ?hd_MillError ?hd_NoMill ?hd_NoCount ?hd_NoPart ?hd_NoPrice ?hd_NoName ?hd_NoText ?ehg_NoPrice ?ehk_NoPrice ?eha_NoPrice ?ehn_NoPrice ?eht_NoPrice ?ehm_NoPrice ?sm_NoPrice ?ks_NoPrice_NoMill ?nq_NoPrice_NoMill ?ks_NoPrice_NoCount ?nq_NoPrice_NoCount ?ks_NoPrice_NoPart ?nq_NoPrice_NoPart ?ks_NoPrice_NoName ?nq_NoPrice_NoName ?ks_NoPrice_NoText ?nq_NoPrice_NoText ?nq_NoPrice_M ?sv_NoPrice ?ehg_NoCount ?ehk_NoCount ?eha_NoCount ?ehn_NoCount ?eht_NoCount ?ehm_NoCount ?sm_NoCount ?ks_NoCount_NoMill ?nq_NoCount_NoMill ?ks_NoCount_NoPart ?nq_NoCount_NoPart ?ks_NoCount_NoPrice ?nq_NoCount_NoPrice ?ks_NoCount_NoName ?nq_NoCount_NoName ?ks_NoCount_NoText ?nq_NoCount_NoText ?nq_NoCount_M ?sv_NoCount ?pg_Mill ?hd_Mill ?po_Mill ?sa_Mill ?mk_Mill ?kc_Mill ?na_Mill_base ?na_Mill_stretches ?na_Mill_size ?a_back ?l_back ?c_back ?k_back ?a_put_together ?l_put_together ?c_put_together ?k_put_together ?a_Mill_init ?i_Mill_init ?l_Mill_init ?c_Mill_init ?k_Mill_init ?a_Mill_cost ?i_Mill_cost ?l_Mill_cost ?c_Mill_cost ?k_Mill_cost ?a_Mill_piece ?i_Mill_piece ?l_Mill_piece ?c_Mill_piece ?k_Mill_piece ?a_Mill_by_price ?i_Mill_by_price ?l_Mill_by_price ?c_Mill_by_price ?k_Mill_by_price ?a_Mill_gain ?i_Mill_gain ?l_Mill_gain ?c_Mill_gain ?k_Mill_gain ?a_Mill_prices ?i_Mill_prices ?l_Mill_prices ?c_Mill_prices ?k_Mill_prices ?a_l_cell_at ?l_l_cell_at ?c_l_cell_at ?k_l_cell_at ?a_l_whole ?l_l_whole ?c_l_whole ?k_l_whole ?a_l_wide ?l_l_wide ?c_l_wide ?k_l_wide ?a_l_cost ?l_l_cost ?c_l_cost ?k_l_cost ?a_l_stretches ?l_l_stretches ?c_l_stretches ?k_l_stretches ?a_l_one ?l_l_one ?c_l_one ?k_l_one ?a_l_cost_of ?l_l_cost_of ?c_l_cost_of ?k_l_cost_of ?a_l_number ?l_l_number ?c_l_number ?k_l_number ?a_l_kind ?l_l_kind ?c_l_kind ?k_l_kind ?a_l_told ?l_l_told ?c_l_told ?k_l_told ?a_l_price ?l_l_price ?c_l_price ?k_l_price ?a_l_brought ?l_l_brought ?c_l_brought ?k_l_brought ?a_l_law ?l_l_law ?c_l_law ?k_l_law ?n_ValueError ?n_bool ?n_int ?n_isinstance ?n_len ?n_list ?n_max ?n_min ?n_range ?n_sorted ?n_sum ?n_tuple
    (case a_MillError => k_is)
    (case a_NoMill => k_is)
    (case a_NoCount => k_is)
    (case a_NoPart => k_is)
    (case a_NoPrice => k_is)
    (case a_NoName => k_is)
    (case a_NoText => k_is)
    (case a_Mill => k_is)
    (case k_MillError => k_is)
    (case x_MillError => k_exc)
    (case rb_MillError => k_is)
    (case rt_MillError => k_is)
    (case k_NoMill => k_is)
    (case x_NoMill => k_exc)
    (case rb_NoMill => k_is)
    (case rt_NoMill => k_is)
    (case k_NoCount => k_is)
    (case x_NoCount => k_exc)
    (case rb_NoCount => k_is)
    (case rt_NoCount => k_is)
    (case k_NoPart => k_is)
    (case x_NoPart => k_exc)
    (case rb_NoPart => k_is)
    (case rt_NoPart => k_is)
    (case k_NoPrice => k_is)
    (case x_NoPrice => k_exc)
    (case rb_NoPrice => k_is)
    (case rt_NoPrice => k_is)
    (case k_NoName => k_is)
    (case x_NoName => k_exc)
    (case rb_NoName => k_is)
    (case rt_NoName => k_is)
    (case k_NoText => k_is)
    (case x_NoText => k_exc)
    (case rb_NoText => k_is)
    (case rt_NoText => k_is)
    (case hd_MillError => k_is)
    (case hd_NoMill => k_is)
    (case hd_NoCount => k_is)
    (case hd_NoPart => k_is)
    (case hd_NoPrice => k_is)
    (case hd_NoName => k_is)
    (case hd_NoText => k_is)
    (case ehg_NoPrice => k_is)
    (case ehk_NoPrice => k_is)
    (case eha_NoPrice => k_is)
    (case ehn_NoPrice => k_is)
    (case eht_NoPrice => k_is)
    (case ehm_NoPrice => k_is)
    (case sm_NoPrice => k_is)
    (case ks_NoPrice_NoMill => k_is)
    (case nq_NoPrice_NoMill => decide)
    (case ks_NoPrice_NoCount => k_is)
    (case nq_NoPrice_NoCount => decide)
    (case ks_NoPrice_NoPart => k_is)
    (case nq_NoPrice_NoPart => decide)
    (case ks_NoPrice_NoName => k_is)
    (case nq_NoPrice_NoName => decide)
    (case ks_NoPrice_NoText => k_is)
    (case nq_NoPrice_NoText => decide)
    (case nq_NoPrice_M => decide)
    (case sv_NoPrice => k_is)
    (case ehg_NoCount => k_is)
    (case ehk_NoCount => k_is)
    (case eha_NoCount => k_is)
    (case ehn_NoCount => k_is)
    (case eht_NoCount => k_is)
    (case ehm_NoCount => k_is)
    (case sm_NoCount => k_is)
    (case ks_NoCount_NoMill => k_is)
    (case nq_NoCount_NoMill => decide)
    (case ks_NoCount_NoPart => k_is)
    (case nq_NoCount_NoPart => decide)
    (case ks_NoCount_NoPrice => k_is)
    (case nq_NoCount_NoPrice => decide)
    (case ks_NoCount_NoName => k_is)
    (case nq_NoCount_NoName => decide)
    (case ks_NoCount_NoText => k_is)
    (case nq_NoCount_NoText => decide)
    (case nq_NoCount_M => decide)
    (case sv_NoCount => k_is)
    (case pg_Mill => k_is)
    (case hd_Mill => k_is)
    (case po_Mill => k_is)
    (case sa_Mill => k_is)
    (case mk_Mill => k_is)
    (case kc_Mill => k_is)
    (case na_Mill_base => k_is)
    (case na_Mill_stretches => k_is)
    (case na_Mill_size => k_is)
    (case a_back => k_is)
    (case l_back => k_is)
    (case c_back => k_is)
    (case k_back => k_is)
    (case a_put_together => k_is)
    (case l_put_together => k_is)
    (case c_put_together => k_is)
    (case k_put_together => k_is)
    (case a_Mill_init => k_is)
    (case i_Mill_init => k_is)
    (case l_Mill_init => k_is)
    (case c_Mill_init => k_is)
    (case k_Mill_init => k_is)
    (case a_Mill_cost => k_is)
    (case i_Mill_cost => k_is)
    (case l_Mill_cost => k_is)
    (case c_Mill_cost => k_is)
    (case k_Mill_cost => k_is)
    (case a_Mill_piece => k_is)
    (case i_Mill_piece => k_is)
    (case l_Mill_piece => k_is)
    (case c_Mill_piece => k_is)
    (case k_Mill_piece => k_is)
    (case a_Mill_by_price => k_is)
    (case i_Mill_by_price => k_is)
    (case l_Mill_by_price => k_is)
    (case c_Mill_by_price => k_is)
    (case k_Mill_by_price => k_is)
    (case a_Mill_gain => k_is)
    (case i_Mill_gain => k_is)
    (case l_Mill_gain => k_is)
    (case c_Mill_gain => k_is)
    (case k_Mill_gain => k_is)
    (case a_Mill_prices => k_is)
    (case i_Mill_prices => k_is)
    (case l_Mill_prices => k_is)
    (case c_Mill_prices => k_is)
    (case k_Mill_prices => k_is)
    (case a_l_cell_at => k_is)
    (case l_l_cell_at => k_is)
    (case c_l_cell_at => k_is)
    (case k_l_cell_at => k_is)
    (case a_l_whole => k_is)
    (case l_l_whole => k_is)
    (case c_l_whole => k_is)
    (case k_l_whole => k_is)
    (case a_l_wide => k_is)
    (case l_l_wide => k_is)
    (case c_l_wide => k_is)
    (case k_l_wide => k_is)
    (case a_l_cost => k_is)
    (case l_l_cost => k_is)
    (case c_l_cost => k_is)
    (case k_l_cost => k_is)
    (case a_l_stretches => k_is)
    (case l_l_stretches => k_is)
    (case c_l_stretches => k_is)
    (case k_l_stretches => k_is)
    (case a_l_one => k_is)
    (case l_l_one => k_is)
    (case c_l_one => k_is)
    (case k_l_one => k_is)
    (case a_l_cost_of => k_is)
    (case l_l_cost_of => k_is)
    (case c_l_cost_of => k_is)
    (case k_l_cost_of => k_is)
    (case a_l_number => k_is)
    (case l_l_number => k_is)
    (case c_l_number => k_is)
    (case k_l_number => k_is)
    (case a_l_kind => k_is)
    (case l_l_kind => k_is)
    (case c_l_kind => k_is)
    (case k_l_kind => k_is)
    (case a_l_told => k_is)
    (case l_l_told => k_is)
    (case c_l_told => k_is)
    (case k_l_told => k_is)
    (case a_l_price => k_is)
    (case l_l_price => k_is)
    (case c_l_price => k_is)
    (case k_l_price => k_is)
    (case a_l_brought => k_is)
    (case l_l_brought => k_is)
    (case c_l_brought => k_is)
    (case k_l_brought => k_is)
    (case a_l_law => k_is)
    (case l_l_law => k_is)
    (case c_l_law => k_is)
    (case k_l_law => k_is)
    (case n_ValueError => k_is)
    (case n_bool => k_is)
    (case n_int => k_is)
    (case n_isinstance => k_is)
    (case n_len => k_is)
    (case n_list => k_is)
    (case n_max => k_is)
    (case n_min => k_is)
    (case n_range => k_is)
    (case n_sorted => k_is)
    (case n_sum => k_is)
    (case n_tuple => k_is)
