import PyProof.Rows.All
import Wide.All
import OpenK.AllK
import Wide.FinOn
import HandS.ForMost
import HandS.Defaults
import HandS.Conv
import PySem.Challenge.RW_opencuts_k07_cells_and_their_cuts
import HandS.IsInst
import HandS.Zip
import HandS.Walk
import KE.KFromBytes
import HandS.Exc
import HandS.ExcInit
import KE.KSuper
import KE.KExcSuper
import HandS.MakeKwOnly
import KE.KIsAll
import KE.KExcIs
import KE.KTypeName
import HandS.ExcField
import HandS.ExcIs
import HandS.Star
import HandS.More
import PyProof.ReprLen
import PyProof.ReprRoads
import PyProof.CallFns
import HandS.NoneIn
import HandS.ExcValue
import HandS.Call
import KE.KDflt
import HandS.Lambda
import HandS.Ends
import HandS.EndTab
import HandS.HeadEnd
import HandS.HeadHook1
import HandS.HeadHook2
import HandS.HeadHook4
import KE.KStateDown
import Lean
import HandS.Head0
import HandS.Head1
import HandS.Head2
set_option Elab.async false
set_option linter.all false
set_option maxRecDepth 100000
set_option maxHeartbeats 4000000
namespace My
open PySem PySem.Spec PyProof.Rows L2
def top (i : Nat) : Stmt := PySem.Challenge.pw_opencuts_k07_cells_and_their_cuts.main.body.getD i (.Pass ⟨0, 0, 0, 0⟩)
abbrev sPen : Stmt := top 36
abbrev sDraw : Stmt := top 37
abbrev FnP (K : PySem.W.Frag) (x : Str) (st : Stmt) (f : Addr) (fd : FuncData) : Prop := FunD K x x (defArgs st) (defBody st) (defScope st) [] [] f fd

/-! the reading, step by step -/
local macro_rules | `(tactic| walk_at "rd1") => `(tactic| first
  | refine ⟨_, rfl, ?_⟩
  | refine ⟨_, _, rfl, rfl, ?_⟩
  | refine Or.inl ⟨_, rfl, ?_⟩
  | refine Or.inr ⟨_, rfl, ?_⟩
  | refine ⟨_, _, _, _, rfl, rfl, Or.inl (Or.inl (by assumption)), rfl, ?_⟩
  | refine ⟨_, _, rfl, Or.inl (Or.inl (Or.inl (by assumption))), ?_⟩)
local macro_rules | `(tactic| walk_at "rd") => `(tactic| repeat walk_at "rd1")
/-! the pen: a list of the cells' list, a count, a rest -/
structure Pen (H : Hp) (p q : Addr) (ns : List Int) (t r : Int) : Prop where
  at_ : H p = some (.lst [.ref q, .int t, .int r])
  cells : H q = some (.lst (ns.map V.int))
  few : ns.length ≤ 63
  t0 : 0 ≤ t
  t1 : t < 100000
  r0 : 0 ≤ r
/-- all but p as it was -/
def Sm (p : Addr) (H H' : Hp) : Prop := ∀ b o, b ≠ p → H b = some o → H' b = some o
theorem Sm.refl {p : Addr} {H : Hp} : Sm p H H := fun _ _ _ h => h
theorem Sm.trans {p : Addr} {H H1 H2 : Hp} (a : Sm p H H1) (b : Sm p H1 H2) : Sm p H H2 := fun c o n h => b c o n (a c o n h)
theorem Sm.at {p : Addr} {H H1 : Hp} (a : Sm p H H1) {o : HO} : Sm p H (upd H1 p o) := fun c u n h => by rw [upd_ne n]; exact a c u n h
theorem Sm.new {p l : Addr} {H H1 : Hp} (a : Sm p H H1) (hl : H1 l = none) {o : HO} : Sm p H (upd H1 l o) := fun c u n h => by rw [upd_ne (ne_of_none (a c u n h) hl)]; exact a c u n h
/-- a draw: the pen is told anew, nothing else changes -/
def spDraw : Sp := fun vs H Q _ => ∃ (p q : Addr) (ns : List Int) (t r many : Int), vs = [.ref p, .int many] ∧ Pen H p q ns t r ∧ 1 ≤ many ∧ many < 1073741824 ∧ t < 90000 ∧
  ∀ (x t' r' : Int) (H' : Hp), 0 ≤ x → x < many → t ≤ t' → t' ≤ t + 1 → 0 ≤ r' → Sm p H H' → H' p = some (.lst [.ref q, .int t', .int r']) → Q (.int x) H'
structure TxtD (mg : Str → Option Value) : Prop where
  n_int : mg "int" = none
  n_len : mg "len" = none
  n_abs : mg "abs" = none
section
variable {P : Program} {w : World} {K : PySem.W.Frag} {mg : Str → Option Value} {base : Heap} {f : Addr} {fd : FuncData}
theorem scD : FnScope ["pen", "many", "rest", "turn", "cell", "mixed"] ["pen", "many"] (defScope sDraw) := ⟨rfl, rfl, rfl, by decide +kernel, rfl, by decide +kernel, by decide +kernel⟩
theorem upd_self {H : Hp} {p : Addr} {o : HO} (h : H p = some o) : upd H p o = H := by
  funext b
  unfold upd
  by_cases e : b = p
  · rw [if_pos e, e, h]
  · rw [if_neg e]
theorem upd2 {H : Hp} {p : Addr} {o u : HO} : upd (upd H p o) p u = upd H p u := by
  funext b
  unfold upd
  by_cases e : b = p
  · rw [if_pos e, if_pos e]
  · rw [if_neg e, if_neg e, if_neg e]
theorem dp_ints (K : PySem.W.Frag) (H : Hp) : ∀ ns : List Int, DpAll K H (ns.map V.int) (ns.map PyData.int)
  | [] => .nil
  | n :: ns => .cons (.int n) (dp_ints K H ns)
theorem lay_ints : ∀ ns : List Int, PyData.canLayAll0 (ns.map PyData.int) = true
  | [] => rfl
  | n :: ns => by
    show (PyData.canLay0 (.int n) && PyData.canLayAll0 (ns.map PyData.int)) = true
    rw [lay_ints ns]
    rfl
theorem depth_ints : ∀ ns : List Int, PyData.depthAll (ns.map PyData.int) = 0
  | [] => rfl
  | n :: ns => by
    show max (PyData.depth (.int n)) (PyData.depthAll (ns.map PyData.int)) = 0
    rw [depth_ints ns]
    rfl
theorem shaped_ints (ns : List Int) : SeqAt.shaped (.list (ns.map PyData.int)) = true := by
  show (PyData.canLayAll0 (ns.map PyData.int) && decide (PyData.depthAll (ns.map PyData.int) + 1 ≤ 64)) = true
  rw [lay_ints, depth_ints]
  rfl
/-- behind «if t: x = e» where x is an int in slot i both ways -/
theorem joinI {b : Bool} {D : Ends} {σ : L2.St} {H : Hp} {te : TE} {i : Nat} {x0 : Int} (rest : ∀ c : Int, D.nx (σ.set i (some (.int c))) H) (h0 : σ = σ.set i (some (.int x0)))
    (ht : b = true → (∀ c : Int, D.nx (σ.set i (some (.int c))) H) → te σ H fun x H1 => D.nx (σ.set i (some x)) H1) : if b = true then tAsg te (gName i) D σ H else tNext D σ H := by
  cases b with
  | true => exact iteT (ht rfl rest)
  | false =>
    refine iteF ?_
    have z := rest x0
    rw [← h0] at z
    exact z
theorem ite_join {c : Prop} [Decidable c] {A B : Prop} (hB : B) (hA : c → B → A) : if c then A else B := by
  by_cases h : c
  · rw [if_pos h]
    exact hA h hB
  · rw [if_neg h]
    exact hB
theorem of_iteF {A B : Prop} (h : if false = true then A else B) : B := by
  rw [if_neg Bool.false_ne_true] at h
  exact h
theorem nn_pow_bound {a : Int} (h0 : 0 ≤ a) (h1 : a < 18446744073709551616) : a.natAbs < 2 ^ 64 := by
  have e : (2 : Nat) ^ 64 = 18446744073709551616 := by decide
  omega
theorem sz0 : (0 : Nat) ≤ sizeLine := Nat.zero_le _
theorem ok_draw (F : FnP K "_law_draw" sDraw f fd) (T : TxtD mg) : FnOk P w K mg base CX0 1 f fd ["pen", "many"] spDraw := by
  refine F.ok scD (fun vs H Q E h => ?_) (fun cdv A outer s H vs Q E hr h => ?_)
  · obtain ⟨p, q, ns, t, r, many, rfl, _⟩ := h
    rfl
  obtain ⟨p, q, ns, t, r, many, rfl, pen, m1, m2, tb, k⟩ := h
  obtain ⟨hp, hq, few, t0, t1, r0⟩ := pen
  have hu := hu_of hr
  have nd := scD.nd
  refine ⟨_, PSs.nox (pss_cons (ps_if (pt_cmpR op_lt (pv 1) pe_int (nomark _))
      (pss_one (ps_ret pe_int))
      pss_nil)
    (pss_cons (ps_if (pt_cmpR op_gt (pe_ix ix_list (pv 0) pe_int (fun _ _ => rfl)) pe_int (nomark _))
      (pss_cons (ps_set (i := 2) nd rfl (Or.inl rfl) (pe_callTy call_int1 (by rfl) T.n_int (by decide +kernel) (pa_cons (pe_ix ix_list (pv 0) pe_int (fun _ _ => rfl)) pa_nil)))
      (pss_cons (ps_asg (pe_op op_fdiv (pv 2) (pv 1)) (pg_sub (pv 0) pe_int set_list))
      (pss_one (ps_ret (pe_op op_mod (pe_callTy call_int1 (by rfl) T.n_int (by decide +kernel) (pa_cons (pv 2) pa_nil)) (pv 1))))))
      pss_nil)
    (pss_cons (ps_set (i := 3) nd rfl (Or.inl rfl) (pe_ix ix_list (pv 0) pe_int (fun _ _ => rfl)))
    (pss_cons (ps_asg (pe_op op_add (pv 3) pe_int) (pg_sub (pv 0) pe_int set_list))
    (pss_cons (ps_set (i := 4) nd rfl (Or.inl rfl) (pe_op op_add (pe_op op_mul pe_int (pv 3)) pe_int))
    (pss_cons (ps_if (pt_cmpR (op_neD hr.units) (pe_ix ix_list (pv 0) pe_int (fun _ _ => rfl)) (pe_lst pa_nil) (nomark _))
      (pss_one (ps_set (i := 4) nd rfl (Or.inl rfl) (pe_ix ix_list (pe_ix ix_list (pv 0) pe_int (fun _ _ => rfl)) (pe_op op_mod (pe_callTy call_int1 (by rfl) T.n_int (by decide +kernel) (pa_cons (pv 3) pa_nil)) (pe_callB call_len_seq (by rfl) T.n_len PySem.boot_len (pa_cons (pe_ix ix_list (pv 0) pe_int (fun _ _ => rfl)) pa_nil))) (fun _ _ => rfl))))
      pss_nil)
    (pss_cons (ps_if (PW.pt (pw_and (pt_cmpR op_lt (pv 3) (pe_callB call_len_seq (by rfl) T.n_len PySem.boot_len (pa_cons (pe_ix ix_list (pv 0) pe_int (fun _ _ => rfl)) pa_nil)) (nomark _)) (pw_and1 (pt_cmpR op_ge (pe_callB call_abs (by rfl) T.n_abs (by decide +kernel) (pa_cons (pv 4) pa_nil)) (pe_op op_pow pe_int pe_int) (nomark _)))))
      (pss_cons (ps_set (i := 2) nd rfl (Or.inl rfl) (pe_op op_add (pe_op op_mul pe_int (pe_op op_sub (pe_callB call_abs (by rfl) T.n_abs (by decide +kernel) (pa_cons (pv 4) pa_nil)) (pe_op op_pow pe_int pe_int))) (pe_callTy call_int1 (by rfl) T.n_int (by decide +kernel) (pa_cons (pe_cmpR op_lt (pv 4) pe_int (nomark _)) pa_nil))))
      (pss_cons (ps_asg (pe_op op_fdiv (pe_callTy call_int1 (by rfl) T.n_int (by decide +kernel) (pa_cons (pv 2) pa_nil)) (pv 1)) (pg_sub (pv 0) pe_int set_list))
      (pss_one (ps_ret (pe_op op_mod (pe_callTy call_int1 (by rfl) T.n_int (by decide +kernel) (pa_cons (pv 2) pa_nil)) (pv 1))))))
      pss_nil)
    (pss_cons (ps_set (i := 5) nd rfl (Or.inl rfl) (pe_op op_mod (pe_callTy call_int1 (by rfl) T.n_int (by decide +kernel) (pa_cons (pe_op op_pow (pe_op op_add (pe_op op_add (pe_op op_mod (pe_callTy call_int1 (by rfl) T.n_int (by decide +kernel) (pa_cons (pv 4) pa_nil)) pe_int) (pe_op op_mul pe_int (pv 3))) pe_int) pe_int) pa_nil)) pe_int))
    (pss_cons (ps_set (i := 5) nd rfl (Or.inl rfl) (pe_op op_mod (pe_callTy call_int1 (by rfl) T.n_int (by decide +kernel) (pa_cons (pe_op op_pow (pe_op op_add (pe_op op_add (pe_op op_mul (pv 5) (pe_op op_add (pe_op op_mul pe_int (pv 3)) pe_int)) (pe_op op_mul (pe_op op_mul pe_int (pv 3)) (pv 3))) pe_int) pe_int) pa_nil)) pe_int))
    (pss_one (ps_ret (pe_op op_mod (pe_callTy call_int1 (by rfl) T.n_int (by decide +kernel) (pa_cons (pe_op op_fdiv (pv 5) pe_int) pa_nil)) (pv 1))))))))))))), ?_⟩
  -- if many < 2
  walk_at "rd"
  refine ite2 (fun c => ?_) (fun _ => ?_)
  · exact k 0 t r H (Int.le_refl _) (by omega) (Int.le_refl _) (by omega) r0 .refl hp
  -- if pen[2] > 0
  walk_at "rd"
  refine ite2 (fun c => ?_) (fun _ => ?_)
  · walk_at "rd"
    refine ⟨⟨by omega, m2⟩, ?_⟩
    refine ⟨_, rfl, p, _, 2, 2, rfl, rfl, hp, rfl, ?_⟩
    walk_at "rd"
    refine ⟨by omega, ?_⟩
    exact k (r % many) t (r / many) _ (Int.emod_nonneg _ (by omega)) (Int.emod_lt_of_pos _ (by omega)) (Int.le_refl _) (by omega) (Int.ediv_nonneg r0 (by omega)) (Sm.at .refl) upd_same
  -- turn = pen[1]; pen[1] = turn + 1
  walk_at "rd"
  refine ⟨p, _, 1, 1, rfl, rfl, hp, rfl, ?_⟩
  have npq : q ≠ p := fun e => by
    rw [e, hp] at hq
    have e2 := Option.some.inj hq
    injection e2 with e3
    cases ns with
    | nil => cases e3
    | cons n ns =>
      have e4 := List.cons.inj e3
      cases e4.1
  have hp1 : upd H p (HO.lst (([V.ref q, V.int t, V.int r] : List V).set 1 (V.int (t + 1)))) p = some (.lst [V.ref q, V.int (t + 1), V.int r]) := upd_same
  have hq1 : upd H p (HO.lst (([V.ref q, V.int t, V.int r] : List V).set 1 (V.int (t + 1)))) q = some (.lst (ns.map V.int)) := by rw [upd_ne npq]; exact hq
  have sm1 : Sm p H (upd H p (HO.lst (([V.ref q, V.int t, V.int r] : List V).set 1 (V.int (t + 1))))) := Sm.at .refl
  generalize upd H p (HO.lst (([V.ref q, V.int t, V.int r] : List V).set 1 (V.int (t + 1)))) = H1 at hp1 hq1 sm1 ⊢
  clear hp hq
  have k1 : ∀ (x r' : Int) (H' : Hp), 0 ≤ x → x < many → 0 ≤ r' → Sm p H H' → H' p = some (.lst [.ref q, .int (t + 1), .int r']) → Q (.int x) H' := fun x r' H' a b c d e => k x (t + 1) r' H' a b (by omega) (by omega) c d e
  -- cell = 72710 * turn + 9432
  walk_at "rd"
  refine ⟨.inl ⟨by decide, by decide⟩, ?_⟩
  walk_at "rd"
  -- if pen[0] != []
  refine ⟨sz0, fun l hl => ?_⟩
  have hq2 : upd H1 l (HO.lst []) q = some (.lst (ns.map V.int)) := by rw [upd_ne (ne_of_none hq1 hl)]; exact hq1
  have hp2 : upd H1 l (HO.lst []) p = some (.lst [.ref q, .int (t + 1), .int r]) := by rw [upd_ne (ne_of_none hp1 hl)]; exact hp1
  have sm2 : Sm p H (upd H1 l (HO.lst [])) := sm1.new hl
  have hl2 : upd H1 l (HO.lst []) l = some (.lst []) := upd_same
  generalize upd H1 l (HO.lst []) = H2 at hq2 hp2 sm2 hl2 ⊢
  clear hp1 hq1 sm1 hl
  refine ⟨.list (ns.map .int), .list [], .lst (.inl (.inl hq2)) (dp_ints K H2 ns), .lst (.inl (.inl hl2)) .nil, shaped_ints ns, rfl, _, rfl, ?_⟩
  refine joinI (x0 := 72710 * t + 9432) (fun c => ?_) rfl (fun eb rest => ?_)
  rotate_left
  · -- cell = pen[0][int(turn) % len(pen[0])]
    have hne : ns ≠ [] := fun e => by
      subst e
      have e2 : PyData.eqv (.list []) (.list []) = true := SeqAt.eqv_refl _ rfl
      have e3 : (!PyData.eqv (.list []) (.list [])) = true := eb
      rw [e2] at e3
      cases e3
    have hl0 : 0 < ns.length := List.length_pos_iff.mpr hne
    have em : t % (((ns.map V.int).length : Nat) : Int) = (((t % (ns.length : Int)).toNat : Nat) : Int) := by
      rw [List.length_map, Int.toNat_of_nonneg (Int.emod_nonneg _ (by omega))]
    have hb : (t % (ns.length : Int)).toNat < ns.length := by
      have h2 := Int.emod_lt_of_pos t (show (0 : Int) < (ns.length : Int) by omega)
      have h3 := Int.emod_nonneg t (show (ns.length : Int) ≠ 0 by omega)
      omega
    have hi : atI (ns.map V.int) (t % (((ns.map V.int).length : Nat) : Int)) = some (.int ns[(t % (ns.length : Int)).toNat]) := by
      rw [em]
      exact atI_nat (by rw [List.getElem?_map, List.getElem?_eq_getElem hb] <;> rfl)
    walk_at "rd"
    refine ⟨by rw [List.length_map]; omega, q, _, _, _, rfl, rfl, .inl (.inl hq2), hi, ?_⟩
    exact rest _
  -- if turn < len(pen[0]) and abs(cell) >= 10 ** 18
  walk_at "rd"
  refine ite_join ?tail (fun _ tail => ?_)
  · -- mixed
    refine iteF ?_
    have b0 : 0 ≤ c % 2147483549 := Int.emod_nonneg _ (by decide)
    have b1 : c % 2147483549 < 2147483549 := Int.emod_lt_of_pos _ (by decide)
    walk_at "rd"
    refine ⟨(by show (0 : Int) < 2147483549; decide), ?_⟩
    walk_at "rd"
    refine ⟨.inl ⟨by decide, by decide⟩, ?_⟩
    walk_at "rd"
    refine ⟨⟨by decide, by decide, nn_pow_bound (by omega) (by omega)⟩, ?_⟩
    walk_at "rd"
    refine ⟨(by show (0 : Int) < 2147483587; decide), ?_⟩
    have b2 : 0 ≤ ((c % 2147483549 + 72710 * t + 9432) ^ (3 : Int).toNat % 2147483587) := Int.emod_nonneg _ (by decide)
    have b3 : ((c % 2147483549 + 72710 * t + 9432) ^ (3 : Int).toNat % 2147483587) < 2147483587 := Int.emod_lt_of_pos _ (by decide)
    have b4 : 0 ≤ ((c % 2147483549 + 72710 * t + 9432) ^ (3 : Int).toNat % 2147483587) * (2 * t + 4357) := Int.mul_nonneg b2 (by omega)
    have b5 : ((c % 2147483549 + 72710 * t + 9432) ^ (3 : Int).toNat % 2147483587) * (2 * t + 4357) ≤ 2147483587 * (2 * t + 4357) := Int.mul_le_mul_of_nonneg_right (by omega) (by omega)
    have b6 : 0 ≤ 90247 * t * t := Int.mul_nonneg (by omega) t0
    have b7 : 90247 * t * t ≤ 90247 * t * 100000 := Int.mul_le_mul_of_nonneg_left (by omega) (by omega)
    walk_at "rd"
    refine ⟨.inl ⟨by decide, by decide⟩, ?_⟩
    walk_at "rd"
    refine ⟨.inl ⟨by omega, by omega⟩, ?_⟩
    walk_at "rd"
    refine ⟨.inl ⟨by decide, by decide⟩, ?_⟩
    walk_at "rd"
    refine ⟨.inr ⟨by omega, by omega⟩, ?_⟩
    walk_at "rd"
    refine ⟨⟨by decide, by decide, nn_pow_bound (show 0 ≤ ((c % 2147483549 + 72710 * t + 9432) ^ (3 : Int).toNat % 2147483587) * (2 * t + 4357) + 90247 * t * t + 72710 by omega) (show ((c % 2147483549 + 72710 * t + 9432) ^ (3 : Int).toNat % 2147483587) * (2 * t + 4357) + 90247 * t * t + 72710 < 18446744073709551616 by omega)⟩, ?_⟩
    walk_at "rd"
    refine ⟨(by show (0 : Int) < 2147483563; decide), ?_⟩
    walk_at "rd"
    refine ⟨⟨by decide, by decide⟩, ?_⟩
    walk_at "rd"
    refine ⟨by omega, ?_⟩
    exact k1 _ r H2 (Int.emod_nonneg _ (by omega)) (Int.emod_lt_of_pos _ (by omega)) r0 sm2 hp2
  · walk_at "rd"
    refine ⟨⟨by decide, by decide, by decide⟩, ?_⟩
    walk_at "rd"
    refine ite2 (fun e => ?_) (fun _ => of_iteF tail)
    have e2 : (10 : Int) ^ (18 : Int).toNat ≤ (if c < 0 then -c else c) := of_decide_eq_true e
    walk_at "rd"
    refine ⟨⟨by decide, by decide, by decide⟩, ?_⟩
    walk_at "rd"
    refine ⟨.inl ⟨by decide, by decide⟩, ?_⟩
    walk_at "rd"
    have e3 : (0 : Int) ≤ (10 : Int) ^ (18 : Int).toNat := by decide
    have e4 : (0 : Int) ≤ 2 * ((if c < 0 then -c else c) - 10 ^ (18 : Int).toNat) + (if decide (c < 0) = true then 1 else 0) := by
      have e5 : (0 : Int) ≤ (if decide (c < 0) = true then 1 else 0) := by
        by_cases z : decide (c < 0) = true
        · rw [if_pos z]; decide
        · rw [if_neg z]; decide
      omega
    refine ⟨⟨by omega, m2⟩, ?_⟩
    refine ⟨_, rfl, p, _, 2, 2, rfl, rfl, hp2, rfl, ?_⟩
    walk_at "rd"
    refine ⟨by omega, ?_⟩
    exact k1 _ _ _ (Int.emod_nonneg _ (by omega)) (Int.emod_lt_of_pos _ (by omega)) (Int.ediv_nonneg e4 (by omega)) sm2.at upd_same
end
end My

set_option maxHeartbeats 4000000
namespace My
open PySem PySem.Spec PyProof.Rows L2
local macro_rules | `(tactic| walk_at "rd1") => `(tactic| first
  | refine ⟨_, rfl, ?_⟩
  | refine ⟨_, _, rfl, rfl, ?_⟩
  | refine Or.inl ⟨_, rfl, ?_⟩
  | refine Or.inr ⟨_, rfl, ?_⟩
  | refine ⟨_, _, _, _, rfl, rfl, Or.inl (Or.inl (by assumption)), rfl, ?_⟩
  | refine ⟨_, _, rfl, Or.inl (Or.inl (Or.inl (by assumption))), ?_⟩)
local macro_rules | `(tactic| walk_at "rd") => `(tactic| repeat walk_at "rd1")
abbrev sFixed : Stmt := top 17
abbrev sLike : Stmt := top 18
/-! ### data in tracked lists and tuples -/
mutual
inductive Dh (H : Hp) : V → PyData → Prop
  | non : Dh H .non .none
  | bl (b : Bool) : Dh H (.bl b) (.bool b)
  | int (i : Int) : Dh H (.int i) (.int i)
  | str (x : Str) : Dh H (.str x) (.str x)
  | lst {a : Addr} {xs : List V} {ds : List PyData} : H a = some (.lst xs) → xs.length ≤ 100 → DhAll H xs ds → Dh H (.ref a) (.list ds)
  | tup {a : Addr} {xs : List V} {ds : List PyData} : H a = some (.tup xs) → xs.length ≤ 100 → DhAll H xs ds → Dh H (.ref a) (.tuple ds)
inductive DhAll (H : Hp) : List V → List PyData → Prop
  | nil : DhAll H [] []
  | cons {v : V} {vs : List V} {d : PyData} {ds : List PyData} : Dh H v d → DhAll H vs ds → DhAll H (v :: vs) (d :: ds)
end
mutual
theorem Dh.same {H H' : Hp} (e : Same H H') : ∀ (d : PyData) (v : V), Dh H v d → Dh H' v d
  | _, _, .non => .non
  | _, _, .bl b => .bl b
  | _, _, .int i => .int i
  | _, _, .str x => .str x
  | _, _, .lst (ds := ds) h l a => .lst (e _ _ h) l (DhAll.same e ds _ a)
  | _, _, .tup (ds := ds) h l a => .tup (e _ _ h) l (DhAll.same e ds _ a)
theorem DhAll.same {H H' : Hp} (e : Same H H') : ∀ (ds : List PyData) (vs : List V), DhAll H vs ds → DhAll H' vs ds
  | _, _, .nil => .nil
  | _, _, .cons (d := d) (ds := ds) h r => .cons (Dh.same e d _ h) (DhAll.same e ds _ r)
end
mutual
theorem Dh.dp {K : PySem.W.Frag} {H : Hp} : ∀ (d : PyData) (v : V), Dh H v d → Dp K H v d
  | _, _, .non => .non
  | _, _, .bl b => .bl b
  | _, _, .int i => .int i
  | _, _, .str x => .str x
  | _, _, .lst (ds := ds) h l a => .lst (.inl (.inl h)) (DhAll.dp ds _ a)
  | _, _, .tup (ds := ds) h l a => .tup (.inl (.inl h)) (DhAll.dp ds _ a)
theorem DhAll.dp {K : PySem.W.Frag} {H : Hp} : ∀ (ds : List PyData) (vs : List V), DhAll H vs ds → DpAll K H vs ds
  | _, _, .nil => .nil
  | _, _, .cons (d := d) (ds := ds) h r => .cons (Dh.dp d _ h) (DhAll.dp ds _ r)
end
theorem DhAll.len {H : Hp} : ∀ {ds : List PyData} {vs : List V}, DhAll H vs ds → vs.length = ds.length
  | _, _, .nil => rfl
  | _, _, .cons _ r => congrArg Nat.succ r.len
theorem DhAll.get {H : Hp} : ∀ {ds : List PyData} {vs : List V} {i : Nat} {v : V}, DhAll H vs ds → vs[i]? = some v → ∃ d, ds[i]? = some d ∧ Dh H v d
  | _, _, i, v, .nil, h => by simp at h
  | _, _, 0, v, .cons (d := d) h _, e => ⟨d, rfl, by
    have e2 : some _ = some v := e
    rw [← Option.some.inj e2]
    exact h⟩
  | _, _, i + 1, v, .cons _ r, e => by
    obtain ⟨d, h1, h2⟩ := DhAll.get (i := i) r e
    exact ⟨d, h1, h2⟩
theorem DhAll.snoc {H : Hp} {v : V} {d : PyData} (h : Dh H v d) : ∀ {ds : List PyData} {vs : List V}, DhAll H vs ds → DhAll H (vs ++ [v]) (ds ++ [d])
  | _, _, .nil => .cons h .nil
  | _, _, .cons a r => .cons a (r.snoc h)
/-! ### what is new since H -/
def Ho (H H' : Hp) : Hp := fun b => match H b with
  | none => H' b
  | some _ => none
theorem ho_new {H H' : Hp} {b : Addr} (h : H b = none) : Ho H H' b = H' b := by
  unfold Ho
  rw [h]
theorem ho_some {H H' : Hp} {b : Addr} {o : HO} (h : Ho H H' b = some o) : H b = none ∧ H' b = some o := by
  unfold Ho at h
  cases e : H b with
  | none =>
    rw [e] at h
    exact ⟨rfl, h⟩
  | some u =>
    rw [e] at h
    cases h
theorem ho_same {H H' : Hp} : Same (Ho H H') H' := fun _ _ h => (ho_some h).2
/-- an earlier start tells more -/
theorem ho_from {H H1 H' : Hp} (h : ∀ b, H1 b = none → H b = none) : Same (Ho H1 H') (Ho H H') := fun b o e => by
  obtain ⟨e1, e2⟩ := ho_some e
  rw [ho_new (h b e1)]
  exact e2
/-- a later end too, where what was new stays -/
theorem ho_to {B H H' : Hp} (h : ∀ b o, B b = none → H b = some o → H' b = some o) : Same (Ho B H) (Ho B H') := fun b o e => by
  obtain ⟨e1, e2⟩ := ho_some e
  rw [ho_new e1]
  exact h b o e1 e2
theorem ho_upd {B H : Hp} {p : Addr} {o : HO} (h : B p ≠ none) : Ho B (upd H p o) = Ho B H := by
  funext b
  unfold Ho
  cases e : B b with
  | some u => rfl
  | none =>
    have n : b ≠ p := fun z => h (by rw [← z]; exact e)
    show upd H p o b = H b
    rw [upd_ne n]
theorem same_none {H H' : Hp} (e : Same H H') (b : Addr) (h : H' b = none) : H b = none := e.free h
theorem sm_none {p : Addr} {H H' : Hp} (e : Sm p H H') (hp : H' p ≠ none) (b : Addr) (h : H' b = none) : H b = none := by
  cases q : H b with
  | none => rfl
  | some o =>
    have n : b ≠ p := fun z => hp (by rw [← z]; exact h)
    rw [e b o n q] at h
    cases h
theorem same_new {H : Hp} {p : Addr} (h : H p = none) (o : HO) : Same H (upd H p o) := fun b u q => by rw [upd_ne (ne_of_none q h)]; exact q
theorem Same.sm {p : Addr} {H H' : Hp} (e : Same H H') : Sm p H H' := fun b o _ h => e b o h
/-! ### tuples for lists -/
mutual
def tupd : PyData → PyData
  | .list xs => .tuple (tupdAll xs)
  | .tuple xs => .tuple (tupdAll xs)
  | .none => .none
  | .bool b => .bool b
  | .int i => .int i
  | .str x => .str x
  | .dict kvs => .dict kvs
def tupdAll : List PyData → List PyData
  | [] => []
  | d :: ds => tupd d :: tupdAll ds
end
theorem tupdAll_get : ∀ {ds : List PyData} {i : Nat} {d : PyData}, ds[i]? = some d → (tupdAll ds)[i]? = some (tupd d)
  | [], i, d, h => by simp at h
  | e :: ds, 0, d, h => by
    have h2 : some e = some d := h
    rw [← Option.some.inj h2]
    rfl
  | e :: ds, i + 1, d, h => tupdAll_get (ds := ds) h
theorem tupdAll_len : ∀ ds : List PyData, (tupdAll ds).length = ds.length
  | [] => rfl
  | _ :: ds => congrArg Nat.succ (tupdAll_len ds)
theorem tupdAll_app : ∀ (xs : List PyData) (d : PyData), tupdAll (xs ++ [d]) = tupdAll xs ++ [tupd d]
  | [], _ => rfl
  | x :: xs, d => congrArg (List.cons (tupd x)) (tupdAll_app xs d)
theorem take_succ' {α : Type} {l : List α} {i : Nat} {a : α} (h : l[i]? = some a) : l.take (i + 1) = l.take i ++ [a] := by
  rw [List.take_succ, h]
  rfl
abbrev dep (d : PyData) : Nat := PyData.depth d
abbrev depAll (ds : List PyData) : Nat := PyData.depthAll ds
theorem dep_get : ∀ {ds : List PyData} {i : Nat} {d : PyData}, ds[i]? = some d → dep d ≤ depAll ds
  | [], i, d, h => by simp at h
  | e :: ds, 0, d, h => by
    have h2 : some e = some d := h
    rw [← Option.some.inj h2]
    exact Nat.le_max_left _ _
  | e :: ds, i + 1, d, h => Nat.le_trans (dep_get (ds := ds) h) (Nat.le_max_right _ _)
/-- the name of a data's type -/
def tyn : PyData → String
  | .none => "NoneType"
  | .bool _ => "bool"
  | .int _ => "int"
  | .str _ => "str"
  | .list _ => "list"
  | .tuple _ => "tuple"
  | .dict _ => "dict"
theorem Dh.ty {K : PySem.W.Frag} {H : Hp} {v : V} {d : PyData} (h : Dh H v d) : TyX K H v (.type (tyn d)) := by
  cases h with
  | non => exact .base .non
  | bl b => exact .base (.bl b)
  | int i => exact .base (.int i)
  | str x => exact .base (.str x)
  | lst h _ _ => exact .base (.lst h)
  | tup h _ _ => exact .base (.tup h)
/-- what fixed and _law_tupled promise: the same with tuples for lists, of new objects -/
def spTup (n : Nat) : Sp := fun vs H Q _ => ∃ (v : V) (d : PyData), vs = [v] ∧ Dh H v d ∧ dep d < n ∧ ∀ v' H', Same H H' → Dh (Ho H H') v' (tupd d) → Q v' H'
structure TxtT (mg : Str → Option Value) : Prop where
  n_isi : mg "isinstance" = none
  n_list : mg "list" = none
  n_tuple : mg "tuple" = none
section
variable {P : Program} {w : World} {K : PySem.W.Frag} {mg : Str → Option Value} {base : Heap} {f : Addr} {fd : FuncData}
theorem scFx : FnScope ["value", "part"] ["value"] (defScope sFixed) := ⟨rfl, rfl, rfl, by decide +kernel, rfl, by decide +kernel, by decide +kernel⟩
theorem ok_fixed1 {n : Nat} (F : FnP K "fixed" sFixed f fd) (G : FnOk P w K mg base CX0 n f fd ["value"] (spTup n)) (bG : Binds K fd ["value"] []) (kG : PySem.W.keepIn K (.ref f) = true) (mG : mg "fixed" = some (.ref f)) (T : TxtT mg) :
    FnOk P w K mg base CX0 (n + 1) f fd ["value"] (spTup (n + 1)) := by
  refine F.ok scFx (fun vs H Q E h => ?_) (fun cdv A outer s H vs Q E hr h => ?_)
  · obtain ⟨v, d, rfl, _⟩ := h
    rfl
  obtain ⟨v, d, rfl, hd, hn, k⟩ := h
  have nd := scFx.nd
  cases hd with
  | lst ha hl hds =>
    rename_i a xs ds
    refine ⟨_, PSs.nox (pss_cons (ps_if (pt_val (pe_callB call_isiT (by rfl) T.n_isi (by decide +kernel) (pa_cons (pv 0) (pa_cons (pe_tup (pa_cons (pe_bltn (v := .ty "list") (by rfl) T.n_list (by decide +kernel) rfl) (pa_cons (pe_bltn (v := .ty "tuple") (by rfl) T.n_tuple (by decide +kernel) rfl) pa_nil))) pa_nil))))
      (pss_one (ps_ret (pe_callTy call_tuple_of (by rfl) T.n_tuple (by decide +kernel) (pa_cons (pe_lc (own := [("part", 1)]) (g := (gName 1)) (tt := tYes) rfl nd (pi_list (pv 0)) (blkOk_by (N := ["value", "part"]) (sc := defScope sFixed) (by decide +kernel)) (fun _ _ _ _ _ => pg_name (i := 1) nd rfl (Or.inl rfl)) (fun _ _ _ _ _ => pts_nil) (fun _ _ _ _ _ => (pe_call G hr rfl mG kG bG .nil pass0 (pa_cons (pv 1) pa_nil)))) pa_nil))))
      pss_nil)
    (pss_one (ps_ret (pv 0)))), ?_⟩
    walk_at "rd"
    refine ⟨by decide, fun tp htp => ?_⟩
    have s1 : Same H (upd H tp (HO.tup [V.ty "list", V.ty "tuple"])) := same_new htp _
    refine ⟨V.ref a, tp, [V.ty "list", V.ty "tuple"], .type "list", [.type "list", .type "tuple"], true, rfl, upd_same, .cons (.ty _) (.cons (.ty _) .nil), .base (.lst (s1 _ _ ha)), (kitAny_cons (b := true) (kit_ty (by decide +kernel)) (fun z => nomatch z) (fun _ => rfl)), _, rfl, ?_⟩
    refine iteT ?_
    generalize upd H tp (HO.tup [V.ty "list", V.ty "tuple"]) = H1 at s1 ⊢
    refine ⟨_, rfl, a, rfl, ⟨xs, .inl (.inl (s1 _ _ ha))⟩, fun D hD => lc_list (xs := xs) (fun i H2 => ∃ vs, H2 D = some (.lst vs) ∧ vs.length = i ∧ Same H1 H2 ∧ DhAll (Ho (upd H1 D (.lst [])) H2) vs (tupdAll (ds.take i)))
      ⟨[], upd_same, rfl, same_new hD _, .nil⟩ (fun i H2 _ ⟨_, _, _, e, _⟩ => .inl (.inl (e _ _ (s1 _ _ ha)))) ?_ ?_⟩
    · rintro i x H2 hx ⟨vs, hD2, hvl, e2, hvs⟩
      have hil : i < xs.length := (List.getElem?_eq_some_iff.mp hx).1
      obtain ⟨d, hd1, hd2⟩ := hds.get hx
      refine ⟨rfl, ?_⟩
      have hdep := dep_get hd1
      have hn2 : depAll ds + 1 < n + 1 := hn
      refine ⟨_, rfl, x, d, rfl, Dh.same e2 _ _ (Dh.same s1 _ _ hd2), by omega, fun v' H3 e3 hv' => ⟨vs, e3 _ _ hD2, by rw [hvl]; exact Nat.lt_of_lt_of_le (Nat.lt_of_lt_of_le hil hl) (by decide), vs ++ [v'], upd_same, by rw [List.length_append, hvl]; rfl, ?_, ?_⟩⟩
      · exact fun b o hb => by rw [upd_ne (ne_of_none hb hD)]; exact e3 _ _ (e2 _ _ hb)
      · rw [ho_upd (by rw [upd_same]; exact fun z => nomatch z), take_succ' hd1, tupdAll_app]
        have k1 : ∀ b, H2 b = none → upd H1 D (.lst []) b = none := fun b hb => by
          have n1 : b ≠ D := fun z => by rw [z, hD2] at hb; cases hb
          rw [upd_ne n1]
          exact e2.free hb
        exact DhAll.snoc (Dh.same (ho_from k1) _ _ hv') (DhAll.same (ho_to fun b o _ h2 => e3 _ _ h2) _ _ hvs)
    · rintro H2 ⟨vs, hD2, hvl, e2, hvs⟩
      refine ⟨D, vs, rfl, .inl ⟨.inl (.inl hD2), fun l hl2 => ?_⟩⟩
      have k2 : ∀ b, upd H1 D (.lst []) b = none → H b = none := fun b hb => by
        have n1 : b ≠ D := fun z => by rw [z, upd_same] at hb; cases hb
        rw [upd_ne n1] at hb
        exact s1.free hb
      have e4 : Same H (upd H2 l (.tup vs)) := s1.trans (e2.trans (same_new hl2 _))
      refine k (.ref l) _ e4 ?_
      have hlen : ds.take xs.length = ds := List.take_of_length_le (by rw [hds.len]; exact Nat.le_refl _)
      rw [hlen] at hvs
      have n2 : H l = none := (s1.trans e2).free hl2
      refine .tup (by rw [ho_new n2, upd_same]) (by rw [hvl]; exact hl) ?_
      exact DhAll.same (Same.trans (ho_from k2) (ho_to fun b o _ h2 => by rw [upd_ne (ne_of_none h2 hl2)]; exact h2)) _ _ hvs
  | tup ha hl hds =>
    rename_i a xs ds
    refine ⟨_, PSs.nox (pss_cons (ps_if (pt_val (pe_callB call_isiT (by rfl) T.n_isi (by decide +kernel) (pa_cons (pv 0) (pa_cons (pe_tup (pa_cons (pe_bltn (v := .ty "list") (by rfl) T.n_list (by decide +kernel) rfl) (pa_cons (pe_bltn (v := .ty "tuple") (by rfl) T.n_tuple (by decide +kernel) rfl) pa_nil))) pa_nil))))
      (pss_one (ps_ret (pe_callTy call_tuple_of (by rfl) T.n_tuple (by decide +kernel) (pa_cons (pe_lc (own := [("part", 1)]) (g := (gName 1)) (tt := tYes) rfl nd (pi_tup (pv 0)) (blkOk_by (N := ["value", "part"]) (sc := defScope sFixed) (by decide +kernel)) (fun _ _ _ _ _ => pg_name (i := 1) nd rfl (Or.inl rfl)) (fun _ _ _ _ _ => pts_nil) (fun _ _ _ _ _ => (pe_call G hr rfl mG kG bG .nil pass0 (pa_cons (pv 1) pa_nil)))) pa_nil))))
      pss_nil)
    (pss_one (ps_ret (pv 0)))), ?_⟩
    walk_at "rd"
    refine ⟨by decide, fun tp htp => ?_⟩
    have s1 : Same H (upd H tp (HO.tup [V.ty "list", V.ty "tuple"])) := same_new htp _
    refine ⟨V.ref a, tp, [V.ty "list", V.ty "tuple"], .type "tuple", [.type "list", .type "tuple"], true, rfl, upd_same, .cons (.ty _) (.cons (.ty _) .nil), .base (.tup (s1 _ _ ha)), (kitAny_cons (b := false) (kit_ty (by decide +kernel)) (fun _ => kitAny_cons (b := true) (kit_ty (by decide +kernel)) (fun z => nomatch z) (fun _ => rfl)) (fun z => nomatch z)), _, rfl, ?_⟩
    refine iteT ?_
    generalize upd H tp (HO.tup [V.ty "list", V.ty "tuple"]) = H1 at s1 ⊢
    refine ⟨_, rfl, a, rfl, ⟨xs, .inl (.inl (s1 _ _ ha))⟩, fun D hD => lc_tup (xs := xs) (fun i H2 => ∃ vs, H2 D = some (.lst vs) ∧ vs.length = i ∧ Same H1 H2 ∧ DhAll (Ho (upd H1 D (.lst [])) H2) vs (tupdAll (ds.take i)))
      ⟨[], upd_same, rfl, same_new hD _, .nil⟩ (fun i H2 _ ⟨_, _, _, e, _⟩ => .inl (.inl (e _ _ (s1 _ _ ha)))) ?_ ?_⟩
    · rintro i x H2 hx ⟨vs, hD2, hvl, e2, hvs⟩
      have hil : i < xs.length := (List.getElem?_eq_some_iff.mp hx).1
      obtain ⟨d, hd1, hd2⟩ := hds.get hx
      refine ⟨rfl, ?_⟩
      have hdep := dep_get hd1
      have hn2 : depAll ds + 1 < n + 1 := hn
      refine ⟨_, rfl, x, d, rfl, Dh.same e2 _ _ (Dh.same s1 _ _ hd2), by omega, fun v' H3 e3 hv' => ⟨vs, e3 _ _ hD2, by rw [hvl]; exact Nat.lt_of_lt_of_le (Nat.lt_of_lt_of_le hil hl) (by decide), vs ++ [v'], upd_same, by rw [List.length_append, hvl]; rfl, ?_, ?_⟩⟩
      · exact fun b o hb => by rw [upd_ne (ne_of_none hb hD)]; exact e3 _ _ (e2 _ _ hb)
      · rw [ho_upd (by rw [upd_same]; exact fun z => nomatch z), take_succ' hd1, tupdAll_app]
        have k1 : ∀ b, H2 b = none → upd H1 D (.lst []) b = none := fun b hb => by
          have n1 : b ≠ D := fun z => by rw [z, hD2] at hb; cases hb
          rw [upd_ne n1]
          exact e2.free hb
        exact DhAll.snoc (Dh.same (ho_from k1) _ _ hv') (DhAll.same (ho_to fun b o _ h2 => e3 _ _ h2) _ _ hvs)
    · rintro H2 ⟨vs, hD2, hvl, e2, hvs⟩
      refine ⟨D, vs, rfl, .inl ⟨.inl (.inl hD2), fun l hl2 => ?_⟩⟩
      have k2 : ∀ b, upd H1 D (.lst []) b = none → H b = none := fun b hb => by
        have n1 : b ≠ D := fun z => by rw [z, upd_same] at hb; cases hb
        rw [upd_ne n1] at hb
        exact s1.free hb
      have e4 : Same H (upd H2 l (.tup vs)) := s1.trans (e2.trans (same_new hl2 _))
      refine k (.ref l) _ e4 ?_
      have hlen : ds.take xs.length = ds := List.take_of_length_le (by rw [hds.len]; exact Nat.le_refl _)
      rw [hlen] at hvs
      have n2 : H l = none := (s1.trans e2).free hl2
      refine .tup (by rw [ho_new n2, upd_same]) (by rw [hvl]; exact hl) ?_
      exact DhAll.same (Same.trans (ho_from k2) (ho_to fun b o _ h2 => by rw [upd_ne (ne_of_none h2 hl2)]; exact h2)) _ _ hvs
  | non =>
    refine ⟨_, PSs.nox (pss_cons (ps_if (pt_val (pe_callB call_isiT (by rfl) T.n_isi (by decide +kernel) (pa_cons (pv 0) (pa_cons (pe_tup (pa_cons (pe_bltn (v := .ty "list") (by rfl) T.n_list (by decide +kernel) rfl) (pa_cons (pe_bltn (v := .ty "tuple") (by rfl) T.n_tuple (by decide +kernel) rfl) pa_nil))) pa_nil))))
      (pss_one (ps_ret (pe_callTy call_tuple_of (by rfl) T.n_tuple (by decide +kernel) (pa_cons (pe_lc (own := [("part", 1)]) (g := (gName 1)) (tt := tYes) rfl nd (pi_list (pv 0)) (blkOk_by (N := ["value", "part"]) (sc := defScope sFixed) (by decide +kernel)) (fun _ _ _ _ _ => pg_name (i := 1) nd rfl (Or.inl rfl)) (fun _ _ _ _ _ => pts_nil) (fun _ _ _ _ _ => (pe_call G hr rfl mG kG bG .nil pass0 (pa_cons (pv 1) pa_nil)))) pa_nil))))
      pss_nil)
    (pss_one (ps_ret (pv 0)))), ?_⟩
    walk_at "rd"
    refine ⟨by decide, fun tp htp => ?_⟩
    have s1 : Same H (upd H tp (HO.tup [V.ty "list", V.ty "tuple"])) := same_new htp _
    refine ⟨_, tp, [V.ty "list", V.ty "tuple"], _, [.type "list", .type "tuple"], false, rfl, upd_same, .cons (.ty _) (.cons (.ty _) .nil), .base .non, kitAny_cons (b := false) (kit_ty (by decide +kernel)) (fun _ => kitAny_cons (b := false) (kit_ty (by decide +kernel)) (fun _ => kitAny_nil) (fun z => nomatch z)) (fun z => nomatch z), _, rfl, ?_⟩
    refine iteF ?_
    exact ⟨_, rfl, k _ _ s1 .non⟩
  | bl b =>
    refine ⟨_, PSs.nox (pss_cons (ps_if (pt_val (pe_callB call_isiT (by rfl) T.n_isi (by decide +kernel) (pa_cons (pv 0) (pa_cons (pe_tup (pa_cons (pe_bltn (v := .ty "list") (by rfl) T.n_list (by decide +kernel) rfl) (pa_cons (pe_bltn (v := .ty "tuple") (by rfl) T.n_tuple (by decide +kernel) rfl) pa_nil))) pa_nil))))
      (pss_one (ps_ret (pe_callTy call_tuple_of (by rfl) T.n_tuple (by decide +kernel) (pa_cons (pe_lc (own := [("part", 1)]) (g := (gName 1)) (tt := tYes) rfl nd (pi_list (pv 0)) (blkOk_by (N := ["value", "part"]) (sc := defScope sFixed) (by decide +kernel)) (fun _ _ _ _ _ => pg_name (i := 1) nd rfl (Or.inl rfl)) (fun _ _ _ _ _ => pts_nil) (fun _ _ _ _ _ => (pe_call G hr rfl mG kG bG .nil pass0 (pa_cons (pv 1) pa_nil)))) pa_nil))))
      pss_nil)
    (pss_one (ps_ret (pv 0)))), ?_⟩
    walk_at "rd"
    refine ⟨by decide, fun tp htp => ?_⟩
    have s1 : Same H (upd H tp (HO.tup [V.ty "list", V.ty "tuple"])) := same_new htp _
    refine ⟨_, tp, [V.ty "list", V.ty "tuple"], _, [.type "list", .type "tuple"], false, rfl, upd_same, .cons (.ty _) (.cons (.ty _) .nil), .base (.bl b), kitAny_cons (b := false) (kit_ty (by decide +kernel)) (fun _ => kitAny_cons (b := false) (kit_ty (by decide +kernel)) (fun _ => kitAny_nil) (fun z => nomatch z)) (fun z => nomatch z), _, rfl, ?_⟩
    refine iteF ?_
    exact ⟨_, rfl, k _ _ s1 (.bl b)⟩
  | int j =>
    refine ⟨_, PSs.nox (pss_cons (ps_if (pt_val (pe_callB call_isiT (by rfl) T.n_isi (by decide +kernel) (pa_cons (pv 0) (pa_cons (pe_tup (pa_cons (pe_bltn (v := .ty "list") (by rfl) T.n_list (by decide +kernel) rfl) (pa_cons (pe_bltn (v := .ty "tuple") (by rfl) T.n_tuple (by decide +kernel) rfl) pa_nil))) pa_nil))))
      (pss_one (ps_ret (pe_callTy call_tuple_of (by rfl) T.n_tuple (by decide +kernel) (pa_cons (pe_lc (own := [("part", 1)]) (g := (gName 1)) (tt := tYes) rfl nd (pi_list (pv 0)) (blkOk_by (N := ["value", "part"]) (sc := defScope sFixed) (by decide +kernel)) (fun _ _ _ _ _ => pg_name (i := 1) nd rfl (Or.inl rfl)) (fun _ _ _ _ _ => pts_nil) (fun _ _ _ _ _ => (pe_call G hr rfl mG kG bG .nil pass0 (pa_cons (pv 1) pa_nil)))) pa_nil))))
      pss_nil)
    (pss_one (ps_ret (pv 0)))), ?_⟩
    walk_at "rd"
    refine ⟨by decide, fun tp htp => ?_⟩
    have s1 : Same H (upd H tp (HO.tup [V.ty "list", V.ty "tuple"])) := same_new htp _
    refine ⟨_, tp, [V.ty "list", V.ty "tuple"], _, [.type "list", .type "tuple"], false, rfl, upd_same, .cons (.ty _) (.cons (.ty _) .nil), .base (.int j), kitAny_cons (b := false) (kit_ty (by decide +kernel)) (fun _ => kitAny_cons (b := false) (kit_ty (by decide +kernel)) (fun _ => kitAny_nil) (fun z => nomatch z)) (fun z => nomatch z), _, rfl, ?_⟩
    refine iteF ?_
    exact ⟨_, rfl, k _ _ s1 (.int j)⟩
  | str z =>
    refine ⟨_, PSs.nox (pss_cons (ps_if (pt_val (pe_callB call_isiT (by rfl) T.n_isi (by decide +kernel) (pa_cons (pv 0) (pa_cons (pe_tup (pa_cons (pe_bltn (v := .ty "list") (by rfl) T.n_list (by decide +kernel) rfl) (pa_cons (pe_bltn (v := .ty "tuple") (by rfl) T.n_tuple (by decide +kernel) rfl) pa_nil))) pa_nil))))
      (pss_one (ps_ret (pe_callTy call_tuple_of (by rfl) T.n_tuple (by decide +kernel) (pa_cons (pe_lc (own := [("part", 1)]) (g := (gName 1)) (tt := tYes) rfl nd (pi_list (pv 0)) (blkOk_by (N := ["value", "part"]) (sc := defScope sFixed) (by decide +kernel)) (fun _ _ _ _ _ => pg_name (i := 1) nd rfl (Or.inl rfl)) (fun _ _ _ _ _ => pts_nil) (fun _ _ _ _ _ => (pe_call G hr rfl mG kG bG .nil pass0 (pa_cons (pv 1) pa_nil)))) pa_nil))))
      pss_nil)
    (pss_one (ps_ret (pv 0)))), ?_⟩
    walk_at "rd"
    refine ⟨by decide, fun tp htp => ?_⟩
    have s1 : Same H (upd H tp (HO.tup [V.ty "list", V.ty "tuple"])) := same_new htp _
    refine ⟨_, tp, [V.ty "list", V.ty "tuple"], _, [.type "list", .type "tuple"], false, rfl, upd_same, .cons (.ty _) (.cons (.ty _) .nil), .base (.str z), kitAny_cons (b := false) (kit_ty (by decide +kernel)) (fun _ => kitAny_cons (b := false) (kit_ty (by decide +kernel)) (fun _ => kitAny_nil) (fun z => nomatch z)) (fun z => nomatch z), _, rfl, ?_⟩
    refine iteF ?_
    exact ⟨_, rfl, k _ _ s1 (.str z)⟩
theorem tup_none {ps : List Str} (hp : ps.length = 1) : FnOk P w K mg base CX0 0 f fd ps (spTup 0) := by
  have no : ∀ vs H Q E, ¬ spTup 0 vs H Q E := fun vs H Q E h => by
    obtain ⟨v, d, _, _, h1, _⟩ := h
    exact absurd h1 (Nat.not_lt_zero _)
  exact ⟨fun vs H Q E h => absurd h (no vs H Q E), fun A outer s H args us vs Q E _ _ _ _ h => absurd h (no vs H Q E)⟩
theorem ok_fixed (F : FnP K "fixed" sFixed f fd) (bG : Binds K fd ["value"] []) (kG : PySem.W.keepIn K (.ref f) = true) (mG : mg "fixed" = some (.ref f)) (T : TxtT mg) : ∀ n, FnOk P w K mg base CX0 n f fd ["value"] (spTup n)
  | 0 => tup_none rfl
  | n + 1 => ok_fixed1 F (ok_fixed F bG kG mG T n) bG kG mG T
end
end My

set_option maxHeartbeats 4000000
namespace My
open PySem PySem.Spec PyProof.Rows L2
local macro_rules | `(tactic| walk_at "rd1") => `(tactic| first
  | refine ⟨_, rfl, ?_⟩
  | refine ⟨_, _, rfl, rfl, ?_⟩
  | refine Or.inl ⟨_, rfl, ?_⟩
  | refine Or.inr ⟨_, rfl, ?_⟩
  | refine ⟨_, _, _, _, rfl, rfl, Or.inl (Or.inl (by assumption)), rfl, ?_⟩
  | refine ⟨_, _, rfl, Or.inl (Or.inl (Or.inl (by assumption))), ?_⟩)
local macro_rules | `(tactic| walk_at "rd") => `(tactic| repeat walk_at "rd1")
/-! ### are_like -/
def isB : PyData → Bool
  | .bool _ => true
  | _ => false
def isT : PyData → Bool
  | .tuple _ => true
  | _ => false
mutual
def alike : PyData → PyData → Bool
  | .tuple xs, .tuple ys => (xs.length == ys.length) && alikeAll xs ys
  | .tuple xs, e => (isB (.tuple xs) == isB e) && PyData.eqv (.tuple xs) e
  | .none, e => (isB .none == isB e) && PyData.eqv .none e
  | .bool b, e => (isB (.bool b) == isB e) && PyData.eqv (.bool b) e
  | .int b, e => (isB (.int b) == isB e) && PyData.eqv (.int b) e
  | .str b, e => (isB (.str b) == isB e) && PyData.eqv (.str b) e
  | .list b, e => (isB (.list b) == isB e) && PyData.eqv (.list b) e
  | .dict b, e => (isB (.dict b) == isB e) && PyData.eqv (.dict b) e
def alikeAll : List PyData → List PyData → Bool
  | x :: xs, y :: ys => alike x y && alikeAll xs ys
  | [], _ => true
  | _ :: _, [] => true
end
theorem alike_else {d e : PyData} (h : ¬ (isT d = true ∧ isT e = true)) : alike d e = ((isB d == isB e) && PyData.eqv d e) := by
  cases d <;> cases e <;> first | rfl | (exact absurd ⟨rfl, rfl⟩ h)
theorem alike_tup {xs ys : List PyData} : alike (.tuple xs) (.tuple ys) = ((xs.length == ys.length) && alikeAll xs ys) := rfl
theorem kit_tup {K : PySem.W.Frag} {d : PyData} : PySem.W.kitOne K (.type (tyn d)) (.type "tuple") = some (isT d) := by
  cases d with
  | none => exact kit_ty (a := "NoneType") (b := "tuple") (r := false) (by decide +kernel)
  | bool b => exact kit_ty (a := "bool") (b := "tuple") (r := false) (by decide +kernel)
  | int b => exact kit_ty (a := "int") (b := "tuple") (r := false) (by decide +kernel)
  | str b => exact kit_ty (a := "str") (b := "tuple") (r := false) (by decide +kernel)
  | list b => exact kit_ty (a := "list") (b := "tuple") (r := false) (by decide +kernel)
  | tuple b => exact kit_ty (a := "tuple") (b := "tuple") (r := true) (by decide +kernel)
  | dict b => exact kit_ty (a := "dict") (b := "tuple") (r := false) (by decide +kernel)
theorem kit_bool {K : PySem.W.Frag} {d : PyData} : PySem.W.kitOne K (.type (tyn d)) (.type "bool") = some (isB d) := by
  cases d with
  | none => exact kit_ty (a := "NoneType") (b := "bool") (r := false) (by decide +kernel)
  | bool b => exact kit_ty (a := "bool") (b := "bool") (r := true) (by decide +kernel)
  | int b => exact kit_ty (a := "int") (b := "bool") (r := false) (by decide +kernel)
  | str b => exact kit_ty (a := "str") (b := "bool") (r := false) (by decide +kernel)
  | list b => exact kit_ty (a := "list") (b := "bool") (r := false) (by decide +kernel)
  | tuple b => exact kit_ty (a := "tuple") (b := "bool") (r := false) (by decide +kernel)
  | dict b => exact kit_ty (a := "dict") (b := "bool") (r := false) (by decide +kernel)
theorem walk_zipT {K : PySem.W.Frag} {a b : Addr} {xs ys : List V} {n : Nat} (hn : n = min xs.length ys.length) : Walk (RZ.ItzT K a b) n (fun H => SqT K H a xs ∧ SqT K H b ys) (YPair (fun i => xs[i]?) (fun i => ys[i]?)) := by
  subst hn
  refine ⟨fun i _ hi q => ?_, fun _ q => ⟨xs, ys, q.1, q.2, by omega⟩, fun i H v H' _ q y => ?_⟩
  · have h1 : i < xs.length := by omega
    have h2 : i < ys.length := by omega
    exact ⟨xs, ys, xs[i], ys[i], q.1, q.2, by simp [h1], by simp [h2]⟩
  · obtain ⟨T, x, z, h1, h2, h3, h4, h5⟩ := y
    exact ⟨T, x, z, h1, h2, h3, h4 xs q.1, h5 ys q.2⟩
def likes : List PyData → List PyData → List Bool
  | x :: xs, y :: ys => alike x y :: likes xs ys
  | [], _ => []
  | _ :: _, [] => []
theorem likes_all : ∀ xs ys : List PyData, (likes xs ys).all id = alikeAll xs ys
  | x :: xs, y :: ys => by
    show (id (alike x y) && (likes xs ys).all id) = (alike x y && alikeAll xs ys)
    rw [likes_all xs ys]
    rfl
  | [], _ => by simp [likes, alikeAll]
  | _ :: _, [] => by simp [likes, alikeAll]
theorem likes_len : ∀ xs ys : List PyData, xs.length = ys.length → (likes xs ys).length = xs.length
  | x :: xs, y :: ys, h => congrArg Nat.succ (likes_len xs ys (Nat.succ.inj h))
  | [], _, _ => by simp [likes]
  | _ :: _, [], h => by cases h
theorem likes_get : ∀ {xs ys : List PyData} {i : Nat} {d e : PyData}, xs[i]? = some d → ys[i]? = some e → (likes xs ys)[i]? = some (alike d e)
  | x :: xs, y :: ys, 0, d, e, h1, h2 => by
    have h3 : some x = some d := h1
    have h4 : some y = some e := h2
    rw [← Option.some.inj h3, ← Option.some.inj h4]
    rfl
  | x :: xs, y :: ys, i + 1, d, e, h1, h2 => likes_get (xs := xs) (ys := ys) (i := i) h1 h2
  | [], _, _, _, _, h1, _ => by simp at h1
  | _ :: _, [], _, _, _, _, h2 => by simp at h2
theorem lay_get : ∀ {ds : List PyData} {i : Nat} {d : PyData}, PyData.canLayAll0 ds = true → ds[i]? = some d → PyData.canLay0 d = true
  | [], i, d, _, h => by simp at h
  | x :: ds, 0, d, h, e => by
    have h2 : some x = some d := e
    rw [← Option.some.inj h2]
    exact (Bool.and_eq_true_iff.mp (show (PyData.canLay0 x && PyData.canLayAll0 ds) = true from h)).1
  | x :: ds, i + 1, d, h, e => lay_get (ds := ds) (i := i) (Bool.and_eq_true_iff.mp (show (PyData.canLay0 x && PyData.canLayAll0 ds) = true from h)).2 e
theorem shaped_of {d : PyData} (h1 : PyData.canLay0 d = true) (h2 : dep d ≤ 64) : SeqAt.shaped d = true := by
  show (PyData.canLay0 d && decide (PyData.depth d ≤ 64)) = true
  rw [h1, decide_eq_true h2]
  rfl
theorem ite_join2 {c : Prop} [Decidable c] {A B : Prop} (R : Prop) (hB : R → B) (hr : ¬ c → R) (hA : c → (R → B) → A) : if c then A else B := by
  by_cases h : c
  · rw [if_pos h]
    exact hA h hB
  · rw [if_neg h]
    exact hB (hr h)
theorem dec_blb {a b : Bool} : decide (V.bl a = V.bl b) = (a == b) := by
  cases a <;> cases b <;> decide
def spLike (n : Nat) : Sp := fun vs H Q _ => ∃ (v w : V) (d e : PyData), vs = [v, w] ∧ Dh H v d ∧ Dh H w e ∧ PyData.canLay0 d = true ∧ PyData.canLay0 e = true ∧ dep d < n ∧ dep d ≤ 60 ∧ dep e ≤ 60 ∧ ∀ H', Same H H' → Q (.bl (alike d e)) H'
structure TxtL (mg : Str → Option Value) : Prop where
  n_isi : mg "isinstance" = none
  n_tuple : mg "tuple" = none
  n_bool : mg "bool" = none
  n_len : mg "len" = none
  n_all : mg "all" = none
  n_zip : mg "zip" = none
section
variable {P : Program} {w : World} {K : PySem.W.Frag} {mg : Str → Option Value} {base : Heap} {f : Addr} {fd : FuncData}
theorem scLk : FnScope ["one", "other", "here", "there"] ["one", "other"] (defScope sLike) := ⟨rfl, rfl, rfl, by decide +kernel, rfl, by decide +kernel, by decide +kernel⟩
theorem ok_like1 {n : Nat} (F : FnP K "are_like" sLike f fd) (G : FnOk P w K mg base CX0 n f fd ["one", "other"] (spLike n)) (bG : Binds K fd ["one", "other"] []) (kG : PySem.W.keepIn K (.ref f) = true) (mG : mg "are_like" = some (.ref f)) (T : TxtL mg) :
    FnOk P w K mg base CX0 (n + 1) f fd ["one", "other"] (spLike (n + 1)) := by
  refine F.ok scLk (fun vs H Q E h => ?_) (fun cdv A outer s H vs Q E hr h => ?_)
  · obtain ⟨v, w, d, e, rfl, _⟩ := h
    rfl
  obtain ⟨v, w, d, e, rfl, hd, he, ld, le, dn, d6, e6, k⟩ := h
  have nd := scLk.nd
  refine ⟨_, PSs.nox (pss_cons (ps_if (PW.pt (pw_and (pt_val (pe_callB call_isi (by rfl) T.n_isi (by decide +kernel) (pa_cons (pv 0) (pa_cons (pe_bltn (v := .ty "tuple") (by rfl) T.n_tuple (by decide +kernel) rfl) pa_nil)))) (pw_and1 (pt_val (pe_callB call_isi (by rfl) T.n_isi (by decide +kernel) (pa_cons (pv 1) (pa_cons (pe_bltn (v := .ty "tuple") (by rfl) T.n_tuple (by decide +kernel) rfl) pa_nil)))))))
      (pss_one (ps_ret (pe_and (pe_cmpR op_eq (pe_callB call_len_seq (by rfl) T.n_len PySem.boot_len (pa_cons (pv 0) pa_nil)) (pe_callB call_len_seq (by rfl) T.n_len PySem.boot_len (pa_cons (pv 1) pa_nil)) (nomark _)) (pe_one (pe_callB (cr_all rfl) (by rfl) T.n_all (by decide +kernel) (pa_cons (pe_lc (own := [("here", 2), ("there", 3)]) (g := gTup K 2 (gCons (gName 2) (gCons (gName 3) gNil))) (tt := tYes) rfl nd (RZ.pi_zipA (by rfl) T.n_zip (pa_cons (pv 0) (pa_cons (pv 1) pa_nil))) (blkOk_by (N := ["one", "other", "here", "there"]) (sc := defScope sLike) (by decide +kernel)) (fun _ _ _ _ _ => pg_tup (by rfl) (pgs_cons (pg_name (i := 2) nd rfl (Or.inl rfl)) (pgs_cons (pg_name (i := 3) nd rfl (Or.inl rfl)) pgs_nil))) (fun _ _ _ _ _ => pts_nil) (fun _ _ _ _ _ => (pe_call G hr rfl mG kG bG .nil pass0 (pa_cons (pv 2) (pa_cons (pv 3) pa_nil))))) pa_nil))))))
      pss_nil)
    (pss_one (ps_ret (pe_and (pe_cmpR op_eq (pe_callB call_isi (by rfl) T.n_isi (by decide +kernel) (pa_cons (pv 0) (pa_cons (pe_bltn (v := .ty "bool") (by rfl) T.n_bool (by decide +kernel) rfl) pa_nil))) (pe_callB call_isi (by rfl) T.n_isi (by decide +kernel) (pa_cons (pv 1) (pa_cons (pe_bltn (v := .ty "bool") (by rfl) T.n_bool (by decide +kernel) rfl) pa_nil))) (nomark _)) (pe_one (pe_callTy call_bool1 (by rfl) T.n_bool (by decide +kernel) (pa_cons (pe_cmpR (op_eqD hr.units) (pv 0) (pv 1) (nomark _)) pa_nil))))))), ?_⟩
  walk_at "rd"
  refine ⟨v, .ty "tuple", _, _, _, rfl, .ty _, hd.ty, kit_tup, _, rfl, ?_⟩
  refine ite_join2 (alike d e = ((isB d == isB e) && PyData.eqv d e)) (fun z => ?_) (fun c => alike_else fun q => c q.1) (fun c tail => ?_)
  · refine iteF ?_
    walk_at "rd"
    refine ⟨v, .ty "bool", _, _, _, rfl, .ty _, hd.ty, kit_bool, ?_⟩
    walk_at "rd"
    refine ⟨w, .ty "bool", _, _, _, rfl, .ty _, he.ty, kit_bool, rfl, _, rfl, ?_⟩
    rw [dec_blb]
    refine ite2 (fun c => ?_) (fun c => ?_)
    · walk_at "rd"
      refine ⟨d, e, Dh.dp _ _ hd, Dh.dp _ _ he, shaped_of ld (by omega), shaped_of le (by omega), .inr ⟨_, rfl, ?_⟩⟩
      have z2 := k H (Same.refl H)
      rw [z, c] at z2
      exact z2
    · have z2 := k H (Same.refl H)
      rw [z, Bool.eq_false_iff.mpr c] at z2
      exact z2
  · walk_at "rd"
    refine ⟨w, .ty "tuple", _, _, _, rfl, .ty _, he.ty, kit_tup, _, rfl, ?_⟩
    refine ite2 (fun c2 => ?_) (fun c2 => of_iteF (tail (alike_else fun q => c2 q.2)))
    clear tail
    cases hd with
    | tup ha hl hds =>
      cases he with
      | tup hb hm hes =>
        rename_i a xs ds b ys es
        have lx := hds.len
        have ly := hes.len
        walk_at "rd"
        refine ⟨a, xs, rfl, .inr (.inl (.inl ha)), _, rfl, b, ys, rfl, .inr (.inl (.inl hb)), rfl, _, rfl, ?_⟩
        refine ite2 (fun c3 => ?_) (fun c3 => ?_)
        · have c4 : xs.length = ys.length := by
            have c5 := of_decide_eq_true c3
            injection c5 with c6
            omega
          have el : (ds.length == es.length) = true := by rw [← lx, ← ly, c4]; exact beq_self_eq_true _
          have ld2 : PyData.canLayAll0 ds = true := ld
          have le2 : PyData.canLayAll0 es = true := le
          have dn2 : depAll ds + 1 < n + 1 := dn
          have d62 : depAll ds + 1 ≤ 60 := d6
          have e62 : depAll es + 1 ≤ 60 := e6
          walk_at "rd"
          refine ⟨a, b, xs, ys, rfl, .inr ⟨.inl (.inl ha), .inl (.inl hb), fun D hD => lc_it (walk_zipT (xs := xs) (ys := ys) (n := xs.length) (by omega)) (fun i H2 => H2 D = some (.lst (((likes ds es).take i).map V.bl)) ∧ Same H H2)
            ⟨upd_same, same_new hD _⟩ (fun i H2 _ ⟨_, e2⟩ => ⟨.inl (.inl (e2 _ _ ha)), .inl (.inl (e2 _ _ hb))⟩) ?_ ?_⟩⟩
          · rintro i x H2 H3 hi ⟨hD2, e2⟩ ⟨T, x1, y1, rfl, hT, rfl, hx, hy⟩
            obtain ⟨d1, hd1, hd2⟩ := hds.get hx
            obtain ⟨e1, he1, he2⟩ := hes.get hy
            have z1 := dep_get hd1
            have z2 := dep_get he1
            refine ⟨T, [x1, y1], rfl, .inl (.inl upd_same), rfl, x1, [y1], rfl, y1, [], rfl, rfl, rfl, ?_⟩
            have e3 : Same H (upd H2 T (.tup [x1, y1])) := e2.trans (same_new hT _)
            refine ⟨x1, rfl, y1, rfl, x1, y1, d1, e1, rfl, Dh.same e3 _ _ hd2, Dh.same e3 _ _ he2, lay_get ld2 hd1, lay_get le2 he1, by omega, by omega, by omega, fun H4 e4 => ?_⟩
            refine ⟨((likes ds es).take i).map V.bl, e4 _ _ (by rw [upd_ne (ne_of_none hD2 hT)]; exact hD2), ?_, ?_, ?_⟩
            · rw [List.length_map, List.length_take]
              exact Nat.lt_of_le_of_lt (Nat.min_le_left _ _) (Nat.lt_of_lt_of_le (Nat.lt_of_lt_of_le hi hl) (by decide))
            · rw [upd_same, take_succ' (likes_get hd1 he1), List.map_append]
              rfl
            · exact fun q o hq => by rw [upd_ne (ne_of_none hq hD)]; exact e4 _ _ (e3 _ _ hq)
          · rintro H2 ⟨hD2, e2⟩
            refine ⟨D, (likes ds es).take xs.length, rfl, .inl (.inl hD2), ?_⟩
            have z := k H2 e2
            rw [alike_tup, el, ← likes_all] at z
            have z3 : (likes ds es).take xs.length = likes ds es := List.take_of_length_le (by rw [likes_len _ _ (by omega)]; omega)
            rw [z3]
            exact z
        · have c4 : ¬ ds.length = es.length := fun q => c3 (decide_eq_true (by rw [lx, ly, q]))
          have z := k H (Same.refl H)
          have el : (ds.length == es.length) = false := beq_eq_false_iff_ne.mpr c4
          rw [alike_tup, el] at z
          exact z
      | _ => exact Bool.noConfusion (show false = true from c2)
    | _ => exact Bool.noConfusion (show false = true from c)
theorem like_none : FnOk P w K mg base CX0 0 f fd ["one", "other"] (spLike 0) := by
  have no : ∀ vs H Q E, ¬ spLike 0 vs H Q E := fun vs H Q E h => by
    obtain ⟨v, w, d, e, _, _, _, _, _, h1, _⟩ := h
    exact absurd h1 (Nat.not_lt_zero _)
  exact ⟨fun vs H Q E h => absurd h (no vs H Q E), fun A outer s H args us vs Q E _ _ _ _ h => absurd h (no vs H Q E)⟩
theorem ok_like (F : FnP K "are_like" sLike f fd) (bG : Binds K fd ["one", "other"] []) (kG : PySem.W.keepIn K (.ref f) = true) (mG : mg "are_like" = some (.ref f)) (T : TxtL mg) : ∀ n, FnOk P w K mg base CX0 n f fd ["one", "other"] (spLike n)
  | 0 => like_none
  | n + 1 => ok_like1 F (ok_like F bG kG mG T n) bG kG mG T
end
end My

set_option maxHeartbeats 4000000
/-! an own exception class's call with keywords; its __init__ that says super().__init__('..') and stores its parameters -/
namespace PySem
namespace MyX
open Builtin Builtin.ObjectAttr PySem.HandSPX
section
variable {M : Model} {A : Around} {E : Value → Shared → Prop} {h : Heap} {g : Array GenState} {d : Drawn} {t : Nat} {os : OsState}
variable {nm q : Str} {C N : Addr} {bs bm bmB : List Value} {hdct : Bool} {sn : List Str} {sub : List Value} {ab : Bool} {col : Option Bool} {dd : Option Addr} {k0 k1 k2 k3 k5 : Option Value} {B newId initId : String}
theorem check_new_kw (F : ExcBaseFacts B newId initId bmB) (hT : ∀ X : String, bm.contains (.type X) = bmB.contains (.type X)) {rest : List Value} {kw : List (Str × Value)} {Q : Unit → Shared → Prop}
    (hC : h.get? C = some (excClassObj nm q C N bs bm hdct sn sub ab col dd k0 k1 k2 k3 k5 newId)) (hq : Q () ⟨h, g, d, t, os⟩) : wpAny M A (checkBuiltinCall newId ⟨.ref C :: rest, kw⟩) Q E ⟨h, g, d, t, os⟩ := by
  have hcont : (Value.ref C :: bm).contains (.type B) = true := by rw [List.contains_cons, hT, F.hasB, Bool.or_true]
  have hstar := F.noStar
  simp only [checkBuiltinCall, F.newKind, F.newSplit, F.newRow]
  repeat (first | refine wpAny_loadPart_at hC ?_ | (refine wpAny_isSubtype_exc hC ?_; rw [hcont]) | refine wpAny_staticBase_exc hC ?_ | refine wpAny_madeBy_exc hC ?_ | simp only [bne_self_eq_false, Bool.false_eq_true, if_false] | wp_step)
  exact hq
theorem check_tc_kw {rest : List Value} {kw : List (Str × Value)} {Q : Unit → Shared → Prop} (hC : h.get? C = some (excClassObj nm q C N bs bm hdct sn sub ab col dd k0 k1 k2 k3 k5 newId))
    (hq : Q () ⟨h, g, d, t, os⟩) : wpAny M A (checkBuiltinCall "type.__call__" ⟨.ref C :: rest, kw⟩) Q E ⟨h, g, d, t, os⟩ := by
  have f3 := tc_sub
  have hT : (⟨h, g, d, t, os⟩ : Shared).TypeIs (.ref C) "type" := ⟨_, hC, rfl⟩
  simp only [checkBuiltinCall, tc_kind, tc_split]
  repeat (any_goals (first | assumption | with_reducible refine wpAny_loadPart_at hC ?_ | with_reducible refine wpAny_onRaise ?_ | with_reducible refine wpAny_map ?_ | wp_step))
end
section
variable {prog : Program} {w : World} {A : Around} {E : Value → Shared → Prop} {R : Result → Shared → Prop} {h : Heap} {g : Array GenState} {d : Drawn} {t : Nat} {os : OsState}
variable {nm q : Str} {C N : Addr} {bs bm bmB : List Value} {hdct : Bool} {sn : List Str} {sub : List Value} {ab : Bool} {col : Option Bool} {dd : Option Addr} {k0 k1 k2 k3 k5 : Option Value} {B newId initId : String}
theorem new_kw (F : ExcBaseFacts B newId initId bmB) (hT : ∀ X : String, bm.contains (.type X) = bmB.contains (.type X)) {rest : List Value} {kw : List (Str × Value)}
    (hC : h.get? C = some (excClassObj nm q C N bs bm hdct sn sub ab col dd k0 k1 k2 k3 k5 newId))
    (hq : R (.ok (.ret (.ref (h.objs.size + 1)))) ⟨(h.push { cls := .type "tuple", data := .seq rest.toArray }).push
      { cls := .ref C, data := .fields #[.ref h.objs.size, .none, .none, .none, .bool false, .none] }, g, d, t, os⟩) (hrest : rest.length ≤ sizeLine) :
    codeAny (model prog w) A (.builtin newId ⟨.ref C :: rest, kw⟩) R ⟨h, g, d, t, os⟩ := by
  have hends := F.ends
  have hcB : (Value.ref C :: bm).contains (.type B) = true := by rw [List.contains_cons, hT, F.hasB, Bool.or_true]
  have hcA : (Value.ref C :: bm).contains (.type "AttributeError") = false := by rw [List.contains_cons, hT, F.noAttr]; rfl
  have hcN : (Value.ref C :: bm).contains (.type "NameError") = false := by rw [List.contains_cons, hT, F.noName]; rfl
  refine codeAny_builtinAt F.entry ?_
  unfold Builtin.«BaseException.__new__»
  refine wpAt_bind ?_
  show wpAt _ _ _ (stack >>= _) _ _ _
  refine wpAt_bind (wpAt_stack fun p below => wpAt_of_wpAny ?_)
  wp_walk
  refine wpAt_of_wpAny ?_
  rw [F.owner]
  repeat (first | with_reducible refine wpAny_madeHere_exc F.canon hC ?_ | with_reducible refine wpAny_loadPart_at hC ?_ | (with_reducible refine wpAny_isSubtype_exc hC ?_; first | rw [hcB] | rw [hcA] | rw [hcN]) | wp_step)
  show R _ _
  rw [Heap.size_push]
  exact hq
theorem type_call_kw (F : ExcBaseFacts B newId initId bmB) (hT : ∀ X : String, bm.contains (.type X) = bmB.contains (.type X)) {rest : List Value} {kw : List (Str × Value)} {fI : Addr} {Q : Fin → Shared → Prop}
    (hC : h.get? C = some (excClassObj nm q C N bs bm hdct sn sub ab col dd k0 k1 k2 k3 k5 newId))
    (hi : W.Looks (model prog w) h (typeLookup (.ref C) "__init__") (some (.ref fI))) (hb : ∀ self, W.Looks (model prog w) h (bindSpecial (.ref fI) self) (.ref fI, [self])) (hrest : rest.length ≤ sizeLine)
    (hq : codeAny (model prog w) A (.call (.ref fI) ⟨.ref (h.objs.size + 1) :: rest, kw⟩)
      (fun r s' => match r with | .ok (.ret v) => v = .none ∧ Q (.done (.ret (.ref (h.objs.size + 1)))) s' | .ok _ => False | .error e => E e s')
      ⟨(h.push (W.kdv_tup rest)).push (excO C h.objs.size), g, d, t, os⟩) :
    wpAny (model prog w) A (Builtin.«type.__call__» ⟨.ref C :: rest, kw⟩) Q E ⟨h, g, d, t, os⟩ := by
  repeat (first | with_reducible refine wpAny_loadPart_at hC ?_ | with_reducible refine wpAny_madeBy_exc hC ?_ | wp_step)
  refine codeAny_call_builtin_code (Code.quiet_builtin _ F.quiet) (check_new_kw F hT hC ?_)
  refine new_kw F hT hC ?_ hrest
  show wpAny _ _ _ _ _ _
  have k : ∀ b o, h.get? b = some o → ((h.push (W.kdv_tup rest)).push (excO C h.objs.size)).get? b = some o := fun b o e => Heap.get?_push_of_some _ (Heap.get?_push_of_some _ e)
  have hC₁ := k _ _ hC
  have hget : ((h.push (W.kdv_tup rest)).push (excO C h.objs.size)).get? (h.objs.size + 1) = some (excO C h.objs.size) := by heap_get
  have hcC : (Value.ref C :: bm).contains (.ref C) = true := by simp
  have i1 := hi.keeps k
  have b1 := (hb (.ref (h.objs.size + 1))).keeps k
  unfold isInstance
  repeat (first | with_reducible refine wpAny_loadPart_at hget ?_ | (with_reducible refine wpAny_isSubtype_exc hC₁ ?_; rw [hcC]) | wp_step)
  show wpAny _ _ (typeLookup (.ref C) _) _ _ _
  refine i1.at ?_
  refine wpAny_holding (wpAny_bind (b1.at ?_))
  refine wpAny_bind (wpAny_call (codeAny_mono hq fun r s' z => ?_))
  rcases r with e | (v | _ | _ | _) <;> first | exact z | exact z.elim | skip
  obtain ⟨rfl, z⟩ := z
  first
    | exact wpAny_pure (wpAny_pure z)
    | (wp_walk; exact z)
theorem call_kw (F : ExcBaseFacts B newId initId bmB) (hT : ∀ X : String, bm.contains (.type X) = bmB.contains (.type X)) {rest : List Value} {kw : List (Str × Value)} {fI : Addr}
    (hC : h.get? C = some (excClassObj nm q C N bs bm hdct sn sub ab col dd k0 k1 k2 k3 k5 newId))
    (hi : W.Looks (model prog w) h (typeLookup (.ref C) "__init__") (some (.ref fI))) (hb : ∀ self, W.Looks (model prog w) h (bindSpecial (.ref fI) self) (.ref fI, [self])) (hrest : rest.length ≤ sizeLine)
    (hq : codeAny (model prog w) (A.under (.builtin "type.__call__" ⟨.ref C :: rest, kw⟩)) (.call (.ref fI) ⟨.ref (h.objs.size + 1) :: rest, kw⟩) (W.InitBack (h.objs.size + 1) R)
      ⟨(h.push (W.kdv_tup rest)).push (excO C h.objs.size), g, d, t, os⟩) :
    codeAny (model prog w) A (.call (.ref C) ⟨rest, kw⟩) R ⟨h, g, d, t, os⟩ := by
  have f1 := tc_lookup
  have f2 := tc_bind (.ref C)
  have hTy : (⟨h, g, d, t, os⟩ : Shared).TypeIs (.ref C) "type" := ⟨_, hC, rfl⟩
  refine codeAny_of_tree ?_
  show wpAny _ _ (callAny (.ref C) _) _ _ _
  repeat (any_goals (first | assumption | with_reducible refine wpAny_loadPart_at hC ?_ | wp_step))
  refine ⟨rfl, ?_⟩
  refine codeAny_call_builtin_at (Code.quiet_builtin _ (by decide +kernel)) entry_typeCall (check_tc_kw hC (type_call_kw F hT hC hi hb hrest ?_))
  refine codeAny_mono hq fun r s' z => ?_
  rcases r with e | (v | _ | _ | _) <;> exact z
end
end MyX
end PySem

set_option maxHeartbeats 4000000
/-! an own exception class over another one over ValueError; __init__ says super().__init__('..') and stores its parameters -/
namespace PySem
namespace MyX
open PySem.W PySem.Calls PyProof.Rows PySem.HandSPX
abbrev supEnv (qual : Str) (scope : Scope) (L f : Addr) (cd : Value) (cc : Addr) : Env := ksEnv qual scope L f cd cc
/-- what the written part says of the class at C, of its __init__ at f -/
structure ExI (prog : Program) (K : Frag) (C f : Addr) (name qual : Str) (params : Arguments) (body : List Stmt) (scope : Scope) (fd : FuncData) : Prop where
  oc : L2.OexC K C
  iC : findIn K (.ref C) "__init__" = some (some (.ref f))
  tI : typeIn K (.ref f) = some (.type "function")
  su : ks_superIn K C C "__init__" = some (some (.builtin "ValueError.__init__"))
  ve : subIn K (.ref C) (.type "ValueError") = some true
  op : nsIn K cStatics "thirdparty.any" = some none
  ex : ∃ (oc : Value) (od : Option Addr) (dV kV doc pm : Value) (an : Option Addr) (cda : Addr) (ct : Value) (osl : Array (Option Value)) (cc : Addr) (ccl : Value) (cdd : Option Addr) (vs : Array Value) (ccs : Array (Option Value)) (file : Str) (tf : Tok) (cl : Value) (cld : Option Addr) (csl : Array (Option Value)),
    fd = ksFn name qual params body scope dV kV doc pm an (.ref cda) ct cc ∧ K.lookup f = some ⟨oc, od, .func fd, osl⟩ ∧ codeIn K (.ref cda) qual = true ∧
    K.lookup cda = some ⟨ccl, cdd, .fields vs, ccs⟩ ∧ vs[2]? = some (.str file tf) ∧ ((prog.main.file : Str) == file) = true ∧ K.lookup cc = some ⟨cl, cld, .cell (some (.ref C)), csl⟩ ∧ dV = .none
section
variable {prog : Program} {w : World} {A : Around} {E : Value → Shared → Prop} {h : Heap} {g : Array GenState} {d : Drawn} {t : Nat} {os : OsState}
theorem clsIn_of {K : Frag} {C : Addr} (T : L2.OexC K C) : ∃ cd, clsIn K C = some cd := by
  obtain ⟨nm, q, N, bs, bm, sn, sub, ab, col, dd, k0, k1, k2, k3, k5, hC, hbm⟩ := T.cls
  exact ⟨_, by unfold clsIn; rw [hC] <;> rfl⟩
/-- super().__init__('..') in an exception's __init__ -/
theorem super_init {K : Frag} {C f e t0 L cda cc : Addr} {body : List Stmt} {qual lit : Str} {scope : Scope} {fd : FuncData} {mg mb m : Str → Option Value} {oc od osl ccl cdd vs ccs file tf cl cld csl} {ar : Arg} {p0 p1 p2 p3 p4 p5 : Pos} {kk : Nat} {Q : Flow → Shared → Prop}
    (T : L2.OexC K C) (su : ks_superIn K C C "__init__" = some (some (.builtin "ValueError.__init__"))) (ve : subIn K (.ref C) (.type "ValueError") = some true) (op : nsIn K cStatics "thirdparty.any" = some none)
    (X : K.In h) (hf : K.lookup f = some ⟨oc, od, .func fd, osl⟩) (hp : (fd.params.posonlyargs ++ fd.params.args).head? = some ar) (hcode : K.lookup cda = some ⟨ccl, cdd, .fields vs, ccs⟩) (hvs : vs[2]? = some (.str file tf)) (hfile : ((prog.main.file : Str) == file) = true)
    (hcell : K.lookup cc = some ⟨cl, cld, .cell (some (.ref C)), csl⟩) (G : h.Ns mainGlobals mg) (hsup : mg "super" = none) (GB : h.Ns builtinsNs mb) (hbs : mb "super" = some (.type "super")) (htop : (prog.main.scope.names.lookup ("super" : Str)).isSome = false)
    (hL : h.Ns L m) (hself : m ar.arg = some (.ref e)) (he : h.get? e = some (excO C t0))
    {pl : Sem Bool} (hev : eval (.Call (.Attribute (.Call (.Name "super" p0) [] [] p1) "__init__" p2) [.Constant (.str lit) kk p3] [] p4) (ksEnv qual scope L f (.ref cda) cc) = (do
      let ov ← attributeBase (.Call (.Name "super" p0) [] [] p1) "__init__" (ksEnv qual scope L f (.ref cda) cc) (eval (.Call (.Name "super" p0) [] [] p1) (ksEnv qual scope L f (.ref cda) cc))
      standAt p2.atName
      let (fx, first) ← holding [ov] (getMethod ov "__init__" pl)
      callWith p4 fx first (backTo p4 (starEach [.Constant (.str lit) kk p3] (ksEnv qual scope L f (.ref cda) cc))) []))
    (hint : interactive (ksEnv qual scope L f (.ref cda) cc) = false)
    (hsw : swapsWith (.Call (.Attribute (.Call (.Name "super" p0) [] [] p1) "__init__" p2) [.Constant (.str lit) kk p3] [] p4) none p5.line (ksEnv qual scope L f (.ref cda) cc) = pure false)
    (hks : scope.names.lookup ("super" : Str) = some .globalImplicit) (hkc : scope.names.lookup ("__class__" : Str) = some .free) (hka : scope.names.lookup ar.arg = some .local) (hk : scope.kind = .function)
    (hq : ∀ h' t1 tk, (∀ b o, b ≠ e → h.get? b = some o → h'.get? b = some o) → h'.get? e = some (excO C t1) → Q .next ⟨h', g, d, tk, os⟩) :
    wpAt (model prog w) A (.func body (ksEnv qual scope L f (.ref cda) cc)) (exec (.Expr (.Call (.Attribute (.Call (.Name "super" p0) [] [] p1) "__init__" p2) [.Constant (.str lit) kk p3] [] p4) p5) (ksEnv qual scope L f (.ref cda) cc)) Q E ⟨h, g, d, t, os⟩ := by
  obtain ⟨nm, q, N, bs, bm, sn, sub, ab, col, dd, k0, k1, k2, k3, k5, hC, hbm⟩ := T.cls
  have hCh := X _ _ hC
  have hcd : ∃ cd, clsIn K C = some cd := clsIn_of T
  obtain ⟨cd, hcd⟩ := hcd
  obtain ⟨oD, hD1, hD2⟩ : ∃ oD, h.get? C = some oD ∧ oD.data = .cls cd := by
    unfold clsIn at hcd
    split at hcd
    · rename_i c d' cd' sl ho
      cases hcd
      exact ⟨_, X _ _ ho, rfl⟩
    · cases hcd
  have I : InstAt h e (excO C t0) C none := ⟨he, rfl, rfl, trivial⟩
  have hsubC : Looks (model prog w) h (isSubtype (.ref C) (.ref C)) true := by
    refine looks_mroIn X ?_
    unfold mroIn clsIn
    rw [hC]
    show (if (Value.ref C :: bm).isEmpty = true then none else some ((Value.ref C :: bm).contains (.ref C))) = some true
    rw [if_neg (by simp)]
    simp
  refine ks_wpAt_Expr_any (ks_wpAt_MethodCall (pl := pl) ?_ hev) hint hsw
  refine ks_wpAt_super_base (env := ksEnv qual scope L f (.ref cda) cc) hks hkc (by decide) rfl (X _ _ hf) rfl hp rfl (X _ _ hcode) rfl hvs hfile htop ?_
  refine ks_loadName_global hk hks (loadGlobal_builtin (env := ksEnv qual scope L f (.ref cda) cc) G hsup GB hbs ⟨rfl, ?_⟩)
  refine wpAny_loadName_free hk hkc rfl ⟨_, X _ _ hcell, rfl⟩ ?_
  refine wpAny_loadName_local hk hka hL hself ?_
  refine ks_wpAny_isType_cls hD1 hD2 ⟨rfl, ?_⟩
  refine ks_wpAny_call_super hD1 hD2 he rfl (fun c z => by cases z) hsubC (fun h1 e1 k1 => ?_)
  have X1 : K.In h1 := fun a o z => k1 _ _ (X a o z)
  have he1 := k1 _ _ he
  have hC1 := X1 _ _ hC
  have I1 : InstAt h1 e (excO C t0) C none := ⟨he1, rfl, rfl, trivial⟩
  unfold ks_superIn at su
  rw [hcd] at su
  have hI : Looks (model prog w) h1 (isInstance (.ref e) (.type "ValueError")) true := I1.type.andThen (looks_subIn X1 ve)
  refine kxs_getMethod kxs_ValueError e1 (looks_opaque X1 op) (l₀ := cd.mro) (fun A Q E s k q => wpAny_bind ((looks_clsIn X1 hcd) A _ E s k (wpAny_pure q))) rfl X1 su hI (ks_ne X1 I1 hcd) (by decide) ?_
  have k2 : ∀ b o, h1.get? b = some o → (h1.push (kxs_mw "ValueError.__init__" e)).get? b = some o := fun b o z => Heap.get?_push_of_some _ z
  have hu : (h1.push (kxs_mw "ValueError.__init__" e)).get? h1.objs.size = some (kxs_mw "ValueError.__init__" e) := Heap.get?_push_at rfl rfl
  refine kxs_callWith1 (i := "ValueError.__init__") (x := e) (news := [(h1.objs.size, kxs_mw "ValueError.__init__" e)]) (L := h1.objs.size + 1) (h₀ := Att.noObjs h) ?n1 (by simp) ?n2 (by rfl) (by rfl)
  case n1 =>
    intro p hp
    cases List.mem_singleton.mp hp
    exact ⟨hu, Nat.ne_of_lt (Nat.lt_succ_self _), Att.noObjs_get _ _⟩
  show wpAny _ _ (spliced ((false, eval (.Constant (.str lit) kk p3) (ksEnv qual scope L f (.ref cda) cc)) :: backTo p4 (starEach [] (ksEnv qual scope L f (.ref cda) cc)))) _ _ _
  refine spliced_cons (Constant_str ?_)
  refine spliced_nil ⟨hu, ?_⟩
  have he2 := k2 _ _ he1
  have hC2 := k2 _ _ hC1
  refine wpAny_call (codeAny_of_tree ?_)
  show wpAny _ A.in1 (callAny (.ref h1.objs.size) ⟨[.str lit _], []⟩) _ _ _
  simp only [callAny]
  refine wpAny_bind (wpAny_load hu ?_)
  simp only [kxs_mw, show (Value.type "method-wrapper" == Value.type "method" || Value.type "method-wrapper" == Value.type "builtin_function_or_method" || Value.type "method-wrapper" == Value.type "method-wrapper") = true by decide, if_true]
  refine KFB.if_so (by decide) ?_
  refine wpAny_bind (check_bound_init F.excBase_ValueError.toExcCallFacts hC2 he2 rfl ?_)
  refine wpAny_bind (wpAny_pure (wpAny_pure ?_))
  refine ⟨plainId_quiet F.excBase_ValueError.init.plain _, codeAny_builtin F.excBase_ValueError.initEntry ?_⟩
  refine exc_init_tree (cls := .ref C) (t0 := t0) (dv := none) (c2 := .none) (c3 := .none) (b4 := .bool false) he2 (by show 1 ≤ sizeLine; decide) fun h3 k3 e3 _ => ?_
  exact hq h3 _ _ (fun b o nb z => k3 b o nb (k2 _ _ (k1 _ _ z))) e3
/-- the first store of a field: the exception gets its dict -/
theorem store_first {K : Frag} {C e t1 : Addr} {env : Env} {m : Str → Option Value} {fld x y : Str} {u : Value} {q0 q1 q2 q3 : Pos} {Q : Flow → Shared → Prop} (T : L2.OexC K C) (X : K.In h) (he : h.get? e = some (excO C t1))
    (hno : findIn K (.ref C) fld = some none) (hL : h.Ns env.locals m) (hself : m y = some (.ref e)) (hx : m x = some u) (hk : env.scope.kind = .function) (ky : env.kindOf y = some .local) (kx : env.kindOf x = some .local)
    (dy : (y == ("__debug__" : Str)) = false) (dx' : (x == ("__debug__" : Str)) = false)
    (hq : ∀ h' tk dx, (∀ b o, b ≠ e → h.get? b = some o → h'.get? b = some o) → h.objs.size ≤ dx → dx ≠ e → h'.get? e = some ({ cls := .ref C, dict := some dx, data := .fields #[.ref t1, .none, .none, .none, .bool false, .none] } : Obj) →
      h'.Ns1 dx (fun z => if z = fld then some u else none) → Q .next ⟨h', g, d, tk, os⟩)
    (hs : swapsWith (.Name x q2) (some (.Attribute (.Name y q0) fld q1)) q3.line env = pure false) :
    wpAny (model prog w) A (exec (.Assign [.Attribute (.Name y q0) fld q1] (.Name x q2) q3) env) Q E ⟨h, g, d, t, os⟩ := by
  obtain ⟨nm, q, N, bs, bm, sn, sub, ab, col, dd, k0, k1, k2, k3, k5, hC, hbm⟩ := T.cls
  have hcl : clsIn K C = some { name := nm, bases := bs, mro := .ref C :: bm, ns := N, qualname := q, hasDict := true, slotNames := sn, subclasses := sub, abstract := ab, collection := col, hasDel := false } := by unfold clsIn; rw [hC] <;> rfl
  refine plainObj_wpAny_Assign_Attribute ?_ hs
  refine wpAny_Name (wpAny_loadName_local hk kx hL hx ?_) dx'
  refine wpAny_Name (wpAny_loadName_local hk ky hL hself ?_) dy
  refine set_plain X (ox := { cls := .ref C, dict := none, data := .fields #[.ref t1, .none, .none, .none, .bool false, .none] }) (od := none) ⟨he, rfl, rfl, trivial⟩ T.sa ?_
  exact exc_osa X he hcl (show refsVE (.ref C :: bm) = true from hbm) rfl hno (fun h' tk' dx k dn dne hx' hn => hq h' _ dx k dn dne hx' hn)
/-- a further one -/
theorem store_more {K : Frag} {C e t1 dx : Addr} {env : Env} {m m0 : Str → Option Value} {nl : List Str} {fld x y : Str} {u : Value} {q0 q1 q2 q3 : Pos} {Q : Flow → Shared → Prop} (T : L2.OexC K C) (X : K.In h)
    (he : h.get? e = some ({ cls := .ref C, dict := some dx, data := .fields #[.ref t1, .none, .none, .none, .bool false, .none] } : Obj)) (hns : h.Ns1 dx m0) (hw : Within m0 nl) (hz : nl.length ≤ 1000)
    (hno : findIn K (.ref C) fld = some none) (hL : h.Ns env.locals m) (hself : m y = some (.ref e)) (hx : m x = some u) (hk : env.scope.kind = .function) (ky : env.kindOf y = some .local) (kx : env.kindOf x = some .local)
    (dy : (y == ("__debug__" : Str)) = false) (dx' : (x == ("__debug__" : Str)) = false)
    (hq : ∀ h' tk, (∀ b o, b ≠ dx → h.get? b = some o → h'.get? b = some o) → h'.Ns1 dx (fun z => if z = fld then some u else m0 z) → Q .next ⟨h', g, d, tk, os⟩)
    (hs : swapsWith (.Name x q2) (some (.Attribute (.Name y q0) fld q1)) q3.line env = pure false) :
    wpAny (model prog w) A (exec (.Assign [.Attribute (.Name y q0) fld q1] (.Name x q2) q3) env) Q E ⟨h, g, d, t, os⟩ := by
  obtain ⟨nm, q, N, bs, bm, sn, sub, ab, col, dd, k0, k1, k2, k3, k5, hC, hbm⟩ := T.cls
  have hcl : clsIn K C = some { name := nm, bases := bs, mro := .ref C :: bm, ns := N, qualname := q, hasDict := true, slotNames := sn, subclasses := sub, abstract := ab, collection := col, hasDel := false } := by unfold clsIn; rw [hC] <;> rfl
  obtain ⟨oD, _, _, hoD, _, _⟩ := hns.count hw
  refine plainObj_wpAny_Assign_Attribute ?_ hs
  refine wpAny_Name (wpAny_loadName_local hk kx hL hx ?_) dx'
  refine wpAny_Name (wpAny_loadName_local hk ky hL hself ?_) dy
  refine set_plain X (ox := { cls := .ref C, dict := some dx, data := .fields #[.ref t1, .none, .none, .none, .bool false, .none] }) (od := some oD) ⟨he, rfl, rfl, hoD⟩ T.sa ?_
  exact PySem.OEX.osa_old X he hns hw hz hcl (show refsVE (.ref C :: bm) = true from hbm) rfl hno (fun h' tk' k hn => hq h' _ k hn)
end
end MyX
end PySem

set_option maxHeartbeats 4000000
namespace PySem
namespace MyX
open PySem.W PySem.Calls PyProof.Rows PySem.HandSPX
abbrev supStmt (p0 p1 p2 p3 p4 p5 : Pos) (lit : Str) (kk : Nat) : Stmt := .Expr (.Call (.Attribute (.Call (.Name "super" p0) [] [] p1) "__init__" p2) [.Constant (.str lit) kk p3] [] p4) p5
abbrev stoStmt (q0 q1 q2 q3 : Pos) (fld x : Str) : Stmt := .Assign [.Attribute (.Name "self" q0) fld q1] (.Name x q2) q3
/-- what the text gives by rfl -/
structure SupB (qual : Str) (scope : Scope) (p0 p1 p2 p3 p4 p5 : Pos) (lit : Str) (kk : Nat) : Prop where
  hev : ∀ (L f : Addr) (cd : Value) (cc : Addr), ∃ pl : Sem Bool, eval (.Call (.Attribute (.Call (.Name "super" p0) [] [] p1) "__init__" p2) [.Constant (.str lit) kk p3] [] p4) (ksEnv qual scope L f cd cc) = (do
      let ov ← attributeBase (.Call (.Name "super" p0) [] [] p1) "__init__" (ksEnv qual scope L f cd cc) (eval (.Call (.Name "super" p0) [] [] p1) (ksEnv qual scope L f cd cc))
      standAt p2.atName
      let (fx, first) ← holding [ov] (getMethod ov "__init__" pl)
      callWith p4 fx first (backTo p4 (starEach [.Constant (.str lit) kk p3] (ksEnv qual scope L f cd cc))) [])
  hint : ∀ (L f : Addr) (cd : Value) (cc : Addr), interactive (ksEnv qual scope L f cd cc) = false
  hsw : ∀ (L f : Addr) (cd : Value) (cc : Addr), swapsWith (.Call (.Attribute (.Call (.Name "super" p0) [] [] p1) "__init__" p2) [.Constant (.str lit) kk p3] [] p4) none p5.line (ksEnv qual scope L f cd cc) = pure false
  hks : scope.names.lookup ("super" : Str) = some .globalImplicit
  hkc : scope.names.lookup ("__class__" : Str) = some .free
  hka : scope.names.lookup ("self" : Str) = some .local
  hk : scope.kind = .function
  hcell : ∀ x ∈ scope.names, x.2 ≠ .cell
  hco : scope.isCoroutine = false
  hgen : scope.isGenerator = false
structure StoB (qual : Str) (scope : Scope) (q0 q1 q2 q3 : Pos) (fld x : Str) : Prop where
  kx : scope.names.lookup x = some .local
  dx : (x == ("__debug__" : Str)) = false
  ne : x ≠ "self"
  hs : ∀ (L f : Addr) (cd : Value) (cc : Addr), swapsWith (.Name x q2) (some (.Attribute (.Name "self" q0) fld q1)) q3.line (ksEnv qual scope L f cd cc) = pure false
section
variable {prog : Program} {w : World} {A : Around} {R : Result → Shared → Prop} {s : Shared} {K : Frag} {C f e t0 : Addr} {name qual lit fld x fld2 x2 : Str} {params : Arguments} {scope : Scope} {fd : FuncData} {args : Args} {u u2 : Value} {mg : Str → Option Value} {base : Heap}
  {p0 p1 p2 p3 p4 p5 q0 q1 q2 q3 r0 r1 r2 r3 : Pos} {kk : Nat} {ar : Arg}
abbrev excD (C dx t1 : Addr) : Obj := { cls := .ref C, dict := some dx, data := .fields #[.ref t1, .none, .none, .none, .bool false, .none] }
/-- __init__(self, x): super().__init__('..'); self.fld = x -/
theorem init1 {binds : List (Str × Value)} (D : ExI prog K C f name qual params [supStmt p0 p1 p2 p3 p4 p5 lit kk, stoStmt q0 q1 q2 q3 fld x] scope fd) (B : SupB qual scope p0 p1 p2 p3 p4 p5 lit kk) (S1 : StoB qual scope q0 q1 q2 q3 fld x)
    (har : (params.posonlyargs ++ params.args).head? = some ar) (hself : ar.arg = "self") (htop : (prog.main.scope.names.lookup ("super" : Str)).isSome = false) (n1 : findIn K (.ref C) fld = some none)
    (M : L2.Mod K mg base) (hsup : mg "super" = none) (bk : ∀ b o, base.get? b = some o → s.heap.get? b = some o) (hbe : base.get? e = none) (hroom : A.depth < recursionLimit) (hb : BindsTo s fd args binds) (hloc : ∀ y ∈ binds, scope.names.lookup y.1 = some .local)
    (ms : binds.reverse.lookup ("self" : Str) = some (.ref e)) (mx : binds.reverse.lookup x = some u) (he : s.heap.get? e = some (excO C t0))
    (hq : ∀ h' tk dx t1, (∀ b o, b ≠ e → s.heap.get? b = some o → h'.get? b = some o) → s.heap.objs.size ≤ dx → dx ≠ e → h'.get? e = some (excD C dx t1) → h'.Ns1 dx (fun z => if z = fld then some u else none) → R (.ok (.ret .none)) { s with heap := h', toks := tk }) :
    codeAny (model prog w) A (.call (.ref f) args) R s := by
  obtain ⟨T, iC, tI, su, ve, op, oc, od, dV, kV, doc, pm, an, cda, ct, osl, cc, ccl, cdd, vs, ccs, file, tf, cl, cld, csl, rfl, lk, hcd, hcode, hvs, hfile, hcell, hdV⟩ := D
  have X : K.In s.heap := M.kin.keeps bk
  obtain ⟨mb, hb1, hb2⟩ := M.blt
  refine ks_codeAny_call_defAt (body := [supStmt p0 p1 p2 p3 p4 p5 lit kk, stoStmt q0 q1 q2 q3 fld x]) (binds := binds) hroom (X _ _ lk) rfl (M.nolimit.keeps bk) (codeRec_of X hcd) rfl hb B.hcell hloc (fun h0 hns k0 => ?_) B.hco B.hgen B.hk
  have X0 : K.In h0 := fun a o z => k0 _ _ (X a o z)
  obtain ⟨pl, hev⟩ := B.hev s.heap.objs.size f (.ref cda) cc
  obtain ⟨hh, g, d, tk0, os⟩ := s
  have neL : ∀ {b o}, hh.get? b = some o → b ≠ hh.objs.size := fun z => Nat.ne_of_lt (Heap.lt_size z)
  refine ks_wpAt_execs_cons ?_
  refine super_init (ar := ar) (L := hh.objs.size) T su ve op X0 lk har hcode hvs hfile hcell (M.glob.keeps fun b o z => k0 _ _ (bk b o z)) hsup (hb1.keeps fun b o z => k0 _ _ (bk b o z)) ((hb2 _ (by decide)).trans (by decide +kernel)) htop hns (by rw [hself]; exact ms) (k0 _ _ he)
    (pl := pl) hev (B.hint _ f (.ref cda) cc) (B.hsw _ f (.ref cda) cc) B.hks B.hkc (by rw [hself]; exact B.hka) B.hk (fun h1 t1 tk k1 e1 => ?_)
  refine wpAt_of_wpAny ?_
  have X1 : K.In h1 := fun a o z => k1 _ _ (fun q => by
    have y := M.kin _ _ z
    rw [q, hbe] at y
    cases y) (X0 _ _ z)
  have hns1 : h1.Ns hh.objs.size (fun y => binds.reverse.lookup y) := by
    obtain ⟨o, es, ep, ho, hr⟩ := hns
    exact ⟨o, es, ep, k1 _ _ (neL he).symm ho, hr⟩
  refine wpAny_execs_cons (store_first (y := "self") T X1 e1 n1 hns1 ms mx B.hk B.hka S1.kx (by decide) S1.dx (fun h2 tk2 dx k2 dn dne e2 n2 => ?_) (S1.hs _ f (.ref cda) cc))
  refine wpAny_execs_nil ?_
  refine hq h2 tk2 dx t1 (fun b o nb z => k2 b o nb (k1 b o nb (k0 b o z))) ?_ dne e2 n2
  exact Nat.le_trans (Nat.le_of_lt hns1.lt) dn
/-- two fields -/
theorem init2 {binds : List (Str × Value)} (D : ExI prog K C f name qual params [supStmt p0 p1 p2 p3 p4 p5 lit kk, stoStmt q0 q1 q2 q3 fld x, stoStmt r0 r1 r2 r3 fld2 x2] scope fd) (B : SupB qual scope p0 p1 p2 p3 p4 p5 lit kk) (S1 : StoB qual scope q0 q1 q2 q3 fld x) (S2 : StoB qual scope r0 r1 r2 r3 fld2 x2)
    (har : (params.posonlyargs ++ params.args).head? = some ar) (hself : ar.arg = "self") (htop : (prog.main.scope.names.lookup ("super" : Str)).isSome = false) (n1 : findIn K (.ref C) fld = some none) (n2 : findIn K (.ref C) fld2 = some none)
    (M : L2.Mod K mg base) (hsup : mg "super" = none) (bk : ∀ b o, base.get? b = some o → s.heap.get? b = some o) (hbe : base.get? e = none) (hroom : A.depth < recursionLimit) (hb : BindsTo s fd args binds) (hloc : ∀ y ∈ binds, scope.names.lookup y.1 = some .local)
    (ms : binds.reverse.lookup ("self" : Str) = some (.ref e)) (mx : binds.reverse.lookup x = some u) (mx2 : binds.reverse.lookup x2 = some u2) (he : s.heap.get? e = some (excO C t0))
    (hq : ∀ h' tk dx t1, (∀ b o, b ≠ e → s.heap.get? b = some o → h'.get? b = some o) → s.heap.objs.size ≤ dx → dx ≠ e → h'.get? e = some (excD C dx t1) → h'.Ns1 dx (fun z => if z = fld2 then some u2 else if z = fld then some u else none) → R (.ok (.ret .none)) { s with heap := h', toks := tk }) :
    codeAny (model prog w) A (.call (.ref f) args) R s := by
  obtain ⟨T, iC, tI, su, ve, op, oc, od, dV, kV, doc, pm, an, cda, ct, osl, cc, ccl, cdd, vs, ccs, file, tf, cl, cld, csl, rfl, lk, hcd, hcode, hvs, hfile, hcell, hdV⟩ := D
  have X : K.In s.heap := M.kin.keeps bk
  obtain ⟨mb, hb1, hb2⟩ := M.blt
  refine ks_codeAny_call_defAt (body := [supStmt p0 p1 p2 p3 p4 p5 lit kk, stoStmt q0 q1 q2 q3 fld x, stoStmt r0 r1 r2 r3 fld2 x2]) (binds := binds) hroom (X _ _ lk) rfl (M.nolimit.keeps bk) (codeRec_of X hcd) rfl hb B.hcell hloc (fun h0 hns k0 => ?_) B.hco B.hgen B.hk
  have X0 : K.In h0 := fun a o z => k0 _ _ (X a o z)
  obtain ⟨pl, hev⟩ := B.hev s.heap.objs.size f (.ref cda) cc
  obtain ⟨hh, g, d, tk0, os⟩ := s
  have neL : ∀ {b o}, hh.get? b = some o → b ≠ hh.objs.size := fun z => Nat.ne_of_lt (Heap.lt_size z)
  refine ks_wpAt_execs_cons ?_
  refine super_init (ar := ar) (L := hh.objs.size) T su ve op X0 lk har hcode hvs hfile hcell (M.glob.keeps fun b o z => k0 _ _ (bk b o z)) hsup (hb1.keeps fun b o z => k0 _ _ (bk b o z)) ((hb2 _ (by decide)).trans (by decide +kernel)) htop hns (by rw [hself]; exact ms) (k0 _ _ he)
    (pl := pl) hev (B.hint _ f (.ref cda) cc) (B.hsw _ f (.ref cda) cc) B.hks B.hkc (by rw [hself]; exact B.hka) B.hk (fun h1 t1 tk k1 e1 => ?_)
  refine wpAt_of_wpAny ?_
  have neK : ∀ {a o}, K.lookup a = some o → a ≠ e := fun z q => by
    have y := M.kin _ _ z
    rw [q, hbe] at y
    cases y
  have X1 : K.In h1 := fun a o z => k1 _ _ (neK z) (X0 _ _ z)
  have hns1 : h1.Ns hh.objs.size (fun y => binds.reverse.lookup y) := by
    obtain ⟨o, es, ep, ho, hr⟩ := hns
    exact ⟨o, es, ep, k1 _ _ (neL he).symm ho, hr⟩
  refine wpAny_execs_cons (store_first (y := "self") T X1 e1 n1 hns1 ms mx B.hk B.hka S1.kx (by decide) S1.dx (fun h2 tk2 dx k2 dn dne e2 m2 => ?_) (S1.hs _ f (.ref cda) cc))
  have X2 : K.In h2 := fun a o z => k2 _ _ (neK z) (X1 _ _ z)
  have hns2 : h2.Ns hh.objs.size (fun y => binds.reverse.lookup y) := by
    obtain ⟨o, es, ep, ho, hr⟩ := hns1
    exact ⟨o, es, ep, k2 _ _ (neL he).symm ho, hr⟩
  have dn0 : hh.objs.size < dx := Nat.lt_of_lt_of_le hns1.lt dn
  refine wpAny_execs_cons (store_more (y := "self") (nl := [fld]) T X2 e2 m2 (fun z hz => ?_) (by show 1 ≤ 1000; decide) n2 hns2 ms mx2 B.hk B.hka S2.kx (by decide) S2.dx (fun h3 tk3 k3 m3 => ?_) (S2.hs _ f (.ref cda) cc))
  · by_cases q : z = fld
    · rw [q]
      exact List.mem_singleton_self _
    · exact absurd (if_neg q) hz
  refine wpAny_execs_nil ?_
  exact hq h3 tk3 dx t1 (fun b o nb z => k3 b o (Nat.ne_of_lt (Nat.lt_trans (Heap.lt_size z) dn0)) (k2 b o nb (k1 b o nb (k0 b o z)))) (Nat.le_of_lt dn0) dne (k3 e _ dne.symm e2) m3
end
end MyX
end PySem

set_option maxHeartbeats 4000000
namespace My
open PySem PySem.Spec PyProof.Rows L2 PySem.MyX
section
variable {X : Cx} {pins : List (Addr × Obj)} {σ : L2.St} {H : Hp} {s : Shared} {C f e t0 : Addr} {us : List Value} {kw : List (Str × Value)} {Q : VK} {fs : List (Str × V)} {mA : Str → Option Value}
/-- what the walked __init__ gives -/
def InitP (X : Cx) (C f : Addr) (us : List Value) (kw : List (Str × Value)) (mA : Str → Option Value) : Prop :=
  ∀ (s : Shared) (e t0 : Addr) (R : Result → Shared → Prop) (A : Around), A.depth < recursionLimit → (∀ b o, X.base.get? b = some o → s.heap.get? b = some o) → X.base.get? e = none → s.heap.get? e = some (PySem.HandSPX.excO C t0) →
    (∀ h' tk dx t1, (∀ b o, b ≠ e → s.heap.get? b = some o → h'.get? b = some o) → s.heap.objs.size ≤ dx → dx ≠ e → h'.get? e = some (excD C dx t1) → h'.Ns1 dx mA → R (.ok (.ret .none)) { s with heap := h', toks := tk }) →
    codeAny (model X.prog X.w) A (.call (.ref f) ⟨.ref e :: us, kw⟩) R s
theorem made_core (T : OexC X.K C) (iC : PySem.W.findIn X.K (.ref C) "__init__" = some (some (.ref f))) (tI : PySem.W.typeIn X.K (.ref f) = some (.type "function")) (hr : Room 1 X.A) (I : Inv X pins σ H s) (hus : us.length ≤ sizeLine)
    (init : InitP X C f us kw mA) (rel : ∀ z, RelO (fs.lookup z) (mA z))
    (h : ∀ e dx, H e = none → H dx = none → dx ≠ e → Q (.ref e) (upd (upd H dx (exd dx fs)) e (exo e C (some dx)))) :
    wpAny (model X.prog X.w) X.A (call (.ref C) us kw) (EP X pins σ Q) X.xe s := by
  obtain ⟨nm, q, N, bs, bm, sn, sub, ab, col, dd, k0, k1, k2, k3, k5, hC, hbm⟩ := T.cls
  have hK := I.kIn
  have hbk := I.bk
  obtain ⟨hp, g, dr, tk, os⟩ := s
  have kk : ∀ b o, hp.get? b = some o → ((hp.push (PySem.W.kdv_tup us)).push (PySem.HandSPX.excO C hp.objs.size)).get? b = some o := fun b o e => Heap.get?_push_of_some _ (Heap.get?_push_of_some _ e)
  have hget : ((hp.push (PySem.W.kdv_tup us)).push (PySem.HandSPX.excO C hp.objs.size)).get? (hp.objs.size + 1) = some (PySem.HandSPX.excO C hp.objs.size) := by heap_get
  have hbe : X.base.get? (hp.objs.size + 1) = none := by
    cases q : X.base.get? (hp.objs.size + 1) with
    | none => rfl
    | some o => exact absurd (Heap.lt_size (hbk _ _ q)) (by show ¬ hp.objs.size + 1 < hp.objs.size; omega)
  refine wpAny_call (PySem.MyX.call_kw F.excBase_ValueError (fun Y => PySem.HandSPX.refsVE_contains Y bm hbm) (hK _ _ hC) (PySem.W.looks_findIn hK iC) (fun self => PySem.W.bind_fn hK self tI) hus
    (init _ (hp.objs.size + 1) hp.objs.size _ _ (hr.make C us kw).depth (fun b o z => kk _ _ (hbk _ _ z)) hbe hget (fun h' tk' dx t1 k dn dne he hn => ⟨rfl, ?_⟩)))
  have k' : ∀ b o, hp.get? b = some o → h'.get? b = some o := fun b o z => k b o (Nat.ne_of_lt (Nat.lt_succ_of_lt (Heap.lt_size z))) (kk b o z)
  have sz : ((hp.push (PySem.W.kdv_tup us)).push (PySem.HandSPX.excO C hp.objs.size)).objs.size = hp.objs.size + 2 := by rw [Heap.size_push, Heap.size_push]
  have dn2 : hp.objs.size + 2 ≤ dx := by rw [← sz]; exact dn
  have he0 : H (hp.objs.size + 1) = none := I.hok.fresh (Nat.le_succ _)
  have hd0 : H dx = none := I.hok.fresh (Nat.le_trans (by show hp.objs.size ≤ hp.objs.size + 2; omega) dn2)
  have ne : ∀ {b : Addr} {o : Obj}, hp.get? b = some o → b ≠ hp.objs.size + 1 := fun z => Nat.ne_of_lt (Nat.lt_succ_of_lt (Heap.lt_size z))
  have nd : ∀ {b : Addr} {o : Obj}, hp.get? b = some o → b ≠ dx := fun z => Nat.ne_of_lt (Nat.lt_of_lt_of_le (Heap.lt_size z) (Nat.le_trans (by show hp.objs.size ≤ hp.objs.size + 2; omega) dn2))
  have Un1 : Un X.fs [] H (upd (upd H dx (exd dx fs)) (hp.objs.size + 1) (exo (hp.objs.size + 1) C (some dx))) hp h' := {
    keep := fun b o q n _ _ => k' b o q
    slot := fun b o q n _ _ => ⟨o.slots, k' b o q⟩
    free := fun b o q n _ => by rw [upd_ne (ne q), upd_ne (nd q)]; exact n
    there := fun b o q _ => ⟨o, k' b o q⟩
    tups := fun b xs q => by rw [upd_ne (ne_of_none q he0), upd_ne (ne_of_none q hd0)]; exact q
    frzs := fun b o v q => by rw [upd_ne (ne_of_none q he0), upd_ne (ne_of_none q hd0)]; exact q
    tbls := fun b ps q => ⟨#[], by rw [upd_ne (ne_of_none q he0), upd_ne (ne_of_none q hd0), q]; simp⟩ }
  refine ⟨.ref (hp.objs.size + 1), _, I.un (t' := tk') Un1 fun b o q => ?_, rfl, h _ dx he0 hd0 dne⟩
  by_cases hb : b = hp.objs.size + 1
  · subst hb
    rw [upd_same] at q
    cases q
    exact exo_ok he
  · rw [upd_ne hb] at q
    by_cases hd : b = dx
    · subst hd
      rw [upd_same] at q
      cases q
      exact exd_ok hn rel
    · rw [upd_ne hd] at q
      exact (I.hok b o q).stay (fun c v hc z => k' c v z) (fun c hc => by rw [upd_ne (ne_of_none hc he0), upd_ne (ne_of_none hc hd0)]; exact hc) (fun c xs hc => by rw [upd_ne (ne_of_none hc he0), upd_ne (ne_of_none hc hd0)]; exact hc)
end
/-- making an exception of the class at C by n values and keywords ks: its fields are fs -/
def XMade (X : Cx) (C : Addr) (n : Nat) (ks : List Str) (fs : List V → List V → List (Str × V)) : Prop :=
  ∀ (pins : List (Addr × Obj)) (σ : L2.St) (H : Hp) (s : Shared) (Q : VK) (us ws : List Value) (vs zs : List V), Inv X pins σ H s → Vals vs us → Vals zs ws → vs.length = n → zs.length = ks.length →
    (∀ e dx, H e = none → H dx = none → dx ≠ e → Q (.ref e) (upd (upd H dx (exd dx (fs vs zs))) e (exo e C (some dx)))) →
    wpAny (model X.prog X.w) X.A (call (.ref C) us (ks.zip ws)) (EP X pins σ Q) X.xe s
def tMkX (C : Addr) (n m : Nat) (fs : List V → List V → List (Str × V)) (t tk : TA) : TE := fun σ H Q => t σ H fun vs H1 => tk σ H1 fun zs H2 => vs.length = n ∧ zs.length = m ∧
  ∀ e dx, H2 e = none → H2 dx = none → dx ≠ e → Q (.ref e) (upd (upd H2 dx (exd dx (fs vs zs))) e (exo e C (some dx)))
section
variable {X : Cx} {n : Nat} {C : Addr} {ks : List Str} {x : Str} {p pos : Pos} {e : Expr} {es : List Expr} {kws : List Keyword} {t tk : TA} {fs : List V → List V → List (Str × V)}
/-- C(e, ..) -/
theorem pe_mkX (M : XMade X C n [] fs) (hk : PySem.W.keepIn X.K (.ref C) = true) (hg : Gl X x) (hm : X.mg x = some (.ref C)) (ha : PA X (e :: es) t) (hdb : (x == ("__debug__" : Str)) = false := by decide)
    (he : starEach (e :: es) X.env = (false, eval e X.env) :: starEach es X.env := by rfl) (hpl : (backTo pos (starEach es X.env)).any (·.1) = false := by rfl) :
    PE X (.Call (.Name x p) (e :: es) [] pos) (tMkX C n 0 fs t tNil) := by
  refine ⟨fun pins s σ H Q I h => ?_⟩
  refine wpAny_Call_Name_kw (ld_glob I hg hm ?_ hdb)
  refine PySem.W.callWith_K (h₀ := X.base) I.ok.mod.kin hk (thn (ha.run pos pins s σ H _ I h) fun us s1 ⟨vs, H1, I1, r, l1, _, q⟩ => ⟨I1.kIn, ?_⟩) he hpl
  exact M pins σ H1 s1 Q us [] vs [] I1 r .nil l1 rfl q
/-- C(k = e, ..) -/
theorem pe_mkXk (M : XMade X C 0 ks fs) (hk : PySem.W.keepIn X.K (.ref C) = true) (hg : Gl X x) (hm : X.mg x = some (.ref C)) (hkw : PK X kws tk)
    (hall : (backToKw pos (keywordEach kws X.env)).all (·.1.isSome) = true := by rfl) (hks : (backToKw pos (keywordEach kws X.env)).filterMap (·.1) = ks := by rfl) (hdb : (x == ("__debug__" : Str)) = false := by decide)
    (hpl : ((backTo pos (starEach [] X.env)).any (·.1) || (backToKw pos (keywordEach kws X.env)).any (·.1.isNone)) = false := by rfl) :
    PE X (.Call (.Name x p) [] kws pos) (tMkX C 0 ks.length fs tNil tk) := by
  refine ⟨fun pins s σ H Q I h => ?_⟩
  refine wpAny_Call_Name_kw (ld_glob I hg hm ?_ hdb)
  refine PySem.W.callWith_KW0 (h₀ := X.base) I.ok.mod.kin hk hall ?_ hpl
  refine thn (hkw.run pos pins s σ H _ I h) fun ws s2 ⟨zs, H2, I2, rz, l1, l2, q2⟩ => ⟨I2.kIn, ?_⟩
  rw [hks]
  exact M pins σ H2 s2 Q [] ws [] zs I2 .nil rz rfl l2 q2
end
/-- the fields by what was told -/
def fs1 (f : Str) (vs _zs : List V) : List (Str × V) := match vs with
  | [y] => [(f, y)]
  | _ => []
def fs1k (f : Str) (_vs zs : List V) : List (Str × V) := match zs with
  | [y] => [(f, y)]
  | _ => []
def fs2 (f f2 : Str) (vs _zs : List V) : List (Str × V) := match vs with
  | [y, y2] => [(f2, y2), (f, y)]
  | _ => []
def fs2k (f f2 : Str) (_vs zs : List V) : List (Str × V) := match zs with
  | [y2, y] => [(f2, y2), (f, y)]
  | _ => []
/-- .. in every body over such a program -/
def MadeK (Pr : Program) (K : PySem.W.Frag) (mg : Str → Option Value) (C : Addr) (n : Nat) (ks : List Str) (fs : List V → List V → List (Str × V)) : Prop := ∀ X : Cx, X.prog = Pr → X.K = K → X.mg = mg → Room 1 X.A → XMade X C n ks fs
/-! ### from the walked inits -/
section
variable {X : Cx} {C f : Addr} {name qual lit fld x fld2 x2 : Str} {params : Arguments} {scope : Scope} {fd : FuncData} {p0 p1 p2 p3 p4 p5 q0 q1 q2 q3 r0 r1 r2 r3 : Pos} {kk : Nat} {ar : Arg}
theorem relO1 {f1 : Str} {y : V} {u : Value} (r : RelV y u) (z : Str) : RelO (([(f1, y)] : List (Str × V)).lookup z) (if z = f1 then some u else none) := relO_put (fs := []) (mA := fun _ => none) r (fun _ => True.intro) z
theorem relO2 {f1 f2 : Str} {y y2 : V} {u u2 : Value} (r : RelV y u) (r2 : RelV y2 u2) (z : Str) : RelO (([(f2, y2), (f1, y)] : List (Str × V)).lookup z) (if z = f2 then some u2 else if z = f1 then some u else none) :=
  relO_put (fs := [(f1, y)]) (mA := fun z => if z = f1 then some u else none) r2 (relO1 r) z
/-- what a class of one parameter tells -/
structure One (Pr : Program) (K : PySem.W.Frag) (mg : Str → Option Value) (C f : Addr) (name qual lit fld x : Str) (params : Arguments) (scope : Scope) (fd : FuncData) (p0 p1 p2 p3 p4 p5 q0 q1 q2 q3 : Pos) (kk : Nat) (ar : Arg) : Prop where
  D : ExI Pr K C f name qual params [supStmt p0 p1 p2 p3 p4 p5 lit kk, stoStmt q0 q1 q2 q3 fld x] scope fd
  B : SupB qual scope p0 p1 p2 p3 p4 p5 lit kk
  S1 : StoB qual scope q0 q1 q2 q3 fld x
  har : (params.posonlyargs ++ params.args).head? = some ar
  hself : ar.arg = "self"
  htop : (Pr.main.scope.names.lookup ("super" : Str)).isSome = false
  n1 : PySem.W.findIn K (.ref C) fld = some none
  sup : mg "super" = none
theorem One.made (O : One X.prog X.K X.mg C f name qual lit fld x params scope fd p0 p1 p2 p3 p4 p5 q0 q1 q2 q3 kk ar) (hr : Room 1 X.A)
    (hb : ∀ (kV doc pm : Value) (an : Option Addr) (cdv ct : Value) (cc e : Addr) (u : Value), bindArgs (PySem.W.ksFn name qual params [supStmt p0 p1 p2 p3 p4 p5 lit kk, stoStmt q0 q1 q2 q3 fld x] scope .none kV doc pm an cdv ct cc) ⟨[.ref e, u], []⟩ = pure [(("self" : Str), Value.ref e), (x, u)]) :
    XMade X C 1 [] (fs1 fld) := by
  intro pins σ H s Q us ws vs zs I r rz l1 l2 h
  cases r with
  | nil => cases l1
  | @cons y u _ ur ry r2 =>
    cases r2 with
    | cons _ _ => cases l1
    | nil =>
      refine made_core (fs := [(fld, y)]) (mA := fun z => if z = fld then some u else none) O.D.oc O.D.iC O.D.tI hr I (by show 1 ≤ sizeLine; decide) (fun s e t0 R A hroom bk hbe he hq => ?_) (relO1 ry) h
      obtain ⟨oc, od, dV, kV, doc, pm, an, cda, ct, osl, cc, ccl, cdd, vs, ccs, file, tf, cl, cld, csl, e1, lk, hcd, hcode, hvs, hfile, hcell, hdV⟩ := id O.D.ex
      refine init1 (binds := [(("self" : Str), Value.ref e), (x, u)]) (u := u) O.D O.B O.S1 O.har O.hself O.htop O.n1 I.mod O.sup bk hbe hroom ?_ ?_ ?_ ?_ he hq
      · rw [e1, hdV]
        exact .of_eq (hb kV doc pm an _ ct cc e u)
      · intro y hy
        rcases List.mem_cons.mp hy with rfl | hy
        · exact O.B.hka
        · rw [List.mem_singleton.mp hy]
          exact O.S1.kx
      · show (match ("self" : Str) == x with | true => some u | false => ([(("self" : Str), Value.ref e)] : List (Str × Value)).lookup ("self" : Str)) = some (.ref e)
        rw [beq_eq_false_iff_ne.mpr O.S1.ne.symm]
        rfl
      · show (match x == x with | true => some u | false => ([(("self" : Str), Value.ref e)] : List (Str × Value)).lookup x) = some u
        rw [beq_self_eq_true]
theorem One.madeK (O : One X.prog X.K X.mg C f name qual lit fld x params scope fd p0 p1 p2 p3 p4 p5 q0 q1 q2 q3 kk ar) (hr : Room 1 X.A)
    (hb : ∀ (kV doc pm : Value) (an : Option Addr) (cdv ct : Value) (cc e : Addr) (u : Value), bindArgs (PySem.W.ksFn name qual params [supStmt p0 p1 p2 p3 p4 p5 lit kk, stoStmt q0 q1 q2 q3 fld x] scope .none kV doc pm an cdv ct cc) ⟨[.ref e], [(x, u)]⟩ = pure [(("self" : Str), Value.ref e), (x, u)]) :
    XMade X C 0 [x] (fs1k fld) := by
  intro pins σ H s Q us ws vs zs I r rz l1 l2 h
  cases r with
  | cons _ _ => cases l1
  | nil =>
    cases rz with
    | nil => cases l2
    | @cons y u _ ur ry r2 =>
      cases r2 with
      | cons _ _ => cases l2
      | nil =>
        refine made_core (fs := [(fld, y)]) (mA := fun z => if z = fld then some u else none) O.D.oc O.D.iC O.D.tI hr I (by show 0 ≤ sizeLine; decide) (fun s e t0 R A hroom bk hbe he hq => ?_) (relO1 ry) h
        obtain ⟨oc, od, dV, kV, doc, pm, an, cda, ct, osl, cc, ccl, cdd, vs, ccs, file, tf, cl, cld, csl, e1, lk, hcd, hcode, hvs, hfile, hcell, hdV⟩ := id O.D.ex
        refine init1 (binds := [(("self" : Str), Value.ref e), (x, u)]) (u := u) O.D O.B O.S1 O.har O.hself O.htop O.n1 I.mod O.sup bk hbe hroom ?_ ?_ ?_ ?_ he hq
        · rw [e1, hdV]
          exact .of_eq (hb kV doc pm an _ ct cc e u)
        · intro y hy
          rcases List.mem_cons.mp hy with rfl | hy
          · exact O.B.hka
          · rw [List.mem_singleton.mp hy]
            exact O.S1.kx
        · show (match ("self" : Str) == x with | true => some u | false => ([(("self" : Str), Value.ref e)] : List (Str × Value)).lookup ("self" : Str)) = some (.ref e)
          rw [beq_eq_false_iff_ne.mpr O.S1.ne.symm]
          rfl
        · show (match x == x with | true => some u | false => ([(("self" : Str), Value.ref e)] : List (Str × Value)).lookup x) = some u
          rw [beq_self_eq_true]
/-- .. of two -/
structure Two (Pr : Program) (K : PySem.W.Frag) (mg : Str → Option Value) (C f : Addr) (name qual lit fld x fld2 x2 : Str) (params : Arguments) (scope : Scope) (fd : FuncData) (p0 p1 p2 p3 p4 p5 q0 q1 q2 q3 r0 r1 r2 r3 : Pos) (kk : Nat) (ar : Arg) : Prop where
  D : ExI Pr K C f name qual params [supStmt p0 p1 p2 p3 p4 p5 lit kk, stoStmt q0 q1 q2 q3 fld x, stoStmt r0 r1 r2 r3 fld2 x2] scope fd
  B : SupB qual scope p0 p1 p2 p3 p4 p5 lit kk
  S1 : StoB qual scope q0 q1 q2 q3 fld x
  S2 : StoB qual scope r0 r1 r2 r3 fld2 x2
  har : (params.posonlyargs ++ params.args).head? = some ar
  hself : ar.arg = "self"
  htop : (Pr.main.scope.names.lookup ("super" : Str)).isSome = false
  n1 : PySem.W.findIn K (.ref C) fld = some none
  n2 : PySem.W.findIn K (.ref C) fld2 = some none
  sup : mg "super" = none
  ne : x ≠ x2
theorem Two.core {pins : List (Addr × Obj)} {σ : L2.St} {H : Hp} {s : Shared} {Q : VK} {us : List Value} {kw : List (Str × Value)} {u u2 : Value} {y y2 : V} (O : Two X.prog X.K X.mg C f name qual lit fld x fld2 x2 params scope fd p0 p1 p2 p3 p4 p5 q0 q1 q2 q3 r0 r1 r2 r3 kk ar) (hr : Room 1 X.A)
    (hb : ∀ (kV doc pm : Value) (an : Option Addr) (cdv ct : Value) (cc e : Addr), bindArgs (PySem.W.ksFn name qual params [supStmt p0 p1 p2 p3 p4 p5 lit kk, stoStmt q0 q1 q2 q3 fld x, stoStmt r0 r1 r2 r3 fld2 x2] scope .none kV doc pm an cdv ct cc) ⟨.ref e :: us, kw⟩ = pure [(("self" : Str), Value.ref e), (x, u), (x2, u2)])
    (I : Inv X pins σ H s) (hus : us.length ≤ sizeLine) (ry : RelV y u) (ry2 : RelV y2 u2) (h : ∀ e dx, H e = none → H dx = none → dx ≠ e → Q (.ref e) (upd (upd H dx (exd dx [(fld2, y2), (fld, y)])) e (exo e C (some dx)))) :
    wpAny (model X.prog X.w) X.A (call (.ref C) us kw) (EP X pins σ Q) X.xe s := by
  refine made_core (fs := [(fld2, y2), (fld, y)]) (mA := fun z => if z = fld2 then some u2 else if z = fld then some u else none) O.D.oc O.D.iC O.D.tI hr I hus (fun s e t0 R A hroom bk hbe he hq => ?_) (relO2 ry ry2) h
  obtain ⟨oc, od, dV, kV, doc, pm, an, cda, ct, osl, cc, ccl, cdd, vs, ccs, file, tf, cl, cld, csl, e1, lk, hcd, hcode, hvs, hfile, hcell, hdV⟩ := id O.D.ex
  refine init2 (binds := [(("self" : Str), Value.ref e), (x, u), (x2, u2)]) (u := u) (u2 := u2) O.D O.B O.S1 O.S2 O.har O.hself O.htop O.n1 O.n2 I.mod O.sup bk hbe hroom ?_ ?_ ?_ ?_ ?_ he hq
  · rw [e1, hdV]
    exact .of_eq (hb kV doc pm an _ ct cc e)
  · intro y hy
    rcases List.mem_cons.mp hy with rfl | hy
    · exact O.B.hka
    · rcases List.mem_cons.mp hy with rfl | hy
      · exact O.S1.kx
      · rw [List.mem_singleton.mp hy]
        exact O.S2.kx
  · show (match ("self" : Str) == x2 with | true => some u2 | false => (match ("self" : Str) == x with | true => some u | false => ([(("self" : Str), Value.ref e)] : List (Str × Value)).lookup ("self" : Str))) = some (.ref e)
    rw [beq_eq_false_iff_ne.mpr O.S2.ne.symm, beq_eq_false_iff_ne.mpr O.S1.ne.symm]
    rfl
  · show (match x == x2 with | true => some u2 | false => (match x == x with | true => some u | false => ([(("self" : Str), Value.ref e)] : List (Str × Value)).lookup x)) = some u
    rw [beq_eq_false_iff_ne.mpr O.ne, beq_self_eq_true]
  · show (match x2 == x2 with | true => some u2 | false => (match x2 == x with | true => some u | false => ([(("self" : Str), Value.ref e)] : List (Str × Value)).lookup x2)) = some u2
    rw [beq_self_eq_true]
/-- C(a, b) -/
theorem Two.made (O : Two X.prog X.K X.mg C f name qual lit fld x fld2 x2 params scope fd p0 p1 p2 p3 p4 p5 q0 q1 q2 q3 r0 r1 r2 r3 kk ar) (hr : Room 1 X.A)
    (hb : ∀ (kV doc pm : Value) (an : Option Addr) (cdv ct : Value) (cc e : Addr) (u u2 : Value), bindArgs (PySem.W.ksFn name qual params [supStmt p0 p1 p2 p3 p4 p5 lit kk, stoStmt q0 q1 q2 q3 fld x, stoStmt r0 r1 r2 r3 fld2 x2] scope .none kV doc pm an cdv ct cc) ⟨[.ref e, u, u2], []⟩ = pure [(("self" : Str), Value.ref e), (x, u), (x2, u2)]) :
    XMade X C 2 [] (fs2 fld fld2) := by
  intro pins σ H s Q us ws vs zs I r rz l1 l2 h
  match vs, us, r, l1, h with
  | [y, y2], [u, u2], .cons ry (.cons ry2 .nil), _, h => exact O.core hr (fun kV doc pm an cdv ct cc e => hb kV doc pm an cdv ct cc e u u2) I (by show 2 ≤ sizeLine; decide) ry ry2 h
/-- C(b = .., a = ..): the second parameter told first -/
theorem Two.madeK (O : Two X.prog X.K X.mg C f name qual lit fld x fld2 x2 params scope fd p0 p1 p2 p3 p4 p5 q0 q1 q2 q3 r0 r1 r2 r3 kk ar) (hr : Room 1 X.A)
    (hb : ∀ (kV doc pm : Value) (an : Option Addr) (cdv ct : Value) (cc e : Addr) (u u2 : Value), bindArgs (PySem.W.ksFn name qual params [supStmt p0 p1 p2 p3 p4 p5 lit kk, stoStmt q0 q1 q2 q3 fld x, stoStmt r0 r1 r2 r3 fld2 x2] scope .none kV doc pm an cdv ct cc) ⟨[.ref e], [(x2, u2), (x, u)]⟩ = pure [(("self" : Str), Value.ref e), (x, u), (x2, u2)]) :
    XMade X C 0 [x2, x] (fs2k fld fld2) := by
  intro pins σ H s Q us ws vs zs I r rz l1 l2 h
  match vs, us, r, zs, ws, rz, l1, l2, h with
  | [], [], .nil, [y2, y], [u2, u], .cons ry2 (.cons ry .nil), _, _, h => exact O.core hr (fun kV doc pm an cdv ct cc e => hb kV doc pm an cdv ct cc e u u2) I (by show 0 ≤ sizeLine; decide) ry ry2 h
end
end My

set_option maxHeartbeats 4000000
namespace PySem
namespace MyX
open PySem.W PySem.Calls PyProof.Rows Builtin Builtin.ObjectAttr Builtin.Getset_descriptor
theorem dga_ref (d tp : Value) (C : Addr) : descrGetArgs ⟨[d, .ref C, tp], []⟩ = pure (d, some (.ref C), given tp) := by kernel_rfl
section
variable {prog : Program} {w : World} {A : Around} {E : Value → Shared → Prop} {s : Shared} {K : Frag} {R : Result → Shared → Prop} {C : Addr} {h₀ : Heap} {L : Addr} {m : Str → Option Value} {oc : Obj} {nm : Str} {tk : Tok}
theorem name_get {tp : Value} (hC : s.heap.get? C = some oc) (hcl : oc.cls = .type "type") (hs : oc.slots[2]? = some (some (.str nm tk))) (h : R (.ok (.ret (.str nm tk))) s) :
    codeAny (model prog w) A (.call (.builtin "getset_descriptor.__get__") ⟨[.builtin "type.__name__", .ref C, tp], []⟩) R s := by
  obtain ⟨hh, g, dr, t, os⟩ := s
  have L0 : Looks (model prog w) hh (typeOf (.ref C)) (.type "type") := fun A Q E s k q => wpAny_typeOf (T := "type") ⟨_, k _ _ hC, hcl⟩ q
  have L1 : Looks (model prog w) hh (isSubtype (.type "type") (.type "type")) true := Looks.of_pure (by rw [isSubtype_type]; kernel_rfl)
  refine codeAny_call_builtin KF.slot_gs.plain KF.entry_gs (KF.slot_gs.check _ _ _ _ _ _ _ _ ktyn_type (KF.args_gs _ _ _) ?_)
  unfold Builtin.«getset_descriptor.__get__» descrGet
  rw [dga_ref]
  refine wpAny_bind (wpAny_pure ?_)
  unfold descrGetter descrCheckInstance descrNameAndClass isInstance
  simp only [ktyn_owner]
  repeat lk
  refine ⟨Code.quiet_builtin _ (by decide +kernel), codeAny_builtin ktyn_entry ?_⟩
  unfold Builtin.«type.__name__»
  dsimp only
  unfold keptObject slotAt
  refine wpAny_bind (wpAny_bind (wpAny_loadPart_at hC ?_))
  rw [hs]
  exact wpAny_pure (wpAny_pure h)
/-- C.__name__, C an own class -/
theorem name_attr {expr : Bool} {Q : Value → Shared → Prop} (X : K.In s.heap) (op : nsIn K cStatics "thirdparty.any" = some none) (lC : K.lookup C = some oc) (hcl : oc.cls = .type "type") (hs : oc.slots[2]? = some (some (.str nm tk)))
    (e : findCls K (.ref C) (.type "type") "__name__" = some (.get (.builtin "getset_descriptor.__get__") (.builtin "type.__name__") (.ref C) (.type "type"))) (h : ∀ u, Q (.str nm tk) { s with toks := u }) : wpAny (model prog w) A (getAttr (.ref C) "__name__" expr) Q E s := by
  have hC := X _ _ lC
  have L0 : Looks (model prog w) s.heap (typeOf (.ref C)) (.type "type") := fun A Q E s k q => wpAny_typeOf (T := "type") ⟨_, k _ _ hC, hcl⟩ q
  have hg : findIn K (.type "type") "__getattribute__" = some (some (.builtin "type.__getattribute__")) := type_tga
  refine cls_open X (looks_opaque X op) L0 hg (looks_hook X (r := none) (by rfl)) (by show subIn K _ _ = _; rfl) e ?_
  show wpAny _ _ (do ret (← holding [Value.builtin "type.__name__"] (call (.builtin "getset_descriptor.__get__") [.builtin "type.__name__", .ref C, .type "type"]))) _ _ _
  refine wpAny_bind (wpAny_holding (wpAny_call (name_get (s := { s with toks := s.toks + 1 }) hC hcl hs ?_)))
  exact wpAny_pure (handed_on rfl (h _))
/-- bool(x) by truth -/
theorem call_bool_truth {x : Value} {Q : Value → Shared → Prop} (h : wpAny (model prog w) A.in1.in1 (truthy x) (fun b s' => Q (.bool b) s') E s) : wpAny (model prog w) A (call (.type "bool") [x]) Q E s := by
  refine callType_newIn (S := fun A' R s' => wpAny (model prog w) A'.in1 (truthy x) (fun b s2 => R (.ok (.ret (.bool b))) s2) (fun e s2 => R (.error e) s2) s') F.called_bool F.newNe_bool (F.typeCall_bool_1 x) (F.newCall_bool_1 x) (fun obj => F.args_object_init_2 obj x) F.entry_bool_new ?_ ?_
  · intro A' R s' hs'
    have f1 := F.conv_sub_bool
    obtain ⟨hp, g, d, tk, os⟩ := s'
    have hx : wpAny (model prog w) A'.in1 (truthy x) (fun b s2 => wpAny (model prog w) A'.in1 (ret (.bool b)) (fun fin s' => match fin with | .done f => R (.ok f) s' | .again c' => c'.quiet = true ∧ codeAny (model prog w) A' c' R s') (fun e s' => R (.error e) s') s2) (fun e s2 => R (.error e) s2) ⟨hp, g, d, tk, os⟩ :=
      wpAny_mono hs' (fun b s2 q => wpAny_pure q) fun _ _ z => z
    unfold Builtin.«bool.__new__»
    repeat (first | exact wpAny_bind hx | wp_step)
  · refine wpAny_mono h (fun b s2 q => ⟨?_, q⟩) fun _ _ z => z
    exact typeIs_bool _ _
/-! ### x != y by the own __eq__ through object.__ne__ -/
variable {x f : Addr} {ox : Obj} {od : Option Obj} {b tb : Value}
theorem ifBound_B {M : Model} {id : String} {name : Str} {T : String} {args : List Value} {Q : Option Value → Shared → Prop} (X : K.In s.heap) (I : InstAt s.heap x ox C od) (hs : findIn K (.ref C) name = some (some (.builtin id))) (S : Slot T name id)
    (h : wpAny M A (call (.builtin id) (.ref x :: args)) (fun v => Q (some v)) E s) : wpAny M A (callSpecialIfBound? (.ref x) name args) Q E s := by
  simp only [callSpecialIfBound?, bindSpecialIfBound?]
  refine wpAny_holding (wpAny_bind (wpAny_bind (wpAny_bind (I.type.here ((looks_findIn X hs).here ?_)))))
  simp only [S.bind]
  refine wpAny_bind (wpAny_askSetting (wpAny_ite ?_))
  have fin : wpAny M A (call (.builtin id) ([.ref x] ++ args) >>= fun v => pure (some v)) Q E s := wpAny_bind (wpAny_mono h (fun v s' h' => wpAny_pure h') fun _ _ h' => h')
  split
  · exact wpAny_bind (wpAny_pure (wpAny_pure fin))
  · exact wpAny_tryCatch (wpAny_bind (wpAny_pure (wpAny_pure fin)))
/-- object.__ne__(x, y): the own __eq__'s answer turned -/
theorem call_ne {Q : Value → Shared → Prop} (X : K.In s.heap) (I : InstAt s.heap x ox C od) (hs : findIn K (.ref C) "__eq__" = some (some (.ref f))) (hf : isFn K (.ref f) = true) (hob : mroIn K C (.type "object") = some true) (hu : A.units + 1 < cLine)
    (h : wpAny (model prog w) A.in1 (call (.ref f) [.ref x, b]) (fun v s' => ∃ r, v = .bool r ∧ Q (.bool (!r)) s') E s) : wpAny (model prog w) A (call (.builtin "object.__ne__") [.ref x, b]) Q E s := by
  have FB := F.cmp_object
  refine wpAny_call (codeAny_call_builtin FB.ne.plain F.cmpEntry_ne (@check_slot (model prog w) _ _ s "object.__ne__" "object" "__ne__" (.ref x) [b] [] _ F.cmpKind_ne F.cmpSplit_ne (I.type.andThen (looks_mroIn X hob)) (F.cmpArgs_ne _ _) ?_))
  have hcall : wpAny (model prog w) A.in1 (callSpecialIfBound? (.ref x) "__eq__" [b]) (fun o s' => ∃ r, o = some (.bool r) ∧ Q (.bool (!r)) s') E s :=
    ifBound_K X I hs hf (wpAny_mono h (fun v s' z => by
      obtain ⟨r, e, q⟩ := z
      exact ⟨r, by rw [e], q⟩) fun _ _ z => z)
  unfold Builtin.«object.__ne__»
  refine wpAny_bind (wpAny_of_eq (a := ((Value.ref x : Value), [b])) (by first | rfl | (simp only [slotArgs]; rfl) | kernel_rfl) ?_)
  refine wpAny_bind (wpAny_cRoomFor (by show A.units + 1 < cLine; exact hu) ?_)
  refine wpAny_bind (wpAny_mono hcall (fun o s' z => ?_) fun _ _ z => z)
  obtain ⟨r, rfl, q⟩ := z
  refine wpAny_bind (wpAny_truthy_bool ?_)
  exact wpAny_pure q
theorem cmp_ne {Q : Value → Shared → Prop} (hu : A.units + 2 < cLine) (X : K.In s.heap) (I : InstAt s.heap x ox C od) (hb : Looks (model prog w) s.heap (typeOf b) tb) (hn : notFirst K C tb = true)
    (hne : findIn K (.ref C) "__ne__" = some (some (.builtin "object.__ne__"))) (hs : findIn K (.ref C) "__eq__" = some (some (.ref f))) (hf : isFn K (.ref f) = true) (hob : mroIn K C (.type "object") = some true)
    (h : wpAny (model prog w) A.in1 (call (.ref f) [.ref x, b]) (fun v s' => ∃ r, v = .bool r ∧ Q (.bool (!r)) s') E s) : wpAny (model prog w) A (richCompare .NotEq (.ref x) b) Q E s := by
  have one : wpAny (model prog w) A (tryCompare (.ref x) (cmpInfo .NotEq).2.1 b) (fun r s' => ∃ v, r = some v ∧ Q v s') E s := by
    unfold tryCompare
    refine wpAny_bind (ifBound_B (args := [b]) X I hne F.cmp_object.ne (wpAny_mono (call_ne (Q := fun v s' => ∃ r, v = .bool r ∧ Q v s') X I hs hf hob (by omega) (wpAny_mono h (fun v s' z => ?_) fun _ _ z => z)) (fun v s' hv => ?_) fun _ _ e => e))
    · obtain ⟨r, e, q⟩ := z
      exact ⟨r, e, _, rfl, q⟩
    · obtain ⟨r, rfl, q⟩ := hv
      exact wpAny_pure ⟨_, rfl, q⟩
  unfold richCompare
  simp only [oneThing_ref]
  refine wpAny_holding (wpAny_bind (wpAny_cRoomFor (by omega) ?_))
  refine wpAny_bind (I.type.here (wpAny_bind (hb.here ?_)))
  split
  · rename_i q
    have e : subIn K tb (.ref C) = some false := by
      rcases Bool.or_eq_true_iff.mp hn with e | e
      · rw [beq_iff_eq.mp e] at q; simp at q
      · exact beq_iff_eq.mp e
    refine wpAny_bind ((looks_subIn X e).here ?_)
    simp only [Bool.false_eq_true, if_false]
    refine wpAny_bind (wpAny_mono one (fun r s' z => ?_) fun _ _ e => e)
    obtain ⟨v, rfl, hq⟩ := z
    exact wpAny_pure hq
  · refine wpAny_bind (wpAny_pure ?_)
    simp only [Bool.false_eq_true, if_false]
    refine wpAny_bind (wpAny_mono one (fun r s' z => ?_) fun _ _ e => e)
    obtain ⟨v, rfl, hq⟩ := z
    exact wpAny_pure hq
/-- x == y, y's class below x's: y's own __eq__ first -/
theorem cmp_first {Q : Value → Shared → Prop} {y D : Addr} {oy : Obj} {oe : Option Obj} (hu : A.units < cLine) (X : K.In s.heap) (I : InstAt s.heap x ox C od) (J : InstAt s.heap y oy D oe) (hDC : (Value.ref D != Value.ref C) = true) (hsub : subIn K (.ref D) (.ref C) = some true)
    (hs : findIn K (.ref D) "__eq__" = some (some (.ref f))) (hf : isFn K (.ref f) = true)
    (h : wpAny (model prog w) A (call (.ref f) [.ref y, .ref x]) (PySem.W.CmpBack Q) E s) : wpAny (model prog w) A (richCompare .Eq (.ref x) (.ref y)) Q E s := by
  have one : wpAny (model prog w) A (tryCompare (.ref y) (cmpInfo .Eq).2.2 (.ref x)) (fun r s' => ∃ v, r = some v ∧ Q v s') E s := by
    unfold tryCompare
    refine wpAny_bind (ifBound_K X J hs hf (wpAny_mono h (fun v s' hv => ?_) fun _ _ e => e))
    cases v <;> first | exact hv.elim | exact wpAny_pure ⟨_, rfl, hv⟩
  unfold richCompare
  simp only [oneThing_ref]
  refine wpAny_holding (wpAny_bind (wpAny_cRoomFor hu ?_))
  refine wpAny_bind (I.type.here (wpAny_bind (J.type.here ?_)))
  split
  · refine wpAny_bind ((looks_subIn X hsub).here ?_)
    simp only [if_true]
    refine wpAny_bind (wpAny_mono one (fun r s' z => ?_) fun _ _ e => e)
    obtain ⟨v, rfl, hq⟩ := z
    first
      | exact wpAny_bind (wpAny_rule (wpAny_pure hq))
      | exact wpAny_bind (wpAny_rule (wpAny_bind (wpAny_pure hq)))
      | exact wpAny_rule (wpAny_pure hq)
  · rename_i q
    exact absurd (by simpa [bne_comm] using hDC) q
end
end MyX
end PySem

set_option maxHeartbeats 4000000
namespace My
open PySem PySem.Spec PyProof.Rows L2
/-- what the written part says of an own class for x.__class__, C.__name__ -/
structure ClsN (K : PySem.W.Frag) (C : Addr) (nm : Str) : Prop where
  cl : Cls K C
  ca : PySem.W.findIn K (.ref C) "__class__" = some (some (.builtin "object.__class__"))
  sp : PySem.W.specialIn K (.builtin "object.__class__") "__get__" = some (some (.builtin "getset_descriptor.__get__"))
  tk : PySem.W.takesIn K (.builtin "object.__class__") = some true
  mo : PySem.W.mroIn K C (.type "object") = some true
  op : PySem.W.nsIn K cStatics "thirdparty.any" = some none
  nm : ∃ (oc : Obj) (t : Tok), K.lookup C = some oc ∧ oc.cls = .type "type" ∧ oc.slots[2]? = some (some (.str nm t))
  fc : PySem.W.findCls K (.ref C) (.type "type") "__name__" = some (.get (.builtin "getset_descriptor.__get__") (.builtin "type.__name__") (.ref C) (.type "type"))
section
variable {X : Cx} {e : Expr} {te : TE} {pos : Pos} {n : Str}
/-- e.__class__, e an instance -/
def tCls (K : PySem.W.Frag) (te : TE) : TE := fun σ H Q => te σ H fun x H1 => ∃ (a C dx : Addr) (fs : List (Str × V)) (nm : Str), x = .ref a ∧ H1 a = some (.ins C dx fs) ∧ ClsN K C nm ∧ Q (.ref C) H1
theorem pe_cls (he : PE X e te) (hb : attributeBase e "__class__" X.env (eval e X.env) = eval e X.env := by rfl) : PE X (.Attribute e "__class__" pos) (tCls X.K te) := by
  refine ⟨fun pins s σ H Q I h => ?_⟩
  refine attr_of hb (thn (he.run pins s σ H _ I h) fun u s1 hh => ?_)
  obtain ⟨x, H1, I1, rx, a, C, dx, fs, nm, ex, ha, N, q⟩ := hh
  subst ex
  obtain rfl : u = Value.ref a := rx
  obtain ⟨mA, O, _⟩ := ins_get I1.hok ha
  obtain ⟨od, J, _⟩ := O.look
  obtain ⟨m, fr⟩ := I1.fr
  exact PySem.W.get_class fr I1.ok.mod.kin J (N.cl.get _) N.cl.hd N.ca N.sp N.tk N.mo ⟨.ref C, H1, I1.tok _, rfl, q⟩
/-- e.__name__, e an own class -/
def tNm (K : PySem.W.Frag) (te : TE) : TE := fun σ H Q => te σ H fun x H1 => ∃ (C : Addr) (nm : Str), x = .ref C ∧ ClsN K C nm ∧ Q (.str nm) H1
theorem pe_nm (he : PE X e te) (hb : attributeBase e "__name__" X.env (eval e X.env) = eval e X.env := by rfl) : PE X (.Attribute e "__name__" pos) (tNm X.K te) := by
  refine ⟨fun pins s σ H Q I h => ?_⟩
  refine attr_of hb (thn (he.run pins s σ H _ I h) fun u s1 hh => ?_)
  obtain ⟨x, H1, I1, rx, C, nm, ex, N, q⟩ := hh
  subst ex
  obtain rfl : u = Value.ref C := rx
  obtain ⟨oc, t, lC, hc, hs⟩ := N.nm
  exact PySem.MyX.name_attr I1.kIn N.op lC hc hs N.fc fun u => ⟨.str nm, H1, I1.tok _, ⟨_, rfl⟩, q⟩
/-- an exception at a: its class C, its dict at dx, its fields -/
structure XAt (H : Hp) (a C dx : Addr) (fs : List (Str × V)) : Prop where
  e : H a = some (exo a C (some dx))
  d : H dx = some (exd dx fs)
theorem XAt.same {H H' : Hp} {a C dx : Addr} {fs : List (Str × V)} (h : XAt H a C dx fs) (s : Same H H') : XAt H' a C dx fs := ⟨s _ _ h.e, s _ _ h.d⟩
theorem xat_inst {pins : List (Addr × Obj)} {σ : L2.St} {H : Hp} {s : Shared} {a C dx : Addr} {fs : List (Str × V)} (I : Inv X pins σ H s) (h : XAt H a C dx fs) :
    ∃ (oe od : Obj) (mA : Str → Option Value), PySem.W.InstAt s.heap a oe C (some od) ∧ s.heap.Ns1 dx mA ∧ (∀ f, RelO (fs.lookup f) (mA f)) ∧ ∀ f, PySem.W.lookIn f od = some (mA f) := by
  obtain ⟨t1, he⟩ := exo_at I.hok h.e
  obtain ⟨mA, hns, rel⟩ := exd_at I.hok h.d
  obtain ⟨od, ho, hl⟩ := lookIn_ns hns
  exact ⟨_, od, mA, ⟨he, rfl, rfl, ho⟩, hns, rel, hl⟩
/-- e.f, e an exception held as a value -/
def tXv (K : PySem.W.Frag) (n : Str) (te : TE) : TE := fun σ H Q => te σ H fun x H1 => ∃ (a C dx : Addr) (fs : List (Str × V)) (v : V), x = .ref a ∧ XAt H1 a C dx fs ∧ XfC K C ∧ PySem.W.findIn K (.ref C) n = some none ∧ fs.lookup n = some v ∧ Q v H1
theorem pe_xv (he : PE X e te) (hb : attributeBase e n X.env (eval e X.env) = eval e X.env := by rfl) : PE X (.Attribute e n pos) (tXv X.K n te) := by
  refine ⟨fun pins s σ H Q I h => ?_⟩
  refine attr_of hb (thn (he.run pins s σ H _ I h) fun u s1 hh => ?_)
  obtain ⟨x, H1, I1, rx, a, C, dx, fs, v, ex, xa, T, hno, l, q⟩ := hh
  subst ex
  obtain rfl : u = Value.ref a := rx
  obtain ⟨oe, od, mA, J, hns, hr, hl⟩ := xat_inst I1 xa
  obtain ⟨u, hu, ru⟩ := RelO.some_of (v := v) (o := mA n) (by rw [← l]; exact hr n)
  exact HandSPX.exc_get I1.kIn J T.ga T.gg T.exC (PySem.W.findObj_own T.hdC hno rfl (by rw [hl, hu])) (handed_of ru) ⟨v, H1, I1.tok _, ru, q⟩
end
/-- isinstance(e, c), e an exception held as a value -/
def rIsX (K : PySem.W.Frag) : List V → Hp → VK → Prop := fun xs H Q => ∃ (a C dx : Addr) (fs : List (Str × V)) (c : V) (u : Value) (b : Bool), xs = [.ref a, c] ∧ XAt H a C dx fs ∧ ExcC K C ∧ ClsV c u ∧ PySem.W.kitOne K (.ref C) u = some b ∧ Q (.bl b) H
def rIsXT (K : PySem.W.Frag) : List V → Hp → VK → Prop := fun xs H Q => ∃ (a C dx : Addr) (fs : List (Str × V)) (tp : Addr) (cs : List V) (us : List Value) (b : Bool), xs = [.ref a, .ref tp] ∧ XAt H a C dx fs ∧ ExcC K C ∧ H tp = some (.tup cs) ∧ Paired ClsV cs us ∧ PySem.W.kitAny K (.ref C) us = some b ∧ Q (.bl b) H
section
variable {X : Cx}
theorem cls_some {K : PySem.W.Frag} {C : Addr} (h : PySem.W.hasDictIn K C = true) : (PySem.W.clsIn K C).isSome = true := by
  obtain ⟨cd, hc, _⟩ := PySem.W.any_some h
  rw [hc]
  rfl
theorem call_isX : CallR X (.builtin "isinstance") (rIsX X.K) := by
  intro pins s σ H xs us Q I r h
  obtain ⟨a, C, dx, fs, c, u, b, rfl, xa, E, k, e, q⟩ := h
  obtain ⟨u1, u2, rfl, r1, r2⟩ := vals2 r
  have e2 := k.eq r2
  subst e2
  obtain rfl : u1 = Value.ref a := r1
  obtain ⟨oe, od, mA, J, _⟩ := xat_inst I xa
  exact PySem.W.kia_one (PySem.W.kitx_exc (cls_some E.hd) E.hg E.hk E.hs E.ha E.hn E.ht E.hm) I.kIn J e (fun z => nomatch z) fun tk => ⟨.bl b, H, I.tok tk, rfl, q⟩
theorem call_isXT : CallR X (.builtin "isinstance") (rIsXT X.K) := by
  intro pins s σ H xs us Q I r h
  obtain ⟨a, C, dx, fs, tp, cs, ws, b, rfl, xa, E, hT, k, e, q⟩ := h
  obtain ⟨u1, u2, rfl, r1, r2⟩ := vals2 r
  cases (show u2 = Value.ref tp from r2)
  obtain rfl : u1 = Value.ref a := r1
  obtain ⟨oe, od, mA, J, _⟩ := xat_inst I xa
  obtain ⟨_, its, rv, o, h1, h2, n, h3⟩ := (show ObjOk X.prog X.w H s.heap tp (.tup cs) from I.hok tp _ hT)
  have e3 := ClsV.all k rv
  subst e3
  obtain ⟨oc, od, dt, sl⟩ := o
  simp only at h2 h3
  subst h2 h3
  exact PySem.W.kia_tup (PySem.W.kitx_exc (cls_some E.hd) E.hg E.hk E.hs E.ha E.hn E.ht E.hm) I.kIn J h1 e (fun z => nomatch z) fun tk => ⟨.bl b, H, I.tok tk, rfl, q⟩
end
/-! ### == and != by an own __eq__, bool by an own __bool__ -/
section
variable {X : Cx} {k : Nat} {f : Addr} {fd : FuncData} {ps : List Str} {sp : Sp}
/-- a method's promise run with the values told, one or two steps deeper -/
theorem run_at {A : Around} {pins : List (Addr × Obj)} {σ : L2.St} {H : Hp} {s : Shared} {us : List Value} {vs : List V} {Q : VK} {E : Value → Shared → Prop} (F : FnOk X.prog X.w X.K X.mg X.base CX0 k f fd ps sp) (hA : Room k A) (hfr : A.frames = X.A.frames) (hb : Binds X.K fd ps [])
    (I : Inv X pins σ H s) (r : Vals vs us) (h : sp vs H Q E0) : wpAny (model X.prog X.w) A (call (.ref f) us) (EP X pins σ Q) E s := by
  have e0 : Env0 X.prog X.w X.K X.mg X.base A X.stack s H := by
    have e := I.env0
    exact ⟨by rw [hfr]; exact e.frames, e.mod, e.bs, e.bsz, e.funs, e.frf, e.hok, e.bare⟩
  have hl := F.len _ _ _ _ h
  have hl2 : us.length + ([] : List Value).length = ps.length := by rw [← r.length, hl]; rfl
  refine wpAny_call (codeAny_mono (F.run A X.stack s H ⟨us, []⟩ us vs _ E0 hA e0 (by
    have z := hb s us I.kIn (by simpa using hl2)
    simpa using z) r h) fun r s' hq => ?_)
  cases r with
  | error e => exact hq.elim
  | ok fl =>
    cases fl with
    | ret w => exact I.after hq
    | next => exact False.elim hq
    | brk => exact False.elim hq
    | cont => exact False.elim hq
/-- what a class with an own __eq__ at f tells -/
structure EqC (K : PySem.W.Frag) (C f : Addr) : Prop where
  eq : PySem.W.findIn K (.ref C) "__eq__" = some (some (.ref f))
  ne : PySem.W.findIn K (.ref C) "__ne__" = some (some (.builtin "object.__ne__"))
  fn : PySem.W.isFn K (.ref f) = true
  mo : PySem.W.mroIn K C (.type "object") = some true
def rEqP (K : PySem.W.Frag) (f : Addr) (sp : Sp) : R2 := fun x y H Q => ∃ (a C dx : Addr) (fs : List (Str × V)) (t : Value), x = .ref a ∧ H a = some (.ins C dx fs) ∧ EqC K C f ∧ TyX K H y t ∧ PySem.W.notFirst K C t = true ∧ sp [x, y] H (fun v H' => ∃ r, v = .bl r ∧ Q (.bl r) H') E0
def rNeP (K : PySem.W.Frag) (f : Addr) (sp : Sp) : R2 := fun x y H Q => ∃ (a C dx : Addr) (fs : List (Str × V)) (t : Value), x = .ref a ∧ H a = some (.ins C dx fs) ∧ EqC K C f ∧ TyX K H y t ∧ PySem.W.notFirst K C t = true ∧ sp [x, y] H (fun v H' => ∃ r, v = .bl r ∧ Q (.bl (!r)) H') E0
/-- y's class is below x's -/
def rEqF (K : PySem.W.Frag) (f : Addr) (sp : Sp) : R2 := fun x y H Q => ∃ (a C dx b D dy : Addr) (fs gs : List (Str × V)), x = .ref a ∧ y = .ref b ∧ H a = some (.ins C dx fs) ∧ H b = some (.ins D dy gs) ∧ EqC K D f ∧ (Value.ref D != Value.ref C) = true ∧ PySem.W.subIn K (.ref D) (.ref C) = some true ∧
  sp [y, x] H (fun v H' => ∃ r, v = .bl r ∧ Q (.bl r) H') E0
theorem op_eqP (F : FnOk X.prog X.w X.K X.mg X.base CX0 k f fd ps sp) (hr : Room (k + 1) X.A) (hb : Binds X.K fd ps []) : OpR X (compareOp .Eq) (rEqP X.K f sp) := by
  intro pins s σ H x y v u Q I rx ry h
  obtain ⟨a, C, dx, fs, t, rfl, ha, T, ty, nf, hsp⟩ := h
  have rx' := rx
  cases rx
  obtain ⟨mA, J, _⟩ := ins_get I.hok ha
  obtain ⟨od, J, _⟩ := J.look
  obtain ⟨P, Z, p, _⟩ := kit_of I ry ty
  obtain ⟨m, hF⟩ := I.fr
  show wpAny (model X.prog X.w) X.A (richCompare .Eq (.ref a) u) (EP X pins σ Q) X.xe s
  refine PySem.W.cmp_K (op := .Eq) (tb := t) hr.units0 hF I.ok.mod.kin J (Z.ty _ _ I.kIn p) nf T.eq T.fn ?_
  refine wpAny_mono (run_at F (hr.mono (Nat.le_succ k)) rfl hb I (.cons rx' (.cons ry .nil)) hsp) (fun w s' z => ?_) fun _ _ z => z
  obtain ⟨v, H', I', rv, r, rfl, q⟩ := z
  cases (show w = Value.bool r from rv)
  exact ⟨.bl r, H', I', rfl, q⟩
theorem op_neP (F : FnOk X.prog X.w X.K X.mg X.base CX0 k f fd ps sp) (hr : Room (k + 1) X.A) (hb : Binds X.K fd ps []) : OpR X (compareOp .NotEq) (rNeP X.K f sp) := by
  intro pins s σ H x y v u Q I rx ry h
  obtain ⟨a, C, dx, fs, t, rfl, ha, T, ty, nf, hsp⟩ := h
  have rx' := rx
  cases rx
  obtain ⟨mA, J, _⟩ := ins_get I.hok ha
  obtain ⟨od, J, _⟩ := J.look
  obtain ⟨P, Z, p, _⟩ := kit_of I ry ty
  show wpAny (model X.prog X.w) X.A (richCompare .NotEq (.ref a) u) (EP X pins σ Q) X.xe s
  refine PySem.MyX.cmp_ne (tb := t) (by have := hr.units; omega) I.kIn J (Z.ty _ _ I.kIn p) nf T.ne T.eq T.fn T.mo ?_
  refine wpAny_mono (run_at F hr.in1 rfl hb I (.cons rx' (.cons ry .nil)) hsp) (fun w s' z => ?_) fun _ _ z => z
  obtain ⟨v, H', I', rv, r, rfl, q⟩ := z
  cases (show w = Value.bool r from rv)
  exact ⟨r, rfl, .bl (!r), H', I', rfl, q⟩
theorem op_eqF (F : FnOk X.prog X.w X.K X.mg X.base CX0 k f fd ps sp) (hr : Room (k + 1) X.A) (hb : Binds X.K fd ps []) : OpR X (compareOp .Eq) (rEqF X.K f sp) := by
  intro pins s σ H x y v u Q I rx ry h
  obtain ⟨a, C, dx, b, D, dy, fs, gs, rfl, rfl, ha, hb', T, hne, hsub, hsp⟩ := h
  have rx' := rx
  have ry' := ry
  cases rx
  cases ry
  obtain ⟨mA, J, _⟩ := ins_get I.hok ha
  obtain ⟨od, J, _⟩ := J.look
  obtain ⟨mB, J2, _⟩ := ins_get I.hok hb'
  obtain ⟨od2, J2, _⟩ := J2.look
  show wpAny (model X.prog X.w) X.A (richCompare .Eq (.ref a) (.ref b)) (EP X pins σ Q) X.xe s
  refine PySem.MyX.cmp_first hr.units0 I.kIn J J2 hne hsub T.eq T.fn ?_
  refine wpAny_mono (run_at F (hr.mono (Nat.le_succ k)) rfl hb I (.cons ry' (.cons rx' .nil)) hsp) (fun w s' z => ?_) fun _ _ z => z
  obtain ⟨v, H', I', rv, r, rfl, q⟩ := z
  cases (show w = Value.bool r from rv)
  exact ⟨.bl r, H', I', rfl, q⟩
/-- a method of no further argument that hands back b -/
def spCst (b : Bool) : Sp := fun vs H Q _ => vs.length = 1 ∧ Q (.bl b) H
/-- bool(x), x an instance with an own __bool__ at g -/
def rBoolP (X : Cx) (k : Nat) : List V → Hp → VK → Prop := fun xs H Q => ∃ (a C dx g : Addr) (fs : List (Str × V)) (fd : FuncData) (ps : List Str) (b : Bool), xs = [.ref a] ∧ H a = some (.ins C dx fs) ∧ PySem.W.findIn X.K (.ref C) "__bool__" = some (some (.ref g)) ∧ PySem.W.isFn X.K (.ref g) = true ∧
  FnOk X.prog X.w X.K X.mg X.base CX0 k g fd ps (spCst b) ∧ Binds X.K fd ps [] ∧ Q (.bl b) H
theorem call_boolP (hr : Room (k + 2) X.A) : CallR X (.type "bool") (rBoolP X k) := by
  intro pins s σ H xs us Q I r h
  obtain ⟨a, C, dx, g, fs, fd, ps, b, rfl, ha, hg, hfn, F, hb, q⟩ := h
  obtain ⟨u, rfl, r1⟩ := vals1 r
  have r1' := r1
  cases r1
  obtain ⟨mA, J, _⟩ := ins_get I.hok ha
  obtain ⟨od, J, _⟩ := J.look
  obtain ⟨m, hFr⟩ := I.fr
  refine PySem.MyX.call_bool_truth (PySem.W.truthy_K hFr I.ok.mod.kin J hg hfn ?_)
  refine wpAny_mono (run_at (Q := fun v H' => v = .bl b ∧ Q v H') F hr.in1.in1 rfl hb I (.cons r1' .nil) ⟨rfl, rfl, q⟩) (fun w s' z => ?_) fun _ _ z => z
  obtain ⟨v, H', I', rv, rfl, q⟩ := z
  cases (show w = Value.bool b from rv)
  exact ⟨.bl b, H', I', rfl, q⟩
end
end My

set_option maxHeartbeats 4000000
namespace My
open PySem PySem.Spec PyProof.Rows L2
local macro_rules | `(tactic| walk_at "rd1") => `(tactic| first
  | refine ⟨_, rfl, ?_⟩
  | refine ⟨_, _, rfl, rfl, ?_⟩
  | refine Or.inl ⟨_, rfl, ?_⟩
  | refine Or.inr ⟨_, rfl, ?_⟩
  | refine ⟨_, _, _, _, rfl, rfl, Or.inl (Or.inl (by assumption)), rfl, ?_⟩
  | refine ⟨_, _, rfl, Or.inl (Or.inl (Or.inl (by assumption))), ?_⟩)
local macro_rules | `(tactic| walk_at "rd") => `(tactic| repeat walk_at "rd1")
abbrev sPInit : Stmt := inClass (top 19) 0
abbrev sPBool : Stmt := inClass (top 19) 1
abbrev sPEq : Stmt := inClass (top 19) 2
abbrev FnM (K : PySem.W.Frag) (x q : Str) (st : Stmt) (f : Addr) (fd : FuncData) : Prop := FunD K x q (defArgs st) (defBody st) (defScope st) [] [] f fd
/-- lists and tuples as they were -/
def SD (H H' : Hp) : Prop := ∀ b xs, (H b = some (.lst xs) → H' b = some (.lst xs)) ∧ (H b = some (.tup xs) → H' b = some (.tup xs))
theorem Same.sd {H H' : Hp} (e : Same H H') : SD H H' := fun b xs => ⟨e b _, e b _⟩
theorem sm_sd {a C dx : Addr} {fs : List (Str × V)} {H H' : Hp} (ha : H a = some (.ins C dx fs)) (e : Sm a H H') : SD H H' := fun b xs =>
  ⟨fun h => e b _ (fun z => by rw [z, ha] at h; cases h) h, fun h => e b _ (fun z => by rw [z, ha] at h; cases h) h⟩
mutual
theorem Dh.sd {H H' : Hp} (e : SD H H') : ∀ (d : PyData) (v : V), Dh H v d → Dh H' v d
  | _, _, .non => .non
  | _, _, .bl b => .bl b
  | _, _, .int i => .int i
  | _, _, .str x => .str x
  | _, _, .lst (ds := ds) h l a => .lst ((e _ _).1 h) l (DhAll.sd e ds _ a)
  | _, _, .tup (ds := ds) h l a => .tup ((e _ _).2 h) l (DhAll.sd e ds _ a)
theorem DhAll.sd {H H' : Hp} (e : SD H H') : ∀ (ds : List PyData) (vs : List V), DhAll H vs ds → DhAll H' vs ds
  | _, _, .nil => .nil
  | _, _, .cons (d := d) (ds := ds) h r => .cons (Dh.sd e d _ h) (DhAll.sd e ds _ r)
end
def pfs (w : Str) (v : V) : List (Str × V) := [("word", .str w), ("parts", v)]
theorem kwp : ¬ (("parts" : Str) = "word") := by decide +kernel
theorem pfs_put (w : Str) (v : V) : putF "parts" v (putF "word" (.str w) []) = pfs w v := by
  show (if ("word" : Str) = "parts" then _ else _) = _
  rw [if_neg (fun z => kwp z.symm)]
  rfl
theorem pfs_word (w : Str) (v : V) : (pfs w v).lookup ("word" : Str) = some (.str w) := rfl
theorem pfs_parts (w : Str) (v : V) : (pfs w v).lookup ("parts" : Str) = some v := rfl
/-- the classes Paper and Denial as the top left them: P is Paper's address -/
structure PapC (K : PySem.W.Frag) (P C : Addr) (nm : Str) : Prop where
  n : ClsN K C nm
  nw : NoAttr K C "word"
  np : NoAttr K C "parts"
  kit : PySem.W.kitOne K (.ref C) (.ref P) = some true
/-- a paper at a -/
structure PapAt (K : PySem.W.Frag) (P : Addr) (H : Hp) (a C : Addr) (w : Str) (v : V) (d : PyData) (nm : Str) : Prop where
  c : PapC K P C nm
  o : ∃ dx fs, H a = some (.ins C dx fs) ∧ fs.lookup ("word" : Str) = some (.str w) ∧ fs.lookup ("parts" : Str) = some v
  d : Dh H v d
theorem PapAt.same {K : PySem.W.Frag} {P : Addr} {H H' : Hp} {a C : Addr} {w : Str} {v : V} {d : PyData} {nm : Str} (h : PapAt K P H a C w v d nm) (e : Same H H') : PapAt K P H' a C w v d nm :=
  ⟨h.c, by obtain ⟨dx, fs, z, y1, y2⟩ := h.o; exact ⟨dx, fs, e _ _ z, y1, y2⟩, Dh.same e _ _ h.d⟩
theorem PapAt.ty {K : PySem.W.Frag} {P : Addr} {H : Hp} {a C : Addr} {w : Str} {v : V} {d : PyData} {nm : Str} (h : PapAt K P H a C w v d nm) : TyX K H (.ref a) (.ref C) := by
  obtain ⟨dx, fs, z, _, _⟩ := h.o
  exact .base (.ins z h.c.n.cl h.c.n.ca h.c.n.sp h.c.n.tk h.c.n.mo)
/-- __init__ behind its binding -/
def spPI (K : PySem.W.Frag) (P : Addr) (n : Nat) : Sp := fun vs H Q _ => ∃ (a t C dx : Addr) (w nm : Str) (xs : List V) (ds : List PyData), vs = [.ref a, .str w, .ref t] ∧ H a = some (.ins C dx []) ∧ PapC K P C nm ∧ H t = some (.tup xs) ∧ xs.length ≤ 100 ∧ DhAll H xs ds ∧ depAll ds + 1 < n ∧
  ∀ v H', Sm a H H' → H' a = some (.ins C dx (pfs w v)) → Dh H' v (.tuple (tupdAll ds)) → Q .non H'
def spEqv (K : PySem.W.Frag) (P : Addr) : Sp := fun vs H Q _ => ∃ (a C : Addr) (y : V) (w nm : Str) (v : V) (d : PyData), vs = [.ref a, y] ∧ PapAt K P H a C w v d nm ∧ PyData.canLay0 d = true ∧ PyData.canLay0 (.str w) = true ∧ dep d ≤ 5 ∧
  ((∃ t, TyX K H y t ∧ PySem.W.kitOne K t (.ref P) = some false ∧ ∀ H', Same H H' → Q (.bl false) H') ∨
   (∃ (b D : Addr) (w2 nm2 : Str) (v2 : V) (d2 : PyData), y = .ref b ∧ PapAt K P H b D w2 v2 d2 nm2 ∧ PyData.canLay0 d2 = true ∧ PyData.canLay0 (.str w2) = true ∧ dep d2 ≤ 5 ∧ ∀ H', Same H H' → Q (.bl ((nm == nm2) && alike (.tuple [.str w, d]) (.tuple [.str w2, d2]))) H'))
structure TxtP (K : PySem.W.Frag) (mg : Str → Option Value) (P : Addr) : Prop where
  n_isi : mg "isinstance" = none
  mP : mg "Paper" = some (.ref P)
section
variable {Pr : Program} {w : World} {K : PySem.W.Frag} {mg : Str → Option Value} {base : Heap} {f fF fL P : Addr} {fd fdF fdL : FuncData}
theorem scPB : FnScope ["self"] ["self"] (defScope sPBool) := ⟨rfl, rfl, rfl, by decide +kernel, rfl, by decide +kernel, by decide +kernel⟩
theorem scPE : FnScope ["self", "other"] ["self", "other"] (defScope sPEq) := ⟨rfl, rfl, rfl, by decide +kernel, rfl, by decide +kernel, by decide +kernel⟩
theorem scPI : FnScope ["self", "word", "parts"] ((["self", "word"] : List Str) ++ (["parts"] : List Str)) (defScope sPInit) := ⟨rfl, rfl, rfl, by decide +kernel, rfl, by decide +kernel, by decide +kernel⟩
theorem ok_pbool (F : FnM K "__bool__" "Paper.__bool__" sPBool f fd) : FnOk Pr w K mg base CX0 1 f fd ["self"] (spCst true) := by
  refine F.ok scPB (fun vs H Q E h => h.1) (fun cdv A outer s H vs Q E hr h => ?_)
  exact ⟨_, PSs.nox (pss_one (ps_ret pe_bl)), h.2⟩
theorem ok_peq (F : FnM K "__eq__" "Paper.__eq__" sPEq f fd) (FL : FnP K "are_like" sLike fL fdL) (GL : FnOk Pr w K mg base CX0 8 fL fdL ["one", "other"] (spLike 8)) (bL : Binds K fdL ["one", "other"] []) (mL : mg "are_like" = some (.ref fL)) (T : TxtP K mg P) :
    FnOk Pr w K mg base CX0 9 f fd ["self", "other"] (spEqv K P) := by
  refine F.ok scPE (fun vs H Q E h => ?_) (fun cdv A outer s H vs Q E hr h => ?_)
  · obtain ⟨a, C, y, w, nm, v, d, rfl, _⟩ := h
    rfl
  obtain ⟨a, C, y, w1, nm, v, d, rfl, pa, ld, lw, dd, hh⟩ := h
  have nd := scPE.nd
  refine ⟨_, PSs.nox (pss_cons (ps_if (PW.pt (pw_or (pt_not (pt_val (pe_callB call_isi (by rfl) T.n_isi (by decide +kernel) (pa_cons (pv 1) (pa_cons (pe_glob (v := .ref P) (by rfl) T.mP rfl) pa_nil))))) (pw_or1 (pt_cmpR op_ne (pe_nm (pe_cls (pv 0))) (pe_nm (pe_cls (pv 1))) (nomark _)))))
      (pss_one (ps_ret pe_bl))
      pss_nil)
    (pss_one (ps_ret (pe_call GL hr rfl mL FL.kp bL .nil pass0 (pa_cons (pe_tup (pa_cons (pe_fld (pv 0) rfl) (pa_cons (pe_fld (pv 0) rfl) pa_nil))) (pa_cons (pe_tup (pa_cons (pe_fld (pv 1) rfl) (pa_cons (pe_fld (pv 1) rfl) pa_nil))) pa_nil)))))), ?_⟩
  walk_at "rd"
  obtain ⟨dx, fs1, ha, la1, la2⟩ := pa.o
  rcases hh with ⟨t, ty, kt, k⟩ | ⟨b, D, w2, nm2, v2, d2, rfl, pb, ld2, lw2, dd2, k⟩
  · refine ⟨y, .ref P, t, _, false, rfl, .own _, ty, kt, _, rfl, ?_⟩
    exact k H (Same.refl H)
  · obtain ⟨dy, fs2, hb, lb1, lb2⟩ := pb.o
    refine ⟨.ref b, .ref P, .ref D, _, true, rfl, .own _, pb.ty, pb.c.kit, _, rfl, ?_⟩
    refine iteF ?_
    walk_at "rd"
    refine ⟨a, C, dx, _, nm, rfl, ha, pa.c.n, C, nm, rfl, pa.c.n, ?_⟩
    walk_at "rd"
    refine ⟨b, D, dy, _, nm2, rfl, hb, pb.c.n, D, nm2, rfl, pb.c.n, rfl, _, rfl, ?_⟩
    refine ite2 (fun c => ?_) (fun c => ?_)
    · have e : (nm == nm2) = false := by
        have c1 : (!decide (V.str nm = V.str nm2)) = true := c
        refine beq_eq_false_iff_ne.mpr fun z => ?_
        rw [z, decide_eq_true rfl] at c1
        cases c1
      have z := k H (Same.refl H)
      rw [e] at z
      exact z
    · have e : (nm == nm2) = true := by
        by_cases z : nm = nm2
        · exact beq_iff_eq.mpr z
        · exact absurd (show (!decide (V.str nm = V.str nm2)) = true by rw [decide_eq_false (fun q => z (by injection q))]; rfl) c
      refine ⟨_, rfl, a, C, dx, _, _, rfl, ha, pa.c.n.cl, pa.c.nw, la1, _, rfl, a, C, dx, _, _, rfl, ha, pa.c.n.cl, pa.c.np, la2, by show 2 ≤ sizeLine; decide, fun p hp => ?_⟩
      have s1 : Same H (upd H p (.tup [V.str w1, v])) := same_new hp _
      refine ⟨_, rfl, b, D, dy, _, _, rfl, s1 _ _ hb, pb.c.n.cl, pb.c.nw, lb1, _, rfl, b, D, dy, _, _, rfl, s1 _ _ hb, pb.c.n.cl, pb.c.np, lb2, by show 2 ≤ sizeLine; decide, fun q hq => ?_⟩
      have s2 : Same (upd H p (.tup [V.str w1, v])) (upd (upd H p (.tup [V.str w1, v])) q (.tup [V.str w2, v2])) := same_new hq _
      have s3 := s1.trans s2
      have t1 : PyData.canLay0 (.tuple [.str w1, d]) = true := by
        show (PyData.canLay0 (.str w1) && (PyData.canLay0 d && true)) = true
        rw [lw, ld]
        rfl
      have t2 : PyData.canLay0 (.tuple [.str w2, d2]) = true := by
        show (PyData.canLay0 (.str w2) && (PyData.canLay0 d2 && true)) = true
        rw [lw2, ld2]
        rfl
      have d1 : dep (.tuple [.str w1, d]) ≤ 6 := by
        show max 0 (max (PyData.depth d) 0) + 1 ≤ 6
        have z : PyData.depth d ≤ 5 := dd
        omega
      have d3 : dep (.tuple [.str w2, d2]) ≤ 6 := by
        show max 0 (max (PyData.depth d2) 0) + 1 ≤ 6
        have z : PyData.depth d2 ≤ 5 := dd2
        omega
      refine ⟨.ref p, .ref q, .tuple [.str w1, d], .tuple [.str w2, d2], rfl, .tup (s2 _ _ upd_same) (by show 2 ≤ 100; decide) (.cons (.str _) (.cons (Dh.same s3 _ _ pa.d) .nil)), .tup upd_same (by show 2 ≤ 100; decide) (.cons (.str _) (.cons (Dh.same s3 _ _ pb.d) .nil)), t1, t2, by omega, by omega, by omega, fun H' e' => ?_⟩
      have z := k H' (s3.trans e')
      rw [e] at z
      exact z
/-- Paper(word, *parts) -/
theorem ok_pinit (F : FnM K "__init__" "Paper.__init__" sPInit f fd) (FF : FnP K "fixed" sFixed fF fdF) (GF : ∀ n, FnOk Pr w K mg base CX0 n fF fdF ["value"] (spTup n)) (bF : Binds K fdF ["value"] []) (mF : mg "fixed" = some (.ref fF)) (n : Nat) :
    FnR Pr w K mg base CX0 (n + 1) f (fun vs H Q E => ∃ ws rest, vs = ws ++ rest ∧ ws.length = (["self", "word"] : List Str).length ∧ rest.length ≤ sizeLine ∧ ∀ p, H p = none → spPI K P n (ws ++ [V.ref p]) (upd H p (.tup rest)) Q E) := by
  obtain ⟨oc, od, dV, kV, doc, pm, an, cdv, ct, osl, rfl, lk, hcd, hD, hK⟩ := F.ex
  have hdV : dV = .none := by
    rcases hD with ⟨_, e⟩ | ⟨e, _⟩
    · exact e
    · exact absurd rfl e
  subst hdV
  refine StX.fn_star lk hcd scPI StX.cxUp_none (StX.bind_star2 (p1 := "self") (p2 := "word") (pv := "parts") (B := fun us => bindArgs (PySem.W.fnOf "__init__" "Paper.__init__" (defArgs sPInit) (defBody sPInit) (defScope sPInit) .none kV doc pm an cdv ct) ⟨us, []⟩) (fun a b => rfl) (fun a b r rs => rfl)) fun A outer s H vs Q E hr h => ?_
  obtain ⟨a, t, C, dx, w1, nm, xs, ds, rfl, ha, pc, ht, hl, hds, hn, k⟩ := h
  have nd := scPI.nd
  refine ⟨_, (pss_cons (ps_fld (pv 0) (pv 1) rfl)
    (pss_one (ps_fld (pv 0) (pe_call (GF n) hr rfl mF FF.kp bF .nil pass0 (pa_cons (pv 2) pa_nil)) rfl))), ?_⟩
  walk_at "rd"
  refine ⟨a, C, dx, [], rfl, ha, pc.n.cl, pc.nw, by decide, ?_⟩
  have sm1 : Sm a H (upd H a (HO.ins C dx (putF "word" (V.str w1) []))) := Sm.at .refl
  have ha1 : upd H a (HO.ins C dx (putF "word" (V.str w1) [])) a = some (.ins C dx (putF "word" (V.str w1) [])) := upd_same
  have sd1 : SD H (upd H a (HO.ins C dx (putF "word" (V.str w1) []))) := sm_sd ha sm1
  generalize upd H a (HO.ins C dx (putF "word" (V.str w1) [])) = H1 at sm1 ha1 sd1 ⊢
  walk_at "rd"
  refine ⟨.ref t, .tuple ds, rfl, .tup ((sd1 _ _).2 ht) hl (DhAll.sd sd1 _ _ hds), hn, fun v' H2 e2 hv => ?_⟩
  have ha2 := e2 _ _ ha1
  have hv2 : Dh H2 v' (.tuple (tupdAll ds)) := Dh.same ho_same _ _ hv
  walk_at "rd"
  refine ⟨a, C, dx, _, rfl, ha2, pc.n.cl, pc.np, by show 1 < 1000; decide, ?_⟩
  rw [pfs_put]
  have sm3 : Sm a H2 (upd H2 a (HO.ins C dx (pfs w1 v'))) := Sm.at .refl
  exact k v' _ ((sm1.trans (Same.sm e2)).trans sm3) upd_same (Dh.sd (sm_sd ha2 sm3) _ _ hv2)
end
end My

set_option maxHeartbeats 4000000
namespace My
open PySem PySem.Spec PyProof.Rows L2
local macro_rules | `(tactic| walk_at "rd1") => `(tactic| first
  | refine ⟨_, rfl, ?_⟩
  | refine ⟨_, _, rfl, rfl, ?_⟩
  | refine Or.inl ⟨_, rfl, ?_⟩
  | refine Or.inr ⟨_, rfl, ?_⟩
  | refine ⟨_, _, _, _, rfl, rfl, Or.inl (Or.inl (by assumption)), rfl, ?_⟩
  | refine ⟨_, _, rfl, Or.inl (Or.inl (Or.inl (by assumption))), ?_⟩)
local macro_rules | `(tactic| walk_at "rd") => `(tactic| repeat walk_at "rd1")
/-! ### the pen, drawn values -/
def spPen (K : PySem.W.Frag) : Sp := fun vs H Q _ => ∃ (a : Addr) (ns : List Int), vs = [.ref a] ∧ SqL K H a (ns.map V.int) ∧ ns.length ≤ 63 ∧ ∀ (p q : Addr) (ms : List Int) (H' : Hp), Same H H' → H p = none → Pen H' p q ms 0 0 → Q (.ref p) H'
theorem cut_ints (ns : List Int) (lo hi : Option Int) : ∃ ms : List Int, cutV (ns.map V.int) lo hi = ms.map V.int ∧ ms.length ≤ ns.length := by
  refine ⟨(ns.drop (HT.sIx (ns.map V.int).length 0 lo)).take (HT.sIx (ns.map V.int).length (ns.map V.int).length hi - HT.sIx (ns.map V.int).length 0 lo), ?_, ?_⟩
  · unfold cutV
    rw [List.map_take, List.map_drop]
  · rw [List.length_take, List.length_drop]
    omega
structure TxtV (K : PySem.W.Frag) (mg : Str → Option Value) : Prop where
  n_int : mg "int" = none
  n_range : mg "range" = none
  n_tuple : mg "tuple" = none
theorem Pen.of {H H' : Hp} {p q : Addr} {ns : List Int} {t r t' r' : Int} (h : Pen H p q ns t r) (e : Sm p H H') (hp : H' p = some (.lst [.ref q, .int t', .int r'])) (h1 : 0 ≤ t') (h2 : t' < 100000) (h3 : 0 ≤ r') : Pen H' p q ns t' r' := by
  refine ⟨hp, e q _ (fun z => ?_) h.cells, h.few, h1, h2, h3⟩
  have h4 := h.at_
  rw [← z, h.cells] at h4
  have e2 := Option.some.inj h4
  injection e2 with e3
  cases ns with
  | nil => cases e3
  | cons n ns =>
    have e4 := List.cons.inj e3
    cases e4.1
theorem Pen.same {H H' : Hp} {p q : Addr} {ns : List Int} {t r : Int} (h : Pen H p q ns t r) (e : Same H H') : Pen H' p q ns t r := ⟨e _ _ h.at_, e _ _ h.cells, h.few, h.t0, h.t1, h.r0⟩
section
variable {P : Program} {w : World} {K : PySem.W.Frag} {mg : Str → Option Value} {base : Heap} {f fD : Addr} {fd fdD : FuncData}
theorem scP : FnScope ["script", "cell"] ["script"] (defScope sPen) := ⟨rfl, rfl, rfl, by decide +kernel, rfl, by decide +kernel, by decide +kernel⟩
theorem ok_pen (F : FnP K "_law_pen" sPen f fd) (T : TxtV K mg) : FnOk P w K mg base CX0 1 f fd ["script"] (spPen K) := by
  refine F.ok scP (fun vs H Q E h => ?_) (fun cdv A outer s H vs Q E hr h => ?_)
  · obtain ⟨a, ns, rfl, _⟩ := h
    rfl
  obtain ⟨a, ns, rfl, hs, hl, k⟩ := h
  have nd := scP.nd
  refine ⟨_, PSs.nox (pss_one (ps_ret (pe_lst (pa_cons (pe_lc (own := [("cell", 1)]) (g := (gName 1)) (tt := tYes) rfl nd (pi_list (pe_slice sl_list (pv 0) po_none (po_some pe_int))) (blkOk_by (N := ["script", "cell"]) (sc := defScope sPen) (by decide +kernel)) (fun _ _ _ _ _ => pg_name (i := 1) nd rfl (Or.inl rfl)) (fun _ _ _ _ _ => pts_nil) (fun _ _ _ _ _ => (pe_callTy call_int1 (by rfl) T.n_int (by decide +kernel) (pa_cons (pv 1) pa_nil)))) (pa_cons pe_int (pa_cons pe_int pa_nil)))))), ?_⟩
  walk_at "rd"
  obtain ⟨ms, em, lm⟩ := cut_ints ns none (some 63)
  refine ⟨a, _, rfl, hs, fun l hl2 => ?_⟩
  rw [em]
  have s1 : Same H (upd H l (HO.lst (ms.map V.int))) := same_new hl2 _
  have hl3 : upd H l (HO.lst (ms.map V.int)) l = some (.lst (ms.map V.int)) := upd_same
  generalize upd H l (HO.lst (ms.map V.int)) = H1 at s1 hl3 ⊢
  refine ⟨l, rfl, ⟨_, .inl (.inl hl3)⟩, fun D hD => lc_list (xs := ms.map V.int) (fun i H2 => H2 D = some (.lst ((ms.take i).map V.int)) ∧ Same H1 H2) ⟨upd_same, same_new hD _⟩ (fun i H2 _ ⟨_, e2⟩ => .inl (.inl (e2 _ _ hl3))) ?_ ?_⟩
  · rintro i x H2 hx ⟨hD2, e2⟩
    rw [List.getElem?_map] at hx
    cases e : ms[i]? with
    | none =>
      rw [e] at hx
      cases hx
    | some n =>
      rw [e] at hx
      have hx2 : V.int n = x := Option.some.inj hx
      subst hx2
      refine ⟨rfl, ?_⟩
      refine ⟨_, rfl, .inl ⟨_, rfl, (ms.take i).map V.int, hD2, ?_, ?_, ?_⟩⟩
      · rw [List.length_map, List.length_take]
        exact Nat.lt_of_le_of_lt (Nat.le_trans (Nat.min_le_right _ _) (Nat.le_trans lm hl)) (by decide)
      · rw [upd_same, take_succ' e, List.map_append]
        rfl
      · exact fun b o hb => by rw [upd_ne (ne_of_none hb hD)]; exact e2 _ _ hb
  · rintro H2 ⟨hD2, e2⟩
    rw [List.length_map, List.take_length] at hD2
    refine ⟨by show 3 ≤ sizeLine; decide, fun p hp => ?_⟩
    refine k p D ms _ (s1.trans (e2.trans (same_new hp _))) ((s1.trans e2).free hp) ⟨upd_same, ?_, Nat.le_trans lm hl, Int.le_refl _, by decide, Int.le_refl _⟩
    rw [upd_ne (ne_of_none hD2 hp)]
    exact hD2
end
end My

set_option maxHeartbeats 4000000
namespace My
open PySem PySem.Spec PyProof.Rows L2
def atoms : List PyData := [.none, .bool true, .bool false] ++ (List.range 149).map fun k => .int ((k : Int) - 50)
theorem shownAll_len : ∀ ds : List PyData, (PyData.shownAll ds).length = ds.length
  | [] => rfl
  | _ :: ds => congrArg Nat.succ (shownAll_len ds)
/-! ### sizes -/
inductive Dz : Nat → PyData → Prop
  | at_ {n d} : d ∈ atoms → Dz n d
  | lst {n ds} : ds.length ≤ 7 → (∀ d ∈ ds, Dz n d) → Dz (n + 1) (.list ds)
  | tup {n ds} : ds.length ≤ 7 → (∀ d ∈ ds, Dz n d) → Dz (n + 1) (.tuple ds)
def bnd : Nat → Nat
  | 0 => 50
  | n + 1 => 7 * bnd n + 17
theorem bnd50 : ∀ n, 50 ≤ bnd n
  | 0 => Nat.le_refl _
  | n + 1 => by
    have z := bnd50 n
    show 50 ≤ 7 * bnd n + 17
    omega
def okZ (d : PyData) : Bool := PyData.canLay0 d && (decide (PyData.depth d = 0) && (PyData.showable d && (decide ((PyData.shown d).length ≤ 50) && !PyData.hasDict d)))
theorem atoms_okZ : (atoms.all okZ) = true := by decide +kernel
/-- what the rules ask of such data -/
structure OkZ (n : Nat) (d : PyData) : Prop where
  lay : PyData.canLay0 d = true
  dp : PyData.depth d ≤ n
  sh : PyData.showable d = true
  len : (PyData.shown d).length ≤ bnd n
  nd : PyData.hasDict d = false
theorem atom_okz {n : Nat} {d : PyData} (h : d ∈ atoms) : OkZ n d := by
  have z := List.all_eq_true.mp atoms_okZ d h
  obtain ⟨z1, z⟩ := Bool.and_eq_true_iff.mp z
  obtain ⟨z2, z⟩ := Bool.and_eq_true_iff.mp z
  obtain ⟨z3, z⟩ := Bool.and_eq_true_iff.mp z
  obtain ⟨z4, z5⟩ := Bool.and_eq_true_iff.mp z
  refine ⟨z1, ?_, z3, Nat.le_trans (of_decide_eq_true z4) (bnd50 n), by simpa using z5⟩
  rw [of_decide_eq_true z2]
  exact Nat.zero_le _
theorem all_okz {n : Nat} : ∀ ds : List PyData, (∀ d ∈ ds, OkZ n d) → PyData.canLayAll0 ds = true ∧ PyData.depthAll ds ≤ n ∧ PyData.showableAll ds = true ∧ ((PyData.shownAll ds).map (·.length)).sum ≤ ds.length * bnd n ∧ PyData.hasDictAll ds = false
  | [], _ => ⟨rfl, Nat.zero_le _, rfl, Nat.zero_le _, rfl⟩
  | d :: ds, h => by
    obtain ⟨a1, a2, a3, a4, a5⟩ := h d List.mem_cons_self
    obtain ⟨b1, b2, b3, b4, b5⟩ := all_okz ds fun x hx => h x (List.mem_cons_of_mem _ hx)
    refine ⟨?_, ?_, ?_, ?_, ?_⟩
    · show (PyData.canLay0 d && PyData.canLayAll0 ds) = true
      rw [a1, b1]
      rfl
    · show max (PyData.depth d) (PyData.depthAll ds) ≤ n
      omega
    · show (PyData.showable d && PyData.showableAll ds) = true
      rw [a3, b3]
      rfl
    · show ((PyData.shown d).length :: (PyData.shownAll ds).map (·.length)).sum ≤ (ds.length + 1) * bnd n
      rw [List.sum_cons, Nat.add_mul, Nat.one_mul]
      omega
    · show (PyData.hasDict d || PyData.hasDictAll ds) = false
      rw [a5, b5]
      rfl
theorem okz : ∀ {n : Nat} {d : PyData}, Dz n d → OkZ n d
  | n, d, .at_ h => atom_okz h
  | n + 1, _, .lst (ds := ds) l k => by
    obtain ⟨b1, b2, b3, b4, b5⟩ := all_okz ds fun x hx => okz (k x hx)
    have z := listText_len_le (PyData.shownAll ds)
    rw [shownAll_len] at z
    have y : ds.length * bnd n ≤ 7 * bnd n := Nat.mul_le_mul_right _ l
    exact ⟨b1, by show PyData.depthAll ds + 1 ≤ n + 1; omega, b3, by show (listText (PyData.shownAll ds)).length ≤ 7 * bnd n + 17; omega, b5⟩
  | n + 1, _, .tup (ds := ds) l k => by
    obtain ⟨b1, b2, b3, b4, b5⟩ := all_okz ds fun x hx => okz (k x hx)
    have z := tupleText_len_le (PyData.shownAll ds)
    rw [shownAll_len] at z
    have y : ds.length * bnd n ≤ 7 * bnd n := Nat.mul_le_mul_right _ l
    exact ⟨b1, by show PyData.depthAll ds + 1 ≤ n + 1; omega, b3, by show (tupleText (PyData.shownAll ds)).length ≤ 7 * bnd n + 17; omega, b5⟩
theorem small_atom (i : Int) (h1 : -50 ≤ i) (h2 : i ≤ 98) : PyData.int i ∈ atoms := by
  refine List.mem_append_right _ (List.mem_map.mpr ⟨(i + 50).toNat, List.mem_range.mpr (by omega), ?_⟩)
  have e : (((i + 50).toNat : Nat) : Int) - 50 = i := by omega
  rw [e]
/-! ### repr of such data, where no repr is running -/
def rReprD : List V → Hp → VK → Prop := fun xs H Q => ∃ v d, xs = [v] ∧ Dh H v d ∧ Dz 5 d ∧ Q (.str (PyData.shown d)) H
theorem call_reprD {X : Cx} (hg : X.A.guards = some []) (hu : X.A.units + 64 < cLine) : CallR X (.builtin "repr") rReprD := by
  intro pins s σ H xs us Q I r h
  obtain ⟨v, d, rfl, hd, hz, q⟩ := h
  obtain ⟨u, rfl, rv⟩ := vals1 r
  obtain ⟨o1, o2, o3, o4, o5⟩ := okz hz
  have hlen : (PyData.shown d).length ≤ sizeLine := Nat.le_trans o4 (by decide)
  obtain ⟨as, hr⟩ := Dp.reads I d v u (Dh.dp _ _ hd) rv
  cases hd with
  | non =>
    cases (show u = Value.none from rv)
    exact PySem.P.repr_of_none ⟨.str _, H, I.tok _, ⟨_, rfl⟩, q⟩
  | bl b =>
    cases (show u = Value.bool b from rv)
    exact PySem.P.repr_of_bool ⟨.str _, H, I.tok _, ⟨_, rfl⟩, by cases b <;> exact q⟩
  | int i =>
    obtain ⟨t, e⟩ := (show ∃ t, u = Value.int i t from rv)
    subst e
    exact PySem.P.repr_of_int (of_decide_eq_true o3) ⟨.str _, H, I.tok _, ⟨_, rfl⟩, q⟩
  | str x =>
    obtain ⟨t, e⟩ := (show ∃ t, u = Value.str x t from rv)
    subst e
    exact PySem.P.repr_of_str ⟨.str _, H, I.tok _, ⟨_, rfl⟩, q⟩ hlen
  | lst ha hl hds =>
    cases (show u = Value.ref _ from rv)
    exact repr_of_reads' hr o3 (fun z => by rw [o5] at z; cases z) hg (by omega) (fun b o z => z) (fun h' u tk k => ⟨.str _, H, I.kept k, ⟨_, rfl⟩, q⟩) hlen
  | tup ha hl hds =>
    cases (show u = Value.ref _ from rv)
    exact repr_of_reads' hr o3 (fun z => by rw [o5] at z; cases z) hg (by omega) (fun b o z => z) (fun h' u tk k => ⟨.str _, H, I.kept k, ⟨_, rfl⟩, q⟩) hlen
end My

set_option maxHeartbeats 4000000
namespace My
open PySem PySem.Spec PyProof.Rows L2
local macro_rules | `(tactic| walk_at "rd1") => `(tactic| first
  | refine ⟨_, rfl, ?_⟩
  | refine ⟨_, _, rfl, rfl, ?_⟩
  | refine Or.inl ⟨_, rfl, ?_⟩
  | refine Or.inr ⟨_, rfl, ?_⟩
  | refine ⟨_, _, _, _, rfl, rfl, Or.inl (Or.inl (by assumption)), rfl, ?_⟩
  | refine ⟨_, _, rfl, Or.inl (Or.inl (Or.inl (by assumption))), ?_⟩)
local macro_rules | `(tactic| walk_at "rd") => `(tactic| repeat walk_at "rd1")
abbrev sIsInt : Stmt := top 12
abbrev sIsIn : Stmt := top 13
abbrev sIsListed : Stmt := top 14
abbrev sAreInts : Stmt := top 15
abbrev sPick : Stmt := top 38
def isI : PyData → Bool
  | .int _ => true
  | _ => false
def inB (lo hi : Int) : PyData → Bool
  | .int i => decide (lo ≤ i) && decide (i ≤ hi)
  | _ => false
theorem kit_int {K : PySem.W.Frag} {d : PyData} : PySem.W.kitOne K (.type (tyn d)) (.type "int") = some (isI d || isB d) := by
  cases d with
  | none => exact kit_ty (a := "NoneType") (b := "int") (r := false) (by decide +kernel)
  | bool b => exact kit_ty (a := "bool") (b := "int") (r := true) (by decide +kernel)
  | int b => exact kit_ty (a := "int") (b := "int") (r := true) (by decide +kernel)
  | str b => exact kit_ty (a := "str") (b := "int") (r := false) (by decide +kernel)
  | list b => exact kit_ty (a := "list") (b := "int") (r := false) (by decide +kernel)
  | tuple b => exact kit_ty (a := "tuple") (b := "int") (r := false) (by decide +kernel)
  | dict b => exact kit_ty (a := "dict") (b := "int") (r := false) (by decide +kernel)
def spIsInt : Sp := fun vs H Q _ => ∃ v d, vs = [v] ∧ Dh H v d ∧ Q (.bl (isI d)) H
structure TxtI (mg : Str → Option Value) : Prop where
  n_isi : mg "isinstance" = none
  n_int : mg "int" = none
  n_bool : mg "bool" = none
section
variable {P : Program} {w : World} {K : PySem.W.Frag} {mg : Str → Option Value} {base : Heap} {f fI : Addr} {fd fdI : FuncData}
theorem scII : FnScope ["value"] ["value"] (defScope sIsInt) := ⟨rfl, rfl, rfl, by decide +kernel, rfl, by decide +kernel, by decide +kernel⟩
theorem ok_isint (F : FnP K "is_integer" sIsInt f fd) (T : TxtI mg) : FnOk P w K mg base CX0 1 f fd ["value"] spIsInt := by
  refine F.ok scII (fun vs H Q E h => ?_) (fun cdv A outer s H vs Q E hr h => ?_)
  · obtain ⟨v, d, rfl, _⟩ := h
    rfl
  obtain ⟨v, d, rfl, hd, k⟩ := h
  have nd := scII.nd
  refine ⟨_, PSs.nox (pss_one (ps_ret (pe_and (pe_callB call_isi (by rfl) T.n_isi (by decide +kernel) (pa_cons (pv 0) (pa_cons (pe_bltn (v := .ty "int") (by rfl) T.n_int (by decide +kernel) rfl) pa_nil)))
    (pe_one (pe_not (pe_callB call_isi (by rfl) T.n_isi (by decide +kernel) (pa_cons (pv 0) (pa_cons (pe_bltn (v := .ty "bool") (by rfl) T.n_bool (by decide +kernel) rfl) pa_nil)))))))), ?_⟩
  walk_at "rd"
  refine ⟨v, .ty "int", _, _, _, rfl, .ty _, hd.ty, kit_int, _, rfl, ?_⟩
  cases hd with
  | bl b =>
    refine iteT ?_
    walk_at "rd"
    refine ⟨_, .ty "bool", _, _, true, rfl, .ty _, (Dh.bl b : Dh H (.bl b) (.bool b)).ty, kit_bool, _, rfl, ?_⟩
    exact k
  | int b =>
    refine iteT ?_
    walk_at "rd"
    refine ⟨_, .ty "bool", _, _, false, rfl, .ty _, (Dh.int b : Dh H (.int b) (.int b)).ty, kit_bool, _, rfl, ?_⟩
    exact k
  | _ => exact iteF k
def spIsIn : Sp := fun vs H Q _ => ∃ v d lo hi, vs = [v, .int lo, .int hi] ∧ Dh H v d ∧ Q (.bl (inB lo hi d)) H
theorem scIN : FnScope ["value", "least", "most"] ["value", "least", "most"] (defScope sIsIn) := ⟨rfl, rfl, rfl, by decide +kernel, rfl, by decide +kernel, by decide +kernel⟩
theorem ok_isin (F : FnP K "is_within" sIsIn f fd) (FI : FnP K "is_integer" sIsInt fI fdI) (GI : FnOk P w K mg base CX0 1 fI fdI ["value"] spIsInt) (bI : Binds K fdI ["value"] []) (mI : mg "is_integer" = some (.ref fI)) : FnOk P w K mg base CX0 2 f fd ["value", "least", "most"] spIsIn := by
  refine F.ok scIN (fun vs H Q E h => ?_) (fun cdv A outer s H vs Q E hr h => ?_)
  · obtain ⟨v, d, lo, hi, rfl, _⟩ := h
    rfl
  obtain ⟨v, d, lo, hi, rfl, hd, k⟩ := h
  have nd := scIN.nd
  refine ⟨_, PSs.nox (pss_one (ps_ret (pe_and (pe_call GI hr rfl mI FI.kp bI .nil pass0 (pa_cons (pv 0) pa_nil))
    (pe_and (pe_or (pe_cmpR op_isN (pv 1) pe_non (nomark _)) (pe_one (pe_cmpR op_ge (pv 0) (pv 1) (nomark _))))
      (pe_one (pe_or (pe_cmpR op_isN (pv 2) pe_non (nomark _)) (pe_one (pe_cmpR op_le (pv 0) (pv 2) (nomark _))))))))), ?_⟩
  refine ⟨_, rfl, v, d, rfl, hd, _, rfl, ?_⟩
  cases hd with
  | int i =>
    refine iteT ?_
    refine ⟨_, rfl, rfl, _, rfl, ?_⟩
    refine iteF ?_
    refine ⟨_, rfl, _, rfl, _, _, rfl, rfl, _, rfl, ?_⟩
    have e : inB lo hi (.int i) = (decide (lo ≤ i) && decide (i ≤ hi)) := rfl
    rw [e] at k
    refine ite2 (fun c => ?_) (fun c => ?_)
    · refine ⟨_, rfl, rfl, _, rfl, ?_⟩
      refine iteF ?_
      refine ⟨_, rfl, _, rfl, _, _, rfl, rfl, ?_⟩
      rw [c, Bool.true_and] at k
      exact k
    · rw [Bool.eq_false_iff.mpr c, Bool.false_and] at k
      exact k
  | _ => exact iteF k
end
end My

set_option maxHeartbeats 4000000
namespace My
open PySem PySem.Spec PyProof.Rows L2
/-- one of a list -/
def spPick : Sp := fun vs H Q _ => ∃ (p q l : Addr) (ns : List Int) (t r : Int) (xs : List V), vs = [.ref p, .ref l] ∧ Pen H p q ns t r ∧ H l = some (.lst xs) ∧ l ≠ p ∧ xs ≠ [] ∧ xs.length ≤ 1000 ∧ t < 90000 ∧
  ∀ (x : Nat) (v : V) (t' r' : Int) (H' : Hp), xs[x]? = some v → t ≤ t' → t' ≤ t + 1 → 0 ≤ r' → Sm p H H' → H' p = some (.lst [.ref q, .int t', .int r']) → Q v H'
section
variable {P : Program} {w : World} {K : PySem.W.Frag} {mg : Str → Option Value} {base : Heap} {f fD : Addr} {fd fdD : FuncData}
theorem scPk : FnScope ["pen", "some"] ["pen", "some"] (defScope sPick) := ⟨rfl, rfl, rfl, by decide +kernel, rfl, by decide +kernel, by decide +kernel⟩
theorem ok_pick (F : FnP K "_law_pick" sPick f fd) (nl : mg "len" = none) (FD : FnP K "_law_draw" sDraw fD fdD) (GD : FnOk P w K mg base CX0 1 fD fdD ["pen", "many"] spDraw) (bD : Binds K fdD ["pen", "many"] []) (mD : mg "_law_draw" = some (.ref fD)) : FnOk P w K mg base CX0 2 f fd ["pen", "some"] spPick := by
  refine F.ok scPk (fun vs H Q E h => ?_) (fun cdv A outer s H vs Q E hr h => ?_)
  · obtain ⟨p, q, l, ns, t, r, xs, rfl, _⟩ := h
    rfl
  obtain ⟨p, q, l, ns, t, r, xs, rfl, pen, hl, lp, xn, xl, tb, k⟩ := h
  have nd := scPk.nd
  refine ⟨_, PSs.nox (pss_one (ps_ret (pe_ix ix_list (pv 1) (pe_call GD hr rfl mD FD.kp bD .nil pass0 (pa_cons (pv 0) (pa_cons (pe_callB call_len_seq (by rfl) nl PySem.boot_len (pa_cons (pv 1) pa_nil)) pa_nil))) (fun _ _ => rfl)))), ?_⟩
  have pos : 0 < xs.length := List.length_pos_iff.mpr xn
  refine ⟨_, rfl, _, rfl, _, rfl, l, xs, rfl, .inl (.inl (.inl hl)), p, q, ns, t, r, _, rfl, pen, by omega, by omega, tb, fun x t' r' H' x0 x1 h1 h2 h3 sm hp => ?_⟩
  have xt : x.toNat < xs.length := by omega
  have e : xs[x.toNat]? = some xs[x.toNat] := List.getElem?_eq_getElem xt
  refine ⟨l, xs, x, xs[x.toNat], rfl, rfl, SqL.of (sm l _ lp hl), ?_, k x.toNat _ t' r' H' e h1 h2 h3 sm hp⟩
  obtain ⟨n, rfl⟩ := Int.eq_ofNat_of_zero_le x0
  exact atI_nat e
end
end My

set_option maxHeartbeats 4000000
namespace My
open PySem PySem.Spec PyProof.Rows L2
section
variable {X : Cx}
/-- an own exception that its own __init__ made, with its dict, is raised -/
theorem pmk_exo {e : Expr} {te : TE} (hx : X.ex = []) (he : PE X e te) :
    PMk X e (fun σ H Q => te σ H fun x H1 => ∃ a C dx, x = .ref a ∧ H1 a = some (exo a C (some dx)) ∧ Fr0 X.H_0 a ∧ Raises X (.ref C) ∧ Q (.ref C) (some dx) (delH H1 a)) := by
  intro pins s σ H Q I h
  refine wpAny_mono (he.run pins s σ H _ I h) (fun u s1 hu => ?_) fun _ _ x => x
  obtain ⟨v, H1, I1, r1, a, C, dx, rfl, ha, h0, hr, q⟩ := hu
  cases r1
  obtain ⟨t1, ho⟩ := exo_at I1.hok ha
  obtain ⟨G, gs, ga, J⟩ := I1.untrack ha h0 hx
  exact ⟨a, _, _, { s1 with heap := G }, delH H1 a, .ref C, some dx, rfl, J, gs, ga, ho, ⟨rfl, rfl⟩, rfl, rfl, delH_same, rfl, I1.bare, hr, q⟩
end
end My

set_option maxHeartbeats 4000000
namespace My
open PySem PySem.Spec PyProof.Rows L2
abbrev sTopOf : Stmt := top 31
abbrev sXAt : Stmt := top 32
/-- a cell's numbers -/
structure Ce where
  zl : Int
  zh : Int
  lo : Int
  hi : Int
  pe : Int
  fi : Int
  la : Int
/-- an instance with these fields at a -/
structure CeAt (K : PySem.W.Frag) (C : Addr) (H : Hp) (a : Addr) (c : Ce) : Prop where
  cl : Cls K C
  na : ∀ f ∈ (["z_low", "z_high", "low", "high", "period", "first", "last"] : List Str), NoAttr K C f
  ob : ∃ dx fs, H a = some (.ins C dx fs) ∧ fs.lookup ("z_low" : Str) = some (.int c.zl) ∧ fs.lookup ("z_high" : Str) = some (.int c.zh) ∧ fs.lookup ("low" : Str) = some (.int c.lo) ∧ fs.lookup ("high" : Str) = some (.int c.hi) ∧ fs.lookup ("period" : Str) = some (.int c.pe) ∧ fs.lookup ("first" : Str) = some (.int c.fi) ∧ fs.lookup ("last" : Str) = some (.int c.la)
theorem CeAt.same {K : PySem.W.Frag} {C : Addr} {H H' : Hp} {a : Addr} {c : Ce} (h : CeAt K C H a c) (e : Same H H') : CeAt K C H' a c := by
  obtain ⟨dx, fs, o, r⟩ := h.ob
  exact ⟨h.cl, h.na, dx, fs, e _ _ o, r⟩
def spTopOf (K : PySem.W.Frag) : Sp := fun vs H Q _ => ∃ a C c, vs = [.ref a] ∧ CeAt K C H a c ∧ (0 < c.pe ∧ c.pe < 1073741824) ∧ Q (.int ((c.hi - c.lo - c.fi) / c.pe)) H
section
variable {P : Program} {w : World} {K : PySem.W.Frag} {mg : Str → Option Value} {base : Heap} {f : Addr} {fd : FuncData}
theorem scTo : FnScope ["cell"] ["cell"] (defScope sTopOf) := ⟨rfl, rfl, rfl, by decide +kernel, rfl, by decide +kernel, by decide +kernel⟩
theorem ok_topof (F : FnP K "top_of" sTopOf f fd) : FnOk P w K mg base CX0 1 f fd ["cell"] (spTopOf K) := by
  refine F.ok scTo (fun vs H Q E h => ?_) (fun cdv A outer s H vs Q E hr h => ?_)
  · obtain ⟨a, C, c, rfl, _⟩ := h
    rfl
  obtain ⟨a, C, c, rfl, ce, pp, k⟩ := h
  obtain ⟨dx, fs, o, l1, l2, l3, l4, l5, l6, l7⟩ := ce.ob
  have nd := scTo.nd
  refine ⟨_, PSs.nox (pss_one (ps_ret (pe_op op_fdiv (pe_op op_sub (pe_op op_sub (pe_fld (pv 0) rfl) (pe_fld (pv 0) rfl)) (pe_fld (pv 0) rfl)) (pe_fld (pv 0) rfl)))), ?_⟩
  refine ⟨_, rfl, a, C, dx, fs, _, rfl, o, ce.cl, ce.na _ (by decide +kernel), l4, ?_⟩
  refine ⟨_, rfl, a, C, dx, fs, _, rfl, o, ce.cl, ce.na _ (by decide +kernel), l3, ?_⟩
  refine ⟨_, _, rfl, rfl, ?_⟩
  refine ⟨_, rfl, a, C, dx, fs, _, rfl, o, ce.cl, ce.na _ (by decide +kernel), l6, ?_⟩
  refine ⟨_, _, rfl, rfl, ?_⟩
  refine ⟨_, rfl, a, C, dx, fs, _, rfl, o, ce.cl, ce.na _ (by decide +kernel), l5, ?_⟩
  exact ⟨_, _, rfl, rfl, pp, k⟩
def spXAt (K : PySem.W.Frag) : Sp := fun vs H Q _ => ∃ a C c t, vs = [.ref a, .int t] ∧ CeAt K C H a c ∧ CMul t c.pe ∧ Q (.int (c.lo + c.fi + t * c.pe)) H
theorem scXa : FnScope ["cell", "t"] ["cell", "t"] (defScope sXAt) := ⟨rfl, rfl, rfl, by decide +kernel, rfl, by decide +kernel, by decide +kernel⟩
theorem ok_xat (F : FnP K "x_at" sXAt f fd) : FnOk P w K mg base CX0 1 f fd ["cell", "t"] (spXAt K) := by
  refine F.ok scXa (fun vs H Q E h => ?_) (fun cdv A outer s H vs Q E hr h => ?_)
  · obtain ⟨a, C, c, t, rfl, _⟩ := h
    rfl
  obtain ⟨a, C, c, t, rfl, ce, cm, k⟩ := h
  obtain ⟨dx, fs, o, l1, l2, l3, l4, l5, l6, l7⟩ := ce.ob
  have nd := scXa.nd
  refine ⟨_, PSs.nox (pss_one (ps_ret (pe_op op_add (pe_op op_add (pe_fld (pv 0) rfl) (pe_fld (pv 0) rfl)) (pe_op op_mul (pv 1) (pe_fld (pv 0) rfl))))), ?_⟩
  refine ⟨_, rfl, a, C, dx, fs, _, rfl, o, ce.cl, ce.na _ (by decide +kernel), l3, ?_⟩
  refine ⟨_, rfl, a, C, dx, fs, _, rfl, o, ce.cl, ce.na _ (by decide +kernel), l6, ?_⟩
  refine ⟨_, _, rfl, rfl, ?_⟩
  refine ⟨_, rfl, _, rfl, a, C, dx, fs, _, rfl, o, ce.cl, ce.na _ (by decide +kernel), l5, ?_⟩
  exact ⟨_, _, rfl, rfl, cm, _, _, rfl, rfl, k⟩
end
end My

set_option maxHeartbeats 4000000
namespace My
open PySem PySem.Spec PyProof.Rows L2
/-! a caught exception kept behind its suite -/
/-- an exception object of the class at C, with the dict d, raised or not, at a -/
def exk (a C : Addr) (d : Option Addr) : HO := .ext fun h => ∃ (oe : Obj) (vs : Array Value), h.get? a = some oe ∧ Zc (.ref C) d oe ∧ oe.data = .fields vs
theorem exk_ok {P : Program} {w : World} {H : Hp} {h : Heap} {a C : Addr} {d : Option Addr} {oe : Obj} {vs : Array Value} (e : h.get? a = some oe) (z : Zc (.ref C) d oe) (dd : oe.data = .fields vs) : ObjOk P w H h a (exk a C d) :=
  ⟨⟨oe, vs, e, z, dd⟩, ⟨oe, e⟩, fun _ _ ⟨o, v, q, r⟩ k => ⟨o, v, k o q, r⟩⟩
section
variable {X : Cx} {pins : List (Addr × Obj)} {σ : L2.St} {H : Hp} {s : Shared}
theorem inv_track {a C : Addr} {d : Option Addr} {oe : Obj} {vs : Array Value} (I : Inv X pins σ H s) (ha : s.heap.get? a = some oe) (z : Zc (.ref C) d oe) (dd : oe.data = .fields vs) (na : H a = none) (n0 : X.s_0.heap.get? a = none) (nL : a ≠ X.env.locals) (np : ∀ p ∈ X.pn ++ pins, p.1 ≠ a) :
    Inv X pins σ (upd H a (exk a C d)) s where
  ok := I.ok
  os := I.os
  bare := I.bare
  base := {
    keep := I.base.keep
    slot := I.base.slot
    free := fun b o e n x => by
      rw [upd_ne (fun q => by rw [q, n0] at e; cases e)]
      exact I.base.free b o e n x
    there := I.base.there
    tups := fun b xs e => by
      have q := I.base.tups b xs e
      rw [upd_ne (ne_of_none q na)]
      exact q
    frzs := fun b o u e => by
      have q := I.base.frzs b o u e
      rw [upd_ne (ne_of_none q na)]
      exact q
    tbls := fun b ps e => by
      obtain ⟨m, q⟩ := I.base.tbls b ps e
      exact ⟨m, by rw [upd_ne (ne_of_none q na)]; exact q⟩ }
  loc := I.loc
  cell := I.cell
  free := by
    rw [upd_ne nL.symm]
    exact I.free
  freeC := fun x c e => by
    have n : c ≠ a := fun q => by
      obtain ⟨v, o, ho, hd⟩ := I.cell x c e
      rw [q, ha] at ho
      cases ho
      rw [dd] at hd
      cases hd
    rw [upd_ne n]
    exact I.freeC x c e
  pin := fun p hp => by
    obtain ⟨p1, p2, p3, p4, p5⟩ := I.pin p hp
    exact ⟨p1, by rw [upd_ne (np p hp)]; exact p2, p3, p4, p5⟩
  hok := I.hok.laidN (fun _ _ q => q) na (exk_ok ha z dd)
  len := I.len
end
/-- what the clause 'except x as n' wishes of an exception of the body, where the exception stays known behind the suite -/
def wKeep (K : PySem.W.Frag) (c : Value) (i : Nat) (ts : Addr → Value → Option Addr → TS) (Wout : WX) (D : Ends) : WX := fun cls d σ H =>
  ∃ b, PySem.W.exmOne K cls c = some b ∧ (b = true → ∃ C, cls = .ref C ∧ ∀ a, H a = none → ts a cls d { nx := fun σ' H' => H' a = none → D.nx (σ'.set i none) (upd H' a (exk a C d)), rt := D.rt, bk := fun σ' H' => D.bk (σ'.set i none) H', ct := fun σ' H' => D.ct (σ'.set i none) H' } (σ.set i (some (.ref a))) H) ∧
    (b = false → Wout cls d σ H)
section
variable {X : Cx} {x n : Str} {c : Value} {i : Nat} {body suite : List Stmt} {b₀ : Stmt} {np pos pos' : Pos} {tb : WX → TS} {ts : Addr → Value → Option Addr → TS} {Wout : WX}
theorem ps_try_keep (hs : X.stack = X.env :: X.outer) (hf : X.env.frame = some X.env.locals) (hex : X.ex = []) (hN : X.N.Nodup) (hi : X.N[i]? = some n) (hln : X.env.kindOf n = some .local) (hc : Names X x c) (tk : Takes X Wout)
    (hb : ∀ (W : WX) (pn : List (Addr × Obj)) (xe : Value → Shared → Prop), Takes (X.tr pn xe) W → PassesOwn (model X.prog X.w) X.A X.env xe → PSs (X.tr pn xe) body (tb W))
    (hsu : ∀ (a : Addr) (oe : Obj) (cls : Value) (d : Option Addr) (pn : List (Addr × Obj)), Zc cls d oe → (∃ vs, oe.data = .fields vs) → PSs (X.suite a ((a, oe) :: pn)) (b₀ :: suite) (ts a cls d)) :
    PS X (.Try body [.ExceptHandler (some (.Name x np)) (some n) (b₀ :: suite) pos'] [] [] pos) (fun D σ H => tb (wKeep X.K c i ts Wout D) D σ H) := by
  refine ⟨fun pins s σ H D I h => ?_⟩
  have ok := I.ok
  have hfr : X.A.frames = some (X.env :: X.outer) := by rw [ok.frames, hs]
  have hloc : Loc X.env.scope n := .inl hln
  refine wpAny_Try_except ?_
  refine wpAny_mono ((hb (wKeep X.K c i ts Wout D) (X.pn ++ pins) (fun e s₁ => wpAny (model X.prog X.w) X.A (noteFrame e X.env) (fun _ s₂ => wpAny (model X.prog X.w) X.A (setFlight e none) (fun _ s₃ =>
    wpAny (model X.prog X.w) X.A (handleBy e X.env [.ExceptHandler (some (.Name x np)) (some n) (b₀ :: suite) pos']) (SP X pins D) X.xe s₃) X.xe s₂) X.xe s₁) (fun u s' xx => ?_) PassesOwn.looking).run [] s σ H D (I.toTry _) h) (fun f s1 hsp => ?_) (fun e s1 he => he)
  · -- the catch
    obtain ⟨a, B, sI, pins', σ', H', cls, d, rfl, J', nb, up, sky, na, os, ag, b, hb1, hyes, hno⟩ := xx
    have J : Inv X pins σ' H' sI := J'.ofTry ok
    have sky' : Sky B (X.env :: X.outer) a (Zc cls d) X.env.locals s'.heap := by rw [← hs]; exact sky
    show wpAny (model X.prog X.w) X.A (noteFrame (.ref a) X.env) _ _ _
    refine Sky.land Zc.steady hfr hf sky' fun h3 fl3 up3 => ?_
    have J3 : Inv X pins σ' H' { s' with heap := h3 } := J.landed nb fl3.1 (up.trans up3) os ag
    obtain ⟨oe3, vs3, he3, hz3, hd3⟩ := fl3.there
    have notFr : ∀ {h : Heap} {o : Obj} {vs : Array Value}, h.FunFrames B (X.env :: X.outer) → h.get? a = some o → o.data = .fields vs → a ∉ frs (X.env :: X.outer) := fun {h o vs} ff e dd hm => by
      obtain ⟨_, o', e', hnf⟩ := ff.mem hm
      rw [e] at e'; cases e'
      exact hnf _ dd
    have nfr := notFr fl3.2.2.1 he3 hd3
    have nL : a ≠ X.env.locals := fun z => nfr (List.mem_filterMap.mpr ⟨X.env, List.mem_cons_self, by rw [hf, z]⟩)
    have nF : a ∉ X.fs := fun hm => by
      obtain ⟨e, he, q⟩ := List.mem_filterMap.mp hm
      exact nfr (List.mem_filterMap.mpr ⟨e, List.mem_cons_of_mem _ he, q⟩)
    have nI : sI.heap.get? a = none := by
      cases q : sI.heap.get? a with
      | none => rfl
      | some o =>
        have z := nb a o q (by rw [hs]; exact nfr)
        rw [fl3.2.1] at z
        cases z
    have n0 : X.s_0.heap.get? a = none := by
      cases q : X.s_0.heap.get? a with
      | none => rfl
      | some o =>
        obtain ⟨o', z⟩ := J.base.there a o q (by rw [hex]; exact fun w => nomatch w)
        rw [nI] at z
        cases z
    have nP : ∀ p ∈ X.pn ++ pins, p.1 ≠ a := fun p hp z => by
      have q := (J.pin p hp).1
      rw [z, nI] at q
      cases q
    have S3 := J3.suite he3 hd3 na nL nF
    refine wpAny_handleBy_cons (codeAny_handlers_test ?_) (by intro q; cases q)
    have LT : PySem.W.Looks (model X.prog X.w) h3 (typeOf (.ref a)) cls := fun A Q E s k q => wpAny_typeOf_ref (k _ _ he3) (by rw [hz3.1]; exact q)
    have LM := PySem.W.exm_one (M := model X.prog X.w) (J3.kIn) LT hb1
    have test : ∀ {Q : Value → Shared → Prop} {E : Value → Shared → Prop}, Q c { s' with heap := h3 } → wpAny (model X.prog X.w) (X.A.mark (some (.ref a))) (eval (.Name x np) X.env) Q E { s' with heap := h3 } := fun {Q E} q => by
      obtain ⟨hg, hdbg, hm | ⟨hm, hv, hnn⟩⟩ := hc
      · exact ld_glob (X := X.suite a ((a, oe3) :: (X.pn ++ pins))) S3 hg hm q hdbg
      · exact ld_blt (X := X.suite a ((a, oe3) :: (X.pn ++ pins))) S3 hg hm hv q hnn hdbg
    refine test (LM.here ?_)
    cases b with
    | true =>
      refine codeAny_handlers_suite_as ?_
      refine HandSPX.lands_againZ fl3 fun h4 fl4 up4 => ?_
      have J4 : Inv X pins σ' H' { s' with heap := h4 } := J.landed nb fl4.1 ((up.trans up3).trans up4) os ag
      obtain ⟨oe4, vs4, he4, hz4, hd4⟩ := fl4.there
      have S4 := J4.suite he4 hd4 na nL nF
      obtain ⟨C, ec, hyes2⟩ := hyes rfl
      refine store_ok (X := X.suite a ((a, oe4) :: (X.pn ++ pins))) (v := .ref a) S4 hN hi hloc rfl (fun s5 S5 => ?_) (.inr hln)
      refine wpAny_mono ((hsu a oe4 cls d (X.pn ++ pins) hz4 ⟨_, hd4⟩).run [] s5 _ H' _ S5 (hyes2 a na)) (fun f s6 hsp => ?_) (fun _ _ z => False.elim z)
      have end_ : ∀ {σ6 : L2.St} {H6 : Hp} {Q : Shared → Prop}, Inv (X.suite a ((a, oe4) :: (X.pn ++ pins))) [] σ6 H6 s6 → (∀ s7, Inv (X.suite a ((a, oe4) :: (X.pn ++ pins))) [] (σ6.set i none) H6 s7 → Q s7) →
          wpAny (model X.prog X.w) X.A (do bindName X.env n .none; unbindBehindTheSuite X.env n pos') (fun _ s7 => Q s7) X.xe s6 := fun {σ6 H6 Q} S6 hq =>
        gone_ok (X := X.suite a ((a, oe4) :: (X.pn ++ pins))) S6 hN hi hln hq
      cases f with
      | next =>
        obtain ⟨σ6, H6, S6, q6⟩ := hsp
        refine end_ S6 fun s7 S7 => ?_
        obtain ⟨ha7, na7, _, _, _⟩ := S7.pin (a, oe4) (List.mem_append_left _ List.mem_cons_self)
        have hz5 : Zc (.ref C) d oe4 := by
          rw [← ec]
          exact hz4
        exact ⟨_, _, inv_track (S7.unsuite ok) ha7 hz5 hd4 na7 n0 nL nP, q6 na7⟩
      | brk =>
        obtain ⟨σ6, H6, S6, q6⟩ := hsp
        exact end_ S6 fun s7 J7 => ⟨_, _, J7.unsuite ok, q6⟩
      | cont =>
        obtain ⟨σ6, H6, S6, q6⟩ := hsp
        exact end_ S6 fun s7 J7 => ⟨_, _, J7.unsuite ok, q6⟩
      | ret u =>
        obtain ⟨v6, σ6, H6, S6, r6, q6⟩ := hsp
        exact end_ S6 fun s7 J7 => ⟨_, _, _, J7.unsuite ok, r6, q6⟩
    | false =>
      show wpAny _ X.A (handleBy (.ref a) X.env []) _ _ _
      refine wpAny_handleBy_nil ?_
      obtain ⟨k1, k2, k3, oe, vs, T, oT, ts', he, hz, hd, h1, hr⟩ := id fl3
      unfold PySem.passOn
      refine wpAny_bind (wpAny_field he hd h1 ?_)
      rw [if_neg (show ¬ ((Value.ref T == Value.none) = true) from by simp)]
      have fin : wpAny (model X.prog X.w) X.A (setFlight (.ref a) X.env.frame) (fun _ s4 => wpAny (model X.prog X.w) X.A (throw (.ref a) : Sem Flow) (SP X pins D) X.xe s4) X.xe { s' with heap := h3 } := by
        rw [hf]
        refine HandSPX.setFlight_upZ fl3 fun h4 hh4 up4 => wpAny_throw (tk _ _ ?_)
        exact ⟨a, B, sI, pins, σ', H', cls, d, rfl, J, nb, (up.trans up3).trans up4, .inr (.inr (by rw [hs]; exact hh4)), na, os, ag, hno rfl⟩
      first
        | exact wpAny_bind (wpAny_pure (wpAny_bind fin))
        | exact wpAny_bind fin
  · cases f with
    | next =>
      obtain ⟨σ', H', J', q⟩ := hsp
      exact wpAny_execs_nil ⟨σ', H', J'.ofTry ok, q⟩
    | brk =>
      obtain ⟨σ', H', J', q⟩ := hsp
      exact ⟨σ', H', J'.ofTry ok, q⟩
    | cont =>
      obtain ⟨σ', H', J', q⟩ := hsp
      exact ⟨σ', H', J'.ofTry ok, q⟩
    | ret u =>
      obtain ⟨v, σ', H', J', r, q⟩ := hsp
      exact ⟨v, σ', H', J'.ofTry ok, r, q⟩
end
/-- a kept exception at a: its class C, its dict at dx, its fields -/
structure XKt (H : Hp) (a C dx : Addr) (fs : List (Str × V)) : Prop where
  e : H a = some (exk a C (some dx))
  d : H dx = some (exd dx fs)
theorem XKt.same {H H' : Hp} {a C dx : Addr} {fs : List (Str × V)} (h : XKt H a C dx fs) (s : Same H H') : XKt H' a C dx fs := ⟨s _ _ h.e, s _ _ h.d⟩
theorem xkt_inst {X : Cx} {pins : List (Addr × Obj)} {σ : L2.St} {H : Hp} {s : Shared} {a C dx : Addr} {fs : List (Str × V)} (I : Inv X pins σ H s) (h : XKt H a C dx fs) :
    ∃ (oe od : Obj) (mA : Str → Option Value), PySem.W.InstAt s.heap a oe C (some od) ∧ s.heap.Ns1 dx mA ∧ (∀ f, RelO (fs.lookup f) (mA f)) ∧ ∀ f, PySem.W.lookIn f od = some (mA f) := by
  obtain ⟨⟨oe, vs, he, hz, hd⟩, _, _⟩ := I.hok a _ h.e
  obtain ⟨mA, hns, rel⟩ := exd_at I.hok h.d
  obtain ⟨od, ho, hl⟩ := lookIn_ns hns
  exact ⟨oe, od, mA, ⟨he, hz.1, by unfold PySem.W.notCls; rw [hd] <;> rfl, by rw [hz.2]; exact ho⟩, hns, rel, hl⟩
section
variable {X : Cx} {e : Expr} {te : TE} {pos : Pos} {n : Str}
/-- e.f, e a kept exception -/
def tXk (K : PySem.W.Frag) (n : Str) (te : TE) : TE := fun σ H Q => te σ H fun x H1 => ∃ (a C dx : Addr) (fs : List (Str × V)) (v : V), x = .ref a ∧ XKt H1 a C dx fs ∧ XfC K C ∧ PySem.W.findIn K (.ref C) n = some none ∧ fs.lookup n = some v ∧ Q v H1
theorem pe_xk (he : PE X e te) (hb : attributeBase e n X.env (eval e X.env) = eval e X.env := by rfl) : PE X (.Attribute e n pos) (tXk X.K n te) := by
  refine ⟨fun pins s σ H Q I h => ?_⟩
  refine attr_of hb (thn (he.run pins s σ H _ I h) fun u s1 hh => ?_)
  obtain ⟨x, H1, I1, rx, a, C, dx, fs, v, ex, xa, T, hno, l, q⟩ := hh
  subst ex
  obtain rfl : u = Value.ref a := rx
  obtain ⟨oe, od, mA, J, hns, hr, hl⟩ := xkt_inst I1 xa
  obtain ⟨u, hu, ru⟩ := RelO.some_of (v := v) (o := mA n) (by rw [← l]; exact hr n)
  exact HandSPX.exc_get I1.kIn J T.ga T.gg T.exC (PySem.W.findObj_own T.hdC hno rfl (by rw [hl, hu])) (handed_of ru) ⟨v, H1, I1.tok _, ru, q⟩
/-- isinstance(e, c), e a kept exception -/
def rIsK (K : PySem.W.Frag) : List V → Hp → VK → Prop := fun xs H Q => ∃ (a C dx : Addr) (fs : List (Str × V)) (c : V) (u : Value) (b : Bool), xs = [.ref a, c] ∧ XKt H a C dx fs ∧ ExcC K C ∧ ClsV c u ∧ PySem.W.kitOne K (.ref C) u = some b ∧ Q (.bl b) H
theorem call_isK : CallR X (.builtin "isinstance") (rIsK X.K) := by
  intro pins s σ H xs us Q I r h
  obtain ⟨a, C, dx, fs, c, u, b, rfl, xa, E, k, e, q⟩ := h
  obtain ⟨u1, u2, rfl, r1, r2⟩ := vals2 r
  have e2 := k.eq r2
  subst e2
  obtain rfl : u1 = Value.ref a := r1
  obtain ⟨oe, od, mA, J, _⟩ := xkt_inst I xa
  exact PySem.W.kia_one (PySem.W.kitx_exc (cls_some E.hd) E.hg E.hk E.hs E.ha E.hn E.ht E.hm) I.kIn J e (fun z => nomatch z) fun tk => ⟨.bl b, H, I.tok tk, rfl, q⟩
end
end My

set_option maxHeartbeats 4000000
namespace My
open PySem PySem.Spec PyProof.Rows L2
local macro_rules | `(tactic| walk_at "rd1") => `(tactic| first
  | refine ⟨_, rfl, ?_⟩
  | refine ⟨_, _, rfl, rfl, ?_⟩
  | refine Or.inl ⟨_, rfl, ?_⟩
  | refine Or.inr ⟨_, rfl, ?_⟩
  | refine ⟨_, _, _, _, rfl, rfl, Or.inl (Or.inl (by assumption)), rfl, ?_⟩
  | refine ⟨_, _, rfl, Or.inl (Or.inl (Or.inl (by assumption))), ?_⟩)
local macro_rules | `(tactic| walk_at "rd") => `(tactic| repeat walk_at "rd1")
abbrev sNeedX : Stmt := top 24
abbrev sNeedCut : Stmt := top 25
section
variable {X : Cx} {n : Nat} {C : Addr} {x : Str} {p pos : Pos} {e : Expr} {es : List Expr} {t : TA} {fs : List V → List V → List (Str × V)}
/-- raise C(e, ..): behind it the dict of the new exception is known -/
theorem pmk_raise (hx : X.ex = []) (M : XMade X C n [] fs) (hra : Raises X (.ref C)) (hk : PySem.W.keepIn X.K (.ref C) = true) (hg : Gl X x) (hm : X.mg x = some (.ref C)) (ha : PA X (e :: es) t) (hdb : (x == ("__debug__" : Str)) = false := by decide)
    (he : starEach (e :: es) X.env = (false, eval e X.env) :: starEach es X.env := by rfl) (hpl : (backTo pos (starEach es X.env)).any (·.1) = false := by rfl) :
    PMk X (.Call (.Name x p) (e :: es) [] pos) (fun σ H Q => t σ H fun vs H1 => vs.length = n ∧ (∀ a, H1 a = none → Fr0 X.H_0 a) ∧ ∀ dx, H1 dx = none → Q (.ref C) (some dx) (upd H1 dx (exd dx (fs vs [])))) := by
  intro pins s σ H Q I h
  refine wpAny_Call_Name_kw (ld_glob I hg hm ?_ hdb)
  refine PySem.W.callWith_K (h₀ := X.base) I.ok.mod.kin hk (thn (ha.run pos pins s σ H _ I h) fun us s1 ⟨vs, H1, I1, r, l1, f0, q⟩ => ⟨I1.kIn, ?_⟩) he hpl
  refine wpAny_mono (M pins σ H1 s1 (fun v H' => ∃ a dx, v = .ref a ∧ H1 a = none ∧ H1 dx = none ∧ dx ≠ a ∧ H' = upd (upd H1 dx (exd dx (fs vs []))) a (exo a C (some dx))) us [] vs [] I1 r .nil l1 rfl
    (fun a dx h1 h2 h3 => ⟨a, dx, rfl, h1, h2, h3, rfl⟩)) (fun u s2 hu => ?_) fun _ _ z => z
  obtain ⟨v, H2, I2, rv, a, dx, rfl, ha1, hd1, hne, rfl⟩ := hu
  cases rv
  have hA : upd (upd H1 dx (exd dx (fs vs []))) a (exo a C (some dx)) a = some (exo a C (some dx)) := upd_same
  obtain ⟨t1, ho⟩ := exo_at I2.hok hA
  obtain ⟨G, gs, ga, J⟩ := I2.untrack hA (f0 a ha1) hx
  have eq : delH (upd (upd H1 dx (exd dx (fs vs []))) a (exo a C (some dx))) a = upd H1 dx (exd dx (fs vs [])) := delH_new (by rw [upd_ne hne.symm]; exact ha1)
  rw [eq] at J
  exact ⟨a, _, _, { s2 with heap := G }, _, .ref C, some dx, rfl, J, gs, ga, ho, ⟨rfl, rfl⟩, rfl, rfl, by rw [upd_ne hne.symm]; exact ha1, rfl, I2.bare, hra, q dx hd1⟩
end
/-- an exception of the class at C with these fields leaves -/
def Rz (C : Addr) (fs : List (Str × V)) (H : Hp) (E : XK) : Prop := ∀ dx, H dx = none → E (.ref C) (some dx) (upd H dx (exd dx fs))
/-- the class at C raised by a text: what its call wants, in every body -/
structure RzC (Pr : Program) (K : PySem.W.Frag) (mg : Str → Option Value) (x : Str) (C : Addr) (fld : Str) : Prop where
  made : MadeK Pr K mg C 1 [] (fs1 fld)
  exc : PySem.W.subIn K (.ref C) (.type "BaseException") = some true
  ty : PySem.W.typeIn K (.ref C) = some (.type "type")
  kp : PySem.W.keepIn K (.ref C) = true
  mC : mg x = some (.ref C)
def spNeedX (C : Addr) : Sp := fun vs H Q E => ∃ v d y, vs = [v, y] ∧ Dh H v d ∧ (inB (-549755813888) 549755813888 d = true → Q .non H) ∧ (inB (-549755813888) 549755813888 d = false → Rz C [("part", y)] H E)
def spNeedCut (C : Addr) : Sp := fun vs H Q E => ∃ v w d e, vs = [v, w] ∧ Dh H v d ∧ Dh H w e ∧ ((inB (-549755813888) 549755813888 d && inB 2 1048576 e) = true → Q .non H) ∧
  (inB (-549755813888) 549755813888 d = false → Rz C [("part", .str "x")] H E) ∧ (inB (-549755813888) 549755813888 d = true → inB 2 1048576 e = false → Rz C [("part", .str "z")] H E)
structure TxtN (mg : Str → Option Value) : Prop where
  mX : ∃ t, mg "MOST_X" = some (.int 549755813888 t)
  lZ : ∃ t, mg "LEAST_Z" = some (.int 2 t)
  mZ : ∃ t, mg "MOST_Z" = some (.int 1048576 t)
section
variable {P : Program} {w : World} {K : PySem.W.Frag} {mg : Str → Option Value} {base : Heap} {f fI fX C : Addr} {fd fdI fdX : FuncData}
theorem scNX : FnScope ["x", "part"] ["x", "part"] (defScope sNeedX) := ⟨rfl, rfl, rfl, by decide +kernel, rfl, by decide +kernel, by decide +kernel⟩
theorem scNC : FnScope ["x", "z"] ["x", "z"] (defScope sNeedCut) := ⟨rfl, rfl, rfl, by decide +kernel, rfl, by decide +kernel, by decide +kernel⟩
theorem ok_needx (F : FunD K "need_x" "need_x" (defArgs sNeedX) (defBody sNeedX) (defScope sNeedX) [.str "x"] [] f fd) (FI : FnP K "is_within" sIsIn fI fdI) (GI : FnOk P w K mg base CX0 2 fI fdI ["value", "least", "most"] spIsIn) (bI : Binds K fdI ["value", "least", "most"] []) (mI : mg "is_within" = some (.ref fI))
    (N : TxtN mg) (R : RzC P K mg "BadNumber" C "part") : FnOk P w K mg base (L2.CX P w) 3 f fd ["x", "part"] (spNeedX C) := by
  refine F.ok scNX (fun vs H Q E h => ?_) (fun cdv A outer s H vs Q E hr h => ?_)
  · obtain ⟨v, d, y, rfl, _⟩ := h
    rfl
  obtain ⟨v, d, y, rfl, hd, k1, k2⟩ := h
  have nd := scNX.nd
  obtain ⟨tx, mX⟩ := N.mX
  refine ⟨_, pss_one (ps_if (pt_not (pt_val (pe_call GI hr (by rfl) mI FI.kp bI .nil pass0 (pa_cons (pv 0) (pa_cons (pe_un un_neg (pe_glob (v := .int 549755813888) (by rfl) mX ⟨_, rfl⟩)) (pa_cons (pe_glob (v := .int 549755813888) (by rfl) mX ⟨_, rfl⟩) pa_nil))))))
    (pss_one (ps_raise rfl (takes_of rfl rfl rfl rfl) (pmk_raise rfl (R.made _ rfl rfl rfl (hr.mono (by decide))) (raises_own R.exc R.ty) R.kp (by rfl) R.mC (pa_cons (pv 1) pa_nil)))) pss_nil), ?_⟩
  refine ⟨_, rfl, _, rfl, v, d, _, _, rfl, hd, _, rfl, ?_⟩
  refine ite2 (fun c => ?_) (fun c => ?_)
  · have c2 : inB (-549755813888) 549755813888 d = false := by
      cases z : inB (-549755813888) 549755813888 d with
      | false => rfl
      | true =>
        rw [show (!inB (-549755813888) 549755813888 d) = false by rw [z]; rfl] at c
        cases c
    refine ⟨y, rfl, rfl, fun a ha => fr0_none ha, fun dx hdx => ?_⟩
    exact k2 c2 dx hdx
  · have c2 : inB (-549755813888) 549755813888 d = true := by
      cases z : inB (-549755813888) 549755813888 d with
      | true => rfl
      | false => exact absurd (show (!inB (-549755813888) 549755813888 d) = true by rw [z]; rfl) c
    exact k1 c2
theorem ok_needcut (F : FnP K "need_cut" sNeedCut f fd) (FX : FunD K "need_x" "need_x" (defArgs sNeedX) (defBody sNeedX) (defScope sNeedX) [.str "x"] [] fX fdX) (GX : FnOk P w K mg base (L2.CX P w) 3 fX fdX ["x", "part"] (spNeedX C)) (mX : mg "need_x" = some (.ref fX))
    (FI : FnP K "is_within" sIsIn fI fdI) (GI : FnOk P w K mg base CX0 2 fI fdI ["value", "least", "most"] spIsIn) (bI : Binds K fdI ["value", "least", "most"] []) (mI : mg "is_within" = some (.ref fI))
    (N : TxtN mg) (R : RzC P K mg "BadNumber" C "part") : FnOk P w K mg base (L2.CX P w) 4 f fd ["x", "z"] (spNeedCut C) := by
  refine F.ok scNC (fun vs H Q E h => ?_) (fun cdv A outer s H vs Q E hr h => ?_)
  · obtain ⟨v, w, d, e, rfl, _⟩ := h
    rfl
  obtain ⟨v, w, d, e, rfl, hd, he, k1, k2, k3⟩ := h
  have nd := scNC.nd
  obtain ⟨t1, lZ⟩ := N.lZ
  obtain ⟨t2, mZ⟩ := N.mZ
  obtain ⟨ds, rd, bX⟩ := FX.binds1 (ps := ["x", "part"]) 1 0 (by simp) rfl (fun T kV doc pm an cdv ct us its l1 l2 => by
    match us, its, l1, l2 with
    | [u], [i], _, _ => exact ⟨_, rfl, rfl⟩)
  refine ⟨_, pss_cons (ps_expr (pe_call GX hr (by rfl) mX FX.kp bX rd (passes_call (W := fun cls d _ H => E cls d H) (takes_of rfl rfl rfl rfl) fun _ _ _ _ z => z) (pa_cons (pv 0) pa_nil)))
    (pss_one (ps_if (pt_not (pt_val (pe_call GI (hr.mono (by decide)) (by rfl) mI FI.kp bI .nil pass0 (pa_cons (pv 1) (pa_cons (pe_glob (v := .int 2) (by rfl) lZ ⟨_, rfl⟩) (pa_cons (pe_glob (v := .int 1048576) (by rfl) mZ ⟨_, rfl⟩) pa_nil))))))
    (pss_one (ps_raise rfl (takes_of rfl rfl rfl rfl) (pmk_raise rfl (R.made _ rfl rfl rfl (hr.mono (by decide))) (raises_own R.exc R.ty) R.kp (by rfl) R.mC (pa_cons pe_str pa_nil)))) pss_nil)), ?_⟩
  refine ⟨v, rfl, v, d, .str "x", rfl, hd, fun c1 => ?_, fun c1 => k2 c1⟩
  refine ⟨_, rfl, w, e, _, _, rfl, he, _, rfl, ?_⟩
  refine ite2 (fun c => ?_) (fun c => ?_)
  · have c2 : inB 2 1048576 e = false := by
      cases z : inB 2 1048576 e with
      | false => rfl
      | true =>
        rw [show (!inB 2 1048576 e) = false by rw [z]; rfl] at c
        cases c
    exact ⟨rfl, fun a ha => fr0_none ha, fun dx hdx => k3 c1 c2 dx hdx⟩
  · have c2 : inB 2 1048576 e = true := by
      cases z : inB 2 1048576 e with
      | true => rfl
      | false => exact absurd (show (!inB 2 1048576 e) = true by rw [z]; rfl) c
    exact k1 (by rw [c1, c2]; rfl)
end
end My

set_option maxHeartbeats 4000000
namespace My
open PySem PySem.Spec PyProof.Rows L2
local macro_rules | `(tactic| walk_at "rd1") => `(tactic| first
  | refine ⟨_, rfl, ?_⟩
  | refine ⟨_, _, rfl, rfl, ?_⟩
  | refine Or.inl ⟨_, rfl, ?_⟩
  | refine Or.inr ⟨_, rfl, ?_⟩
  | refine ⟨_, _, _, _, rfl, rfl, Or.inl (Or.inl (by assumption)), rfl, ?_⟩
  | refine ⟨_, _, rfl, Or.inl (Or.inl (Or.inl (by assumption))), ?_⟩)
local macro_rules | `(tactic| walk_at "rd") => `(tactic| repeat walk_at "rd1")
abbrev sHasCut : Stmt := top 30
def spIsListed : Sp := fun vs H Q _ => ∃ a xs, vs = [.ref a] ∧ H a = some (.tup xs) ∧ ∀ H', Same H H' → Q (.bl true) H'
def spAreInts : Sp := fun vs H Q _ => ∃ a xs ds m, vs = [.ref a, .int m] ∧ H a = some (.tup xs) ∧ xs.length ≤ 100 ∧ DhAll H xs ds ∧ ∀ H', Same H H' → Q (.bl (decide ((xs.length : Int) = m) && ds.all isI)) H'
structure TxtA (mg : Str → Option Value) : Prop where
  n_isi : mg "isinstance" = none
  n_list : mg "list" = none
  n_tuple : mg "tuple" = none
  n_len : mg "len" = none
  n_all : mg "all" = none
section
variable {P : Program} {w : World} {K : PySem.W.Frag} {mg : Str → Option Value} {base : Heap} {f fI fL : Addr} {fd fdI fdL : FuncData}
theorem scIL : FnScope ["value"] ["value"] (defScope sIsListed) := ⟨rfl, rfl, rfl, by decide +kernel, rfl, by decide +kernel, by decide +kernel⟩
theorem ok_islisted (F : FnP K "is_listed" sIsListed f fd) (T : TxtA mg) : FnOk P w K mg base CX0 1 f fd ["value"] spIsListed := by
  refine F.ok scIL (fun vs H Q E h => ?_) (fun cdv A outer s H vs Q E hr h => ?_)
  · obtain ⟨a, xs, rfl, _⟩ := h
    rfl
  obtain ⟨a, xs, rfl, ha, k⟩ := h
  have nd := scIL.nd
  refine ⟨_, PSs.nox (pss_one (ps_ret (pe_callB call_isiT (by rfl) T.n_isi (by decide +kernel) (pa_cons (pv 0) (pa_cons (pe_tup (pa_cons (pe_bltn (v := .ty "list") (by rfl) T.n_list (by decide +kernel) rfl) (pa_cons (pe_bltn (v := .ty "tuple") (by rfl) T.n_tuple (by decide +kernel) rfl) pa_nil))) pa_nil))))), ?_⟩
  walk_at "rd"
  refine ⟨by decide, fun tp htp => ?_⟩
  have s1 : Same H (upd H tp (HO.tup [V.ty "list", V.ty "tuple"])) := same_new htp _
  refine ⟨V.ref a, tp, [V.ty "list", V.ty "tuple"], .type "tuple", [.type "list", .type "tuple"], true, rfl, upd_same, .cons (.ty _) (.cons (.ty _) .nil), .base (.tup (s1 _ _ ha)), (kitAny_cons (b := false) (kit_ty (by decide +kernel)) (fun _ => (kitAny_cons (b := true) (kit_ty (by decide +kernel)) (fun z => nomatch z) (fun _ => rfl))) (fun z => nomatch z)), ?_⟩
  exact k _ s1
theorem scAI : FnScope ["value", "many", "part"] ["value", "many"] (defScope sAreInts) := ⟨rfl, rfl, rfl, by decide +kernel, rfl, by decide +kernel, by decide +kernel⟩
theorem ok_areints (F : FnP K "are_integers" sAreInts f fd) (FL : FnP K "is_listed" sIsListed fL fdL) (GL : FnOk P w K mg base CX0 1 fL fdL ["value"] spIsListed) (bL : Binds K fdL ["value"] []) (mL : mg "is_listed" = some (.ref fL))
    (FI : FnP K "is_integer" sIsInt fI fdI) (GI : FnOk P w K mg base CX0 1 fI fdI ["value"] spIsInt) (bI : Binds K fdI ["value"] []) (mI : mg "is_integer" = some (.ref fI)) (T : TxtA mg) :
    FnOk P w K mg base CX0 2 f fd ["value", "many"] spAreInts := by
  refine F.ok scAI (fun vs H Q E h => ?_) (fun cdv A outer s H vs Q E hr h => ?_)
  · obtain ⟨a, xs, ds, m, rfl, _⟩ := h
    rfl
  obtain ⟨a, xs, ds, m, rfl, ha, hl, hds, k⟩ := h
  have nd := scAI.nd
  refine ⟨_, PSs.nox (pss_one (ps_ret (pe_and (pe_call GL hr (by rfl) mL FL.kp bL .nil pass0 (pa_cons (pv 0) pa_nil)) (pe_and (pe_cmpR op_eq (pe_callB call_len_seq (by rfl) T.n_len PySem.boot_len (pa_cons (pv 0) pa_nil)) (pv 1) (nomark _))
    (pe_one (pe_callB (cr_all rfl) (by rfl) T.n_all (by decide +kernel) (pa_cons (pe_lc (own := [("part", 2)]) (g := gName 2) (tt := tYes) rfl nd (pi_tup (pv 0)) (blkOk_by (N := ["value", "many", "part"]) (sc := defScope sAreInts) (by decide +kernel)) (fun _ _ _ _ _ => pg_name (i := 2) nd rfl (Or.inl rfl)) (fun _ _ _ _ _ => pts_nil) (fun _ _ _ _ _ => (pe_call GI hr (by rfl) mI FI.kp bI .nil pass0 (pa_cons (pv 2) pa_nil)))) pa_nil))))))), ?_⟩
  refine ⟨_, rfl, a, xs, rfl, ha, fun H1 s1 => ?_⟩
  refine ⟨_, rfl, ?_⟩
  refine iteT ?_
  have h1 := s1 _ _ ha
  refine ⟨_, rfl, a, xs, rfl, .inr (.inl (.inl h1)), _, rfl, rfl, _, rfl, ?_⟩
  refine ite2 (fun c => ?_) (fun c => ?_)
  · have c2 : decide ((xs.length : Int) = m) = true := by
      have c3 := of_decide_eq_true c
      injection c3 with c4
      exact decide_eq_true c4
    rw [c2, Bool.true_and] at k
    refine ⟨_, rfl, a, rfl, ⟨xs, .inl (.inl h1)⟩, fun D hD => lc_tup (xs := xs) (fun i H2 => H2 D = some (.lst (((ds.map isI).take i).map V.bl)) ∧ Same H1 H2)
      ⟨upd_same, same_new hD _⟩ (fun i H2 _ ⟨_, e2⟩ => .inl (.inl (e2 _ _ h1))) ?_ ?_⟩
    · rintro i x H2 hx ⟨hD2, e2⟩
      have hi : i < xs.length := (List.getElem?_eq_some_iff.mp hx).1
      obtain ⟨d, hd1, hd2⟩ := hds.get hx
      refine ⟨rfl, ?_⟩
      refine ⟨x, rfl, x, d, rfl, Dh.same (s1.trans e2) _ _ hd2, ?_⟩
      refine ⟨((ds.map isI).take i).map V.bl, hD2, ?_, ?_, ?_⟩
      · rw [List.length_map, List.length_take]
        exact Nat.lt_of_le_of_lt (Nat.min_le_left _ _) (Nat.lt_of_lt_of_le (Nat.lt_of_lt_of_le hi hl) (by decide))
      · have hg : (ds.map isI)[i]? = some (isI d) := by rw [List.getElem?_map, hd1]; rfl
        rw [upd_same, take_succ' hg, List.map_append]
        rfl
      · exact fun q o hq => by rw [upd_ne (ne_of_none hq hD)]; exact e2 _ _ hq
    · rintro H2 ⟨hD2, e2⟩
      refine ⟨D, (ds.map isI).take xs.length, rfl, .inl (.inl hD2), ?_⟩
      have z3 : (ds.map isI).take xs.length = ds.map isI := List.take_of_length_le (by rw [List.length_map, hds.len]; exact Nat.le_refl _)
      rw [z3]
      have z := k H2 (s1.trans e2)
      have e5 : (ds.map isI).all id = ds.all isI := by rw [List.all_map]; rfl
      rw [e5]
      exact z
  · have c2 : decide ((xs.length : Int) = m) = false := by
      refine decide_eq_false fun q => c ?_
      rw [q]
      exact decide_eq_true rfl
    rw [c2, Bool.false_and] at k
    exact k H1 s1
end
def cutIn (c : Ce) (x z : Int) : Bool := (decide (c.zl ≤ z) && decide (z ≤ c.zh)) && ((decide (c.lo ≤ x) && decide (x ≤ c.hi)) && (decide (c.fi ≤ (x - c.lo) % c.pe) && decide ((x - c.lo) % c.pe ≤ c.la)))
def spHasCut (K : PySem.W.Frag) : Sp := fun vs H Q _ => ∃ a C c x z, vs = [.ref a, .int x, .int z] ∧ CeAt K C H a c ∧ 0 < c.pe ∧ Q (.bl (cutIn c x z)) H
section
variable {P : Program} {w : World} {K : PySem.W.Frag} {mg : Str → Option Value} {base : Heap} {f : Addr} {fd : FuncData}
theorem scHC : FnScope ["cell", "x", "z"] ["cell", "x", "z"] (defScope sHasCut) := ⟨rfl, rfl, rfl, by decide +kernel, rfl, by decide +kernel, by decide +kernel⟩
theorem ok_hascut (F : FnP K "has_cut" sHasCut f fd) : FnOk P w K mg base CX0 1 f fd ["cell", "x", "z"] (spHasCut K) := by
  refine F.ok scHC (fun vs H Q E h => ?_) (fun cdv A outer s H vs Q E hr h => ?_)
  · obtain ⟨a, C, c, x, z, rfl, _⟩ := h
    rfl
  obtain ⟨a, C, c, x, z, rfl, ce, pp, k⟩ := h
  obtain ⟨dx, fs, o, l1, l2, l3, l4, l5, l6, l7⟩ := ce.ob
  have nd := scHC.nd
  refine ⟨_, PSs.nox (pss_cons (ps_if (PW.pt (pw_or (pt_not (pt_chain op_le op_le (pe_fld (pv 0) rfl) (pv 2) (pe_fld (pv 0) rfl))) (pw_or1 (pt_not (pt_chain op_le op_le (pe_fld (pv 0) rfl) (pv 1) (pe_fld (pv 0) rfl))))))
      (pss_one (ps_ret pe_bl)) pss_nil)
    (pss_one (ps_ret (pe_chain op_le op_le (pe_fld (pv 0) rfl) (pe_op op_mod (pe_op op_sub (pv 1) (pe_fld (pv 0) rfl)) (pe_fld (pv 0) rfl)) (pe_fld (pv 0) rfl))))), ?_⟩
  refine ⟨_, rfl, a, C, dx, fs, _, rfl, o, ce.cl, ce.na _ (by decide +kernel), l1, ?_⟩
  refine ⟨_, rfl, ?_⟩
  refine ⟨_, _, rfl, rfl, _, rfl, ?_⟩
  have out : cutIn c x z = false → Q (.bl false) H := fun e => by rw [e] at k; exact k
  refine ite2 (fun c1 => ?_) (fun c1 => ?_)
  rotate_left
  · refine ⟨_, rfl, iteT (out ?_)⟩
    unfold cutIn
    rw [Bool.eq_false_iff.mpr c1]
    rfl
  refine ⟨_, rfl, a, C, dx, fs, _, rfl, o, ce.cl, ce.na _ (by decide +kernel), l2, ?_⟩
  refine ⟨_, _, rfl, rfl, _, rfl, ?_⟩
  refine ite2 (fun c2 => ?_) (fun c2 => ?_)
  · refine out ?_
    unfold cutIn
    have c3 : decide (z ≤ c.zh) = false := by
      cases q : decide (z ≤ c.zh) with
      | false => rfl
      | true =>
        rw [show (!decide (z ≤ c.zh)) = false by rw [q]; rfl] at c2
        cases c2
    rw [c3, Bool.and_false]
    rfl
  have c3 : decide (z ≤ c.zh) = true := by
    cases q : decide (z ≤ c.zh) with
    | true => rfl
    | false => exact absurd (show (!decide (z ≤ c.zh)) = true by rw [q]; rfl) c2
  refine ⟨_, rfl, a, C, dx, fs, _, rfl, o, ce.cl, ce.na _ (by decide +kernel), l3, ?_⟩
  refine ⟨_, rfl, _, _, rfl, rfl, _, rfl, ?_⟩
  refine ite2 (fun c4 => ?_) (fun c4 => ?_)
  rotate_left
  · refine ⟨_, rfl, iteT (out ?_)⟩
    unfold cutIn
    rw [Bool.eq_false_iff.mpr c4, Bool.false_and, Bool.false_and, Bool.and_false]
  refine ⟨_, rfl, a, C, dx, fs, _, rfl, o, ce.cl, ce.na _ (by decide +kernel), l4, ?_⟩
  refine ⟨_, _, rfl, rfl, _, rfl, ?_⟩
  refine ite2 (fun c5 => ?_) (fun c5 => ?_)
  · refine out ?_
    unfold cutIn
    have c6 : decide (x ≤ c.hi) = false := by
      cases q : decide (x ≤ c.hi) with
      | false => rfl
      | true =>
        rw [show (!decide (x ≤ c.hi)) = false by rw [q]; rfl] at c5
        cases c5
    rw [c6, Bool.and_false, Bool.false_and, Bool.and_false]
  have c6 : decide (x ≤ c.hi) = true := by
    cases q : decide (x ≤ c.hi) with
    | true => rfl
    | false => exact absurd (show (!decide (x ≤ c.hi)) = true by rw [q]; rfl) c5
  refine ⟨_, rfl, a, C, dx, fs, _, rfl, o, ce.cl, ce.na _ (by decide +kernel), l6, ?_⟩
  refine ⟨_, rfl, ?_⟩
  refine ⟨_, rfl, a, C, dx, fs, _, rfl, o, ce.cl, ce.na _ (by decide +kernel), l3, ?_⟩
  refine ⟨_, _, rfl, rfl, ?_⟩
  refine ⟨_, rfl, a, C, dx, fs, _, rfl, o, ce.cl, ce.na _ (by decide +kernel), l5, ?_⟩
  refine ⟨_, _, rfl, rfl, pp, ?_⟩
  refine ⟨_, _, rfl, rfl, _, rfl, ?_⟩
  have e : cutIn c x z = (decide (c.fi ≤ (x - c.lo) % c.pe) && decide ((x - c.lo) % c.pe ≤ c.la)) := by
    unfold cutIn
    rw [c1, c3, c4, c6]
    rfl
  rw [e] at k
  refine ite2 (fun c7 => ?_) (fun c7 => ?_)
  rotate_left
  · rw [Bool.eq_false_iff.mpr c7] at k
    exact k
  refine ⟨_, rfl, a, C, dx, fs, _, rfl, o, ce.cl, ce.na _ (by decide +kernel), l7, ?_⟩
  rw [c7, Bool.true_and] at k
  exact ⟨_, _, rfl, rfl, k⟩
end
end My

set_option maxHeartbeats 4000000
/-! an own class's __init__ that begins with super().__init__(e, ..), the parent's __init__ a def of the program -/
namespace My
open PySem PySem.Spec PyProof.Rows L2 PySem.W PySem.Calls
/-- the parameters and locals of such a def: its one captured name is __class__ -/
structure SupScope (N ps : List Str) (sc : Scope) : Prop where
  kind : sc.kind = .function
  co : sc.isCoroutine = false
  gen : sc.isGenerator = false
  nd : N.Nodup
  pre : N.take ps.length = ps
  par : ∀ x ∈ ps, sc.names.lookup x = some .local
  nocell : ∀ y ∈ sc.names, y.2 ≠ .cell
  free : ∀ y ∈ sc.names, y.2 = .free → y.1 = "__class__"
  hks : sc.names.lookup ("super" : Str) = some .globalImplicit
  hkc : sc.names.lookup ("__class__" : Str) = some .free
  nloc : ∀ x ∈ N, sc.names.lookup x = some .local
/-- what the written part says of the class at C, of its __init__ at f, of its parent's at g -/
structure SupI (prog : Program) (K : Frag) (C f g : Addr) (name qual : Str) (params : Arguments) (body : List Stmt) (scope : Scope) (fd : FuncData) : Prop where
  su : ks_superIn K C C "__init__" = some (some (.ref g))
  ty : typeIn K (.ref g) = some (.type "function")
  fi : fnIn K g = true
  mo : mroIn K C (.ref C) = some true
  op : nsIn K cStatics "thirdparty.any" = some none
  kp : keepIn K (.ref f) = true
  ex : ∃ (oc : Value) (od : Option Addr) (kV doc pm : Value) (an : Option Addr) (cda : Addr) (ct : Value) (osl : Array (Option Value)) (cc : Addr) (ccl : Value) (cdd : Option Addr) (vs : Array Value) (ccs : Array (Option Value)) (file : Str) (tf : Tok) (cl : Value) (cld : Option Addr) (csl : Array (Option Value)),
    fd = ksFn name qual params body scope .none kV doc pm an (.ref cda) ct cc ∧ K.lookup f = some ⟨oc, od, .func fd, osl⟩ ∧ codeIn K (.ref cda) qual = true ∧
    K.lookup cda = some ⟨ccl, cdd, .fields vs, ccs⟩ ∧ vs[2]? = some (.str file tf) ∧ ((prog.main.file : Str) == file) = true ∧ K.lookup cc = some ⟨cl, cld, .cell (some (.ref C)), csl⟩
/-- the context of such a body -/
def cxS (CX : CXT) (P : Program) (w : World) (K : Frag) (mg : Str → Option Value) (base : Heap) (N : List Str) (qual : Str) (scope : Scope) (f : Addr) (cd : Value) (cc : Addr) (A : Around) (outer : List Env) (s : Shared) (H : Hp) (E : XK) : Cx where
  prog := P
  w := w
  K := K
  mg := mg
  base := base
  A := A.deeper (ksEnv qual scope s.heap.objs.size f cd cc)
  N := N
  s_0 := s
  H_0 := H
  env := ksEnv qual scope s.heap.objs.size f cd cc
  outer := outer
  stack := ksEnv qual scope s.heap.objs.size f cd cc :: outer
  ex := []
  calm := true
  fn := fun _ => false
  pn := []
  xe := fun e s' => wpAny (model P w) (A.deeper (ksEnv qual scope s.heap.objs.size f cd cc)) (leaving (ksEnv qual scope s.heap.objs.size f cd cc) e) (fun _ s'' => CX outer H s E e s'') (fun e' s'' => CX outer H s E e' s'') s'
theorem zip_rev_lookup {ps : List Str} {us : List Value} {i : Nat} {x : Str} {u : Value} (hn : ps.Nodup) (hp : ps[i]? = some x) (hu : us[i]? = some u) : (ps.zip us).reverse.lookup x = some u := by
  have key : ∀ (l : List (Str × Value)), (l.map (·.1)).Nodup → (x, u) ∈ l → l.lookup x = some u := by
    intro l
    induction l with
    | nil => intro _ h; cases h
    | cons q l ih =>
      intro hd hm
      have hd' := List.nodup_cons.mp hd
      rcases List.mem_cons.mp hm with e | hm
      · rw [← e]
        simp [List.lookup]
      · have hne : (x == q.1) = false := by
          exact beq_eq_false_iff_ne.mpr fun z => hd'.1 (List.mem_map.mpr ⟨(x, u), hm, z⟩)
        show (match x == q.1 with | true => some q.2 | false => l.lookup x) = some u
        rw [hne]
        exact ih hd'.2 hm
  have hm : (x, u) ∈ ps.zip us := by
    refine List.mem_of_getElem? (i := i) ?_
    rw [List.getElem?_zip_eq_some]
    exact ⟨hp, hu⟩
  refine key _ ?_ (List.mem_reverse.mpr hm)
  rw [List.map_reverse]
  refine (List.reverse_perm _).nodup_iff.mpr ?_
  have sub : ((ps.zip us).map (·.1)).Sublist ps := by
    clear hn hp hu hm key
    induction ps generalizing us with
    | nil => simp
    | cons p ps ih =>
      cases us with
      | nil => simp
      | cons v us => exact (ih (us := us)).cons_cons p
  exact hn.sublist sub
section
variable {CX : CXT} {P : Program} {w : World} {K : Frag} {mg : Str → Option Value} {base : Heap} {N ps : List Str} {qual : Str} {scope : Scope} {f cc : Addr} {cd : Value} {A : Around} {outer : List Env} {s : Shared} {H : Hp} {E : XK} {us : List Value} {vs : List V}
theorem inv_startS {h0 : Heap} {tk : Nat} {cl : Value} {cld : Option Addr} {v0 : Option Value} {csl : Array (Option Value)} (S : SupScope N ps scope) (hd : A.handled = none) (e0 : Env0 P w K mg base A outer s H) (hl : vs.length = ps.length) (r : Vals vs us)
    (hcc : base.get? cc = some ⟨cl, cld, .cell v0, csl⟩) (hns : h0.Ns s.heap.objs.size (fun x => (ps.zip us).reverse.lookup x)) (kp : ∀ b o, s.heap.get? b = some o → h0.get? b = some o) :
    Inv (cxS CX P w K mg base N qual scope f cd cc A outer s H E) [] (L2.start N vs) H { s with heap := h0, toks := tk } := by
  have hpl : ps.length ≤ N.length := by have := congrArg List.length S.pre; rw [List.length_take] at this; omega
  have noA : ∀ b : Addr, b ∉ (cxS CX P w K mg base N qual scope f cd cc A outer s H E).ex := fun b z => absurd (show b ∈ ([] : List Addr) from z) (by simp)
  have cl1 : ∀ y c, ([("__class__", cc)] : List (Str × Addr)).lookup y = some c → y = "__class__" ∧ c = cc := fun y c h => by
    have h2 : (match y == ("__class__" : Str) with | true => some cc | false => none) = some c := h
    cases e : (y == ("__class__" : Str)) with
    | true =>
      rw [e] at h2
      exact ⟨beq_iff_eq.mp e, (Option.some.inj h2).symm⟩
    | false =>
      rw [e] at h2
      cases h2
  have c0 := e0.bs cc _ hcc
  refine ⟨⟨e0.mod, S.kind, rfl, rfl, Nat.le_refl _, fun y z c h1 h2 => ((cl1 y c h1).1).trans ((cl1 z c h2).1).symm, fun y hy => ?_, fun y c z _ => ?_, fun _ => hd, Around.frames_deeper e0.frames, .inr ⟨rfl, rfl⟩, fun b z => absurd z (noA b), e0.bs, e0.bsz, fun b _ _ => noA b, fun b z => absurd z (noA b), e0.funs, e0.frf⟩,
    rfl, e0.bare, Un.kept kp, ⟨_, hns, fun i y v h1 h2 h3 => ?_⟩, fun y c h => ?_, e0.hok.fresh (Nat.le_refl _), fun y c h => ?_, fun p hp => absurd (show p ∈ ([] : List (Addr × Obj)) from hp) (by simp), e0.hok.kept kp, ?_⟩
  · have hy : scope.names.lookup y = some .cell ∨ scope.names.lookup y = some .free := hy
    rcases hy with hy | hy
    · exact absurd rfl (S.nocell _ (PySem.mem_of_lookup hy))
    · have e := S.free _ (PySem.mem_of_lookup hy) rfl
      exact ⟨cc, by
        show ([("__class__", cc)] : List (Str × Addr)).lookup y = some cc
        rw [show y = "__class__" from e]
        rfl⟩
  · have z : false = true := z
    cases z
  · have hi : i < vs.length := by
      unfold L2.start at h2
      by_cases hi : i < vs.length
      · exact hi
      · rw [List.getElem?_append_right (by simpa using hi)] at h2
        rw [List.getElem?_replicate] at h2
        split at h2 <;> cases h2
    have ha : vs[i]? = some v := by
      unfold L2.start at h2
      rw [List.getElem?_append_left (by simpa using hi), List.getElem?_map] at h2
      cases e : vs[i]? with
      | none => rw [e] at h2; cases h2
      | some a => rw [e] at h2; cases h2; rfl
    obtain ⟨u, hu, rv⟩ := r.get ha
    have hp : ps[i]? = some y := by
      rw [← S.pre, List.getElem?_take_of_lt (by omega)]; exact h1
    have ndP : ps.Nodup := by rw [← S.pre]; exact S.nd.sublist (List.take_sublist _ _)
    exact ⟨u, rv, .inl ⟨S.par y (List.mem_of_getElem? hp), zip_rev_lookup ndP hp hu⟩⟩
  · obtain ⟨_, rfl⟩ := cl1 y c h
    exact ⟨v0, _, kp _ _ c0.1, rfl⟩
  · obtain ⟨_, rfl⟩ := cl1 y c h
    exact c0.2
  · unfold L2.start
    show _ = N.length
    rw [List.length_append, List.length_map, List.length_replicate]
    omega
end
abbrev supCall (p0 p1 p2 p4 p5 : Pos) (args : List Expr) : Stmt := .Expr (.Call (.Attribute (.Call (.Name "super" p0) [] [] p1) "__init__" p2) args [] p4) p5
/-- what the text gives by rfl -/
structure SupC (qual : Str) (scope : Scope) (p0 p1 p2 p4 p5 : Pos) (e0 : Expr) (es : List Expr) : Prop where
  hev : ∀ (L f : Addr) (cd : Value) (cc : Addr), ∃ pl : Sem Bool, eval (.Call (.Attribute (.Call (.Name "super" p0) [] [] p1) "__init__" p2) (e0 :: es) [] p4) (ksEnv qual scope L f cd cc) = (do
      let ov ← attributeBase (.Call (.Name "super" p0) [] [] p1) "__init__" (ksEnv qual scope L f cd cc) (eval (.Call (.Name "super" p0) [] [] p1) (ksEnv qual scope L f cd cc))
      standAt p2.atName
      let (fx, first) ← holding [ov] (getMethod ov "__init__" pl)
      callWith p4 fx first (backTo p4 (starEach (e0 :: es) (ksEnv qual scope L f cd cc))) [])
  hint : ∀ (L f : Addr) (cd : Value) (cc : Addr), interactive (ksEnv qual scope L f cd cc) = false
  hsw : ∀ (L f : Addr) (cd : Value) (cc : Addr), swapsWith (.Call (.Attribute (.Call (.Name "super" p0) [] [] p1) "__init__" p2) (e0 :: es) [] p4) none p5.line (ksEnv qual scope L f cd cc) = pure false
  hpl : ∀ (L f : Addr) (cd : Value) (cc : Addr), (backTo p4 (starEach es (ksEnv qual scope L f cd cc))).any (·.1) = false
  hst : ∀ (L f : Addr) (cd : Value) (cc : Addr), starEach (e0 :: es) (ksEnv qual scope L f cd cc) = (false, eval e0 (ksEnv qual scope L f cd cc)) :: starEach es (ksEnv qual scope L f cd cc)
/-- def __init__(self, ..): super().__init__(e, ..); rest -/
theorem ok_super {P : Program} {w : World} {K : Frag} {mg : Str → Option Value} {base : Heap} {N ps : List Str} {name qual : Str} {scope : Scope} {f g C : Addr} {params : Arguments} {fd : FuncData} {p0 p1 p2 p4 p5 : Pos} {e0 : Expr} {es : List Expr} {rest : List Stmt} {ar : Arg} {k : Nat} {sp spP : Sp}
    (D : SupI P K C f g name qual params (supCall p0 p1 p2 p4 p5 (e0 :: es) :: rest) scope fd) (S : SupScope N ps scope) (B : SupC qual scope p0 p1 p2 p4 p5 e0 es) (M : L2.Mod K mg base)
    (har : (params.posonlyargs ++ params.args).head? = some ar) (hself : ps.head? = some ar.arg) (htop : (P.main.scope.names.lookup ("super" : Str)).isSome = false) (hsup : mg "super" = none)
    (F : FnR P w K mg base CX0 k g spP) (len : ∀ vs H Q E, sp vs H Q E → vs.length = ps.length)
    (hbody : ∀ (cdv : Value) (cc : Addr) (A : Around) (outer : List Env) (s : Shared) (H : Hp) (vs : List V) (Q : VK) (E : XK), Room k (A.deeper (ksEnv qual scope s.heap.objs.size f cdv cc)) → sp vs H Q E →
      ∃ (a dx : Addr) (fs : List (Str × V)) (ta : TA) (t : TS), vs.head? = some (.ref a) ∧ H a = some (.ins C dx fs) ∧ PA (cxS CX0 P w K mg base N qual scope f cdv cc A outer s H E) (e0 :: es) ta ∧ PSs (cxS CX0 P w K mg base N qual scope f cdv cc A outer s H E) rest t ∧
        ∀ q, H q = none → ta (L2.start N vs) (upd H q (.met g a)) fun ws H1 => H1 q = some (.met g a) ∧ spP (.ref a :: ws) H1 (fun _ H2 => t { nx := fun _ H' => Q .non H', rt := Q } (L2.start N vs) H2) E0) :
    FnOk P w K mg base CX0 (k + 1) f fd ps sp := by
  refine ⟨len, fun A outer s H args us vs Q E hr e0' hb r hsp => ?_⟩
  have hl := len _ _ _ _ hsp
  have KX : K.In s.heap := e0'.mod.kin.keeps fun b o e => (e0'.bs b o e).1
  have lim : s.heap.NoLimit := e0'.mod.nolimit.keeps fun b o e => (e0'.bs b o e).1
  obtain ⟨su, ty, fi, mo, op, kp, oc, od, kV, doc, pm, an, cda, ct, osl, cc, ccl, cdd, cvs, ccs, file, tf, cl, cld, csl, rfl, lk, hcd, hcode, hvs, hfile, hcell⟩ := D
  obtain ⟨a, dx, fs, ta, t, hv, ha, hA, hS, hq⟩ := hbody (.ref cda) cc A outer s H vs Q E (hr.deeper _) hsp
  have hlu : us.length = ps.length := by rw [← r.length]; exact hl
  refine ks_codeAny_call_defAt (body := supCall p0 p1 p2 p4 p5 (e0 :: es) :: rest) (binds := ps.zip us) hr.depth (KX _ _ lk) rfl lim (codeRec_of KX hcd) rfl hb S.nocell (fun x hx => S.par _ (List.of_mem_zip (show (x.1, x.2) ∈ ps.zip us from hx)).1) (fun h0 hns k0 => ?_) S.co S.gen S.kind
  have I0 : Inv (cxS CX0 P w K mg base N qual scope f (.ref cda) cc A outer s H E) [] (L2.start N vs) H { s with heap := h0, toks := s.toks + (ps.zip us).length } := inv_startS S hr.hd e0' hl r (M.kin _ _ hcell) hns k0
  obtain ⟨pl, hev⟩ := B.hev s.heap.objs.size f (.ref cda) cc
  have X0 : K.In h0 := I0.kIn
  obtain ⟨mA, O, _, _, _, _⟩ := ins_get I0.hok ha
  obtain ⟨od', J, _⟩ := O.look
  obtain ⟨cdC, hcdC⟩ : ∃ cdC, clsIn K C = some cdC := by
    unfold ks_superIn at su
    cases e : clsIn K C with
    | none => rw [e] at su; cases su
    | some c => exact ⟨c, rfl⟩
  obtain ⟨oD, hD1, hD2⟩ : ∃ oD, h0.get? C = some oD ∧ oD.data = .cls cdC := by
    unfold clsIn at hcdC
    split at hcdC
    · rename_i c d' cd' sl ho
      cases hcdC
      exact ⟨_, X0 _ _ ho, rfl⟩
    · cases hcdC
  -- self
  have hself2 : ∃ vr pr, vs = V.ref a :: vr ∧ ps = ar.arg :: pr := by
    cases vs with
    | nil => cases hv
    | cons x vr =>
      cases ps with
      | nil => cases hself
      | cons y pr =>
        have e1 : x = V.ref a := Option.some.inj hv
        have e2 : y = ar.arg := Option.some.inj hself
        exact ⟨vr, pr, by rw [e1], by rw [e2]⟩
  obtain ⟨vr, pr, evs, eps⟩ := hself2
  obtain ⟨ur, eus⟩ : ∃ ur, us = Value.ref a :: ur := by
    rw [evs] at r
    cases r with
    | @cons _ u _ ur r1 r2 =>
      cases r1
      exact ⟨ur, rfl⟩
  have ndP : ps.Nodup := by rw [← S.pre]; exact S.nd.sublist (List.take_sublist _ _)
  have hm0 : (ps.zip us).reverse.lookup ar.arg = some (.ref a) := zip_rev_lookup (i := 0) ndP (by rw [eps]; rfl) (by rw [eus]; rfl)
  have hka : scope.names.lookup ar.arg = some .local := S.par _ (by rw [eps]; exact List.mem_cons_self)
  obtain ⟨mb, hb1, hb2⟩ := M.blt
  have bk := I0.bk
  obtain ⟨hh, gg, dd, tk, os⟩ := s
  refine ks_wpAt_execs_cons ?_
  refine ks_wpAt_Expr_any (ks_wpAt_MethodCall (pl := pl) ?_ hev) (B.hint _ _ _ _) (B.hsw _ _ _ _)
  refine ks_wpAt_super_base (env := ksEnv qual scope hh.objs.size f (.ref cda) cc) S.hks S.hkc (by decide) rfl (X0 _ _ lk) rfl har rfl (X0 _ _ hcode) rfl hvs hfile htop ?_
  refine ks_loadName_global S.kind S.hks (loadGlobal_builtin (env := ksEnv qual scope hh.objs.size f (.ref cda) cc) (M.glob.keeps bk) hsup (hb1.keeps bk) ((hb2 _ (by decide)).trans (by decide +kernel)) ⟨rfl, ?_⟩)
  refine wpAny_loadName_free S.kind S.hkc rfl ⟨_, X0 _ _ hcell, rfl⟩ ?_
  refine wpAny_loadName_local S.kind hka hns hm0 ?_
  refine ks_wpAny_isType_cls hD1 hD2 ⟨rfl, ?_⟩
  refine ks_wpAny_call_super hD1 hD2 J.at_ J.cls (fun c e => ?_) (looks_mroIn X0 mo) (fun h1 e1 k1 => ?_)
  · have z := J.no
    unfold notCls at z
    rw [e] at z
    exact Bool.noConfusion z
  have I1 : Inv (cxS CX0 P w K mg base N qual scope f (.ref cda) cc A outer ⟨hh, gg, dd, tk, os⟩ H E) [] (L2.start N vs) H ⟨h1, gg, dd, tk + (ps.zip us).length, os⟩ := I0.kept k1
  have X1 : K.In h1 := I1.kIn
  have su2 := su
  unfold ks_superIn at su
  rw [hcdC] at su
  obtain ⟨of, hof, hofc⟩ : ∃ of, h1.get? g = some of ∧ of.cls = .type "function" := by
    have ht' : (K.lookup g).map (·.cls) = some (.type "function") := ty
    cases z : K.lookup g with
    | none => rw [z] at ht'; cases ht'
    | some of => rw [z] at ht'; exact ⟨of, X1 _ _ z, Option.some.inj ht'⟩
  refine ks_wpAny_getMethod_super e1 (looks_opaque X1 op) (l₀ := cdC.mro) (fun A Q E s k q => wpAny_bind ((looks_clsIn X1 hcdC) A _ E s k (wpAny_pure q))) rfl X1 su hof hofc (ks_ne X0 J hcdC) (by decide) ?_
  have hq0 : H h1.objs.size = none := I1.hok.fresh (Nat.le_refl _)
  have I2 : Inv (cxS CX0 P w K mg base N qual scope f (.ref cda) cc A outer ⟨hh, gg, dd, tk, os⟩ H E) [] (L2.start N vs) (upd H h1.objs.size (.met g a)) ⟨h1.push (methodObj (.ref g) (.ref a)), gg, dd, tk + (ps.zip us).length + 1, os⟩ :=
    I1.laid (t' := tk + (ps.zip us).length + 1) (a := h1.objs.size) (o := .met g a) (fun b u z => Heap.get?_push_of_some _ z) (Nat.le_refl _) (Heap.get?_push_at rfl rfl)
  have hAr := hA.run p4 [] _ _ _ _ I2 (hq _ hq0)
  have est : starEach (e0 :: es) (cxS CX0 P w K mg base N qual scope f (.ref cda) cc A outer ⟨hh, gg, dd, tk, os⟩ H E).env = (false, eval e0 (ksEnv qual scope hh.objs.size f (.ref cda) cc)) :: starEach es (ksEnv qual scope hh.objs.size f (.ref cda) cc) := B.hst _ _ _ _
  rw [est] at hAr
  show wpAny _ _ (callWith p4 (.ref h1.objs.size) [] (backTo p4 (starEach (e0 :: es) (ksEnv qual scope hh.objs.size f (.ref cda) cc))) []) _ _ _
  rw [B.hst]
  refine PySem.W.callWith_of (P := PySem.W.MethP K h1.objs.size g (.ref a)) (by show ((false || (backTo p4 (starEach es (ksEnv qual scope hh.objs.size f (.ref cda) cc))).any (·.1)) || false) = false; rw [B.hpl]; rfl) (PySem.W.keeps_M fi) (Calls.evalArgs_plain ?_)
  refine wpAny_mono hAr (fun us1 s1 hz => ?_) fun _ _ x => x
  obtain ⟨ws, H1, I3, rw', hm1, hsp1⟩ := hz
  refine ⟨met_P I3 hm1, ?_⟩
  have room : Room k (cxS CX0 P w K mg base N qual scope f (.ref cda) cc A outer ⟨hh, gg, dd, tk, os⟩ H E).A := hr.deeper _
  refine wpAny_call (method_call (met_P I3 hm1).1 (codeAny_mono (run_fnR (X := cxS CX0 P w K mg base N qual scope f (.ref cda) cc A outer ⟨hh, gg, dd, tk, os⟩ H E) (us := Value.ref a :: us1) (vs := V.ref a :: ws) (E := E0) F room pass0 I3 (.cons rfl rw') hsp1) fun r s' hz => ?_))
  cases r with
  | error e => exact hz
  | ok fl =>
    cases fl with
    | next => exact False.elim hz
    | brk => exact False.elim hz
    | cont => exact False.elim hz
    | ret u =>
      obtain ⟨v, H2, I4, rv, q4⟩ := hz
      show _root_.PySem.wpAt _ _ _ _ _ _ _
      refine wpAt_of_wpAny ?_
      refine wpAny_mono (hS.run [] s' _ H2 _ I4 q4) (fun fl s'' hs => ?_) fun e s'' hs => hs
      have fin : ∀ {σ' : L2.St} {H' : Hp} {v : V} {u : Value}, Inv (cxS CX0 P w K mg base N qual scope f (.ref cda) cc A outer ⟨hh, gg, dd, tk, os⟩ H E) [] σ' H' s'' → L2.RelV v u → Q v H' → CE outer P w H ⟨hh, gg, dd, tk, os⟩ Q u s'' :=
        fun {σ' H' v u} J rv q => ⟨v, H', J.os, J.bare, J.base, J.hok, rv, q⟩
      cases fl with
      | ret u =>
        obtain ⟨v, σ', H', J, rv, q⟩ := hs
        exact fin J rv q
      | next =>
        obtain ⟨σ', H', J, q⟩ := hs
        exact fin (v := V.non) (u := Value.none) J rfl q
      | brk =>
        obtain ⟨_, _, _, q⟩ := hs
        exact False.elim q
      | cont =>
        obtain ⟨_, _, _, q⟩ := hs
        exact False.elim q
end My

set_option maxHeartbeats 4000000
namespace My
open PySem PySem.Spec PyProof.Rows L2
section
variable {X : Cx} {o : Expr} {f : Str} {pos : Pos} {to : TE}
/-- o.f = .. as a target -/
def gFld (K : PySem.W.Frag) (to : TE) (f : Str) : TG := fun v σ H Q => to σ H fun x H1 => ∃ a C dx fs, x = .ref a ∧ H1 a = some (.ins C dx fs) ∧ Cls K C ∧ NoAttr K C f ∧ fs.length < 1000 ∧ Q σ (upd H1 a (.ins C dx (putF f v fs)))
theorem pg_fld (ho : PE X o to) (ha : ∀ v, assign (.Attribute o f pos) X.env v = (do
      let ov ← holding [v] (eval o X.env)
      standAt pos.atName
      holding [v, ov] (setAttr ov f v)
      release [v, ov] []) := by intro _; rfl) : PG X (.Attribute o f pos) (gFld X.K to f) := by
  refine ⟨fun pins s σ H v u Q I r h => ?_⟩
  rw [ha]
  refine wpAny_bind (wpAny_holding (thn (ho.run pins s σ H _ I h) fun ov s1 ⟨x, H1, I1, rx, a, C, dx, fs, ex, ea, c, n, l, q⟩ => ?_))
  subst ex
  obtain rfl : ov = Value.ref a := rx
  refine wpAny_bind (wpAny_standAt (wpAny_bind (wpAny_holding (setattr_ok I1 ea c n l r fun s2 I2 => ?_))))
  exact wpAny_release ⟨σ, _, I2, q⟩
end
abbrev sCInit : Stmt := inClass (top 28) 0
abbrev sHas : Stmt := inClass (top 28) 1
abbrev sSpot : Stmt := inClass (top 28) 2
abbrev sCut : Stmt := inClass (top 28) 3
def cNames : List Str := ["z_low", "z_high", "low", "high", "period", "first", "last"]
def cfs (w : Str) (v x0 x1 x2 x3 x4 x5 x6 : V) : List (Str × V) := [("word", .str w), ("parts", v), ("z_low", x0), ("z_high", x1), ("low", x2), ("high", x3), ("period", x4), ("first", x5), ("last", x6)]
theorem cfs_put (w : Str) (v x0 x1 x2 x3 x4 x5 x6 : V) : putF "last" x6 (putF "first" x5 (putF "period" x4 (putF "high" x3 (putF "low" x2 (putF "z_high" x1 (putF "z_low" x0 (pfs w v))))))) = cfs w v x0 x1 x2 x3 x4 x5 x6 := by
  with_unfolding_all rfl
/-- a cell at a -/
structure CelAt (K : PySem.W.Frag) (P C : Addr) (H : Hp) (a : Addr) (ds : List PyData) : Prop where
  c : PapC K P C "Cell"
  na : ∀ f ∈ cNames, NoAttr K C f
  ob : ∃ dx b x0 x1 x2 x3 x4 x5 x6, H a = some (.ins C dx (cfs "cell" (.ref b) x0 x1 x2 x3 x4 x5 x6)) ∧ H b = some (.tup [x0, x1, x2, x3, x4, x5, x6]) ∧ DhAll H [x0, x1, x2, x3, x4, x5, x6] ds
theorem CelAt.same {K : PySem.W.Frag} {P C : Addr} {H H' : Hp} {a : Addr} {ds : List PyData} (h : CelAt K P C H a ds) (e : Same H H') : CelAt K P C H' a ds := by
  obtain ⟨dx, b, x0, x1, x2, x3, x4, x5, x6, o, t, d⟩ := h.ob
  exact ⟨h.c, h.na, dx, b, x0, x1, x2, x3, x4, x5, x6, e _ _ o, e _ _ t, DhAll.same e _ _ d⟩
theorem CelAt.ce {K : PySem.W.Frag} {P C : Addr} {H : Hp} {a : Addr} {zl zh lo hi pe fi la : Int} (h : CelAt K P C H a [.int zl, .int zh, .int lo, .int hi, .int pe, .int fi, .int la]) : CeAt K C H a ⟨zl, zh, lo, hi, pe, fi, la⟩ := by
  obtain ⟨dx, b, x0, x1, x2, x3, x4, x5, x6, o, t, d⟩ := h.ob
  cases d with
  | cons d0 d => cases d with
  | cons d1 d => cases d with
  | cons d2 d => cases d with
  | cons d3 d => cases d with
  | cons d4 d => cases d with
  | cons d5 d => cases d with
  | cons d6 d =>
    cases d0; cases d1; cases d2; cases d3; cases d4; cases d5; cases d6
    exact ⟨h.c.n.cl, h.na, dx, _, o, rfl, rfl, rfl, rfl, rfl, rfl, rfl⟩
theorem CelAt.pap {K : PySem.W.Frag} {P C : Addr} {H : Hp} {a : Addr} {ds : List PyData} (h : CelAt K P C H a ds) : ∃ b, PapAt K P H a C "cell" (.ref b) (.tuple ds) "Cell" := by
  obtain ⟨dx, b, x0, x1, x2, x3, x4, x5, x6, o, t, d⟩ := h.ob
  exact ⟨b, h.c, ⟨dx, _, o, rfl, rfl⟩, .tup t (by show 7 ≤ 100; decide) d⟩
/-- Cell.__init__ -/
def spCInit (K : PySem.W.Frag) (P C : Addr) : Sp := fun vs H Q _ => ∃ (a dx : Addr) (y0 y1 y2 y3 y4 y5 y6 : V) (ds : List PyData), vs = [.ref a, y0, y1, y2, y3, y4, y5, y6] ∧ H a = some (.ins C dx []) ∧ PapC K P C "Cell" ∧ (∀ f ∈ cNames, NoAttr K C f) ∧ DhAll H [y0, y1, y2, y3, y4, y5, y6] ds ∧ depAll ds ≤ 3 ∧
  ∀ H', Sm a H H' → CelAt K P C H' a (tupdAll ds) → Q .non H'
section
variable {P : Program} {w : World} {K : PySem.W.Frag} {mg : Str → Option Value} {base : Heap} {f g C PP : Addr} {fd : FuncData}
abbrev cN : List Str := ["self", "z_low", "z_high", "low", "high", "period", "first", "last"]
theorem scCI : SupScope cN cN (defScope sCInit) := ⟨rfl, rfl, rfl, by decide +kernel, rfl, by decide +kernel, by decide +kernel, by decide +kernel, rfl, rfl, by decide +kernel⟩
theorem spPI_star {K : PySem.W.Frag} {P : Addr} {n : Nat} {H : Hp} {a C dx : Addr} {w nm : Str} {ys : List V} {ds : List PyData} {Q : VK} (ha : H a = some (.ins C dx [])) (pc : PapC K P C nm) (hl : ys.length ≤ 100) (hd : DhAll H ys ds) (hn : depAll ds + 1 < n)
    (k : ∀ v H', Sm a H H' → H' a = some (.ins C dx (pfs w v)) → Dh H' v (.tuple (tupdAll ds)) → Q .non H') :
    (fun (vs : List V) (H : Hp) (Q : VK) (E : XK) => ∃ ws rest, vs = ws ++ rest ∧ ws.length = (["self", "word"] : List Str).length ∧ rest.length ≤ sizeLine ∧ ∀ p, H p = none → spPI K P n (ws ++ [V.ref p]) (upd H p (.tup rest)) Q E) (.ref a :: .str w :: ys) H Q E0 := by
  refine ⟨[.ref a, .str w], ys, rfl, rfl, Nat.le_trans hl (by decide), fun p hp => ?_⟩
  have s1 := same_new hp (.tup ys)
  refine ⟨a, p, C, dx, w, nm, ys, ds, rfl, s1 _ _ ha, pc, upd_same, hl, DhAll.same s1 _ _ hd, hn, fun v H' sm h1 h2 => ?_⟩
  exact k v H' (fun b o nb q => sm b o nb (s1 _ _ q)) h1 h2
theorem ok_cinit (D : SupI P K C f g "__init__" "Cell.__init__" (defArgs sCInit) (defBody sCInit) (defScope sCInit) fd) (M : L2.Mod K mg base) (htop : (P.main.scope.names.lookup ("super" : Str)).isSome = false) (hsup : mg "super" = none)
    (F : FnR P w K mg base CX0 7 g (fun vs H Q E => ∃ ws rest, vs = ws ++ rest ∧ ws.length = (["self", "word"] : List Str).length ∧ rest.length ≤ sizeLine ∧ ∀ p, H p = none → spPI K PP 6 (ws ++ [V.ref p]) (upd H p (.tup rest)) Q E)) :
    FnOk P w K mg base CX0 8 f fd cN (spCInit K PP C) := by
  refine ok_super (ps := cN) (N := cN) (sp := spCInit K PP C) D scCI ⟨fun _ _ _ _ => ⟨_, rfl⟩, fun _ _ _ _ => rfl, fun _ _ _ _ => rfl, fun _ _ _ _ => rfl, fun _ _ _ _ => rfl⟩ M rfl rfl htop hsup F (fun vs H Q E h => ?_) (fun cdv cc A outer s H vs Q E hr h => ?_)
  · obtain ⟨a, dx, y0, y1, y2, y3, y4, y5, y6, ds, rfl, _⟩ := h
    rfl
  obtain ⟨a, dx, y0, y1, y2, y3, y4, y5, y6, ds, rfl, ha, pc, na, hds, hdep, k⟩ := h
  refine ⟨a, dx, [], _, _, rfl, ha, pa_cons pe_str (pa_cons (pv 1) (pa_cons (pv 2) (pa_cons (pv 3) (pa_cons (pv 4) (pa_cons (pv 5) (pa_cons (pv 6) (pa_cons (pv 7) pa_nil))))))),
    pss_one (ps_asg (pe_fld (pv 0) rfl) (pg_tup rfl (pgs_cons (pg_fld (pv 0)) (pgs_cons (pg_fld (pv 0)) (pgs_cons (pg_fld (pv 0)) (pgs_cons (pg_fld (pv 0)) (pgs_cons (pg_fld (pv 0)) (pgs_cons (pg_fld (pv 0)) (pgs_cons (pg_fld (pv 0)) pgs_nil))))))))), fun q hq => ?_⟩
  have s1 := same_new hq (.met g a)
  refine ⟨_, rfl, _, rfl, _, rfl, _, rfl, _, rfl, _, rfl, _, rfl, upd_same, ?_⟩
  refine spPI_star (s1 _ _ ha) pc (by show 7 ≤ 100; decide) (DhAll.same s1 _ _ hds) (by omega) (fun v H2 sm h1 h2 => ?_)
  have hb : ∃ b xs', v = .ref b ∧ H2 b = some (.tup xs') ∧ DhAll H2 xs' (tupdAll ds) ∧ xs'.length = 7 := by
    cases h2 with
    | tup hb hl hd => exact ⟨_, _, rfl, hb, hd, by rw [hd.len, tupdAll_len, ← hds.len]; rfl⟩
  obtain ⟨b, xs', rfl, hb, hd, hl⟩ := hb
  match xs', hl, hb, hd with
  | [x0, x1, x2, x3, x4, x5, x6], _, hb, hd =>
    refine ⟨_, rfl, a, C, dx, _, _, rfl, h1, pc.n.cl, pc.np, pfs_parts _ _, b, _, rfl, .inl (.inl hb), rfl, ?_⟩
    refine ⟨x0, _, rfl, _, rfl, a, C, dx, _, rfl, h1, pc.n.cl, na _ (by decide +kernel), (by with_unfolding_all exact (show 2 < 1000 by decide)), ?_⟩
    refine ⟨x1, _, rfl, _, rfl, a, C, dx, _, rfl, upd_same, pc.n.cl, na _ (by decide +kernel), (by with_unfolding_all exact (show 3 < 1000 by decide)), ?_⟩
    rw [upd2]
    refine ⟨x2, _, rfl, _, rfl, a, C, dx, _, rfl, upd_same, pc.n.cl, na _ (by decide +kernel), (by with_unfolding_all exact (show 4 < 1000 by decide)), ?_⟩
    rw [upd2]
    refine ⟨x3, _, rfl, _, rfl, a, C, dx, _, rfl, upd_same, pc.n.cl, na _ (by decide +kernel), (by with_unfolding_all exact (show 5 < 1000 by decide)), ?_⟩
    rw [upd2]
    refine ⟨x4, _, rfl, _, rfl, a, C, dx, _, rfl, upd_same, pc.n.cl, na _ (by decide +kernel), (by with_unfolding_all exact (show 6 < 1000 by decide)), ?_⟩
    rw [upd2]
    refine ⟨x5, _, rfl, _, rfl, a, C, dx, _, rfl, upd_same, pc.n.cl, na _ (by decide +kernel), (by with_unfolding_all exact (show 7 < 1000 by decide)), ?_⟩
    rw [upd2]
    refine ⟨x6, _, rfl, _, rfl, a, C, dx, _, rfl, upd_same, pc.n.cl, na _ (by decide +kernel), (by with_unfolding_all exact (show 8 < 1000 by decide)), ?_⟩
    rw [upd2]
    rw [cfs_put]
    refine ⟨rfl, ?_⟩
    have sm0 : Sm a H2 (upd H2 a (.ins C dx (cfs "cell" (.ref b) x0 x1 x2 x3 x4 x5 x6))) := Sm.at .refl
    have nb : b ≠ a := fun z => by
      rw [z, h1] at hb
      cases hb
    refine k _ (Sm.trans (fun c o nc e => sm c o nc (s1 _ _ e)) sm0) ⟨pc, na, dx, b, x0, x1, x2, x3, x4, x5, x6, upd_same, ?_, DhAll.sd (sm_sd h1 sm0) _ _ hd⟩
    rw [upd_ne nb]
    exact hb
end
end My

set_option maxHeartbeats 4000000
namespace My
open PySem PySem.Spec PyProof.Rows L2
/-! ### a op b op c op d -/
section
variable {X : Cx} {a b c d : Expr} {ta tb tc td : TE} {pos : Pos}
def tChain3 (r r' r'' : R2) (ta tb tc td : TE) : TE := fun σ H Q => ta σ H fun x H1 => tb σ H1 fun y H2 => r x y H2 fun z H3 => ∃ k, z = .bl k ∧
  (if k = true then tc σ H3 fun u H4 => r' y u H4 fun z' H5 => ∃ k', z' = .bl k' ∧ (if k' = true then td σ H5 fun w' H6 => r'' u w' H6 Q else Q (.bl false) H5) else Q (.bl false) H3)
theorem pe_chain3 {o o' o'' : CmpOp} {r r' r'' : R2} (h1 : OpR X (compareOp o) r) (h2 : OpR X (compareOp o') r') (h3 : OpR X (compareOp o'') r'') (ha : PE X a ta) (hb : PE X b tb) (hc : PE X c tc) (hd : PE X d td)
    (hm : lastMarks [o, o', o''] [b, c, d] = false := by with_unfolding_all rfl) : PE X (.Compare a [o, o', o''] [b, c, d] pos) (tChain3 r r' r'' ta tb tc td) := by
  refine ⟨fun pins s σ H Q I h => ?_⟩
  refine Compare_chain (thn (ha.run pins s σ H _ I h) fun v s1 ⟨x, H1, I1, r1, q1⟩ => chain_link (thn (hb.run pins s1 σ H1 _ I1 q1) fun u s2 ⟨y, H2, I2, r2, q2⟩ =>
    thn (h1 pins s2 σ H2 x y v u _ I2 r1 r2 q2) fun d' s3 ⟨z, H3, I3, r3, k, e, q3⟩ => ?_)) hm
  subst e
  cases r3
  refine wpAny_truthy_bool ?_
  cases k with
  | false => exact ite_ff ⟨.bl false, H3, I3, rfl, q3⟩
  | true =>
    refine ite_tt (chain_link (thn (hc.run pins s3 σ H3 _ I3 q3) fun w' s4 ⟨z', H4, I4, r4, q4⟩ => thn (h2 pins s4 σ H4 y z' u w' _ I4 r2 r4 q4) fun d2 s5 ⟨z2, H5, I5, r5, k2, e2, q5⟩ => ?_))
    subst e2
    cases r5
    refine wpAny_truthy_bool ?_
    cases k2 with
    | false => exact ite_ff ⟨.bl false, H5, I5, rfl, q5⟩
    | true => exact ite_tt (chain_last (thn (hd.run pins s5 σ H5 _ I5 q5) fun w3 s6 ⟨z3, H6, I6, r6, q6⟩ => h3 pins s6 σ H6 z' z3 w' w3 Q I6 r4 r6 q6))
theorem pt_chain3 {o o' o'' : CmpOp} {r r' r'' : R2} (h1 : OpR X (compareOp o) r) (h2 : OpR X (compareOp o') r') (h3 : OpR X (compareOp o'') r'') (ha : PE X a ta) (hb : PE X b tb) (hc : PE X c tc) (hd : PE X d td)
    (hm : lastMarks [o, o', o''] [b, c, d] = false := by with_unfolding_all rfl) : PT X (.Compare a [o, o', o''] [b, c, d] pos) (tTest (tChain3 r r' r'' ta tb tc td)) := by
  refine ⟨fun pins s σ H Q I h => ?_⟩
  refine isTrue_chain (thn (ha.run pins s σ H _ I h) fun v s1 ⟨x, H1, I1, r1, q1⟩ => test_link (thn (hb.run pins s1 σ H1 _ I1 q1) fun u s2 ⟨y, H2, I2, r2, q2⟩ =>
    thn (h1 pins s2 σ H2 x y v u _ I2 r1 r2 q2) fun d' s3 ⟨z, H3, I3, r3, k, e, q3⟩ => ?_)) hm
  subst e
  cases r3
  refine wpAny_truthy_bool ?_
  cases k with
  | false =>
    obtain ⟨k', e', q'⟩ := q3
    cases e'
    exact ite_ff ⟨H3, I3, q'⟩
  | true =>
    refine ite_tt (test_link (thn (hc.run pins s3 σ H3 _ I3 q3) fun w' s4 ⟨z', H4, I4, r4, q4⟩ => thn (h2 pins s4 σ H4 y z' u w' _ I4 r2 r4 q4) fun d2 s5 ⟨z2, H5, I5, r5, k2, e2, q5⟩ => ?_))
    subst e2
    cases r5
    refine wpAny_truthy_bool ?_
    cases k2 with
    | false =>
      obtain ⟨k', e', q'⟩ := q5
      cases e'
      exact ite_ff ⟨H5, I5, q'⟩
    | true =>
      refine ite_tt (test_last (thn (hd.run pins s5 σ H5 _ I5 q5) fun w3 s6 ⟨z3, H6, I6, r6, q6⟩ => thn (h3 pins s6 σ H6 z' z3 w' w3 _ I6 r4 r6 q6) fun d7 s7 ⟨z7, H7, I7, r7, k7, e7, q7⟩ => ?_))
      subst e7
      cases r7
      exact wpAny_truthy_bool ⟨H7, I7, q7⟩
end
/-! ### readings of things that only read -/
def Rd (te : TE) (σ : L2.St) (H : Hp) (v : V) : Prop := ∀ Q : VK, Q v H → te σ H Q
theorem rd_var {i : Nat} {σ : L2.St} {H : Hp} {v : V} (h : σ[i]? = some (some v)) : Rd (tVar i) σ H v := fun Q q => ⟨v, h, q⟩
theorem rd_c {v : V} {σ : L2.St} {H : Hp} : Rd (tC v) σ H v := fun Q q => q
theorem rd_fld {K : PySem.W.Frag} {n : Str} {te : TE} {σ : L2.St} {H : Hp} {a C dx : Addr} {fs : List (Str × V)} {v : V} (h : Rd te σ H (.ref a)) (o : H a = some (.ins C dx fs)) (cl : Cls K C) (na : NoAttr K C n) (l : fs.lookup n = some v) : Rd (tFld K te n) σ H v :=
  fun Q q => h _ ⟨a, C, dx, fs, v, rfl, o, cl, na, l, q⟩
theorem rd_neg {te : TE} {σ : L2.St} {H : Hp} {i : Int} (h : Rd te σ H (.int i)) : Rd (tUn (rU fun i => .int (-i)) te) σ H (.int (-i)) := fun Q q => h _ ⟨i, rfl, q⟩
theorem rd_op {f : Int → Int → V} {ta tb : TE} {σ : L2.St} {H : Hp} {i j : Int} (ha : Rd ta σ H (.int i)) (hb : Rd tb σ H (.int j)) : Rd (tOp (rI0 f) ta tb) σ H (f i j) := fun Q q => ha _ (hb _ ⟨i, j, rfl, rfl, q⟩)
theorem rd_chain {f g : Int → Int → Bool} {ta tb tc : TE} {σ : L2.St} {H : Hp} {i j k : Int} (ha : Rd ta σ H (.int i)) (hb : Rd tb σ H (.int j)) (hc : Rd tc σ H (.int k)) :
    Rd (tChain (rI0 fun i j => .bl (f i j)) (rI0 fun i j => .bl (g i j)) ta tb tc) σ H (.bl (f i j && g j k)) := fun Q q => ha _ (hb _ ⟨i, j, rfl, rfl, f i j, rfl, by
  cases e : f i j with
  | false =>
    rw [e] at q
    exact ite_ff q
  | true =>
    rw [e] at q
    exact ite_tt (hc _ ⟨j, k, rfl, rfl, q⟩)⟩)
theorem rd_chain3 {f g h : Int → Int → Bool} {ta tb tc td : TE} {σ : L2.St} {H : Hp} {i j k l : Int} (ha : Rd ta σ H (.int i)) (hb : Rd tb σ H (.int j)) (hc : Rd tc σ H (.int k)) (hd : Rd td σ H (.int l)) :
    Rd (tChain3 (rI0 fun i j => .bl (f i j)) (rI0 fun i j => .bl (g i j)) (rI0 fun i j => .bl (h i j)) ta tb tc td) σ H (.bl (f i j && (g j k && h k l))) := fun Q q => ha _ (hb _ ⟨i, j, rfl, rfl, f i j, rfl, by
  cases e : f i j with
  | false =>
    rw [e] at q
    exact ite_ff q
  | true =>
    rw [e] at q
    refine ite_tt (hc _ ⟨j, k, rfl, rfl, g j k, rfl, ?_⟩)
    cases e2 : g j k with
    | false =>
      rw [e2] at q
      exact ite_ff q
    | true =>
      rw [e2] at q
      exact ite_tt (hd _ ⟨k, l, rfl, rfl, q⟩)⟩)
theorem not_cases {b : Bool} {A B : Prop} (h1 : b = false → A) (h2 : b = true → B) : if (!b) = true then A else B := by
  cases b with
  | false => exact ite_tt (h1 rfl)
  | true => exact ite_ff (h2 rfl)
abbrev sIsCell : Stmt := top 29
abbrev sNeedCell : Stmt := top 33
abbrev sTop : Stmt := top 34
def cellB : List PyData → Bool
  | [.int zl, .int zh, .int lo, .int hi, .int pe, .int fi, .int la] =>
    (decide (2 ≤ zl) && (decide (zl ≤ zh) && decide (zh ≤ 1048576))) && ((decide (-549755813888 ≤ lo) && (decide (lo ≤ hi) && decide (hi ≤ 549755813888))) && ((decide (0 ≤ fi) && (decide (fi ≤ la) && decide (la < pe))) && decide (lo + fi ≤ hi)))
  | _ => false
theorem ints7 {ds : List PyData} (hl : ds.length = 7) (h : ds.all isI = true) : ∃ zl zh lo hi pe fi la, ds = [.int zl, .int zh, .int lo, .int hi, .int pe, .int fi, .int la] := by
  have get : ∀ d : PyData, isI d = true → ∃ i, d = .int i := fun d e => by
    cases d with
    | int i => exact ⟨i, rfl⟩
    | _ => cases e
  match ds, hl, h with
  | [d0, d1, d2, d3, d4, d5, d6], _, h =>
    have h0 : (isI d0 && (isI d1 && (isI d2 && (isI d3 && (isI d4 && (isI d5 && (isI d6 && true))))))) = true := h
    simp only [Bool.and_eq_true, and_true] at h0
    obtain ⟨e0, e1, e2, e3, e4, e5, e6⟩ := h0
    obtain ⟨i0, rfl⟩ := get _ e0
    obtain ⟨i1, rfl⟩ := get _ e1
    obtain ⟨i2, rfl⟩ := get _ e2
    obtain ⟨i3, rfl⟩ := get _ e3
    obtain ⟨i4, rfl⟩ := get _ e4
    obtain ⟨i5, rfl⟩ := get _ e5
    obtain ⟨i6, rfl⟩ := get _ e6
    exact ⟨i0, i1, i2, i3, i4, i5, i6, rfl⟩
theorem cellB_not {ds : List PyData} (h : ds.all isI = false) : cellB ds = false := by
  unfold cellB
  split
  · cases h
  · rfl
def spIsCell (K : PySem.W.Frag) (P C : Addr) : Sp := fun vs H Q _ => ∃ v, vs = [v] ∧ ((∃ t, TyX K H v t ∧ PySem.W.kitOne K t (.ref C) = some false ∧ Q (.bl false) H) ∨
  (∃ a ds, v = .ref a ∧ CelAt K P C H a ds ∧ PySem.W.kitOne K (.ref C) (.ref C) = some true ∧ ∀ H', Same H H' → Q (.bl (cellB ds)) H'))
structure TxtK (mg : Str → Option Value) (C : Addr) : Prop where
  n_isi : mg "isinstance" = none
  mC : mg "Cell" = some (.ref C)
  mF : ∃ t, mg "FIELDS" = some (.int 7 t)
section
variable {P : Program} {w : World} {K : PySem.W.Frag} {mg : Str → Option Value} {base : Heap} {f fA C PP : Addr} {fd fdA : FuncData}
theorem scIC : FnScope ["value"] ["value"] (defScope sIsCell) := ⟨rfl, rfl, rfl, by decide +kernel, rfl, by decide +kernel, by decide +kernel⟩
theorem ok_iscell (F : FnP K "is_cell" sIsCell f fd) (FA : FnP K "are_integers" sAreInts fA fdA) (GA : FnOk P w K mg base CX0 2 fA fdA ["value", "many"] spAreInts) (bA : Binds K fdA ["value", "many"] []) (mA : mg "are_integers" = some (.ref fA)) (T : TxtK mg C) (N : TxtN mg) :
    FnOk P w K mg base CX0 3 f fd ["value"] (spIsCell K PP C) := by
  refine F.ok scIC (fun vs H Q E h => ?_) (fun cdv A outer s H vs Q E hr h => ?_)
  · obtain ⟨v, rfl, _⟩ := h
    rfl
  obtain ⟨v, rfl, h⟩ := h
  have nd := scIC.nd
  obtain ⟨tx, mX⟩ := N.mX
  obtain ⟨t1, lZ⟩ := N.lZ
  obtain ⟨t2, mZ⟩ := N.mZ
  obtain ⟨t3, mF⟩ := T.mF
  refine ⟨_, PSs.nox (pss_cons (ps_if (PW.pt (pw_or (pt_not (pt_val (pe_callB call_isi (by rfl) T.n_isi (by decide +kernel) (pa_cons (pv 0) (pa_cons (pe_glob (v := .ref C) (by rfl) T.mC rfl) pa_nil))))) (pw_or1 (pt_not (pt_val (pe_call GA hr (by rfl) mA FA.kp bA .nil pass0 (pa_cons (pe_fld (pv 0) rfl) (pa_cons (pe_glob (v := .int 7) (by rfl) mF ⟨_, rfl⟩) pa_nil))))))))
      (pss_one (ps_ret pe_bl)) pss_nil)
    (pss_cons (ps_if (PW.pt (pw_or (pt_not (pt_chain3 op_le op_le op_le (pe_glob (v := .int 2) (by rfl) lZ ⟨_, rfl⟩) (pe_fld (pv 0) rfl) (pe_fld (pv 0) rfl) (pe_glob (v := .int 1048576) (by rfl) mZ ⟨_, rfl⟩)))
      (pw_or1 (pt_not (pt_chain3 op_le op_le op_le (pe_un un_neg (pe_glob (v := .int 549755813888) (by rfl) mX ⟨_, rfl⟩)) (pe_fld (pv 0) rfl) (pe_fld (pv 0) rfl) (pe_glob (v := .int 549755813888) (by rfl) mX ⟨_, rfl⟩))))))
      (pss_one (ps_ret pe_bl)) pss_nil)
    (pss_one (ps_ret (pe_and (pe_chain3 op_le op_le op_lt pe_int (pe_fld (pv 0) rfl) (pe_fld (pv 0) rfl) (pe_fld (pv 0) rfl)) (pe_one (pe_cmpR op_le (pe_op op_add (pe_fld (pv 0) rfl) (pe_fld (pv 0) rfl)) (pe_fld (pv 0) rfl) (nomark _)))))))), ?_⟩
  rcases h with ⟨t, ty, kt, k⟩ | ⟨a, ds, rfl, ce, kt, k⟩
  · refine ⟨_, rfl, v, .ref C, t, _, false, rfl, .own _, ty, kt, _, rfl, ?_⟩
    exact ite_tt k
  have hl : ds.length = 7 := by
    obtain ⟨dx, b, x0, x1, x2, x3, x4, x5, x6, o, t, d⟩ := ce.ob
    rw [← d.len]
    rfl
  obtain ⟨dx, b, x0, x1, x2, x3, x4, x5, x6, o, t, d⟩ := id ce.ob
  have ty : TyX K H (.ref a) (.ref C) := .base (.ins o ce.c.n.cl ce.c.n.ca ce.c.n.sp ce.c.n.tk ce.c.n.mo)
  refine ⟨_, rfl, .ref a, .ref C, .ref C, _, true, rfl, .own _, ty, kt, _, rfl, ?_⟩
  refine ite_ff ?_
  refine ⟨_, rfl, a, C, dx, _, _, rfl, o, ce.c.n.cl, ce.c.np, rfl, b, _, ds, 7, rfl, t, by show 7 ≤ 100; decide, d, fun H1 s1 => ⟨_, rfl, ?_⟩⟩
  have e7 : decide ((([x0, x1, x2, x3, x4, x5, x6] : List V).length : Int) = 7) = true := rfl
  rw [e7, Bool.true_and]
  refine not_cases (fun c1 => ?_) (fun c1 => ?_)
  · have z := k H1 s1
    rw [cellB_not c1] at z
    exact z
  obtain ⟨zl, zh, lo, hi, pe, fi, la, rfl⟩ := ints7 hl c1
  have ce1 := (ce.same s1).ce
  obtain ⟨dx1, fs1, o1, l1, l2, l3, l4, l5, l6, l7⟩ := ce1.ob
  have na := fun n hn => ce1.na n hn
  have k1 := k H1 s1
  have V0 : Rd (tVar 0) (L2.start ["value"] [.ref a]) H1 (.ref a) := rd_var rfl
  have F1 : ∀ n y, n ∈ (["z_low", "z_high", "low", "high", "period", "first", "last"] : List Str) → fs1.lookup n = some y → Rd (tFld K (tVar 0) n) (L2.start ["value"] [.ref a]) H1 y := fun n y hn hl => rd_fld V0 o1 ce1.cl (na n hn) hl
  have W1 := F1 "z_low" _ (by decide +kernel) l1
  have W2 := F1 "z_high" _ (by decide +kernel) l2
  have W3 := F1 "low" _ (by decide +kernel) l3
  have W4 := F1 "high" _ (by decide +kernel) l4
  have W5 := F1 "period" _ (by decide +kernel) l5
  have W6 := F1 "first" _ (by decide +kernel) l6
  have W7 := F1 "last" _ (by decide +kernel) l7
  have e : cellB [.int zl, .int zh, .int lo, .int hi, .int pe, .int fi, .int la] = ((decide (2 ≤ zl) && (decide (zl ≤ zh) && decide (zh ≤ 1048576))) && ((decide (-549755813888 ≤ lo) && (decide (lo ≤ hi) && decide (hi ≤ 549755813888))) && ((decide (0 ≤ fi) && (decide (fi ≤ la) && decide (la < pe))) && decide (lo + fi ≤ hi)))) := rfl
  rw [e] at k1
  refine rd_chain3 (f := fun i j => decide (i ≤ j)) (g := fun i j => decide (i ≤ j)) (h := fun i j => decide (i ≤ j)) rd_c W1 W2 rd_c _ ⟨_, rfl, ?_⟩
  refine not_cases (fun c2 => ?_) (fun c2 => ?_)
  · rw [show (decide (2 ≤ zl) && (decide (zl ≤ zh) && decide (zh ≤ 1048576))) = false from c2, Bool.false_and] at k1
    exact iteT k1
  rw [show (decide (2 ≤ zl) && (decide (zl ≤ zh) && decide (zh ≤ 1048576))) = true from c2, Bool.true_and] at k1
  refine rd_chain3 (f := fun i j => decide (i ≤ j)) (g := fun i j => decide (i ≤ j)) (h := fun i j => decide (i ≤ j)) (rd_neg rd_c) W3 W4 rd_c _ ⟨_, rfl, ?_⟩
  refine not_cases (fun c3 => ?_) (fun c3 => ?_)
  · rw [show (decide (-549755813888 ≤ lo) && (decide (lo ≤ hi) && decide (hi ≤ 549755813888))) = false from c3, Bool.false_and] at k1
    exact k1
  rw [show (decide (-549755813888 ≤ lo) && (decide (lo ≤ hi) && decide (hi ≤ 549755813888))) = true from c3, Bool.true_and] at k1
  refine rd_chain3 (f := fun i j => decide (i ≤ j)) (g := fun i j => decide (i ≤ j)) (h := fun i j => decide (i < j)) rd_c W6 W7 W5 _ ⟨_, rfl, ?_⟩
  refine ite2 (fun c4 => ?_) (fun c4 => ?_)
  · rw [show (decide (0 ≤ fi) && (decide (fi ≤ la) && decide (la < pe))) = true from c4, Bool.true_and] at k1
    exact rd_op (f := fun i j => .bl (decide (i ≤ j))) (rd_op (f := fun i j => .int (i + j)) W3 W6) W4 _ k1
  · rw [show (decide (0 ≤ fi) && (decide (fi ≤ la) && decide (la < pe))) = false from Bool.eq_false_iff.mpr c4, Bool.false_and] at k1
    exact k1
end
end My

set_option maxHeartbeats 4000000
namespace My
open PySem PySem.Spec PyProof.Rows L2
def spNeedCell (K : PySem.W.Frag) (P C CM : Addr) : Sp := fun vs H Q E => ∃ v, vs = [v] ∧ ((∃ t, TyX K H v t ∧ PySem.W.kitOne K t (.ref C) = some false ∧ Rz CM [("part", .str "cell")] H E) ∨
  (∃ a ds, v = .ref a ∧ CelAt K P C H a ds ∧ PySem.W.kitOne K (.ref C) (.ref C) = some true ∧ ∀ H', Same H H' → (cellB ds = true → Q .non H') ∧ (cellB ds = false → Rz CM [("part", .str "cell")] H' E)))
def spTopM (K : PySem.W.Frag) (P C CM : Addr) : Sp := fun vs H Q E => ∃ v, vs = [v] ∧ ((∃ t, TyX K H v t ∧ PySem.W.kitOne K t (.ref C) = some false ∧ Rz CM [("part", .str "cell")] H E) ∨
  (∃ a ds, v = .ref a ∧ CelAt K P C H a ds ∧ PySem.W.kitOne K (.ref C) (.ref C) = some true ∧ (cellB ds = false → ∀ H', Same H H' → Rz CM [("part", .str "cell")] H' E) ∧
    (cellB ds = true → ∃ zl zh lo hi pe fi la, ds = [.int zl, .int zh, .int lo, .int hi, .int pe, .int fi, .int la] ∧ (0 < pe ∧ pe < 1073741824) ∧ ∀ H', Same H H' → Q (.int ((hi - lo - fi) / pe)) H')))
def spHas (K : PySem.W.Frag) (CB : Addr) : Sp := fun vs H Q E => ∃ a C c v w d e, vs = [.ref a, v, w] ∧ CeAt K C H a c ∧ 0 < c.pe ∧ Dh H v d ∧ Dh H w e ∧ (∀ x z, d = .int x → e = .int z → inB (-549755813888) 549755813888 d = true → inB 2 1048576 e = true → Q (.bl (cutIn c x z)) H) ∧
  (inB (-549755813888) 549755813888 d = false → Rz CB [("part", .str "x")] H E) ∧ (inB (-549755813888) 549755813888 d = true → inB 2 1048576 e = false → Rz CB [("part", .str "z")] H E)
def spotB (c : Ce) : PyData → Bool
  | .int x => (decide (c.lo ≤ x) && decide (x ≤ c.hi)) && (decide (c.fi ≤ (x - c.lo) % c.pe) && decide ((x - c.lo) % c.pe ≤ c.la))
  | _ => false
def spSpot (K : PySem.W.Frag) (CB : Addr) : Sp := fun vs H Q E => ∃ a C c v d, vs = [.ref a, v] ∧ CeAt K C H a c ∧ (0 < c.pe ∧ c.pe < 1073741824) ∧ Dh H v d ∧ (∀ x, d = .int x → spotB c d = true → Q (.int ((x - c.lo) / c.pe)) H) ∧ (spotB c d = false → Rz CB [("part", .str "x")] H E)
def spCutM (K : PySem.W.Frag) (CB : Addr) : Sp := fun vs H Q E => ∃ a C c v d, vs = [.ref a, v] ∧ CeAt K C H a c ∧ (0 < c.pe ∧ c.pe < 1073741824) ∧ Dh H v d ∧ (∀ t, d = .int t → inB 0 ((c.hi - c.lo - c.fi) / c.pe) d = true → Q (.int (c.lo + c.fi + t * c.pe)) H) ∧
  (inB 0 ((c.hi - c.lo - c.fi) / c.pe) d = false → Rz CB [("part", .str "t")] H E)
section
variable {P : Program} {w : World} {K : PySem.W.Frag} {mg : Str → Option Value} {base : Heap} {f fI fN fT fX fC C CM CB PP : Addr} {fd fdI fdN fdT fdX fdC : FuncData}
theorem scNCe : FnScope ["value"] ["value"] (defScope sNeedCell) := ⟨rfl, rfl, rfl, by decide +kernel, rfl, by decide +kernel, by decide +kernel⟩
theorem scTp : FnScope ["cell"] ["cell"] (defScope sTop) := ⟨rfl, rfl, rfl, by decide +kernel, rfl, by decide +kernel, by decide +kernel⟩
theorem scHs : FnScope ["self", "x", "z"] ["self", "x", "z"] (defScope sHas) := ⟨rfl, rfl, rfl, by decide +kernel, rfl, by decide +kernel, by decide +kernel⟩
theorem scSp : FnScope ["self", "x"] ["self", "x"] (defScope sSpot) := ⟨rfl, rfl, rfl, by decide +kernel, rfl, by decide +kernel, by decide +kernel⟩
theorem scCt : FnScope ["self", "t"] ["self", "t"] (defScope sCut) := ⟨rfl, rfl, rfl, by decide +kernel, rfl, by decide +kernel, by decide +kernel⟩
theorem ok_needcell (F : FnP K "need_cell" sNeedCell f fd) (FI : FnP K "is_cell" sIsCell fI fdI) (GI : FnOk P w K mg base CX0 3 fI fdI ["value"] (spIsCell K PP C)) (bI : Binds K fdI ["value"] []) (mI : mg "is_cell" = some (.ref fI)) (R : RzC P K mg "Misfit" CM "part") :
    FnOk P w K mg base (L2.CX P w) 4 f fd ["value"] (spNeedCell K PP C CM) := by
  refine F.ok scNCe (fun vs H Q E h => ?_) (fun cdv A outer s H vs Q E hr h => ?_)
  · obtain ⟨v, rfl, _⟩ := h
    rfl
  obtain ⟨v, rfl, h⟩ := h
  have nd := scNCe.nd
  refine ⟨_, pss_one (ps_if (pt_not (pt_val (pe_call GI hr (by rfl) mI FI.kp bI .nil pass0 (pa_cons (pv 0) pa_nil))))
    (pss_one (ps_raise rfl (takes_of rfl rfl rfl rfl) (pmk_raise rfl (R.made _ rfl rfl rfl (hr.mono (by decide))) (raises_own R.exc R.ty) R.kp (by rfl) R.mC (pa_cons pe_str pa_nil)))) pss_nil), ?_⟩
  rcases h with ⟨t, ty, kt, k⟩ | ⟨a, ds, rfl, ce, kt, k⟩
  · refine ⟨v, rfl, v, rfl, .inl ⟨t, ty, kt, _, rfl, ?_⟩⟩
    exact ite_tt ⟨rfl, fun a ha => fr0_none ha, fun dx hdx => k dx hdx⟩
  · refine ⟨_, rfl, _, rfl, .inr ⟨a, ds, rfl, ce, kt, fun H1 s1 => ⟨_, rfl, ?_⟩⟩⟩
    refine not_cases (fun c1 => ?_) (fun c1 => ?_)
    · exact ⟨rfl, fun a ha => fr0_none (same_none s1 a ha), fun dx hdx => (k H1 s1).2 c1 dx hdx⟩
    · exact (k H1 s1).1 c1
theorem ok_top (F : FnP K "top" sTop f fd) (FN : FnP K "need_cell" sNeedCell fN fdN) (GN : FnOk P w K mg base (L2.CX P w) 4 fN fdN ["value"] (spNeedCell K PP C CM)) (bN : Binds K fdN ["value"] []) (mN : mg "need_cell" = some (.ref fN))
    (FT : FnP K "top_of" sTopOf fT fdT) (GT : FnOk P w K mg base CX0 1 fT fdT ["cell"] (spTopOf K)) (bT : Binds K fdT ["cell"] []) (mT : mg "top_of" = some (.ref fT)) :
    FnOk P w K mg base (L2.CX P w) 5 f fd ["cell"] (spTopM K PP C CM) := by
  refine F.ok scTp (fun vs H Q E h => ?_) (fun cdv A outer s H vs Q E hr h => ?_)
  · obtain ⟨v, rfl, _⟩ := h
    rfl
  obtain ⟨v, rfl, h⟩ := h
  have nd := scTp.nd
  refine ⟨_, pss_cons (ps_expr (pe_call GN hr (by rfl) mN FN.kp bN .nil (passes_call (W := fun cls d _ H => E cls d H) (takes_of rfl rfl rfl rfl) fun _ _ _ _ z => z) (pa_cons (pv 0) pa_nil)))
    (pss_one (ps_ret (pe_call GT (hr.mono (by decide)) (by rfl) mT FT.kp bT .nil pass0 (pa_cons (pv 0) pa_nil)))), ?_⟩
  rcases h with ⟨t, ty, kt, k⟩ | ⟨a, ds, rfl, ce, kt, k1, k2⟩
  · exact ⟨v, rfl, v, rfl, .inl ⟨t, ty, kt, k⟩⟩
  · refine ⟨_, rfl, _, rfl, .inr ⟨a, ds, rfl, ce, kt, fun H1 s1 => ⟨fun c1 => ?_, fun c1 => k1 c1 H1 s1⟩⟩⟩
    obtain ⟨zl, zh, lo, hi, pe, fi, la, rfl, pp, k⟩ := k2 c1
    exact ⟨_, rfl, a, C, ⟨zl, zh, lo, hi, pe, fi, la⟩, rfl, (ce.same s1).ce, pp, k H1 s1⟩
theorem ok_has (F : FnM K "has" "Cell.has" sHas f fd) (FN : FnP K "need_cut" sNeedCut fN fdN) (GN : FnOk P w K mg base (L2.CX P w) 4 fN fdN ["x", "z"] (spNeedCut CB)) (bN : Binds K fdN ["x", "z"] []) (mN : mg "need_cut" = some (.ref fN))
    (FC : FnP K "has_cut" sHasCut fC fdC) (GC : FnOk P w K mg base CX0 1 fC fdC ["cell", "x", "z"] (spHasCut K)) (bC : Binds K fdC ["cell", "x", "z"] []) (mC : mg "has_cut" = some (.ref fC)) :
    FnOk P w K mg base (L2.CX P w) 5 f fd ["self", "x", "z"] (spHas K CB) := by
  refine F.ok scHs (fun vs H Q E h => ?_) (fun cdv A outer s H vs Q E hr h => ?_)
  · obtain ⟨a, C, c, v, w', d, e, rfl, _⟩ := h
    rfl
  obtain ⟨a, C, c, v, w', d, e, rfl, ce, pp, hd, he, k1, k2, k3⟩ := h
  have nd := scHs.nd
  refine ⟨_, pss_cons (ps_expr (pe_call GN hr (by rfl) mN FN.kp bN .nil (passes_call (W := fun cls d _ H => E cls d H) (takes_of rfl rfl rfl rfl) fun _ _ _ _ z => z) (pa_cons (pv 1) (pa_cons (pv 2) pa_nil))))
    (pss_one (ps_ret (pe_call GC (hr.mono (by decide)) (by rfl) mC FC.kp bC .nil pass0 (pa_cons (pv 0) (pa_cons (pv 1) (pa_cons (pv 2) pa_nil)))))), ?_⟩
  refine ⟨_, rfl, _, rfl, v, w', d, e, rfl, hd, he, fun c1 => ?_, k2, k3⟩
  have c2 := Bool.and_eq_true_iff.mp c1
  cases hd with
  | int x =>
    cases he with
    | int z => exact ⟨_, rfl, _, rfl, _, rfl, a, C, c, x, z, rfl, ce, pp, k1 x z rfl rfl c2.1 c2.2⟩
    | _ => exact absurd c2.2 (by intro z; cases z)
  | _ => exact absurd c2.1 (by intro z; cases z)
theorem ok_spot (F : FnM K "spot" "Cell.spot" sSpot f fd) (FI : FnP K "is_within" sIsIn fI fdI) (GI : FnOk P w K mg base CX0 2 fI fdI ["value", "least", "most"] spIsIn) (bI : Binds K fdI ["value", "least", "most"] []) (mI : mg "is_within" = some (.ref fI)) (R : RzC P K mg "BadNumber" CB "part") :
    FnOk P w K mg base (L2.CX P w) 3 f fd ["self", "x"] (spSpot K CB) := by
  refine F.ok scSp (fun vs H Q E h => ?_) (fun cdv A outer s H vs Q E hr h => ?_)
  · obtain ⟨a, C, c, v, d, rfl, _⟩ := h
    rfl
  obtain ⟨a, C, c, v, d, rfl, ce, pp, hd, k1, k2⟩ := h
  have nd := scSp.nd
  obtain ⟨dx, fs, o, l1, l2, l3, l4, l5, l6, l7⟩ := ce.ob
  refine ⟨_, pss_cons (ps_if (PW.pt (pw_or (pt_not (pt_val (pe_call GI hr (by rfl) mI FI.kp bI .nil pass0 (pa_cons (pv 1) (pa_cons (pe_fld (pv 0) rfl) (pa_cons (pe_fld (pv 0) rfl) pa_nil))))))
      (pw_or1 (pt_not (pt_chain op_le op_le (pe_fld (pv 0) rfl) (pe_op op_mod (pe_op op_sub (pv 1) (pe_fld (pv 0) rfl)) (pe_fld (pv 0) rfl)) (pe_fld (pv 0) rfl))))))
    (pss_one (ps_raise rfl (takes_of rfl rfl rfl rfl) (pmk_raise rfl (R.made _ rfl rfl rfl (hr.mono (by decide))) (raises_own R.exc R.ty) R.kp (by rfl) R.mC (pa_cons pe_str pa_nil)))) pss_nil)
    (pss_one (ps_ret (pe_op op_fdiv (pe_op op_sub (pv 1) (pe_fld (pv 0) rfl)) (pe_fld (pv 0) rfl)))), ?_⟩
  have V0 : Rd (tVar 0) (L2.start ["self", "x"] [.ref a, v]) H (.ref a) := rd_var rfl
  have W3 : Rd (tFld K (tVar 0) "low") (L2.start ["self", "x"] [.ref a, v]) H (.int c.lo) := rd_fld V0 o ce.cl (ce.na _ (by decide +kernel)) l3
  have W4 : Rd (tFld K (tVar 0) "high") (L2.start ["self", "x"] [.ref a, v]) H (.int c.hi) := rd_fld V0 o ce.cl (ce.na _ (by decide +kernel)) l4
  have W5 : Rd (tFld K (tVar 0) "period") (L2.start ["self", "x"] [.ref a, v]) H (.int c.pe) := rd_fld V0 o ce.cl (ce.na _ (by decide +kernel)) l5
  have W6 : Rd (tFld K (tVar 0) "first") (L2.start ["self", "x"] [.ref a, v]) H (.int c.fi) := rd_fld V0 o ce.cl (ce.na _ (by decide +kernel)) l6
  have W7 : Rd (tFld K (tVar 0) "last") (L2.start ["self", "x"] [.ref a, v]) H (.int c.la) := rd_fld V0 o ce.cl (ce.na _ (by decide +kernel)) l7
  refine ⟨_, rfl, W3 _ (W4 _ ⟨v, d, c.lo, c.hi, rfl, hd, _, rfl, ?_⟩)⟩
  have raise : spotB c d = false → (∀ dx, H dx = none → E (.ref CB) (some dx) (upd H dx (exd dx [("part", .str "x")]))) := fun e dx hdx => k2 e dx hdx
  refine not_cases (fun c1 => ?_) (fun c1 => ?_)
  · refine iteT ⟨rfl, fun a ha => fr0_none ha, fun dx hdx => raise ?_ dx hdx⟩
    cases d with
    | int x =>
      have c2 : (decide (c.lo ≤ x) && decide (x ≤ c.hi)) = false := c1
      show ((decide (c.lo ≤ x) && decide (x ≤ c.hi)) && _) = false
      rw [c2]
      rfl
    | _ => rfl
  cases hd with
  | int x =>
    have V1 : Rd (tVar 1) (L2.start ["self", "x"] [.ref a, .int x]) H (.int x) := rd_var rfl
    have c2 : (decide (c.lo ≤ x) && decide (x ≤ c.hi)) = true := c1
    have D1 : Rd (tOp (rI0 fun i j => .int (i - j)) (tVar 1) (tFld K (tVar 0) "low")) (L2.start ["self", "x"] [.ref a, .int x]) H (.int (x - c.lo)) := rd_op (f := fun i j => .int (i - j)) V1 W3
    have D2 : Rd (tOp (rI (fun i j => 0 < j) fun i j => .int (i % j)) (tOp (rI0 fun i j => .int (i - j)) (tVar 1) (tFld K (tVar 0) "low")) (tFld K (tVar 0) "period")) (L2.start ["self", "x"] [.ref a, .int x]) H (.int ((x - c.lo) % c.pe)) :=
      fun Q q => D1 _ (W5 _ ⟨_, _, rfl, rfl, pp.1, q⟩)
    refine rd_chain (f := fun i j => decide (i ≤ j)) (g := fun i j => decide (i ≤ j)) W6 D2 W7 _ ⟨_, rfl, ?_⟩
    refine not_cases (fun c3 => ?_) (fun c3 => ?_)
    · refine ⟨rfl, fun a ha => fr0_none ha, fun dx hdx => raise ?_ dx hdx⟩
      show ((decide (c.lo ≤ x) && decide (x ≤ c.hi)) && _) = false
      rw [show (decide (c.fi ≤ (x - c.lo) % c.pe) && decide ((x - c.lo) % c.pe ≤ c.la)) = false from c3, Bool.and_false]
    · have e : spotB c (.int x) = true := by
        show ((decide (c.lo ≤ x) && decide (x ≤ c.hi)) && _) = true
        rw [show (decide (c.fi ≤ (x - c.lo) % c.pe) && decide ((x - c.lo) % c.pe ≤ c.la)) = true from c3, c2]
        rfl
      exact D1 _ (W5 _ ⟨_, _, rfl, rfl, pp, k1 x rfl e⟩)
  | _ => exact absurd c1 (by intro z; cases z)
theorem ok_cut (F : FnM K "cut" "Cell.cut" sCut f fd) (FI : FnP K "is_within" sIsIn fI fdI) (GI : FnOk P w K mg base CX0 2 fI fdI ["value", "least", "most"] spIsIn) (bI : Binds K fdI ["value", "least", "most"] []) (mI : mg "is_within" = some (.ref fI)) (R : RzC P K mg "BadNumber" CB "part")
    (FT : FnP K "top_of" sTopOf fT fdT) (GT : FnOk P w K mg base CX0 1 fT fdT ["cell"] (spTopOf K)) (bT : Binds K fdT ["cell"] []) (mT : mg "top_of" = some (.ref fT))
    (FX : FnP K "x_at" sXAt fX fdX) (GX : FnOk P w K mg base CX0 1 fX fdX ["cell", "t"] (spXAt K)) (bX : Binds K fdX ["cell", "t"] []) (mX : mg "x_at" = some (.ref fX)) :
    FnOk P w K mg base (L2.CX P w) 3 f fd ["self", "t"] (spCutM K CB) := by
  refine F.ok scCt (fun vs H Q E h => ?_) (fun cdv A outer s H vs Q E hr h => ?_)
  · obtain ⟨a, C, c, v, d, rfl, _⟩ := h
    rfl
  obtain ⟨a, C, c, v, d, rfl, ce, pp, hd, k1, k2⟩ := h
  have nd := scCt.nd
  refine ⟨_, pss_cons (ps_if (pt_not (pt_val (pe_call GI hr (by rfl) mI FI.kp bI .nil pass0 (pa_cons (pv 1) (pa_cons pe_int (pa_cons (pe_call GT (hr.mono (by decide)) (by rfl) mT FT.kp bT .nil pass0 (pa_cons (pv 0) pa_nil)) pa_nil))))))
    (pss_one (ps_raise rfl (takes_of rfl rfl rfl rfl) (pmk_raise rfl (R.made _ rfl rfl rfl (hr.mono (by decide))) (raises_own R.exc R.ty) R.kp (by rfl) R.mC (pa_cons pe_str pa_nil)))) pss_nil)
    (pss_one (ps_ret (pe_call GX (hr.mono (by decide)) (by rfl) mX FX.kp bX .nil pass0 (pa_cons (pv 0) (pa_cons (pv 1) pa_nil))))), ?_⟩
  refine ⟨_, rfl, _, rfl, a, C, c, rfl, ce, pp, v, d, _, _, rfl, hd, _, rfl, ?_⟩
  refine not_cases (fun c1 => ?_) (fun c1 => ?_)
  · exact ⟨rfl, fun a ha => fr0_none ha, fun dx hdx => k2 c1 dx hdx⟩
  cases hd with
  | int t => exact ⟨_, rfl, _, rfl, a, C, c, t, rfl, ce, .inr ⟨by omega, by omega⟩, k1 t rfl c1⟩
  | _ => exact absurd c1 (by intro z; cases z)
end
end My

set_option maxHeartbeats 4000000
/-! a lambda with one parameter that has a written default, handed to a def that calls it without arguments (the library's LamX has lambdas without parameters) -/
namespace My
open PySem PySem.Spec PyProof.Rows L2 LamX
/-- its scope: no cell of its own; its parameter is none of the maker's names -/
structure LamD (N : List Str) (sc scope : Scope) (y : Str) : Prop where
  kind : scope.kind = .function
  co : scope.isCoroutine = false
  gen : scope.isGenerator = false
  nocell : ∀ z ∈ scope.names, z.2 ≠ .cell
  loc : ∀ z ∈ scope.names, z.2 = .local → z.1 ∉ N
  par : scope.names.lookup y = some .local
  free : ∀ z ∈ scope.names, z.2 = .free → sc.names.lookup z.1 = some .cell ∨ sc.names.lookup z.1 = some .free
def lamDB (N : List Str) (sc scope : Scope) (y : Str) : Bool :=
  decide (scope.kind = .function) && !scope.isCoroutine && !scope.isGenerator && decide (scope.names.lookup y = some .local) &&
    scope.names.all fun z => !decide (z.2 = .cell) && (!decide (z.2 = .local) || !decide (z.1 ∈ N)) && (!decide (z.2 = .free) || decide (sc.names.lookup z.1 = some .cell) || decide (sc.names.lookup z.1 = some .free))
theorem lamD_by {N : List Str} {sc scope : Scope} {y : Str} (h : lamDB N sc scope y = true) : LamD N sc scope y := by
  unfold lamDB at h
  simp only [Bool.and_eq_true, Bool.or_eq_true, Bool.not_eq_true', decide_eq_true_eq, decide_eq_false_iff_not, List.all_eq_true] at h
  obtain ⟨⟨⟨⟨h1, h2⟩, h3⟩, h5⟩, h4⟩ := h
  refine { kind := h1, co := h2, gen := h3, nocell := fun z hz => (h4 z hz).1.1, loc := fun z hz e => ?_, par := h5, free := fun z hz e => ?_ }
  · exact (h4 z hz).1.2.elim (fun q => absurd e q) id
  · rcases (h4 z hz).2 with (q | q) | q
    · exact absurd e q
    · exact .inl q
    · exact .inr q
section
variable {X : Cx} {pins : List (Addr × Obj)} {σ : L2.St} {H HZ : Hp} {s s1 : Shared} {y : Str}
theorem LamD.has {N : List Str} {scope : Scope} (L : LamD N X.env.scope scope y) (ok : X.Ok) : ∀ z ∈ scope.names, z.2 = .free → ∃ c, X.env.cells.lookup z.1 = some c :=
  fun z hz e => (L.free z hz e).elim (fun k => ok.has _ (.inl k)) fun k => ok.has _ (.inr k)
/-- the lambda made: f the function, T the tuple of its default, c' its code object -/
theorem lamD_make {T : List (Addr × Str)} {c P : Addr} {params : Arguments} {body : Expr} {scope : Scope} {pos dp : Pos} {j : Int} {kd : Nat} {E : Value → Shared → Prop} {Q : Value → Shared → Prop} (I : Inv X pins σ H s) (TB : TabB X.base X.mg c P) (hcode : X.env.code = .ref c)
    (hm : (P, X.env.qual ++ "<lambda>") ∈ T) (hu : ∀ p ∈ T, p.1 = P → p.2 = X.env.qual ++ "<lambda>") (hT : Tabs T H) (hdf : params.defaults = [.Constant (.int j) kd dp]) (hkw : params.kw_defaults = [])
    (hfree : ∀ z ∈ scope.names, z.2 = .free → ∃ c, X.env.cells.lookup z.1 = some c)
    (h : ∀ (f c' D : Addr) (u doc pm ctv : Value) (H1 : Hp) (s' : Shared), Inv X pins σ H1 s' → ExtN H H1 → Tabs T H1 →
      s'.heap.get? f = some (PySem.W.kdv_obj "<lambda>" (X.env.qual ++ "<lambda>") params (.expr body) scope (cloFrom X.env.cells scope.names []) (.ref D) doc pm c' ctv) → H1 f = none → f ∉ frs X.stack →
      s'.heap.get? D = some (PySem.W.kdv_tup [u]) → H1 D = none → D ∉ frs X.stack → H1 c' = some (CodeO c' (X.env.qual ++ "<lambda>")) → Q (.ref f) s') :
    wpAny (model X.prog X.w) X.A (eval (.Lambda params body scope pos) X.env) Q E s := by
  refine PySem.W.kdv_lam (by rw [hdf]; rfl) hkw ?_
  rw [hdf]
  refine PySem.W.kdv_all1 ?_
  refine wpAny_Constant_int (PySem.W.kdv_all0 ?_)
  have Ia : Inv X pins σ H { s with toks := s.toks + 1 } := I.tok _
  rw [PySem.makeFunction_eq]
  simp only [List.zip_nil_right, List.filterMap_nil, List.isEmpty_nil, if_true, pure_bind, List.isEmpty_cons, Bool.false_eq_true, if_false]
  refine wpAny_bind (wpAny_newTextTuple ?_)
  obtain ⟨ps, hP, ht, ha⟩ := hT _ hm
  have kA : ∀ b o, s.heap.get? b = some o → (s.heap.push (PySem.W.kdv_tup [Value.int j s.toks])).get? b = some o := fun b o e => Heap.get?_push_of_some _ e
  have I0 : Inv X pins σ H { s with heap := s.heap.push (PySem.W.kdv_tup [Value.int j s.toks]), toks := s.toks + 1 } := I.kept kA
  have hD : (s.heap.push (PySem.W.kdv_tup [Value.int j s.toks])).get? s.heap.objs.size = some (PySem.W.kdv_tup [Value.int j s.toks]) := Heap.get?_push_at rfl rfl
  have nD : H s.heap.objs.size = none := I.hok.fresh (Nat.le_refl _)
  have outF : ∀ b, s.heap.objs.size ≤ b → b ∉ frs X.stack := fun b hb z => by
    rcases List.mem_cons.mp (I.stkSub _ z) with e | e
    · have q := I.lt
      rw [← e] at q
      exact Nat.lt_irrefl _ (Nat.lt_of_lt_of_le q hb)
    · exact I.nofs hb e
  have lt0 : s.heap.objs.size < (s.heap.push (PySem.W.kdv_tup [Value.int j s.toks])).objs.size := by
    rw [Heap.size_push]
    exact Nat.lt_succ_self _
  have bP := TB.bm.keeps I0.bk
  have hP0 := I0.hok P _ hP
  cases hc : codeAmong pos ps.toList with
  | some cv =>
    obtain ⟨c', e, hco⟩ := ha pos cv hc
    subst e
    refine PySem.W.kdv_makeTailHit (mg := X.mg) (c := c) (P := P) (ps := ps) (closure_ok hfree) I.ok.glob (I.mod.glob.keeps I0.bk) hcode (TB.code.keeps I0.bk) hP0 ht hc bP fun ctv doc h' tk hx hsz => ?_
    refine h h'.objs.size c' s.heap.objs.size (.int j s.toks) doc ((X.mg "__name__").getD .none) ctv H _ (I0.kept (t' := tk) fun b o q => Heap.get?_push_of_some _ (hx b o q)) (ExtN.refl H) hT (Heap.get?_push_size _ rfl) ?_ ?_ (Heap.get?_push_of_some _ (hx _ _ hD)) nD (outF _ (Nat.le_refl _)) hco
    · exact I0.hok.fresh hsz
    · exact outF _ (Nat.le_trans (Nat.le_of_lt lt0) hsz)
  | none =>
    refine PySem.W.kdv_makeTail (mg := X.mg) (c := c) (P := P) (ps := ps) (closure_ok hfree) I.ok.glob (I.mod.glob.keeps I0.bk) hcode (TB.code.keeps I0.bk) hP0 ht hc TB.gP bP fun c' ctv doc h' tk hx hge hlt hrec htb => ?_
    obtain ⟨c2, oc, vs, tq, e2, hoc, hd, hv⟩ := hrec
    cases e2
    have nC : H c' = none := I0.hok.fresh hge
    have nP : s.heap.objs.size ≠ P := fun z => by
      have q : H P = none := by rw [← z]; exact nD
      rw [q] at hP
      cases hP
    have I1 := inv_table (t' := tk) (q := X.env.qual ++ "<lambda>") (more := #[rawInt pos.line, rawInt pos.col, .ref c']) (h' := h'.push (PySem.W.kdv_obj "<lambda>" (X.env.qual ++ "<lambda>") params (.expr body) scope (cloFrom X.env.cells scope.names []) (.ref s.heap.objs.size) doc ((X.mg "__name__").getD .none) c' ctv)) I0 hP
      (fun b o nb q => Heap.get?_push_of_some _ (hx b o nb q)) (Heap.get?_push_of_some _ htb) hge ⟨oc, vs, tq, Heap.get?_push_of_some _ hoc, hd, hv⟩
    have eP : upd (upd H P (.tbl (ps ++ #[rawInt pos.line, rawInt pos.col, .ref c']))) c' (CodeO c' (X.env.qual ++ "<lambda>")) P = some (.tbl (ps ++ #[rawInt pos.line, rawInt pos.col, .ref c'])) := by
      rw [upd_ne (ne_of_none hP nC), upd_same]
    have eH : ExtN H (upd (upd H P (.tbl (ps ++ #[rawInt pos.line, rawInt pos.col, .ref c']))) c' (CodeO c' (X.env.qual ++ "<lambda>"))) := fun b o q n => by
      have nb : b ≠ P := fun z => n ps (Option.some.inj (q.symm.trans (by rw [z]; exact hP)))
      rw [upd_ne (ne_of_none q nC), upd_ne nb]
      exact q
    have eL : (ps ++ #[rawInt pos.line, rawInt pos.col, .ref c']).toList = ps.toList ++ [rawInt pos.line, rawInt pos.col, .ref c'] := by simp
    have sz : (s.heap.push (PySem.W.kdv_tup [Value.int j s.toks])).objs.size ≤ h'.objs.size := Nat.le_trans hge (Nat.le_of_lt hlt)
    refine h h'.objs.size c' s.heap.objs.size (.int j s.toks) doc ((X.mg "__name__").getD .none) ctv _ _ I1 eH (fun p hp => ?_) (Heap.get?_push_size _ rfl) ?_ ?_ (Heap.get?_push_of_some _ (hx _ _ nP hD)) ?_ (outF _ (Nat.le_refl _)) upd_same
    · by_cases hb : p.1 = P
      · rw [hu p hp hb, hb]
        refine ⟨_, eP, by rw [eL]; exact PySem.TriplesOk_snoc _ _ _ _ ht, fun p' cv hcv => ?_⟩
        rw [eL] at hcv
        rcases among_app _ ht hcv with z | z
        · obtain ⟨c0, q1, q2⟩ := ha p' cv z
          exact ⟨c0, q1, eH _ _ q2 codeO_ne⟩
        · exact ⟨c', z, upd_same⟩
      · obtain ⟨ps', a1, a2, a3⟩ := hT p hp
        refine ⟨ps', by rw [upd_ne (ne_of_none a1 nC), upd_ne hb]; exact a1, a2, fun p' cv hcv => ?_⟩
        obtain ⟨c0, q1, q2⟩ := a3 p' cv hcv
        exact ⟨c0, q1, eH _ _ q2 codeO_ne⟩
    · rw [upd_ne (Nat.ne_of_gt hlt), upd_ne (Nat.ne_of_gt (Nat.lt_of_lt_of_le (Heap.lt_size hP0) sz))]
      exact I0.hok.fresh sz
    · exact outF _ (Nat.le_trans (Nat.le_of_lt lt0) sz)
    · rw [upd_ne (Nat.ne_of_lt (Nat.lt_of_lt_of_le lt0 hge)), upd_ne nP]
      exact nD
/-- the lambda's body entered, its own parameter bound -/
theorem lamD_start {A : Around} {outer : List Env} {E : XK} {scope : Scope} {f c' : Addr} {h₁ : Heap} {tk : Nat} {m : Str → Option Value} (I : Inv X pins σ H s) (L : LamD X.N X.env.scope scope y) (e0 : Env0 X.prog X.w X.K X.mg X.base A outer s1 HZ) (hd : A.handled = none)
    (un : Un (frs X.stack) [] H HZ s.heap s1.heap) (hns : h₁.Ns s1.heap.objs.size m) (kp : ∀ b o, s1.heap.get? b = some o → h₁.get? b = some o) : Inv (lamCx X A outer s1 HZ E scope f c') [] σ HZ { s1 with heap := h₁, toks := tk } := by
  have hfree := L.has I.ok
  -- a captured name's cell is the maker's
  have up : ∀ {z d}, (cloFrom X.env.cells scope.names []).lookup z = some d → X.env.cells.lookup z = some d := fun {z d} e => by
    rcases cloFrom_mem (PySem.mem_of_lookup e) with hm | ⟨q1, q2⟩
    · cases hm
    · obtain ⟨d1, hc⟩ := hfree _ q1 rfl
      have hc' : X.env.cells.lookup z = some d1 := hc
      rw [show d = d1 by rw [q2, hc] <;> rfl]
      exact hc'
  have at_ : ∀ {z}, scope.names.lookup z = some .free → ∃ d, (cloFrom X.env.cells scope.names []).lookup z = some d := fun {z} hl => mem_lookup (cloFrom_has (cells := X.env.cells) (acc := []) (PySem.mem_of_lookup hl))
  have cell' : ∀ {d : Addr} {v : Option Value}, H d = none → s.heap.IsCell d v → h₁.IsCell d v := fun {d v} n ⟨o, ho, hv⟩ => by
    obtain ⟨sl, q⟩ := un.any ho n (by simp)
    exact ⟨_, kp _ _ q, hv⟩
  refine { ok := ?_, os := rfl, bare := e0.bare, base := Un.kept kp, loc := ⟨m, hns, fun i z v q1 q2 q3 => ?_⟩, cell := fun z d e => ?_, free := e0.hok.fresh (Nat.le_refl _), freeC := fun z d e => ?_, pin := fun q hq => absurd (show q ∈ ([] : List (Addr × Obj)) ++ [] from hq) (by simp), hok := e0.hok.kept kp, len := I.len }
  · have no : ∀ b : Addr, b ∉ (lamCx X A outer s1 HZ E scope f c').ex := fun b z => absurd (show b ∈ ([] : List Addr) from z) (by simp)
    refine ⟨e0.mod, L.kind, rfl, rfl, Nat.le_refl _, fun z z2 d q1 q2 => I.ok.inj z z2 d (up q1) (up q2), fun z hz => ?_, fun z d q _ => Bool.noConfusion (show false = true from q), fun _ => hd, Around.frames_deeper e0.frames, .inr ⟨rfl, rfl⟩,
      fun b z => absurd z (no b), e0.bs, e0.bsz, fun b _ _ => no b, fun b z => absurd z (no b), e0.funs, e0.frf⟩
    have hz' : scope.names.lookup z = some .cell ∨ scope.names.lookup z = some .free := hz
    rcases hz' with q | q
    · exact absurd rfl (L.nocell _ (PySem.mem_of_lookup q))
    · exact at_ q
  · have q3' : Vis scope z := q3
    rcases q3' with k | k | k
    · exact absurd (List.mem_of_getElem? q1) (L.loc _ (PySem.mem_of_lookup k) rfl)
    · exact absurd rfl (L.nocell _ (PySem.mem_of_lookup k))
    · obtain ⟨m0, _, hl⟩ := I.loc
      have kf := L.free _ (PySem.mem_of_lookup k) rfl
      obtain ⟨w', r, q⟩ := hl i z v q1 q2 (kf.elim (fun k => .inr (.inl k)) fun k => .inr (.inr k))
      obtain ⟨d2, h2⟩ := at_ k
      refine ⟨w', r, .inr ⟨.inr k, d2, h2, ?_⟩⟩
      rcases q with ⟨k', _⟩ | ⟨_, d3, e', hz⟩
      · have k2 : X.env.scope.names.lookup z = some .local := k'
        rcases kf with k3 | k3 <;> rw [show X.env.scope.names.lookup z = _ from k3] at k2 <;> cases k2
      · rw [up h2] at e'
        cases e'
        exact cell' (I.freeC z _ (up h2)) hz
  · obtain ⟨w', hz⟩ := I.cell z d (up e)
    exact ⟨w', cell' (I.freeC z d (up e)) hz⟩
  · obtain ⟨v, o, ho, hv⟩ := I.cell z d (up e)
    exact un.free d o ho (I.freeC z d (up e)) (by simp)
/-- x(), in the def that got the lambda -/
theorem lamD_act {CXg : CXT} {Eg : XK} {Ng : List Str} {qg : Str} {sg : Scope} {g f c' D : Addr} {cdg pm ctv doc u : Value} {params : Arguments} {body : Expr} {scope : Scope} {k i : Nat} {a : Str} {pn : List (Addr × Obj)} {xe : Value → Shared → Prop} {W : WX} {E : XK} {tb : TE} {p1 p2 : Pos}
    (I : Inv X pins σ H s) (L : LamD X.N X.env.scope scope y) (hf : s.heap.get? f = some (PySem.W.kdv_obj "<lambda>" (X.env.qual ++ "<lambda>") params (.expr body) scope (cloFrom X.env.cells scope.names []) (.ref D) doc pm c' ctv)) (hfn : H f = none) (hfr : f ∉ frs X.stack)
    (hD : s.heap.get? D = some (PySem.W.kdv_tup [u])) (hDn : H D = none) (hDr : D ∉ frs X.stack)
    (hbind : ∃ kk, bindArgs (PySem.W.kdv_fn "<lambda>" (X.env.qual ++ "<lambda>") params (.expr body) scope (cloFrom X.env.cells scope.names []) (.ref D) doc pm (.ref c') ctv) ⟨[], []⟩ = seqItems? (.ref D) >>= kk ∧ kk (some [u].toArray) = pure [(y, u)])
    (tk : Takes ((cxOf CXg X.prog X.w X.K X.mg X.base Ng qg sg g cdg X.A X.stack s H Eg).tr pn xe) W) (hW : ∀ cls d σ' H', E cls d H' → W cls d σ' H') (hr : Room (k + 1) (X.A.deeper (envOfC qg sg s.heap.objs.size g cdg)))
    (hbody : ∀ (A : Around) (outer : List Env) (s : Shared) (H : Hp), Room k (A.deeper (lamEnv X scope s.heap.objs.size f c')) → PE (lamCx X A outer s H E scope f c') body tb)
    (hN : Ng[i]? = some a) (hv : Vis sg a) (hdg : (a == ("__debug__" : Str)) = false := by decide) (hcd : (a == ("__classdict__" : Str)) = false := by decide) :
    PE ((cxOf CXg X.prog X.w X.K X.mg X.base Ng qg sg g cdg X.A X.stack s H Eg).tr pn xe) (.Call (.Name a p1) [] [] p2)
      (fun σZ HZ Q => σZ[i]? = some (some (.ref f)) ∧ HZ c' = some (CodeO c' (X.env.qual ++ "<lambda>")) ∧ tb σ HZ Q) := by
  refine ⟨fun pinsZ sZ σZ HZ Q IZ h => ?_⟩
  obtain ⟨hs, hc, ht⟩ := h
  refine wpAny_Call_Name_kw (thn ((pe_var (pos := p1) (i := i) hN hv hdg hcd).run pinsZ sZ σZ HZ (fun v H1 => v = .ref f ∧ H1 = HZ) IZ ⟨.ref f, hs, rfl, rfl⟩) fun uf s1 hz => ?_)
  obtain ⟨v, H1, I1, r1, rfl, rfl⟩ := hz
  obtain rfl : uf = Value.ref f := r1
  have still : ∀ {b : Addr} {o : Obj}, s.heap.get? b = some o → H b = none → b ∉ frs X.stack → s1.heap.get? b = some o := fun {b o} q1 q2 q3 => I1.base.keep b o q1 q2 q3 (fun z => nomatch (show b ∈ ([] : List Addr) from z))
  have of1 := still hf hfn hfr
  have oD1 := still hD hDn hDr
  refine PySem.W.callWith_F0 ⟨_, _, _, _, of1⟩ ?_
  obtain ⟨⟨oc, vs, tq, hoc, hdc, hvc⟩, _, _⟩ := I1.hok c' _ hc
  obtain ⟨kk, b1, b2⟩ := hbind
  have hb : BindsTo s1 (PySem.W.kdv_fn "<lambda>" (X.env.qual ++ "<lambda>") params (.expr body) scope (cloFrom X.env.cells scope.names []) (.ref D) doc pm (.ref c') ctv) ⟨[], []⟩ [(y, u)] := BindsTo.of_defaults rfl oD1 rfl b1 b2
  have rc : codeAny (model X.prog X.w) (X.A.deeper (envOfC qg sg s.heap.objs.size g cdg)) (.call (.ref f) ⟨[], []⟩) (CR (L2.CX X.prog X.w) (envOfC qg sg s.heap.objs.size g cdg :: X.stack) X.prog X.w H1 s1 Q E) s1 := by
    refine PySem.W.kla_callFunE hr.depth of1 rfl L.co L.gen rfl ⟨c', oc, vs, tq, rfl, hoc, hdc, hvc⟩ (hb _ _ _ _ ?_)
    refine wpAny_newFunctionEnv L.nocell (fun z hz => by rw [List.mem_singleton.mp hz]; exact L.par) (fun h₁ hns hsb => ⟨I1.nolimit.fresh _ hsb, ?_⟩) L.kind
    have kp : ∀ b o, s1.heap.get? b = some o → h₁.get? b = some o := fun b o e => hsb.extBut b o (Nat.ne_of_lt (Heap.lt_size e)) (Heap.get?_push_of_some _ e)
    have J := lamD_start (E := E) (f := f) (c' := c') (tk := s1.toks + ([(y, u)] : List (Str × Value)).length) I L I1.env0 hr.hd I1.base hns kp
    refine PySem.W.kla_codeExpr (wpAny_mono ((hbody _ _ s1 H1 (hr.deeper _)).run [] _ _ H1 Q J ht) (fun v s' hq => ?_) fun e s' hq => hq)
    obtain ⟨w', H', J', rv, q⟩ := hq
    exact ⟨w', H', J'.os, J'.bare, J'.base, J'.hok, rv, q⟩
  refine wpAny_call (codeAny_mono rc fun r s' hq => ?_)
  cases r with
  | error e => exact passes_call tk hW pinsZ σZ H1 s1 e s' I1 hq
  | ok fl =>
    cases fl with
    | ret u => exact I1.after hq
    | next => exact False.elim hq
    | brk => exact False.elim hq
    | cont => exact False.elim hq
/-- x(lambda y=j: body) -/
theorem pe_lamcallD {T : List (Addr × Str)} {TT : (XK → Hp → VK → Prop) → Hp → VK → Prop} {x a : Str} {g c P : Addr} {k : Nat} {pg : Arguments} {bg : List Stmt} {sg : Scope} {dV kV doc pm cdv ct oc : Value} {an od : Option Addr} {osl : Array (Option Value)} {Ng : List Str}
    {params : Arguments} {body : Expr} {scope : Scope} {t : XK → TE} {p lpos pos dp : Pos} {j : Int} {kd : Nat} (hg : Gl X x) (hm : X.mg x = some (.ref g)) (hk : PySem.W.keepIn X.K (.ref g) = true)
    (lk : X.K.lookup g = some ⟨oc, od, .func (PySem.W.fnOf x x pg bg sg dV kV doc pm an cdv ct), osl⟩) (hcg : PySem.W.codeIn X.K cdv x = true) (hb : L2.Binds X.K (PySem.W.fnOf x x pg bg sg dV kV doc pm an cdv ct) [a] []) (Sg : FnScope Ng [a] sg) (hNg : Ng[0]? = some a) (hva : Vis sg a)
    (hG : GivesTo X Ng x sg g cdv bg a (X.env.qual ++ "<lambda>") TT)
    (TB : TabB X.base X.mg c P) (hcode : X.env.code = .ref c) (hmT : (P, X.env.qual ++ "<lambda>") ∈ T) (hu : ∀ p ∈ T, p.1 = P → p.2 = X.env.qual ++ "<lambda>") (hr : Room (k + 2) X.A) (L : LamD X.N X.env.scope scope y)
    (hdf : params.defaults = [.Constant (.int j) kd dp]) (hkw : params.kw_defaults = [])
    (hbind : ∀ (q : Str) (cl : List (Str × Addr)) (D : Addr) (doc pm cv ctv u : Value), ∃ kk, bindArgs (PySem.W.kdv_fn "<lambda>" q params (.expr body) scope cl (.ref D) doc pm cv ctv) ⟨[], []⟩ = seqItems? (.ref D) >>= kk ∧ kk (some [u].toArray) = pure [(y, u)])
    (hbody : ∀ (A : Around) (outer : List Env) (s : Shared) (H : Hp) (E : XK) (f c' : Addr), Room k (A.deeper (lamEnv X scope s.heap.objs.size f c')) → PE (lamCx X A outer s H E scope f c') body (t E))
    (hdb : (x == ("__debug__" : Str)) = false := by decide) (hdg : (a == ("__debug__" : Str)) = false := by decide) (hcd : (a == ("__classdict__" : Str)) = false := by decide) :
    PE X (.Call (.Name x p) [.Lambda params body scope lpos] [] pos) (tLam T TT t) := by
  refine ⟨fun pins s σ H Q I h => ?_⟩
  obtain ⟨hT, h⟩ := h
  refine wpAny_Call_Name_kw (ld_glob I hg hm ?_ hdb)
  refine PySem.W.callWith_K (h₀ := X.base) I.ok.mod.kin hk ?_ (by rfl) (by rfl)
  show wpAny _ _ (spliced ((false, eval (.Lambda params body scope lpos) X.env) :: backTo pos (starEach [] X.env))) _ _ s
  refine Calls.spliced_cons (lamD_make I TB hcode hmT hu hT hdf hkw (L.has I.ok) fun f c' D u doc' pm' ctv H1 s' I1 eN T1 hf hfn hfr hD hDn hDr hco => ?_)
  refine Calls.spliced_nil ⟨I1.kIn, ?_⟩
  have rc : codeAny (model X.prog X.w) X.A (.call (.ref g) ⟨[.ref f], []⟩) (CR C8.CX0 X.stack X.prog X.w H1 s' Q C8.E0) s' := by
    refine run_ofS (N := Ng) (ps := [a]) (us := [.ref f]) (vs := [.ref f]) lk hcg Sg hr I1.env0 (hb s' [.ref f] I1.kIn rfl) (.cons rfl .nil) rfl fun hr' => ?_
    obtain ⟨t', ht', hq'⟩ := hG f c' s' H1 Q (fun E H' Q' => t E σ H' Q') (fun W pn xe E p1 p2 tk hW => lamD_act (i := 0) I1 L hf hfn hfr hD hDn hDr (hbind _ _ _ _ _ _ _ _) tk hW hr' (fun A outer s H hr2 => hbody A outer s H E f c' hr2) hNg hva hdg hcd) hco (h H1 eN T1)
    exact ⟨t', ht'.nox, hq'⟩
  refine wpAny_call (codeAny_mono rc fun r s2 hq => ?_)
  cases r with
  | error e => exact (show False from hq).elim
  | ok fl =>
    cases fl with
    | ret u => exact I1.after hq
    | next => exact False.elim hq
    | brk => exact False.elim hq
    | cont => exact False.elim hq
end
end My

set_option maxHeartbeats 4000000
namespace My
open PySem PySem.Spec PyProof.Rows L2 LamX
abbrev sHeard : Stmt := top 39
abbrev hNm : List Str := ["ask", "caught", "found", "error", "some", "words", "word", "is_one"]
/-- the classes that _law_heard names -/
structure TxtH (K : PySem.W.Frag) (mg : Str → Option Value) (CE CM c0 c1 c2 c3 c4 c5 c6 c7 : Addr) : Prop where
  n_isi : mg "isinstance" = none
  n_len : mg "len" = none
  mE : mg "BellError" = some (.ref CE)
  mM : mg "TooMany" = some (.ref CM)
  m0 : mg "BadNumber" = some (.ref c0)
  m1 : mg "BadBits" = some (.ref c1)
  m2 : mg "BadTable" = some (.ref c2)
  m3 : mg "BadBook" = some (.ref c3)
  m4 : mg "BadRow" = some (.ref c4)
  m5 : mg "BadPattern" = some (.ref c5)
  m6 : mg "BadPaper" = some (.ref c6)
  m7 : mg "Misfit" = some (.ref c7)
/-- which of the eight an error class at C is -/
structure Heard (K : PySem.W.Frag) (CE CM c0 c1 c2 c3 c4 c5 c6 c7 C : Addr) (b0 b1 b2 b3 b4 b5 b6 b7 : Bool) : Prop where
  ex : PySem.W.exmOne K (.ref C) (.ref CE) = some true
  xf : XfC K C
  xc : ExcC K C
  np : PySem.W.findIn K (.ref C) "part" = some none
  kM : PySem.W.kitOne K (.ref C) (.ref CM) = some false
  k0 : PySem.W.kitOne K (.ref C) (.ref c0) = some b0
  k1 : PySem.W.kitOne K (.ref C) (.ref c1) = some b1
  k2 : PySem.W.kitOne K (.ref C) (.ref c2) = some b2
  k3 : PySem.W.kitOne K (.ref C) (.ref c3) = some b3
  k4 : PySem.W.kitOne K (.ref C) (.ref c4) = some b4
  k5 : PySem.W.kitOne K (.ref C) (.ref c5) = some b5
  k6 : PySem.W.kitOne K (.ref C) (.ref c6) = some b6
  k7 : PySem.W.kitOne K (.ref C) (.ref c7) = some b7
def hw8 (b0 b1 b2 b3 b4 b5 b6 b7 : Bool) : List (Str × Bool) := [("number", b0), ("bits", b1), ("table", b2), ("book", b3), ("row", b4), ("pattern", b5), ("paper", b6), ("misfit", b7)]
def heardOf (ps : List (Str × Bool)) : List Str := (ps.filter (·.2)).map (·.1)
/-- what the error of a call may be -/
def EchH (K : PySem.W.Frag) (CE CM c0 c1 c2 c3 c4 c5 c6 c7 : Addr) (Q : VK) : XK := fun cls d H' => ∃ (C dx : Addr) (v : V) (b0 b1 b2 b3 b4 b5 b6 b7 : Bool) (w : Str), cls = .ref C ∧ d = some dx ∧ H' dx = some (exd dx [("part", v)]) ∧ Heard K CE CM c0 c1 c2 c3 c4 c5 c6 c7 C b0 b1 b2 b3 b4 b5 b6 b7 ∧
    heardOf (hw8 b0 b1 b2 b3 b4 b5 b6 b7) = [w] ∧ ∀ t H'', Same H' H'' → H'' t = some (.tup [.str w, v]) → H' t = none → Q (.ref t) H''
/-- _law_heard(a): tl is the reading of a's call -/
def THeard (K : PySem.W.Frag) (CE CM c0 c1 c2 c3 c4 c5 c6 c7 : Addr) : (XK → Hp → VK → Prop) → Hp → VK → Prop := fun tl H Q =>
  ∀ t0, H t0 = none → ∃ (E' : XK) (Q' : VK), (∀ cls d H', E' cls d H' → EchH K CE CM c0 c1 c2 c3 c4 c5 c6 c7 Q cls d H') ∧ (∀ v H', Q' v H' → ∀ l, H' l = none → Q (.ref l) (upd H' l (.lst [v]))) ∧ tl E' (upd H t0 (.tup [.non, .non])) Q'
theorem heardOf_snoc (ps : List (Str × Bool)) (w : Str) (b : Bool) : heardOf (ps ++ [(w, b)]) = heardOf ps ++ (if b = true then [w] else []) := by
  unfold heardOf
  rw [List.filter_append, List.map_append]
  cases b <;> rfl
section
variable {X : Cx} {g : Addr} {cdg : Value} {q : Str} {CE CM c0 c1 c2 c3 c4 c5 c6 c7 : Addr}
theorem scHd : FnScope hNm ["ask"] (defScope sHeard) := ⟨rfl, rfl, rfl, by decide +kernel, rfl, by decide +kernel, by decide +kernel⟩
/-- what a weaker wish asks -/
def tUp (te : TE) : TE := fun σ H Q => ∃ Q' : VK, (∀ v H', Q' v H' → Q v H') ∧ te σ H Q'
theorem pe_up {X : Cx} {e : Expr} {te : TE} (h : PE X e te) : PE X e (tUp te) := ⟨fun pins s σ H Q I hq => by
  obtain ⟨Q', h1, h2⟩ := hq
  refine wpAny_mono (h.run pins s σ H Q' I h2) (fun u s1 z => ?_) fun _ _ z => z
  obtain ⟨v, H1, I1, r, q⟩ := z
  exact ⟨v, H1, I1, r, h1 v H1 q⟩⟩
/-- a wish asked of full frames alone -/
theorem takes_len {X : Cx} {W : WX} {n : Nat} (hn : X.N.length = n) (tk : Takes X W) : Takes X (fun cls d σ H => σ.length = n → W cls d σ H) := fun u s' hx => by
  obtain ⟨a, B, sI, pins, σ, H, cls, d, e, I, nb, up, sky, na, os, ag, w⟩ := hx
  exact tk u s' ⟨a, B, sI, pins, σ, H, cls, d, e, I, nb, up, sky, na, os, ag, w (by rw [I.len]; exact hn)⟩
theorem heard_gives (T : TxtH X.K X.mg CE CM c0 c1 c2 c3 c4 c5 c6 c7) : GivesTo X hNm "_law_heard" (defScope sHeard) g cdg (defBody sHeard) "ask" q (THeard X.K CE CM c0 c1 c2 c3 c4 c5 c6 c7) := by
  intro f c' s H Q tl act hc h
  have nd := scHd.nd
  refine ⟨_, pss_cons (ps_asg (pe_tup (pa_cons pe_non (pa_cons pe_non pa_nil))) (pg_tup rfl (pgs_cons (pg_name (i := 1) nd rfl (Or.inl rfl)) (pgs_cons (pg_name (i := 2) nd rfl (Or.inl rfl)) pgs_nil))))
    (pss_cons (ps_try_keep (X := (cxOf C8.CX0 X.prog X.w X.K X.mg X.base hNm "_law_heard" (defScope sHeard) g cdg X.A X.stack s H C8.E0).nox) (i := 3) (c := .ref CE) (Wout := fun _ _ _ _ => False)
      (tb := fun W D σ H => ∃ Ech : XK, (∀ cls d σ' H', σ'.length = 8 → Ech cls d H' → W cls d σ' H') ∧ tUp (fun σZ HZ Q => σZ[0]? = some (some (.ref f)) ∧ HZ c' = some (CodeO c' q) ∧ tl Ech HZ Q) σ H (fun v H' => D.nx (σ.set 2 (some v)) H'))
      rfl rfl rfl nd rfl rfl ⟨by rfl, by decide, .inl T.mE⟩ takes0 (fun W pn xe tk _ => ?_) (fun a oe cls d pn _ _ => pss_one (ps_set (i := 1) nd rfl (Or.inl rfl) (pv 3))))
    (pss_cons (ps_if (pt_cmpR op_isN (pv 1) pe_non (nomark _)) (pss_one (ps_ret (pe_lst (pa_cons (pv 2) pa_nil)))) pss_nil)
    (pss_cons (ps_if (pt_val (pe_callB call_isK (by rfl) T.n_isi (by decide +kernel) (pa_cons (pv 1) (pa_cons (pe_glob (v := .ref CM) (by rfl) T.mM rfl) pa_nil)))) (pss_one (ps_ret (pe_tup (pa_cons pe_str (pa_cons (pe_xk (pv 1)) (pa_cons (pe_xk (pv 1)) pa_nil)))))) pss_nil)
    (pss_cons (ps_set (i := 4) nd rfl (Or.inl rfl) (pe_lst (pa_cons (pe_tup (pa_cons pe_str (pa_cons (pe_callB call_isK (by rfl) T.n_isi (by decide +kernel) (pa_cons (pv 1) (pa_cons (pe_glob (v := .ref c0) (by rfl) T.m0 rfl) pa_nil))) pa_nil)))
        (pa_cons (pe_tup (pa_cons pe_str (pa_cons (pe_callB call_isK (by rfl) T.n_isi (by decide +kernel) (pa_cons (pv 1) (pa_cons (pe_glob (v := .ref c1) (by rfl) T.m1 rfl) pa_nil))) pa_nil)))
        (pa_cons (pe_tup (pa_cons pe_str (pa_cons (pe_callB call_isK (by rfl) T.n_isi (by decide +kernel) (pa_cons (pv 1) (pa_cons (pe_glob (v := .ref c2) (by rfl) T.m2 rfl) pa_nil))) pa_nil)))
        (pa_cons (pe_tup (pa_cons pe_str (pa_cons (pe_callB call_isK (by rfl) T.n_isi (by decide +kernel) (pa_cons (pv 1) (pa_cons (pe_glob (v := .ref c3) (by rfl) T.m3 rfl) pa_nil))) pa_nil))) pa_nil))))))
    (pss_cons (ps_set (i := 4) nd rfl (Or.inl rfl) (pe_op op_cat (pv 4) (pe_lst (pa_cons (pe_tup (pa_cons pe_str (pa_cons (pe_callB call_isK (by rfl) T.n_isi (by decide +kernel) (pa_cons (pv 1) (pa_cons (pe_glob (v := .ref c4) (by rfl) T.m4 rfl) pa_nil))) pa_nil)))
        (pa_cons (pe_tup (pa_cons pe_str (pa_cons (pe_callB call_isK (by rfl) T.n_isi (by decide +kernel) (pa_cons (pv 1) (pa_cons (pe_glob (v := .ref c5) (by rfl) T.m5 rfl) pa_nil))) pa_nil)))
        (pa_cons (pe_tup (pa_cons pe_str (pa_cons (pe_callB call_isK (by rfl) T.n_isi (by decide +kernel) (pa_cons (pv 1) (pa_cons (pe_glob (v := .ref c6) (by rfl) T.m6 rfl) pa_nil))) pa_nil)))
        (pa_cons (pe_tup (pa_cons pe_str (pa_cons (pe_callB call_isK (by rfl) T.n_isi (by decide +kernel) (pa_cons (pv 1) (pa_cons (pe_glob (v := .ref c7) (by rfl) T.m7 rfl) pa_nil))) pa_nil))) pa_nil)))))))
    (pss_cons (ps_setLc (i := 5) (own := [("word", 6), ("is_one", 7)]) (g := gTup X.K 2 (gCons (gName 6) (gCons (gName 7) gNil))) rfl nd rfl rfl (sw_true rfl rfl rfl (by decide +kernel)) (pi_list (pv 4)) (blkOk_by (N := hNm) (sc := defScope sHeard) (by decide +kernel)) (fun _ _ _ _ _ => pg_tup (by rfl) (pgs_cons (pg_name (i := 6) nd rfl (Or.inl rfl)) (pgs_cons (pg_name (i := 7) nd rfl (Or.inl rfl)) pgs_nil))) (fun _ _ _ _ _ => pts_one (pt_val (pv 7))) (fun _ _ _ _ _ => pv 6))
    (pss_one (ps_ret (pe_ifExp (pt_cmpR op_eq (pe_callB call_len_seq (by rfl) T.n_len PySem.boot_len (pa_cons (pv 5) pa_nil)) pe_int (nomark _)) (pe_tup (pa_cons (pe_ix ix_list (pv 5) pe_int (fun _ _ => rfl)) (pa_cons (pe_xk (pv 1)) pa_nil))) (pe_tup (pa_cons pe_str pa_nil)))))))))))
    , ?_⟩
  · refine ⟨fun pins s' σ H' D I h' => ?_⟩
    obtain ⟨Ech, hW, h1⟩ := h'
    have hp := act (fun cls d σ' H' => σ'.length = 8 → W cls d σ' H') pn xe Ech
    exact (pss_one (ps_set (i := 2) nd rfl (Or.inl rfl) (pe_up (hp _ _ (takes_len rfl tk) fun cls d σ' H' e hl => hW cls d σ' H' hl e)))).run pins s' σ H' D I h1
  · refine ⟨by show 2 ≤ sizeLine; decide, fun t0 ht0 => ?_⟩
    refine ⟨t0, [.non, .non], rfl, .inl (.inl upd_same), rfl, .non, [.non], rfl, .non, [], rfl, rfl, ?_⟩
    have hc0 : upd H t0 (HO.tup [V.non, V.non]) c' = some (CodeO c' q) := by rw [upd_ne (ne_of_none hc ht0)]; exact hc
    obtain ⟨E', Q', hE, hQ, h0⟩ := h t0 ht0
    generalize upd H t0 (HO.tup [V.non, V.non]) = H0 at hc0 h0 ⊢
    refine ⟨E', fun cls d σ' H' hl e => ?_, Q', fun v H1 hk0 => ?_, rfl, hc0, h0⟩
    rotate_left
    · have hk := hQ v H1 hk0
      refine ⟨_, rfl, rfl, _, rfl, ?_⟩
      refine iteT ?_
      exact ⟨_, rfl, by show 1 ≤ sizeLine; decide, fun l hl => hk l hl⟩
    obtain ⟨C, dx, v, b0, b1, b2, b3, b4, b5, b6, b7, w, rfl, rfl, hdx, hC, hw, k⟩ := hE _ _ _ e
    refine ⟨true, hC.ex, fun _ => ⟨C, rfl, fun a ha => ?_⟩, fun z => nomatch z⟩
    match σ', hl with
    | [s0, s1, s2, s3, s4, s5, s6, s7], _ =>
      refine ⟨_, rfl, fun ha2 => ?_⟩
      have x0 : XKt (upd H' a (exk a C (some dx))) a C dx [("part", v)] := ⟨upd_same, by rw [upd_ne (ne_of_none hdx ha)]; exact hdx⟩
      have sA : Same H' (upd H' a (exk a C (some dx))) := same_new ha _
      generalize upd H' a (exk a C (some dx)) = G at x0 sA ⊢
      refine ⟨_, rfl, rfl, _, rfl, ?_⟩
      refine iteF ?_
      refine ⟨_, rfl, a, C, dx, _, .ref CM, .ref CM, false, rfl, x0, hC.xc, .own _, hC.kM, _, rfl, iteF ?_⟩
      refine ⟨_, rfl, a, C, dx, _, .ref c0, .ref c0, b0, rfl, x0, hC.xc, .own _, hC.k0, by show 2 ≤ sizeLine; decide, fun p0 hp0 => ?_⟩
      have e0 : Same G (upd G p0 (.tup [.str "number", .bl b0])) := same_new hp0 _
      have q0 : upd G p0 (HO.tup [V.str "number", V.bl b0]) p0 = some (.tup [.str "number", .bl b0]) := upd_same
      replace x0 := x0.same e0
      replace sA := sA.trans e0
      generalize upd G p0 (HO.tup [V.str "number", V.bl b0]) = G0 at x0 sA e0 q0 ⊢
      refine ⟨_, rfl, a, C, dx, _, .ref c1, .ref c1, b1, rfl, x0, hC.xc, .own _, hC.k1, by show 2 ≤ sizeLine; decide, fun p1 hp1 => ?_⟩
      have e1 : Same G0 (upd G0 p1 (.tup [.str "bits", .bl b1])) := same_new hp1 _
      have q1 : upd G0 p1 (HO.tup [V.str "bits", V.bl b1]) p1 = some (.tup [.str "bits", .bl b1]) := upd_same
      replace x0 := x0.same e1
      replace sA := sA.trans e1
      generalize upd G0 p1 (HO.tup [V.str "bits", V.bl b1]) = G1 at x0 sA e1 q1 ⊢
      replace q0 := e1 _ _ q0
      refine ⟨_, rfl, a, C, dx, _, .ref c2, .ref c2, b2, rfl, x0, hC.xc, .own _, hC.k2, by show 2 ≤ sizeLine; decide, fun p2 hp2 => ?_⟩
      have e2 : Same G1 (upd G1 p2 (.tup [.str "table", .bl b2])) := same_new hp2 _
      have q2 : upd G1 p2 (HO.tup [V.str "table", V.bl b2]) p2 = some (.tup [.str "table", .bl b2]) := upd_same
      replace x0 := x0.same e2
      replace sA := sA.trans e2
      generalize upd G1 p2 (HO.tup [V.str "table", V.bl b2]) = G2 at x0 sA e2 q2 ⊢
      replace q0 := e2 _ _ q0
      replace q1 := e2 _ _ q1
      refine ⟨_, rfl, a, C, dx, _, .ref c3, .ref c3, b3, rfl, x0, hC.xc, .own _, hC.k3, by show 2 ≤ sizeLine; decide, fun p3 hp3 => ?_⟩
      have e3 : Same G2 (upd G2 p3 (.tup [.str "book", .bl b3])) := same_new hp3 _
      have q3 : upd G2 p3 (HO.tup [V.str "book", V.bl b3]) p3 = some (.tup [.str "book", .bl b3]) := upd_same
      replace x0 := x0.same e3
      replace sA := sA.trans e3
      generalize upd G2 p3 (HO.tup [V.str "book", V.bl b3]) = G3 at x0 sA e3 q3 ⊢
      replace q0 := e3 _ _ q0
      replace q1 := e3 _ _ q1
      replace q2 := e3 _ _ q2
      refine ⟨by show 4 ≤ sizeLine; decide, fun l1 hl1 => ?_⟩
      have el1 : Same G3 (upd G3 l1 (.lst [.ref p0, .ref p1, .ref p2, .ref p3])) := same_new hl1 _
      have ql1 : upd G3 l1 (HO.lst [V.ref p0, V.ref p1, V.ref p2, V.ref p3]) l1 = some (.lst [.ref p0, .ref p1, .ref p2, .ref p3]) := upd_same
      replace x0 := x0.same el1
      replace sA := sA.trans el1
      generalize upd G3 l1 (HO.lst [V.ref p0, V.ref p1, V.ref p2, V.ref p3]) = L1 at x0 sA el1 ql1 ⊢
      replace q0 := el1 _ _ q0
      replace q1 := el1 _ _ q1
      replace q2 := el1 _ _ q2
      replace q3 := el1 _ _ q3
      refine ⟨_, rfl, ?_⟩
      refine ⟨_, rfl, a, C, dx, _, .ref c4, .ref c4, b4, rfl, x0, hC.xc, .own _, hC.k4, by show 2 ≤ sizeLine; decide, fun p4 hp4 => ?_⟩
      have e4 : Same L1 (upd L1 p4 (.tup [.str "row", .bl b4])) := same_new hp4 _
      have q4 : upd L1 p4 (HO.tup [V.str "row", V.bl b4]) p4 = some (.tup [.str "row", .bl b4]) := upd_same
      replace x0 := x0.same e4
      replace sA := sA.trans e4
      generalize upd L1 p4 (HO.tup [V.str "row", V.bl b4]) = G4 at x0 sA e4 q4 ⊢
      replace q0 := e4 _ _ q0
      replace q1 := e4 _ _ q1
      replace q2 := e4 _ _ q2
      replace q3 := e4 _ _ q3
      replace ql1 := e4 _ _ ql1
      refine ⟨_, rfl, a, C, dx, _, .ref c5, .ref c5, b5, rfl, x0, hC.xc, .own _, hC.k5, by show 2 ≤ sizeLine; decide, fun p5 hp5 => ?_⟩
      have e5 : Same G4 (upd G4 p5 (.tup [.str "pattern", .bl b5])) := same_new hp5 _
      have q5 : upd G4 p5 (HO.tup [V.str "pattern", V.bl b5]) p5 = some (.tup [.str "pattern", .bl b5]) := upd_same
      replace x0 := x0.same e5
      replace sA := sA.trans e5
      generalize upd G4 p5 (HO.tup [V.str "pattern", V.bl b5]) = G5 at x0 sA e5 q5 ⊢
      replace q0 := e5 _ _ q0
      replace q1 := e5 _ _ q1
      replace q2 := e5 _ _ q2
      replace q3 := e5 _ _ q3
      replace q4 := e5 _ _ q4
      replace ql1 := e5 _ _ ql1
      refine ⟨_, rfl, a, C, dx, _, .ref c6, .ref c6, b6, rfl, x0, hC.xc, .own _, hC.k6, by show 2 ≤ sizeLine; decide, fun p6 hp6 => ?_⟩
      have e6 : Same G5 (upd G5 p6 (.tup [.str "paper", .bl b6])) := same_new hp6 _
      have q6 : upd G5 p6 (HO.tup [V.str "paper", V.bl b6]) p6 = some (.tup [.str "paper", .bl b6]) := upd_same
      replace x0 := x0.same e6
      replace sA := sA.trans e6
      generalize upd G5 p6 (HO.tup [V.str "paper", V.bl b6]) = G6 at x0 sA e6 q6 ⊢
      replace q0 := e6 _ _ q0
      replace q1 := e6 _ _ q1
      replace q2 := e6 _ _ q2
      replace q3 := e6 _ _ q3
      replace q4 := e6 _ _ q4
      replace q5 := e6 _ _ q5
      replace ql1 := e6 _ _ ql1
      refine ⟨_, rfl, a, C, dx, _, .ref c7, .ref c7, b7, rfl, x0, hC.xc, .own _, hC.k7, by show 2 ≤ sizeLine; decide, fun p7 hp7 => ?_⟩
      have e7 : Same G6 (upd G6 p7 (.tup [.str "misfit", .bl b7])) := same_new hp7 _
      have q7 : upd G6 p7 (HO.tup [V.str "misfit", V.bl b7]) p7 = some (.tup [.str "misfit", .bl b7]) := upd_same
      replace x0 := x0.same e7
      replace sA := sA.trans e7
      generalize upd G6 p7 (HO.tup [V.str "misfit", V.bl b7]) = G7 at x0 sA e7 q7 ⊢
      replace q0 := e7 _ _ q0
      replace q1 := e7 _ _ q1
      replace q2 := e7 _ _ q2
      replace q3 := e7 _ _ q3
      replace q4 := e7 _ _ q4
      replace q5 := e7 _ _ q5
      replace q6 := e7 _ _ q6
      replace ql1 := e7 _ _ ql1
      refine ⟨by show 4 ≤ sizeLine; decide, fun l2 hl2 => ?_⟩
      have el2 : Same G7 (upd G7 l2 (.lst [.ref p4, .ref p5, .ref p6, .ref p7])) := same_new hl2 _
      have ql2 : upd G7 l2 (HO.lst [V.ref p4, V.ref p5, V.ref p6, V.ref p7]) l2 = some (.lst [.ref p4, .ref p5, .ref p6, .ref p7]) := upd_same
      replace x0 := x0.same el2
      replace sA := sA.trans el2
      generalize upd G7 l2 (HO.lst [V.ref p4, V.ref p5, V.ref p6, V.ref p7]) = L2h at x0 sA el2 ql2 ⊢
      replace q0 := el2 _ _ q0
      replace q1 := el2 _ _ q1
      replace q2 := el2 _ _ q2
      replace q3 := el2 _ _ q3
      replace q4 := el2 _ _ q4
      replace q5 := el2 _ _ q5
      replace q6 := el2 _ _ q6
      replace q7 := el2 _ _ q7
      replace ql1 := el2 _ _ ql1
      refine ⟨_, _, _, _, rfl, rfl, ql1, ql2, by show 4 + 4 ≤ sizeLine; decide, fun l3 hl3 => ?_⟩
      have el3 : Same L2h (upd L2h l3 (.lst ([.ref p0, .ref p1, .ref p2, .ref p3] ++ [.ref p4, .ref p5, .ref p6, .ref p7]))) := same_new hl3 _
      have ql3 : upd L2h l3 (HO.lst ([V.ref p0, V.ref p1, V.ref p2, V.ref p3] ++ [V.ref p4, V.ref p5, V.ref p6, V.ref p7])) l3 = some (.lst ([.ref p0, .ref p1, .ref p2, .ref p3, .ref p4, .ref p5, .ref p6, .ref p7])) := upd_same
      replace x0 := x0.same el3
      replace sA := sA.trans el3
      generalize upd L2h l3 (HO.lst ([V.ref p0, V.ref p1, V.ref p2, V.ref p3] ++ [V.ref p4, V.ref p5, V.ref p6, V.ref p7])) = L3 at x0 sA el3 ql3 ⊢
      have at8 : ∀ (i : Nat) (x : V), ([V.ref p0, V.ref p1, V.ref p2, V.ref p3, V.ref p4, V.ref p5, V.ref p6, V.ref p7] : List V)[i]? = some x → ∃ p w b, x = .ref p ∧ L3 p = some (.tup [.str w, .bl b]) ∧ (hw8 b0 b1 b2 b3 b4 b5 b6 b7)[i]? = some (w, b) := fun i x hx => by
        match i, hx with
        | 0, hx => cases hx; exact ⟨p0, _, b0, rfl, el3 _ _ q0, rfl⟩
        | 1, hx => cases hx; exact ⟨p1, _, b1, rfl, el3 _ _ q1, rfl⟩
        | 2, hx => cases hx; exact ⟨p2, _, b2, rfl, el3 _ _ q2, rfl⟩
        | 3, hx => cases hx; exact ⟨p3, _, b3, rfl, el3 _ _ q3, rfl⟩
        | 4, hx => cases hx; exact ⟨p4, _, b4, rfl, el3 _ _ q4, rfl⟩
        | 5, hx => cases hx; exact ⟨p5, _, b5, rfl, el3 _ _ q5, rfl⟩
        | 6, hx => cases hx; exact ⟨p6, _, b6, rfl, el3 _ _ q6, rfl⟩
        | 7, hx => cases hx; exact ⟨p7, _, b7, rfl, el3 _ _ q7, rfl⟩
        | n + 8, hx => cases hx
      have wl : ∀ i, (heardOf ((hw8 b0 b1 b2 b3 b4 b5 b6 b7).take i)).length ≤ 8 := fun i => by
        unfold heardOf
        rw [List.length_map]
        exact Nat.le_trans (List.length_filter_le _ _) (by rw [List.length_take]; exact Nat.min_le_right _ _)
      refine ⟨_, rfl, l3, rfl, ⟨_, .inl (.inl ql3)⟩, fun D hD => lc_list (xs := [V.ref p0, V.ref p1, V.ref p2, V.ref p3, V.ref p4, V.ref p5, V.ref p6, V.ref p7]) (fun i H2 => H2 D = some (.lst ((heardOf ((hw8 b0 b1 b2 b3 b4 b5 b6 b7).take i)).map V.str)) ∧ Same L3 H2)
        ⟨upd_same, same_new hD _⟩ (fun i H2 _ ⟨_, e⟩ => .inl (.inl (e _ _ ql3))) ?_ ?_⟩
      · rintro i x H2 hx ⟨hD2, e⟩
        obtain ⟨p, w1, b, rfl, hp, hwi⟩ := at8 i x hx
        refine ⟨p, [.str w1, .bl b], rfl, .inl (.inl (e _ _ hp)), rfl, .str w1, [.bl b], rfl, .bl b, [], rfl, rfl, rfl, ?_⟩
        refine ⟨_, rfl, b, rfl, ?_⟩
        have tk : heardOf ((hw8 b0 b1 b2 b3 b4 b5 b6 b7).take (i + 1)) = heardOf ((hw8 b0 b1 b2 b3 b4 b5 b6 b7).take i) ++ (if b = true then [w1] else []) := by
          rw [take_succ' hwi, heardOf_snoc]
        cases b with
        | true =>
          refine iteT ⟨_, rfl, _, hD2, ?_, ?_, ?_⟩
          · rw [List.length_map]
            exact Nat.lt_of_le_of_lt (wl i) (by decide)
          · rw [upd_same, tk, List.map_append]
            rfl
          · exact fun z o hz => by rw [upd_ne (ne_of_none hz hD)]; exact e _ _ hz
        | false =>
          refine iteF ⟨?_, e⟩
          rw [hD2, tk, if_neg Bool.false_ne_true, List.append_nil]
      · rintro H2 ⟨hD2, e⟩
        have hD3 : H2 D = some (.lst [.str w]) := by
          rw [hD2, show ((hw8 b0 b1 b2 b3 b4 b5 b6 b7).take ([V.ref p0, V.ref p1, V.ref p2, V.ref p3, V.ref p4, V.ref p5, V.ref p6, V.ref p7] : List V).length) = hw8 b0 b1 b2 b3 b4 b5 b6 b7 from rfl, hw]
          rfl
        have x1 := x0.same e
        refine ⟨_, rfl, D, _, rfl, .inl (.inl (.inl hD3)), rfl, _, rfl, ?_⟩
        refine iteT ?_
        refine ⟨_, rfl, D, _, _, _, rfl, rfl, .inl (.inl hD3), atI_nat (xs := [V.str w]) (j := 0) (v := V.str w) rfl, ?_⟩
        refine ⟨_, rfl, a, C, dx, _, v, rfl, x1, hC.xf, hC.np, rfl, by show 2 ≤ sizeLine; decide, fun t ht => ?_⟩
        exact k t _ (sA.trans (e.trans (same_new ht _))) upd_same ((sA.trans e).free ht)
/-- the same where just a BadNumber (at CB) or a Misfit (at CM) may be raised -/
def EchR (CB CM : Addr) (Q : VK) : XK := fun cls d H' => ∃ (dx : Addr) (v : V), d = some dx ∧ H' dx = some (exd dx [("part", v)]) ∧
  ((cls = .ref CB ∧ ∀ t H'', Same H' H'' → H'' t = some (.tup [.str "number", v]) → H' t = none → Q (.ref t) H'') ∨ (cls = .ref CM ∧ ∀ t H'', Same H' H'' → H'' t = some (.tup [.str "misfit", v]) → H' t = none → Q (.ref t) H''))
def THr (CB CM : Addr) : (XK → Hp → VK → Prop) → Hp → VK → Prop := fun tl H Q => ∀ t0, H t0 = none → tl (EchR CB CM Q) (upd H t0 (.tup [.non, .non])) (fun v H' => ∀ l, H' l = none → Q (.ref l) (upd H' l (.lst [v])))
/-- what the written part gives of _law_heard -/
structure TLh (K : PySem.W.Frag) (mg : Str → Option Value) (CB CM : Addr) : Prop where
  ex : ∃ CE CT c1 c2 c3 c4 c5 c6, TxtH K mg CE CT CB c1 c2 c3 c4 c5 c6 CM ∧ Heard K CE CT CB c1 c2 c3 c4 c5 c6 CM CB true false false false false false false false ∧ Heard K CE CT CB c1 c2 c3 c4 c5 c6 CM CM false false false false false false false true
  fn : ∃ g fd, FnP K "_law_heard" sHeard g fd ∧ Binds K fd ["ask"] [] ∧ mg "_law_heard" = some (.ref g)
theorem heard_gives2 {CB CM : Addr} (T : TLh X.K X.mg CB CM) : GivesTo X hNm "_law_heard" (defScope sHeard) g cdg (defBody sHeard) "ask" q (THr CB CM) := by
  obtain ⟨CE, CT, c1, c2, c3, c4, c5, c6, tx, hB, hM⟩ := T.ex
  intro f c' s H Q tl act hc h
  refine heard_gives tx f c' s H Q tl act hc fun t0 ht0 => ⟨_, _, fun cls d H' he => ?_, fun _ _ hv => hv, h t0 ht0⟩
  obtain ⟨dx, v, rfl, hdx, hk⟩ := he
  rcases hk with ⟨rfl, hk⟩ | ⟨rfl, hk⟩
  · exact ⟨_, dx, v, _, _, _, _, _, _, _, _, "number", rfl, rfl, hdx, hB, rfl, hk⟩
  · exact ⟨_, dx, v, _, _, _, _, _, _, _, _, "misfit", rfl, rfl, hdx, hM, rfl, hk⟩
/-- _law_heard(lambda: body) -/
theorem pe_heard {CB CM c P : Addr} {k : Nat} {params : Arguments} {body : Expr} {scope : Scope} {t : XK → TE} {p lpos pos : Pos} (T : TLh X.K X.mg CB CM) (hg : Gl X "_law_heard") (TB : TabB X.base X.mg c P) (hcode : X.env.code = .ref c) (hr : Room (k + 2) X.A) (L : LamS X.env.scope scope) (hdef : defaultsOf params X.env = ([], []))
    (hbind : ∀ (q : Str) (cl : List (Str × Addr)) (pm cv ctv : Value), bindArgs (PySem.W.kla_fn "<lambda>" q params body scope cl pm cv ctv) ⟨[], []⟩ = pure [])
    (hbody : ∀ (A : Around) (outer : List Env) (s : Shared) (H : Hp) (E : XK) (f c' : Addr), Room k (A.deeper (lamEnv X scope s.heap.objs.size f c')) → PE (lamCx X A outer s H E scope f c') body (t E)) :
    PE X (.Call (.Name "_law_heard" p) [.Lambda params body scope lpos] [] pos) (tLam [(P, X.env.qual ++ "<lambda>")] (THr CB CM) t) := by
  obtain ⟨g, fd, F, b, m⟩ := T.fn
  obtain ⟨oc, od, dV, kV, doc, pm, an, cdv, ct, osl, rfl, lk, hcd, _, _⟩ := F.ex
  exact pe_lamcall hg m F.kp lk hcd b scHd rfl (Or.inl rfl) (heard_gives2 T) TB hcode (List.mem_singleton.mpr rfl) (fun p hp _ => by rw [List.mem_singleton.mp hp]) hr L hdef hbind hbody
/-- _law_heard(lambda y=j: body) -/
theorem pe_heardD {CB CM c P : Addr} {k : Nat} {params : Arguments} {body : Expr} {scope : Scope} {t : XK → TE} {p lpos pos dp : Pos} {j : Int} {kd : Nat} {y : Str} (T : TLh X.K X.mg CB CM) (hg : Gl X "_law_heard") (TB : TabB X.base X.mg c P) (hcode : X.env.code = .ref c) (hr : Room (k + 2) X.A) (L : LamD X.N X.env.scope scope y)
    (hdf : params.defaults = [.Constant (.int j) kd dp]) (hkw : params.kw_defaults = [])
    (hbind : ∀ (q : Str) (cl : List (Str × Addr)) (D : Addr) (doc pm cv ctv u : Value), ∃ kk, bindArgs (PySem.W.kdv_fn "<lambda>" q params (.expr body) scope cl (.ref D) doc pm cv ctv) ⟨[], []⟩ = seqItems? (.ref D) >>= kk ∧ kk (some [u].toArray) = pure [(y, u)])
    (hbody : ∀ (A : Around) (outer : List Env) (s : Shared) (H : Hp) (E : XK) (f c' : Addr), Room k (A.deeper (lamEnv X scope s.heap.objs.size f c')) → PE (lamCx X A outer s H E scope f c') body (t E)) :
    PE X (.Call (.Name "_law_heard" p) [.Lambda params body scope lpos] [] pos) (tLam [(P, X.env.qual ++ "<lambda>")] (THr CB CM) t) := by
  obtain ⟨g, fd, F, b, m⟩ := T.fn
  obtain ⟨oc, od, dV, kV, doc, pm, an, cdv, ct, osl, rfl, lk, hcd, _, _⟩ := F.ex
  exact pe_lamcallD hg m F.kp lk hcd b scHd rfl (Or.inl rfl) (heard_gives2 T) TB hcode (List.mem_singleton.mpr rfl) (fun p hp _ => by rw [List.mem_singleton.mp hp]) hr L hdf hkw hbind hbody
end
end My

set_option maxHeartbeats 4000000
namespace My
open PySem PySem.Spec PyProof.Rows L2 LamX
/-! ### calls, by what is known of a def's name or of a class's method -/
structure FnA (Pr : Program) (w : World) (K : PySem.W.Frag) (mg : Str → Option Value) (base : Heap) (CX : CXT) (k : Nat) (x : Str) (ps : List Str) (sp : Sp) : Prop where
  ex : ∃ f fd, PySem.W.keepIn K (.ref f) = true ∧ FnOk Pr w K mg base CX k f fd ps sp ∧ Binds K fd ps [] ∧ mg x = some (.ref f)
structure FnKA (Pr : Program) (w : World) (K : PySem.W.Frag) (mg : Str → Option Value) (base : Heap) (CX : CXT) (k : Nat) (x : Str) (ps ks : List Str) (gV : List V → List V → List V) (sp : Sp) : Prop where
  ex : ∃ f fd g, PySem.W.keepIn K (.ref f) = true ∧ FnOk Pr w K mg base CX k f fd ps sp ∧ KBn K fd ps 0 ks g gV ∧ mg x = some (.ref f)
structure MtA (Pr : Program) (w : World) (K : PySem.W.Frag) (mg : Str → Option Value) (base : Heap) (CX : CXT) (k : Nat) (C : Addr) (m : Str) (ps : List Str) (sp : Sp) : Prop where
  ex : ∃ f fd, Cls K C ∧ Meth K C m f ∧ FnOk Pr w K mg base CX k f fd ps sp ∧ Binds K fd ps []
structure MtKA (Pr : Program) (w : World) (K : PySem.W.Frag) (mg : Str → Option Value) (base : Heap) (CX : CXT) (k : Nat) (C : Addr) (m : Str) (ps ks : List Str) (gV : List V → List V → List V) (sp : Sp) : Prop where
  ex : ∃ f fd g, Cls K C ∧ Meth K C m f ∧ FnOk Pr w K mg base CX k f fd ps sp ∧ KBn K fd ps 1 ks g gV
section
variable {X : Cx} {CX : CXT} {k : Nat} {C : Addr} {x m : Str} {ps ks : List Str} {sp : Sp} {E : XK} {t tk : TA} {ta : TE} {e o : Expr} {es : List Expr} {kws : List Keyword} {p pos apos : Pos} {gV : List V → List V → List V}
theorem pe_fa (F : FnA X.prog X.w X.K X.mg X.base CX k x ps sp) (hr : Room k X.A) (hx : Passes CX X E) (hg : Gl X x) (ha : PA X (e :: es) t) (hdb : (x == ("__debug__" : Str)) = false := by decide)
    (he : starEach (e :: es) X.env = (false, eval e X.env) :: starEach es X.env := by rfl) (hpl : (backTo pos (starEach es X.env)).any (·.1) = false := by rfl) : PE X (.Call (.Name x p) (e :: es) [] pos) (tCall sp [] E t) := by
  obtain ⟨f, fd, kp, G, b, hm⟩ := F.ex
  exact pe_call G hr hg hm kp b .nil hx ha hdb he hpl
theorem pe_fk (F : FnKA X.prog X.w X.K X.mg X.base CX k x ps ks gV sp) (hr : Room k X.A) (hx : Passes CX X E) (hg : Gl X x) (hkw : PK X kws tk) (hall : (backToKw pos (keywordEach kws X.env)).all (·.1.isSome) = true := by rfl) (hks : (backToKw pos (keywordEach kws X.env)).filterMap (·.1) = ks := by rfl)
    (hdb : (x == ("__debug__" : Str)) = false := by decide) (hpl : ((backTo pos (starEach [] X.env)).any (·.1) || (backToKw pos (keywordEach kws X.env)).any (·.1.isNone)) = false := by rfl) :
    PE X (.Call (.Name x p) [] kws pos) (fun σ H Q => tk σ H fun zs H1 => zs.length = ks.length ∧ sp (gV [] zs) H1 Q E) := by
  obtain ⟨f, fd, g, kp, G, b, hm⟩ := F.ex
  refine ⟨fun pins s σ H Q I h => ?_⟩
  refine wpAny_Call_Name_kw (ld_glob I hg hm ?_ hdb)
  refine PySem.W.callWith_KW0 (h₀ := X.base) I.ok.mod.kin kp hall ?_ hpl
  refine thn (hkw.run pos pins s σ H _ I h) fun ws s2 hz => ?_
  obtain ⟨zs, H2, I2, rz, l2, q2⟩ := hz
  refine ⟨I2.kIn, ?_⟩
  rw [hks]
  exact run_fnN (n := 0) (us := []) (vs := []) G hr b hx I2 .nil rz rfl l2 q2
/-- o.m(e, ..) -/
theorem pe_ma {pl : Sem Bool} (F : MtA X.prog X.w X.K X.mg X.base CX k C m ps sp) (hr : Room k X.A) (hx : Passes CX X E) (he : PE X o ta) (ha : PA X (e :: es) t)
    (hst : starEach (e :: es) X.env = (false, eval e X.env) :: starEach es X.env := by rfl) (hpl : (backTo pos (starEach es X.env)).any (·.1) = false := by rfl)
    (ht : eval (.Call (.Attribute o m apos) (e :: es) [] pos) X.env = (do
      let ov ← eval o X.env
      standAt apos.atName
      let (f, first) ← holding [ov] (getMethod ov m pl)
      callWith pos f first (backTo pos (starEach (e :: es) X.env)) (backToKw pos (keywordEach [] X.env))) := by rfl) : PE X (.Call (.Attribute o m apos) (e :: es) [] pos) (tMeth C m sp [] E ta t) := by
  obtain ⟨f, fd, c, hm, G, b⟩ := F.ex
  exact pe_meth he c hm G hr b .nil hx ha hst hpl ht
/-- o.m(k = e, ..) -/
def tMethKw (C : Addr) (m : Str) (n : Nat) (sp : Sp) (gV : List V → List V → List V) (E : XK) (ta : TE) (tk : TA) : TE := fun σ H Q => ta σ H fun x H1 => ∃ a dx fs, x = .ref a ∧ H1 a = some (.ins C dx fs) ∧ fs.lookup m = none ∧ tk σ H1 fun zs H2 => zs.length = n ∧ sp (gV [.ref a] zs) H2 Q E
theorem pe_mk {pl : Sem Bool} (F : MtKA X.prog X.w X.K X.mg X.base CX k C m ps ks gV sp) (hr : Room k X.A) (hx : Passes CX X E) (he : PE X o ta) (hkw : PK X kws tk) (hall : (backToKw pos (keywordEach kws X.env)).all (·.1.isSome) = true := by rfl) (hks : (backToKw pos (keywordEach kws X.env)).filterMap (·.1) = ks := by rfl)
    (hpl : ((backTo pos (starEach [] X.env)).any (·.1) || (backToKw pos (keywordEach kws X.env)).any (·.1.isNone)) = false := by rfl)
    (ht : eval (.Call (.Attribute o m apos) [] kws pos) X.env = (do
      let ov ← eval o X.env
      standAt apos.atName
      let (f, first) ← holding [ov] (getMethod ov m pl)
      callWith pos f first (backTo pos (starEach [] X.env)) (backToKw pos (keywordEach kws X.env))) := by rfl) : PE X (.Call (.Attribute o m apos) [] kws pos) (tMethKw C m ks.length sp gV E ta tk) := by
  obtain ⟨f, fd, g, c, hm, G, b⟩ := F.ex
  refine ⟨fun pins s σ H Q I h => ?_⟩
  refine PySem.W.methodCall_KW (pl := pl) (thn (he.run pins s σ H _ I h) fun u s1 hz => ?_) ht
  obtain ⟨x, H1, I1, rx, a, dx, fs, rfl, ea, l, q⟩ := hz
  obtain rfl : u = Value.ref a := rx
  refine getmeth_ok I1 ea c hm l ?_
  refine PySem.W.callWith_KW0 (first := [.ref a]) (h₀ := X.base) I.ok.mod.kin hm.kp hall ?_ hpl
  refine thn (hkw.run pos pins s1 σ H1 _ I1 q) fun ws s2 hz => ?_
  obtain ⟨zs, H2, I2, rz, l2, q2⟩ := hz
  refine ⟨I2.kIn, ?_⟩
  rw [hks]
  exact run_fnN (n := 1) (us := [.ref a]) (vs := [.ref a]) G hr b hx I2 (.cons rfl .nil) rz rfl l2 q2
end
/-- no exception of such a callee -/
theorem pass_no {X : Cx} : Passes (L2.CX X.prog X.w) X E0 := passes_call (W := fun _ _ _ _ => False) takes0 fun _ _ _ _ z => z
/-- its exceptions leave the lambda, too -/
theorem pass_lam {X : Cx} {A : Around} {outer : List Env} {s : Shared} {H : Hp} {E : XK} {scope : Scope} {f c' : Addr} : Passes (L2.CX X.prog X.w) (lamCx X A outer s H E scope f c') E :=
  passes_call (X := lamCx X A outer s H E scope f c') (W := fun cls d _ H => E cls d H) (takes_of rfl rfl rfl rfl) fun _ _ _ _ z => z
/-! ### what stays: all but the list at p and the tables -/
def Kx (p : Addr) (H H' : Hp) : Prop := ∀ b o, b ≠ p → (∀ ps, o ≠ .tbl ps) → H b = some o → H' b = some o
theorem Kx.refl {p : Addr} {H : Hp} : Kx p H H := fun _ _ _ _ h => h
theorem Kx.trans {p : Addr} {H H1 H2 : Hp} (a : Kx p H H1) (b : Kx p H1 H2) : Kx p H H2 := fun c o n m h => b c o n m (a c o n m h)
theorem Kx.same {p : Addr} {H H' : Hp} (e : Same H H') : Kx p H H' := fun b o _ _ h => e b o h
theorem Kx.sm {p : Addr} {H H' : Hp} (e : Sm p H H') : Kx p H H' := fun b o n _ h => e b o n h
theorem Kx.ext {p : Addr} {H H' : Hp} (e : ExtN H H') : Kx p H H' := fun b o _ m h => e b o h m
theorem Kx.new {p l : Addr} {H : Hp} (h : H l = none) (o : HO) : Kx p H (upd H l o) := .same (same_new h o)
/-- the pen and the table of code objects -/
structure St7 (P : Addr) (qn : Str) (p pq : Addr) (ns : List Int) (H : Hp) (t r : Int) : Prop where
  pen : Pen H p pq ns t r
  tab : Tabs [(P, qn)] H
theorem tabs_sm {T : List (Addr × Str)} {H H' : Hp} {p : Addr} {ys : List V} (t : Tabs T H) (hp : H p = some (.lst ys)) (e : Sm p H H') : Tabs T H' := fun z hz => by
  obtain ⟨ps, h1, h2, h3⟩ := t z hz
  refine ⟨ps, e _ _ (fun q => by rw [q, hp] at h1; cases h1) h1, h2, fun pos cv hc => ?_⟩
  obtain ⟨c, e1, e2⟩ := h3 pos cv hc
  exact ⟨c, e1, e _ _ (fun q => by rw [q, hp] at e2; unfold CodeO at e2; cases e2) e2⟩
section
variable {P p pq : Addr} {qn : Str} {ns : List Int} {H H' : Hp} {t r t' r' : Int}
theorem St7.same (h : St7 P qn p pq ns H t r) (e : Same H H') : St7 P qn p pq ns H' t r := ⟨h.pen.same e, h.tab.ext e⟩
theorem St7.draw (h : St7 P qn p pq ns H t r) (e : Sm p H H') (hp : H' p = some (.lst [.ref pq, .int t', .int r'])) (h1 : t ≤ t') (h2 : t' < 100000) (h3 : 0 ≤ r') : St7 P qn p pq ns H' t' r' :=
  ⟨h.pen.of e hp (Int.le_trans h.pen.t0 h1) h2 h3, tabs_sm h.tab h.pen.at_ e⟩
theorem St7.ext (h : St7 P qn p pq ns H t r) (e : ExtN H H') (tb : Tabs [(P, qn)] H') : St7 P qn p pq ns H' t r :=
  ⟨⟨e _ _ h.pen.at_ (fun _ z => nomatch z), e _ _ h.pen.cells (fun _ z => nomatch z), h.pen.few, h.pen.t0, h.pen.t1, h.pen.r0⟩, tb⟩
theorem Kx.lst {l : Addr} {xs : List V} (e : Kx p H H') (n : l ≠ p) (h : H l = some (.lst xs)) : H' l = some (.lst xs) := e _ _ n (fun _ z => nomatch z) h
theorem Kx.tup {l : Addr} {xs : List V} (e : Kx p H H') (st : ∃ ys, H p = some (.lst ys)) (h : H l = some (.tup xs)) : H' l = some (.tup xs) := by
  obtain ⟨ys, hp⟩ := st
  exact e _ _ (fun z => by rw [z, hp] at h; cases h) (fun _ z => nomatch z) h
theorem Kx.ins {a C dx : Addr} {fs : List (Str × V)} (e : Kx p H H') (st : ∃ ys, H p = some (.lst ys)) (h : H a = some (.ins C dx fs)) : H' a = some (.ins C dx fs) := by
  obtain ⟨ys, hp⟩ := st
  exact e _ _ (fun z => by rw [z, hp] at h; cases h) (fun _ z => nomatch z) h
theorem St7.lst (h : St7 P qn p pq ns H t r) : ∃ ys, H p = some (.lst ys) := ⟨_, h.pen.at_⟩
end
/-- a cell whose seven are ints -/
structure Ci (K : PySem.W.Frag) (PP CC : Addr) (H : Hp) (a : Addr) (c : Ce) : Prop where
  pc : PapC K PP CC "Cell"
  na : ∀ f ∈ cNames, NoAttr K CC f
  ob : ∃ dx b, H a = some (.ins CC dx (cfs "cell" (.ref b) (.int c.zl) (.int c.zh) (.int c.lo) (.int c.hi) (.int c.pe) (.int c.fi) (.int c.la))) ∧ H b = some (.tup [.int c.zl, .int c.zh, .int c.lo, .int c.hi, .int c.pe, .int c.fi, .int c.la])
def Ce.ds (c : Ce) : List PyData := [.int c.zl, .int c.zh, .int c.lo, .int c.hi, .int c.pe, .int c.fi, .int c.la]
theorem Ci.cel {K : PySem.W.Frag} {PP CC : Addr} {H : Hp} {a : Addr} {c : Ce} (h : Ci K PP CC H a c) : CelAt K PP CC H a c.ds := by
  obtain ⟨dx, b, o, t⟩ := h.ob
  exact ⟨h.pc, h.na, dx, b, _, _, _, _, _, _, _, o, t, .cons (.int _) (.cons (.int _) (.cons (.int _) (.cons (.int _) (.cons (.int _) (.cons (.int _) (.cons (.int _) .nil))))))⟩
theorem Ci.of {K : PySem.W.Frag} {PP CC : Addr} {H : Hp} {a : Addr} {c : Ce} (h : CelAt K PP CC H a c.ds) : Ci K PP CC H a c := by
  obtain ⟨dx, b, x0, x1, x2, x3, x4, x5, x6, o, t, d⟩ := h.ob
  cases d with
  | cons d0 d => cases d with
  | cons d1 d => cases d with
  | cons d2 d => cases d with
  | cons d3 d => cases d with
  | cons d4 d => cases d with
  | cons d5 d => cases d with
  | cons d6 d =>
    cases d0; cases d1; cases d2; cases d3; cases d4; cases d5; cases d6
    exact ⟨h.c, h.na, dx, b, o, t⟩
theorem Ci.kx {K : PySem.W.Frag} {PP CC p : Addr} {H H' : Hp} {a : Addr} {c : Ce} (h : Ci K PP CC H a c) (e : Kx p H H') (st : ∃ ys, H p = some (.lst ys)) : Ci K PP CC H' a c := by
  obtain ⟨dx, b, o, t⟩ := h.ob
  exact ⟨h.pc, h.na, dx, b, e.ins st o, e.tup st t⟩
theorem Ci.ce {K : PySem.W.Frag} {PP CC : Addr} {H : Hp} {a : Addr} {c : Ce} (h : Ci K PP CC H a c) : CeAt K CC H a c := h.cel.ce
end My

set_option maxHeartbeats 8000000
namespace My
open PySem PySem.Spec PyProof.Rows L2 LamX
abbrev sLaw : Stmt := top 40
abbrev NL : List Str := ["script", "turn", "low", "period", "first", "last", "z_low", "x", "xs", "z", "heard", "fields", "at", "one", "bad", "cell", "high", "most", "none", "pen", "wrong", "t"]
def forBody : Stmt → List Stmt
  | .For _ _ body _ _ => body
  | _ => []
abbrev lS (i : Nat) : Stmt := (defBody sLaw).getD i (.Pass ⟨0, 0, 0, 0⟩)
abbrev tS (j : Nat) : Stmt := (forBody (lS 1)).getD j (.Pass ⟨0, 0, 0, 0⟩)
theorem scL : FnScope NL ["script"] (defScope sLaw) := ⟨rfl, rfl, rfl, by decide +kernel, rfl, by decide +kernel, by decide +kernel⟩
/-- the law's context -/
abbrev LX (Pr : Program) (w : World) (K : PySem.W.Frag) (mg : Str → Option Value) (base : Heap) (f : Addr) (cdv : Value) (A : Around) (outer : List Env) (s : Shared) (H : Hp) (E : XK) : Cx := (cxOf CX0 Pr w K mg base NL "law" (defScope sLaw) f cdv A outer s H E).nox
def gCell (vs zs : List V) : List V := match vs, zs with
  | [v], [y6, y5, y4, y3, y2, y1, y0] => [v, y0, y1, y2, y3, y4, y5, y6]
  | _, _ => []
def gTwo (vs zs : List V) : List V := match vs, zs with
  | [v], [z, x] => [v, x, z]
  | _, _ => []
def gOne (vs zs : List V) : List V := match vs, zs with
  | [v], [x] => [v, x]
  | _, _ => []
def gOnly (_vs zs : List V) : List V := zs
abbrev qnL : Str := "law.<locals>.<lambda>"
/-- what the written part gives the law -/
structure TL (Pr : Program) (w : World) (base : Heap) (K : PySem.W.Frag) (mg : Str → Option Value) (PP CC CB CM fE : Addr) : Prop where
  n_range : mg "range" = none
  n_max : mg "max" = none
  n_min : mg "min" = none
  n_repr : mg "repr" = none
  n_int : mg "int" = none
  n_bool : mg "bool" = none
  pen : FnA Pr w K mg base CX0 1 "_law_pen" ["script"] (spPen K)
  draw : FnA Pr w K mg base CX0 1 "_law_draw" ["pen", "many"] spDraw
  pick : FnA Pr w K mg base CX0 2 "_law_pick" ["pen", "some"] spPick
  top : FnA Pr w K mg base (L2.CX Pr w) 5 "top" ["cell"] (spTopM K PP CC CM)
  topK : FnKA Pr w K mg base (L2.CX Pr w) 5 "top" ["cell"] ["cell"] gOnly (spTopM K PP CC CM)
  has : MtA Pr w K mg base (L2.CX Pr w) 5 CC "has" ["self", "x", "z"] (spHas K CB)
  hasK : MtKA Pr w K mg base (L2.CX Pr w) 5 CC "has" ["self", "x", "z"] ["z", "x"] gTwo (spHas K CB)
  spot : MtA Pr w K mg base (L2.CX Pr w) 3 CC "spot" ["self", "x"] (spSpot K CB)
  spotK : MtKA Pr w K mg base (L2.CX Pr w) 3 CC "spot" ["self", "x"] ["x"] gOne (spSpot K CB)
  cut : MtA Pr w K mg base (L2.CX Pr w) 3 CC "cut" ["self", "t"] (spCutM K CB)
  cutK : MtKA Pr w K mg base (L2.CX Pr w) 3 CC "cut" ["self", "t"] ["t"] gOne (spCutM K CB)
  mC : mg "Cell" = some (.ref CC)
  mP : mg "Paper" = some (.ref PP)
  mkC : ∃ f fd g, Mk K CC f ∧ FnOk Pr w K mg base CX0 8 f fd cN (spCInit K PP CC) ∧ Binds K fd cN [] ∧ KBn K fd cN 1 ["last", "first", "period", "high", "low", "z_high", "z_low"] g gCell
  mkP : ∃ f, Mk K PP f ∧ FnR Pr w K mg base CX0 7 f (fun vs H Q E => ∃ ws rest, vs = ws ++ rest ∧ ws.length = (["self", "word"] : List Str).length ∧ rest.length ≤ sizeLine ∧ ∀ p, H p = none → spPI K PP 6 (ws ++ [V.ref p]) (upd H p (.tup rest)) Q E)

  pC : PapC K PP CC "Cell"
  na : ∀ f ∈ cNames, NoAttr K CC f
  kC : PySem.W.kitOne K (.ref CC) (.ref CC) = some true
  pP : PapC K PP PP "Paper"
  kPC : PySem.W.kitOne K (.ref PP) (.ref CC) = some false
  kNone : PySem.W.kitOne K (.type "NoneType") (.ref CC) = some false
  kInt : PySem.W.kitOne K (.type "int") (.ref CC) = some false
/-- what a turn draws -/
structure Dr (c : Ce) : Prop where
  l0 : -549755813888 ≤ c.lo
  l1 : c.lo ≤ 549755813828
  p0 : 1 ≤ c.pe
  p1 : c.pe ≤ 9
  f0 : 0 ≤ c.fi
  f1 : c.fi ≤ c.la
  f2 : c.la < c.pe
  h0 : c.lo + c.fi ≤ c.hi
  h1 : c.hi ≤ c.lo + c.fi + 49
  z0 : 2 ≤ c.zl
  z1 : c.zl ≤ 10
  z2 : c.zl ≤ c.zh
  z3 : c.zh ≤ c.zl + 8
section
variable {Pr : Program} {w : World} {K : PySem.W.Frag} {mg : Str → Option Value} {base : Heap} {f : Addr} {cdv : Value} {A : Around} {outer : List Env} {s : Shared} {H0 : Hp} {E : XK} {PP CC CB CM fE P : Addr} {qn : Str}
theorem st0 (T : TL Pr w base K mg PP CC CB CM fE) (hr : Room 12 (LX Pr w K mg base f cdv A outer s H0 E).A) : ∃ t, PS (LX Pr w K mg base f cdv A outer s H0 E) (tS 0) t ∧ ∀ (p pq a : Addr) (ns : List Int) (D : Ends) (H : Hp) (t0 r0 : Int) (v1 v2 v3 v4 v5 v6 v7 v8 v9 v10 v11 v12 v13 v14 v15 v16 v17 v18 v20 v21 : Option V), St7 P qn p pq ns H t0 r0 → t0 ≤ 1000 → 
    (∀ (lo pe : Int) (t' r' : Int) (H' : Hp), St7 P qn p pq ns H' t' r' → Kx p H H' → t' ≤ t0 + 3 → -549755813888 ≤ lo → lo ≤ 549755813828 → 1 ≤ pe → pe ≤ 9 →
      D.nx [some (.ref a), v1, some (.int lo), some (.int pe), v4, v5, v6, v7, v8, v9, v10, v11, v12, v13, v14, v15, v16, v17, v18, some (.ref p), v20, v21] H') →
    t D [some (.ref a), v1, v2, v3, v4, v5, v6, v7, v8, v9, v10, v11, v12, v13, v14, v15, v16, v17, v18, some (.ref p), v20, v21] H := by
  have nd := scL.nd
  refine ⟨_, ps_asg (pe_tup (pa_cons (pe_fa T.pick (hr.mono (by decide)) pass0 (by rfl) (pa_cons (pv 19) (pa_cons (pe_lst (pa_cons (pe_op op_sub (pe_fa T.draw (hr.mono (by decide)) pass0 (by rfl) (pa_cons (pv 19) (pa_cons pe_int pa_nil))) pe_int) (pa_cons (pe_op op_sub pe_int (pe_op op_pow pe_int pe_int)) (pa_cons (pe_op op_sub (pe_op op_pow pe_int pe_int) pe_int) pa_nil)))) pa_nil)))
      (pa_cons (pe_op op_add pe_int (pe_fa T.draw (hr.mono (by decide)) pass0 (by rfl) (pa_cons (pv 19) (pa_cons pe_int pa_nil)))) pa_nil)))
    (pg_tup rfl (pgs_cons (pg_name (i := 2) nd rfl (Or.inr rfl)) (pgs_cons (pg_name (i := 3) nd rfl (Or.inr rfl)) pgs_nil))), fun p pq a ns D H t0 r0 v1 v2 v3 v4 v5 v6 v7 v8 v9 v10 v11 v12 v13 v14 v15 v16 v17 v18 v20 v21 S ht  k => ?_⟩
  refine ⟨_, rfl, _, rfl, p, pq, ns, t0, r0, 99, rfl, S.pen, by decide, by decide, by omega, fun x1 t1 r1 H1 a1 a2 a3 a4 a5 sm1 hp1 => ?_⟩
  have S1 := S.draw sm1 hp1 a3 (by omega) a5
  have k1 : Kx p H H1 := .sm sm1
  refine ⟨_, _, rfl, rfl, _, _, rfl, rfl, ⟨by decide, by decide, by decide⟩, ?_⟩
  refine ⟨_, _, rfl, rfl, _, _, rfl, rfl, ⟨by decide, by decide, by decide⟩, _, _, rfl, rfl, by show 3 ≤ sizeLine; decide, fun l hl => ?_⟩
  have e39 : (2 : Int) ^ (39 : Int).toNat = 549755813888 := by decide
  rw [e39]
  have sA : Same H1 (upd H1 l (.lst [.int (x1 - 50), .int (0 - 549755813888), .int (549755813888 - 60)])) := same_new hl _
  have qA : upd H1 l (HO.lst [V.int (x1 - 50), V.int (0 - 549755813888), V.int (549755813888 - 60)]) l = some (.lst [.int (x1 - 50), .int (0 - 549755813888), .int (549755813888 - 60)]) := upd_same
  have nl : l ≠ p := fun z => by rw [z, hp1] at hl; cases hl
  generalize upd H1 l (HO.lst [V.int (x1 - 50), V.int (0 - 549755813888), V.int (549755813888 - 60)]) = H2 at sA qA ⊢
  have S2 := S1.same sA
  refine ⟨p, pq, l, ns, t1, r1, _, rfl, S2.pen, qA, nl, by simp, by show 3 ≤ 1000; decide, by omega, fun x v t2 r2 H3 hv b1 b2 b3 sm3 hp3 => ?_⟩
  have S3 := S2.draw sm3 hp3 b1 (by omega) b3
  have k3 : Kx p H H3 := (k1.trans (.same sA)).trans (.sm sm3)
  have hlo : ∃ lo : Int, v = .int lo ∧ -549755813888 ≤ lo ∧ lo ≤ 549755813828 := by
    match x, hv with
    | 0, hv => cases hv; exact ⟨_, rfl, by omega, by omega⟩
    | 1, hv => cases hv; exact ⟨_, rfl, by decide, by decide⟩
    | 2, hv => cases hv; exact ⟨_, rfl, by decide, by decide⟩
  obtain ⟨lo, rfl, c1, c2⟩ := hlo
  refine ⟨_, rfl, p, pq, ns, t2, r2, 9, rfl, S3.pen, by decide, by decide, by omega, fun x2 t4 r4 H4 d1 d2 d3 d4 d5 sm4 hp4 => ?_⟩
  have S4 := S3.draw sm4 hp4 d3 (by omega) d5
  refine ⟨_, _, rfl, rfl, by show 2 ≤ sizeLine; decide, fun u hu => ?_⟩
  refine ⟨u, _, rfl, .inl (.inl upd_same), rfl, _, _, rfl, _, _, rfl, rfl, ?_⟩
  exact k lo (1 + x2) t4 r4 _ (S4.same (same_new hu _)) ((k3.trans (.sm sm4)).trans (.new hu _)) (by omega) c1 c2 (by omega) (by omega)
end
end My

set_option maxHeartbeats 8000000
namespace My
open PySem PySem.Spec PyProof.Rows L2 LamX
theorem made_same {H H' : Hp} {x dx : Addr} {o1 o2 : HO} (hx : H x = none) (hd : H dx = none) (e : Sm x (upd (upd H dx o1) x o2) H') : Same H H' := fun b o q => by
  have n1 := ne_of_none q hx
  refine e b o n1 ?_
  rw [upd_ne n1, upd_ne (ne_of_none q hd)]
  exact q
section
variable {Pr : Program} {w : World} {K : PySem.W.Frag} {mg : Str → Option Value} {base : Heap} {f : Addr} {cdv : Value} {A : Around} {outer : List Env} {s : Shared} {H0 : Hp} {E : XK} {PP CC CB CM fE P : Addr} {qn : Str}
theorem st1 (T : TL Pr w base K mg PP CC CB CM fE) (hr : Room 12 (LX Pr w K mg base f cdv A outer s H0 E).A) : ∃ t, PS (LX Pr w K mg base f cdv A outer s H0 E) (tS 1) t ∧ ∀ (p pq a : Addr) (ns : List Int) (lo pe : Int) (D : Ends) (H : Hp) (t0 r0 : Int) (v1 v4 v5 v6 v7 v8 v9 v10 v11 v12 v13 v14 v15 v16 v17 v18 v20 v21 : Option V), St7 P qn p pq ns H t0 r0 → t0 ≤ 1000 → 1 ≤ pe → pe ≤ 9 →
    (∀ (fi : Int) (t' r' : Int) (H' : Hp), St7 P qn p pq ns H' t' r' → Kx p H H' → t' ≤ t0 + 1 → 0 ≤ fi → fi < pe →
      D.nx [some (.ref a), v1, some (.int lo), some (.int pe), some (.int fi), v5, v6, v7, v8, v9, v10, v11, v12, v13, v14, v15, v16, v17, v18, some (.ref p), v20, v21] H') →
    t D [some (.ref a), v1, some (.int lo), some (.int pe), v4, v5, v6, v7, v8, v9, v10, v11, v12, v13, v14, v15, v16, v17, v18, some (.ref p), v20, v21] H := by
  have nd := scL.nd
  refine ⟨_, ps_set (i := 4) nd rfl (Or.inr rfl) (pe_fa T.draw (hr.mono (by decide)) pass0 (by rfl) (pa_cons (pv 19) (pa_cons (pv 3) pa_nil))), fun p pq a ns lo pe D H t0 r0 v1 v4 v5 v6 v7 v8 v9 v10 v11 v12 v13 v14 v15 v16 v17 v18 v20 v21 S ht p0 p1 k => ?_⟩
  refine ⟨_, rfl, _, rfl, p, pq, ns, t0, r0, pe, rfl, S.pen, p0, by omega, by omega, fun x t1 r1 H1 a1 a2 a3 a4 a5 sm1 hp1 => ?_⟩
  exact k x t1 r1 H1 (S.draw sm1 hp1 a3 (by omega) a5) (.sm sm1) a4 a1 a2
theorem st2 (T : TL Pr w base K mg PP CC CB CM fE) (hr : Room 12 (LX Pr w K mg base f cdv A outer s H0 E).A) : ∃ t, PS (LX Pr w K mg base f cdv A outer s H0 E) (tS 2) t ∧ ∀ (p pq a : Addr) (ns : List Int) (lo pe fi : Int) (D : Ends) (H : Hp) (t0 r0 : Int) (v1 v5 v6 v7 v8 v9 v10 v11 v12 v13 v14 v15 v16 v17 v18 v20 v21 : Option V), St7 P qn p pq ns H t0 r0 → t0 ≤ 1000 → pe ≤ 9 → 0 ≤ fi → fi < pe →
    (∀ (la : Int) (t' r' : Int) (H' : Hp), St7 P qn p pq ns H' t' r' → Kx p H H' → t' ≤ t0 + 1 → fi ≤ la → la < pe →
      D.nx [some (.ref a), v1, some (.int lo), some (.int pe), some (.int fi), some (.int la), v6, v7, v8, v9, v10, v11, v12, v13, v14, v15, v16, v17, v18, some (.ref p), v20, v21] H') →
    t D [some (.ref a), v1, some (.int lo), some (.int pe), some (.int fi), v5, v6, v7, v8, v9, v10, v11, v12, v13, v14, v15, v16, v17, v18, some (.ref p), v20, v21] H := by
  have nd := scL.nd
  refine ⟨_, ps_set (i := 5) nd rfl (Or.inr rfl) (pe_op op_add (pv 4) (pe_fa T.draw (hr.mono (by decide)) pass0 (by rfl) (pa_cons (pv 19) (pa_cons (pe_op op_sub (pv 3) (pv 4)) pa_nil)))), fun p pq a ns lo pe fi D H t0 r0 v1 v5 v6 v7 v8 v9 v10 v11 v12 v13 v14 v15 v16 v17 v18 v20 v21 S ht p1 f0 f1 k => ?_⟩
  refine ⟨_, rfl, _, rfl, _, rfl, _, rfl, _, _, rfl, rfl, p, pq, ns, t0, r0, pe - fi, rfl, S.pen, by omega, by omega, by omega, fun x t1 r1 H1 a1 a2 a3 a4 a5 sm1 hp1 => ?_⟩
  refine ⟨_, _, rfl, rfl, ?_⟩
  exact k (fi + x) t1 r1 H1 (S.draw sm1 hp1 a3 (by omega) a5) (.sm sm1) a4 (by omega) (by omega)
theorem st3 (T : TL Pr w base K mg PP CC CB CM fE) (hr : Room 12 (LX Pr w K mg base f cdv A outer s H0 E).A) : ∃ t, PS (LX Pr w K mg base f cdv A outer s H0 E) (tS 3) t ∧ ∀ (p pq a : Addr) (ns : List Int) (lo pe fi la : Int) (D : Ends) (H : Hp) (t0 r0 : Int) (v1 v6 v7 v8 v9 v10 v11 v12 v13 v14 v15 v16 v17 v18 v20 v21 : Option V), St7 P qn p pq ns H t0 r0 → t0 ≤ 1000 → 
    (∀ (hi zl : Int) (t' r' : Int) (H' : Hp), St7 P qn p pq ns H' t' r' → Kx p H H' → t' ≤ t0 + 2 → lo + fi ≤ hi → hi ≤ lo + fi + 49 → 2 ≤ zl → zl ≤ 10 →
      D.nx [some (.ref a), v1, some (.int lo), some (.int pe), some (.int fi), some (.int la), some (.int zl), v7, v8, v9, v10, v11, v12, v13, v14, v15, some (.int hi), v17, v18, some (.ref p), v20, v21] H') →
    t D [some (.ref a), v1, some (.int lo), some (.int pe), some (.int fi), some (.int la), v6, v7, v8, v9, v10, v11, v12, v13, v14, v15, v16, v17, v18, some (.ref p), v20, v21] H := by
  have nd := scL.nd
  refine ⟨_, ps_asg (pe_tup (pa_cons (pe_op op_add (pe_op op_add (pv 2) (pv 4)) (pe_fa T.draw (hr.mono (by decide)) pass0 (by rfl) (pa_cons (pv 19) (pa_cons pe_int pa_nil)))) (pa_cons (pe_op op_add pe_int (pe_fa T.draw (hr.mono (by decide)) pass0 (by rfl) (pa_cons (pv 19) (pa_cons pe_int pa_nil)))) pa_nil))) (pg_tup rfl (pgs_cons (pg_name (i := 16) nd rfl (Or.inr rfl)) (pgs_cons (pg_name (i := 6) nd rfl (Or.inl rfl)) pgs_nil))), fun p pq a ns lo pe fi la D H t0 r0 v1 v6 v7 v8 v9 v10 v11 v12 v13 v14 v15 v16 v17 v18 v20 v21 S ht  k => ?_⟩
  refine ⟨_, rfl, _, rfl, _, _, rfl, rfl, _, rfl, p, pq, ns, t0, r0, 50, rfl, S.pen, by decide, by decide, by omega, fun x t1 r1 H1 a1 a2 a3 a4 a5 sm1 hp1 => ?_⟩
  have S1 := S.draw sm1 hp1 a3 (by omega) a5
  refine ⟨_, _, rfl, rfl, _, rfl, p, pq, ns, t1, r1, 9, rfl, S1.pen, by decide, by decide, by omega, fun x2 t2 r2 H2 b1 b2 b3 b4 b5 sm2 hp2 => ?_⟩
  have S2 := S1.draw sm2 hp2 b3 (by omega) b5
  refine ⟨_, _, rfl, rfl, by show 2 ≤ sizeLine; decide, fun u hu => ?_⟩
  refine ⟨u, _, rfl, .inl (.inl upd_same), rfl, _, _, rfl, _, _, rfl, rfl, ?_⟩
  exact k (lo + fi + x) (2 + x2) t2 r2 _ (S2.same (same_new hu _)) ((Kx.trans (.sm sm1) (.sm sm2)).trans (.new hu _)) (by omega) (by omega) (by omega) (by omega) (by omega)
theorem st4 (T : TL Pr w base K mg PP CC CB CM fE) (hr : Room 12 (LX Pr w K mg base f cdv A outer s H0 E).A) : ∃ t, PS (LX Pr w K mg base f cdv A outer s H0 E) (tS 4) t ∧ ∀ (p pq a : Addr) (ns : List Int) (lo pe fi la hi zl : Int) (D : Ends) (H : Hp) (t0 r0 : Int) (v1 v7 v8 v9 v10 v11 v12 v13 v14 v15 v17 v18 v20 v21 : Option V), St7 P qn p pq ns H t0 r0 → t0 ≤ 1000 → 
    (∀ (ca : Addr) (zh : Int) (t' r' : Int) (H' : Hp), St7 P qn p pq ns H' t' r' → Kx p H H' → t' ≤ t0 + 1 → Ci K PP CC H' ca ⟨zl, zh, lo, hi, pe, fi, la⟩ → zl ≤ zh → zh ≤ zl + 8 →
      D.nx [some (.ref a), v1, some (.int lo), some (.int pe), some (.int fi), some (.int la), some (.int zl), v7, v8, v9, v10, v11, v12, v13, v14, some (.ref ca), some (.int hi), v17, v18, some (.ref p), v20, v21] H') →
    t D [some (.ref a), v1, some (.int lo), some (.int pe), some (.int fi), some (.int la), some (.int zl), v7, v8, v9, v10, v11, v12, v13, v14, v15, some (.int hi), v17, v18, some (.ref p), v20, v21] H := by
  have nd := scL.nd
  obtain ⟨fc, fdc, g, M, FC, bC, kC⟩ := T.mkC
  refine ⟨_, ps_set (i := 15) nd rfl (Or.inr rfl) (pe_make M FC (hr.mono (by decide)) (by rfl) T.mC bC .nil pass0 (pa_cons (pv 6) (pa_cons (pe_op op_add (pv 6) (pe_fa T.draw (hr.mono (by decide)) pass0 (by rfl) (pa_cons (pv 19) (pa_cons pe_int pa_nil)))) (pa_cons (pv 2) (pa_cons (pv 16) (pa_cons (pv 3) (pa_cons (pv 4) (pa_cons (pv 5) pa_nil)))))))), fun p pq a ns lo pe fi la hi zl D H t0 r0 v1 v7 v8 v9 v10 v11 v12 v13 v14 v15 v17 v18 v20 v21 S ht  k => ?_⟩
  refine ⟨_, rfl, _, rfl, _, rfl, p, pq, ns, t0, r0, 9, rfl, S.pen, by decide, by decide, by omega, fun x t1 r1 H1 a1 a2 a3 a4 a5 sm1 hp1 => ?_⟩
  have S1 := S.draw sm1 hp1 a3 (by omega) a5
  refine ⟨_, _, rfl, rfl, _, rfl, _, rfl, _, rfl, _, rfl, _, rfl, fun ca dx hca hdx hne => ?_⟩
  refine ⟨ca, dx, _, _, _, _, _, _, _, [.int zl, .int (zl + x), .int lo, .int hi, .int pe, .int fi, .int la], rfl, upd_same, T.pC, T.na, .cons (.int _) (.cons (.int _) (.cons (.int _) (.cons (.int _) (.cons (.int _) (.cons (.int _) (.cons (.int _) .nil)))))), (show 0 ≤ 3 by decide), fun H2 sm2 hc => ⟨rfl, ?_⟩⟩
  have e := made_same hca hdx sm2
  exact k ca (zl + x) t1 r1 H2 (S1.same e) (Kx.trans (.sm sm1) (.same e)) a4 (Ci.of hc) (by omega) (by omega)
end
end My

set_option maxHeartbeats 8000000
namespace My
open PySem PySem.Spec PyProof.Rows L2 LamX
def okX (c : Ce) (x : Int) : Bool := decide (c.fi ≤ (x - c.lo) % c.pe) && decide ((x - c.lo) % c.pe ≤ c.la)
/-- the x of a cell, among the first n from its low one on -/
def xsI (c : Ce) (n : Nat) : List Int := ((List.range n).map fun i : Nat => c.lo + (i : Int)).filter (okX c)
theorem xsI_succ (c : Ce) (n : Nat) : xsI c (n + 1) = xsI c n ++ (if okX c (c.lo + (n : Int)) = true then [c.lo + (n : Int)] else []) := by
  unfold xsI
  rw [List.range_succ, List.map_append, List.filter_append]
  congr 1
  by_cases h : okX c (c.lo + (n : Int)) = true
  · rw [if_pos h]
    show ([c.lo + (n : Int)] : List Int).filter (okX c) = _
    rw [List.filter_cons, if_pos h]
    rfl
  · rw [if_neg h]
    show ([c.lo + (n : Int)] : List Int).filter (okX c) = _
    rw [List.filter_cons, if_neg h]
    rfl
theorem xsI_len (c : Ce) (n : Nat) : (xsI c n).length ≤ n := by
  unfold xsI
  refine Nat.le_trans (List.length_filter_le _ _) ?_
  rw [List.length_map, List.length_range]
  exact Nat.le_refl _
def xsC (c : Ce) : List Int := xsI c (c.hi + 1 - c.lo).toNat
section
variable {Pr : Program} {w : World} {K : PySem.W.Frag} {mg : Str → Option Value} {base : Heap} {f : Addr} {cdv : Value} {A : Around} {outer : List Env} {s : Shared} {H0 : Hp} {E : XK} {PP CC CB CM fE P : Addr} {qn : Str}
theorem st5 (T : TL Pr w base K mg PP CC CB CM fE) (hr : Room 12 (LX Pr w K mg base f cdv A outer s H0 E).A) : ∃ t, PS (LX Pr w K mg base f cdv A outer s H0 E) (tS 5) t ∧ ∀ (p pq a ca : Addr) (ns : List Int) (lo pe fi la hi zl zh : Int) (D : Ends) (H : Hp) (t0 r0 : Int) (v1 v7 v8 v9 v10 v11 v12 v13 v14 v17 v18 v20 v21 : Option V), St7 P qn p pq ns H t0 r0 → t0 ≤ 1000 → Dr ⟨zl, zh, lo, hi, pe, fi, la⟩ →
    (∀ (xa : Addr) (t' r' : Int) (H' : Hp), St7 P qn p pq ns H' t' r' → Kx p H H' → t' ≤ t0 → H' xa = some (.lst ((xsC ⟨zl, zh, lo, hi, pe, fi, la⟩).map V.int)) → xa ≠ p →
      D.nx [some (.ref a), v1, some (.int lo), some (.int pe), some (.int fi), some (.int la), some (.int zl), v7, some (.ref xa), v9, v10, v11, v12, v13, v14, some (.ref ca), some (.int hi), v17, v18, some (.ref p), v20, v21] H') →
    t D [some (.ref a), v1, some (.int lo), some (.int pe), some (.int fi), some (.int la), some (.int zl), v7, v8, v9, v10, v11, v12, v13, v14, some (.ref ca), some (.int hi), v17, v18, some (.ref p), v20, v21] H := by
  have nd := scL.nd
  refine ⟨_, ps_set (i := 8) nd rfl (Or.inr rfl) (pe_lc (own := [("x", 7)]) (g := gName 7) rfl nd (pi_range2 (by rfl) T.n_range (pa_cons (pv 2) (pa_cons (pe_op op_add (pv 16) pe_int) pa_nil))) (blkOk_by (N := NL) (sc := defScope sLaw) (by decide +kernel)) (fun _ _ _ _ _ => pg_name (i := 7) nd rfl (Or.inl rfl))
      (fun _ _ _ _ _ => pts_one (pt_chain op_le op_le (pv 4) (pe_op op_mod (pe_callTy call_int1 (by rfl) T.n_int (by decide +kernel) (pa_cons (pe_op op_sub (pv 7) (pv 2)) pa_nil)) (pv 3)) (pv 5))) (fun _ _ _ _ _ => pv 7)), fun p pq a ca ns lo pe fi la hi zl zh D H t0 r0 v1 v7 v8 v9 v10 v11 v12 v13 v14 v17 v18 v20 v21 S ht dr k => ?_⟩
  have d0 := dr.l0; have d1 := dr.l1; have d2 := dr.p0; have d3 := dr.p1; have d4 := dr.f0; have d5 := dr.f1; have d6 := dr.f2; have d7 := dr.h0; have d8 := dr.h1
  simp only at d0 d1 d2 d3 d4 d5 d6 d7 d8
  refine ⟨_, rfl, _, rfl, _, _, rfl, rfl, lo, hi + 1, rfl, ⟨by omega, by omega, by omega, by omega⟩, fun D1 hD => lc_range (lo := lo) (n := (hi + 1 - lo).toNat) (fun i H2 => H2 D1 = some (.lst ((xsI ⟨zl, zh, lo, hi, pe, fi, la⟩ i).map V.int)) ∧ Same H H2)
    ⟨upd_same, same_new hD _⟩ ?_ ?_⟩
  · rintro i H2 hi2 ⟨hD2, e2⟩
    refine ⟨rfl, ?_⟩
    refine ⟨_, rfl, _, rfl, _, rfl, _, _, rfl, rfl, .inl ⟨_, rfl, _, rfl, _, _, rfl, rfl, by omega, _, _, rfl, rfl, _, rfl, ?_⟩⟩
    have key : ∀ b : Bool, okX ⟨zl, zh, lo, hi, pe, fi, la⟩ (lo + (i : Int)) = b → (if b = true then (fun (y : V) (H4 : Hp) => ∃ acc, H4 D1 = some (.lst acc) ∧ acc.length < sizeLine ∧ ((upd H4 D1 (.lst (acc ++ [y]))) D1 = some (.lst ((xsI ⟨zl, zh, lo, hi, pe, fi, la⟩ (i + 1)).map V.int)) ∧ Same H (upd H4 D1 (.lst (acc ++ [y]))))) (.int (lo + (i : Int))) H2
        else (H2 D1 = some (.lst ((xsI ⟨zl, zh, lo, hi, pe, fi, la⟩ (i + 1)).map V.int)) ∧ Same H H2)) := fun b hb => by
      have sc := xsI_succ ⟨zl, zh, lo, hi, pe, fi, la⟩ i
      rw [show (⟨zl, zh, lo, hi, pe, fi, la⟩ : Ce).lo = lo from rfl, hb] at sc
      cases b with
      | true =>
        refine iteT ⟨_, hD2, ?_, ?_, ?_⟩
        · rw [List.length_map]
          refine Nat.lt_of_le_of_lt (xsI_len _ _) (Nat.lt_trans hi2 ?_)
          have z : (hi + 1 - lo).toNat ≤ 100 := by omega
          exact Nat.lt_of_le_of_lt z (by decide)
        · rw [upd_same, sc, List.map_append]
          rfl
        · exact fun b o hb => by rw [upd_ne (ne_of_none hb hD)]; exact e2 _ _ hb
      | false =>
        refine iteF ⟨?_, e2⟩
        rw [hD2, sc, if_neg Bool.false_ne_true, List.append_nil]
    refine ite2 (fun c1 => ?_) (fun c1 => ?_)
    · refine ⟨_, rfl, _, _, rfl, rfl, _, rfl, ?_⟩
      have e : okX ⟨zl, zh, lo, hi, pe, fi, la⟩ (lo + (i : Int)) = decide ((lo + (i : Int) - lo) % pe ≤ la) := by
        show (decide (fi ≤ (lo + (i : Int) - lo) % pe) && _) = _
        rw [c1, Bool.true_and]
      have z := key _ e
      refine ite2 (fun c2 => ?_) (fun c2 => ?_)
      · rw [if_pos c2] at z
        exact ⟨_, rfl, z⟩
      · rw [if_neg c2] at z
        exact z
    · have e : okX ⟨zl, zh, lo, hi, pe, fi, la⟩ (lo + (i : Int)) = false := by
        show (decide (fi ≤ (lo + (i : Int) - lo) % pe) && _) = false
        rw [Bool.eq_false_iff.mpr c1, Bool.false_and]
      have z := key false e
      rw [if_neg Bool.false_ne_true] at z
      exact ⟨_, rfl, iteF z⟩
  · rintro H2 ⟨hD2, e2⟩
    exact k D1 t0 r0 H2 (S.same e2) (.same e2) (Int.le_refl _) hD2 (fun z => by
      obtain ⟨ys, hy⟩ := S.lst
      rw [z, hy] at hD
      cases hD)
end
end My

set_option maxHeartbeats 4000000
namespace My
open PySem PySem.Spec PyProof.Rows L2
/-! ### plain facts of cells: no program -/
theorem mem_xsI {c : Ce} {n : Nat} {x : Int} : x ∈ xsI c n ↔ (c.lo ≤ x ∧ x < c.lo + (n : Int)) ∧ okX c x = true := by
  unfold xsI
  rw [List.mem_filter, List.mem_map]
  constructor
  · rintro ⟨⟨i, hi, rfl⟩, h⟩
    have := List.mem_range.mp hi
    exact ⟨⟨by omega, by omega⟩, h⟩
  · rintro ⟨⟨h1, h2⟩, h⟩
    exact ⟨⟨(x - c.lo).toNat, List.mem_range.mpr (by omega), by omega⟩, h⟩
theorem mem_xsC {c : Ce} {x : Int} : x ∈ xsC c ↔ (c.lo ≤ x ∧ x ≤ c.hi) ∧ okX c x = true := by
  unfold xsC
  rw [mem_xsI]
  constructor
  · rintro ⟨⟨h1, h2⟩, h⟩
    exact ⟨⟨h1, by omega⟩, h⟩
  · rintro ⟨⟨h1, h2⟩, h⟩
    exact ⟨⟨h1, by omega⟩, h⟩
theorem cut_mem {c : Ce} {x z : Int} (hz : c.zl ≤ z) : cutIn c x z = (decide (x ∈ xsC c) && decide (z ≤ c.zh)) := by
  have e : decide (x ∈ xsC c) = ((decide (c.lo ≤ x) && decide (x ≤ c.hi)) && okX c x) := by
    rw [Bool.eq_iff_iff]
    simp only [decide_eq_true_eq, Bool.and_eq_true]
    exact mem_xsC
  unfold cutIn
  rw [e, decide_eq_true hz, Bool.true_and]
  show (decide (z ≤ c.zh) && ((decide (c.lo ≤ x) && decide (x ≤ c.hi)) && okX c x)) = _
  rw [Bool.and_comm]
theorem spot_mem {c : Ce} {x : Int} : spotB c (.int x) = decide (x ∈ xsC c) := by
  rw [Bool.eq_iff_iff]
  simp only [decide_eq_true_eq]
  rw [mem_xsC]
  show ((decide (c.lo ≤ x) && decide (x ≤ c.hi)) && okX c x) = true ↔ _
  simp only [Bool.and_eq_true, decide_eq_true_eq]
theorem inV_int {x : Int} : ∀ l : List Int, inV (.int x) (l.map V.int) = decide (x ∈ l)
  | [] => rfl
  | y :: l => by
    show (eqV (.int y) (.int x) || inV (.int x) (l.map V.int)) = _
    rw [inV_int l]
    rw [Bool.eq_iff_iff]
    simp only [eqV, Bool.or_eq_true, decide_eq_true_eq, List.mem_cons]
    constructor
    · rintro (h | h)
      · exact .inl (by simp_all)
      · exact .inr h
    · rintro (h | h)
      · exact .inl (by simp_all)
      · exact .inr h
theorem flat_ints : ∀ l : List Int, (l.map V.int).all flatV = true
  | [] => rfl
  | y :: l => by
    show (flatV (.int y) && (l.map V.int).all flatV) = true
    rw [flat_ints l]
    rfl
end My

set_option maxHeartbeats 4000000
namespace My
open PySem PySem.Spec PyProof.Rows L2
/-! ### which x a cell has, at which t -/
def topC (c : Ce) : Int := (c.hi - c.lo - c.fi) / c.pe
theorem xsC_lt (c : Ce) : (xsC c).Pairwise (· < ·) := by
  unfold xsC xsI
  refine List.Pairwise.filter _ ?_
  rw [List.pairwise_map]
  exact List.pairwise_lt_range.imp fun {i j} h => by omega
section
variable {c : Ce}
theorem top_nn (dr : Dr c) : 0 ≤ topC c := by
  have h1 := dr.p0; have h2 := dr.h0
  exact Int.ediv_nonneg (by omega) (by omega)
theorem top_le (dr : Dr c) : topC c ≤ 49 := by
  have h1 := dr.p0; have h2 := dr.h1
  unfold topC
  have z : (c.hi - c.lo - c.fi) / c.pe < 50 := Int.ediv_lt_of_lt_mul (by omega) (by
    have y : 50 * 1 ≤ 50 * c.pe := Int.mul_le_mul_of_nonneg_left h1 (by decide)
    omega)
  omega
theorem at_mem (dr : Dr c) {t : Int} (t0 : 0 ≤ t) (t1 : t ≤ topC c) : c.lo + c.fi + t * c.pe ∈ xsC c ∧ (c.lo + c.fi + t * c.pe - c.lo) / c.pe = t := by
  have h1 := dr.p0; have h3 := dr.f0; have h4 := dr.f1; have h5 := dr.f2
  have e : c.lo + c.fi + t * c.pe - c.lo = c.fi + t * c.pe := by omega
  have m0 : 0 ≤ t * c.pe := Int.mul_nonneg t0 (by omega)
  have m1 : t * c.pe ≤ c.hi - c.lo - c.fi := Int.le_trans (Int.mul_le_mul_of_nonneg_right t1 (by omega)) (Int.ediv_mul_le _ (by omega))
  have er : (c.fi + t * c.pe) % c.pe = c.fi := by
    rw [Int.add_mul_emod_self_right]
    exact Int.emod_eq_of_lt h3 (by omega)
  refine ⟨mem_xsC.mpr ⟨⟨by omega, by omega⟩, ?_⟩, ?_⟩
  · unfold okX
    rw [e, er]
    rw [decide_eq_true (Int.le_refl c.fi), decide_eq_true h4]
    rfl
  · rw [e, Int.add_mul_ediv_right _ _ (by omega), Int.ediv_eq_zero_of_lt h3 (by omega), Int.zero_add]
theorem at_least (dr : Dr c) {t y : Int} (hy : y ∈ xsC c) (ht : (y - c.lo) / c.pe = t) : c.lo + c.fi + t * c.pe ≤ y := by
  obtain ⟨_, h⟩ := mem_xsC.mp hy
  unfold okX at h
  have h2 := of_decide_eq_true (Bool.and_eq_true_iff.mp h).1
  have h3 := Int.mul_ediv_add_emod (y - c.lo) c.pe
  rw [ht, Int.mul_comm] at h3
  omega
theorem at_top (dr : Dr c) {y : Int} (hy : y ∈ xsC c) : 0 ≤ (y - c.lo) / c.pe ∧ (y - c.lo) / c.pe ≤ topC c := by
  have h0 := dr.p0
  obtain ⟨⟨h1, h2⟩, _⟩ := mem_xsC.mp hy
  have h3 := at_least dr hy rfl
  refine ⟨Int.ediv_nonneg (by omega) (by omega), ?_⟩
  exact (Int.le_ediv_iff_mul_le (by omega)).mpr (by omega)
theorem last_top (dr : Dr c) : ∃ init L, xsC c = init ++ [L] ∧ (L - c.lo) / c.pe = topC c := by
  have hm := (at_mem dr (top_nn dr) (Int.le_refl _))
  have hp := xsC_lt c
  have hne : xsC c ≠ [] := fun z => by
    have := hm.1
    rw [z] at this
    cases this
  obtain ⟨init, L, e⟩ : ∃ init L, xsC c = init ++ [L] := ⟨_, _, (List.dropLast_concat_getLast hne).symm⟩
  refine ⟨init, L, e, ?_⟩
  have hL : L ∈ xsC c := by rw [e]; exact List.mem_append_right _ List.mem_cons_self
  have hle : c.lo + c.fi + topC c * c.pe ≤ L := by
    have q := hm.1
    rw [e] at q
    rcases List.mem_append.mp q with q | q
    · rw [e] at hp
      exact Int.le_of_lt ((List.pairwise_append.mp hp).2.2 _ q _ List.mem_cons_self)
    · rw [List.mem_singleton.mp q]
      exact Int.le_refl _
  have h0 := dr.p0
  refine Int.le_antisymm (at_top dr hL).2 ?_
  refine (Int.le_ediv_iff_mul_le (by omega)).mpr ?_
  have h3 := dr.f0
  omega
theorem head_first (dr : Dr c) : ∃ rest, xsC c = (c.lo + c.fi) :: rest := by
  have hm := (at_mem dr (Int.le_refl 0) (top_nn dr)).1
  have e0 : c.lo + c.fi + 0 * c.pe = c.lo + c.fi := by omega
  rw [e0] at hm
  have hp := xsC_lt c
  cases e : xsC c with
  | nil =>
    rw [e] at hm
    cases hm
  | cons y l =>
    have hy : y ∈ xsC c := by rw [e]; exact List.mem_cons_self
    have h1 := at_least dr hy rfl
    have h2 := (at_top dr hy).1
    have h4 : 0 ≤ (y - c.lo) / c.pe * c.pe := Int.mul_nonneg h2 (by have := dr.p0; omega)
    rw [e] at hm hp
    rcases List.mem_cons.mp hm with q | q
    · exact ⟨l, by rw [q]⟩
    · have z := (List.pairwise_cons.mp hp).1 _ q
      omega
end
end My

set_option maxHeartbeats 8000000
namespace My
open PySem PySem.Spec PyProof.Rows L2 LamX
abbrev xS (j : Nat) : Stmt := (forBody (tS 6)).getD j (.Pass ⟨0, 0, 0, 0⟩)
theorem bool_atom (b : Bool) : PyData.bool b ∈ atoms := by cases b <;> simp [atoms]
theorem iteF' {c : Bool} {A B : Prop} (hc : c = false) (h : B) : if c = true then A else B := by
  rw [hc, if_neg Bool.false_ne_true]
  exact h
theorem dz_two {d : PyData} (h : d ∈ atoms) : Dz 5 (.list [d, d]) := .lst (by show 2 ≤ 7; decide) fun x hx => by
  rcases List.mem_cons.mp hx with rfl | hx
  · exact .at_ h
  · rw [List.mem_singleton.mp hx]
    exact .at_ h
theorem dh_two {H : Hp} {l : Addr} {v : V} {d : PyData} (h : H l = some (.lst [v, v])) (hv : Dh H v d) : Dh H (.ref l) (.list [d, d]) := .lst h (by show 2 ≤ 100; decide) (.cons hv (.cons hv .nil))
section
variable {Pr : Program} {w : World} {K : PySem.W.Frag} {mg : Str → Option Value} {base : Heap} {f : Addr} {cdv : Value} {A : Around} {outer : List Env} {s : Shared} {H0 : Hp} {E : XK} {PP CC CB CM fE P : Addr} {qn : Str}
theorem st6a (T : TL Pr w base K mg PP CC CB CM fE) (hr : Room 12 (LX Pr w K mg base f cdv A outer s H0 E).A) (hg : (LX Pr w K mg base f cdv A outer s H0 E).A.guards = some []) : ∃ t, PS (LX Pr w K mg base f cdv A outer s H0 E) (xS 0) t ∧ ∀ (p pq a ca xa : Addr) (ns : List Int) (lo pe fi la hi zl zh x : Int) (D : Ends) (H : Hp) (t0 r0 : Int) (v1 v9 v10 v11 v12 v13 v14 v17 v18 v20 v21 : Option V), St7 P qn p pq ns H t0 r0 → t0 ≤ 1000 → Dr ⟨zl, zh, lo, hi, pe, fi, la⟩ → Ci K PP CC H ca ⟨zl, zh, lo, hi, pe, fi, la⟩ → H xa = some (.lst ((xsC ⟨zl, zh, lo, hi, pe, fi, la⟩).map V.int)) → -549755813888 ≤ x → x ≤ 549755813888 →
    (∀ (w9 : Option V) (t' r' : Int) (H' : Hp), St7 P qn p pq ns H' t' r' → Kx p H H' → t' = t0 → r' = r0 → Same H H' →
      D.nx [some (.ref a), v1, some (.int lo), some (.int pe), some (.int fi), some (.int la), some (.int zl), some (.int x), some (.ref xa), w9, v10, v11, v12, v13, v14, some (.ref ca), some (.int hi), v17, v18, some (.ref p), v20, v21] H') →
    t D [some (.ref a), v1, some (.int lo), some (.int pe), some (.int fi), some (.int la), some (.int zl), some (.int x), some (.ref xa), v9, v10, v11, v12, v13, v14, some (.ref ca), some (.int hi), v17, v18, some (.ref p), v20, v21] H := by
  have nd := scL.nd
  refine ⟨_, ps_for PassesOwn.never rfl (pi_tup (pe_tup (pa_cons (pv 6) (pa_cons (pe_fld (pv 15) rfl) (pa_cons (pe_op op_add (pe_fld (pv 15) rfl) pe_int) pa_nil))))) (pg_name (i := 9) nd rfl (Or.inl rfl))
      (pss_one (ps_if (pt_cmpR op_ne (pe_callB (call_reprD hg (by have := hr.un; omega)) (by rfl) T.n_repr (by decide +kernel) (pa_cons (pe_lst (pa_cons (pe_ma T.has (hr.mono (by decide)) pass_no (pv 15) (pa_cons (pv 7) (pa_cons (pv 9) pa_nil))) (pa_cons (pe_mk T.hasK (hr.mono (by decide)) pass_no (pv 15) (pk_cons (pv 9) (pk_cons (pv 7) pk_nil))) pa_nil))) pa_nil)) (pe_callB (call_reprD hg (by have := hr.un; omega)) (by rfl) T.n_repr (by decide +kernel) (pa_cons (pe_op op_rep (pe_lst (pa_cons (pe_and (pe_cmpR op_in_seq (pv 7) (pv 8) (by rfl)) (pe_one (pe_cmpR op_le (pv 9) (pe_fld (pv 15) rfl) (nomark _)))) pa_nil)) pe_int) pa_nil)) (nomark _)) (pss_one (ps_ret pe_bl)) pss_nil)), fun p pq a ca xa ns lo pe fi la hi zl zh x D H t0 r0 v1 v9 v10 v11 v12 v13 v14 v17 v18 v20 v21 S ht dr ci hx x0 x1 k => ?_⟩
  obtain ⟨dx, b, ho, hb⟩ := id ci.ob
  have dr0 : 0 < pe := dr.p0
  have z0 := dr.z0; have z1 := dr.z1; have z2 := dr.z2; have z3 := dr.z3
  simp only at z0 z1 z2 z3
  refine ⟨_, rfl, _, rfl, ca, CC, dx, _, _, rfl, ho, ci.pc.n.cl, ci.na _ (by decide +kernel), rfl, _, rfl, ca, CC, dx, _, _, rfl, ho, ci.pc.n.cl, ci.na _ (by decide +kernel), rfl, _, _, rfl, rfl, by show 3 ≤ sizeLine; decide, fun tp htp => ?_⟩
  have sT : Same H (upd H tp (.tup [.int zl, .int zh, .int (zh + 1)])) := same_new htp _
  have qT : upd H tp (HO.tup [V.int zl, V.int zh, V.int (zh + 1)]) tp = some (.tup [.int zl, .int zh, .int (zh + 1)]) := upd_same
  generalize upd H tp (HO.tup [V.int zl, V.int zh, V.int (zh + 1)]) = H1 at sT qT ⊢
  refine ⟨tp, rfl, ⟨_, .inl (.inl qT)⟩, for_tup (xs := [.int zl, .int zh, .int (zh + 1)]) (fun i σ H2 => ∃ w9 : Option V, σ = [some (.ref a), v1, some (.int lo), some (.int pe), some (.int fi), some (.int la), some (.int zl), some (.int x), some (.ref xa), w9, v10, v11, v12, v13, v14, some (.ref ca), some (.int hi), v17, v18, some (.ref p), v20, v21] ∧ Same H1 H2) ⟨_, rfl, Same.refl _⟩ (fun i σ H2 _ ⟨_, _, e⟩ => .inl (.inl (e _ _ qT))) ?_ ?_⟩
  · rintro i y σ H2 hy ⟨w9, rfl, e2⟩
    have hz : ∃ z : Int, y = .int z ∧ zl ≤ z ∧ z ≤ zh + 1 := by
      match i, hy with
      | 0, hy => cases hy; exact ⟨_, rfl, by omega, by omega⟩
      | 1, hy => cases hy; exact ⟨_, rfl, by omega, by omega⟩
      | 2, hy => cases hy; exact ⟨_, rfl, by omega, by omega⟩
    obtain ⟨z, rfl, y1, y2⟩ := hz
    have hix : inB (-549755813888) 549755813888 (.int x) = true := by
      show (decide _ && decide _) = true
      rw [decide_eq_true x0, decide_eq_true x1]
      rfl
    have hiz : inB 2 1048576 (.int z) = true := by
      show (decide _ && decide _) = true
      rw [decide_eq_true (show (2 : Int) ≤ z by omega), decide_eq_true (show z ≤ 1048576 by omega)]
      rfl
    have sH : Same H H2 := sT.trans e2
    have ci2 := ci.kx (.same sH) S.lst
    obtain ⟨dx2, b2, o2, hb2⟩ := id ci2.ob
    have hx2 := sH _ _ hx
    have cm : cutIn ⟨zl, zh, lo, hi, pe, fi, la⟩ x z = (decide (x ∈ xsC ⟨zl, zh, lo, hi, pe, fi, la⟩) && decide (z ≤ zh)) := cut_mem y1
    refine ⟨_, rfl, ca, dx2, _, rfl, o2, rfl, _, rfl, _, rfl, ca, CC, ⟨zl, zh, lo, hi, pe, fi, la⟩, .int x, .int z, .int x, .int z, rfl, ci2.ce, dr0, .int _, .int _, fun x' z' e1 e2' _ _ => ?_, fun q => absurd hix (by rw [q]; decide), fun _ q => absurd hiz (by rw [q]; decide)⟩
    cases e1
    cases e2'
    refine ⟨_, rfl, ca, dx2, _, rfl, o2, rfl, _, rfl, _, rfl, rfl, ca, CC, ⟨zl, zh, lo, hi, pe, fi, la⟩, .int x, .int z, .int x, .int z, rfl, ci2.ce, dr0, .int _, .int _, fun x' z' e1 e2' _ _ => ?_, fun q => absurd hix (by rw [q]; decide), fun _ q => absurd hiz (by rw [q]; decide)⟩
    cases e1
    cases e2'
    refine ⟨by show 2 ≤ sizeLine; decide, fun l1 hl1 => ?_⟩
    have s1 : Same H2 (upd H2 l1 (.lst [.bl (cutIn ⟨zl, zh, lo, hi, pe, fi, la⟩ x z), .bl (cutIn ⟨zl, zh, lo, hi, pe, fi, la⟩ x z)])) := same_new hl1 _
    have q1 : upd H2 l1 (HO.lst [V.bl (cutIn ⟨zl, zh, lo, hi, pe, fi, la⟩ x z), V.bl (cutIn ⟨zl, zh, lo, hi, pe, fi, la⟩ x z)]) l1 = some (.lst [.bl (cutIn ⟨zl, zh, lo, hi, pe, fi, la⟩ x z), .bl (cutIn ⟨zl, zh, lo, hi, pe, fi, la⟩ x z)]) := upd_same
    generalize upd H2 l1 (HO.lst [V.bl (cutIn ⟨zl, zh, lo, hi, pe, fi, la⟩ x z), V.bl (cutIn ⟨zl, zh, lo, hi, pe, fi, la⟩ x z)]) = H3 at s1 q1 ⊢
    rw [cm] at q1
    refine ⟨.ref l1, .list [.bool (decide (x ∈ xsC ⟨zl, zh, lo, hi, pe, fi, la⟩) && decide (z ≤ zh)), .bool (decide (x ∈ xsC ⟨zl, zh, lo, hi, pe, fi, la⟩) && decide (z ≤ zh))], rfl, dh_two q1 (.bl _), dz_two (bool_atom _), ?_⟩
    have hx3 := s1 _ _ hx2
    have ci3 := ci2.kx (.same s1) (S.same sH).lst
    obtain ⟨dx3, b3, o3, hb3⟩ := id ci3.ob
    refine ⟨_, rfl, _, rfl, xa, _, rfl, .inl (.inl (.inl hx3)), rfl, flat_ints _, _, rfl, ?_⟩
    rw [show (if false = true then !inV (V.int x) ((xsC ⟨zl, zh, lo, hi, pe, fi, la⟩).map V.int) else inV (V.int x) ((xsC ⟨zl, zh, lo, hi, pe, fi, la⟩).map V.int)) = decide (x ∈ xsC ⟨zl, zh, lo, hi, pe, fi, la⟩) from inV_int _]
    cases hX : decide (x ∈ xsC ⟨zl, zh, lo, hi, pe, fi, la⟩) with
    | true =>
      refine iteT ?_
      refine ⟨_, rfl, _, rfl, ca, CC, dx3, _, _, rfl, o3, ci3.pc.n.cl, ci3.na _ (by decide +kernel), rfl, _, _, rfl, rfl, ?_⟩
      rw [Bool.true_and]
      refine ⟨by show 1 ≤ sizeLine; decide, fun l2 hl2 => ?_⟩
      refine ⟨l2, 2, _, rfl, rfl, upd_same, by decide, by decide, by show 1 * 2 ≤ sizeLine; decide, fun l3 hl3 => ?_⟩
      refine ⟨.ref l3, .list [.bool (decide (z ≤ zh)), .bool (decide (z ≤ zh))], rfl, dh_two upd_same (.bl _), dz_two (bool_atom _), rfl, _, rfl, ?_⟩
      refine iteF' (by rw [decide_eq_true rfl]; rfl) ?_
      exact ⟨_, rfl, e2.trans (s1.trans ((same_new hl2 _).trans (same_new hl3 _)))⟩
    | false =>
      refine iteF ?_
      rw [Bool.false_and]
      refine ⟨by show 1 ≤ sizeLine; decide, fun l2 hl2 => ?_⟩
      refine ⟨l2, 2, _, rfl, rfl, upd_same, by decide, by decide, by show 1 * 2 ≤ sizeLine; decide, fun l3 hl3 => ?_⟩
      refine ⟨.ref l3, .list [.bool false, .bool false], rfl, dh_two upd_same (.bl _), dz_two (bool_atom _), rfl, _, rfl, ?_⟩
      refine iteF' (by rw [decide_eq_true rfl]; rfl) ?_
      exact ⟨_, rfl, e2.trans (s1.trans ((same_new hl2 _).trans (same_new hl3 _)))⟩
  · rintro σ H2 ⟨w9, rfl, e2⟩
    exact k w9 t0 r0 H2 (S.same (sT.trans e2)) (.same (sT.trans e2)) rfl rfl (sT.trans e2)
end
end My

set_option maxHeartbeats 8000000
namespace My
open PySem PySem.Spec PyProof.Rows L2 LamX
/-- what a spot tells -/
def hdD (c : Ce) (x : Int) : PyData := if x ∈ xsC c then .list [.int ((x - c.lo) / c.pe)] else .tuple [.str "number", .str "x"]
theorem Kx.dh {p : Addr} {H H' : Hp} {v : V} {d : PyData} (e : Kx p H H') (h : Dh H v d) (st : ∃ ys, H p = some (.lst ys)) (ok : ∀ l xs, v = .ref l → H l = some (.lst xs) → l ≠ p) (fl : ∀ l xs, v = .ref l → (H l = some (.lst xs) ∨ H l = some (.tup xs)) → ∀ y ∈ xs, flatV y = true) : Dh H' v d := by
  have flat : ∀ {xs : List V} {ds : List PyData}, DhAll H xs ds → (∀ y ∈ xs, flatV y = true) → DhAll H' xs ds := by
    intro xs
    induction xs with
    | nil => intro ds h _; cases h; exact .nil
    | cons y ys ih =>
      intro ds h hy
      cases h with
      | cons h1 h2 =>
        refine .cons ?_ (ih h2 fun z hz => hy z (List.mem_cons_of_mem _ hz))
        have z := hy y List.mem_cons_self
        cases h1 with
        | non => exact .non
        | bl b => exact .bl b
        | int i => exact .int i
        | str x => exact .str x
        | lst _ _ _ => cases z
        | tup _ _ _ => cases z
  cases h with
  | non => exact .non
  | bl b => exact .bl b
  | int i => exact .int i
  | str x => exact .str x
  | lst a b c => exact .lst (e.lst (ok _ _ rfl a) a) b (flat c (fl _ _ rfl (.inl a)))
  | tup a b c => exact .tup (e.tup st a) b (flat c (fl _ _ rfl (.inr a)))
/-- a thing that _law_heard hands back: a new list or tuple of flat things -/
structure Hd (p : Addr) (H : Hp) (l : Addr) (d : PyData) : Prop where
  d : Dh H (.ref l) d
  np : l ≠ p
  fl : ∀ xs, (H l = some (.lst xs) ∨ H l = some (.tup xs)) → ∀ y ∈ xs, flatV y = true
theorem Hd.kx {p : Addr} {H H' : Hp} {l : Addr} {d : PyData} (h : Hd p H l d) (e : Kx p H H') (st : ∃ ys, H p = some (.lst ys)) : Hd p H' l d := by
  refine ⟨e.dh h.d st (fun l' xs q _ => by cases q; exact h.np) (fun l' xs q => by cases q; exact h.fl xs), h.np, fun xs hx => ?_⟩
  obtain ⟨ys, hp⟩ := st
  have hd := h.d
  have nt : ∀ {xs : List V} (ps : Array Value), HO.lst xs ≠ .tbl ps := fun _ z => nomatch z
  cases hd with
  | lst a b c =>
    have a2 := e.lst h.np a
    rcases hx with hx | hx
    · rw [a2] at hx
      cases hx
      exact h.fl _ (.inl a)
    · rw [a2] at hx
      cases hx
  | tup a b c =>
    have a2 := e.tup ⟨ys, hp⟩ a
    rcases hx with hx | hx
    · rw [a2] at hx
      cases hx
    · rw [a2] at hx
      cases hx
      exact h.fl _ (.inr a)
theorem Hd.new_list {p : Addr} {H : Hp} {l : Addr} {v : V} {d : PyData} (hn : H l = none) (hl : l ≠ p) (hv : Dh (upd H l (.lst [v])) v d) (fv : flatV v = true) : Hd p (upd H l (.lst [v])) l (.list [d]) := by
  refine ⟨.lst upd_same (by show 1 ≤ 100; decide) (.cons hv .nil), hl, fun xs hx => ?_⟩
  rw [upd_same] at hx
  rcases hx with hx | hx
  · cases hx
    intro y hy
    rw [List.mem_singleton.mp hy]
    exact fv
  · cases hx
theorem Hd.pair {p : Addr} {H : Hp} {t : Addr} {x y : Str} (h : H t = some (.tup [.str x, .str y])) (hl : t ≠ p) : Hd p H t (.tuple [.str x, .str y]) := by
  refine ⟨.tup h (by show 2 ≤ 100; decide) (.cons (.str _) (.cons (.str _) .nil)), hl, fun xs hx => ?_⟩
  rw [h] at hx
  rcases hx with hx | hx
  · cases hx
  · cases hx
    intro y hy
    rcases List.mem_cons.mp hy with rfl | hy
    · rfl
    · rw [List.mem_singleton.mp hy]
      rfl
theorem new_ne {p l : Addr} {H : Hp} (st : ∃ ys, H p = some (.lst ys)) (h : H l = none) : l ≠ p := fun z => by
  obtain ⟨ys, hp⟩ := st
  rw [z, hp] at h
  cases h
/-- the law's code object and its table -/
structure CodeL (base : Heap) (mg : Str → Option Value) (cdv : Value) (P : Addr) : Prop where
  ex : ∃ c, cdv = .ref c ∧ TabB base mg c P
section
variable {Pr : Program} {w : World} {K : PySem.W.Frag} {mg : Str → Option Value} {base : Heap} {f : Addr} {cdv : Value} {A : Around} {outer : List Env} {s : Shared} {H0 : Hp} {E : XK} {PP CC CB CM fE P : Addr} {qn : Str}
theorem spot_read {c : Ce} {x : Int} {H : Hp} {t0 r0 : Int} {qn : Str} {σ : L2.St} (dr : Dr c) (ci : Ci K PP CC H ca c) (S : St7 P qn p pq ns H t0 r0) (h15 : σ[15]? = some (some (.ref ca))) (h7 : σ[7]? = some (some (.int x))) :
    tLam [(P, qn)] (THr CB CM) (fun E => tMeth CC "spot" (spSpot K CB) [] E (tVar 15) (tCons (tVar 7) tNil)) σ H (fun v H' => ∃ r, v = .ref r ∧ Kx p H H' ∧ St7 P qn p pq ns H' t0 r0 ∧ Hd p H' r (hdD c x)) := by
  refine ⟨S.tab, fun A1 eA tA u hu => ?_⟩
  have SA := (S.ext eA tA).same (same_new hu (.tup [.non, .non]))
  have kA : Kx p H (upd A1 u (.tup [.non, .non])) := (Kx.ext eA).trans (.new hu _)
  generalize upd A1 u (HO.tup [V.non, V.non]) = B at SA kA ⊢
  have ci1 := ci.kx kA S.lst
  obtain ⟨dx1, b1, o1, hb1⟩ := id ci1.ob
  have dr0 : 0 < c.pe := dr.p0
  have dr1 : c.pe < 1073741824 := by
    have z := dr.p1
    omega
  have sp := spot_mem (c := c) (x := x)
  refine ⟨_, h15, ca, dx1, _, rfl, o1, rfl, _, h7, ca, CC, c, .int x, .int x, rfl, ci1.ce, ⟨dr0, dr1⟩, .int _, fun x' e1 hs => ?_, fun hs dxe hdxe => ?_⟩
  · cases e1
    rw [sp] at hs
    have e : hdD c x = .list [.int ((x - c.lo) / c.pe)] := if_pos (of_decide_eq_true hs)
    intro l hl
    refine ⟨l, rfl, kA.trans (.new hl _), SA.same (same_new hl _), ?_⟩
    rw [e]
    exact Hd.new_list hl (new_ne SA.lst hl) (.int _) rfl
  · rw [sp] at hs
    have e : hdD c x = .tuple [.str "number", .str "x"] := if_neg (of_decide_eq_false hs)
    refine ⟨dxe, .str "x", rfl, upd_same, .inl ⟨rfl, fun t H2 sm ht hn => ⟨t, rfl, ?_, ?_, ?_⟩⟩⟩
    · exact (kA.trans (.new hdxe _)).trans (.same sm)
    · exact (SA.same (same_new hdxe _)).same sm
    · rw [e]
      exact Hd.pair ht (new_ne (SA.same (same_new hdxe _)).lst hn)
theorem spot_readK {c : Ce} {x : Int} {H : Hp} {t0 r0 : Int} {qn : Str} {σ : L2.St} (dr : Dr c) (ci : Ci K PP CC H ca c) (S : St7 P qn p pq ns H t0 r0) (h15 : σ[15]? = some (some (.ref ca))) (h7 : σ[7]? = some (some (.int x))) :
    tLam [(P, qn)] (THr CB CM) (fun E => tMethKw CC "spot" 1 (spSpot K CB) gOne E (tVar 15) (tCons (tVar 7) tNil)) σ H (fun v H' => ∃ r, v = .ref r ∧ Kx p H H' ∧ St7 P qn p pq ns H' t0 r0 ∧ Hd p H' r (hdD c x)) := by
  refine ⟨S.tab, fun A1 eA tA u hu => ?_⟩
  have SA := (S.ext eA tA).same (same_new hu (.tup [.non, .non]))
  have kA : Kx p H (upd A1 u (.tup [.non, .non])) := (Kx.ext eA).trans (.new hu _)
  generalize upd A1 u (HO.tup [V.non, V.non]) = B at SA kA ⊢
  have ci1 := ci.kx kA S.lst
  obtain ⟨dx1, b1, o1, hb1⟩ := id ci1.ob
  have dr0 : 0 < c.pe := dr.p0
  have dr1 : c.pe < 1073741824 := by
    have z := dr.p1
    omega
  have sp := spot_mem (c := c) (x := x)
  refine ⟨_, h15, ca, dx1, _, rfl, o1, rfl, _, h7, rfl, ca, CC, c, .int x, .int x, rfl, ci1.ce, ⟨dr0, dr1⟩, .int _, fun x' e1 hs => ?_, fun hs dxe hdxe => ?_⟩
  · cases e1
    rw [sp] at hs
    have e : hdD c x = .list [.int ((x - c.lo) / c.pe)] := if_pos (of_decide_eq_true hs)
    intro l hl
    refine ⟨l, rfl, kA.trans (.new hl _), SA.same (same_new hl _), ?_⟩
    rw [e]
    exact Hd.new_list hl (new_ne SA.lst hl) (.int _) rfl
  · rw [sp] at hs
    have e : hdD c x = .tuple [.str "number", .str "x"] := if_neg (of_decide_eq_false hs)
    refine ⟨dxe, .str "x", rfl, upd_same, .inl ⟨rfl, fun t H2 sm ht hn => ⟨t, rfl, ?_, ?_, ?_⟩⟩⟩
    · exact (kA.trans (.new hdxe _)).trans (.same sm)
    · exact (SA.same (same_new hdxe _)).same sm
    · rw [e]
      exact Hd.pair ht (new_ne (SA.same (same_new hdxe _)).lst hn)
theorem st6b (T : TL Pr w base K mg PP CC CB CM fE) (hr : Room 12 (LX Pr w K mg base f cdv A outer s H0 E).A) (TH : TLh K mg CB CM) (TC : CodeL base mg cdv P) {qn : Str} (hq : qn = (LX Pr w K mg base f cdv A outer s H0 E).env.qual ++ "<lambda>") : ∃ t, PS (LX Pr w K mg base f cdv A outer s H0 E) (xS 1) t ∧ ∀ (p pq a ca xa : Addr) (ns : List Int) (lo pe fi la hi zl zh x : Int) (D : Ends) (H : Hp) (t0 r0 : Int) (v1 v9 v10 v11 v12 v13 v14 v17 v18 v20 v21 : Option V), St7 P qn p pq ns H t0 r0 → t0 ≤ 1000 → Dr ⟨zl, zh, lo, hi, pe, fi, la⟩ → Ci K PP CC H ca ⟨zl, zh, lo, hi, pe, fi, la⟩ →
    (∀ (hl h1 h2 : Addr) (t' r' : Int) (H' : Hp), St7 P qn p pq ns H' t' r' → Kx p H H' → t' = t0 → H' hl = some (.lst [.ref h1, .ref h2]) → hl ≠ p → Hd p H' h1 (hdD ⟨zl, zh, lo, hi, pe, fi, la⟩ x) → Hd p H' h2 (hdD ⟨zl, zh, lo, hi, pe, fi, la⟩ x) →
      D.nx [some (.ref a), v1, some (.int lo), some (.int pe), some (.int fi), some (.int la), some (.int zl), some (.int x), some (.ref xa), v9, some (.ref hl), v11, v12, v13, v14, some (.ref ca), some (.int hi), v17, v18, some (.ref p), v20, v21] H') →
    t D [some (.ref a), v1, some (.int lo), some (.int pe), some (.int fi), some (.int la), some (.int zl), some (.int x), some (.ref xa), v9, v10, v11, v12, v13, v14, some (.ref ca), some (.int hi), v17, v18, some (.ref p), v20, v21] H := by
  have nd := scL.nd
  obtain ⟨cL, rfl, TB⟩ := TC.ex
  subst hq
  refine ⟨_, ps_set (i := 10) nd rfl (Or.inl rfl) (pe_lst (pa_cons (pe_up (pe_heard TH (by rfl) TB rfl (hr.mono (by decide)) (lamS_by (sc := defScope sLaw) (by decide +kernel)) (by rfl) (fun _ _ _ _ _ => rfl) (fun A outer s H E f c' hr2 => pe_ma (E := E) T.spot hr2 pass_lam (pv 15) (pa_cons (pv 7) pa_nil)))) (pa_cons (pe_up (pe_heardD (y := "a1") TH (by rfl) TB rfl (hr.mono (by decide)) (lamD_by (N := NL) (sc := defScope sLaw) (by decide +kernel)) (by rfl) (by rfl) (fun q cl D doc pm cv ctv u => ⟨_, rfl, rfl⟩) (fun A outer s H E f c' hr2 => pe_mk (E := E) T.spotK hr2 pass_lam (pv 15) (pk_cons (pv 7) pk_nil)))) pa_nil))), fun p pq a ca xa ns lo pe fi la hi zl zh x D H t0 r0 v1 v9 v10 v11 v12 v13 v14 v17 v18 v20 v21 S ht dr ci k => ?_⟩
  refine ⟨_, fun v1 H1 hz => ?_, spot_read dr ci S rfl rfl⟩
  obtain ⟨a1, rfl, k1, S1, d1⟩ := hz
  refine ⟨_, fun v2 H2 hz => ?_, spot_readK dr (ci.kx k1 S.lst) S1 rfl rfl⟩
  obtain ⟨a2, rfl, k2, S2, d2⟩ := hz
  refine ⟨by show 2 ≤ sizeLine; decide, fun hl hhl => ?_⟩
  have d1' := (d1.kx k2 S1.lst).kx (.new hhl (.lst [.ref a1, .ref a2])) S2.lst
  have d2' := d2.kx (.new hhl (.lst [.ref a1, .ref a2])) S2.lst
  exact k hl a1 a2 t0 r0 _ (S2.same (same_new hhl _)) ((k1.trans k2).trans (.new hhl _)) rfl upd_same (new_ne S2.lst hhl) d1' d2'
end
end My

set_option maxHeartbeats 8000000
namespace My
open PySem PySem.Spec PyProof.Rows L2 LamX
theorem shaped_hd {c : Ce} {x : Int} : SeqAt.shaped (.list [hdD c x, hdD c x]) = true := by
  by_cases h : x ∈ xsC c
  · rw [show hdD c x = .list [.int ((x - c.lo) / c.pe)] from if_pos h]
    rfl
  · rw [show hdD c x = .tuple [.str "number", .str "x"] from if_neg h]
    decide +kernel
theorem eqv_same {d : PyData} (h : SeqAt.shaped d = true) : (!PyData.eqv d d) = false := by
  have z : (PyData.canLay0 d && decide (PyData.depth d ≤ 64)) = true := h
  rw [SeqAt.eqv_refl d (Bool.and_eq_true_iff.mp z).1]
  rfl
section
variable {Pr : Program} {w : World} {K : PySem.W.Frag} {mg : Str → Option Value} {base : Heap} {f : Addr} {cdv : Value} {A : Around} {outer : List Env} {s : Shared} {H0 : Hp} {E : XK} {PP CC CB CM fE P : Addr} {qn : Str}
theorem st6c (T : TL Pr w base K mg PP CC CB CM fE) (hr : Room 12 (LX Pr w K mg base f cdv A outer s H0 E).A) : ∃ t, PS (LX Pr w K mg base f cdv A outer s H0 E) (xS 2) t ∧ ∀ (p pq a ca xa hl g1 g2 : Addr) (ns : List Int) (lo pe fi la hi zl zh x : Int) (D : Ends) (H : Hp) (t0 r0 : Int) (v1 v9 v11 v12 v13 v14 v17 v18 v20 v21 : Option V), St7 P qn p pq ns H t0 r0 → t0 ≤ 1000 → Dr ⟨zl, zh, lo, hi, pe, fi, la⟩ → H xa = some (.lst ((xsC ⟨zl, zh, lo, hi, pe, fi, la⟩).map V.int)) → H hl = some (.lst [.ref g1, .ref g2]) → Hd p H g1 (hdD ⟨zl, zh, lo, hi, pe, fi, la⟩ x) → Hd p H g2 (hdD ⟨zl, zh, lo, hi, pe, fi, la⟩ x) →
    (∀  (t' r' : Int) (H' : Hp), St7 P qn p pq ns H' t' r' → Kx p H H' → t' = t0 → Same H H' →
      D.nx [some (.ref a), v1, some (.int lo), some (.int pe), some (.int fi), some (.int la), some (.int zl), some (.int x), some (.ref xa), v9, some (.ref hl), v11, v12, v13, v14, some (.ref ca), some (.int hi), v17, v18, some (.ref p), v20, v21] H') →
    t D [some (.ref a), v1, some (.int lo), some (.int pe), some (.int fi), some (.int la), some (.int zl), some (.int x), some (.ref xa), v9, some (.ref hl), v11, v12, v13, v14, some (.ref ca), some (.int hi), v17, v18, some (.ref p), v20, v21] H := by
  have nd := scL.nd
  refine ⟨_, ps_if (pt_cmpR (op_neD hr.units) (pv 10) (pe_op op_rep (pe_lst (pa_cons (pe_ifExp (pt_cmpR op_in_seq (pv 7) (pv 8) (by rfl)) (pe_lst (pa_cons (pe_op op_fdiv (pe_op op_sub (pv 7) (pv 2)) (pv 3)) pa_nil)) (pe_tup (pa_cons pe_str (pa_cons pe_str pa_nil)))) pa_nil)) pe_int) (nomark _)) (pss_one (ps_ret pe_bl)) pss_nil, fun p pq a ca xa hl g1 g2 ns lo pe fi la hi zl zh x D H t0 r0 v1 v9 v11 v12 v13 v14 v17 v18 v20 v21 S ht dr hx hh d1 d2 k => ?_⟩
  have dr0 : 0 < pe := dr.p0
  have dr1 : pe < 1073741824 := by
    have z := dr.p1
    simp only at z
    omega
  refine ⟨_, rfl, _, rfl, _, rfl, xa, _, rfl, .inl (.inl (.inl hx)), rfl, flat_ints _, _, rfl, ?_⟩
  rw [show (if false = true then !inV (V.int x) ((xsC ⟨zl, zh, lo, hi, pe, fi, la⟩).map V.int) else inV (V.int x) ((xsC ⟨zl, zh, lo, hi, pe, fi, la⟩).map V.int)) = decide (x ∈ xsC ⟨zl, zh, lo, hi, pe, fi, la⟩) from inV_int _]
  refine ite2 (fun c => ?_) (fun c => ?_)
  · refine ⟨_, rfl, _, rfl, _, _, rfl, rfl, _, rfl, _, _, rfl, rfl, ⟨dr0, dr1⟩, by show 1 ≤ sizeLine; decide, fun l1 hl1 => ?_⟩
    have e1 := same_new hl1 (.lst [.int ((x - lo) / pe)])
    have q1 : Dh (upd H l1 (HO.lst [V.int ((x - lo) / pe)])) (.ref l1) (hdD ⟨zl, zh, lo, hi, pe, fi, la⟩ x) := by
      rw [show hdD ⟨zl, zh, lo, hi, pe, fi, la⟩ x = .list [.int ((x - lo) / pe)] from if_pos (of_decide_eq_true c)]
      exact .lst upd_same (by show 1 ≤ 100; decide) (.cons (.int _) .nil)
    generalize upd H l1 (HO.lst [V.int ((x - lo) / pe)]) = H1 at e1 q1 ⊢
    refine ⟨by show 1 ≤ sizeLine; decide, fun l2 hl2 => ?_⟩
    have e2 := same_new hl2 (.lst [.ref l1])
    have q2 : upd H1 l2 (HO.lst [V.ref l1]) l2 = some (.lst [.ref l1]) := upd_same
    generalize upd H1 l2 (HO.lst [V.ref l1]) = H2 at e2 q2 ⊢
    refine ⟨l2, 2, _, rfl, rfl, q2, by decide, by decide, by show 1 * 2 ≤ sizeLine; decide, fun l3 hl3 => ?_⟩
    have e3 := same_new hl3 (.lst (List.replicate (2 : Int).toNat [V.ref l1]).flatten)
    have q3 : upd H2 l3 (HO.lst (List.replicate (2 : Int).toNat [V.ref l1]).flatten) l3 = some (.lst [.ref l1, .ref l1]) := upd_same
    generalize upd H2 l3 (HO.lst (List.replicate (2 : Int).toNat [V.ref l1]).flatten) = H3 at e3 q3 ⊢
    have e13 : Same H1 H3 := e2.trans e3
    have eA : Same H H3 := e1.trans e13
    have dh1 : Dh H3 (.ref l1) (hdD ⟨zl, zh, lo, hi, pe, fi, la⟩ x) := Dh.same e13 _ _ q1
    refine ⟨.list [hdD ⟨zl, zh, lo, hi, pe, fi, la⟩ x, hdD ⟨zl, zh, lo, hi, pe, fi, la⟩ x], .list [hdD ⟨zl, zh, lo, hi, pe, fi, la⟩ x, hdD ⟨zl, zh, lo, hi, pe, fi, la⟩ x], Dh.dp _ _ (.lst (eA _ _ hh) (by show 2 ≤ 100; decide) (.cons (Dh.same eA _ _ d1.d) (.cons (Dh.same eA _ _ d2.d) .nil))), Dh.dp _ _ (.lst q3 (by show 2 ≤ 100; decide) (.cons dh1 (.cons dh1 .nil))), shaped_hd, shaped_hd, _, rfl, ?_⟩
    refine iteF' (eqv_same shaped_hd) ?_
    exact k t0 r0 H3 (S.same eA) (.same eA) rfl eA
  · refine ⟨by show 2 ≤ sizeLine; decide, fun l1 hl1 => ?_⟩
    have e1 := same_new hl1 (.tup [.str "number", .str "x"])
    have q1 : Dh (upd H l1 (HO.tup [V.str "number", V.str "x"])) (.ref l1) (hdD ⟨zl, zh, lo, hi, pe, fi, la⟩ x) := by
      rw [show hdD ⟨zl, zh, lo, hi, pe, fi, la⟩ x = .tuple [.str "number", .str "x"] from if_neg (fun z => c (decide_eq_true z))]
      exact .tup upd_same (by show 2 ≤ 100; decide) (.cons (.str _) (.cons (.str _) .nil))
    generalize upd H l1 (HO.tup [V.str "number", V.str "x"]) = H1 at e1 q1 ⊢
    refine ⟨by show 1 ≤ sizeLine; decide, fun l2 hl2 => ?_⟩
    have e2 := same_new hl2 (.lst [.ref l1])
    have q2 : upd H1 l2 (HO.lst [V.ref l1]) l2 = some (.lst [.ref l1]) := upd_same
    generalize upd H1 l2 (HO.lst [V.ref l1]) = H2 at e2 q2 ⊢
    refine ⟨l2, 2, _, rfl, rfl, q2, by decide, by decide, by show 1 * 2 ≤ sizeLine; decide, fun l3 hl3 => ?_⟩
    have e3 := same_new hl3 (.lst (List.replicate (2 : Int).toNat [V.ref l1]).flatten)
    have q3 : upd H2 l3 (HO.lst (List.replicate (2 : Int).toNat [V.ref l1]).flatten) l3 = some (.lst [.ref l1, .ref l1]) := upd_same
    generalize upd H2 l3 (HO.lst (List.replicate (2 : Int).toNat [V.ref l1]).flatten) = H3 at e3 q3 ⊢
    have e13 : Same H1 H3 := e2.trans e3
    have eA : Same H H3 := e1.trans e13
    have dh1 : Dh H3 (.ref l1) (hdD ⟨zl, zh, lo, hi, pe, fi, la⟩ x) := Dh.same e13 _ _ q1
    refine ⟨.list [hdD ⟨zl, zh, lo, hi, pe, fi, la⟩ x, hdD ⟨zl, zh, lo, hi, pe, fi, la⟩ x], .list [hdD ⟨zl, zh, lo, hi, pe, fi, la⟩ x, hdD ⟨zl, zh, lo, hi, pe, fi, la⟩ x], Dh.dp _ _ (.lst (eA _ _ hh) (by show 2 ≤ 100; decide) (.cons (Dh.same eA _ _ d1.d) (.cons (Dh.same eA _ _ d2.d) .nil))), Dh.dp _ _ (.lst q3 (by show 2 ≤ 100; decide) (.cons dh1 (.cons dh1 .nil))), shaped_hd, shaped_hd, _, rfl, ?_⟩
    refine iteF' (eqv_same shaped_hd) ?_
    exact k t0 r0 H3 (S.same eA) (.same eA) rfl eA
theorem st6 (T : TL Pr w base K mg PP CC CB CM fE) (hr : Room 12 (LX Pr w K mg base f cdv A outer s H0 E).A) (hg : (LX Pr w K mg base f cdv A outer s H0 E).A.guards = some []) (TH : TLh K mg CB CM) (TC : CodeL base mg cdv P) (hq : qn = (LX Pr w K mg base f cdv A outer s H0 E).env.qual ++ "<lambda>") : ∃ t, PS (LX Pr w K mg base f cdv A outer s H0 E) (tS 6) t ∧ ∀ (p pq a ca xa : Addr) (ns : List Int) (lo pe fi la hi zl zh : Int) (D : Ends) (H : Hp) (t0 r0 : Int) (v1 v7 v9 v10 v11 v12 v13 v14 v17 v18 v20 v21 : Option V), St7 P qn p pq ns H t0 r0 → t0 ≤ 1000 → Dr ⟨zl, zh, lo, hi, pe, fi, la⟩ → Ci K PP CC H ca ⟨zl, zh, lo, hi, pe, fi, la⟩ → H xa = some (.lst ((xsC ⟨zl, zh, lo, hi, pe, fi, la⟩).map V.int)) → xa ≠ p →
    (∀ (w7 w9 w10 : Option V) (t' r' : Int) (H' : Hp), St7 P qn p pq ns H' t' r' → Kx p H H' → t' = t0 →
      D.nx [some (.ref a), v1, some (.int lo), some (.int pe), some (.int fi), some (.int la), some (.int zl), w7, some (.ref xa), w9, w10, v11, v12, v13, v14, some (.ref ca), some (.int hi), v17, v18, some (.ref p), v20, v21] H') →
    t D [some (.ref a), v1, some (.int lo), some (.int pe), some (.int fi), some (.int la), some (.int zl), v7, some (.ref xa), v9, v10, v11, v12, v13, v14, some (.ref ca), some (.int hi), v17, v18, some (.ref p), v20, v21] H := by
  have nd := scL.nd
  obtain ⟨t1, P1, R1⟩ := st6a (f := f) (cdv := cdv) (A := A) (outer := outer) (s := s) (H0 := H0) (E := E) (P := P) (qn := qn) T hr hg
  obtain ⟨t2, P2, R2⟩ := st6b (f := f) (cdv := cdv) (A := A) (outer := outer) (s := s) (H0 := H0) (E := E) (P := P) (qn := qn) T hr TH TC hq
  obtain ⟨t3, P3, R3⟩ := st6c (f := f) (cdv := cdv) (A := A) (outer := outer) (s := s) (H0 := H0) (E := E) (P := P) (qn := qn) T hr
  refine ⟨_, ps_for PassesOwn.never rfl (pi_range2 (by rfl) T.n_range (pa_cons (pe_callB (call_max2 rfl) (by rfl) T.n_max (by decide +kernel) (pa_cons (pe_op op_sub (pv 2) pe_int) (pa_cons (pe_op op_sub pe_int (pe_op op_pow pe_int pe_int)) pa_nil))) (pa_cons (pe_callB (call_min2 rfl) (by rfl) T.n_min (by decide +kernel) (pa_cons (pe_op op_add (pv 16) pe_int) (pa_cons (pe_op op_add (pe_op op_pow pe_int pe_int) pe_int) pa_nil))) pa_nil))) (pg_name (i := 7) nd rfl (Or.inr rfl)) (pss_cons P1 (pss_cons P2 (pss_one P3))), fun p pq a ca xa ns lo pe fi la hi zl zh D H t0 r0 v1 v7 v9 v10 v11 v12 v13 v14 v17 v18 v20 v21 S ht dr ci hx nx k => ?_⟩
  have z0 := dr.l0; have z1 := dr.l1; have z3 := dr.p1; have z5 := dr.f1; have z6 := dr.f2; have z8 := dr.h1; have z7 := dr.h0; have z9 := dr.f0
  simp only at z0 z1 z3 z5 z6 z8 z7 z9
  refine ⟨_, rfl, _, _, rfl, rfl, _, _, rfl, rfl, ⟨by decide, by decide, by decide⟩, _, _, rfl, rfl, _, _, rfl, ?_⟩
  refine ⟨_, rfl, _, _, rfl, rfl, _, _, rfl, rfl, ⟨by decide, by decide, by decide⟩, _, _, rfl, rfl, _, _, rfl, ?_⟩
  have e39 : (2 : Int) ^ (39 : Int).toNat = 549755813888 := by decide
  rw [e39]
  generalize h1 : (if (0 : Int) - 549755813888 > lo - 4 then (0 : Int) - 549755813888 else lo - 4) = m1
  generalize h2 : (if (549755813888 : Int) + 1 < hi + 5 then (549755813888 : Int) + 1 else hi + 5) = m2
  have b1 : -549755813888 ≤ m1 ∧ m1 ≤ 549755813888 := by
    rw [← h1]
    split <;> omega
  have b2 : m2 ≤ 549755813889 ∧ -549755813888 ≤ m2 := by
    rw [← h2]
    split <;> omega
  refine ⟨m1, m2, rfl, ⟨by omega, by omega, by omega, by omega⟩, for_range (lo := m1) (n := (m2 - m1).toNat) (fun i σ H2 => ∃ w7 w9 w10 : Option V, σ = [some (.ref a), v1, some (.int lo), some (.int pe), some (.int fi), some (.int la), some (.int zl), w7, some (.ref xa), w9, w10, v11, v12, v13, v14, some (.ref ca), some (.int hi), v17, v18, some (.ref p), v20, v21] ∧ ∃ r1, St7 P qn p pq ns H2 t0 r1 ∧ Kx p H H2)
    ⟨_, _, _, rfl, r0, S, .refl⟩ ?_ ?_⟩
  · rintro i σ H2 hi2 ⟨w7, w9, w10, rfl, r1, S2, k2⟩
    have ci2 := ci.kx k2 S.lst
    have hx2 := k2.lst nx hx
    refine R1 _ _ _ _ _ _ _ _ _ _ _ _ _ _ _ _ _ _ _ _ _ _ _ _ _ _ _ _ _ S2 ht dr ci2 hx2 (by omega) (by omega) fun w9' t1' r1' H3 S3 k3 et er eS => ?_
    subst et er
    have ci3 := ci2.kx k3 S2.lst
    have hx3 := k3.lst nx hx2
    refine R2 _ _ _ _ _ _ _ _ _ _ _ _ _ _ _ _ _ _ _ _ _ _ _ _ _ _ _ _ _ S3 ht dr ci3 fun hl g1 g2 t2' r2' H4 S4 k4 et hh nh d1 d2 => ?_
    subst et
    have hx4 := k4.lst nx hx3
    refine R3 _ _ _ _ _ _ _ _ _ _ _ _ _ _ _ _ _ _ _ _ _ _ _ _ _ _ _ _ _ _ _ S4 ht dr hx4 hh d1 d2 fun t3' r3' H5 S5 k5 et eS2 => ?_
    subst et
    exact ⟨_, _, _, rfl, r3', S5, ((k2.trans k3).trans k4).trans k5⟩
  · rintro σ H2 ⟨w7, w9, w10, rfl, r1, S2, k2⟩
    exact k w7 w9 w10 t0 r1 H2 S2 k2 rfl
end
end My

set_option maxHeartbeats 8000000
namespace My
open PySem PySem.Spec PyProof.Rows L2 LamX
theorem cellB_ok {c : Ce} (dr : Dr c) : cellB c.ds = true := by
  have d0 := dr.l0; have d1 := dr.l1; have d2 := dr.p0; have d3 := dr.p1; have d4 := dr.f0; have d5 := dr.f1; have d6 := dr.f2; have d7 := dr.h0; have d8 := dr.h1
  have z0 := dr.z0; have z1 := dr.z1; have z2 := dr.z2; have z3 := dr.z3
  show ((decide (2 ≤ c.zl) && (decide (c.zl ≤ c.zh) && decide (c.zh ≤ 1048576))) && ((decide (-549755813888 ≤ c.lo) && (decide (c.lo ≤ c.hi) && decide (c.hi ≤ 549755813888))) && ((decide (0 ≤ c.fi) && (decide (c.fi ≤ c.la) && decide (c.la < c.pe))) && decide (c.lo + c.fi ≤ c.hi)))) = true
  rw [decide_eq_true z0, decide_eq_true z2, decide_eq_true (show c.zh ≤ 1048576 by omega), decide_eq_true d0, decide_eq_true (show c.lo ≤ c.hi by omega), decide_eq_true (show c.hi ≤ 549755813888 by omega), decide_eq_true d4, decide_eq_true d5, decide_eq_true d6, decide_eq_true d7]
  rfl
/-- the least x of each t -/
def cutL (c : Ce) (n : Nat) : List Int := (List.range n).map fun i : Nat => c.lo + c.fi + (i : Int) * c.pe
theorem cutL_succ (c : Ce) (n : Nat) : cutL c (n + 1) = cutL c n ++ [c.lo + c.fi + (n : Int) * c.pe] := by
  unfold cutL
  rw [List.range_succ, List.map_append]
  rfl
theorem cutL_len (c : Ce) (n : Nat) : (cutL c n).length = n := by
  unfold cutL
  rw [List.length_map, List.length_range]
theorem ne_self (v : V) : (!decide (v = v)) = false := by
  rw [decide_eq_true rfl]
  rfl
def scLc2 : Scope := { kind := .function, names := [(".0", .local), ("t", .cell), ("min", .globalImplicit), ("low", .cell), ("period", .cell), ("xs", .cell)], isGenerator := false, isCoroutine := false, more := [] }
section
variable {Pr : Program} {w : World} {K : PySem.W.Frag} {mg : Str → Option Value} {base : Heap} {f : Addr} {cdv : Value} {A : Around} {outer : List Env} {s : Shared} {H0 : Hp} {E : XK} {PP CC CB CM fE P : Addr} {qn : Str}
theorem st7 (T : TL Pr w base K mg PP CC CB CM fE) (hr : Room 12 (LX Pr w K mg base f cdv A outer s H0 E).A) : ∃ t, PS (LX Pr w K mg base f cdv A outer s H0 E) (tS 7) t ∧ ∀ (p pq a ca xa : Addr) (ns : List Int) (lo pe fi la hi zl zh : Int) (D : Ends) (H : Hp) (t0 r0 : Int) (v1 v7 v9 v10 v11 v12 v13 v14 v17 v18 v20 v21 : Option V), St7 P qn p pq ns H t0 r0 → t0 ≤ 1000 → Dr ⟨zl, zh, lo, hi, pe, fi, la⟩ → H xa = some (.lst ((xsC ⟨zl, zh, lo, hi, pe, fi, la⟩).map V.int)) →
    (∀  (t' r' : Int) (H' : Hp), St7 P qn p pq ns H' t' r' → Kx p H H' → t' = t0 → Same H H' →
      D.nx [some (.ref a), v1, some (.int lo), some (.int pe), some (.int fi), some (.int la), some (.int zl), v7, some (.ref xa), v9, v10, v11, v12, v13, v14, some (.ref ca), some (.int hi), some (.int (topC ⟨zl, zh, lo, hi, pe, fi, la⟩)), v18, some (.ref p), v20, v21] H') →
    t D [some (.ref a), v1, some (.int lo), some (.int pe), some (.int fi), some (.int la), some (.int zl), v7, some (.ref xa), v9, v10, v11, v12, v13, v14, some (.ref ca), some (.int hi), v17, v18, some (.ref p), v20, v21] H := by
  have nd := scL.nd
  refine ⟨_, ps_set (i := 17) nd rfl (Or.inr rfl) (pe_op op_fdiv (pe_op op_sub (pe_ix ix_list (pv 8) (pe_un un_neg pe_int) (fun _ _ => rfl)) (pv 2)) (pv 3)), fun p pq a ca xa ns lo pe fi la hi zl zh D H t0 r0 v1 v7 v9 v10 v11 v12 v13 v14 v17 v18 v20 v21 S ht dr hx k => ?_⟩
  obtain ⟨init, L, eL, tL⟩ := last_top dr
  have dr0 : 0 < pe := dr.p0
  have dr1 : pe < 1073741824 := by
    have z := dr.p1
    simp only at z
    omega
  refine ⟨_, rfl, _, rfl, xa, _, _, .int L, rfl, rfl, .inl (.inl hx), ?_, _, rfl, _, _, rfl, rfl, _, rfl, _, _, rfl, rfl, ⟨dr0, dr1⟩, ?_⟩
  · rw [eL, List.map_append]
    exact atI_last _ _
  have e : (L - lo) / pe = topC ⟨zl, zh, lo, hi, pe, fi, la⟩ := tL
  have kk := k t0 r0 H S .refl rfl (Same.refl H)
  rw [← e] at kk
  exact kk
theorem st9 (T : TL Pr w base K mg PP CC CB CM fE) (hr : Room 12 (LX Pr w K mg base f cdv A outer s H0 E).A) : ∃ t, PS (LX Pr w K mg base f cdv A outer s H0 E) (tS 9) t ∧ ∀ (p pq a ca xa : Addr) (ns : List Int) (lo pe fi la hi zl zh : Int) (D : Ends) (H : Hp) (t0 r0 : Int) (v1 v7 v9 v10 v11 v12 v13 v14 v18 v20 v21 : Option V), St7 P qn p pq ns H t0 r0 → t0 ≤ 1000 → Dr ⟨zl, zh, lo, hi, pe, fi, la⟩ → Ci K PP CC H ca ⟨zl, zh, lo, hi, pe, fi, la⟩ → H xa = some (.lst ((xsC ⟨zl, zh, lo, hi, pe, fi, la⟩).map V.int)) →
    (∀  (t' r' : Int) (H' : Hp), St7 P qn p pq ns H' t' r' → Kx p H H' → t' = t0 → Same H H' →
      D.nx [some (.ref a), v1, some (.int lo), some (.int pe), some (.int fi), some (.int la), some (.int zl), v7, some (.ref xa), v9, v10, v11, v12, v13, v14, some (.ref ca), some (.int hi), some (.int (topC ⟨zl, zh, lo, hi, pe, fi, la⟩)), v18, some (.ref p), v20, v21] H') →
    t D [some (.ref a), v1, some (.int lo), some (.int pe), some (.int fi), some (.int la), some (.int zl), v7, some (.ref xa), v9, v10, v11, v12, v13, v14, some (.ref ca), some (.int hi), some (.int (topC ⟨zl, zh, lo, hi, pe, fi, la⟩)), v18, some (.ref p), v20, v21] H := by
  have nd := scL.nd
  refine ⟨_, ps_if (pt_cmpR op_ne (pe_mk T.cutK (hr.mono (by decide)) pass_no (pv 15) (pk_cons pe_int pk_nil)) (pe_ix ix_list (pv 8) pe_int (fun _ _ => rfl)) (nomark _)) (pss_one (ps_ret pe_bl)) pss_nil, fun p pq a ca xa ns lo pe fi la hi zl zh D H t0 r0 v1 v7 v9 v10 v11 v12 v13 v14 v18 v20 v21 S ht dr ci hx k => ?_⟩
  obtain ⟨dx, b, ho, hb⟩ := id ci.ob
  obtain ⟨rest, eR⟩ := head_first dr
  have dr0 : 0 < pe := dr.p0
  have dr1 : pe < 1073741824 := by
    have z := dr.p1
    simp only at z
    omega
  have tn : (0 : Int) ≤ (hi - lo - fi) / pe := top_nn dr
  have hb0 : inB 0 ((hi - lo - fi) / pe) (.int 0) = true := by
    show (decide ((0 : Int) ≤ 0) && decide ((0 : Int) ≤ (hi - lo - fi) / pe)) = true
    rw [decide_eq_true (Int.le_refl 0), decide_eq_true tn]
    rfl
  refine ⟨_, rfl, ca, dx, _, rfl, ho, rfl, rfl, ca, CC, ⟨zl, zh, lo, hi, pe, fi, la⟩, .int 0, .int 0, rfl, ci.ce, ⟨dr0, dr1⟩, .int _, fun t' e _ => ?_, fun q => absurd hb0 (by rw [q]; decide)⟩
  cases e
  refine ⟨_, rfl, xa, _, _, .int (lo + fi), rfl, rfl, .inl (.inl hx), ?_, rfl, _, rfl, ?_⟩
  · rw [eR]
    exact atI_nat (j := 0) rfl
  have e0 : lo + fi + 0 * pe = lo + fi := by omega
  rw [show (V.int ((⟨zl, zh, lo, hi, pe, fi, la⟩ : Ce).lo + (⟨zl, zh, lo, hi, pe, fi, la⟩ : Ce).fi + 0 * (⟨zl, zh, lo, hi, pe, fi, la⟩ : Ce).pe)) = V.int (lo + fi) from congrArg V.int e0]
  refine iteF' (ne_self _) ?_
  exact k t0 r0 H S .refl rfl (Same.refl H)
end
end My

set_option maxHeartbeats 8000000
namespace My
open PySem PySem.Spec PyProof.Rows L2 LamX
section
variable {Pr : Program} {w : World} {K : PySem.W.Frag} {mg : Str → Option Value} {base : Heap} {f : Addr} {cdv : Value} {A : Around} {outer : List Env} {s : Shared} {H0 : Hp} {E : XK} {PP CC CB CM fE P : Addr} {qn : Str}
theorem st8 (T : TL Pr w base K mg PP CC CB CM fE) (hr : Room 12 (LX Pr w K mg base f cdv A outer s H0 E).A) (hg : (LX Pr w K mg base f cdv A outer s H0 E).A.guards = some []) : ∃ t, PS (LX Pr w K mg base f cdv A outer s H0 E) (tS 8) t ∧ ∀ (p pq a ca xa : Addr) (ns : List Int) (lo pe fi la hi zl zh : Int) (D : Ends) (H : Hp) (t0 r0 : Int) (v1 v7 v9 v10 v11 v12 v13 v14 v18 v20 v21 : Option V), St7 P qn p pq ns H t0 r0 → t0 ≤ 1000 → Dr ⟨zl, zh, lo, hi, pe, fi, la⟩ → Ci K PP CC H ca ⟨zl, zh, lo, hi, pe, fi, la⟩ → H xa = some (.lst ((xsC ⟨zl, zh, lo, hi, pe, fi, la⟩).map V.int)) →
    (∀  (t' r' : Int) (H' : Hp), St7 P qn p pq ns H' t' r' → Kx p H H' → t' = t0 → Same H H' →
      D.nx [some (.ref a), v1, some (.int lo), some (.int pe), some (.int fi), some (.int la), some (.int zl), v7, some (.ref xa), v9, v10, v11, v12, v13, v14, some (.ref ca), some (.int hi), some (.int (topC ⟨zl, zh, lo, hi, pe, fi, la⟩)), v18, some (.ref p), v20, v21] H') →
    t D [some (.ref a), v1, some (.int lo), some (.int pe), some (.int fi), some (.int la), some (.int zl), v7, some (.ref xa), v9, v10, v11, v12, v13, v14, some (.ref ca), some (.int hi), some (.int (topC ⟨zl, zh, lo, hi, pe, fi, la⟩)), v18, some (.ref p), v20, v21] H := by
  have nd := scL.nd
  refine ⟨_, ps_if (PW.pt (pw_or (pt_cmpR op_ne (pe_callB (call_reprD hg (by have := hr.un; omega)) (by rfl) T.n_repr (by decide +kernel) (pa_cons (pe_lst (pa_cons (pe_fa T.top (hr.mono (by decide)) pass_no (by rfl) (pa_cons (pv 15) pa_nil)) (pa_cons (pe_fk T.topK (hr.mono (by decide)) pass_no (by rfl) (pk_cons (pv 15) pk_nil)) pa_nil))) pa_nil)) (pe_callB (call_reprD hg (by have := hr.un; omega)) (by rfl) T.n_repr (by decide +kernel) (pa_cons (pe_op op_rep (pe_lst (pa_cons (pv 17) pa_nil)) pe_int) pa_nil)) (nomark _)) (pw_or1 (pt_cmpR (op_neD hr.units) (pe_lc (own := [("t", 21)]) (g := gName 21) (tt := tYes) rfl nd (pi_range1 (by rfl) T.n_range (pa_cons (pe_op op_add (pv 17) pe_int) pa_nil)) (blkOk_by (N := NL) (sc := defScope sLaw) (by decide +kernel)) (fun _ _ _ _ _ => pg_name (i := 21) nd rfl (Or.inl rfl)) (fun _ _ _ _ _ => pts_nil) (fun _ _ _ _ _ => pe_ma T.cut (hr.mono (by decide)) pass_no (pv 15) (pa_cons (pv 21) pa_nil))) (pe_lc (te := tCB (rMin K) (tCons (tLc (iList K (tVar 8)) (gName 7) _ (tVar 7) [7]) tNil)) (own := [("t", 21)]) (g := gName 21) (tt := tYes) rfl nd (pi_range1 (by rfl) T.n_range (pa_cons (pe_op op_add (pv 17) pe_int) pa_nil)) (blkOk_by (N := NL) (sc := defScope sLaw) (by decide +kernel)) (fun _ _ _ _ _ => pg_name (i := 21) nd rfl (Or.inr rfl)) (fun _ _ _ _ _ => pts_nil) (fun _ _ _ _ _ => pe_callB (cr_min rfl) (by rfl) T.n_min (by decide +kernel) (pa_cons (pe_lc (own := [("x", 7)]) (g := gName 7) rfl nd (pi_list (pv 8)) (blkOk_by (N := NL) (sc := scLc2) (by decide +kernel)) (fun _ _ _ _ _ => pg_name (i := 7) nd rfl (Or.inl rfl)) (fun _ _ _ _ _ => pts_one (pt_cmpR op_eq (pe_op op_fdiv (pe_op op_sub (pv 7) (pv 2)) (pv 3)) (pv 21) (nomark _))) (fun _ _ _ _ _ => pv 7)) pa_nil))) (nomark _))))) (pss_one (ps_ret pe_bl)) pss_nil, fun p pq a ca xa ns lo pe fi la hi zl zh D H t0 r0 v1 v7 v9 v10 v11 v12 v13 v14 v18 v20 v21 S ht dr ci hx k => ?_⟩
  have dr0 : 0 < pe := dr.p0
  have dr1 : pe < 1073741824 := by
    have z := dr.p1
    simp only at z
    omega
  have tn := top_nn dr
  have tl := top_le dr
  have cok := cellB_ok dr
  refine ⟨_, rfl, _, rfl, .inr ⟨ca, _, rfl, ci.cel, T.kC, fun q => absurd cok (by rw [q]; decide), fun _ => ⟨_, _, _, _, _, _, _, rfl, ⟨dr0, dr1⟩, fun H1 s1 => ?_⟩⟩⟩
  have ci1 := ci.kx (.same s1) S.lst
  refine ⟨_, rfl, rfl, _, rfl, .inr ⟨ca, _, rfl, ci1.cel, T.kC, fun q => absurd cok (by rw [q]; decide), fun _ => ⟨_, _, _, _, _, _, _, rfl, ⟨dr0, dr1⟩, fun H2 s2 => ?_⟩⟩⟩
  refine ⟨by show 2 ≤ sizeLine; decide, fun l1 hl1 => ?_⟩
  have s3 := same_new hl1 (.lst [.int ((hi - lo - fi) / pe), .int ((hi - lo - fi) / pe)])
  have q3 : upd H2 l1 (HO.lst [V.int ((hi - lo - fi) / pe), V.int ((hi - lo - fi) / pe)]) l1 = some (.lst [.int (topC ⟨zl, zh, lo, hi, pe, fi, la⟩), .int (topC ⟨zl, zh, lo, hi, pe, fi, la⟩)]) := upd_same
  generalize upd H2 l1 (HO.lst [V.int ((hi - lo - fi) / pe), V.int ((hi - lo - fi) / pe)]) = H3 at s3 q3 ⊢
  refine ⟨.ref l1, .list [.int (topC ⟨zl, zh, lo, hi, pe, fi, la⟩), .int (topC ⟨zl, zh, lo, hi, pe, fi, la⟩)], rfl, dh_two q3 (.int _), dz_two (small_atom _ (by omega) (by omega)), ?_⟩
  refine ⟨_, rfl, by show 1 ≤ sizeLine; decide, fun l2 hl2 => ?_⟩
  refine ⟨l2, 2, _, rfl, rfl, upd_same, by decide, by decide, by show 1 * 2 ≤ sizeLine; decide, fun l3 hl3 => ?_⟩
  refine ⟨.ref l3, .list [.int (topC ⟨zl, zh, lo, hi, pe, fi, la⟩), .int (topC ⟨zl, zh, lo, hi, pe, fi, la⟩)], rfl, dh_two upd_same (.int _), dz_two (small_atom _ (by omega) (by omega)), rfl, _, rfl, ?_⟩
  refine iteF' (ne_self _) ?_
  have s5 := (same_new hl2 (.lst [.int (topC ⟨zl, zh, lo, hi, pe, fi, la⟩)])).trans (same_new hl3 (.lst (List.replicate (2 : Int).toNat [V.int (topC ⟨zl, zh, lo, hi, pe, fi, la⟩)]).flatten))
  generalize upd (upd H3 l2 (HO.lst [V.int (topC ⟨zl, zh, lo, hi, pe, fi, la⟩)])) l3 (HO.lst (List.replicate (2 : Int).toNat [V.int (topC ⟨zl, zh, lo, hi, pe, fi, la⟩)]).flatten) = H5 at s5 ⊢
  have sH : Same H H5 := ((s1.trans s2).trans s3).trans s5
  have nn : (topC ⟨zl, zh, lo, hi, pe, fi, la⟩ + 1).toNat ≤ 50 := by omega
  refine ⟨_, rfl, _, _, rfl, rfl, _, rfl, by omega, by omega, fun D1 hD1 => lc_range (lo := 0) (n := (topC ⟨zl, zh, lo, hi, pe, fi, la⟩ + 1).toNat) (fun i H6 => H6 D1 = some (.lst ((cutL ⟨zl, zh, lo, hi, pe, fi, la⟩ i).map V.int)) ∧ Same H5 H6) ⟨upd_same, same_new hD1 _⟩ ?_ ?_⟩
  · rintro i H6 hi6 ⟨hD6, e6⟩
    refine ⟨rfl, ?_⟩
    have ci6 := ci.kx (.same (sH.trans e6)) S.lst
    obtain ⟨dx6, b6, o6, hb6⟩ := id ci6.ob
    have it : ((0 : Int) + (i : Int)) ≤ topC ⟨zl, zh, lo, hi, pe, fi, la⟩ := by omega
    have hb0 : inB 0 ((hi - lo - fi) / pe) (.int ((0 : Int) + (i : Int))) = true := by
      show (decide ((0 : Int) ≤ 0 + (i : Int)) && decide ((0 : Int) + (i : Int) ≤ (hi - lo - fi) / pe)) = true
      rw [decide_eq_true (show (0 : Int) ≤ 0 + (i : Int) by omega), decide_eq_true (show (0 : Int) + (i : Int) ≤ (hi - lo - fi) / pe from it)]
      rfl
    refine ⟨_, rfl, ca, dx6, _, rfl, o6, rfl, _, rfl, ca, CC, ⟨zl, zh, lo, hi, pe, fi, la⟩, .int _, .int _, rfl, ci6.ce, ⟨dr0, dr1⟩, .int _, fun t' e _ => ?_, fun q => absurd hb0 (by rw [q]; decide)⟩
    cases e
    refine ⟨_, hD6, ?_, ?_, ?_⟩
    · rw [List.length_map, cutL_len]
      have z : i ≤ 50 := by omega
      exact Nat.lt_of_le_of_lt z (by decide)
    · rw [upd_same, cutL_succ, List.map_append]
      show some (HO.lst (_ ++ [V.int (lo + fi + (0 + (i : Int)) * pe)])) = some (HO.lst (_ ++ [V.int (lo + fi + (i : Int) * pe)]))
      rw [Int.zero_add]
    · exact fun b o hb => by rw [upd_ne (ne_of_none hb hD1)]; exact e6 _ _ hb
  rintro H6 ⟨hD6, e6⟩
  refine ⟨_, rfl, _, _, rfl, rfl, _, rfl, by omega, by omega, fun D2 hD2 => lc_range (lo := 0) (n := (topC ⟨zl, zh, lo, hi, pe, fi, la⟩ + 1).toNat) (fun i H7 => H7 D2 = some (.lst ((cutL ⟨zl, zh, lo, hi, pe, fi, la⟩ i).map V.int)) ∧ Same H6 H7) ⟨upd_same, same_new hD2 _⟩ ?_ ?_⟩
  · rintro i H7 hi7 ⟨hD7, e7⟩
    refine ⟨rfl, ?_⟩
    have it : (i : Int) ≤ topC ⟨zl, zh, lo, hi, pe, fi, la⟩ := by omega
    have hx7 : H7 xa = some (.lst ((xsC ⟨zl, zh, lo, hi, pe, fi, la⟩).map V.int)) := (sH.trans (e6.trans e7)) _ _ hx
    have fS : ∀ j y, (xsC ⟨zl, zh, lo, hi, pe, fi, la⟩)[j]? = some y → ((xsC ⟨zl, zh, lo, hi, pe, fi, la⟩).take (j + 1)).filter (fun y => decide (V.int ((y - lo) / pe) = V.int (0 + (i : Int)))) = ((xsC ⟨zl, zh, lo, hi, pe, fi, la⟩).take j).filter (fun y => decide (V.int ((y - lo) / pe) = V.int (0 + (i : Int)))) ++ (if decide (V.int ((y - lo) / pe) = V.int (0 + (i : Int))) = true then [y] else []) := fun j y hy => by
      rw [take_succ' hy, List.filter_append]
      congr 1
      by_cases q : decide (V.int ((y - lo) / pe) = V.int (0 + (i : Int))) = true
      · rw [if_pos q, List.filter_cons, if_pos q]
        rfl
      · rw [if_neg q, List.filter_cons, if_neg q]
        rfl
    have xl : (xsC ⟨zl, zh, lo, hi, pe, fi, la⟩).length ≤ 100 := by
      have z : (xsI ⟨zl, zh, lo, hi, pe, fi, la⟩ (hi + 1 - lo).toNat).length ≤ (hi + 1 - lo).toNat := xsI_len _ _
      have d7 := dr.h0; have d8 := dr.h1; have d4 := dr.f0; have d5 := dr.f1; have d6 := dr.f2; have d3 := dr.p1
      simp only at d7 d8 d4 d5 d6 d3
      exact Nat.le_trans z (by omega)
    refine ⟨_, rfl, xa, rfl, ⟨_, .inl (.inl hx7)⟩, fun D3 hD3 => lc_list (xs := (xsC ⟨zl, zh, lo, hi, pe, fi, la⟩).map V.int) (fun j H8 => H8 D3 = some (.lst ((((xsC ⟨zl, zh, lo, hi, pe, fi, la⟩).take j).filter (fun y => decide (V.int ((y - lo) / pe) = V.int (0 + (i : Int))))).map V.int)) ∧ Same H7 H8) ⟨upd_same, same_new hD3 _⟩ (fun j H8 _ ⟨_, e8⟩ => .inl (.inl (e8 _ _ hx7))) ?_ ?_⟩
    · rintro j v H8 hv ⟨hD8, e8⟩
      rw [List.getElem?_map] at hv
      cases ey : (xsC ⟨zl, zh, lo, hi, pe, fi, la⟩)[j]? with
      | none =>
        rw [ey] at hv
        cases hv
      | some y =>
        rw [ey] at hv
        have hv2 : V.int y = v := Option.some.inj hv
        subst hv2
        refine ⟨rfl, ?_⟩
        refine ⟨_, rfl, _, rfl, _, _, rfl, rfl, _, rfl, _, _, rfl, rfl, ⟨dr0, dr1⟩, _, rfl, rfl, _, rfl, ?_⟩
        have fs := fS j y ey
        refine ite2 (fun c => ?_) (fun c => ?_)
        · rw [if_pos (show decide (V.int ((y - lo) / pe) = V.int (0 + (i : Int))) = true from c)] at fs
          refine ⟨_, rfl, _, hD8, ?_, ?_, ?_⟩
          · rw [List.length_map]
            refine Nat.lt_of_le_of_lt (List.length_filter_le _ _) ?_
            rw [List.length_take]
            exact Nat.lt_of_le_of_lt (Nat.le_trans (Nat.min_le_right _ _) xl) (by decide)
          · rw [upd_same, fs, List.map_append]
            rfl
          · exact fun b o hb => by rw [upd_ne (ne_of_none hb hD3)]; exact e8 _ _ hb
        · rw [if_neg (show ¬ decide (V.int ((y - lo) / pe) = V.int (0 + (i : Int))) = true from c), List.append_nil] at fs
          refine ⟨?_, e8⟩
          rw [hD8, fs]
    · rintro H8 ⟨hD8, e8⟩
      rw [List.length_map, List.take_length] at hD8
      obtain ⟨m1, m2⟩ := at_mem dr (show (0 : Int) ≤ (i : Int) by omega) it
      have mF : ∀ y : Int, y ∈ (xsC ⟨zl, zh, lo, hi, pe, fi, la⟩).filter (fun y => decide (V.int ((y - lo) / pe) = V.int (0 + (i : Int)))) ↔ y ∈ xsC ⟨zl, zh, lo, hi, pe, fi, la⟩ ∧ (y - lo) / pe = (i : Int) := fun y => by
        rw [List.mem_filter, decide_eq_true_iff, Int.zero_add]
        constructor
        · rintro ⟨q1, q2⟩
          injection q2 with q3
          exact ⟨q1, q3⟩
        · rintro ⟨q1, q2⟩
          exact ⟨q1, by rw [q2]⟩
      have hm : lo + fi + (i : Int) * pe ∈ (xsC ⟨zl, zh, lo, hi, pe, fi, la⟩).filter (fun y => decide (V.int ((y - lo) / pe) = V.int (0 + (i : Int)))) := (mF _).mpr ⟨m1, m2⟩
      refine ⟨D3, _, rfl, .inl (.inl hD8), List.length_pos_of_mem hm, fun m hmm hle => ?_⟩
      obtain ⟨q1, q2⟩ := (mF m).mp hmm
      have em : m = lo + fi + (i : Int) * pe := Int.le_antisymm (hle _ hm) (at_least dr q1 q2)
      refine ⟨_, e8 _ _ hD7, ?_, ?_, ?_⟩
      · rw [List.length_map, cutL_len]
        have z : i ≤ 50 := by omega
        exact Nat.lt_of_le_of_lt z (by decide)
      · rw [upd_same, cutL_succ, List.map_append, em]
        rfl
      · exact fun b o hb => by rw [upd_ne (ne_of_none hb hD2)]; exact e8 _ _ (e7 _ _ hb)
  · rintro H7 ⟨hD7, e7⟩
    have sA : Same H H7 := sH.trans (e6.trans e7)
    refine ⟨.list ((cutL ⟨zl, zh, lo, hi, pe, fi, la⟩ (topC ⟨zl, zh, lo, hi, pe, fi, la⟩ + 1).toNat).map PyData.int), .list ((cutL ⟨zl, zh, lo, hi, pe, fi, la⟩ (topC ⟨zl, zh, lo, hi, pe, fi, la⟩ + 1).toNat).map PyData.int), .lst (.inl (.inl (e7 _ _ hD6))) (dp_ints _ _ _), .lst (.inl (.inl hD7)) (dp_ints _ _ _), shaped_ints _, shaped_ints _, _, rfl, ?_⟩
    refine iteF' (eqv_same (shaped_ints _)) ?_
    exact k t0 r0 H7 (S.same sA) (.same sA) rfl sA
end
end My

set_option maxHeartbeats 8000000
namespace My
open PySem PySem.Spec PyProof.Rows L2 LamX
def flatD : PyData → Bool
  | .list _ => false
  | .tuple _ => false
  | .dict _ => false
  | _ => true
theorem dh_flat {H H' : Hp} {v : V} {d : PyData} (h : Dh H v d) (f : flatD d = true) : Dh H' v d := by
  cases h with
  | non => exact .non
  | bl b => exact .bl b
  | int i => exact .int i
  | str x => exact .str x
  | lst _ _ _ => cases f
  | tup _ _ _ => cases f
theorem dhAll_flat {H H' : Hp} : ∀ {ds : List PyData} {xs : List V}, DhAll H xs ds → ds.all flatD = true → DhAll H' xs ds
  | _, _, .nil, _ => .nil
  | d :: ds, _, .cons h r, f => by
    have f2 : (flatD d && ds.all flatD) = true := f
    exact .cons (dh_flat h (Bool.and_eq_true_iff.mp f2).1) (dhAll_flat r (Bool.and_eq_true_iff.mp f2).2)
/-- all but p, l and the tables -/
def Ky (p l : Addr) (H H' : Hp) : Prop := ∀ b o, b ≠ p → b ≠ l → (∀ ps, o ≠ .tbl ps) → H b = some o → H' b = some o
theorem Ky.kx {p l : Addr} {H H' : Hp} (e : Kx p H H') : Ky p l H H' := fun b o n _ m h => e b o n m h
theorem Ky.trans {p l : Addr} {H H1 H2 : Hp} (a : Ky p l H H1) (b : Ky p l H1 H2) : Ky p l H H2 := fun c o n k m h => b c o n k m (a c o n k m h)
theorem Ky.at {p l : Addr} {H : Hp} {o : HO} : Ky p l H (upd H l o) := fun b u _ k _ h => by
  rw [upd_ne k]
  exact h
theorem Ky.tup {p l t : Addr} {H H' : Hp} {xs : List V} (e : Ky p l H H') (st : ∃ ys, H p = some (.lst ys)) (sl : ∃ ys, H l = some (.lst ys)) (h : H t = some (.tup xs)) : H' t = some (.tup xs) := by
  obtain ⟨ys, hp⟩ := st
  obtain ⟨zs, hl⟩ := sl
  exact e _ _ (fun z => by rw [z, hp] at h; cases h) (fun z => by rw [z, hl] at h; cases h) (fun _ z => nomatch z) h
theorem Ky.ins {p l a C dx : Addr} {fs : List (Str × V)} {H H' : Hp} (e : Ky p l H H') (st : ∃ ys, H p = some (.lst ys)) (sl : ∃ ys, H l = some (.lst ys)) (h : H a = some (.ins C dx fs)) : H' a = some (.ins C dx fs) := by
  obtain ⟨ys, hp⟩ := st
  obtain ⟨zs, hl⟩ := sl
  exact e _ _ (fun z => by rw [z, hp] at h; cases h) (fun z => by rw [z, hl] at h; cases h) (fun _ z => nomatch z) h
theorem Ci.ky {K : PySem.W.Frag} {PP CC p l : Addr} {H H' : Hp} {a : Addr} {c : Ce} (h : Ci K PP CC H a c) (e : Ky p l H H') (st : ∃ ys, H p = some (.lst ys)) (sl : ∃ ys, H l = some (.lst ys)) : Ci K PP CC H' a c := by
  obtain ⟨dx, b, o, t⟩ := h.ob
  exact ⟨h.pc, h.na, dx, b, e.ins st sl o, e.tup st sl t⟩
/-- a cell of flat things -/
structure Cf (K : PySem.W.Frag) (PP CC : Addr) (H : Hp) (a : Addr) (ds : List PyData) : Prop where
  pc : PapC K PP CC "Cell"
  na : ∀ f ∈ cNames, NoAttr K CC f
  ob : ∃ dx b x0 x1 x2 x3 x4 x5 x6, H a = some (.ins CC dx (cfs "cell" (.ref b) x0 x1 x2 x3 x4 x5 x6)) ∧ H b = some (.tup [x0, x1, x2, x3, x4, x5, x6]) ∧ ∀ H', DhAll H' [x0, x1, x2, x3, x4, x5, x6] ds
theorem Cf.of {K : PySem.W.Frag} {PP CC : Addr} {H : Hp} {a : Addr} {ds : List PyData} (h : CelAt K PP CC H a ds) (f : ds.all flatD = true) : Cf K PP CC H a ds := by
  obtain ⟨dx, b, x0, x1, x2, x3, x4, x5, x6, o, t, d⟩ := h.ob
  exact ⟨h.c, h.na, dx, b, x0, x1, x2, x3, x4, x5, x6, o, t, fun H' => dhAll_flat d f⟩
theorem Cf.cel {K : PySem.W.Frag} {PP CC : Addr} {H : Hp} {a : Addr} {ds : List PyData} (h : Cf K PP CC H a ds) : CelAt K PP CC H a ds := by
  obtain ⟨dx, b, x0, x1, x2, x3, x4, x5, x6, o, t, d⟩ := h.ob
  exact ⟨h.pc, h.na, dx, b, x0, x1, x2, x3, x4, x5, x6, o, t, d H⟩
theorem Cf.kx {K : PySem.W.Frag} {PP CC p : Addr} {H H' : Hp} {a : Addr} {ds : List PyData} (h : Cf K PP CC H a ds) (e : Kx p H H') (st : ∃ ys, H p = some (.lst ys)) : Cf K PP CC H' a ds := by
  obtain ⟨dx, b, x0, x1, x2, x3, x4, x5, x6, o, t, d⟩ := h.ob
  exact ⟨h.pc, h.na, dx, b, x0, x1, x2, x3, x4, x5, x6, e.ins st o, e.tup st t, d⟩
section
variable {Pr : Program} {w : World} {K : PySem.W.Frag} {mg : Str → Option Value} {base : Heap} {f : Addr} {cdv : Value} {A : Around} {outer : List Env} {s : Shared} {H0 : Hp} {E : XK} {PP CC CB CM fE P : Addr} {qn : Str}
theorem st10 (T : TL Pr w base K mg PP CC CB CM fE) (hr : Room 12 (LX Pr w K mg base f cdv A outer s H0 E).A) : ∃ t, PS (LX Pr w K mg base f cdv A outer s H0 E) (tS 10) t ∧ ∀ (p pq a ca : Addr) (ns : List Int) (lo pe fi la hi zl zh : Int) (D : Ends) (H : Hp) (t0 r0 : Int) (v1 v7 v8 v9 v10 v11 v12 v13 v14 v18 v20 v21 : Option V), St7 P qn p pq ns H t0 r0 → t0 ≤ 1000 → 
    (∀ (vb vn : V) (db dn : PyData) (t' r' : Int) (H' : Hp), St7 P qn p pq ns H' t' r' → Kx p H H' → t' ≤ t0 + 2 → (∀ H, Dh H vb db) → (∀ H, Dh H vn dn) → inB (-549755813888) 549755813888 db = false → inB 2 1048576 dn = false →
      D.nx [some (.ref a), v1, some (.int lo), some (.int pe), some (.int fi), some (.int la), some (.int zl), v7, v8, v9, v10, v11, v12, v13, some (vb), some (.ref ca), some (.int hi), some (.int (topC ⟨zl, zh, lo, hi, pe, fi, la⟩)), some (vn), some (.ref p), v20, v21] H') →
    t D [some (.ref a), v1, some (.int lo), some (.int pe), some (.int fi), some (.int la), some (.int zl), v7, v8, v9, v10, v11, v12, v13, v14, some (.ref ca), some (.int hi), some (.int (topC ⟨zl, zh, lo, hi, pe, fi, la⟩)), v18, some (.ref p), v20, v21] H := by
  have nd := scL.nd
  refine ⟨_, ps_asg (pe_tup (pa_cons (pe_fa T.pick (hr.mono (by decide)) pass0 (by rfl) (pa_cons (pv 19) (pa_cons (pe_lst (pa_cons pe_non (pa_cons (pe_op op_add (pe_op op_pow pe_int pe_int) pe_int) (pa_cons pe_bl (pa_cons pe_str pa_nil))))) pa_nil))) (pa_cons (pe_fa T.pick (hr.mono (by decide)) pass0 (by rfl) (pa_cons (pv 19) (pa_cons (pe_lst (pa_cons pe_non (pa_cons pe_int (pa_cons (pe_op op_add (pe_op op_pow pe_int pe_int) pe_int) (pa_cons pe_bl pa_nil))))) pa_nil))) pa_nil))) (pg_tup rfl (pgs_cons (pg_name (i := 14) nd rfl (Or.inr rfl)) (pgs_cons (pg_name (i := 18) nd rfl (Or.inr rfl)) pgs_nil))), fun p pq a ca ns lo pe fi la hi zl zh D H t0 r0 v1 v7 v8 v9 v10 v11 v12 v13 v14 v18 v20 v21 S ht  k => ?_⟩
  have e39 : (2 : Int) ^ (39 : Int).toNat = 549755813888 := by decide
  have e20 : (2 : Int) ^ (20 : Int).toNat = 1048576 := by decide
  refine ⟨_, rfl, _, _, rfl, rfl, ⟨by decide, by decide, by decide⟩, _, _, rfl, rfl, by show 4 ≤ sizeLine; decide, fun l hl => ?_⟩
  rw [e39]
  have as : Same H (upd H l (.lst [.non, .int (549755813888 + 1), .bl true, .str "1"])) := same_new hl _
  have aq : upd H l (HO.lst [V.non, V.int (549755813888 + 1), V.bl true, V.str "1"]) l = some (.lst [.non, .int (549755813888 + 1), .bl true, .str "1"]) := upd_same
  generalize upd H l (HO.lst [V.non, V.int (549755813888 + 1), V.bl true, V.str "1"]) = H1 at as aq ⊢
  have S1 := S.same as
  refine ⟨p, pq, l, ns, t0, r0, _, rfl, S1.pen, aq, new_ne S.lst hl, by simp, by show 4 ≤ 1000; decide, by omega, fun x vb t1 r1 H2 hv b1 b2 b3 sm2 hp2 => ?_⟩
  have S2 := S1.draw sm2 hp2 b1 (by omega) b3
  have k2 : Kx p H H2 := (Kx.same as).trans (.sm sm2)
  have hb : ∃ db : PyData, (∀ H, Dh H vb db) ∧ inB (-549755813888) 549755813888 db = false := by
    match x, hv with
    | 0, hv => cases hv; exact ⟨_, fun _ => .non, rfl⟩
    | 1, hv => cases hv; exact ⟨_, fun _ => .int _, by decide⟩
    | 2, hv => cases hv; exact ⟨_, fun _ => .bl _, rfl⟩
    | 3, hv => cases hv; exact ⟨_, fun _ => .str _, rfl⟩
  obtain ⟨db, h1, h2⟩ := hb
  refine ⟨_, rfl, _, _, rfl, rfl, ⟨by decide, by decide, by decide⟩, _, _, rfl, rfl, by show 4 ≤ sizeLine; decide, fun l2 hl2 => ?_⟩
  rw [e20]
  have cs : Same H2 (upd H2 l2 (.lst [.non, .int 1, .int (1048576 + 1), .bl true])) := same_new hl2 _
  have cq : upd H2 l2 (HO.lst [V.non, V.int 1, V.int (1048576 + 1), V.bl true]) l2 = some (.lst [.non, .int 1, .int (1048576 + 1), .bl true]) := upd_same
  generalize upd H2 l2 (HO.lst [V.non, V.int 1, V.int (1048576 + 1), V.bl true]) = H3 at cs cq ⊢
  have S3 := S2.same cs
  refine ⟨p, pq, l2, ns, t1, r1, _, rfl, S3.pen, cq, new_ne S2.lst hl2, by simp, by show 4 ≤ 1000; decide, by omega, fun y vn t2 r2 H4 hv2 d1 d2 d3 sm4 hp4 => ?_⟩
  have S4 := S3.draw sm4 hp4 d1 (by omega) d3
  have k4 : Kx p H H4 := (k2.trans (.same cs)).trans (.sm sm4)
  have hn : ∃ dn : PyData, (∀ H, Dh H vn dn) ∧ inB 2 1048576 dn = false := by
    match y, hv2 with
    | 0, hv => cases hv; exact ⟨_, fun _ => .non, rfl⟩
    | 1, hv => cases hv; exact ⟨_, fun _ => .int _, by decide⟩
    | 2, hv => cases hv; exact ⟨_, fun _ => .int _, by decide⟩
    | 3, hv => cases hv; exact ⟨_, fun _ => .bl _, rfl⟩
  obtain ⟨dn, h3, h4⟩ := hn
  refine ⟨by show 2 ≤ sizeLine; decide, fun u hu => ?_⟩
  refine ⟨u, _, rfl, .inl (.inl upd_same), rfl, _, _, rfl, _, _, rfl, rfl, ?_⟩
  exact k vb vn db dn t2 r2 _ (S4.same (same_new hu _)) (k4.trans (.new hu _)) (by omega) h1 h3 h2 h4
end
end My

set_option maxHeartbeats 8000000
namespace My
open PySem PySem.Spec PyProof.Rows L2 LamX
section
variable {K : PySem.W.Frag} {PP CC CB CM P : Addr}
theorem has_read {c : Ce} {H : Hp} {t0 r0 : Int} {p pq ca : Addr} {ns : List Int} {qn W : Str} {σ : L2.St} {tx tz : TE} {vx vz : V} {dx dz : PyData} (dr : 0 < c.pe) (ci : Ci K PP CC H ca c) (S : St7 P qn p pq ns H t0 r0) (h15 : σ[15]? = some (some (.ref ca))) (hx : ∀ H, Rd tx σ H vx) (hz : ∀ H, Rd tz σ H vz)
    (hv : ∀ H, Dh H vx dx) (hw : ∀ H, Dh H vz dz) (hW : (inB (-549755813888) 549755813888 dx = false ∧ W = "x") ∨ (inB (-549755813888) 549755813888 dx = true ∧ inB 2 1048576 dz = false ∧ W = "z")) :
    tLam [(P, qn)] (THr CB CM) (fun E => tMeth CC "has" (spHas K CB) [] E (tVar 15) (tCons tx (tCons tz tNil))) σ H (fun v H' => ∃ r, v = .ref r ∧ Kx p H H' ∧ St7 P qn p pq ns H' t0 r0 ∧ H' r = some (.tup [.str "number", .str W])) := by
  refine ⟨S.tab, fun A1 eA tA u hu => ?_⟩
  have SA := (S.ext eA tA).same (same_new hu (.tup [.non, .non]))
  have kA : Kx p H (upd A1 u (.tup [.non, .non])) := (Kx.ext eA).trans (.new hu _)
  generalize upd A1 u (HO.tup [V.non, V.non]) = B at SA kA ⊢
  have ci1 := ci.kx kA S.lst
  obtain ⟨dx1, b1, o1, hb1⟩ := id ci1.ob
  have fin : ∀ dxe, B dxe = none → EchR CB CM (fun v H' => ∃ r, v = .ref r ∧ Kx p H H' ∧ St7 P qn p pq ns H' t0 r0 ∧ H' r = some (.tup [.str "number", .str W])) (.ref CB) (some dxe) (upd B dxe (exd dxe [("part", .str W)])) := fun dxe hdxe =>
    ⟨dxe, .str W, rfl, upd_same, .inl ⟨rfl, fun t H2 sm ht hn => ⟨t, rfl, (kA.trans (.new hdxe _)).trans (.same sm), (SA.same (same_new hdxe _)).same sm, ht⟩⟩⟩
  refine ⟨_, h15, ca, dx1, _, rfl, o1, rfl, ?_⟩
  refine hx B _ (hz B _ ⟨ca, CC, c, vx, vz, dx, dz, rfl, ci1.ce, dr, hv B, hw B, fun x z _ _ h1 h2 => ?_, fun h1 => ?_, fun h1 h2 => ?_⟩)
  · rcases hW with ⟨q, _⟩ | ⟨_, q, _⟩
    · rw [q] at h1
      cases h1
    · rw [q] at h2
      cases h2
  · rcases hW with ⟨_, q⟩ | ⟨q, _⟩
    · subst q
      exact fun dxe hdxe => fin dxe hdxe
    · rw [q] at h1
      cases h1
  · rcases hW with ⟨q, _⟩ | ⟨_, _, q⟩
    · rw [q] at h1
      cases h1
    · subst q
      exact fun dxe hdxe => fin dxe hdxe
theorem cut_read {c : Ce} {H : Hp} {t0 r0 : Int} {p pq ca : Addr} {ns : List Int} {qn : Str} {σ : L2.St} {tl : TA} {vs : List V} (dr : 0 < c.pe ∧ c.pe < 1073741824) (ci : Ci K PP CC H ca c) (S : St7 P qn p pq ns H t0 r0) (ht : t0 ≤ 2000) (h15 : σ[15]? = some (some (.ref ca))) (h19 : σ[19]? = some (some (.ref p)))
    (hl : ∀ H (Q : List V → Hp → Prop), Q vs H → tl σ H Q) (hn : vs ≠ []) (hlen : vs.length ≤ 1000) (hv : ∀ v ∈ vs, ∃ d, (∀ H, Dh H v d) ∧ inB 0 ((c.hi - c.lo - c.fi) / c.pe) d = false) :
    tLam [(P, qn)] (THr CB CM) (fun E => tMeth CC "cut" (spCutM K CB) [] E (tVar 15) (tCons (tCall spPick [] E0 (tCons (tVar 19) (tCons (tLst tl) tNil))) tNil)) σ H (fun v H' => ∃ r t1 r1, v = .ref r ∧ Kx p H H' ∧ St7 P qn p pq ns H' t1 r1 ∧ t1 ≤ t0 + 1 ∧ H' r = some (.tup [.str "number", .str "t"])) := by
  refine ⟨S.tab, fun A1 eA tA u hu => ?_⟩
  have SA := (S.ext eA tA).same (same_new hu (.tup [.non, .non]))
  have kA : Kx p H (upd A1 u (.tup [.non, .non])) := (Kx.ext eA).trans (.new hu _)
  generalize upd A1 u (HO.tup [V.non, V.non]) = B at SA kA ⊢
  have ci1 := ci.kx kA S.lst
  obtain ⟨dx1, b1, o1, hb1⟩ := id ci1.ob
  refine ⟨_, h15, ca, dx1, _, rfl, o1, rfl, _, h19, ?_⟩
  refine hl B _ ⟨Nat.le_trans hlen (by decide), fun l hhl => ?_⟩
  have sB := same_new hhl (.lst vs)
  have qB : upd B l (HO.lst vs) l = some (.lst vs) := upd_same
  generalize upd B l (HO.lst vs) = B2 at sB qB ⊢
  have S2 := SA.same sB
  refine ⟨p, pq, l, ns, t0, r0, _, rfl, S2.pen, qB, new_ne SA.lst hhl, hn, hlen, by omega, fun x v t1 r1 H2 hx b1 b2 b3 sm2 hp2 => ?_⟩
  have S3 := S2.draw sm2 hp2 b1 (by omega) b3
  have k3 : Kx p H H2 := (kA.trans (.same sB)).trans (.sm sm2)
  have ci3 := ci.kx k3 S.lst
  obtain ⟨d, hd, hbad⟩ := hv v (List.mem_of_getElem? hx)
  refine ⟨ca, CC, c, v, d, rfl, ci3.ce, dr, hd H2, fun x' _ hg => ?_, fun _ dxe hdxe => ?_⟩
  · rw [show inB 0 ((c.hi - c.lo - c.fi) / c.pe) d = false from hbad] at hg
    cases hg
  · exact ⟨dxe, .str "t", rfl, upd_same, .inl ⟨rfl, fun t H4 sm ht hn => ⟨t, t1, r1, rfl, (k3.trans (.new hdxe _)).trans (.same sm), (S3.same (same_new hdxe _)).same sm, b2, ht⟩⟩⟩
theorem spot_read2 {c : Ce} {H : Hp} {t0 r0 : Int} {p pq ca : Addr} {ns : List Int} {qn : Str} {σ : L2.St} {tl : TA} {vs : List V} (dr : 0 < c.pe ∧ c.pe < 1073741824) (ci : Ci K PP CC H ca c) (S : St7 P qn p pq ns H t0 r0) (ht : t0 ≤ 2000) (h15 : σ[15]? = some (some (.ref ca))) (h19 : σ[19]? = some (some (.ref p)))
    (hl : ∀ H (Q : List V → Hp → Prop), Q vs H → tl σ H Q) (hn : vs ≠ []) (hlen : vs.length ≤ 1000) (hv : ∀ v ∈ vs, ∃ d, (∀ H, Dh H v d) ∧ spotB c d = false) :
    tLam [(P, qn)] (THr CB CM) (fun E => tMeth CC "spot" (spSpot K CB) [] E (tVar 15) (tCons (tCall spPick [] E0 (tCons (tVar 19) (tCons (tLst tl) tNil))) tNil)) σ H (fun v H' => ∃ r t1 r1, v = .ref r ∧ Kx p H H' ∧ St7 P qn p pq ns H' t1 r1 ∧ t1 ≤ t0 + 1 ∧ H' r = some (.tup [.str "number", .str "x"])) := by
  refine ⟨S.tab, fun A1 eA tA u hu => ?_⟩
  have SA := (S.ext eA tA).same (same_new hu (.tup [.non, .non]))
  have kA : Kx p H (upd A1 u (.tup [.non, .non])) := (Kx.ext eA).trans (.new hu _)
  generalize upd A1 u (HO.tup [V.non, V.non]) = B at SA kA ⊢
  have ci1 := ci.kx kA S.lst
  obtain ⟨dx1, b1, o1, hb1⟩ := id ci1.ob
  refine ⟨_, h15, ca, dx1, _, rfl, o1, rfl, _, h19, ?_⟩
  refine hl B _ ⟨Nat.le_trans hlen (by decide), fun l hhl => ?_⟩
  have sB := same_new hhl (.lst vs)
  have qB : upd B l (HO.lst vs) l = some (.lst vs) := upd_same
  generalize upd B l (HO.lst vs) = B2 at sB qB ⊢
  have S2 := SA.same sB
  refine ⟨p, pq, l, ns, t0, r0, _, rfl, S2.pen, qB, new_ne SA.lst hhl, hn, hlen, by omega, fun x v t1 r1 H2 hx b1 b2 b3 sm2 hp2 => ?_⟩
  have S3 := S2.draw sm2 hp2 b1 (by omega) b3
  have k3 : Kx p H H2 := (kA.trans (.same sB)).trans (.sm sm2)
  have ci3 := ci.kx k3 S.lst
  obtain ⟨d, hd, hbad⟩ := hv v (List.mem_of_getElem? hx)
  refine ⟨ca, CC, c, v, d, rfl, ci3.ce, dr, hd H2, fun x' _ hg => ?_, fun _ dxe hdxe => ?_⟩
  · rw [show spotB c d = false from hbad] at hg
    cases hg
  · exact ⟨dxe, .str "x", rfl, upd_same, .inl ⟨rfl, fun t H4 sm ht hn => ⟨t, t1, r1, rfl, (k3.trans (.new hdxe _)).trans (.same sm), (S3.same (same_new hdxe _)).same sm, b2, ht⟩⟩⟩
end
section
variable {Pr : Program} {w : World} {K : PySem.W.Frag} {mg : Str → Option Value} {base : Heap} {f : Addr} {cdv : Value} {A : Around} {outer : List Env} {s : Shared} {H0 : Hp} {E : XK} {PP CC CB CM fE P : Addr} {qn : Str}
theorem st11 (T : TL Pr w base K mg PP CC CB CM fE) (hr : Room 12 (LX Pr w K mg base f cdv A outer s H0 E).A) (TH : TLh K mg CB CM) (TC : CodeL base mg cdv P) (hq : qn = (LX Pr w K mg base f cdv A outer s H0 E).env.qual ++ "<lambda>") : ∃ t, PS (LX Pr w K mg base f cdv A outer s H0 E) (tS 11) t ∧ ∀ (p pq a ca : Addr) (ns : List Int) (lo pe fi la hi zl zh : Int) (vb vn : V) (db dn : PyData) (D : Ends) (H : Hp) (t0 r0 : Int) (v1 v7 v8 v9 v10 v11 v12 v13 v20 v21 : Option V), St7 P qn p pq ns H t0 r0 → t0 ≤ 1000 → Dr ⟨zl, zh, lo, hi, pe, fi, la⟩ → Ci K PP CC H ca ⟨zl, zh, lo, hi, pe, fi, la⟩ → (∀ H, Dh H vb db) → (∀ H, Dh H vn dn) → inB (-549755813888) 549755813888 db = false → inB 2 1048576 dn = false →
    (∀ (hl g1 g2 g3 : Addr) (t' r' : Int) (H' : Hp), St7 P qn p pq ns H' t' r' → Kx p H H' → t' ≤ t0 + 1 → H' hl = some (.lst [.ref g1, .ref g2, .ref g3]) → hl ≠ p → H' g1 = some (.tup [.str "number", .str "x"]) → H' g2 = some (.tup [.str "number", .str "z"]) → H' g3 = some (.tup [.str "number", .str "t"]) →
      D.nx [some (.ref a), v1, some (.int lo), some (.int pe), some (.int fi), some (.int la), some (.int zl), v7, v8, v9, some (.ref hl), v11, v12, v13, some (vb), some (.ref ca), some (.int hi), some (.int (topC ⟨zl, zh, lo, hi, pe, fi, la⟩)), some (vn), some (.ref p), v20, v21] H') →
    t D [some (.ref a), v1, some (.int lo), some (.int pe), some (.int fi), some (.int la), some (.int zl), v7, v8, v9, v10, v11, v12, v13, some (vb), some (.ref ca), some (.int hi), some (.int (topC ⟨zl, zh, lo, hi, pe, fi, la⟩)), some (vn), some (.ref p), v20, v21] H := by
  have nd := scL.nd
  obtain ⟨cL, rfl, TB⟩ := TC.ex
  subst hq
  refine ⟨_, ps_set (i := 10) nd rfl (Or.inl rfl) (pe_lst (pa_cons (pe_up (pe_heard (k := 5) TH (by rfl) TB rfl (hr.mono (by decide)) (lamS_by (sc := defScope sLaw) (by decide +kernel)) (by rfl) (fun _ _ _ _ _ => rfl) (fun A outer s H E f c' hr2 => pe_ma (E := E) T.has (hr2.mono (by decide)) pass_lam (pv 15) (pa_cons (pv 14) (pa_cons (pv 18) pa_nil))))) (pa_cons (pe_up (pe_heardD (k := 5) (y := "a1") TH (by rfl) TB rfl (hr.mono (by decide)) (lamD_by (N := NL) (sc := defScope sLaw) (by decide +kernel)) (by rfl) (by rfl) (fun q cl D doc pm cv ctv u => ⟨_, rfl, rfl⟩) (fun A outer s H E f c' hr2 => pe_ma (E := E) T.has (hr2.mono (by decide)) pass_lam (pv 15) (pa_cons pe_int (pa_cons (pv 18) pa_nil))))) (pa_cons (pe_up (pe_heardD (k := 5) (y := "a2") TH (by rfl) TB rfl (hr.mono (by decide)) (lamD_by (N := NL) (sc := defScope sLaw) (by decide +kernel)) (by rfl) (by rfl) (fun q cl D doc pm cv ctv u => ⟨_, rfl, rfl⟩) (fun A outer s H E f c' hr2 => pe_ma (E := E) T.cut (hr2.mono (by decide)) pass_lam (pv 15) (pa_cons (pe_fa T.pick (hr2.mono (by decide)) pass0 (by rfl) (pa_cons (pv 19) (pa_cons (pe_lst (pa_cons pe_non (pa_cons (pe_un un_neg pe_int) (pa_cons (pe_op op_add (pv 17) pe_int) (pa_cons pe_bl pa_nil))))) pa_nil))) pa_nil)))) pa_nil)))), fun p pq a ca ns lo pe fi la hi zl zh vb vn db dn D H t0 r0 v1 v7 v8 v9 v10 v11 v12 v13 v20 v21 S ht dr ci hvb hvn nb nn k => ?_⟩
  have dr0 : 0 < pe := dr.p0
  have dr1 : pe < 1073741824 := by
    have z := dr.p1
    simp only at z
    omega
  refine ⟨_, fun v1 H1 hz => ?_, has_read dr0 ci S rfl (fun _ => rd_var rfl) (fun _ => rd_var rfl) hvb hvn (.inl ⟨nb, rfl⟩)⟩
  obtain ⟨a1, rfl, k1, S1, d1⟩ := hz
  refine ⟨_, fun v2 H2 hz => ?_, has_read dr0 (ci.kx k1 S.lst) S1 rfl (fun _ => rd_c) (fun _ => rd_var rfl) (fun _ => .int 0) hvn (.inr ⟨by decide, nn, rfl⟩)⟩
  obtain ⟨a2, rfl, k2, S2, d2⟩ := hz
  have tn := top_nn dr
  refine ⟨_, fun v3 H3 hz => ?_, cut_read (vs := [.non, .int (-1), .int (topC ⟨zl, zh, lo, hi, pe, fi, la⟩ + 1), .bl true]) ⟨dr0, dr1⟩ ((ci.kx k1 S.lst).kx k2 S1.lst) S2 (by omega) rfl rfl (fun H Q q => ⟨_, rfl, _, rfl, _, _, rfl, rfl, q⟩) (by simp) (by show 4 ≤ 1000; decide) (fun v hv => ?_)⟩
  · obtain ⟨a3, t3, r3, rfl, k3, S3, tt, d3⟩ := hz
    refine ⟨by show 3 ≤ sizeLine; decide, fun hl hhl => ?_⟩
    have e := same_new hhl (.lst [.ref a1, .ref a2, .ref a3])
    have kA : Kx p H2 (upd H3 hl (.lst [.ref a1, .ref a2, .ref a3])) := k3.trans (.same e)
    exact k hl a1 a2 a3 t3 r3 _ (S3.same e) ((k1.trans k2).trans kA) tt upd_same (new_ne S3.lst hhl) ((k2.trans kA).tup S1.lst d1) (kA.tup S2.lst d2) (e _ _ d3)
  · have hv2 : v = .non ∨ v = .int (-1) ∨ v = .int (topC ⟨zl, zh, lo, hi, pe, fi, la⟩ + 1) ∨ v = .bl true := by simpa using hv
    rcases hv2 with rfl | rfl | rfl | rfl
    · exact ⟨_, fun _ => .non, rfl⟩
    · refine ⟨.int (-1), fun _ => .int _, ?_⟩
      show (decide ((0 : Int) ≤ -1) && decide ((-1 : Int) ≤ topC ⟨zl, zh, lo, hi, pe, fi, la⟩)) = false
      rw [decide_eq_false (show ¬ ((0 : Int) ≤ -1) by decide), Bool.false_and]
    · refine ⟨_, fun _ => .int _, ?_⟩
      show (decide ((0 : Int) ≤ topC ⟨zl, zh, lo, hi, pe, fi, la⟩ + 1) && decide (topC ⟨zl, zh, lo, hi, pe, fi, la⟩ + 1 ≤ topC ⟨zl, zh, lo, hi, pe, fi, la⟩)) = false
      rw [decide_eq_false (show ¬ topC ⟨zl, zh, lo, hi, pe, fi, la⟩ + 1 ≤ topC ⟨zl, zh, lo, hi, pe, fi, la⟩ by omega), Bool.and_false]
    · exact ⟨_, fun _ => .bl _, rfl⟩
end
end My

set_option maxHeartbeats 8000000
namespace My
open PySem PySem.Spec PyProof.Rows L2 LamX
theorem St7.put {P p pq l : Addr} {qn : Str} {ns : List Int} {H : Hp} {t r : Int} {xs ys : List V} (S : St7 P qn p pq ns H t r) (h : H l = some (.lst xs)) (n1 : l ≠ p) (n2 : l ≠ pq) : St7 P qn p pq ns (upd H l (.lst ys)) t r :=
  ⟨⟨by rw [upd_ne n1.symm]; exact S.pen.at_, by rw [upd_ne n2.symm]; exact S.pen.cells, S.pen.few, S.pen.t0, S.pen.t1, S.pen.r0⟩, tabs_sm S.tab h (fun b o n q => by rw [upd_ne n]; exact q)⟩
theorem ref_ne {P p pq l a : Addr} {qn : Str} {ns : List Int} {H : Hp} {t r : Int} {xs : List V} (S : St7 P qn p pq ns H t r) (h : H l = some (.lst (.ref a :: xs))) : l ≠ pq := fun z => by
  rw [z, S.pen.cells] at h
  have e := Option.some.inj h
  injection e with e2
  cases ns with
  | nil => cases e2
  | cons n ns =>
    have e3 := List.cons.inj e2
    cases e3.1
section
variable {Pr : Program} {w : World} {K : PySem.W.Frag} {mg : Str → Option Value} {base : Heap} {f : Addr} {cdv : Value} {A : Around} {outer : List Env} {s : Shared} {H0 : Hp} {E : XK} {PP CC CB CM fE P : Addr} {qn : Str}
theorem st12 (T : TL Pr w base K mg PP CC CB CM fE) (hr : Room 12 (LX Pr w K mg base f cdv A outer s H0 E).A) (TH : TLh K mg CB CM) (TC : CodeL base mg cdv P) (hq : qn = (LX Pr w K mg base f cdv A outer s H0 E).env.qual ++ "<lambda>") : ∃ t, PS (LX Pr w K mg base f cdv A outer s H0 E) (tS 12) t ∧ ∀ (p pq a ca hl g1 g2 g3 : Addr) (ns : List Int) (lo pe fi la hi zl zh : Int) (D : Ends) (H : Hp) (t0 r0 : Int) (v1 v7 v8 v9 v11 v12 v13 v14 v18 v20 v21 : Option V), St7 P qn p pq ns H t0 r0 → t0 ≤ 1000 → Dr ⟨zl, zh, lo, hi, pe, fi, la⟩ → Ci K PP CC H ca ⟨zl, zh, lo, hi, pe, fi, la⟩ → H hl = some (.lst [.ref g1, .ref g2, .ref g3]) → hl ≠ p → H g1 = some (.tup [.str "number", .str "x"]) → H g2 = some (.tup [.str "number", .str "z"]) → H g3 = some (.tup [.str "number", .str "t"]) →
    (∀ (g4 : Addr) (t' r' : Int) (H' : Hp), St7 P qn p pq ns H' t' r' → Ky p hl H H' → t' ≤ t0 + 1 → H' hl = some (.lst [.ref g1, .ref g2, .ref g3, .ref g4]) → H' g1 = some (.tup [.str "number", .str "x"]) → H' g2 = some (.tup [.str "number", .str "z"]) → H' g3 = some (.tup [.str "number", .str "t"]) → H' g4 = some (.tup [.str "number", .str "x"]) →
      D.nx [some (.ref a), v1, some (.int lo), some (.int pe), some (.int fi), some (.int la), some (.int zl), v7, v8, v9, some (.ref hl), v11, v12, v13, v14, some (.ref ca), some (.int hi), some (.int (topC ⟨zl, zh, lo, hi, pe, fi, la⟩)), v18, some (.ref p), v20, v21] H') →
    t D [some (.ref a), v1, some (.int lo), some (.int pe), some (.int fi), some (.int la), some (.int zl), v7, v8, v9, some (.ref hl), v11, v12, v13, v14, some (.ref ca), some (.int hi), some (.int (topC ⟨zl, zh, lo, hi, pe, fi, la⟩)), v18, some (.ref p), v20, v21] H := by
  have nd := scL.nd
  obtain ⟨cL, rfl, TB⟩ := TC.ex
  subst hq
  refine ⟨_, ps_expr (pe_bm PySem.F.plainAttrs_list PySem.F.slot_list_append PySem.F.type_list_append mt_append (pv 10) (pa_cons (pe_up (pe_heard (k := 5) TH (by rfl) TB rfl (hr.mono (by decide)) (lamS_by (sc := defScope sLaw) (by decide +kernel)) (by rfl) (fun _ _ _ _ _ => rfl) (fun A outer s H E f c' hr2 => pe_ma (E := E) T.spot (hr2.mono (by decide)) pass_lam (pv 15) (pa_cons (pe_fa T.pick (hr2.mono (by decide)) pass0 (by rfl) (pa_cons (pv 19) (pa_cons (pe_lst (pa_cons pe_non (pa_cons pe_bl (pa_cons pe_str (pa_cons (pe_op op_add (pv 16) pe_int) pa_nil))))) pa_nil))) pa_nil)))) pa_nil)), fun p pq a ca hl g1 g2 g3 ns lo pe fi la hi zl zh D H t0 r0 v1 v7 v8 v9 v11 v12 v13 v14 v18 v20 v21 S ht dr ci hh nh d1 d2 d3 k => ?_⟩
  have dr0 : 0 < pe := dr.p0
  have dr1 : pe < 1073741824 := by
    have z := dr.p1
    simp only at z
    omega
  refine ⟨_, rfl, .inl ⟨rfl, _, .inl (.inl hh)⟩, _, fun v1 H1 hz => ?_, spot_read2 (vs := [.non, .bl true, .str "1", .int (hi + 1)]) ⟨dr0, dr1⟩ ci S (by omega) rfl rfl (fun H Q q => ⟨_, rfl, _, _, rfl, rfl, q⟩) (by simp) (by show 4 ≤ 1000; decide) (fun v hv => ?_)⟩
  · obtain ⟨a4, t4, r4, rfl, k1, S1, tt, d4⟩ := hz
    have hh1 := k1.lst nh hh
    refine ⟨hl, _, _, rfl, rfl, hh1, by show 3 < sizeLine; decide, ?_⟩
    have kk : Ky p hl H1 (upd H1 hl (.lst [.ref g1, .ref g2, .ref g3, .ref a4])) := Ky.at
    exact k a4 t4 r4 _ (S1.put hh1 nh (ref_ne S1 hh1)) ((Ky.kx k1).trans kk) tt upd_same (kk.tup S1.lst ⟨_, hh1⟩ (k1.tup S.lst d1)) (kk.tup S1.lst ⟨_, hh1⟩ (k1.tup S.lst d2)) (kk.tup S1.lst ⟨_, hh1⟩ (k1.tup S.lst d3)) (kk.tup S1.lst ⟨_, hh1⟩ d4)
  · have hv2 : v = .non ∨ v = .bl true ∨ v = .str "1" ∨ v = .int (hi + 1) := by simpa using hv
    rcases hv2 with rfl | rfl | rfl | rfl
    · exact ⟨_, fun _ => .non, rfl⟩
    · exact ⟨_, fun _ => .bl _, rfl⟩
    · exact ⟨_, fun _ => .str _, rfl⟩
    · refine ⟨_, fun _ => .int _, ?_⟩
      show ((decide (lo ≤ hi + 1) && decide (hi + 1 ≤ hi)) && (decide (fi ≤ (hi + 1 - lo) % pe) && decide ((hi + 1 - lo) % pe ≤ la))) = false
      rw [decide_eq_false (show ¬ hi + 1 ≤ hi by omega), Bool.and_false, Bool.false_and]
theorem st13 (T : TL Pr w base K mg PP CC CB CM fE) (hr : Room 12 (LX Pr w K mg base f cdv A outer s H0 E).A) : ∃ t, PS (LX Pr w K mg base f cdv A outer s H0 E) (tS 13) t ∧ ∀ (p pq a ca : Addr) (ns : List Int) (lo pe fi la hi zl zh : Int) (D : Ends) (H : Hp) (t0 r0 : Int) (v1 v7 v8 v9 v10 v11 v12 v13 v14 v18 v20 v21 : Option V), St7 P qn p pq ns H t0 r0 → t0 ≤ 1000 → Ci K PP CC H ca ⟨zl, zh, lo, hi, pe, fi, la⟩ →
    (∀ (fl : Addr) (ix : Int) (t' r' : Int) (H' : Hp), St7 P qn p pq ns H' t' r' → Kx p H H' → t' ≤ t0 + 1 → H' fl = some (.lst [.int zl, .int zh, .int lo, .int hi, .int pe, .int fi, .int la]) → fl ≠ p → 0 ≤ ix → ix < 7 → fl ≠ pq → (∀ b o, H b = some o → b ≠ fl) →
      D.nx [some (.ref a), v1, some (.int lo), some (.int pe), some (.int fi), some (.int la), some (.int zl), v7, v8, v9, v10, some (.ref fl), some (.int ix), v13, v14, some (.ref ca), some (.int hi), some (.int (topC ⟨zl, zh, lo, hi, pe, fi, la⟩)), v18, some (.ref p), v20, v21] H') →
    t D [some (.ref a), v1, some (.int lo), some (.int pe), some (.int fi), some (.int la), some (.int zl), v7, v8, v9, v10, v11, v12, v13, v14, some (.ref ca), some (.int hi), some (.int (topC ⟨zl, zh, lo, hi, pe, fi, la⟩)), v18, some (.ref p), v20, v21] H := by
  have nd := scL.nd
  refine ⟨_, ps_par (i := 11) (j := 12) (by rfl) nd rfl rfl (by decide) rfl rfl (pa_cons (pe_lst (pa_cons (pv 6) (pa_cons (pe_fld (pv 15) rfl) (pa_cons (pv 2) (pa_cons (pv 16) (pa_cons (pv 3) (pa_cons (pv 4) (pa_cons (pv 5) pa_nil)))))))) (pa_cons (pe_fa T.draw (hr.mono (by decide)) pass0 (by rfl) (pa_cons (pv 19) (pa_cons pe_int pa_nil))) pa_nil)) (by rfl), fun p pq a ca ns lo pe fi la hi zl zh D H t0 r0 v1 v7 v8 v9 v10 v11 v12 v13 v14 v18 v20 v21 S ht ci k => ?_⟩
  obtain ⟨dx, b, ho, hb⟩ := id ci.ob
  refine ⟨_, rfl, _, rfl, ca, CC, dx, _, _, rfl, ho, ci.pc.n.cl, ci.na _ (by decide +kernel), rfl, _, rfl, _, rfl, _, rfl, _, rfl, _, rfl, by show 7 ≤ sizeLine; decide, fun fl hfl => ?_⟩
  have e := same_new hfl (.lst [.int zl, .int zh, .int lo, .int hi, .int pe, .int fi, .int la])
  have qf : upd H fl (HO.lst [V.int zl, V.int zh, V.int lo, V.int hi, V.int pe, V.int fi, V.int la]) fl = some (.lst [.int zl, .int zh, .int lo, .int hi, .int pe, .int fi, .int la]) := upd_same
  have S1 := S.same e
  have nf := new_ne S.lst hfl
  generalize upd H fl (HO.lst [V.int zl, V.int zh, V.int lo, V.int hi, V.int pe, V.int fi, V.int la]) = H1 at e qf S1 ⊢
  refine ⟨_, rfl, p, pq, ns, t0, r0, 7, rfl, S1.pen, by decide, by decide, by omega, fun x t1 r1 H2 a1 a2 a3 a4 a5 sm2 hp2 => ?_⟩
  refine ⟨_, _, rfl, ?_⟩
  have kA : Kx p H H2 := (Kx.same e).trans (.sm sm2)
  exact k fl x t1 r1 H2 (S1.draw sm2 hp2 a3 (by omega) a5) kA a4 (sm2 _ _ nf qf) nf a1 a2 (ne_of_none S.pen.cells hfl).symm (fun b o q => ne_of_none q hfl)
end
end My

set_option maxHeartbeats 8000000
namespace My
open PySem PySem.Spec PyProof.Rows L2 LamX
/-- what may take a field's place there -/
def badI (c : Ce) : List Int := [1, c.zl - 1, c.hi + 1, c.lo - 1, 0, c.la + 1, c.pe]
def badD (c : Ce) (j : Nat) : List PyData := [.int ((badI c).getD j 0), .none, .bool true, .str "1"]
theorem cellB_int {ds : List PyData} (h : ds.all isI = false) : cellB ds = false := cellB_not h
theorem bad_cell {c : Ce} (dr : Dr c) : ∀ j, j < 7 → ∀ d ∈ badD c j, cellB (c.ds.set j d) = false ∧ (c.ds.set j d).all flatD = true := by
  have d0 := dr.l0; have d1 := dr.l1; have d2 := dr.p0; have d3 := dr.p1; have d4 := dr.f0; have d5 := dr.f1; have d6 := dr.f2; have d7 := dr.h0; have d8 := dr.h1
  have z0 := dr.z0; have z1 := dr.z1; have z2 := dr.z2; have z3 := dr.z3
  obtain ⟨zl, zh, lo, hi, pe, fi, la⟩ := c
  simp only at d0 d1 d2 d3 d4 d5 d6 d7 d8 z0 z1 z2 z3
  have ci : ∀ a b c' d e f' g : Int, cellB [.int a, .int b, .int c', .int d, .int e, .int f', .int g] = ((decide (2 ≤ a) && (decide (a ≤ b) && decide (b ≤ 1048576))) && ((decide (-549755813888 ≤ c') && (decide (c' ≤ d) && decide (d ≤ 549755813888))) && ((decide (0 ≤ f') && (decide (f' ≤ g) && decide (g < e))) && decide (c' + f' ≤ d)))) := fun _ _ _ _ _ _ _ => rfl
  intro j hj d hd
  have hd2 : d = .int ((badI ⟨zl, zh, lo, hi, pe, fi, la⟩).getD j 0) ∨ d = .none ∨ d = .bool true ∨ d = .str "1" := by simpa [badD] using hd
  match j, hj with
  | 0, _ =>
    rcases hd2 with rfl | rfl | rfl | rfl
    · refine ⟨?_, rfl⟩
      show cellB [.int (1), .int (zh), .int (lo), .int (hi), .int (pe), .int (fi), .int (la)] = false
      rw [ci, decide_eq_false (show ¬ (2 : Int) ≤ 1 by decide)]
      simp
    · exact ⟨rfl, rfl⟩
    · exact ⟨rfl, rfl⟩
    · exact ⟨rfl, rfl⟩
  | 1, _ =>
    rcases hd2 with rfl | rfl | rfl | rfl
    · refine ⟨?_, rfl⟩
      show cellB [.int (zl), .int (zl - 1), .int (lo), .int (hi), .int (pe), .int (fi), .int (la)] = false
      rw [ci, decide_eq_false (show ¬ zl ≤ zl - 1 by omega)]
      simp
    · exact ⟨rfl, rfl⟩
    · exact ⟨rfl, rfl⟩
    · exact ⟨rfl, rfl⟩
  | 2, _ =>
    rcases hd2 with rfl | rfl | rfl | rfl
    · refine ⟨?_, rfl⟩
      show cellB [.int (zl), .int (zh), .int (hi + 1), .int (hi), .int (pe), .int (fi), .int (la)] = false
      rw [ci, decide_eq_false (show ¬ hi + 1 ≤ hi by omega)]
      simp
    · exact ⟨rfl, rfl⟩
    · exact ⟨rfl, rfl⟩
    · exact ⟨rfl, rfl⟩
  | 3, _ =>
    rcases hd2 with rfl | rfl | rfl | rfl
    · refine ⟨?_, rfl⟩
      show cellB [.int (zl), .int (zh), .int (lo), .int (lo - 1), .int (pe), .int (fi), .int (la)] = false
      rw [ci, decide_eq_false (show ¬ lo ≤ lo - 1 by omega)]
      simp
    · exact ⟨rfl, rfl⟩
    · exact ⟨rfl, rfl⟩
    · exact ⟨rfl, rfl⟩
  | 4, _ =>
    rcases hd2 with rfl | rfl | rfl | rfl
    · refine ⟨?_, rfl⟩
      show cellB [.int (zl), .int (zh), .int (lo), .int (hi), .int (0), .int (fi), .int (la)] = false
      rw [ci, decide_eq_false (show ¬ la < 0 by omega)]
      simp
    · exact ⟨rfl, rfl⟩
    · exact ⟨rfl, rfl⟩
    · exact ⟨rfl, rfl⟩
  | 5, _ =>
    rcases hd2 with rfl | rfl | rfl | rfl
    · refine ⟨?_, rfl⟩
      show cellB [.int (zl), .int (zh), .int (lo), .int (hi), .int (pe), .int (la + 1), .int (la)] = false
      rw [ci, decide_eq_false (show ¬ la + 1 ≤ la by omega)]
      simp
    · exact ⟨rfl, rfl⟩
    · exact ⟨rfl, rfl⟩
    · exact ⟨rfl, rfl⟩
  | 6, _ =>
    rcases hd2 with rfl | rfl | rfl | rfl
    · refine ⟨?_, rfl⟩
      show cellB [.int (zl), .int (zh), .int (lo), .int (hi), .int (pe), .int (fi), .int (pe)] = false
      rw [ci, decide_eq_false (show ¬ pe < pe by omega)]
      simp
    · exact ⟨rfl, rfl⟩
    · exact ⟨rfl, rfl⟩
    · exact ⟨rfl, rfl⟩
section
variable {Pr : Program} {w : World} {K : PySem.W.Frag} {mg : Str → Option Value} {base : Heap} {f : Addr} {cdv : Value} {A : Around} {outer : List Env} {s : Shared} {H0 : Hp} {E : XK} {PP CC CB CM fE P : Addr} {qn : Str}
theorem st14 (T : TL Pr w base K mg PP CC CB CM fE) (hr : Room 12 (LX Pr w K mg base f cdv A outer s H0 E).A) : ∃ t, PS (LX Pr w K mg base f cdv A outer s H0 E) (tS 14) t ∧ ∀ (p pq a ca fl : Addr) (ns : List Int) (lo pe fi la hi zl zh ix : Int) (D : Ends) (H : Hp) (t0 r0 : Int) (v1 v7 v8 v9 v10 v13 v14 v18 v20 v21 : Option V), St7 P qn p pq ns H t0 r0 → t0 ≤ 1000 → Dr ⟨zl, zh, lo, hi, pe, fi, la⟩ → H fl = some (.lst [.int zl, .int zh, .int lo, .int hi, .int pe, .int fi, .int la]) → fl ≠ p → fl ≠ pq → 0 ≤ ix → ix < 7 →
    (∀ (y0 y1 y2 y3 y4 y5 y6 : V) (ds : List PyData) (t' r' : Int) (H' : Hp), St7 P qn p pq ns H' t' r' → Ky p fl H H' → t' ≤ t0 + 1 → H' fl = some (.lst [y0, y1, y2, y3, y4, y5, y6]) → (∀ H, DhAll H [y0, y1, y2, y3, y4, y5, y6] ds) → ds.all flatD = true → cellB ds = false →
      D.nx [some (.ref a), v1, some (.int lo), some (.int pe), some (.int fi), some (.int la), some (.int zl), v7, v8, v9, v10, some (.ref fl), some (.int ix), v13, v14, some (.ref ca), some (.int hi), some (.int (topC ⟨zl, zh, lo, hi, pe, fi, la⟩)), v18, some (.ref p), v20, v21] H') →
    t D [some (.ref a), v1, some (.int lo), some (.int pe), some (.int fi), some (.int la), some (.int zl), v7, v8, v9, v10, some (.ref fl), some (.int ix), v13, v14, some (.ref ca), some (.int hi), some (.int (topC ⟨zl, zh, lo, hi, pe, fi, la⟩)), v18, some (.ref p), v20, v21] H := by
  have nd := scL.nd
  refine ⟨_, ps_asg (pe_fa T.pick (hr.mono (by decide)) pass0 (by rfl) (pa_cons (pv 19) (pa_cons (pe_lst (pa_cons (pe_ix ix_list (pe_lst (pa_cons pe_int (pa_cons (pe_op op_sub (pv 6) pe_int) (pa_cons (pe_op op_add (pv 16) pe_int) (pa_cons (pe_op op_sub (pv 2) pe_int) (pa_cons pe_int (pa_cons (pe_op op_add (pv 5) pe_int) (pa_cons (pv 3) pa_nil)))))))) (pv 12) (fun _ _ => rfl)) (pa_cons pe_non (pa_cons pe_bl (pa_cons pe_str pa_nil))))) pa_nil))) (pg_sub (pv 11) (pv 12) set_list), fun p pq a ca fl ns lo pe fi la hi zl zh ix D H t0 r0 v1 v7 v8 v9 v10 v13 v14 v18 v20 v21 S ht dr hf nf nq i0 i7 k => ?_⟩
  obtain ⟨j, rfl⟩ := Int.eq_ofNat_of_zero_le i0
  have j7 : j < 7 := by omega
  refine ⟨_, rfl, _, rfl, _, _, rfl, rfl, _, rfl, _, _, rfl, rfl, _, rfl, _, _, rfl, rfl, _, rfl, _, _, rfl, rfl, _, rfl, by show 7 ≤ sizeLine; decide, fun l hl => ?_⟩
  have e1 := same_new hl (.lst [.int 1, .int (zl - 1), .int (hi + 1), .int (lo - 1), .int 0, .int (la + 1), .int pe])
  have q1 : upd H l (HO.lst [V.int 1, V.int (zl - 1), V.int (hi + 1), V.int (lo - 1), V.int 0, V.int (la + 1), V.int pe]) l = some (.lst [.int 1, .int (zl - 1), .int (hi + 1), .int (lo - 1), .int 0, .int (la + 1), .int pe]) := upd_same
  generalize upd H l (HO.lst [V.int 1, V.int (zl - 1), V.int (hi + 1), V.int (lo - 1), V.int 0, V.int (la + 1), V.int pe]) = H1 at e1 q1 ⊢
  have hB : ([V.int 1, V.int (zl - 1), V.int (hi + 1), V.int (lo - 1), V.int 0, V.int (la + 1), V.int pe] : List V)[j]? = some (.int ((badI ⟨zl, zh, lo, hi, pe, fi, la⟩).getD j 0)) := by
    match j, j7 with
    | 0, _ => rfl
    | 1, _ => rfl
    | 2, _ => rfl
    | 3, _ => rfl
    | 4, _ => rfl
    | 5, _ => rfl
    | 6, _ => rfl
  refine ⟨_, rfl, l, _, _, _, rfl, rfl, .inl (.inl q1), atI_nat hB, by show 4 ≤ sizeLine; decide, fun l2 hl2 => ?_⟩
  have e2 := same_new hl2 (.lst [.int ((badI ⟨zl, zh, lo, hi, pe, fi, la⟩).getD j 0), .non, .bl true, .str "1"])
  have q2 : upd H1 l2 (HO.lst [V.int ((badI ⟨zl, zh, lo, hi, pe, fi, la⟩).getD j 0), V.non, V.bl true, V.str "1"]) l2 = some (.lst [.int ((badI ⟨zl, zh, lo, hi, pe, fi, la⟩).getD j 0), .non, .bl true, .str "1"]) := upd_same
  generalize upd H1 l2 (HO.lst [V.int ((badI ⟨zl, zh, lo, hi, pe, fi, la⟩).getD j 0), V.non, V.bl true, V.str "1"]) = H2 at e2 q2 ⊢
  have e12 := e1.trans e2
  have S2 := S.same e12
  refine ⟨p, pq, l2, ns, t0, r0, _, rfl, S2.pen, q2, new_ne (S.same e1).lst hl2, by simp, by show 4 ≤ 1000; decide, by omega, fun x v t1 r1 H3 hv b1 b2 b3 sm3 hp3 => ?_⟩
  have S3 := S2.draw sm3 hp3 b1 (by omega) b3
  have k3 : Kx p H H3 := (Kx.same e12).trans (.sm sm3)
  have hd : ∃ d ∈ badD ⟨zl, zh, lo, hi, pe, fi, la⟩ j, ∀ H, Dh H v d := by
    match x, hv with
    | 0, hv => cases hv; exact ⟨_, List.mem_cons_self, fun _ => .int _⟩
    | 1, hv => cases hv; exact ⟨.none, by simp [badD], fun _ => .non⟩
    | 2, hv => cases hv; exact ⟨.bool true, by simp [badD], fun _ => .bl _⟩
    | 3, hv => cases hv; exact ⟨.str "1", by simp [badD], fun _ => .str _⟩
  obtain ⟨d, hdm, hd⟩ := hd
  obtain ⟨cb, cf⟩ := bad_cell dr j j7 d hdm
  have hf3 := k3.lst nf hf
  have kk : Ky p fl H3 (upd H3 fl (.lst (([V.int zl, V.int zh, V.int lo, V.int hi, V.int pe, V.int fi, V.int la] : List V).set j v))) := Ky.at
  refine ⟨_, rfl, _, rfl, fl, _, _, j, rfl, rfl, hf3, ?_, ?_⟩
  · show ixN 7 (j : Int) = some j
    unfold ixN
    rw [if_pos (by omega), if_pos (by omega)]
    rfl
  have S4 := S3.put (ys := ([V.int zl, V.int zh, V.int lo, V.int hi, V.int pe, V.int fi, V.int la] : List V).set j v) hf3 nf nq
  match j, j7 with
  | 0, _ => exact k _ _ _ _ _ _ _ _ t1 r1 _ S4 ((Ky.kx k3).trans kk) b2 upd_same (fun H => .cons (hd H) (.cons (.int _) (.cons (.int _) (.cons (.int _) (.cons (.int _) (.cons (.int _) (.cons (.int _) .nil))))))) cf cb
  | 1, _ => exact k _ _ _ _ _ _ _ _ t1 r1 _ S4 ((Ky.kx k3).trans kk) b2 upd_same (fun H => .cons (.int _) (.cons (hd H) (.cons (.int _) (.cons (.int _) (.cons (.int _) (.cons (.int _) (.cons (.int _) .nil))))))) cf cb
  | 2, _ => exact k _ _ _ _ _ _ _ _ t1 r1 _ S4 ((Ky.kx k3).trans kk) b2 upd_same (fun H => .cons (.int _) (.cons (.int _) (.cons (hd H) (.cons (.int _) (.cons (.int _) (.cons (.int _) (.cons (.int _) .nil))))))) cf cb
  | 3, _ => exact k _ _ _ _ _ _ _ _ t1 r1 _ S4 ((Ky.kx k3).trans kk) b2 upd_same (fun H => .cons (.int _) (.cons (.int _) (.cons (.int _) (.cons (hd H) (.cons (.int _) (.cons (.int _) (.cons (.int _) .nil))))))) cf cb
  | 4, _ => exact k _ _ _ _ _ _ _ _ t1 r1 _ S4 ((Ky.kx k3).trans kk) b2 upd_same (fun H => .cons (.int _) (.cons (.int _) (.cons (.int _) (.cons (.int _) (.cons (hd H) (.cons (.int _) (.cons (.int _) .nil))))))) cf cb
  | 5, _ => exact k _ _ _ _ _ _ _ _ t1 r1 _ S4 ((Ky.kx k3).trans kk) b2 upd_same (fun H => .cons (.int _) (.cons (.int _) (.cons (.int _) (.cons (.int _) (.cons (.int _) (.cons (hd H) (.cons (.int _) .nil))))))) cf cb
  | 6, _ => exact k _ _ _ _ _ _ _ _ t1 r1 _ S4 ((Ky.kx k3).trans kk) b2 upd_same (fun H => .cons (.int _) (.cons (.int _) (.cons (.int _) (.cons (.int _) (.cons (.int _) (.cons (.int _) (.cons (hd H) .nil))))))) cf cb
end
end My

set_option maxHeartbeats 8000000
namespace My
open PySem PySem.Spec PyProof.Rows L2 LamX
theorem flat_dep {d : PyData} (h : flatD d = true) : dep d = 0 := by
  cases d with
  | list _ => cases h
  | tuple _ => cases h
  | dict _ => cases h
  | _ => rfl
theorem flat_depAll : ∀ {ds : List PyData}, ds.all flatD = true → depAll ds = 0
  | [], _ => rfl
  | d :: ds, h => by
    have h2 : (flatD d && ds.all flatD) = true := h
    obtain ⟨h3, h4⟩ := Bool.and_eq_true_iff.mp h2
    show max (dep d) (depAll ds) = 0
    rw [flat_dep h3, flat_depAll h4]
    rfl
theorem flat_tupd {d : PyData} (h : flatD d = true) : tupd d = d := by
  cases d with
  | list _ => cases h
  | tuple _ => cases h
  | dict _ => cases h
  | _ => rfl
theorem flat_tupdAll : ∀ {ds : List PyData}, ds.all flatD = true → tupdAll ds = ds
  | [], _ => rfl
  | d :: ds, h => by
    have h2 : (flatD d && ds.all flatD) = true := h
    obtain ⟨h3, h4⟩ := Bool.and_eq_true_iff.mp h2
    show tupd d :: tupdAll ds = d :: ds
    rw [flat_tupd h3, flat_tupdAll h4]
section
variable {Pr : Program} {w : World} {K : PySem.W.Frag} {mg : Str → Option Value} {base : Heap} {f : Addr} {cdv : Value} {A : Around} {outer : List Env} {s : Shared} {H0 : Hp} {E : XK} {PP CC CB CM fE P : Addr} {qn : Str}
theorem st15 (T : TL Pr w base K mg PP CC CB CM fE) (hr : Room 12 (LX Pr w K mg base f cdv A outer s H0 E).A) : ∃ t, PS (LX Pr w K mg base f cdv A outer s H0 E) (tS 15) t ∧ ∀ (p pq a ca fl : Addr) (ns : List Int) (y0 y1 y2 y3 y4 y5 y6 : V) (ds : List PyData) (D : Ends) (H : Hp) (t0 r0 : Int) (v1 v2 v3 v4 v5 v6 v7 v8 v9 v10 v12 v13 v14 v16 v17 v18 v20 v21 : Option V), St7 P qn p pq ns H t0 r0 → t0 ≤ 1000 → H fl = some (.lst [y0, y1, y2, y3, y4, y5, y6]) → (∀ H, DhAll H [y0, y1, y2, y3, y4, y5, y6] ds) → ds.all flatD = true → cellB ds = false →
    (∀ (wa : Addr) (t' r' : Int) (H' : Hp), St7 P qn p pq ns H' t' r' → Kx p H H' → t' = t0 → Cf K PP CC H' wa ds → Same H H' →
      D.nx [some (.ref a), v1, v2, v3, v4, v5, v6, v7, v8, v9, v10, some (.ref fl), v12, v13, v14, some (.ref ca), v16, v17, v18, some (.ref p), some (.ref wa), v21] H') →
    t D [some (.ref a), v1, v2, v3, v4, v5, v6, v7, v8, v9, v10, some (.ref fl), v12, v13, v14, some (.ref ca), v16, v17, v18, some (.ref p), v20, v21] H := by
  have nd := scL.nd
  obtain ⟨fc, fdc, g, M, FC, bC, kC⟩ := T.mkC
  refine ⟨_, ps_set (i := 20) nd rfl (Or.inr rfl) (pe_make M FC (hr.mono (by decide)) (by rfl) T.mC bC .nil pass0 (pa_cons (pe_ix ix_list (pv 11) pe_int (fun _ _ => rfl)) (pa_cons (pe_ix ix_list (pv 11) pe_int (fun _ _ => rfl)) (pa_cons (pe_ix ix_list (pv 11) pe_int (fun _ _ => rfl)) (pa_cons (pe_ix ix_list (pv 11) pe_int (fun _ _ => rfl)) (pa_cons (pe_ix ix_list (pv 11) pe_int (fun _ _ => rfl)) (pa_cons (pe_ix ix_list (pv 11) pe_int (fun _ _ => rfl)) (pa_cons (pe_ix ix_list (pv 11) pe_int (fun _ _ => rfl)) pa_nil)))))))), fun p pq a ca fl ns y0 y1 y2 y3 y4 y5 y6 ds D H t0 r0 v1 v2 v3 v4 v5 v6 v7 v8 v9 v10 v12 v13 v14 v16 v17 v18 v20 v21 S ht hf hd fl1 cb k => ?_⟩
  refine ⟨_, rfl, fl, _, _, y0, rfl, rfl, .inl (.inl hf), atI_nat (xs := [y0, y1, y2, y3, y4, y5, y6]) (j := 0) rfl, _, rfl, fl, _, _, y1, rfl, rfl, .inl (.inl hf), atI_nat (xs := [y0, y1, y2, y3, y4, y5, y6]) (j := 1) rfl, _, rfl, fl, _, _, y2, rfl, rfl, .inl (.inl hf), atI_nat (xs := [y0, y1, y2, y3, y4, y5, y6]) (j := 2) rfl, _, rfl, fl, _, _, y3, rfl, rfl, .inl (.inl hf), atI_nat (xs := [y0, y1, y2, y3, y4, y5, y6]) (j := 3) rfl, _, rfl, fl, _, _, y4, rfl, rfl, .inl (.inl hf), atI_nat (xs := [y0, y1, y2, y3, y4, y5, y6]) (j := 4) rfl, _, rfl, fl, _, _, y5, rfl, rfl, .inl (.inl hf), atI_nat (xs := [y0, y1, y2, y3, y4, y5, y6]) (j := 5) rfl, _, rfl, fl, _, _, y6, rfl, rfl, .inl (.inl hf), atI_nat (xs := [y0, y1, y2, y3, y4, y5, y6]) (j := 6) rfl, fun wa dx hwa hdx hne => ?_⟩
  refine ⟨wa, dx, y0, y1, y2, y3, y4, y5, y6, ds, rfl, upd_same, T.pC, T.na, hd _, by rw [flat_depAll fl1]; decide, fun H2 sm2 hc => ⟨rfl, ?_⟩⟩
  have e := made_same hwa hdx sm2
  rw [flat_tupdAll fl1] at hc
  exact k wa t0 r0 H2 (S.same e) (.same e) rfl (Cf.of hc fl1) e
theorem st16 (T : TL Pr w base K mg PP CC CB CM fE) (hr : Room 12 (LX Pr w K mg base f cdv A outer s H0 E).A) (TH : TLh K mg CB CM) (TC : CodeL base mg cdv P) (hq : qn = (LX Pr w K mg base f cdv A outer s H0 E).env.qual ++ "<lambda>") : ∃ t, PS (LX Pr w K mg base f cdv A outer s H0 E) (tS 16) t ∧ ∀ (p pq a ca hl g1 g2 g3 g4 wa : Addr) (ns : List Int) (ds : List PyData) (D : Ends) (H : Hp) (t0 r0 : Int) (v1 v2 v3 v4 v5 v6 v7 v8 v9 v11 v12 v13 v14 v16 v17 v18 v21 : Option V), St7 P qn p pq ns H t0 r0 → t0 ≤ 1000 → Cf K PP CC H wa ds → cellB ds = false → H hl = some (.lst [.ref g1, .ref g2, .ref g3, .ref g4]) → hl ≠ p → H g1 = some (.tup [.str "number", .str "x"]) → H g2 = some (.tup [.str "number", .str "z"]) → H g3 = some (.tup [.str "number", .str "t"]) → H g4 = some (.tup [.str "number", .str "x"]) →
    (∀ (g5 : Addr) (t' r' : Int) (H' : Hp), St7 P qn p pq ns H' t' r' → Ky p hl H H' → t' ≤ t0 + 1 → H' hl = some (.lst [.ref g1, .ref g2, .ref g3, .ref g4, .ref g5]) → H' g1 = some (.tup [.str "number", .str "x"]) → H' g2 = some (.tup [.str "number", .str "z"]) → H' g3 = some (.tup [.str "number", .str "t"]) → H' g4 = some (.tup [.str "number", .str "x"]) → H' g5 = some (.tup [.str "misfit", .str "cell"]) →
      D.nx [some (.ref a), v1, v2, v3, v4, v5, v6, v7, v8, v9, some (.ref hl), v11, v12, v13, v14, some (.ref ca), v16, v17, v18, some (.ref p), some (.ref wa), v21] H') →
    t D [some (.ref a), v1, v2, v3, v4, v5, v6, v7, v8, v9, some (.ref hl), v11, v12, v13, v14, some (.ref ca), v16, v17, v18, some (.ref p), some (.ref wa), v21] H := by
  have nd := scL.nd
  obtain ⟨cL, rfl, TB⟩ := TC.ex
  subst hq
  obtain ⟨fc, fdc, g, M, FC, bC, kC⟩ := T.mkC
  obtain ⟨fp, MP, FP⟩ := T.mkP
  refine ⟨_, ps_expr (pe_bm PySem.F.plainAttrs_list PySem.F.slot_list_append PySem.F.type_list_append mt_append (pv 10) (pa_cons (pe_up (pe_heard (k := 9) TH (by rfl) TB rfl (hr.mono (by decide)) (lamS_by (sc := defScope sLaw) (by decide +kernel)) (by rfl) (fun _ _ _ _ _ => rfl) (fun A outer s H E f c' hr2 => pe_fa (E := E) T.top (hr2.mono (by decide)) pass_lam (by rfl) (pa_cons (pe_fa T.pick (hr2.mono (by decide)) pass0 (by rfl) (pa_cons (pv 19) (pa_cons (pe_lst (pa_cons pe_non (pa_cons pe_int (pa_cons (pv 20) (pa_cons (pe_make M FC (hr2.mono (by decide)) (by rfl) T.mC bC .nil pass0 (pa_cons pe_int (pa_cons pe_int (pa_cons pe_non (pa_cons pe_int (pa_cons pe_int (pa_cons pe_int (pa_cons pe_int pa_nil)))))))) (pa_cons (pe_make M FC (hr2.mono (by decide)) (by rfl) T.mC bC .nil pass0 (pa_cons pe_int (pa_cons pe_int (pa_cons pe_int (pa_cons pe_int (pa_cons pe_int (pa_cons pe_int (pa_cons pe_int pa_nil)))))))) (pa_cons (StX.pe_makeR MP FP (hr2.mono (by decide)) (by rfl) T.mP pass0 (pa_cons pe_str (pa_cons pe_int (pa_cons pe_int (pa_cons pe_int (pa_cons pe_int (pa_cons pe_int (pa_cons pe_int (pa_cons pe_int pa_nil))))))))) pa_nil))))))) pa_nil))) pa_nil)))) pa_nil)), fun p pq a ca hl g1 g2 g3 g4 wa ns ds D H t0 r0 v1 v2 v3 v4 v5 v6 v7 v8 v9 v11 v12 v13 v14 v16 v17 v18 v21 S ht cw cb hh nh d1 d2 d3 d4 k => ?_⟩
  refine ⟨_, rfl, .inl ⟨rfl, _, .inl (.inl hh)⟩, (fun v H' => ∃ r t1 r1, v = .ref r ∧ Kx p H H' ∧ St7 P ((LX Pr w K mg base f (Value.ref cL) A outer s H0 E).env.qual ++ "<lambda>") p pq ns H' t1 r1 ∧ t1 ≤ t0 + 1 ∧ H' r = some (.tup [.str "misfit", .str "cell"])), fun v1 H1 hz => ?_, ?_⟩
  · obtain ⟨a5, t5, r5, rfl, k1, S1, tt, d5⟩ := hz
    have hh1 := k1.lst nh hh
    refine ⟨hl, _, _, rfl, rfl, hh1, by show 4 < sizeLine; decide, ?_⟩
    have kk : Ky p hl H1 (upd H1 hl (.lst [.ref g1, .ref g2, .ref g3, .ref g4, .ref a5])) := Ky.at
    have sl : ∃ ys, H1 hl = some (.lst ys) := ⟨_, hh1⟩
    exact k a5 t5 r5 _ (S1.put hh1 nh (ref_ne S1 hh1)) ((Ky.kx k1).trans kk) tt upd_same (kk.tup S1.lst sl (k1.tup S.lst d1)) (kk.tup S1.lst sl (k1.tup S.lst d2)) (kk.tup S1.lst sl (k1.tup S.lst d3)) (kk.tup S1.lst sl (k1.tup S.lst d4)) (kk.tup S1.lst sl d5)
  refine ⟨S.tab, fun A1 eA tA u hu => ?_⟩
  have SA := (S.ext eA tA).same (same_new hu (.tup [.non, .non]))
  have kA : Kx p H (upd A1 u (.tup [.non, .non])) := (Kx.ext eA).trans (.new hu _)
  generalize upd A1 u (HO.tup [V.non, V.non]) = B at SA kA ⊢
  refine ⟨_, rfl, _, rfl, fun x1 dx1 hx1 hd1 hn1 => ?_⟩
  refine ⟨x1, dx1, _, _, _, _, _, _, _, [.int 2, .int 3, .none, .int 5, .int 1, .int 0, .int 0], rfl, upd_same, T.pC, T.na, .cons (.int _) (.cons (.int _) (.cons .non (.cons (.int _) (.cons (.int _) (.cons (.int _) (.cons (.int _) .nil)))))), (show 0 ≤ 3 by decide), fun B1 sm1 hc1 => ⟨rfl, ?_⟩⟩
  have e1 := made_same hx1 hd1 sm1
  refine fun x2 dx2 hx2 hd2 hn2 => ?_
  refine ⟨x2, dx2, _, _, _, _, _, _, _, [.int 2, .int 3, .int 5, .int 6, .int 4, .int 2, .int 3], rfl, upd_same, T.pC, T.na, .cons (.int _) (.cons (.int _) (.cons (.int _) (.cons (.int _) (.cons (.int _) (.cons (.int _) (.cons (.int _) .nil)))))), (show 0 ≤ 3 by decide), fun B2 sm2 hc2 => ⟨rfl, ?_⟩⟩
  have e2 := made_same hx2 hd2 sm2
  refine fun x3 dx3 hx3 hd3 hn3 => ?_
  refine spPI_star (w := "cell") (ds := [.int 2, .int 3, .int 5, .int 6, .int 1, .int 0, .int 0]) upd_same T.pP (by show 7 ≤ 100; decide) (.cons (.int _) (.cons (.int _) (.cons (.int _) (.cons (.int _) (.cons (.int _) (.cons (.int _) (.cons (.int _) .nil))))))) (show 0 + 1 < 6 by decide) (fun v3 B3 sm3 hc3 _ => ⟨rfl, ?_⟩)
  have e3 := made_same hx3 hd3 sm3
  refine ⟨by show 6 ≤ sizeLine; decide, fun l hl2 => ?_⟩
  have e4 := same_new hl2 (.lst [.non, .int 5, .ref wa, .ref x1, .ref x2, .ref x3])
  have q4 : upd B3 l (HO.lst [V.non, V.int 5, V.ref wa, V.ref x1, V.ref x2, V.ref x3]) l = some (.lst [.non, .int 5, .ref wa, .ref x1, .ref x2, .ref x3]) := upd_same
  have e14 := e1.trans (e2.trans (e3.trans e4))
  have S3 := SA.same (e1.trans (e2.trans e3))
  have S4 := S3.same e4
  generalize upd B3 l (HO.lst [V.non, V.int 5, V.ref wa, V.ref x1, V.ref x2, V.ref x3]) = B4 at e4 q4 e14 S4 ⊢
  refine ⟨p, pq, l, ns, t0, r0, _, rfl, S4.pen, q4, new_ne S3.lst hl2, by simp, by show 6 ≤ 1000; decide, by omega, fun x v t1 r1 H2 hv b1 b2 b3 sm5 hp5 => ?_⟩
  have S5 := S4.draw sm5 hp5 b1 (by omega) b3
  have k5 : Kx p H H2 := (kA.trans (.same e14)).trans (.sm sm5)
  have rz : ∀ H3, Same H2 H3 → Rz CM [("part", .str "cell")] H3 (EchR CB CM (fun v H' => ∃ r t1 r1, v = .ref r ∧ Kx p H H' ∧ St7 P ((LX Pr w K mg base f (Value.ref cL) A outer s H0 E).env.qual ++ "<lambda>") p pq ns H' t1 r1 ∧ t1 ≤ t0 + 1 ∧ H' r = some (.tup [.str "misfit", .str "cell"]))) := fun H3 s3 dxe hdxe =>
    ⟨dxe, .str "cell", rfl, upd_same, .inr ⟨rfl, fun t H4 sm ht hn => ⟨t, t1, r1, rfl, ((k5.trans (.same s3)).trans (.new hdxe _)).trans (.same sm), ((S5.same s3).same (same_new hdxe _)).same sm, b2, ht⟩⟩⟩
  have cells : ∀ {b : Addr} {ds : List PyData}, Cf K PP CC H2 b ds → cellB ds = false → spTopM K PP CC CM [.ref b] H2 (fun v H' => ∀ l, H' l = none → ∃ r t1 r1, V.ref l = .ref r ∧ Kx p H (upd H' l (.lst [v])) ∧ St7 P ((LX Pr w K mg base f (Value.ref cL) A outer s H0 E).env.qual ++ "<lambda>") p pq ns (upd H' l (.lst [v])) t1 r1 ∧ t1 ≤ t0 + 1 ∧ upd H' l (.lst [v]) r = some (.tup [.str "misfit", .str "cell"])) (EchR CB CM (fun v H' => ∃ r t1 r1, v = .ref r ∧ Kx p H H' ∧ St7 P ((LX Pr w K mg base f (Value.ref cL) A outer s H0 E).env.qual ++ "<lambda>") p pq ns H' t1 r1 ∧ t1 ≤ t0 + 1 ∧ H' r = some (.tup [.str "misfit", .str "cell"]))) :=
    fun {b ds} hcf hb => ⟨_, rfl, .inr ⟨b, ds, rfl, hcf.cel, T.kC, fun _ H3 s3 => rz H3 s3, fun z => by rw [hb] at z; cases z⟩⟩
  have up4 : Kx p B1 H2 := (Kx.same (e2.trans (e3.trans e4))).trans (.sm sm5)
  match x, hv with
  | 0, hv => cases hv; exact ⟨_, rfl, .inl ⟨_, .base .non, T.kNone, rz H2 (Same.refl _)⟩⟩
  | 1, hv => cases hv; exact ⟨_, rfl, .inl ⟨_, .base (.int _), T.kInt, rz H2 (Same.refl _)⟩⟩
  | 2, hv => cases hv; exact cells (cw.kx k5 S.lst) cb
  | 3, hv => cases hv; exact cells ((Cf.of hc1 rfl).kx up4 (SA.same e1).lst) rfl
  | 4, hv => cases hv; exact cells ((Cf.of hc2 rfl).kx ((Kx.same (e3.trans e4)).trans (.sm sm5)) (SA.same (e1.trans e2)).lst) (by decide)
  | 5, hv =>
    cases hv
    have o3 := ((Kx.same e4).trans (.sm sm5)).ins S3.lst hc3
    exact ⟨_, rfl, .inl ⟨_, .base (.ins o3 T.pP.n.cl T.pP.n.ca T.pP.n.sp T.pP.n.tk T.pP.n.mo), T.kPC, rz H2 (Same.refl _)⟩⟩
theorem st17 (T : TL Pr w base K mg PP CC CB CM fE) (hr : Room 12 (LX Pr w K mg base f cdv A outer s H0 E).A) : ∃ t, PS (LX Pr w K mg base f cdv A outer s H0 E) (tS 17) t ∧ ∀ (p pq a hl g1 g2 g3 g4 g5 : Addr) (ns : List Int) (D : Ends) (H : Hp) (t0 r0 : Int) (v1 v2 v3 v4 v5 v6 v7 v8 v9 v11 v12 v13 v14 v15 v16 v17 v18 v20 v21 : Option V), St7 P qn p pq ns H t0 r0 → t0 ≤ 1000 → H hl = some (.lst [.ref g1, .ref g2, .ref g3, .ref g4, .ref g5]) → H g1 = some (.tup [.str "number", .str "x"]) → H g2 = some (.tup [.str "number", .str "z"]) → H g3 = some (.tup [.str "number", .str "t"]) → H g4 = some (.tup [.str "number", .str "x"]) → H g5 = some (.tup [.str "misfit", .str "cell"]) →
    (∀  (t' r' : Int) (H' : Hp), St7 P qn p pq ns H' t' r' → Kx p H H' → t' = t0 → Same H H' →
      D.nx [some (.ref a), v1, v2, v3, v4, v5, v6, v7, v8, v9, some (.ref hl), v11, v12, v13, v14, v15, v16, v17, v18, some (.ref p), v20, v21] H') →
    t D [some (.ref a), v1, v2, v3, v4, v5, v6, v7, v8, v9, some (.ref hl), v11, v12, v13, v14, v15, v16, v17, v18, some (.ref p), v20, v21] H := by
  have nd := scL.nd
  refine ⟨_, ps_if (pt_cmpR (op_neD hr.units) (pv 10) (pe_lst (pa_cons (pe_tup (pa_cons pe_str (pa_cons pe_str pa_nil))) (pa_cons (pe_tup (pa_cons pe_str (pa_cons pe_str pa_nil))) (pa_cons (pe_tup (pa_cons pe_str (pa_cons pe_str pa_nil))) (pa_cons (pe_tup (pa_cons pe_str (pa_cons pe_str pa_nil))) (pa_cons (pe_tup (pa_cons pe_str (pa_cons pe_str pa_nil))) pa_nil)))))) (nomark _)) (pss_one (ps_ret pe_bl)) pss_nil, fun p pq a hl g1 g2 g3 g4 g5 ns D H t0 r0 v1 v2 v3 v4 v5 v6 v7 v8 v9 v11 v12 v13 v14 v15 v16 v17 v18 v20 v21 S ht hh d1 d2 d3 d4 d5 k => ?_⟩
  refine ⟨_, rfl, by show 2 ≤ sizeLine; decide, fun u0 hu0 => ?_⟩
  have e0 := same_new hu0 (.tup [.str "number", .str "x"])
  have q0 : upd H u0 (HO.tup [V.str "number", V.str "x"]) u0 = some (.tup [.str "number", .str "x"]) := upd_same
  generalize upd H u0 (HO.tup [V.str "number", V.str "x"]) = G0 at e0 q0 ⊢
  refine ⟨by show 2 ≤ sizeLine; decide, fun u1 hu1 => ?_⟩
  have e1 := same_new hu1 (.tup [.str "number", .str "z"])
  have q1 : upd G0 u1 (HO.tup [V.str "number", V.str "z"]) u1 = some (.tup [.str "number", .str "z"]) := upd_same
  generalize upd G0 u1 (HO.tup [V.str "number", V.str "z"]) = G1 at e1 q1 ⊢
  refine ⟨by show 2 ≤ sizeLine; decide, fun u2 hu2 => ?_⟩
  have e2 := same_new hu2 (.tup [.str "number", .str "t"])
  have q2 : upd G1 u2 (HO.tup [V.str "number", V.str "t"]) u2 = some (.tup [.str "number", .str "t"]) := upd_same
  generalize upd G1 u2 (HO.tup [V.str "number", V.str "t"]) = G2 at e2 q2 ⊢
  refine ⟨by show 2 ≤ sizeLine; decide, fun u3 hu3 => ?_⟩
  have e3 := same_new hu3 (.tup [.str "number", .str "x"])
  have q3 : upd G2 u3 (HO.tup [V.str "number", V.str "x"]) u3 = some (.tup [.str "number", .str "x"]) := upd_same
  generalize upd G2 u3 (HO.tup [V.str "number", V.str "x"]) = G3 at e3 q3 ⊢
  refine ⟨by show 2 ≤ sizeLine; decide, fun u4 hu4 => ?_⟩
  have e4 := same_new hu4 (.tup [.str "misfit", .str "cell"])
  have q4 : upd G3 u4 (HO.tup [V.str "misfit", V.str "cell"]) u4 = some (.tup [.str "misfit", .str "cell"]) := upd_same
  generalize upd G3 u4 (HO.tup [V.str "misfit", V.str "cell"]) = G4 at e4 q4 ⊢
  refine ⟨by show 5 ≤ sizeLine; decide, fun l hl2 => ?_⟩
  have e5 := same_new hl2 (.lst [.ref u0, .ref u1, .ref u2, .ref u3, .ref u4])
  have q5 : upd G4 l (HO.lst [V.ref u0, V.ref u1, V.ref u2, V.ref u3, V.ref u4]) l = some (.lst [.ref u0, .ref u1, .ref u2, .ref u3, .ref u4]) := upd_same
  generalize upd G4 l (HO.lst [V.ref u0, V.ref u1, V.ref u2, V.ref u3, V.ref u4]) = G5 at e5 q5 ⊢
  have f4 := e4.trans e5
  have f3 := e3.trans f4
  have f2 := e2.trans f3
  have f1 := e1.trans f2
  have f0 := e0.trans f1
  have pr : ∀ {t : Addr} {x y : Str}, G5 t = some (.tup [.str x, .str y]) → Dh G5 (.ref t) (.tuple [.str x, .str y]) := fun h => .tup h (by show 2 ≤ 100; decide) (.cons (.str _) (.cons (.str _) .nil))
  refine ⟨.list [.tuple [.str "number", .str "x"], .tuple [.str "number", .str "z"], .tuple [.str "number", .str "t"], .tuple [.str "number", .str "x"], .tuple [.str "misfit", .str "cell"]], .list [.tuple [.str "number", .str "x"], .tuple [.str "number", .str "z"], .tuple [.str "number", .str "t"], .tuple [.str "number", .str "x"], .tuple [.str "misfit", .str "cell"]], Dh.dp _ _ (.lst (f0 _ _ hh) (by show 5 ≤ 100; decide) (.cons (pr (f0 _ _ d1)) (.cons (pr (f0 _ _ d2)) (.cons (pr (f0 _ _ d3)) (.cons (pr (f0 _ _ d4)) (.cons (pr (f0 _ _ d5)) .nil)))))),
    Dh.dp _ _ (.lst q5 (by show 5 ≤ 100; decide) (.cons (pr (f1 _ _ q0)) (.cons (pr (f2 _ _ q1)) (.cons (pr (f3 _ _ q2)) (.cons (pr (f4 _ _ q3)) (.cons (pr (e5 _ _ q4)) .nil)))))), by decide +kernel, by decide +kernel, _, rfl, ?_⟩
  refine iteF' (eqv_same (by decide +kernel)) ?_
  exact k t0 r0 G5 (S.same f0) (.same f0) rfl f0
end
end My

set_option maxHeartbeats 8000000
namespace My
open PySem PySem.Spec PyProof.Rows L2 LamX
theorem Ky.lst {p l b : Addr} {H H' : Hp} {xs : List V} (e : Ky p l H H') (n1 : b ≠ p) (n2 : b ≠ l) (h : H b = some (.lst xs)) : H' b = some (.lst xs) := e _ _ n1 n2 (fun _ z => nomatch z) h
section
variable {Pr : Program} {w : World} {K : PySem.W.Frag} {mg : Str → Option Value} {base : Heap} {f : Addr} {cdv : Value} {A : Around} {outer : List Env} {s : Shared} {H0 : Hp} {E : XK} {PP CC CB CM fE P : Addr} {qn : Str}
theorem st_loop (T : TL Pr w base K mg PP CC CB CM fE) (hr : Room 12 (LX Pr w K mg base f cdv A outer s H0 E).A) (hg : (LX Pr w K mg base f cdv A outer s H0 E).A.guards = some []) (TH : TLh K mg CB CM) (TC : CodeL base mg cdv P) (hq : qn = (LX Pr w K mg base f cdv A outer s H0 E).env.qual ++ "<lambda>") : ∃ t, PS (LX Pr w K mg base f cdv A outer s H0 E) (lS 1) t ∧ ∀ (p pq a : Addr) (ns : List Int) (D : Ends) (H : Hp) (r0 : Int) (v1 v2 v3 v4 v5 v6 v7 v8 v9 v10 v11 v12 v13 v14 v15 v16 v17 v18 v20 v21 : Option V), St7 P qn p pq ns H 0 r0 →
    (∀ (w1 w2 w3 w4 w5 w6 w7 w8 w9 w10 w11 w12 w13 w14 w15 w16 w17 w18 w20 w21 : Option V) (t' r' : Int) (H' : Hp), St7 P qn p pq ns H' t' r' → D.nx [some (.ref a), w1, w2, w3, w4, w5, w6, w7, w8, w9, w10, w11, w12, w13, w14, w15, w16, w17, w18, some (.ref p), w20, w21] H') → t D [some (.ref a), v1, v2, v3, v4, v5, v6, v7, v8, v9, v10, v11, v12, v13, v14, v15, v16, v17, v18, some (.ref p), v20, v21] H := by
  have nd := scL.nd
  obtain ⟨t0, P0, R0⟩ := st0 (f := f) (cdv := cdv) (A := A) (outer := outer) (s := s) (H0 := H0) (E := E) (P := P) (qn := qn) T hr
  obtain ⟨t1, P1, R1⟩ := st1 (f := f) (cdv := cdv) (A := A) (outer := outer) (s := s) (H0 := H0) (E := E) (P := P) (qn := qn) T hr
  obtain ⟨t2, P2, R2⟩ := st2 (f := f) (cdv := cdv) (A := A) (outer := outer) (s := s) (H0 := H0) (E := E) (P := P) (qn := qn) T hr
  obtain ⟨t3, P3, R3⟩ := st3 (f := f) (cdv := cdv) (A := A) (outer := outer) (s := s) (H0 := H0) (E := E) (P := P) (qn := qn) T hr
  obtain ⟨t4, P4, R4⟩ := st4 (f := f) (cdv := cdv) (A := A) (outer := outer) (s := s) (H0 := H0) (E := E) (P := P) (qn := qn) T hr
  obtain ⟨t5, P5, R5⟩ := st5 (f := f) (cdv := cdv) (A := A) (outer := outer) (s := s) (H0 := H0) (E := E) (P := P) (qn := qn) T hr
  obtain ⟨t6, P6, R6⟩ := st6 (f := f) (cdv := cdv) (A := A) (outer := outer) (s := s) (H0 := H0) (E := E) (P := P) (qn := qn) T hr hg TH TC hq
  obtain ⟨t7, P7, R7⟩ := st7 (f := f) (cdv := cdv) (A := A) (outer := outer) (s := s) (H0 := H0) (E := E) (P := P) (qn := qn) T hr
  obtain ⟨t8, P8, R8⟩ := st8 (f := f) (cdv := cdv) (A := A) (outer := outer) (s := s) (H0 := H0) (E := E) (P := P) (qn := qn) T hr hg
  obtain ⟨t9, P9, R9⟩ := st9 (f := f) (cdv := cdv) (A := A) (outer := outer) (s := s) (H0 := H0) (E := E) (P := P) (qn := qn) T hr
  obtain ⟨t10, P10, R10⟩ := st10 (f := f) (cdv := cdv) (A := A) (outer := outer) (s := s) (H0 := H0) (E := E) (P := P) (qn := qn) T hr
  obtain ⟨t11, P11, R11⟩ := st11 (f := f) (cdv := cdv) (A := A) (outer := outer) (s := s) (H0 := H0) (E := E) (P := P) (qn := qn) T hr TH TC hq
  obtain ⟨t12, P12, R12⟩ := st12 (f := f) (cdv := cdv) (A := A) (outer := outer) (s := s) (H0 := H0) (E := E) (P := P) (qn := qn) T hr TH TC hq
  obtain ⟨t13, P13, R13⟩ := st13 (f := f) (cdv := cdv) (A := A) (outer := outer) (s := s) (H0 := H0) (E := E) (P := P) (qn := qn) T hr
  obtain ⟨t14, P14, R14⟩ := st14 (f := f) (cdv := cdv) (A := A) (outer := outer) (s := s) (H0 := H0) (E := E) (P := P) (qn := qn) T hr
  obtain ⟨t15, P15, R15⟩ := st15 (f := f) (cdv := cdv) (A := A) (outer := outer) (s := s) (H0 := H0) (E := E) (P := P) (qn := qn) T hr
  obtain ⟨t16, P16, R16⟩ := st16 (f := f) (cdv := cdv) (A := A) (outer := outer) (s := s) (H0 := H0) (E := E) (P := P) (qn := qn) T hr TH TC hq
  obtain ⟨t17, P17, R17⟩ := st17 (f := f) (cdv := cdv) (A := A) (outer := outer) (s := s) (H0 := H0) (E := E) (P := P) (qn := qn) T hr
  refine ⟨_, ps_for PassesOwn.never rfl (pi_range1 (by rfl) T.n_range (pa_cons pe_int pa_nil)) (pg_name (i := 1) nd rfl (Or.inl rfl)) (pss_cons P0 (pss_cons P1 (pss_cons P2 (pss_cons P3 (pss_cons P4 (pss_cons P5 (pss_cons P6 (pss_cons P7 (pss_cons P8 (pss_cons P9 (pss_cons P10 (pss_cons P11 (pss_cons P12 (pss_cons P13 (pss_cons P14 (pss_cons P15 (pss_cons P16 (pss_one P17)))))))))))))))))), fun p pq a ns D H r0 v1 v2 v3 v4 v5 v6 v7 v8 v9 v10 v11 v12 v13 v14 v15 v16 v17 v18 v20 v21 S k => ?_⟩
  refine ⟨8, rfl, by decide, by decide, for_range (n := 8) (fun i σ H2 => ∃ (v1 v2 v3 v4 v5 v6 v7 v8 v9 v10 v11 v12 v13 v14 v15 v16 v17 v18 v20 v21 : Option V) (t r : Int), σ = [some (.ref a), v1, v2, v3, v4, v5, v6, v7, v8, v9, v10, v11, v12, v13, v14, v15, v16, v17, v18, some (.ref p), v20, v21] ∧ St7 P qn p pq ns H2 t r ∧ t ≤ 40 * i) ⟨v1, v2, v3, v4, v5, v6, v7, v8, v9, v10, v11, v12, v13, v14, v15, v16, v17, v18, v20, v21, 0, r0, rfl, S, by decide⟩ ?_ ?_⟩
  · rintro i σ G0 hi8 ⟨v1, v2, v3, v4, v5, v6, v7, v8, v9, v10, v11, v12, v13, v14, v15, v16, v17, v18, v20, v21, t, r, rfl, S0, tt⟩
    have i8 : i < 8 := hi8
    refine R0 _ _ _ _ _ _ _ _ _ _ _ _ _ _ _ _ _ _ _ _ _ _ _ _ _ _ _ _ S0 (by omega) fun lo pe t1 r1 G1 S1 k1 u1 l0 l1 p0 p1 => ?_
    refine R1 _ _ _ _ _ _ _ _ _ _ _ _ _ _ _ _ _ _ _ _ _ _ _ _ _ _ _ _ S1 (by omega) p0 p1 fun fi t2 r2 G2 S2 k2 u2 f0 f1 => ?_
    refine R2 _ _ _ _ _ _ _ _ _ _ _ _ _ _ _ _ _ _ _ _ _ _ _ _ _ _ _ _ S2 (by omega) p1 f0 f1 fun la t3 r3 G3 S3 k3 u3 f2 f3 => ?_
    refine R3 _ _ _ _ _ _ _ _ _ _ _ _ _ _ _ _ _ _ _ _ _ _ _ _ _ _ _ _ S3 (by omega) fun hi zl t4 r4 G4 S4 k4 u4 h0 h1 z0 z1 => ?_
    refine R4 _ _ _ _ _ _ _ _ _ _ _ _ _ _ _ _ _ _ _ _ _ _ _ _ _ _ _ _ S4 (by omega) fun ca zh t5 r5 G5 S5 k5 u5 ci z2 z3 => ?_
    have dr : Dr ⟨zl, zh, lo, hi, pe, fi, la⟩ := ⟨l0, l1, p0, p1, f0, f2, f3, h0, h1, z0, z1, z2, z3⟩
    refine R5 _ _ _ _ _ _ _ _ _ _ _ _ _ _ _ _ _ _ _ _ _ _ _ _ _ _ _ _ _ S5 (by omega) dr fun xa t6 r6 G6 S6 k6 u6 hx nx => ?_
    have ci6 := ci.kx k6 S5.lst
    refine R6 _ _ _ _ _ _ _ _ _ _ _ _ _ _ _ _ _ _ _ _ _ _ _ _ _ _ _ _ _ S6 (by omega) dr ci6 hx nx fun w7 w9 w10 t7 r7 G7 S7 k7 u7 => ?_
    have ci7 := ci6.kx k7 S6.lst
    have hx7 := k7.lst nx hx
    refine R7 _ _ _ _ _ _ _ _ _ _ _ _ _ _ _ _ _ _ _ _ _ _ _ _ _ _ _ _ _ S7 (by omega) dr hx7 fun t8 r8 G8 S8 k8 u8 e8 => ?_
    have ci8 := ci7.kx k8 S7.lst
    have hx8 := k8.lst nx hx7
    refine R8 _ _ _ _ _ _ _ _ _ _ _ _ _ _ _ _ _ _ _ _ _ _ _ _ _ _ _ _ S8 (by omega) dr ci8 hx8 fun t9 r9 G9 S9 k9 u9 e9 => ?_
    have ci9 := ci8.kx k9 S8.lst
    have hx9 := k9.lst nx hx8
    refine R9 _ _ _ _ _ _ _ _ _ _ _ _ _ _ _ _ _ _ _ _ _ _ _ _ _ _ _ _ S9 (by omega) dr ci9 hx9 fun t10 r10 G10 S10 k10 u10 e10 => ?_
    have ci10 := ci9.kx k10 S9.lst
    refine R10 _ _ _ _ _ _ _ _ _ _ _ _ _ _ _ _ _ _ _ _ _ _ _ _ _ _ _ _ S10 (by omega) fun vb vn db dn t11 r11 G11 S11 k11 u11 hvb hvn nb nn => ?_
    have ci11 := ci10.kx k11 S10.lst
    refine R11 _ _ _ _ _ _ _ _ _ _ _ _ _ _ _ _ _ _ _ _ _ _ _ _ _ _ _ _ _ _ S11 (by omega) dr ci11 hvb hvn nb nn fun hl g1 g2 g3 t12 r12 G12 S12 k12 u12 hh nh d1 d2 d3 => ?_
    have ci12 := ci11.kx k12 S11.lst
    refine R12 _ _ _ _ _ _ _ _ _ _ _ _ _ _ _ _ _ _ _ _ _ _ _ _ _ _ _ _ _ _ _ S12 (by omega) dr ci12 hh nh d1 d2 d3 fun g4 t13 r13 G13 S13 k13 u13 hh3 c1 c2 c3 c4 => ?_
    have ci13 := ci12.ky k13 S12.lst ⟨_, hh⟩
    refine R13 _ _ _ _ _ _ _ _ _ _ _ _ _ _ _ _ _ _ _ _ _ _ _ _ _ _ _ _ S13 (by omega) ci13 fun fl ix t14 r14 G14 S14 k14 u14 hf nf i0 i7 nq af => ?_
    have nhf : hl ≠ fl := af _ _ hh3
    have hh4 := k14.lst nh hh3
    have b1 := k14.tup S13.lst c1
    have b2 := k14.tup S13.lst c2
    have b3 := k14.tup S13.lst c3
    have b4 := k14.tup S13.lst c4
    refine R14 _ _ _ _ _ _ _ _ _ _ _ _ _ _ _ _ _ _ _ _ _ _ _ _ _ _ _ _ S14 (by omega) dr hf nf nq i0 i7 fun y0 y1 y2 y3 y4 y5 y6 ds t15 r15 G15 S15 k15 u15 hf5 hd fl1 cb => ?_
    have sl : ∃ ys, G14 fl = some (.lst ys) := ⟨_, hf⟩
    have hh5 := k15.lst nh nhf hh4
    have a1 := k15.tup S14.lst sl b1
    have a2 := k15.tup S14.lst sl b2
    have a3 := k15.tup S14.lst sl b3
    have a4 := k15.tup S14.lst sl b4
    refine R15 _ _ _ _ _ _ _ _ _ _ _ _ _ _ _ _ _ _ _ _ _ _ _ _ _ _ _ _ _ _ _ _ _ _ _ _ S15 (by omega) hf5 hd fl1 cb fun wa t16 r16 G16 S16 k16 u16 hw e16 => ?_
    refine R16 _ _ _ _ _ _ _ _ _ _ _ _ _ _ _ _ _ _ _ _ _ _ _ _ _ _ _ _ _ _ _ _ _ S16 (by omega) hw cb (e16 _ _ hh5) nh (e16 _ _ a1) (e16 _ _ a2) (e16 _ _ a3) (e16 _ _ a4) fun g5 t17 r17 G17 S17 k17 u17 hh7 n1 n2 n3 n4 n5 => ?_
    refine R17 _ _ _ _ _ _ _ _ _ _ _ _ _ _ _ _ _ _ _ _ _ _ _ _ _ _ _ _ _ _ _ _ _ S17 (by omega) hh7 n1 n2 n3 n4 n5 fun t18 r18 G18 S18 k18 u18 e18 => ?_
    exact ⟨_, _, _, _, _, _, _, _, _, _, _, _, _, _, _, _, _, _, _, _, t18, r18, rfl, S18, by omega⟩
  · rintro σ G ⟨v1, v2, v3, v4, v5, v6, v7, v8, v9, v10, v11, v12, v13, v14, v15, v16, v17, v18, v20, v21, t, r, rfl, S2, _⟩
    exact k v1 v2 v3 v4 v5 v6 v7 v8 v9 v10 v11 v12 v13 v14 v15 v16 v17 v18 v20 v21 t r G S2
end
end My

set_option maxHeartbeats 8000000
namespace My
open PySem PySem.Spec PyProof.Rows L2 LamX
theorem nf_self {K : PySem.W.Frag} {C : Addr} : PySem.W.notFirst K C (.ref C) = true := by
  have h : ((Value.ref C : Value) == Value.ref C) = true := by simp
  unfold PySem.W.notFirst
  rw [h]
  rfl
/-- what the written part gives of == and bool of cells -/
structure TLe (Pr : Program) (w : World) (base : Heap) (K : PySem.W.Frag) (mg : Str → Option Value) (PP CC : Addr) : Prop where
  eq : ∃ fE fdE, EqC K CC fE ∧ FnOk Pr w K mg base CX0 9 fE fdE ["self", "other"] (spEqv K PP) ∧ Binds K fdE ["self", "other"] []
  bo : ∃ fB fdB, PySem.W.findIn K (.ref CC) "__bool__" = some (some (.ref fB)) ∧ PySem.W.isFn K (.ref fB) = true ∧ FnOk Pr w K mg base CX0 1 fB fdB ["self"] (spCst true) ∧ Binds K fdB ["self"] []
def one7 : List PyData := [.int 1, .int 2, .int 3, .int 4, .int 5, .int 6, .int 7]
def tru7 : List PyData := [.bool true, .int 2, .int 3, .int 4, .int 5, .int 6, .int 7]
theorem alk_one : alike (.tuple [.str "cell", .tuple one7]) (.tuple [.str "cell", .tuple one7]) = true := by
  simp [alike, alikeAll, isB, PyData.eqv, one7]
theorem alk_tru : alike (.tuple [.str "cell", .tuple one7]) (.tuple [.str "cell", .tuple tru7]) = false := by
  simp [alike, alikeAll, isB, PyData.eqv, one7, tru7]
/-- two cells compared -/
theorem cel_eqv {K : PySem.W.Frag} {PP CC a b : Addr} {H : Hp} {ds es : List PyData} {Q : VK} {E : XK} (h1 : CelAt K PP CC H a ds) (h2 : CelAt K PP CC H b es) (l1 : PyData.canLay0 (.tuple ds) = true) (l2 : PyData.canLay0 (.tuple es) = true) (p1 : dep (.tuple ds) ≤ 5) (p2 : dep (.tuple es) ≤ 5)
    {r : Bool} (hr : alike (.tuple [.str "cell", .tuple ds]) (.tuple [.str "cell", .tuple es]) = r) (q : ∀ H', Same H H' → Q (.bl r) H') : spEqv K PP [.ref a, .ref b] H Q E := by
  obtain ⟨x, pa⟩ := h1.pap
  obtain ⟨y, pb⟩ := h2.pap
  refine ⟨a, CC, _, _, _, _, _, rfl, pa, l1, by decide +kernel, p1, .inr ⟨b, CC, _, _, _, _, rfl, pb, l2, by decide +kernel, p2, fun H' s => ?_⟩⟩
  rw [hr]
  have z : (("Cell" : Str) == "Cell") = true := by decide +kernel
  rw [z, Bool.true_and]
  exact q H' s
theorem CelAt.ty {K : PySem.W.Frag} {P C : Addr} {H : Hp} {a : Addr} {ds : List PyData} (h : CelAt K P C H a ds) : TyX K H (.ref a) (.ref C) := let ⟨_, p⟩ := h.pap; p.ty
theorem iteT2 {c : Bool} {P Q : Prop} (h : c = true) (p : P) : if c = true then P else Q := by rw [if_pos h]; exact p
def spLaw (K : PySem.W.Frag) (P : Addr) : Sp := fun vs H Q _ => ∃ (a : Addr) (ns : List Int), vs = [.ref a] ∧ SqL K H a (ns.map V.int) ∧ ns.length ≤ 63 ∧ H P = some (.tbl #[]) ∧ ∀ H', Q (.bl true) H'
section
variable {Pr : Program} {w : World} {K : PySem.W.Frag} {mg : Str → Option Value} {base : Heap} {f : Addr} {cdv : Value} {A : Around} {outer : List Env} {s : Shared} {H0 : Hp} {E : XK} {PP CC CB CM fE P : Addr} {qn : Str}
theorem law_body (T : TL Pr w base K mg PP CC CB CM fE) (TE : TLe Pr w base K mg PP CC) (hr : Room 12 (LX Pr w K mg base f cdv A outer s H0 E).A) (hg : (LX Pr w K mg base f cdv A outer s H0 E).A.guards = some []) (TH : TLh K mg CB CM) (TC : CodeL base mg cdv P) (hq : qn = (LX Pr w K mg base f cdv A outer s H0 E).env.qual ++ "<lambda>") {vs : List V} {Q : VK} (h : spLaw K P vs H0 Q E) : ∃ t, PSs (cxOf CX0 Pr w K mg base NL "law" (defScope sLaw) f cdv A outer s H0 E) (defBody sLaw) t ∧ t { nx := fun _ H' => Q .non H', rt := Q } (L2.start NL vs) H0 := by
  have nd := scL.nd
  obtain ⟨fc, fdc, g, M, FC, bC, kC⟩ := T.mkC
  obtain ⟨fq, fdq, eqc, GE, bE⟩ := TE.eq
  obtain ⟨fb, fdb, bo1, bo2, GB, bB⟩ := TE.bo
  obtain ⟨tL, PL, RL⟩ := st_loop (f := f) (cdv := cdv) (A := A) (outer := outer) (s := s) (H0 := H0) (E := E) (P := P) (qn := qn) T hr hg TH TC hq
  obtain ⟨a, ns, rfl, ha, hl, hP, k⟩ := h
  refine ⟨_, PSs.nox (X := cxOf CX0 Pr w K mg base NL "law" (defScope sLaw) f cdv A outer s H0 E) (pss_cons (ps_set (i := 19) nd rfl (Or.inr rfl) (pe_fa T.pen (hr.mono (by decide)) pass0 (by rfl) (pa_cons (pv 0) pa_nil))) (pss_cons PL (pss_cons (ps_set (i := 13) nd rfl (Or.inl rfl) (pe_makeK0 M FC (hr.mono (by decide)) (by rfl) T.mC kC pass0 (pk_cons pe_int (pk_cons pe_int (pk_cons pe_int (pk_cons pe_int (pk_cons pe_int (pk_cons pe_int (pk_cons pe_int pk_nil))))))))) (pss_one (ps_ret (pe_and (pe_cmpR (op_eqD hr.units) (pe_fld (pv 13) rfl) (pe_tup (pa_cons pe_int (pa_cons pe_int (pa_cons pe_int (pa_cons pe_int (pa_cons pe_int (pa_cons pe_int (pa_cons pe_int pa_nil)))))))) (nomark _)) (pe_and (pe_cmpR op_eq (pe_fld (pv 13) rfl) pe_str (nomark _)) (pe_and (pe_callTy (call_boolP (k := 1) (hr.mono (by decide))) (by rfl) T.n_bool (by decide +kernel) (pa_cons (pv 13) pa_nil)) (pe_and (pe_cmpR (op_eqP GE (hr.mono (by decide)) bE) (pv 13) (pe_make M FC (hr.mono (by decide)) (by rfl) T.mC bC .nil pass0 (pa_cons pe_int (pa_cons pe_int (pa_cons pe_int (pa_cons pe_int (pa_cons pe_int (pa_cons pe_int (pa_cons pe_int pa_nil)))))))) (nomark _)) (pe_one (pe_cmpR (op_neP GE (hr.mono (by decide)) bE) (pe_make M FC (hr.mono (by decide)) (by rfl) T.mC bC .nil pass0 (pa_cons pe_int (pa_cons pe_int (pa_cons pe_int (pa_cons pe_int (pa_cons pe_int (pa_cons pe_int (pa_cons pe_int pa_nil)))))))) (pe_make M FC (hr.mono (by decide)) (by rfl) T.mC bC .nil pass0 (pa_cons pe_bl (pa_cons pe_int (pa_cons pe_int (pa_cons pe_int (pa_cons pe_int (pa_cons pe_int (pa_cons pe_int pa_nil)))))))) (nomark _)))))))))))), ?_⟩
  refine ⟨_, rfl, a, ns, rfl, ha, hl, fun p pq ms H1 e1 hp0 pen => ?_⟩
  have tb : Tabs [(P, qn)] H1 := fun z hz => by
    rw [List.mem_singleton.mp hz]
    exact TabS.nil (e1 _ _ hP)
  refine RL p pq a ms _ H1 0 none none none none none none none none none none none none none none none none none none none none ⟨pen, tb⟩ fun v1 v2 v3 v4 v5 v6 v7 v8 v9 v10 v11 v12 v13 v14 v15 v16 v17 v18 v20 v21 t2 r2 H2 S2 => ?_
  refine ⟨rfl, rfl, ?_⟩
  refine fun x0 dx0 hx0 hd0 hn0 => ?_
  refine ⟨x0, dx0, _, _, _, _, _, _, _, [.int 1, .int 2, .int 3, .int 4, .int 5, .int 6, .int 7], rfl, upd_same, T.pC, T.na, (.cons (.int _) (.cons (.int _) (.cons (.int _) (.cons (.int _) (.cons (.int _) (.cons (.int _) (.cons (.int _) .nil))))))), (show 0 ≤ 3 by decide), fun H3 sm0 c0 => ⟨rfl, ?_⟩⟩
  have e0 : Same H2 H3 := made_same hx0 hd0 sm0
  have one := c0
  obtain ⟨dxo, bo, y0, y1, y2, y3, y4, y5, y6, oo, to, do_⟩ := id one.ob
  have do7 : DhAll H3 [y0, y1, y2, y3, y4, y5, y6] one7 := do_
  have c7 : CelAt K PP CC H3 x0 one7 := c0
  have lk : (cfs "cell" (.ref bo) y0 y1 y2 y3 y4 y5 y6).lookup ("parts" : Str) = some (V.ref bo) := rfl
  have lk2 : (cfs "cell" (.ref bo) y0 y1 y2 y3 y4 y5 y6).lookup ("word" : Str) = some (V.str "cell") := rfl
  refine ⟨_, rfl, x0, CC, dxo, _, _, rfl, oo, T.pC.n.cl, T.pC.np, lk, ?_⟩
  refine ⟨by show 7 ≤ sizeLine; decide, fun q1 hq1 => ?_⟩
  have f1 := same_new hq1 (.tup [V.int 1, V.int 2, V.int 3, V.int 4, V.int 5, V.int 6, V.int 7])
  have u1 : upd H3 q1 (HO.tup [V.int 1, V.int 2, V.int 3, V.int 4, V.int 5, V.int 6, V.int 7]) q1 = some (.tup [V.int 1, V.int 2, V.int 3, V.int 4, V.int 5, V.int 6, V.int 7]) := upd_same
  generalize upd H3 q1 (HO.tup [V.int 1, V.int 2, V.int 3, V.int 4, V.int 5, V.int 6, V.int 7]) = G1 at f1 u1 ⊢
  refine ⟨.tuple one7, .tuple one7, Dh.dp _ _ (.tup (f1 _ _ to) (by show 7 ≤ 100; decide) (DhAll.same f1 _ _ do7)), Dh.dp _ _ (.tup u1 (by show 7 ≤ 100; decide) (.cons (.int _) (.cons (.int _) (.cons (.int _) (.cons (.int _) (.cons (.int _) (.cons (.int _) (.cons (.int _) .nil)))))))), by decide +kernel, by decide +kernel, _, rfl, ?_⟩
  refine iteT2 (by decide +kernel) ?_
  refine ⟨_, rfl, x0, CC, dxo, _, _, rfl, f1 _ _ oo, T.pC.n.cl, T.pC.nw, lk2, ?_⟩
  refine ⟨rfl, _, rfl, ?_⟩
  refine iteT2 (by decide +kernel) ?_
  refine ⟨_, rfl, ?_⟩
  refine ⟨x0, CC, dxo, fb, _, fdb, _, true, rfl, f1 _ _ oo, bo1, bo2, GB, bB, _, rfl, ?_⟩
  refine iteT2 rfl ?_
  refine ⟨_, rfl, ?_⟩
  have k7 := c7.same f1
  refine fun x1 dx1 hx1 hd1 hn1 => ?_
  refine ⟨x1, dx1, _, _, _, _, _, _, _, [.int 1, .int 2, .int 3, .int 4, .int 5, .int 6, .int 7], rfl, upd_same, T.pC, T.na, (.cons (.int _) (.cons (.int _) (.cons (.int _) (.cons (.int _) (.cons (.int _) (.cons (.int _) (.cons (.int _) .nil))))))), (show 0 ≤ 3 by decide), fun G2 sm1 c1 => ⟨rfl, ?_⟩⟩
  have e1 : Same G1 G2 := made_same hx1 hd1 sm1
  have k71 : CelAt K PP CC G2 x1 one7 := c1
  refine ⟨x0, CC, dxo, _, _, rfl, e1 _ _ (f1 _ _ oo), eqc, k71.ty, nf_self, ?_⟩
  refine cel_eqv (r := true) (k7.same e1) k71 (by decide +kernel) (by decide +kernel) (by decide) (by decide) alk_one fun H4 s4 => ⟨true, rfl, ?_⟩
  refine ⟨_, rfl, ?_⟩
  refine iteT2 rfl ?_
  refine fun x2 dx2 hx2 hd2 hn2 => ?_
  refine ⟨x2, dx2, _, _, _, _, _, _, _, [.int 1, .int 2, .int 3, .int 4, .int 5, .int 6, .int 7], rfl, upd_same, T.pC, T.na, (.cons (.int _) (.cons (.int _) (.cons (.int _) (.cons (.int _) (.cons (.int _) (.cons (.int _) (.cons (.int _) .nil))))))), (show 0 ≤ 3 by decide), fun G3 sm2 c2 => ⟨rfl, ?_⟩⟩
  have e2 : Same H4 G3 := made_same hx2 hd2 sm2
  refine fun x3 dx3 hx3 hd3 hn3 => ?_
  refine ⟨x3, dx3, _, _, _, _, _, _, _, [.bool true, .int 2, .int 3, .int 4, .int 5, .int 6, .int 7], rfl, upd_same, T.pC, T.na, (.cons (.bl _) (.cons (.int _) (.cons (.int _) (.cons (.int _) (.cons (.int _) (.cons (.int _) (.cons (.int _) .nil))))))), (show 0 ≤ 3 by decide), fun G4 sm3 c3 => ⟨rfl, ?_⟩⟩
  have e3 : Same G3 G4 := made_same hx3 hd3 sm3
  have k72 : CelAt K PP CC G3 x2 one7 := c2
  have k73 : CelAt K PP CC G4 x3 tru7 := c3
  obtain ⟨dx2, b2, z0, z1, z2, z3, z4, z5, z6, o2, _, _⟩ := k72.ob
  refine ⟨x2, CC, dx2, _, _, rfl, e3 _ _ o2, eqc, k73.ty, nf_self, ?_⟩
  refine cel_eqv (r := false) (k72.same e3) k73 (by decide +kernel) (by decide +kernel) (by decide) (by decide) alk_tru fun H5 s5 => ⟨false, rfl, ?_⟩
  exact k H5
end
end My

set_option maxHeartbeats 4000000
namespace My
open PySem PySem.Spec PyProof.Rows L2 LamX
/-- a promise held in the outermost call alone, where no repr is running; P, an empty table of code objects -/
def RunC (Pr : Program) (w : World) (K : PySem.W.Frag) (mg : Str → Option Value) (base : Heap) (f : Addr) (fd : FuncData) (ps : List Str) (sp : Sp) : Prop :=
  ∀ (s : Shared) (H : Hp) (args : Args) (us : List Value) (vs : List V) (Q : VK) (E : XK), Env0 Pr w K mg base callerA [] s H → BindsTo s fd args (ps.zip us) → Vals vs us → sp vs H Q E → codeAny (model Pr w) callerA (.call (.ref f) args) (CR CX0 [] Pr w H s Q E) s
section
variable {Pr : Program} {w : World} {K : PySem.W.Frag} {mg mb : Str → Option Value} {f a c P : Addr} {fd : FuncData} {x : Str} {sp : Sp} {s₁ : Shared} {vs : List Value} {ns : List Int}
/-- the module "builtins" is none of what is tracked -/
def BMain (mg : Str → Option Value) (h : Heap) : Prop := ∃ (bm : Addr) (ob : Obj), mg "__builtins__" = some (.ref bm) ∧ bm ≠ builtinsNs ∧ h.get? bm = some ob ∧ ob.cls = .type "module" ∧ ob.dict = some builtinsNs ∧ ob.data = .plain
theorem end_at (KX : K.In s₁.heap) (hns : s₁.heap.Ns mainGlobals mg) (hb : s₁.heap.Ns builtinsNs mb) (hbb : ∀ x : Str, x ≠ "__name__" → mb x = bootBuiltins x) (hlim : s₁.heap.NoLimit) (hg : s₁.gens = #[])
    (hT : s₁.heap.get? P = some { cls := .none, data := .fields #[] }) (nT : K.lookup P = none) (hC : PySem.W.CodeHd s₁.heap c P) (hbm : BMain mg s₁.heap) (ha : s₁.heap.get? a = some { cls := .type "list", data := .seq vs.toArray })
    (F : ∀ base : Heap, K.In base → base.Ns mainGlobals mg → TabB base mg c P → RunC Pr w K mg base f fd [x] sp) (hbind : ∀ (s : Shared) (u : Value), BindsTo s fd ⟨[u], []⟩ [(x, u)])
    (H : Hp) (hO : ∀ b u, H b = some u → (b = a ∧ ∃ ob xs, u = .frz ob (.lst xs)) ∨ (b = P ∧ u = .tbl #[])) (hok : HOk Pr w H s₁.heap) (hK : H a ≠ none → K.lookup a = none) (hP : H P = some (.tbl #[])) (hsp : sp [.ref a] H (fun v _ => v = .bl true) fun _ _ _ => False) :
    codeAny (model Pr w) callerA (.call (.ref f) ⟨[.ref a], []⟩) (fun r s' => r = .ok (.ret (.bool true)) ∧ OldK s₁.heap s'.heap ∧ s'.os = s₁.os ∧ AllBare s'.gens) s₁ := by
  have no : ∀ {b : Addr} {o : Obj}, s₁.heap.get? b = some o → (∀ vs n, o.data ≠ .seq vs n) → o.data ≠ .fields #[] → H b = none := fun {b o} e h1 h2 => by
    cases q : H b with
    | none => rfl
    | some u =>
      rcases hO b u q with ⟨rfl, _⟩ | ⟨rfl, _⟩
      · rw [ha] at e
        cases e
        exact absurd rfl (h1 _ _)
      · rw [hT] at e
        cases e
        exact absurd rfl h2
  have nd : ∀ {b : Addr} {o : Obj} {es : Array DictEntry} {ep : Nat}, s₁.heap.get? b = some o → o.data = .dict es ep → H b = none := fun {b o es ep} e d => no e (fun vs n z => nomatch d.symm.trans z) fun z => nomatch d.symm.trans z
  have ks : ∀ {b : Addr} {m : Str → Option Value}, s₁.heap.Ns b m → (hidT s₁.heap H).Ns b m := fun ⟨o, es, ep, e, d, r⟩ => ⟨o, es, ep, hidT_get e (nd e d), d, r⟩
  have kb : K.In (hidT s₁.heap H) := fun b o e => hidT_get (KX b o e) (by
    cases q : H b with
    | none => rfl
    | some u =>
      rcases hO b u q with ⟨rfl, _⟩ | ⟨rfl, _⟩
      · have z := hK (by rw [q]; exact fun y => nomatch y)
        rw [z] at e
        cases e
      · rw [nT] at e
        cases e)
  have TB : TabB (hidT s₁.heap H) mg c P := by
    refine ⟨?_, ?_, fun z => ?_⟩
    · obtain ⟨o, us, file, tf, flags, tg, inF, text, tt, e1, r1, r2, r3, r⟩ := hC
      refine ⟨o, us, file, tf, flags, tg, inF, text, tt, hidT_get e1 (no e1 (fun vs n z => ?_) fun z => ?_), r1, r2, r3, r⟩
      · rw [r2] at z
        cases z
      · rw [r2] at z
        cases z
        simp at r3
    · obtain ⟨bm, ob, b1, b2, b3, b4, b5, b6⟩ := hbm
      have nG : bm ≠ mainGlobals := fun q => by
        obtain ⟨o, es, ep, e, hd, _⟩ := hns
        rw [q, e] at b3
        cases b3
        rw [hd] at b6
        cases b6
      have nP : bm ≠ P := fun q => by
        rw [q, hT] at b3
        cases b3
        cases b6
      exact ⟨bm, ob, b1, b2, nG, nP, hidT_get b3 (no b3 (fun vs n z => nomatch b6.symm.trans z) fun z => nomatch b6.symm.trans z), b4, b5, b6⟩
    · obtain ⟨o, es, ep, e, hd, _⟩ := hns
      rw [z, hT] at e
      cases e
      cases hd
  have e0 : Env0 Pr w K mg (hidT s₁.heap H) callerA [] s₁ H :=
    ⟨rfl, ⟨kb, ks hns, ⟨mb, ks hb, hbb⟩, let ⟨mc, h1, h2⟩ := hlim; ⟨mc, ks h1, h2⟩⟩, fun b o e => of_hidT e, Nat.le_of_eq (hidT_size _ _), trivial, fun b hb => absurd (show b ∈ ([] : List Addr) from hb) (List.not_mem_nil), hok, .of_eq hg⟩
  refine codeAny_mono (F _ kb (ks hns) TB s₁ H ⟨[.ref a], []⟩ [.ref a] [.ref a] _ _ e0 (hbind s₁ (.ref a)) (.cons rfl .nil) hsp) fun r s' h => ?_
  match r, h with
  | .ok (.ret u), h =>
    obtain ⟨v, H', os, bare, un, hok', r', q⟩ := h
    cases (show v = .bl true from q)
    cases (show u = Value.bool true from r')
    have key : ∀ b o, b ≠ P → s₁.heap.get? b = some o → s'.heap.get? b = some o := fun b o nb e => by
      cases q : H b with
      | none => exact un.keep b o e q (fun z => absurd (show b ∈ ([] : List Addr) from z) (List.not_mem_nil)) (List.not_mem_nil)
      | some u =>
        rcases hO b u q with ⟨_, ob, xs, rfl⟩ | ⟨z, _⟩
        · have z2 := un.frzs b ob _ q
          obtain ⟨e1, _⟩ := hok b _ q
          obtain ⟨e2, _⟩ := hok' b _ z2
          rw [e] at e1
          cases e1
          exact e2
        · exact absurd z nb
    have grown : ∃ more : Array Value, s'.heap.get? P = some { cls := .none, data := .fields more } := by
      obtain ⟨more, z⟩ := un.tbls P #[] hP
      exact ⟨_, hok' P _ z⟩
    refine ⟨rfl, ⟨fun b o e => ?_, fun b o e => ?_⟩, os, bare⟩
    · by_cases hb : b = P
      · obtain ⟨more, hm⟩ := grown
        subst hb
        rw [hT] at e
        cases e
        exact .inr (.inl ⟨(hC.tab hT).isCodeTable, rfl, #[], more, rfl, by rw [Array.empty_append]; exact hm⟩)
      · exact .inl (key b o hb e)
    · by_cases hb : b = P
      · obtain ⟨more, hm⟩ := grown
        rw [hb]
        exact ⟨_, hm⟩
      · exact ⟨o, key b o hb e⟩
theorem end_call (KX : K.In s₁.heap) (hns : s₁.heap.Ns mainGlobals mg) (hb : s₁.heap.Ns builtinsNs mb) (hbb : ∀ x : Str, x ≠ "__name__" → mb x = bootBuiltins x) (hlim : s₁.heap.NoLimit) (hg : s₁.gens = #[])
    (hT : s₁.heap.get? P = some { cls := .none, data := .fields #[] }) (nT : K.lookup P = none) (hC : PySem.W.CodeHd s₁.heap c P) (hbm : BMain mg s₁.heap) (ha : s₁.heap.get? a = some { cls := .type "list", data := .seq vs.toArray }) (hi : IntsAre vs ns) (hl : ns.length ≤ sizeLine)
    (F : ∀ base : Heap, K.In base → base.Ns mainGlobals mg → TabB base mg c P → RunC Pr w K mg base f fd [x] sp) (hbind : ∀ (s : Shared) (u : Value), BindsTo s fd ⟨[u], []⟩ [(x, u)])
    (hsp : ∀ H : Hp, H P = some (.tbl #[]) → SqL K H a (ns.map V.int) → sp [.ref a] H (fun v _ => v = .bl true) fun _ _ _ => False) :
    codeAny (model Pr w) callerA (.call (.ref f) ⟨[.ref a], []⟩) (fun r s' => r = .ok (.ret (.bool true)) ∧ OldK s₁.heap s'.heap ∧ s'.os = s₁.os ∧ AllBare s'.gens) s₁ := by
  have rv := vals_ints hi
  have lv := hi.length
  have naP : a ≠ P := fun z => by
    rw [z, hT] at ha
    cases ha
  cases hk : K.lookup a with
  | some o =>
    have e := KX a o hk
    rw [ha] at e
    cases e
    have eP : ∀ b u, (fun b => if b = P then some (HO.tbl #[]) else none) b = some u → b = P ∧ u = HO.tbl #[] := fun b u z => by
      by_cases q : b = P
      · exact ⟨q, (Option.some.inj ((if_pos q).symm.trans z)).symm⟩
      · exact nomatch (if_neg q).symm.trans z
    refine end_at KX hns hb hbb hlim hg hT nT hC hbm ha F hbind (fun b => if b = P then some (.tbl #[]) else none) (fun b u z => .inr (eP b u z)) (fun b u z => ?_) (fun z => absurd (if_neg naP) z) (if_pos rfl)
      (hsp _ (if_pos rfl) (.inr ⟨_, vs.toArray, _, hk, rfl, rfl, rfl, by rw [List.size_toArray, lv]; exact hl, by simpa using rv⟩))
    obtain ⟨q, e⟩ := eP b u z
    subst q e
    exact hT
  | none =>
    have eA : ∀ b u, (fun b => if b = a then some (HO.frz { cls := .type "list", data := .seq vs.toArray } (.lst (ns.map V.int))) else if b = P then some (.tbl #[]) else none) b = some u → (b = a ∧ u = HO.frz { cls := .type "list", data := .seq vs.toArray } (.lst (ns.map V.int))) ∨ (b = P ∧ u = .tbl #[]) := fun b u z => by
      by_cases q : b = a
      · exact .inl ⟨q, (Option.some.inj ((if_pos q).symm.trans z)).symm⟩
      · have z1 := (if_neg q).symm.trans z
        by_cases q2 : b = P
        · exact .inr ⟨q2, (Option.some.inj ((if_pos q2).symm.trans z1)).symm⟩
        · exact nomatch (if_neg q2).symm.trans z1
    have hP : (fun b => if b = a then some (HO.frz { cls := .type "list", data := .seq vs.toArray } (.lst (ns.map V.int))) else if b = P then some (.tbl #[]) else none) P = some (.tbl #[]) := (if_neg (fun z => naP z.symm)).trans (if_pos rfl)
    refine end_at KX hns hb hbb hlim hg hT nT hC hbm ha F hbind (fun b => if b = a then some (.frz { cls := .type "list", data := .seq vs.toArray } (.lst (ns.map V.int))) else if b = P then some (.tbl #[]) else none) (fun b u z => ?_) (fun b u z => ?_) (fun _ => hk) hP
      (hsp _ hP (.inl (.inr ⟨{ cls := .type "list", data := .seq vs.toArray }, if_pos rfl⟩)))
    · rcases eA b u z with ⟨q, e⟩ | ⟨q, e⟩
      · exact .inl ⟨q, _, _, e⟩
      · exact .inr ⟨q, e⟩
    · rcases eA b u z with ⟨q, e⟩ | ⟨q, e⟩
      · subst q e
        exact ⟨ha, by rw [List.length_map]; exact hl, vs, _, rv, ha⟩
      · subst q e
        exact hT
end
theorem end_walk {l : PySem.W.OpenLaw} {n : Nat} {q : Program} {loose : List Str} {XP : (Str → Option Value) → Heap → Prop} {YP : World → Heap → Prop} {d : DefRec} {x : Str}
    (hn : l.most = some n) (hn2 : n ≤ sizeLine) (hdf : d.params.defaults = [])
    (F : ∀ (w : World) (mg : Str → Option Value) (fa : Addr) (h : Heap), YP w h → h.Ns mainGlobals mg → mg d.name = some (.ref fa) →
      ∃ (K : PySem.W.Frag) (fd : FuncData) (sp : Sp) (c P : Addr), K.In h ∧ h.get? P = some { cls := .none, data := .fields #[] } ∧ K.lookup P = none ∧ PySem.W.CodeHd h c P ∧ (∀ (s : Shared) (u : Value), BindsTo s fd ⟨[u], []⟩ [(x, u)]) ∧
        (∀ (H : Hp) (a : Addr) (ns : List Int), ns.length ≤ n → H P = some (.tbl #[]) → SqL K H a (ns.map V.int) → sp [.ref a] H (fun v _ => v = .bl true) fun _ _ _ => False) ∧
        ∀ base : Heap, K.In base → base.Ns mainGlobals mg → TabB base mg c P → RunC l.prog w K mg base fa fd [x] sp) :
    PySem.W.WalkO q loose XP YP l.row.toRowW d [] (fun f vs => PySem.call f vs) := by
  refine Att.attach_call hn hdf fun w s₀ s₁ mg mb fa o pm cd doc a vs ns G Y ho hd hcd hmg hobj hints hlen hg => ?_
  obtain ⟨K, fd, sp, c, P, KX, hT, nT, hC, hb, hsp, hF⟩ := F w mg fa _ Y G.T.g hmg
  exact end_call KX G.T.g G.T.b G.T.builtins G.T.nolimit hg hT nT hC G.T.bmain hobj hints (Nat.le_trans hlen hn2) hF hb (fun H hH hS => hsp H a ns hlen hH hS)
/-- a def's promise in the outermost call, from its body there; P2: what is known of its code object -/
theorem runC_of {Pr : Program} {w : World} {K : PySem.W.Frag} {mg : Str → Option Value} {base : Heap} {k : Nat} {f : Addr} {fd : FuncData} {x qual : Str} {params : Arguments} {body : List Stmt} {scope : Scope} {N ps : List Str} {sp : Sp} {cd : Value}
    (F : FunD K x qual params body scope [] [] f fd) (hcd2 : fd.code = cd) (S : FnScope N ps scope) (hr : Room (k + 1) callerA) (len : ∀ vs H Q E, sp vs H Q E → vs.length = ps.length)
    (hbody : ∀ (s : Shared) (H : Hp) (vs : List V) (Q : VK) (E : XK), Room k (callerA.deeper (envOfC qual scope s.heap.objs.size f cd)) → (callerA.deeper (envOfC qual scope s.heap.objs.size f cd)).guards = some [] → sp vs H Q E →
      ∃ t, PSs (cxOf CX0 Pr w K mg base N qual scope f cd callerA [] s H E) body t ∧ t { nx := fun _ H' => Q .non H', rt := Q } (start N vs) H) : RunC Pr w K mg base f fd ps sp := by
  intro s H args us vs Q E e0 hb r hsp
  obtain ⟨oc, od, dV, kV, doc, pm, an, cdv, ct, osl, rfl, lk, hcd, _, _⟩ := F.ex
  have ec : cdv = cd := hcd2
  subst ec
  exact StX.run_bnd (G := fun ws H2 => sp ws H2 Q E) lk hcd S hr e0 (fun A' Ex Q' h => hb _ _ _ _ (h s H vs us e0 Un.refl rfl (fun _ _ z => z) r (len _ _ _ _ hsp) hsp)) fun s2 H2 ws hw hr2 => hbody s2 H2 ws Q E hr2 rfl hw
end My

set_option maxHeartbeats 4000000
namespace My
open PySem PySem.Spec PyProof.Rows L2 PySem.MyX
open He (ba eqO eqO_ok ga ma fAd Fa DefD)
/-! ### an own exception class, its __init__ -/
def oexB (K : PySem.W.Frag) (C : Addr) : Bool := (match K.lookup C with
  | some ⟨.type t, _, .cls cd, sl⟩ => decide (t = "type") && (match cd.mro, sl.toList with
    | .ref C' :: bm, [_, _, _, _, some (.builtin n), _] => decide (C' = C) && (decide (n = "ValueError.__new__") && (!cd.hasDel && (cd.hasDict && PySem.HandSPX.refsVE bm)))
    | _, _ => false)
  | _ => false) && (eqO (PySem.W.findIn K (.ref C) "__setattr__") (some (some (.builtin "object.__setattr__"))) && (decide (PySem.W.subIn K (.ref C) (.type "BaseException") = some true) && (decide (PySem.W.typeIn K (.ref C) = some (.type "type")) && PySem.W.keepIn K (.ref C))))
theorem oexB_ok {K : PySem.W.Frag} {C : Addr} (h : oexB K C = true) : OexC K C := by
  obtain ⟨h1, h⟩ := ba h
  obtain ⟨h2, h⟩ := ba h
  obtain ⟨h3, h⟩ := ba h
  obtain ⟨h4, h5⟩ := ba h
  refine ⟨?_, eqO_ok h2, of_decide_eq_true h3, of_decide_eq_true h4, h5⟩
  split at h1
  · rename_i t dd cd sl ho
    obtain ⟨z1, z2⟩ := ba h1
    split at z2
    · rename_i C' bm k0 k1 k2 k3 n k5 hm hs
      obtain ⟨z3, z4⟩ := ba z2
      obtain ⟨z5, z6⟩ := ba z4
      obtain ⟨z7, z8⟩ := ba z6
      obtain ⟨z9, z10⟩ := ba z8
      have e1 := of_decide_eq_true z1
      have e2 := of_decide_eq_true z3
      have e3 := of_decide_eq_true z5
      subst e1 e2 e3
      obtain ⟨nm, bs, mro, ns, qn, hd, sn, sub, ab, col, del⟩ := cd
      dsimp only at hm z7 z9
      subst hm z9
      have e4 : del = false := by simpa using z7
      subst e4
      have hsl : sl = #[k0, k1, k2, k3, some (.builtin "ValueError.__new__"), k5] := by
        obtain ⟨l⟩ := sl
        simp only at hs
        rw [hs]
      subst hsl
      exact ⟨nm, qn, ns, bs, bm, sn, sub, ab, col, dd, k0, k1, k2, k3, k5, ho, z10⟩
    · cases z2
  · cases h1
def ecB (K : PySem.W.Frag) (C : Addr) : Bool := xfB K C && (eqO (PySem.W.findIn K (.ref C) "__class__") (some (some (.builtin "object.__class__"))) && (eqO (PySem.W.specialIn K (.builtin "object.__class__") "__get__") (some (some (.builtin "getset_descriptor.__get__"))) && (decide (PySem.W.takesIn K (.builtin "object.__class__") = some true) && decide (PySem.W.mroIn K C (.type "object") = some true))))
theorem ecB_ok {K : PySem.W.Frag} {C : Addr} (h : ecB K C = true) : XfC K C ∧ ExcC K C := by
  obtain ⟨h1, h⟩ := ba h
  obtain ⟨h2, h⟩ := ba h
  obtain ⟨h3, h⟩ := ba h
  obtain ⟨h4, h5⟩ := ba h
  have x := xfB_ok h1
  exact ⟨x, x.ga, x.gg, x.exC, x.hdC, eqO_ok h2, eqO_ok h3, of_decide_eq_true h4, of_decide_eq_true h5⟩
structure XcD where
  cls : Str
  qual : Str
  st : Stmt
abbrev FnC : Type := Option (Str × Str × Arguments × FuncBody × Scope × Addr × Value × Addr × List Str)
def fnC (K : PySem.W.Frag) (f : Addr) : FnC := match K.lookup f with
  | some ⟨_, _, .func fd, _⟩ => some (fd.name, fd.qualname, fd.params, fd.body, fd.scope, fd.globals, fd.defaults, fd.builtins, fd.closure.map (·.1))
  | _ => none
def XcD.C (d : XcD) (K : PySem.W.Frag) : Addr := ga K d.cls
def XcD.f (d : XcD) (K : PySem.W.Frag) : Addr := ma K (ga K d.cls) "__init__"
def XcD.val (d : XcD) : FnC := some ("__init__", d.qual, defArgs d.st, .stmts (defBody d.st), defScope d.st, mainGlobals, .none, builtinsNs, ["__class__"])
/-- the code object's file, the cell -/
def xcB (file : Str) (K : PySem.W.Frag) (C f : Addr) (qual : Str) : Bool := match K.lookup f with
  | some ⟨_, _, .func fd, _⟩ => (match fd.code with
    | .ref cda => PySem.W.codeIn K (.ref cda) qual && (match K.lookup cda with
      | some ⟨_, _, .fields vs, _⟩ => (match (vs[2]? : Option Value) with
        | some (.str fl _) => file == fl
        | _ => false)
      | _ => false)
    | _ => false) && (match fd.closure with
    | [(_, cc)] => (match K.lookup cc with
      | some ⟨_, _, .cell (some v), _⟩ => decide (v = .ref C)
      | _ => false)
    | _ => false)
  | _ => false
def XcD.ok (file : Str) (K : PySem.W.Frag) (d : XcD) : Bool := oexB K (d.C K) && (eqO (PySem.W.findIn K (.ref (d.C K)) "__init__") (some (some (.ref (d.f K)))) && (decide (PySem.W.typeIn K (.ref (d.f K)) = some (.type "function")) && (eqO (PySem.W.ks_superIn K (d.C K) (d.C K) "__init__") (some (some (.builtin "ValueError.__init__"))) &&
  (decide (PySem.W.subIn K (.ref (d.C K)) (.type "ValueError") = some true) && (eqO (PySem.W.nsIn K cStatics "thirdparty.any") (some none) && xcB file K (d.C K) (d.f K) d.qual)))))
theorem XcD.exI {Pr : Program} {K : PySem.W.Frag} {d : XcD} (e : fnC K (d.f K) = d.val) (c : d.ok Pr.main.file K = true) : ∃ fd, ExI Pr K (d.C K) (d.f K) "__init__" d.qual (defArgs d.st) (defBody d.st) (defScope d.st) fd := by
  obtain ⟨h1, h⟩ := ba c
  obtain ⟨h2, h⟩ := ba h
  obtain ⟨h3, h⟩ := ba h
  obtain ⟨h4, h⟩ := ba h
  obtain ⟨h5, h⟩ := ba h
  obtain ⟨h6, h7⟩ := ba h
  unfold fnC at e
  unfold xcB at h7
  cases q : K.lookup (d.f K) with
  | none =>
    rw [q] at h7
    cases h7
  | some o =>
    obtain ⟨oc, od, dt, osl⟩ := o
    rw [q] at h7 e
    cases dt with
    | func fd =>
      obtain ⟨n1, n2, n3, n4, n5, n6, n7, n8, n9, n10, n11, n12, n13, n14, n15⟩ := fd
      dsimp only at h7
      have e2 : (some (n1, n2, n3, n4, n5, n6, n8, n15, n7.map (·.1)) : FnC) = d.val := e
      unfold XcD.val at e2
      simp only [Option.some.injEq, Prod.mk.injEq] at e2
      obtain ⟨g1, g2, g3, g4, g5, g6, g7, g8, g9⟩ := e2
      subst g1 g2 g3 g4 g5 g6 g7 g8
      obtain ⟨h8, h9⟩ := ba h7
      cases n13 with
      | ref cda =>
        dsimp only at h8
        obtain ⟨k1, k2⟩ := ba h8
        split at k2
        · rename_i ccl cdd vs ccs hcode
          split at k2
          · rename_i fl tf hvs
            split at h9
            · rename_i nm cc
              split at h9
              · rename_i cl cld v csl hcell
                have ev := of_decide_eq_true h9
                subst ev
                have en : nm = "__class__" := by simpa using g9
                subst en
                exact ⟨_, oexB_ok h1, eqO_ok h2, of_decide_eq_true h3, eqO_ok h4, of_decide_eq_true h5, eqO_ok h6, oc, od, .none, n9, n10, n11, n12, cda, n14, osl, cc, ccl, cdd, vs, ccs, fl, tf, cl, cld, csl, rfl, q, k1, hcode, hvs, k2, hcell, rfl⟩
              · cases h9
            · cases h9
          · cases k2
        · cases k2
      | _ => cases h8
    | _ => cases h7
/-! ### Paper, Denial -/
def clsNB (K : PySem.W.Frag) (C : Addr) (nm : Str) : Bool := eqO (PySem.W.findIn K (.ref C) "__class__") (some (some (.builtin "object.__class__"))) && (eqO (PySem.W.specialIn K (.builtin "object.__class__") "__get__") (some (some (.builtin "getset_descriptor.__get__"))) && (decide (PySem.W.takesIn K (.builtin "object.__class__") = some true) && (decide (PySem.W.mroIn K C (.type "object") = some true) && (eqO (PySem.W.nsIn K cStatics "thirdparty.any") (some none) &&
  ((match K.lookup C with
    | some ⟨.type t, _, _, sl⟩ => decide (t = "type") && (match (sl[2]? : Option (Option Value)) with
      | some (some (.str n _)) => decide (n = nm)
      | _ => false)
    | _ => false) && (match PySem.W.findCls K (.ref C) (.type "type") "__name__" with
    | some (.get g a o t) => decide (g = .builtin "getset_descriptor.__get__") && (decide (a = .builtin "type.__name__") && (decide (o = .ref C) && decide (t = .type "type")))
    | _ => false))))))
theorem clsNB_ok {K : PySem.W.Frag} {x nm : Str} (hc : (Fa.cls x).ok K = true) (h : clsNB K (ga K x) nm = true) : ClsN K (ga K x) nm := by
  obtain ⟨h1, h⟩ := ba h
  obtain ⟨h2, h⟩ := ba h
  obtain ⟨h3, h⟩ := ba h
  obtain ⟨h4, h⟩ := ba h
  obtain ⟨h5, h⟩ := ba h
  obtain ⟨h6, h7⟩ := ba h
  refine ⟨He.cls_ok hc, eqO_ok h1, eqO_ok h2, of_decide_eq_true h3, of_decide_eq_true h4, eqO_ok h5, ?_, ?_⟩
  · split at h6
    · rename_i t dd dt sl ho
      obtain ⟨z1, z2⟩ := ba h6
      split at z2
      · rename_i n tk hs
        have e1 := of_decide_eq_true z1
        have e2 := of_decide_eq_true z2
        subst e1 e2
        exact ⟨_, tk, ho, rfl, hs⟩
      · cases z2
    · cases h6
  · split at h7
    · rename_i g a o t hf
      obtain ⟨z1, z2⟩ := ba h7
      obtain ⟨z3, z4⟩ := ba z2
      obtain ⟨z5, z6⟩ := ba z4
      have e1 := of_decide_eq_true z1
      have e2 := of_decide_eq_true z3
      have e3 := of_decide_eq_true z5
      have e4 := of_decide_eq_true z6
      subst e1 e2 e3 e4
      exact hf
    · cases h7
def papB (K : PySem.W.Frag) (x : Str) : Bool := (Fa.cls x).ok K && (clsNB K (ga K x) x && (eqO (PySem.W.findIn K (.ref (ga K x)) "word") (some none) && (eqO (PySem.W.findIn K (.ref (ga K x)) "parts") (some none) && decide (PySem.W.kitOne K (.ref (ga K x)) (.ref (ga K "Paper")) = some true))))
theorem papB_ok {K : PySem.W.Frag} {x : Str} (h : papB K x = true) : PapC K (ga K "Paper") (ga K x) x := by
  obtain ⟨h1, h⟩ := ba h
  obtain ⟨h2, h⟩ := ba h
  obtain ⟨h3, h⟩ := ba h
  obtain ⟨h4, h5⟩ := ba h
  exact ⟨clsNB_ok h1 h2, eqO_ok h3, eqO_ok h4, of_decide_eq_true h5⟩
def eqB (K : PySem.W.Frag) (C f : Addr) : Bool := eqO (PySem.W.findIn K (.ref C) "__eq__") (some (some (.ref f))) && (eqO (PySem.W.findIn K (.ref C) "__ne__") (some (some (.builtin "object.__ne__"))) && (PySem.W.isFn K (.ref f) && decide (PySem.W.mroIn K C (.type "object") = some true)))
theorem eqB_ok {K : PySem.W.Frag} {C f : Addr} (h : eqB K C f = true) : EqC K C f := by
  obtain ⟨h1, h⟩ := ba h
  obtain ⟨h2, h⟩ := ba h
  obtain ⟨h3, h4⟩ := ba h
  exact ⟨eqO_ok h1, eqO_ok h2, h3, of_decide_eq_true h4⟩
def mkB (K : PySem.W.Frag) (C f : Addr) : Bool := PySem.W.makesIn K C && (eqO (PySem.W.findIn K (.ref C) "__init__") (some (some (.ref f))) && (PySem.W.isFn K (.ref f) && PySem.W.keepIn K (.ref C)))
theorem mkB_ok {K : PySem.W.Frag} {C f : Addr} (h : mkB K C f = true) : Mk K C f := by
  obtain ⟨h1, h⟩ := ba h
  obtain ⟨h2, h⟩ := ba h
  obtain ⟨h3, h4⟩ := ba h
  exact ⟨h1, eqO_ok h2, h3, h4⟩
def blB (K : PySem.W.Frag) (x : Str) : Bool := eqO (PySem.W.findIn K (.ref (ga K x)) "__bool__") (some (some (.ref (ma K (ga K x) "__bool__")))) && PySem.W.isFn K (.ref (ma K (ga K x) "__bool__"))
abbrev sX (j : Nat) : Stmt := inClass (top j) 0
section
variable {Pr : Program} {K : PySem.W.Frag} {mg : Str → Option Value} {C f : Addr} {fd : FuncData}
theorem made_BadNumber (D : PySem.MyX.ExI Pr K C f "__init__" "BadNumber.__init__" (defArgs (sX 2)) (defBody (sX 2)) (defScope (sX 2)) fd) (n1 : PySem.W.findIn K (.ref C) "part" = some none) (sup : mg "super" = none) (ht : (Pr.main.scope.names.lookup ("super" : Str)).isSome = false) : MadeK Pr K mg C 1 [] (fs1 "part") := by
  intro X e1 e2 e3 hr
  subst e1 e2 e3
  exact One.made (x := "part") ⟨D, ⟨fun _ _ _ _ => ⟨_, rfl⟩, fun _ _ _ _ => rfl, fun _ _ _ _ => rfl, by decide +kernel, by decide +kernel, by decide +kernel, rfl, by decide +kernel, rfl, rfl⟩, ⟨by decide +kernel, by decide +kernel, by decide +kernel, fun _ _ _ _ => rfl⟩, rfl, rfl, ht, n1, sup⟩ hr (by intros; rfl)
theorem made_Misfit (D : PySem.MyX.ExI Pr K C f "__init__" "Misfit.__init__" (defArgs (sX 9)) (defBody (sX 9)) (defScope (sX 9)) fd) (n1 : PySem.W.findIn K (.ref C) "part" = some none) (sup : mg "super" = none) (ht : (Pr.main.scope.names.lookup ("super" : Str)).isSome = false) : MadeK Pr K mg C 1 [] (fs1 "part") := by
  intro X e1 e2 e3 hr
  subst e1 e2 e3
  exact One.made (x := "part") ⟨D, ⟨fun _ _ _ _ => ⟨_, rfl⟩, fun _ _ _ _ => rfl, fun _ _ _ _ => rfl, by decide +kernel, by decide +kernel, by decide +kernel, rfl, by decide +kernel, rfl, rfl⟩, ⟨by decide +kernel, by decide +kernel, by decide +kernel, fun _ _ _ _ => rfl⟩, rfl, rfl, ht, n1, sup⟩ hr (by intros; rfl)
end
/-! ### a class's __init__ that calls its base's by super() -/
def supB (file : Str) (K : PySem.W.Frag) (C f g : Addr) (qual : Str) : Bool := eqO (PySem.W.ks_superIn K C C "__init__") (some (some (.ref g))) && (decide (PySem.W.typeIn K (.ref g) = some (.type "function")) && (PySem.W.fnIn K g && (decide (PySem.W.mroIn K C (.ref C) = some true) && (eqO (PySem.W.nsIn K cStatics "thirdparty.any") (some none) && (PySem.W.keepIn K (.ref f) && xcB file K C f qual)))))
theorem sup_ok {Pr : Program} {K : PySem.W.Frag} {d : XcD} {g : Addr} (e : fnC K (d.f K) = d.val) (c : supB Pr.main.file K (d.C K) (d.f K) g d.qual = true) : ∃ fd, SupI Pr K (d.C K) (d.f K) g "__init__" d.qual (defArgs d.st) (defBody d.st) (defScope d.st) fd := by
  obtain ⟨h1, h⟩ := ba c
  obtain ⟨h2, h⟩ := ba h
  obtain ⟨h3, h⟩ := ba h
  obtain ⟨h4, h⟩ := ba h
  obtain ⟨h5, h⟩ := ba h
  obtain ⟨h6, h7⟩ := ba h
  unfold fnC at e
  unfold xcB at h7
  cases q : K.lookup (d.f K) with
  | none =>
    rw [q] at h7
    cases h7
  | some o =>
    obtain ⟨oc, od, dt, osl⟩ := o
    rw [q] at h7 e
    cases dt with
    | func fd =>
      obtain ⟨n1, n2, n3, n4, n5, n6, n7, n8, n9, n10, n11, n12, n13, n14, n15⟩ := fd
      dsimp only at h7
      have e2 : (some (n1, n2, n3, n4, n5, n6, n8, n15, n7.map (·.1)) : FnC) = d.val := e
      unfold XcD.val at e2
      simp only [Option.some.injEq, Prod.mk.injEq] at e2
      obtain ⟨g1, g2, g3, g4, g5, g6, g7, g8, g9⟩ := e2
      subst g1 g2 g3 g4 g5 g6 g7 g8
      obtain ⟨h8, h9⟩ := ba h7
      cases n13 with
      | ref cda =>
        dsimp only at h8
        obtain ⟨k1, k2⟩ := ba h8
        split at k2
        · rename_i ccl cdd vs ccs hcode
          split at k2
          · rename_i fl tf hvs
            split at h9
            · rename_i nm cc
              split at h9
              · rename_i cl cld v csl hcell
                have ev := of_decide_eq_true h9
                subst ev
                have en : nm = "__class__" := by simpa using g9
                subst en
                exact ⟨_, eqO_ok h1, of_decide_eq_true h2, h3, of_decide_eq_true h4, eqO_ok h5, h6, oc, od, n9, n10, n11, n12, cda, n14, osl, cc, ccl, cdd, vs, ccs, fl, tf, cl, cld, csl, rfl, q, k1, hcode, hvs, k2, hcell⟩
              · cases h9
            · cases h9
          · cases k2
        · cases k2
      | _ => cases h8
    | _ => cases h7
/-! ### the lists -/
def freeL : List Str := ["range", "max", "min", "repr", "int", "bool", "isinstance", "len", "list", "tuple", "all", "zip", "abs", "super"]
def gloL : List Str := ["is_integer", "is_within", "is_listed", "are_integers", "fixed", "are_like", "Paper", "need_x", "need_cut", "Cell", "is_cell", "has_cut", "top_of", "x_at", "need_cell", "top", "_law_pen", "_law_draw", "_law_pick", "_law_heard", "law", "BellError", "BadNumber", "BadBits", "BadTable", "BadBook", "BadRow", "BadPattern", "BadPaper", "Misfit", "TooMany"]
def intL : List (Str × Int) := [("MOST_X", 549755813888), ("LEAST_Z", 2), ("MOST_Z", 1048576), ("FIELDS", 7)]
def xL : List Str := ["BadNumber", "Misfit"]
def kL : List Str := ["BadNumber", "BadBits", "BadTable", "BadBook", "BadRow", "BadPattern", "BadPaper", "Misfit"]
def xcL : List XcD := [⟨"BadNumber", "BadNumber.__init__", sX 2⟩, ⟨"Misfit", "Misfit.__init__", sX 9⟩]
def celD : XcD := ⟨"Cell", "Cell.__init__", sCInit⟩
def fnL : List DefD := [⟨("is_integer", none), "is_integer", "is_integer", defArgs sIsInt, defBody sIsInt, defScope sIsInt, [], []⟩,
  ⟨("is_within", none), "is_within", "is_within", defArgs sIsIn, defBody sIsIn, defScope sIsIn, [], []⟩,
  ⟨("is_listed", none), "is_listed", "is_listed", defArgs sIsListed, defBody sIsListed, defScope sIsListed, [], []⟩,
  ⟨("are_integers", none), "are_integers", "are_integers", defArgs sAreInts, defBody sAreInts, defScope sAreInts, [], []⟩,
  ⟨("fixed", none), "fixed", "fixed", defArgs sFixed, defBody sFixed, defScope sFixed, [], []⟩,
  ⟨("are_like", none), "are_like", "are_like", defArgs sLike, defBody sLike, defScope sLike, [], []⟩,
  ⟨("need_x", none), "need_x", "need_x", defArgs sNeedX, defBody sNeedX, defScope sNeedX, [.str "x"], []⟩,
  ⟨("need_cut", none), "need_cut", "need_cut", defArgs sNeedCut, defBody sNeedCut, defScope sNeedCut, [], []⟩,
  ⟨("is_cell", none), "is_cell", "is_cell", defArgs sIsCell, defBody sIsCell, defScope sIsCell, [], []⟩,
  ⟨("has_cut", none), "has_cut", "has_cut", defArgs sHasCut, defBody sHasCut, defScope sHasCut, [], []⟩,
  ⟨("top_of", none), "top_of", "top_of", defArgs sTopOf, defBody sTopOf, defScope sTopOf, [], []⟩,
  ⟨("x_at", none), "x_at", "x_at", defArgs sXAt, defBody sXAt, defScope sXAt, [], []⟩,
  ⟨("need_cell", none), "need_cell", "need_cell", defArgs sNeedCell, defBody sNeedCell, defScope sNeedCell, [], []⟩,
  ⟨("top", none), "top", "top", defArgs sTop, defBody sTop, defScope sTop, [], []⟩,
  ⟨("_law_pen", none), "_law_pen", "_law_pen", defArgs sPen, defBody sPen, defScope sPen, [], []⟩,
  ⟨("_law_draw", none), "_law_draw", "_law_draw", defArgs sDraw, defBody sDraw, defScope sDraw, [], []⟩,
  ⟨("_law_pick", none), "_law_pick", "_law_pick", defArgs sPick, defBody sPick, defScope sPick, [], []⟩,
  ⟨("_law_heard", none), "_law_heard", "_law_heard", defArgs sHeard, defBody sHeard, defScope sHeard, [], []⟩,
  ⟨("law", none), "law", "law", defArgs sLaw, defBody sLaw, defScope sLaw, [], []⟩,
  ⟨("Paper", some "__init__"), "__init__", "Paper.__init__", defArgs sPInit, defBody sPInit, defScope sPInit, [], []⟩,
  ⟨("Paper", some "__bool__"), "__bool__", "Paper.__bool__", defArgs sPBool, defBody sPBool, defScope sPBool, [], []⟩,
  ⟨("Paper", some "__eq__"), "__eq__", "Paper.__eq__", defArgs sPEq, defBody sPEq, defScope sPEq, [], []⟩,
  ⟨("Cell", some "has"), "has", "Cell.has", defArgs sHas, defBody sHas, defScope sHas, [], []⟩,
  ⟨("Cell", some "spot"), "spot", "Cell.spot", defArgs sSpot, defBody sSpot, defScope sSpot, [], []⟩,
  ⟨("Cell", some "cut"), "cut", "Cell.cut", defArgs sCut, defBody sCut, defScope sCut, [], []⟩]
def exB (K : PySem.W.Frag) : Bool := ((freeL.all fun x => (Fa.free x).ok K) && ((gloL.all fun x => (Fa.glo x).ok K) && ((intL.all fun q => (Fa.int q.1 q.2).ok K) && ((xL.all fun x => PySem.W.keepIn K (.ref (ga K x)) && (ecB K (ga K x) && (eqO (PySem.W.findIn K (.ref (ga K x)) "part") (some none) && (decide (PySem.W.exmOne K (.ref (ga K x)) (.ref (ga K "BellError")) = some true) && decide (PySem.W.kitOne K (.ref (ga K x)) (.ref (ga K "TooMany")) = some false))))) && ((xL.all fun x => decide (PySem.W.subIn K (.ref (ga K x)) (.type "BaseException") = some true) && decide (PySem.W.typeIn K (.ref (ga K x)) = some (.type "type"))) && ((xL.all fun x => kL.all fun y => decide (PySem.W.kitOne K (.ref (ga K x)) (.ref (ga K y)) = some (x == y))) && ((cNames.all fun f => (Fa.noat "Cell" f).ok K) && (((["has", "spot", "cut"] : List Str).all fun m => (Fa.meth "Cell" m).ok K) && (mkB K (ga K "Paper") (ma K (ga K "Paper") "__init__") && (mkB K (ga K "Cell") (ma K (ga K "Cell") "__init__") && (eqB K (ga K "Cell") (ma K (ga K "Paper") "__eq__") && (eqO (PySem.W.findIn K (.ref (ga K "Cell")) "__bool__") (some (some (.ref (ma K (ga K "Paper") "__bool__")))) && (PySem.W.isFn K (.ref (ma K (ga K "Paper") "__bool__")) && (decide (PySem.W.kitOne K (.ref (ga K "Cell")) (.ref (ga K "Cell")) = some true) && (decide (PySem.W.kitOne K (.ref (ga K "Paper")) (.ref (ga K "Cell")) = some false) && (decide (PySem.W.kitOne K (.type "NoneType") (.ref (ga K "Cell")) = some false) && (decide (PySem.W.kitOne K (.type "int") (.ref (ga K "Cell")) = some false) && (papB K "Paper" && papB K "Cell"))))))))))))))))))
/-- what the Bool says -/
structure ExF (K : PySem.W.Frag) : Prop where
  c0 : (freeL.all fun x => (Fa.free x).ok K) = true
  c1 : (gloL.all fun x => (Fa.glo x).ok K) = true
  c2 : (intL.all fun q => (Fa.int q.1 q.2).ok K) = true
  c3 : (xL.all fun x => PySem.W.keepIn K (.ref (ga K x)) && (ecB K (ga K x) && (eqO (PySem.W.findIn K (.ref (ga K x)) "part") (some none) && (decide (PySem.W.exmOne K (.ref (ga K x)) (.ref (ga K "BellError")) = some true) && decide (PySem.W.kitOne K (.ref (ga K x)) (.ref (ga K "TooMany")) = some false))))) = true
  c4 : (xL.all fun x => decide (PySem.W.subIn K (.ref (ga K x)) (.type "BaseException") = some true) && decide (PySem.W.typeIn K (.ref (ga K x)) = some (.type "type"))) = true
  c5 : (xL.all fun x => kL.all fun y => decide (PySem.W.kitOne K (.ref (ga K x)) (.ref (ga K y)) = some (x == y))) = true
  c6 : (cNames.all fun f => (Fa.noat "Cell" f).ok K) = true
  c7 : ((["has", "spot", "cut"] : List Str).all fun m => (Fa.meth "Cell" m).ok K) = true
  c8 : mkB K (ga K "Paper") (ma K (ga K "Paper") "__init__") = true
  c9 : mkB K (ga K "Cell") (ma K (ga K "Cell") "__init__") = true
  c10 : eqB K (ga K "Cell") (ma K (ga K "Paper") "__eq__") = true
  c11 : eqO (PySem.W.findIn K (.ref (ga K "Cell")) "__bool__") (some (some (.ref (ma K (ga K "Paper") "__bool__")))) = true
  c12 : PySem.W.isFn K (.ref (ma K (ga K "Paper") "__bool__")) = true
  c13 : decide (PySem.W.kitOne K (.ref (ga K "Cell")) (.ref (ga K "Cell")) = some true) = true
  c14 : decide (PySem.W.kitOne K (.ref (ga K "Paper")) (.ref (ga K "Cell")) = some false) = true
  c15 : decide (PySem.W.kitOne K (.type "NoneType") (.ref (ga K "Cell")) = some false) = true
  c16 : decide (PySem.W.kitOne K (.type "int") (.ref (ga K "Cell")) = some false) = true
  c17 : papB K "Paper" = true
  c18 : papB K "Cell" = true
theorem exB_ok {K : PySem.W.Frag} (h : exB K = true) : ExF K := by
  obtain ⟨c0, h⟩ := ba h
  obtain ⟨c1, h⟩ := ba h
  obtain ⟨c2, h⟩ := ba h
  obtain ⟨c3, h⟩ := ba h
  obtain ⟨c4, h⟩ := ba h
  obtain ⟨c5, h⟩ := ba h
  obtain ⟨c6, h⟩ := ba h
  obtain ⟨c7, h⟩ := ba h
  obtain ⟨c8, h⟩ := ba h
  obtain ⟨c9, h⟩ := ba h
  obtain ⟨c10, h⟩ := ba h
  obtain ⟨c11, h⟩ := ba h
  obtain ⟨c12, h⟩ := ba h
  obtain ⟨c13, h⟩ := ba h
  obtain ⟨c14, h⟩ := ba h
  obtain ⟨c15, h⟩ := ba h
  obtain ⟨c16, h⟩ := ba h
  obtain ⟨c17, h⟩ := ba h
  exact ⟨c0, c1, c2, c3, c4, c5, c6, c7, c8, c9, c10, c11, c12, c13, c14, c15, c16, c17, h⟩
end My

set_option maxHeartbeats 0
namespace My
open PySem PySem.Spec PyProof.Rows L2
open He (ba DefD ga ma)
abbrev RR : PySem.W.OpenRow := PySem.W.OpenLaw.row PySem.Challenge.rw_opencuts_k07_cells_and_their_cuts
abbrev qv : Program := PySem.W.view RR.prog [40]
def names : List PySem.Str := (["is_integer", "is_within", "is_listed", "are_integers", "fixed", "are_like", "Paper", "MOST_X", "LEAST_Z", "MOST_Z"] : List PySem.Str) ++ (["need_x", "need_cut", "FIELDS", "Cell", "is_cell", "has_cut", "top_of", "x_at", "need_cell", "top", "_law_pen", "_law_draw", "_law_pick", "_law_heard", "BellError", "BadNumber", "BadBits", "BadTable", "BadBook", "BadRow", "BadPattern", "BadPaper", "Misfit", "TooMany"] : List PySem.Str)
abbrev AlK : Type := (Bool × List He.FnW) × List FnC
def asK (g : Addr → Option Obj) : Nat → List Addr
  | 0 => [mainGlobals, cStatics]
  | n + 1 => He.growD g (asK g n)
def obsK (K : PySem.W.Frag) : AlK := ((exB K && ((fnL.all fun d => d.ok K) && ((xcL.all fun d => d.ok RR.prog.main.file K) && supB RR.prog.main.file K (celD.C K) (celD.f K) (ma K (ga K "Paper") "__init__") celD.qual)), fnL.map fun d => He.fnW K d.at_), (xcL ++ [celD]).map fun d => fnC K (d.f K))
def valK : AlK := ((true, fnL.map DefD.val), (xcL ++ [celD]).map XcD.val)
abbrev lawN : List He.Defn := [("law", none)]
/-- what is told -/
structure SaysK (h : Heap) (K : PySem.W.Frag) : Prop where
  t : obsK K = valK
  hd : PySem.W.codeHdIn K (He.cT K ("law", none)).1 (He.cT K ("law", none)).2 = true
  out : K.lookup (He.cT K ("law", none)).2 = none
  empty : h.get? (He.cT K ("law", none)).2 = some { cls := .none, data := .fields #[] }
def obsKG (g : Addr → Option Obj) : AlK × Bool := (obsK (He.frT g (asK g 4)), He.tabsB g lawN (He.frT g (asK g 4)))
theorem saysK_of {h : Heap} (e : obsKG h.get? = (valK, true)) : SaysK h (He.frT h.get? (asK h.get? 4)) := by
  have e1 : obsK (He.frT h.get? (asK h.get? 4)) = valK := congrArg (fun z : AlK × Bool => z.1) e
  have e2 : He.tabsB h.get? lawN (He.frT h.get? (asK h.get? 4)) = true := congrArg (fun z : AlK × Bool => z.2) e
  obtain ⟨h3, h4⟩ := ba (List.all_eq_true.mp e2 ("law", none) List.mem_cons_self)
  cases q : h.get? (He.cT (He.frT h.get? (asK h.get? 4)) ("law", none)).2 with
  | none =>
    rw [q] at h4
    cases h4
  | some o =>
    rw [q] at h4
    exact ⟨e1, h3, He.frT_none q h4, by rw [q, He.emptyTab_eq h4]⟩
def hookK : PySem.W.Hook where
  α := AlK × Bool
  obs := fun s => obsKG s.heap.get?
  val := fun _ => (valK, true)
  says := fun _ h => ∃ K : PySem.W.Frag, K.In h ∧ SaysK h K
  of := fun _ _ e => ⟨_, He.frT_in, saysK_of e⟩
  keeps := fun _ _ _ ⟨K, hK, c⟩ k => ⟨K, PySem.W.Frag.In.keeps hK k, ⟨c.t, c.hd, c.out, k _ _ c.empty⟩⟩
def obK (s : PySem.W.SharedT) : AlK × Bool := obsKG (HandSHeadRun.getT s)
theorem obK_eq (s : PySem.W.SharedT) : obK s = hookK.obs s.abs := by
  have e : HandSHeadRun.getT s = s.abs.heap.get? := funext (HandSHeadRun.getT_eq s)
  unfold obK
  rw [e] <;> rfl
open PySem.W PySem.Calls in
theorem runK (w : World) : HandSHeadRun.RunEq RR qv hookK obK 30000 names w := by
  intro os
  kernel_rfl
end My

set_option maxHeartbeats 4000000
namespace My
open PySem PySem.Spec PyProof.Rows L2 PySem.MyX LamX
open He (ba eqO_ok ga ma fAd DefD)
abbrev PR : Program := PySem.Challenge.rw_opencuts_k07_cells_and_their_cuts.prog
section
variable {K : PySem.W.Frag}
theorem says1 (c : obsK K = valK) : exB K = true ∧ (fnL.all fun d => d.ok K) = true ∧ (xcL.all fun d => d.ok RR.prog.main.file K) = true ∧ supB RR.prog.main.file K (celD.C K) (celD.f K) (ma K (ga K "Paper") "__init__") celD.qual = true := by
  have z : (exB K && ((fnL.all fun d => d.ok K) && ((xcL.all fun d => d.ok RR.prog.main.file K) && supB RR.prog.main.file K (celD.C K) (celD.f K) (ma K (ga K "Paper") "__init__") celD.qual))) = true := congrArg (fun z : AlK => z.1.1) c
  obtain ⟨h1, h⟩ := ba z
  obtain ⟨h2, h⟩ := ba h
  obtain ⟨h3, h4⟩ := ba h
  exact ⟨h1, h2, h3, h4⟩
theorem get_fn (c : obsK K = valK) (i : Nat) {d : DefD} (h : fnL[i]? = some d) : ∃ fd, FunD K d.name d.qual d.params d.body d.scope (d.dvs K) (d.kws K) (fAd K d.at_) fd := by
  have e : fnL.map (fun d => He.fnW K d.at_) = fnL.map DefD.val := congrArg (fun z : AlK => z.1.2) c
  have e2 : (fnL.map fun d => He.fnW K d.at_)[i]? = (fnL.map DefD.val)[i]? := by rw [e]
  rw [List.getElem?_map, List.getElem?_map, h] at e2
  exact DefD.funD (Option.some.inj e2) (List.all_eq_true.mp (says1 c).2.1 d (List.mem_of_getElem? h))
theorem fn_at (c : obsK K = valK) (i : Nat) {d : XcD} (h : (xcL ++ [celD])[i]? = some d) : fnC K (d.f K) = d.val := by
  have e : (xcL ++ [celD]).map (fun d => fnC K (d.f K)) = (xcL ++ [celD]).map XcD.val := congrArg (fun z : AlK => z.2) c
  have e2 : ((xcL ++ [celD]).map fun d => fnC K (d.f K))[i]? = ((xcL ++ [celD]).map XcD.val)[i]? := by rw [e]
  rw [List.getElem?_map, List.getElem?_map, h] at e2
  exact Option.some.inj e2
theorem get_xc (c : obsK K = valK) (i : Nat) {d : XcD} (h : (xcL ++ [celD])[i]? = some d) (hm : d ∈ xcL) : ∃ fd, ExI PR K (d.C K) (d.f K) "__init__" d.qual (defArgs d.st) (defBody d.st) (defScope d.st) fd :=
  XcD.exI (fn_at c i h) (List.all_eq_true.mp (says1 c).2.2.1 d hm)
theorem get_cel (c : obsK K = valK) : ∃ fd, SupI PR K (ga K "Cell") (ma K (ga K "Cell") "__init__") (ma K (ga K "Paper") "__init__") "__init__" "Cell.__init__" (defArgs sCInit) (defBody sCInit) (defScope sCInit) fd :=
  sup_ok (d := celD) (fn_at c 2 rfl) (says1 c).2.2.2
end
/-! ### keywords -/
section
variable {K : PySem.W.Frag} {f : Addr} {fd : FuncData} {x q : Str}
theorem nodef {params : Arguments} {body : List Stmt} {scope : Scope} (F : FunD K x q params body scope [] [] f fd) : ∃ kV doc pm an cdv ct, fd = PySem.W.fnOf x q params body scope .none kV doc pm an cdv ct := by
  obtain ⟨oc, od, dV, kV, doc, pm, an, cdv, ct, osl, rfl, lk, hcd, hD, hK⟩ := F.ex
  rcases hD with ⟨_, rfl⟩ | ⟨e, _⟩
  · exact ⟨_, _, _, _, _, _, rfl⟩
  · exact absurd rfl e
theorem kbn_top (F : FnP K "top" sTop f fd) : KBn K fd ["cell"] 0 ["cell"] (fun _ ws => ws) gOnly := by
  obtain ⟨kV, doc, pm, an, cdv, ct, rfl⟩ := nodef F
  refine ⟨fun s us ws X l1 l2 => ?_, fun r1 r2 => r2⟩
  match us, ws, l1, l2 with
  | [], [u], _, _ => exact .of_eq rfl
def wOne (us ws : List Value) : List Value := match us, ws with
  | [v], [x] => [v, x]
  | _, _ => []
def wTwo (us ws : List Value) : List Value := match us, ws with
  | [v], [z, x] => [v, x, z]
  | _, _ => []
def wCell (us ws : List Value) : List Value := match us, ws with
  | [v], [y6, y5, y4, y3, y2, y1, y0] => [v, y0, y1, y2, y3, y4, y5, y6]
  | _, _ => []
theorem kbn_has (F : FnM K "has" "Cell.has" sHas f fd) : KBn K fd ["self", "x", "z"] 1 ["z", "x"] wTwo gTwo := by
  obtain ⟨kV, doc, pm, an, cdv, ct, rfl⟩ := nodef F
  refine ⟨fun s us ws X l1 l2 => ?_, fun r1 r2 => ?_⟩
  · match us, ws, l1, l2 with
    | [u], [w0, w1], _, _ => exact .of_eq rfl
  · cases r1 with
    | nil => exact .nil
    | cons b r1 =>
      cases r1 with
      | cons _ _ => exact .nil
      | nil =>
        cases r2 with
        | nil => exact .nil
        | cons a0 r2 =>
          cases r2 with
          | nil => exact .nil
          | cons a1 r2 =>
            cases r2 with
            | cons _ _ => exact .nil
            | nil => exact .cons b (.cons a1 (.cons a0 .nil))
theorem kbn_spot (F : FnM K "spot" "Cell.spot" sSpot f fd) : KBn K fd ["self", "x"] 1 ["x"] wOne gOne := by
  obtain ⟨kV, doc, pm, an, cdv, ct, rfl⟩ := nodef F
  refine ⟨fun s us ws X l1 l2 => ?_, fun r1 r2 => ?_⟩
  · match us, ws, l1, l2 with
    | [u], [w0], _, _ => exact .of_eq rfl
  · cases r1 with
    | nil => exact .nil
    | cons b r1 =>
      cases r1 with
      | cons _ _ => exact .nil
      | nil =>
        cases r2 with
        | nil => exact .nil
        | cons a0 r2 =>
          cases r2 with
          | cons _ _ => exact .nil
          | nil => exact .cons b (.cons a0 .nil)
theorem kbn_cut (F : FnM K "cut" "Cell.cut" sCut f fd) : KBn K fd ["self", "t"] 1 ["t"] wOne gOne := by
  obtain ⟨kV, doc, pm, an, cdv, ct, rfl⟩ := nodef F
  refine ⟨fun s us ws X l1 l2 => ?_, fun r1 r2 => ?_⟩
  · match us, ws, l1, l2 with
    | [u], [w0], _, _ => exact .of_eq rfl
  · cases r1 with
    | nil => exact .nil
    | cons b r1 =>
      cases r1 with
      | cons _ _ => exact .nil
      | nil =>
        cases r2 with
        | nil => exact .nil
        | cons a0 r2 =>
          cases r2 with
          | cons _ _ => exact .nil
          | nil => exact .cons b (.cons a0 .nil)
theorem bnd_cel {C g : Addr} (D : SupI PR K C f g "__init__" "Cell.__init__" (defArgs sCInit) (defBody sCInit) (defScope sCInit) fd) : Binds K fd cN [] := by
  obtain ⟨oc, od, kV, doc, pm, an, cda, ct, osl, cc, ccl, cdd, vs, ccs, file, tf, cl, cld, csl, rfl, _⟩ := D.ex
  exact .all fun us hl => match us, hl with | [_, _, _, _, _, _, _, _], _ => rfl
theorem kbn_cel {C g : Addr} (D : SupI PR K C f g "__init__" "Cell.__init__" (defArgs sCInit) (defBody sCInit) (defScope sCInit) fd) : KBn K fd cN 1 ["last", "first", "period", "high", "low", "z_high", "z_low"] wCell gCell := by
  obtain ⟨oc, od, kV, doc, pm, an, cda, ct, osl, cc, ccl, cdd, vs, ccs, file, tf, cl, cld, csl, rfl, _⟩ := D.ex
  refine ⟨fun s us ws X l1 l2 => ?_, fun r1 r2 => ?_⟩
  · match us, ws, l1, l2 with
    | [u], [w0, w1, w2, w3, w4, w5, w6], _, _ => exact .of_eq rfl
  · cases r1 with
    | nil => exact .nil
    | cons b r1 =>
      cases r1 with
      | cons _ _ => exact .nil
      | nil =>
        cases r2 with
        | nil => exact .nil
        | cons a0 r2 =>
          cases r2 with
          | nil => exact .nil
          | cons a1 r2 =>
            cases r2 with
            | nil => exact .nil
            | cons a2 r2 =>
              cases r2 with
              | nil => exact .nil
              | cons a3 r2 =>
                cases r2 with
                | nil => exact .nil
                | cons a4 r2 =>
                  cases r2 with
                  | nil => exact .nil
                  | cons a5 r2 =>
                    cases r2 with
                    | nil => exact .nil
                    | cons a6 r2 =>
                      cases r2 with
                      | cons _ _ => exact .nil
                      | nil => exact .cons b (.cons a6 (.cons a5 (.cons a4 (.cons a3 (.cons a2 (.cons a1 (.cons a0 .nil)))))))
end
section
variable {K : PySem.W.Frag} {h : Heap} {mg : Str → Option Value} {w : World} {base : Heap}
theorem top_super : (PR.main.scope.names.lookup ("super" : Str)).isSome = false := by decide +kernel
theorem tl_of (X : K.In h) (G : h.Ns mainGlobals mg) (c : obsK K = valK) (M : L2.Mod K mg base) : TL PR w base K mg (ga K "Paper") (ga K "Cell") (ga K "BadNumber") (ga K "Misfit") 0 ∧ TLe PR w base K mg (ga K "Paper") (ga K "Cell") := by
  have F := exB_ok (says1 c).1
  have fr : ∀ x ∈ freeL, mg x = none := fun x hx => He.free_ok X G (List.all_eq_true.mp F.c0 x hx)
  have gl : ∀ x ∈ gloL, mg x = some (.ref (ga K x)) := fun x hx => He.glo_ok X G (List.all_eq_true.mp F.c1 x hx)
  have il : ∀ q ∈ intL, ∃ t, mg q.1 = some (.int q.2 t) := fun q hq => He.int_ok X G (List.all_eq_true.mp F.c2 q hq)
  obtain ⟨fdI, FI⟩ : ∃ fd, FnP K "is_integer" sIsInt (ga K "is_integer") fd := get_fn c 0 (d := ⟨("is_integer", none), "is_integer", "is_integer", defArgs sIsInt, defBody sIsInt, defScope sIsInt, [], []⟩) rfl
  obtain ⟨fdW, FW⟩ : ∃ fd, FnP K "is_within" sIsIn (ga K "is_within") fd := get_fn c 1 (d := ⟨("is_within", none), "is_within", "is_within", defArgs sIsIn, defBody sIsIn, defScope sIsIn, [], []⟩) rfl
  obtain ⟨fdLi, FLi⟩ : ∃ fd, FnP K "is_listed" sIsListed (ga K "is_listed") fd := get_fn c 2 (d := ⟨("is_listed", none), "is_listed", "is_listed", defArgs sIsListed, defBody sIsListed, defScope sIsListed, [], []⟩) rfl
  obtain ⟨fdA, FA⟩ : ∃ fd, FnP K "are_integers" sAreInts (ga K "are_integers") fd := get_fn c 3 (d := ⟨("are_integers", none), "are_integers", "are_integers", defArgs sAreInts, defBody sAreInts, defScope sAreInts, [], []⟩) rfl
  obtain ⟨fdF, FF⟩ : ∃ fd, FnP K "fixed" sFixed (ga K "fixed") fd := get_fn c 4 (d := ⟨("fixed", none), "fixed", "fixed", defArgs sFixed, defBody sFixed, defScope sFixed, [], []⟩) rfl
  obtain ⟨fdL, FL⟩ : ∃ fd, FnP K "are_like" sLike (ga K "are_like") fd := get_fn c 5 (d := ⟨("are_like", none), "are_like", "are_like", defArgs sLike, defBody sLike, defScope sLike, [], []⟩) rfl
  obtain ⟨fdNx, FNx⟩ : ∃ fd, FunD K "need_x" "need_x" (defArgs sNeedX) (defBody sNeedX) (defScope sNeedX) [.str "x"] [] (ga K "need_x") fd := get_fn c 6 (d := ⟨("need_x", none), "need_x", "need_x", defArgs sNeedX, defBody sNeedX, defScope sNeedX, [.str "x"], []⟩) rfl
  obtain ⟨fdNc, FNc⟩ : ∃ fd, FnP K "need_cut" sNeedCut (ga K "need_cut") fd := get_fn c 7 (d := ⟨("need_cut", none), "need_cut", "need_cut", defArgs sNeedCut, defBody sNeedCut, defScope sNeedCut, [], []⟩) rfl
  obtain ⟨fdIc, FIc⟩ : ∃ fd, FnP K "is_cell" sIsCell (ga K "is_cell") fd := get_fn c 8 (d := ⟨("is_cell", none), "is_cell", "is_cell", defArgs sIsCell, defBody sIsCell, defScope sIsCell, [], []⟩) rfl
  obtain ⟨fdHc, FHc⟩ : ∃ fd, FnP K "has_cut" sHasCut (ga K "has_cut") fd := get_fn c 9 (d := ⟨("has_cut", none), "has_cut", "has_cut", defArgs sHasCut, defBody sHasCut, defScope sHasCut, [], []⟩) rfl
  obtain ⟨fdTo, FTo⟩ : ∃ fd, FnP K "top_of" sTopOf (ga K "top_of") fd := get_fn c 10 (d := ⟨("top_of", none), "top_of", "top_of", defArgs sTopOf, defBody sTopOf, defScope sTopOf, [], []⟩) rfl
  obtain ⟨fdXa, FXa⟩ : ∃ fd, FnP K "x_at" sXAt (ga K "x_at") fd := get_fn c 11 (d := ⟨("x_at", none), "x_at", "x_at", defArgs sXAt, defBody sXAt, defScope sXAt, [], []⟩) rfl
  obtain ⟨fdNe, FNe⟩ : ∃ fd, FnP K "need_cell" sNeedCell (ga K "need_cell") fd := get_fn c 12 (d := ⟨("need_cell", none), "need_cell", "need_cell", defArgs sNeedCell, defBody sNeedCell, defScope sNeedCell, [], []⟩) rfl
  obtain ⟨fdTp, FTp⟩ : ∃ fd, FnP K "top" sTop (ga K "top") fd := get_fn c 13 (d := ⟨("top", none), "top", "top", defArgs sTop, defBody sTop, defScope sTop, [], []⟩) rfl
  obtain ⟨fdPn, FPn⟩ : ∃ fd, FnP K "_law_pen" sPen (ga K "_law_pen") fd := get_fn c 14 (d := ⟨("_law_pen", none), "_law_pen", "_law_pen", defArgs sPen, defBody sPen, defScope sPen, [], []⟩) rfl
  obtain ⟨fdDr, FDr⟩ : ∃ fd, FnP K "_law_draw" sDraw (ga K "_law_draw") fd := get_fn c 15 (d := ⟨("_law_draw", none), "_law_draw", "_law_draw", defArgs sDraw, defBody sDraw, defScope sDraw, [], []⟩) rfl
  obtain ⟨fdPk, FPk⟩ : ∃ fd, FnP K "_law_pick" sPick (ga K "_law_pick") fd := get_fn c 16 (d := ⟨("_law_pick", none), "_law_pick", "_law_pick", defArgs sPick, defBody sPick, defScope sPick, [], []⟩) rfl
  obtain ⟨fdHd, FHd⟩ : ∃ fd, FnP K "_law_heard" sHeard (ga K "_law_heard") fd := get_fn c 17 (d := ⟨("_law_heard", none), "_law_heard", "_law_heard", defArgs sHeard, defBody sHeard, defScope sHeard, [], []⟩) rfl
  obtain ⟨fdLw, FLw⟩ : ∃ fd, FnP K "law" sLaw (ga K "law") fd := get_fn c 18 (d := ⟨("law", none), "law", "law", defArgs sLaw, defBody sLaw, defScope sLaw, [], []⟩) rfl
  obtain ⟨fdPI, FPI⟩ : ∃ fd, FnM K "__init__" "Paper.__init__" sPInit (ma K (ga K "Paper") "__init__") fd := get_fn c 19 (d := ⟨("Paper", some "__init__"), "__init__", "Paper.__init__", defArgs sPInit, defBody sPInit, defScope sPInit, [], []⟩) rfl
  obtain ⟨fdPB, FPB⟩ : ∃ fd, FnM K "__bool__" "Paper.__bool__" sPBool (ma K (ga K "Paper") "__bool__") fd := get_fn c 20 (d := ⟨("Paper", some "__bool__"), "__bool__", "Paper.__bool__", defArgs sPBool, defBody sPBool, defScope sPBool, [], []⟩) rfl
  obtain ⟨fdPE, FPE⟩ : ∃ fd, FnM K "__eq__" "Paper.__eq__" sPEq (ma K (ga K "Paper") "__eq__") fd := get_fn c 21 (d := ⟨("Paper", some "__eq__"), "__eq__", "Paper.__eq__", defArgs sPEq, defBody sPEq, defScope sPEq, [], []⟩) rfl
  obtain ⟨fdHa, FHa⟩ : ∃ fd, FnM K "has" "Cell.has" sHas (ma K (ga K "Cell") "has") fd := get_fn c 22 (d := ⟨("Cell", some "has"), "has", "Cell.has", defArgs sHas, defBody sHas, defScope sHas, [], []⟩) rfl
  obtain ⟨fdSp, FSp⟩ : ∃ fd, FnM K "spot" "Cell.spot" sSpot (ma K (ga K "Cell") "spot") fd := get_fn c 23 (d := ⟨("Cell", some "spot"), "spot", "Cell.spot", defArgs sSpot, defBody sSpot, defScope sSpot, [], []⟩) rfl
  obtain ⟨fdCu, FCu⟩ : ∃ fd, FnM K "cut" "Cell.cut" sCut (ma K (ga K "Cell") "cut") fd := get_fn c 24 (d := ⟨("Cell", some "cut"), "cut", "Cell.cut", defArgs sCut, defBody sCut, defScope sCut, [], []⟩) rfl
  have bI : Binds K fdI ["value"] [] := FI.bindsN fun _ _ _ _ _ _ us hl => match us, hl with | [_], _ => rfl
  have bW : Binds K fdW ["value", "least", "most"] [] := FW.bindsN fun _ _ _ _ _ _ us hl => match us, hl with | [_, _, _], _ => rfl
  have bLi : Binds K fdLi ["value"] [] := FLi.bindsN fun _ _ _ _ _ _ us hl => match us, hl with | [_], _ => rfl
  have bA : Binds K fdA ["value", "many"] [] := FA.bindsN fun _ _ _ _ _ _ us hl => match us, hl with | [_, _], _ => rfl
  have bF : Binds K fdF ["value"] [] := FF.bindsN fun _ _ _ _ _ _ us hl => match us, hl with | [_], _ => rfl
  have bL : Binds K fdL ["one", "other"] [] := FL.bindsN fun _ _ _ _ _ _ us hl => match us, hl with | [_, _], _ => rfl
  have bNc : Binds K fdNc ["x", "z"] [] := FNc.bindsN fun _ _ _ _ _ _ us hl => match us, hl with | [_, _], _ => rfl
  have bIc : Binds K fdIc ["value"] [] := FIc.bindsN fun _ _ _ _ _ _ us hl => match us, hl with | [_], _ => rfl
  have bHc : Binds K fdHc ["cell", "x", "z"] [] := FHc.bindsN fun _ _ _ _ _ _ us hl => match us, hl with | [_, _, _], _ => rfl
  have bTo : Binds K fdTo ["cell"] [] := FTo.bindsN fun _ _ _ _ _ _ us hl => match us, hl with | [_], _ => rfl
  have bXa : Binds K fdXa ["cell", "t"] [] := FXa.bindsN fun _ _ _ _ _ _ us hl => match us, hl with | [_, _], _ => rfl
  have bNe : Binds K fdNe ["value"] [] := FNe.bindsN fun _ _ _ _ _ _ us hl => match us, hl with | [_], _ => rfl
  have bTp : Binds K fdTp ["cell"] [] := FTp.bindsN fun _ _ _ _ _ _ us hl => match us, hl with | [_], _ => rfl
  have bPn : Binds K fdPn ["script"] [] := FPn.bindsN fun _ _ _ _ _ _ us hl => match us, hl with | [_], _ => rfl
  have bDr : Binds K fdDr ["pen", "many"] [] := FDr.bindsN fun _ _ _ _ _ _ us hl => match us, hl with | [_, _], _ => rfl
  have bPk : Binds K fdPk ["pen", "some"] [] := FPk.bindsN fun _ _ _ _ _ _ us hl => match us, hl with | [_, _], _ => rfl
  have bHd : Binds K fdHd ["ask"] [] := FHd.bindsN fun _ _ _ _ _ _ us hl => match us, hl with | [_], _ => rfl
  have bPB : Binds K fdPB ["self"] [] := FPB.bindsN fun _ _ _ _ _ _ us hl => match us, hl with | [_], _ => rfl
  have bPE : Binds K fdPE ["self", "other"] [] := FPE.bindsN fun _ _ _ _ _ _ us hl => match us, hl with | [_, _], _ => rfl
  have bHa : Binds K fdHa ["self", "x", "z"] [] := FHa.bindsN fun _ _ _ _ _ _ us hl => match us, hl with | [_, _, _], _ => rfl
  have bSp : Binds K fdSp ["self", "x"] [] := FSp.bindsN fun _ _ _ _ _ _ us hl => match us, hl with | [_, _], _ => rfl
  have bCu : Binds K fdCu ["self", "t"] [] := FCu.bindsN fun _ _ _ _ _ _ us hl => match us, hl with | [_, _], _ => rfl
  have mI : mg "is_integer" = some (.ref (ga K "is_integer")) := gl "is_integer" (by decide +kernel)
  have mW : mg "is_within" = some (.ref (ga K "is_within")) := gl "is_within" (by decide +kernel)
  have mLi : mg "is_listed" = some (.ref (ga K "is_listed")) := gl "is_listed" (by decide +kernel)
  have mA : mg "are_integers" = some (.ref (ga K "are_integers")) := gl "are_integers" (by decide +kernel)
  have mF : mg "fixed" = some (.ref (ga K "fixed")) := gl "fixed" (by decide +kernel)
  have mL : mg "are_like" = some (.ref (ga K "are_like")) := gl "are_like" (by decide +kernel)
  have mNx : mg "need_x" = some (.ref (ga K "need_x")) := gl "need_x" (by decide +kernel)
  have mNc : mg "need_cut" = some (.ref (ga K "need_cut")) := gl "need_cut" (by decide +kernel)
  have mIc : mg "is_cell" = some (.ref (ga K "is_cell")) := gl "is_cell" (by decide +kernel)
  have mHc : mg "has_cut" = some (.ref (ga K "has_cut")) := gl "has_cut" (by decide +kernel)
  have mTo : mg "top_of" = some (.ref (ga K "top_of")) := gl "top_of" (by decide +kernel)
  have mXa : mg "x_at" = some (.ref (ga K "x_at")) := gl "x_at" (by decide +kernel)
  have mNe : mg "need_cell" = some (.ref (ga K "need_cell")) := gl "need_cell" (by decide +kernel)
  have mTp : mg "top" = some (.ref (ga K "top")) := gl "top" (by decide +kernel)
  have mPn : mg "_law_pen" = some (.ref (ga K "_law_pen")) := gl "_law_pen" (by decide +kernel)
  have mDr : mg "_law_draw" = some (.ref (ga K "_law_draw")) := gl "_law_draw" (by decide +kernel)
  have mPk : mg "_law_pick" = some (.ref (ga K "_law_pick")) := gl "_law_pick" (by decide +kernel)
  have mHd : mg "_law_heard" = some (.ref (ga K "_law_heard")) := gl "_law_heard" (by decide +kernel)
  have mLw : mg "law" = some (.ref (ga K "law")) := gl "law" (by decide +kernel)
  have su : mg "super" = none := fr "super" (by decide +kernel)
  have tT : TxtT mg := ⟨fr "isinstance" (by decide +kernel), fr "list" (by decide +kernel), fr "tuple" (by decide +kernel)⟩
  have tV : TxtV K mg := ⟨fr "int" (by decide +kernel), fr "range" (by decide +kernel), fr "tuple" (by decide +kernel)⟩
  have tD : TxtD mg := ⟨fr "int" (by decide +kernel), fr "len" (by decide +kernel), fr "abs" (by decide +kernel)⟩
  have tL : TxtL mg := ⟨fr "isinstance" (by decide +kernel), fr "tuple" (by decide +kernel), fr "bool" (by decide +kernel), fr "len" (by decide +kernel), fr "all" (by decide +kernel), fr "zip" (by decide +kernel)⟩
  have tI : TxtI mg := ⟨fr "isinstance" (by decide +kernel), fr "int" (by decide +kernel), fr "bool" (by decide +kernel)⟩
  have tA : TxtA mg := ⟨fr "isinstance" (by decide +kernel), fr "list" (by decide +kernel), fr "tuple" (by decide +kernel), fr "len" (by decide +kernel), fr "all" (by decide +kernel)⟩
  have tN : TxtN mg := ⟨il ("MOST_X", 549755813888) (by decide +kernel), il ("LEAST_Z", 2) (by decide +kernel), il ("MOST_Z", 1048576) (by decide +kernel)⟩
  have tK : TxtK mg (ga K "Cell") := ⟨fr "isinstance" (by decide +kernel), gl "Cell" (by decide +kernel), il ("FIELDS", 7) (by decide +kernel)⟩
  have tP : TxtP K mg (ga K "Paper") := ⟨fr "isinstance" (by decide +kernel), gl "Paper" (by decide +kernel)⟩
  have rBadNumber : RzC PR K mg "BadNumber" (ga K "BadNumber") "part" := by
    obtain ⟨fx, Dx⟩ := get_xc c 0 (d := ⟨"BadNumber", "BadNumber.__init__", sX 2⟩) rfl (by simp [xcL])
    obtain ⟨k1, k2⟩ := ba (List.all_eq_true.mp F.c3 "BadNumber" (by decide +kernel))
    obtain ⟨k3, k4⟩ := ba k2
    obtain ⟨k5, k6⟩ := ba k4
    obtain ⟨k7, k8⟩ := ba (List.all_eq_true.mp F.c4 "BadNumber" (by decide +kernel))
    exact ⟨made_BadNumber Dx (eqO_ok k5) su top_super, of_decide_eq_true k7, of_decide_eq_true k8, k1, gl "BadNumber" (by decide +kernel)⟩
  have rMisfit : RzC PR K mg "Misfit" (ga K "Misfit") "part" := by
    obtain ⟨fx, Dx⟩ := get_xc c 1 (d := ⟨"Misfit", "Misfit.__init__", sX 9⟩) rfl (by simp [xcL])
    obtain ⟨k1, k2⟩ := ba (List.all_eq_true.mp F.c3 "Misfit" (by decide +kernel))
    obtain ⟨k3, k4⟩ := ba k2
    obtain ⟨k5, k6⟩ := ba k4
    obtain ⟨k7, k8⟩ := ba (List.all_eq_true.mp F.c4 "Misfit" (by decide +kernel))
    exact ⟨made_Misfit Dx (eqO_ok k5) su top_super, of_decide_eq_true k7, of_decide_eq_true k8, k1, gl "Misfit" (by decide +kernel)⟩
  have gF : ∀ n, FnOk PR w K mg base CX0 n (ga K "fixed") fdF ["value"] (spTup n) := ok_fixed FF bF FF.kp mF tT
  have gL : FnOk PR w K mg base CX0 8 (ga K "are_like") fdL ["one", "other"] (spLike 8) := ok_like FL bL FL.kp mL tL 8
  have gI : FnOk PR w K mg base CX0 1 (ga K "is_integer") fdI ["value"] spIsInt := ok_isint FI tI
  have gW : FnOk PR w K mg base CX0 2 (ga K "is_within") fdW ["value", "least", "most"] spIsIn := ok_isin FW FI gI bI mI
  have gLi : FnOk PR w K mg base CX0 1 (ga K "is_listed") fdLi ["value"] spIsListed := ok_islisted FLi tA
  have gA : FnOk PR w K mg base CX0 2 (ga K "are_integers") fdA ["value", "many"] spAreInts := ok_areints FA FLi gLi bLi mLi FI gI bI mI tA
  have gTo : FnOk PR w K mg base CX0 1 (ga K "top_of") fdTo ["cell"] (spTopOf K) := ok_topof FTo
  have gXa : FnOk PR w K mg base CX0 1 (ga K "x_at") fdXa ["cell", "t"] (spXAt K) := ok_xat FXa
  have gHc : FnOk PR w K mg base CX0 1 (ga K "has_cut") fdHc ["cell", "x", "z"] (spHasCut K) := ok_hascut FHc
  have gDr : FnOk PR w K mg base CX0 1 (ga K "_law_draw") fdDr ["pen", "many"] spDraw := ok_draw FDr tD
  have gPn : FnOk PR w K mg base CX0 1 (ga K "_law_pen") fdPn ["script"] (spPen K) := ok_pen FPn tV
  have gPk : FnOk PR w K mg base CX0 2 (ga K "_law_pick") fdPk ["pen", "some"] spPick := ok_pick FPk (fr "len" (by decide +kernel)) FDr gDr bDr mDr
  have gNx : FnOk PR w K mg base (L2.CX PR w) 3 (ga K "need_x") fdNx ["x", "part"] (spNeedX (ga K "BadNumber")) := ok_needx FNx FW gW bW mW tN rBadNumber
  have gNc : FnOk PR w K mg base (L2.CX PR w) 4 (ga K "need_cut") fdNc ["x", "z"] (spNeedCut (ga K "BadNumber")) := ok_needcut FNc FNx gNx mNx FW gW bW mW tN rBadNumber
  have gIc : FnOk PR w K mg base CX0 3 (ga K "is_cell") fdIc ["value"] (spIsCell K (ga K "Paper") (ga K "Cell")) := ok_iscell FIc FA gA bA mA tK tN
  have gNe : FnOk PR w K mg base (L2.CX PR w) 4 (ga K "need_cell") fdNe ["value"] (spNeedCell K (ga K "Paper") (ga K "Cell") (ga K "Misfit")) := ok_needcell FNe FIc gIc bIc mIc rMisfit
  have gTp : FnOk PR w K mg base (L2.CX PR w) 5 (ga K "top") fdTp ["cell"] (spTopM K (ga K "Paper") (ga K "Cell") (ga K "Misfit")) := ok_top FTp FNe gNe bNe mNe FTo gTo bTo mTo
  have gHa : FnOk PR w K mg base (L2.CX PR w) 5 (ma K (ga K "Cell") "has") fdHa ["self", "x", "z"] (spHas K (ga K "BadNumber")) := ok_has FHa FNc gNc bNc mNc FHc gHc bHc mHc
  have gSp : FnOk PR w K mg base (L2.CX PR w) 3 (ma K (ga K "Cell") "spot") fdSp ["self", "x"] (spSpot K (ga K "BadNumber")) := ok_spot FSp FW gW bW mW rBadNumber
  have gCu : FnOk PR w K mg base (L2.CX PR w) 3 (ma K (ga K "Cell") "cut") fdCu ["self", "t"] (spCutM K (ga K "BadNumber")) := ok_cut FCu FW gW bW mW rBadNumber FTo gTo bTo mTo FXa gXa bXa mXa
  have gPI := ok_pinit (Pr := PR) (P := ga K "Paper") FPI FF gF bF mF 6
  obtain ⟨fdCI, DCI⟩ := get_cel c
  have gCI : FnOk PR w K mg base CX0 8 (ma K (ga K "Cell") "__init__") fdCI cN (spCInit K (ga K "Paper") (ga K "Cell")) := ok_cinit DCI M top_super su gPI
  have gPB : FnOk PR w K mg base CX0 1 (ma K (ga K "Paper") "__bool__") fdPB ["self"] (spCst true) := ok_pbool FPB
  have gPE : FnOk PR w K mg base CX0 9 (ma K (ga K "Paper") "__eq__") fdPE ["self", "other"] (spEqv K (ga K "Paper")) := ok_peq FPE FL gL bL mL tP
  have pC : PapC K (ga K "Paper") (ga K "Cell") "Cell" := papB_ok F.c18
  have pP : PapC K (ga K "Paper") (ga K "Paper") "Paper" := papB_ok F.c17
  have mt : ∀ m ∈ (["has", "spot", "cut"] : List Str), Meth K (ga K "Cell") m (ma K (ga K "Cell") m) := fun m hm => He.meth_ok (List.all_eq_true.mp F.c7 m hm)
  refine ⟨{
    n_range := fr "range" (by decide +kernel)
    n_max := fr "max" (by decide +kernel)
    n_min := fr "min" (by decide +kernel)
    n_repr := fr "repr" (by decide +kernel)
    n_int := fr "int" (by decide +kernel)
    n_bool := fr "bool" (by decide +kernel)
    pen := ⟨_, _, FPn.kp, gPn, bPn, mPn⟩
    draw := ⟨_, _, FDr.kp, gDr, bDr, mDr⟩
    pick := ⟨_, _, FPk.kp, gPk, bPk, mPk⟩
    top := ⟨_, _, FTp.kp, gTp, bTp, mTp⟩
    topK := ⟨_, _, _, FTp.kp, gTp, kbn_top FTp, mTp⟩
    has := ⟨_, _, pC.n.cl, mt "has" (by decide +kernel), gHa, bHa⟩
    hasK := ⟨_, _, _, pC.n.cl, mt "has" (by decide +kernel), gHa, kbn_has FHa⟩
    spot := ⟨_, _, pC.n.cl, mt "spot" (by decide +kernel), gSp, bSp⟩
    spotK := ⟨_, _, _, pC.n.cl, mt "spot" (by decide +kernel), gSp, kbn_spot FSp⟩
    cut := ⟨_, _, pC.n.cl, mt "cut" (by decide +kernel), gCu, bCu⟩
    cutK := ⟨_, _, _, pC.n.cl, mt "cut" (by decide +kernel), gCu, kbn_cut FCu⟩
    mC := gl "Cell" (by decide +kernel)
    mP := gl "Paper" (by decide +kernel)
    mkC := ⟨_, _, _, mkB_ok F.c9, gCI, bnd_cel DCI, kbn_cel DCI⟩
    mkP := ⟨_, mkB_ok F.c8, gPI⟩
    pC := pC
    na := fun f hf => He.noat_ok (List.all_eq_true.mp F.c6 f hf)
    kC := of_decide_eq_true F.c13
    pP := pP
    kPC := of_decide_eq_true F.c14
    kNone := of_decide_eq_true F.c15
    kInt := of_decide_eq_true F.c16 }, ⟨⟨_, _, eqB_ok F.c10, gPE, bPE⟩, ⟨_, _, eqO_ok F.c11, F.c12, gPB, bPB⟩⟩⟩
theorem tlh_of (X : K.In h) (G : h.Ns mainGlobals mg) (c : obsK K = valK) : TLh K mg (ga K "BadNumber") (ga K "Misfit") := by
  have F := exB_ok (says1 c).1
  have fr : ∀ x ∈ freeL, mg x = none := fun x hx => He.free_ok X G (List.all_eq_true.mp F.c0 x hx)
  have gl : ∀ x ∈ gloL, mg x = some (.ref (ga K x)) := fun x hx => He.glo_ok X G (List.all_eq_true.mp F.c1 x hx)
  have il : ∀ q ∈ intL, ∃ t, mg q.1 = some (.int q.2 t) := fun q hq => He.int_ok X G (List.all_eq_true.mp F.c2 q hq)
  obtain ⟨fdHd, FHd⟩ : ∃ fd, FnP K "_law_heard" sHeard (ga K "_law_heard") fd := get_fn c 17 (d := ⟨("_law_heard", none), "_law_heard", "_law_heard", defArgs sHeard, defBody sHeard, defScope sHeard, [], []⟩) rfl
  have bHd : Binds K fdHd ["ask"] [] := FHd.bindsN fun _ _ _ _ _ _ us hl => match us, hl with | [_], _ => rfl
  have hBadNumber := ba (List.all_eq_true.mp F.c3 "BadNumber" (by decide +kernel))
  have hBadNumber2 := ba hBadNumber.2
  have hBadNumber3 := ba hBadNumber2.2
  have hBadNumber4 := ba hBadNumber3.2
  have xBadNumber := ecB_ok hBadNumber2.1
  have kBadNumber : ∀ y ∈ kL, PySem.W.kitOne K (.ref (ga K "BadNumber")) (.ref (ga K y)) = some (("BadNumber" : Str) == y) := fun y hy => of_decide_eq_true (List.all_eq_true.mp (List.all_eq_true.mp F.c5 "BadNumber" (by decide +kernel)) y hy)
  have hMisfit := ba (List.all_eq_true.mp F.c3 "Misfit" (by decide +kernel))
  have hMisfit2 := ba hMisfit.2
  have hMisfit3 := ba hMisfit2.2
  have hMisfit4 := ba hMisfit3.2
  have xMisfit := ecB_ok hMisfit2.1
  have kMisfit : ∀ y ∈ kL, PySem.W.kitOne K (.ref (ga K "Misfit")) (.ref (ga K y)) = some (("Misfit" : Str) == y) := fun y hy => of_decide_eq_true (List.all_eq_true.mp (List.all_eq_true.mp F.c5 "Misfit" (by decide +kernel)) y hy)
  refine ⟨⟨ga K "BellError", ga K "TooMany", ga K "BadBits", ga K "BadTable", ga K "BadBook", ga K "BadRow", ga K "BadPattern", ga K "BadPaper", ⟨fr "isinstance" (by decide +kernel), fr "len" (by decide +kernel), gl "BellError" (by decide +kernel), gl "TooMany" (by decide +kernel), gl "BadNumber" (by decide +kernel), gl "BadBits" (by decide +kernel), gl "BadTable" (by decide +kernel), gl "BadBook" (by decide +kernel), gl "BadRow" (by decide +kernel), gl "BadPattern" (by decide +kernel), gl "BadPaper" (by decide +kernel), gl "Misfit" (by decide +kernel)⟩, ⟨of_decide_eq_true hBadNumber4.1, xBadNumber.1, xBadNumber.2, eqO_ok hBadNumber3.1, of_decide_eq_true hBadNumber4.2, (kBadNumber "BadNumber" (by decide +kernel)).trans (congrArg some (by decide +kernel)), (kBadNumber "BadBits" (by decide +kernel)).trans (congrArg some (by decide +kernel)), (kBadNumber "BadTable" (by decide +kernel)).trans (congrArg some (by decide +kernel)), (kBadNumber "BadBook" (by decide +kernel)).trans (congrArg some (by decide +kernel)), (kBadNumber "BadRow" (by decide +kernel)).trans (congrArg some (by decide +kernel)), (kBadNumber "BadPattern" (by decide +kernel)).trans (congrArg some (by decide +kernel)), (kBadNumber "BadPaper" (by decide +kernel)).trans (congrArg some (by decide +kernel)), (kBadNumber "Misfit" (by decide +kernel)).trans (congrArg some (by decide +kernel))⟩, ⟨of_decide_eq_true hMisfit4.1, xMisfit.1, xMisfit.2, eqO_ok hMisfit3.1, of_decide_eq_true hMisfit4.2, (kMisfit "BadNumber" (by decide +kernel)).trans (congrArg some (by decide +kernel)), (kMisfit "BadBits" (by decide +kernel)).trans (congrArg some (by decide +kernel)), (kMisfit "BadTable" (by decide +kernel)).trans (congrArg some (by decide +kernel)), (kMisfit "BadBook" (by decide +kernel)).trans (congrArg some (by decide +kernel)), (kMisfit "BadRow" (by decide +kernel)).trans (congrArg some (by decide +kernel)), (kMisfit "BadPattern" (by decide +kernel)).trans (congrArg some (by decide +kernel)), (kMisfit "BadPaper" (by decide +kernel)).trans (congrArg some (by decide +kernel)), (kMisfit "Misfit" (by decide +kernel)).trans (congrArg some (by decide +kernel))⟩⟩, ⟨_, _, FHd, bHd, gl "_law_heard" (by decide +kernel)⟩⟩
theorem room13 : Room 13 callerA := ⟨rfl, by decide, by decide⟩
theorem law_of (X : K.In h) (G : h.Ns mainGlobals mg) (c : obsK K = valK) {c0 P : Addr} (hc : He.codeOf K ("law", none) = c0) : ∃ fd : FuncData, (∀ (s : Shared) (v : Value), BindsTo s fd ⟨[v], []⟩ [("script", v)]) ∧ ∀ base : Heap, TabB base mg c0 P → RunC PR w K mg base (ga K "law") fd ["script"] (spLaw K P) := by
  obtain ⟨fdLw, FLw⟩ : ∃ fd, FnP K "law" sLaw (ga K "law") fd := get_fn c 18 (d := ⟨("law", none), "law", "law", defArgs sLaw, defBody sLaw, defScope sLaw, [], []⟩) rfl
  have bLw := FunD.bindsA (ps := ["script"]) FLw fun _ _ _ _ _ _ us hl => match us, hl with | [_], _ => rfl
  have ec : fdLw.code = .ref c0 := by
    obtain ⟨oc, od, dV, kV, doc, pm, an, cdv, ct, osl, rfl, lk, hcd, _, _⟩ := FLw.ex
    obtain ⟨c1, rfl⟩ := He.codeIn_ref hcd
    have z := He.codeOf_eq (p := ("law", none)) lk rfl
    rw [← hc, z]
  refine ⟨fdLw, fun s v => bLw s [v] rfl, fun base TB => ?_⟩
  intro s0 H0 args us vs0 Q0 E0' e0
  have TT := tl_of (w := w) X G c e0.mod
  refine runC_of (k := 12) FLw ec scL room13 (fun vs H Q E z => ?_) (fun s H vs Q E hr hg z => ?_) s0 H0 args us vs0 Q0 E0' e0
  · obtain ⟨a, ns, rfl, _⟩ := z
    rfl
  · exact law_body TT.1 TT.2 hr hg (tlh_of X G c) ⟨_, rfl, TB⟩ rfl z
end
end My
open PySem PySem.W PySem.Calls PyProof.Rows
theorem PySem.Challenge.cw_opencuts_k07_cells_and_their_cuts_holds : PySem.Challenge.rw_opencuts_k07_cells_and_their_cuts.Holds := by
  w_on; o_law
  refine HandSHeadRun.head_any (r := My.RR) (q := My.qv) (H := My.hookK) (ob := My.obK) (M := 30000) (loose := My.names) (d := HandSHeadRun.topDef My.RR.prog 40) (kwd := []) My.obK_eq
    (by kernel_rfl) (fun s => by kernel_rfl) My.runK (by kernel_rfl) (by kernel_rfl) (by kernel_rfl) (by rfl) (by first | assumption | decide +kernel) (by decide +kernel) ⟨rfl, rfl, rfl, rfl, rfl, by decide +kernel⟩ ?hw ?hc
  case hw => w_witness2
  case hc =>
    refine My.end_walk (l := PySem.Challenge.rw_opencuts_k07_cells_and_their_cuts) (n := 63) (x := "script") rfl (by decide) (by kernel_rfl) ?F
    intro w mg fa h Y G hmg0
    obtain ⟨K, KX, c⟩ := Y
    have e : (HandSHeadRun.topDef My.RR.prog 40).name = ("law" : PySem.Str) := by kernel_rfl
    rw [e] at hmg0
    have F := My.exB_ok (My.says1 c.t).1
    have eg : mg ("law" : PySem.Str) = some (.ref (He.ga K "law")) := He.glo_ok KX G (List.all_eq_true.mp F.c1 "law" (by decide +kernel))
    have ef := hmg0.symm.trans eg
    cases ef
    obtain ⟨fd, hb, hF⟩ := My.law_of (w := w) (P := (He.cT K ("law", none)).2) KX G c.t rfl
    exact ⟨K, fd, My.spLaw K _, _, _, KX, c.empty, c.out, PySem.W.codeHd_of_K KX c.hd, hb, fun H a ns hl hP hS => ⟨a, ns, rfl, hS, hl, hP, fun _ => rfl⟩, fun base _ _ TB => hF base TB⟩
