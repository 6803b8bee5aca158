import PyProof.Rows.All
import Wide.All
import OpenK.AllK
import Wide.FinOn
import HandS.ForMost
import HandS.Defaults
import HandS.Conv
import PySem.Challenge.RW_opencuts_k00_errors_and_papers
import HandS.IsInst
import HandS.Zip
import HandS.Walk
import KE.KFromBytes
import HandS.Exc
import HandS.ExcInit
import KE.KSuper
import KE.KExcSuper
import HandS.MakeKwOnly
import KE.KIsAll
import KE.KExcIs
import KE.KTypeName
import HandS.ExcField
import HandS.ExcIs
import HandS.Star
import HandS.More
import PyProof.ReprLen
import PyProof.ReprRoads
import PyProof.CallFns
import HandS.HeadHook1
import HandS.NoneIn
import HandS.Ends
import HandS.HeadEnd
import HandS.HeadHook2
import KE.KStateDown
import Lean
import HandS.Head0
import HandS.Head1
import HandS.Head2
set_option Elab.async false
set_option linter.all false
set_option maxRecDepth 100000
set_option maxHeartbeats 4000000
namespace My
open PySem PySem.Spec PyProof.Rows L2
def top (i : Nat) : Stmt := PySem.Challenge.pw_opencuts_k00_errors_and_papers.main.body.getD i (.Pass ⟨0, 0, 0, 0⟩)
abbrev sPen : Stmt := top 21
abbrev sDraw : Stmt := top 22
abbrev FnP (K : PySem.W.Frag) (x : Str) (st : Stmt) (f : Addr) (fd : FuncData) : Prop := FunD K x x (defArgs st) (defBody st) (defScope st) [] [] f fd

/-! the reading, step by step -/
local macro_rules | `(tactic| walk_at "rd1") => `(tactic| first
  | refine ⟨_, rfl, ?_⟩
  | refine ⟨_, _, rfl, rfl, ?_⟩
  | refine Or.inl ⟨_, rfl, ?_⟩
  | refine Or.inr ⟨_, rfl, ?_⟩
  | refine ⟨_, _, _, _, rfl, rfl, Or.inl (Or.inl (by assumption)), rfl, ?_⟩
  | refine ⟨_, _, rfl, Or.inl (Or.inl (Or.inl (by assumption))), ?_⟩)
local macro_rules | `(tactic| walk_at "rd") => `(tactic| repeat walk_at "rd1")
/-! the pen: a list of the cells' list, a count, a rest -/
structure Pen (H : Hp) (p q : Addr) (ns : List Int) (t r : Int) : Prop where
  at_ : H p = some (.lst [.ref q, .int t, .int r])
  cells : H q = some (.lst (ns.map V.int))
  few : ns.length ≤ 63
  t0 : 0 ≤ t
  t1 : t < 100000
  r0 : 0 ≤ r
/-- all but p as it was -/
def Sm (p : Addr) (H H' : Hp) : Prop := ∀ b o, b ≠ p → H b = some o → H' b = some o
theorem Sm.refl {p : Addr} {H : Hp} : Sm p H H := fun _ _ _ h => h
theorem Sm.trans {p : Addr} {H H1 H2 : Hp} (a : Sm p H H1) (b : Sm p H1 H2) : Sm p H H2 := fun c o n h => b c o n (a c o n h)
theorem Sm.at {p : Addr} {H H1 : Hp} (a : Sm p H H1) {o : HO} : Sm p H (upd H1 p o) := fun c u n h => by rw [upd_ne n]; exact a c u n h
theorem Sm.new {p l : Addr} {H H1 : Hp} (a : Sm p H H1) (hl : H1 l = none) {o : HO} : Sm p H (upd H1 l o) := fun c u n h => by rw [upd_ne (ne_of_none (a c u n h) hl)]; exact a c u n h
/-- a draw: the pen is told anew, nothing else changes -/
def spDraw : Sp := fun vs H Q _ => ∃ (p q : Addr) (ns : List Int) (t r many : Int), vs = [.ref p, .int many] ∧ Pen H p q ns t r ∧ 1 ≤ many ∧ many < 1073741824 ∧ t < 90000 ∧
  ∀ (x t' r' : Int) (H' : Hp), 0 ≤ x → x < many → t ≤ t' → t' ≤ t + 1 → 0 ≤ r' → Sm p H H' → H' p = some (.lst [.ref q, .int t', .int r']) → Q (.int x) H'
structure TxtD (mg : Str → Option Value) : Prop where
  n_int : mg "int" = none
  n_len : mg "len" = none
  n_abs : mg "abs" = none
section
variable {P : Program} {w : World} {K : PySem.W.Frag} {mg : Str → Option Value} {base : Heap} {f : Addr} {fd : FuncData}
theorem scD : FnScope ["pen", "many", "rest", "turn", "cell", "mixed"] ["pen", "many"] (defScope sDraw) := ⟨rfl, rfl, rfl, by decide +kernel, rfl, by decide +kernel, by decide +kernel⟩
theorem upd_self {H : Hp} {p : Addr} {o : HO} (h : H p = some o) : upd H p o = H := by
  funext b
  unfold upd
  by_cases e : b = p
  · rw [if_pos e, e, h]
  · rw [if_neg e]
theorem upd2 {H : Hp} {p : Addr} {o u : HO} : upd (upd H p o) p u = upd H p u := by
  funext b
  unfold upd
  by_cases e : b = p
  · rw [if_pos e, if_pos e]
  · rw [if_neg e, if_neg e, if_neg e]
theorem dp_ints (K : PySem.W.Frag) (H : Hp) : ∀ ns : List Int, DpAll K H (ns.map V.int) (ns.map PyData.int)
  | [] => .nil
  | n :: ns => .cons (.int n) (dp_ints K H ns)
theorem lay_ints : ∀ ns : List Int, PyData.canLayAll0 (ns.map PyData.int) = true
  | [] => rfl
  | n :: ns => by
    show (PyData.canLay0 (.int n) && PyData.canLayAll0 (ns.map PyData.int)) = true
    rw [lay_ints ns]
    rfl
theorem depth_ints : ∀ ns : List Int, PyData.depthAll (ns.map PyData.int) = 0
  | [] => rfl
  | n :: ns => by
    show max (PyData.depth (.int n)) (PyData.depthAll (ns.map PyData.int)) = 0
    rw [depth_ints ns]
    rfl
theorem shaped_ints (ns : List Int) : SeqAt.shaped (.list (ns.map PyData.int)) = true := by
  show (PyData.canLayAll0 (ns.map PyData.int) && decide (PyData.depthAll (ns.map PyData.int) + 1 ≤ 64)) = true
  rw [lay_ints, depth_ints]
  rfl
/-- behind «if t: x = e» where x is an int in slot i both ways -/
theorem joinI {b : Bool} {D : Ends} {σ : L2.St} {H : Hp} {te : TE} {i : Nat} {x0 : Int} (rest : ∀ c : Int, D.nx (σ.set i (some (.int c))) H) (h0 : σ = σ.set i (some (.int x0)))
    (ht : b = true → (∀ c : Int, D.nx (σ.set i (some (.int c))) H) → te σ H fun x H1 => D.nx (σ.set i (some x)) H1) : if b = true then tAsg te (gName i) D σ H else tNext D σ H := by
  cases b with
  | true => exact iteT (ht rfl rest)
  | false =>
    refine iteF ?_
    have z := rest x0
    rw [← h0] at z
    exact z
theorem ite_join {c : Prop} [Decidable c] {A B : Prop} (hB : B) (hA : c → B → A) : if c then A else B := by
  by_cases h : c
  · rw [if_pos h]
    exact hA h hB
  · rw [if_neg h]
    exact hB
theorem of_iteF {A B : Prop} (h : if false = true then A else B) : B := by
  rw [if_neg Bool.false_ne_true] at h
  exact h
theorem nn_pow_bound {a : Int} (h0 : 0 ≤ a) (h1 : a < 18446744073709551616) : a.natAbs < 2 ^ 64 := by
  have e : (2 : Nat) ^ 64 = 18446744073709551616 := by decide
  omega
theorem sz0 : (0 : Nat) ≤ sizeLine := Nat.zero_le _
theorem ok_draw (F : FnP K "_law_draw" sDraw f fd) (T : TxtD mg) : FnOk P w K mg base CX0 1 f fd ["pen", "many"] spDraw := by
  refine F.ok scD (fun vs H Q E h => ?_) (fun cdv A outer s H vs Q E hr h => ?_)
  · obtain ⟨p, q, ns, t, r, many, rfl, _⟩ := h
    rfl
  obtain ⟨p, q, ns, t, r, many, rfl, pen, m1, m2, tb, k⟩ := h
  obtain ⟨hp, hq, few, t0, t1, r0⟩ := pen
  have hu := hu_of hr
  have nd := scD.nd
  refine ⟨_, PSs.nox (pss_cons (ps_if (pt_cmpR op_lt (pv 1) pe_int (nomark _))
      (pss_one (ps_ret pe_int))
      pss_nil)
    (pss_cons (ps_if (pt_cmpR op_gt (pe_ix ix_list (pv 0) pe_int (fun _ _ => rfl)) pe_int (nomark _))
      (pss_cons (ps_set (i := 2) nd rfl (Or.inl rfl) (pe_callTy call_int1 (by rfl) T.n_int (by decide +kernel) (pa_cons (pe_ix ix_list (pv 0) pe_int (fun _ _ => rfl)) pa_nil)))
      (pss_cons (ps_asg (pe_op op_fdiv (pv 2) (pv 1)) (pg_sub (pv 0) pe_int set_list))
      (pss_one (ps_ret (pe_op op_mod (pe_callTy call_int1 (by rfl) T.n_int (by decide +kernel) (pa_cons (pv 2) pa_nil)) (pv 1))))))
      pss_nil)
    (pss_cons (ps_set (i := 3) nd rfl (Or.inl rfl) (pe_ix ix_list (pv 0) pe_int (fun _ _ => rfl)))
    (pss_cons (ps_asg (pe_op op_add (pv 3) pe_int) (pg_sub (pv 0) pe_int set_list))
    (pss_cons (ps_set (i := 4) nd rfl (Or.inl rfl) (pe_op op_add (pe_op op_mul pe_int (pv 3)) pe_int))
    (pss_cons (ps_if (pt_cmpR (op_neD hr.units) (pe_ix ix_list (pv 0) pe_int (fun _ _ => rfl)) (pe_lst pa_nil) (nomark _))
      (pss_one (ps_set (i := 4) nd rfl (Or.inl rfl) (pe_ix ix_list (pe_ix ix_list (pv 0) pe_int (fun _ _ => rfl)) (pe_op op_mod (pe_callTy call_int1 (by rfl) T.n_int (by decide +kernel) (pa_cons (pv 3) pa_nil)) (pe_callB call_len_seq (by rfl) T.n_len PySem.boot_len (pa_cons (pe_ix ix_list (pv 0) pe_int (fun _ _ => rfl)) pa_nil))) (fun _ _ => rfl))))
      pss_nil)
    (pss_cons (ps_if (PW.pt (pw_and (pt_cmpR op_lt (pv 3) (pe_callB call_len_seq (by rfl) T.n_len PySem.boot_len (pa_cons (pe_ix ix_list (pv 0) pe_int (fun _ _ => rfl)) pa_nil)) (nomark _)) (pw_and1 (pt_cmpR op_ge (pe_callB call_abs (by rfl) T.n_abs (by decide +kernel) (pa_cons (pv 4) pa_nil)) (pe_op op_pow pe_int pe_int) (nomark _)))))
      (pss_cons (ps_set (i := 2) nd rfl (Or.inl rfl) (pe_op op_add (pe_op op_mul pe_int (pe_op op_sub (pe_callB call_abs (by rfl) T.n_abs (by decide +kernel) (pa_cons (pv 4) pa_nil)) (pe_op op_pow pe_int pe_int))) (pe_callTy call_int1 (by rfl) T.n_int (by decide +kernel) (pa_cons (pe_cmpR op_lt (pv 4) pe_int (nomark _)) pa_nil))))
      (pss_cons (ps_asg (pe_op op_fdiv (pe_callTy call_int1 (by rfl) T.n_int (by decide +kernel) (pa_cons (pv 2) pa_nil)) (pv 1)) (pg_sub (pv 0) pe_int set_list))
      (pss_one (ps_ret (pe_op op_mod (pe_callTy call_int1 (by rfl) T.n_int (by decide +kernel) (pa_cons (pv 2) pa_nil)) (pv 1))))))
      pss_nil)
    (pss_cons (ps_set (i := 5) nd rfl (Or.inl rfl) (pe_op op_mod (pe_callTy call_int1 (by rfl) T.n_int (by decide +kernel) (pa_cons (pe_op op_pow (pe_op op_add (pe_op op_add (pe_op op_mod (pe_callTy call_int1 (by rfl) T.n_int (by decide +kernel) (pa_cons (pv 4) pa_nil)) pe_int) (pe_op op_mul pe_int (pv 3))) pe_int) pe_int) pa_nil)) pe_int))
    (pss_cons (ps_set (i := 5) nd rfl (Or.inl rfl) (pe_op op_mod (pe_callTy call_int1 (by rfl) T.n_int (by decide +kernel) (pa_cons (pe_op op_pow (pe_op op_add (pe_op op_add (pe_op op_mul (pv 5) (pe_op op_add (pe_op op_mul pe_int (pv 3)) pe_int)) (pe_op op_mul (pe_op op_mul pe_int (pv 3)) (pv 3))) pe_int) pe_int) pa_nil)) pe_int))
    (pss_one (ps_ret (pe_op op_mod (pe_callTy call_int1 (by rfl) T.n_int (by decide +kernel) (pa_cons (pe_op op_fdiv (pv 5) pe_int) pa_nil)) (pv 1))))))))))))), ?_⟩
  -- if many < 2
  walk_at "rd"
  refine ite2 (fun c => ?_) (fun _ => ?_)
  · exact k 0 t r H (Int.le_refl _) (by omega) (Int.le_refl _) (by omega) r0 .refl hp
  -- if pen[2] > 0
  walk_at "rd"
  refine ite2 (fun c => ?_) (fun _ => ?_)
  · walk_at "rd"
    refine ⟨⟨by omega, m2⟩, ?_⟩
    refine ⟨_, rfl, p, _, 2, 2, rfl, rfl, hp, rfl, ?_⟩
    walk_at "rd"
    refine ⟨by omega, ?_⟩
    exact k (r % many) t (r / many) _ (Int.emod_nonneg _ (by omega)) (Int.emod_lt_of_pos _ (by omega)) (Int.le_refl _) (by omega) (Int.ediv_nonneg r0 (by omega)) (Sm.at .refl) upd_same
  -- turn = pen[1]; pen[1] = turn + 1
  walk_at "rd"
  refine ⟨p, _, 1, 1, rfl, rfl, hp, rfl, ?_⟩
  have npq : q ≠ p := fun e => by
    rw [e, hp] at hq
    have e2 := Option.some.inj hq
    injection e2 with e3
    cases ns with
    | nil => cases e3
    | cons n ns =>
      have e4 := List.cons.inj e3
      cases e4.1
  have hp1 : upd H p (HO.lst (([V.ref q, V.int t, V.int r] : List V).set 1 (V.int (t + 1)))) p = some (.lst [V.ref q, V.int (t + 1), V.int r]) := upd_same
  have hq1 : upd H p (HO.lst (([V.ref q, V.int t, V.int r] : List V).set 1 (V.int (t + 1)))) q = some (.lst (ns.map V.int)) := by rw [upd_ne npq]; exact hq
  have sm1 : Sm p H (upd H p (HO.lst (([V.ref q, V.int t, V.int r] : List V).set 1 (V.int (t + 1))))) := Sm.at .refl
  generalize upd H p (HO.lst (([V.ref q, V.int t, V.int r] : List V).set 1 (V.int (t + 1)))) = H1 at hp1 hq1 sm1 ⊢
  clear hp hq
  have k1 : ∀ (x r' : Int) (H' : Hp), 0 ≤ x → x < many → 0 ≤ r' → Sm p H H' → H' p = some (.lst [.ref q, .int (t + 1), .int r']) → Q (.int x) H' := fun x r' H' a b c d e => k x (t + 1) r' H' a b (by omega) (by omega) c d e
  -- cell = 71233 * turn + 9173
  walk_at "rd"
  refine ⟨.inl ⟨by decide, by decide⟩, ?_⟩
  walk_at "rd"
  -- if pen[0] != []
  refine ⟨sz0, fun l hl => ?_⟩
  have hq2 : upd H1 l (HO.lst []) q = some (.lst (ns.map V.int)) := by rw [upd_ne (ne_of_none hq1 hl)]; exact hq1
  have hp2 : upd H1 l (HO.lst []) p = some (.lst [.ref q, .int (t + 1), .int r]) := by rw [upd_ne (ne_of_none hp1 hl)]; exact hp1
  have sm2 : Sm p H (upd H1 l (HO.lst [])) := sm1.new hl
  have hl2 : upd H1 l (HO.lst []) l = some (.lst []) := upd_same
  generalize upd H1 l (HO.lst []) = H2 at hq2 hp2 sm2 hl2 ⊢
  clear hp1 hq1 sm1 hl
  refine ⟨.list (ns.map .int), .list [], .lst (.inl (.inl hq2)) (dp_ints K H2 ns), .lst (.inl (.inl hl2)) .nil, shaped_ints ns, rfl, _, rfl, ?_⟩
  refine joinI (x0 := 71233 * t + 9173) (fun c => ?_) rfl (fun eb rest => ?_)
  rotate_left
  · -- cell = pen[0][int(turn) % len(pen[0])]
    have hne : ns ≠ [] := fun e => by
      subst e
      have e2 : PyData.eqv (.list []) (.list []) = true := SeqAt.eqv_refl _ rfl
      have e3 : (!PyData.eqv (.list []) (.list [])) = true := eb
      rw [e2] at e3
      cases e3
    have hl0 : 0 < ns.length := List.length_pos_iff.mpr hne
    have em : t % (((ns.map V.int).length : Nat) : Int) = (((t % (ns.length : Int)).toNat : Nat) : Int) := by
      rw [List.length_map, Int.toNat_of_nonneg (Int.emod_nonneg _ (by omega))]
    have hb : (t % (ns.length : Int)).toNat < ns.length := by
      have h2 := Int.emod_lt_of_pos t (show (0 : Int) < (ns.length : Int) by omega)
      have h3 := Int.emod_nonneg t (show (ns.length : Int) ≠ 0 by omega)
      omega
    have hi : atI (ns.map V.int) (t % (((ns.map V.int).length : Nat) : Int)) = some (.int ns[(t % (ns.length : Int)).toNat]) := by
      rw [em]
      exact atI_nat (by rw [List.getElem?_map, List.getElem?_eq_getElem hb] <;> rfl)
    walk_at "rd"
    refine ⟨by rw [List.length_map]; omega, q, _, _, _, rfl, rfl, .inl (.inl hq2), hi, ?_⟩
    exact rest _
  -- if turn < len(pen[0]) and abs(cell) >= 10 ** 18
  walk_at "rd"
  refine ite_join ?tail (fun _ tail => ?_)
  · -- mixed
    refine iteF ?_
    have b0 : 0 ≤ c % 2147483549 := Int.emod_nonneg _ (by decide)
    have b1 : c % 2147483549 < 2147483549 := Int.emod_lt_of_pos _ (by decide)
    walk_at "rd"
    refine ⟨(by show (0 : Int) < 2147483549; decide), ?_⟩
    walk_at "rd"
    refine ⟨.inl ⟨by decide, by decide⟩, ?_⟩
    walk_at "rd"
    refine ⟨⟨by decide, by decide, nn_pow_bound (by omega) (by omega)⟩, ?_⟩
    walk_at "rd"
    refine ⟨(by show (0 : Int) < 2147483587; decide), ?_⟩
    have b2 : 0 ≤ ((c % 2147483549 + 71233 * t + 9173) ^ (3 : Int).toNat % 2147483587) := Int.emod_nonneg _ (by decide)
    have b3 : ((c % 2147483549 + 71233 * t + 9173) ^ (3 : Int).toNat % 2147483587) < 2147483587 := Int.emod_lt_of_pos _ (by decide)
    have b4 : 0 ≤ ((c % 2147483549 + 71233 * t + 9173) ^ (3 : Int).toNat % 2147483587) * (2 * t + 4357) := Int.mul_nonneg b2 (by omega)
    have b5 : ((c % 2147483549 + 71233 * t + 9173) ^ (3 : Int).toNat % 2147483587) * (2 * t + 4357) ≤ 2147483587 * (2 * t + 4357) := Int.mul_le_mul_of_nonneg_right (by omega) (by omega)
    have b6 : 0 ≤ 90247 * t * t := Int.mul_nonneg (by omega) t0
    have b7 : 90247 * t * t ≤ 90247 * t * 100000 := Int.mul_le_mul_of_nonneg_left (by omega) (by omega)
    walk_at "rd"
    refine ⟨.inl ⟨by decide, by decide⟩, ?_⟩
    walk_at "rd"
    refine ⟨.inl ⟨by omega, by omega⟩, ?_⟩
    walk_at "rd"
    refine ⟨.inl ⟨by decide, by decide⟩, ?_⟩
    walk_at "rd"
    refine ⟨.inr ⟨by omega, by omega⟩, ?_⟩
    walk_at "rd"
    refine ⟨⟨by decide, by decide, nn_pow_bound (show 0 ≤ ((c % 2147483549 + 71233 * t + 9173) ^ (3 : Int).toNat % 2147483587) * (2 * t + 4357) + 90247 * t * t + 71233 by omega) (show ((c % 2147483549 + 71233 * t + 9173) ^ (3 : Int).toNat % 2147483587) * (2 * t + 4357) + 90247 * t * t + 71233 < 18446744073709551616 by omega)⟩, ?_⟩
    walk_at "rd"
    refine ⟨(by show (0 : Int) < 2147483563; decide), ?_⟩
    walk_at "rd"
    refine ⟨⟨by decide, by decide⟩, ?_⟩
    walk_at "rd"
    refine ⟨by omega, ?_⟩
    exact k1 _ r H2 (Int.emod_nonneg _ (by omega)) (Int.emod_lt_of_pos _ (by omega)) r0 sm2 hp2
  · walk_at "rd"
    refine ⟨⟨by decide, by decide, by decide⟩, ?_⟩
    walk_at "rd"
    refine ite2 (fun e => ?_) (fun _ => of_iteF tail)
    have e2 : (10 : Int) ^ (18 : Int).toNat ≤ (if c < 0 then -c else c) := of_decide_eq_true e
    walk_at "rd"
    refine ⟨⟨by decide, by decide, by decide⟩, ?_⟩
    walk_at "rd"
    refine ⟨.inl ⟨by decide, by decide⟩, ?_⟩
    walk_at "rd"
    have e3 : (0 : Int) ≤ (10 : Int) ^ (18 : Int).toNat := by decide
    have e4 : (0 : Int) ≤ 2 * ((if c < 0 then -c else c) - 10 ^ (18 : Int).toNat) + (if decide (c < 0) = true then 1 else 0) := by
      have e5 : (0 : Int) ≤ (if decide (c < 0) = true then 1 else 0) := by
        by_cases z : decide (c < 0) = true
        · rw [if_pos z]; decide
        · rw [if_neg z]; decide
      omega
    refine ⟨⟨by omega, m2⟩, ?_⟩
    refine ⟨_, rfl, p, _, 2, 2, rfl, rfl, hp2, rfl, ?_⟩
    walk_at "rd"
    refine ⟨by omega, ?_⟩
    exact k1 _ _ _ (Int.emod_nonneg _ (by omega)) (Int.emod_lt_of_pos _ (by omega)) (Int.ediv_nonneg e4 (by omega)) sm2.at upd_same
end
end My

set_option maxHeartbeats 4000000
namespace My
open PySem PySem.Spec PyProof.Rows L2
local macro_rules | `(tactic| walk_at "rd1") => `(tactic| first
  | refine ⟨_, rfl, ?_⟩
  | refine ⟨_, _, rfl, rfl, ?_⟩
  | refine Or.inl ⟨_, rfl, ?_⟩
  | refine Or.inr ⟨_, rfl, ?_⟩
  | refine ⟨_, _, _, _, rfl, rfl, Or.inl (Or.inl (by assumption)), rfl, ?_⟩
  | refine ⟨_, _, rfl, Or.inl (Or.inl (Or.inl (by assumption))), ?_⟩)
local macro_rules | `(tactic| walk_at "rd") => `(tactic| repeat walk_at "rd1")
abbrev sFixed : Stmt := top 1
abbrev sLike : Stmt := top 2
abbrev sValue : Stmt := top 23
abbrev sTupled : Stmt := top 24
/-! ### data in tracked lists and tuples -/
mutual
inductive Dh (H : Hp) : V → PyData → Prop
  | non : Dh H .non .none
  | bl (b : Bool) : Dh H (.bl b) (.bool b)
  | int (i : Int) : Dh H (.int i) (.int i)
  | str (x : Str) : Dh H (.str x) (.str x)
  | lst {a : Addr} {xs : List V} {ds : List PyData} : H a = some (.lst xs) → xs.length ≤ 100 → DhAll H xs ds → Dh H (.ref a) (.list ds)
  | tup {a : Addr} {xs : List V} {ds : List PyData} : H a = some (.tup xs) → xs.length ≤ 100 → DhAll H xs ds → Dh H (.ref a) (.tuple ds)
inductive DhAll (H : Hp) : List V → List PyData → Prop
  | nil : DhAll H [] []
  | cons {v : V} {vs : List V} {d : PyData} {ds : List PyData} : Dh H v d → DhAll H vs ds → DhAll H (v :: vs) (d :: ds)
end
mutual
theorem Dh.same {H H' : Hp} (e : Same H H') : ∀ (d : PyData) (v : V), Dh H v d → Dh H' v d
  | _, _, .non => .non
  | _, _, .bl b => .bl b
  | _, _, .int i => .int i
  | _, _, .str x => .str x
  | _, _, .lst (ds := ds) h l a => .lst (e _ _ h) l (DhAll.same e ds _ a)
  | _, _, .tup (ds := ds) h l a => .tup (e _ _ h) l (DhAll.same e ds _ a)
theorem DhAll.same {H H' : Hp} (e : Same H H') : ∀ (ds : List PyData) (vs : List V), DhAll H vs ds → DhAll H' vs ds
  | _, _, .nil => .nil
  | _, _, .cons (d := d) (ds := ds) h r => .cons (Dh.same e d _ h) (DhAll.same e ds _ r)
end
mutual
theorem Dh.dp {K : PySem.W.Frag} {H : Hp} : ∀ (d : PyData) (v : V), Dh H v d → Dp K H v d
  | _, _, .non => .non
  | _, _, .bl b => .bl b
  | _, _, .int i => .int i
  | _, _, .str x => .str x
  | _, _, .lst (ds := ds) h l a => .lst (.inl (.inl h)) (DhAll.dp ds _ a)
  | _, _, .tup (ds := ds) h l a => .tup (.inl (.inl h)) (DhAll.dp ds _ a)
theorem DhAll.dp {K : PySem.W.Frag} {H : Hp} : ∀ (ds : List PyData) (vs : List V), DhAll H vs ds → DpAll K H vs ds
  | _, _, .nil => .nil
  | _, _, .cons (d := d) (ds := ds) h r => .cons (Dh.dp d _ h) (DhAll.dp ds _ r)
end
theorem DhAll.len {H : Hp} : ∀ {ds : List PyData} {vs : List V}, DhAll H vs ds → vs.length = ds.length
  | _, _, .nil => rfl
  | _, _, .cons _ r => congrArg Nat.succ r.len
theorem DhAll.get {H : Hp} : ∀ {ds : List PyData} {vs : List V} {i : Nat} {v : V}, DhAll H vs ds → vs[i]? = some v → ∃ d, ds[i]? = some d ∧ Dh H v d
  | _, _, i, v, .nil, h => by simp at h
  | _, _, 0, v, .cons (d := d) h _, e => ⟨d, rfl, by
    have e2 : some _ = some v := e
    rw [← Option.some.inj e2]
    exact h⟩
  | _, _, i + 1, v, .cons _ r, e => by
    obtain ⟨d, h1, h2⟩ := DhAll.get (i := i) r e
    exact ⟨d, h1, h2⟩
theorem DhAll.snoc {H : Hp} {v : V} {d : PyData} (h : Dh H v d) : ∀ {ds : List PyData} {vs : List V}, DhAll H vs ds → DhAll H (vs ++ [v]) (ds ++ [d])
  | _, _, .nil => .cons h .nil
  | _, _, .cons a r => .cons a (r.snoc h)
/-! ### what is new since H -/
def Ho (H H' : Hp) : Hp := fun b => match H b with
  | none => H' b
  | some _ => none
theorem ho_new {H H' : Hp} {b : Addr} (h : H b = none) : Ho H H' b = H' b := by
  unfold Ho
  rw [h]
theorem ho_some {H H' : Hp} {b : Addr} {o : HO} (h : Ho H H' b = some o) : H b = none ∧ H' b = some o := by
  unfold Ho at h
  cases e : H b with
  | none =>
    rw [e] at h
    exact ⟨rfl, h⟩
  | some u =>
    rw [e] at h
    cases h
theorem ho_same {H H' : Hp} : Same (Ho H H') H' := fun _ _ h => (ho_some h).2
/-- an earlier start tells more -/
theorem ho_from {H H1 H' : Hp} (h : ∀ b, H1 b = none → H b = none) : Same (Ho H1 H') (Ho H H') := fun b o e => by
  obtain ⟨e1, e2⟩ := ho_some e
  rw [ho_new (h b e1)]
  exact e2
/-- a later end too, where what was new stays -/
theorem ho_to {B H H' : Hp} (h : ∀ b o, B b = none → H b = some o → H' b = some o) : Same (Ho B H) (Ho B H') := fun b o e => by
  obtain ⟨e1, e2⟩ := ho_some e
  rw [ho_new e1]
  exact h b o e1 e2
theorem ho_upd {B H : Hp} {p : Addr} {o : HO} (h : B p ≠ none) : Ho B (upd H p o) = Ho B H := by
  funext b
  unfold Ho
  cases e : B b with
  | some u => rfl
  | none =>
    have n : b ≠ p := fun z => h (by rw [← z]; exact e)
    show upd H p o b = H b
    rw [upd_ne n]
theorem same_none {H H' : Hp} (e : Same H H') (b : Addr) (h : H' b = none) : H b = none := e.free h
theorem sm_none {p : Addr} {H H' : Hp} (e : Sm p H H') (hp : H' p ≠ none) (b : Addr) (h : H' b = none) : H b = none := by
  cases q : H b with
  | none => rfl
  | some o =>
    have n : b ≠ p := fun z => hp (by rw [← z]; exact h)
    rw [e b o n q] at h
    cases h
theorem same_new {H : Hp} {p : Addr} (h : H p = none) (o : HO) : Same H (upd H p o) := fun b u q => by rw [upd_ne (ne_of_none q h)]; exact q
theorem Same.sm {p : Addr} {H H' : Hp} (e : Same H H') : Sm p H H' := fun b o _ h => e b o h
/-! ### tuples for lists -/
mutual
def tupd : PyData → PyData
  | .list xs => .tuple (tupdAll xs)
  | .tuple xs => .tuple (tupdAll xs)
  | .none => .none
  | .bool b => .bool b
  | .int i => .int i
  | .str x => .str x
  | .dict kvs => .dict kvs
def tupdAll : List PyData → List PyData
  | [] => []
  | d :: ds => tupd d :: tupdAll ds
end
theorem tupdAll_get : ∀ {ds : List PyData} {i : Nat} {d : PyData}, ds[i]? = some d → (tupdAll ds)[i]? = some (tupd d)
  | [], i, d, h => by simp at h
  | e :: ds, 0, d, h => by
    have h2 : some e = some d := h
    rw [← Option.some.inj h2]
    rfl
  | e :: ds, i + 1, d, h => tupdAll_get (ds := ds) h
theorem tupdAll_len : ∀ ds : List PyData, (tupdAll ds).length = ds.length
  | [] => rfl
  | _ :: ds => congrArg Nat.succ (tupdAll_len ds)
theorem tupdAll_app : ∀ (xs : List PyData) (d : PyData), tupdAll (xs ++ [d]) = tupdAll xs ++ [tupd d]
  | [], _ => rfl
  | x :: xs, d => congrArg (List.cons (tupd x)) (tupdAll_app xs d)
theorem take_succ' {α : Type} {l : List α} {i : Nat} {a : α} (h : l[i]? = some a) : l.take (i + 1) = l.take i ++ [a] := by
  rw [List.take_succ, h]
  rfl
abbrev dep (d : PyData) : Nat := PyData.depth d
abbrev depAll (ds : List PyData) : Nat := PyData.depthAll ds
theorem dep_get : ∀ {ds : List PyData} {i : Nat} {d : PyData}, ds[i]? = some d → dep d ≤ depAll ds
  | [], i, d, h => by simp at h
  | e :: ds, 0, d, h => by
    have h2 : some e = some d := h
    rw [← Option.some.inj h2]
    exact Nat.le_max_left _ _
  | e :: ds, i + 1, d, h => Nat.le_trans (dep_get (ds := ds) h) (Nat.le_max_right _ _)
/-- the name of a data's type -/
def tyn : PyData → String
  | .none => "NoneType"
  | .bool _ => "bool"
  | .int _ => "int"
  | .str _ => "str"
  | .list _ => "list"
  | .tuple _ => "tuple"
  | .dict _ => "dict"
theorem Dh.ty {K : PySem.W.Frag} {H : Hp} {v : V} {d : PyData} (h : Dh H v d) : TyX K H v (.type (tyn d)) := by
  cases h with
  | non => exact .base .non
  | bl b => exact .base (.bl b)
  | int i => exact .base (.int i)
  | str x => exact .base (.str x)
  | lst h _ _ => exact .base (.lst h)
  | tup h _ _ => exact .base (.tup h)
/-- what fixed and _law_tupled promise: the same with tuples for lists, of new objects -/
def spTup (n : Nat) : Sp := fun vs H Q _ => ∃ (v : V) (d : PyData), vs = [v] ∧ Dh H v d ∧ dep d < n ∧ ∀ v' H', Same H H' → Dh (Ho H H') v' (tupd d) → Q v' H'
structure TxtT (mg : Str → Option Value) : Prop where
  n_isi : mg "isinstance" = none
  n_list : mg "list" = none
  n_tuple : mg "tuple" = none
section
variable {P : Program} {w : World} {K : PySem.W.Frag} {mg : Str → Option Value} {base : Heap} {f : Addr} {fd : FuncData}
theorem scFx : FnScope ["value", "part"] ["value"] (defScope sFixed) := ⟨rfl, rfl, rfl, by decide +kernel, rfl, by decide +kernel, by decide +kernel⟩
theorem ok_fixed1 {n : Nat} (F : FnP K "fixed" sFixed f fd) (G : FnOk P w K mg base CX0 n f fd ["value"] (spTup n)) (bG : Binds K fd ["value"] []) (kG : PySem.W.keepIn K (.ref f) = true) (mG : mg "fixed" = some (.ref f)) (T : TxtT mg) :
    FnOk P w K mg base CX0 (n + 1) f fd ["value"] (spTup (n + 1)) := by
  refine F.ok scFx (fun vs H Q E h => ?_) (fun cdv A outer s H vs Q E hr h => ?_)
  · obtain ⟨v, d, rfl, _⟩ := h
    rfl
  obtain ⟨v, d, rfl, hd, hn, k⟩ := h
  have nd := scFx.nd
  cases hd with
  | lst ha hl hds =>
    rename_i a xs ds
    refine ⟨_, PSs.nox (pss_cons (ps_if (pt_val (pe_callB call_isiT (by rfl) T.n_isi (by decide +kernel) (pa_cons (pv 0) (pa_cons (pe_tup (pa_cons (pe_bltn (v := .ty "list") (by rfl) T.n_list (by decide +kernel) rfl) (pa_cons (pe_bltn (v := .ty "tuple") (by rfl) T.n_tuple (by decide +kernel) rfl) pa_nil))) pa_nil))))
      (pss_one (ps_ret (pe_callTy call_tuple_of (by rfl) T.n_tuple (by decide +kernel) (pa_cons (pe_lc (own := [("part", 1)]) (g := (gName 1)) (tt := tYes) rfl nd (pi_list (pv 0)) (blkOk_by (N := ["value", "part"]) (sc := defScope sFixed) (by decide +kernel)) (fun _ _ _ _ _ => pg_name (i := 1) nd rfl (Or.inl rfl)) (fun _ _ _ _ _ => pts_nil) (fun _ _ _ _ _ => (pe_call G hr rfl mG kG bG .nil pass0 (pa_cons (pv 1) pa_nil)))) pa_nil))))
      pss_nil)
    (pss_one (ps_ret (pv 0)))), ?_⟩
    walk_at "rd"
    refine ⟨by decide, fun tp htp => ?_⟩
    have s1 : Same H (upd H tp (HO.tup [V.ty "list", V.ty "tuple"])) := same_new htp _
    refine ⟨V.ref a, tp, [V.ty "list", V.ty "tuple"], .type "list", [.type "list", .type "tuple"], true, rfl, upd_same, .cons (.ty _) (.cons (.ty _) .nil), .base (.lst (s1 _ _ ha)), (kitAny_cons (b := true) (kit_ty (by decide +kernel)) (fun z => nomatch z) (fun _ => rfl)), _, rfl, ?_⟩
    refine iteT ?_
    generalize upd H tp (HO.tup [V.ty "list", V.ty "tuple"]) = H1 at s1 ⊢
    refine ⟨_, rfl, a, rfl, ⟨xs, .inl (.inl (s1 _ _ ha))⟩, fun D hD => lc_list (xs := xs) (fun i H2 => ∃ vs, H2 D = some (.lst vs) ∧ vs.length = i ∧ Same H1 H2 ∧ DhAll (Ho (upd H1 D (.lst [])) H2) vs (tupdAll (ds.take i)))
      ⟨[], upd_same, rfl, same_new hD _, .nil⟩ (fun i H2 _ ⟨_, _, _, e, _⟩ => .inl (.inl (e _ _ (s1 _ _ ha)))) ?_ ?_⟩
    · rintro i x H2 hx ⟨vs, hD2, hvl, e2, hvs⟩
      have hil : i < xs.length := (List.getElem?_eq_some_iff.mp hx).1
      obtain ⟨d, hd1, hd2⟩ := hds.get hx
      refine ⟨rfl, ?_⟩
      have hdep := dep_get hd1
      have hn2 : depAll ds + 1 < n + 1 := hn
      refine ⟨_, rfl, x, d, rfl, Dh.same e2 _ _ (Dh.same s1 _ _ hd2), by omega, fun v' H3 e3 hv' => ⟨vs, e3 _ _ hD2, by rw [hvl]; exact Nat.lt_of_lt_of_le (Nat.lt_of_lt_of_le hil hl) (by decide), vs ++ [v'], upd_same, by rw [List.length_append, hvl]; rfl, ?_, ?_⟩⟩
      · exact fun b o hb => by rw [upd_ne (ne_of_none hb hD)]; exact e3 _ _ (e2 _ _ hb)
      · rw [ho_upd (by rw [upd_same]; exact fun z => nomatch z), take_succ' hd1, tupdAll_app]
        have k1 : ∀ b, H2 b = none → upd H1 D (.lst []) b = none := fun b hb => by
          have n1 : b ≠ D := fun z => by rw [z, hD2] at hb; cases hb
          rw [upd_ne n1]
          exact e2.free hb
        exact DhAll.snoc (Dh.same (ho_from k1) _ _ hv') (DhAll.same (ho_to fun b o _ h2 => e3 _ _ h2) _ _ hvs)
    · rintro H2 ⟨vs, hD2, hvl, e2, hvs⟩
      refine ⟨D, vs, rfl, .inl ⟨.inl (.inl hD2), fun l hl2 => ?_⟩⟩
      have k2 : ∀ b, upd H1 D (.lst []) b = none → H b = none := fun b hb => by
        have n1 : b ≠ D := fun z => by rw [z, upd_same] at hb; cases hb
        rw [upd_ne n1] at hb
        exact s1.free hb
      have e4 : Same H (upd H2 l (.tup vs)) := s1.trans (e2.trans (same_new hl2 _))
      refine k (.ref l) _ e4 ?_
      have hlen : ds.take xs.length = ds := List.take_of_length_le (by rw [hds.len]; exact Nat.le_refl _)
      rw [hlen] at hvs
      have n2 : H l = none := (s1.trans e2).free hl2
      refine .tup (by rw [ho_new n2, upd_same]) (by rw [hvl]; exact hl) ?_
      exact DhAll.same (Same.trans (ho_from k2) (ho_to fun b o _ h2 => by rw [upd_ne (ne_of_none h2 hl2)]; exact h2)) _ _ hvs
  | tup ha hl hds =>
    rename_i a xs ds
    refine ⟨_, PSs.nox (pss_cons (ps_if (pt_val (pe_callB call_isiT (by rfl) T.n_isi (by decide +kernel) (pa_cons (pv 0) (pa_cons (pe_tup (pa_cons (pe_bltn (v := .ty "list") (by rfl) T.n_list (by decide +kernel) rfl) (pa_cons (pe_bltn (v := .ty "tuple") (by rfl) T.n_tuple (by decide +kernel) rfl) pa_nil))) pa_nil))))
      (pss_one (ps_ret (pe_callTy call_tuple_of (by rfl) T.n_tuple (by decide +kernel) (pa_cons (pe_lc (own := [("part", 1)]) (g := (gName 1)) (tt := tYes) rfl nd (pi_tup (pv 0)) (blkOk_by (N := ["value", "part"]) (sc := defScope sFixed) (by decide +kernel)) (fun _ _ _ _ _ => pg_name (i := 1) nd rfl (Or.inl rfl)) (fun _ _ _ _ _ => pts_nil) (fun _ _ _ _ _ => (pe_call G hr rfl mG kG bG .nil pass0 (pa_cons (pv 1) pa_nil)))) pa_nil))))
      pss_nil)
    (pss_one (ps_ret (pv 0)))), ?_⟩
    walk_at "rd"
    refine ⟨by decide, fun tp htp => ?_⟩
    have s1 : Same H (upd H tp (HO.tup [V.ty "list", V.ty "tuple"])) := same_new htp _
    refine ⟨V.ref a, tp, [V.ty "list", V.ty "tuple"], .type "tuple", [.type "list", .type "tuple"], true, rfl, upd_same, .cons (.ty _) (.cons (.ty _) .nil), .base (.tup (s1 _ _ ha)), (kitAny_cons (b := false) (kit_ty (by decide +kernel)) (fun _ => kitAny_cons (b := true) (kit_ty (by decide +kernel)) (fun z => nomatch z) (fun _ => rfl)) (fun z => nomatch z)), _, rfl, ?_⟩
    refine iteT ?_
    generalize upd H tp (HO.tup [V.ty "list", V.ty "tuple"]) = H1 at s1 ⊢
    refine ⟨_, rfl, a, rfl, ⟨xs, .inl (.inl (s1 _ _ ha))⟩, fun D hD => lc_tup (xs := xs) (fun i H2 => ∃ vs, H2 D = some (.lst vs) ∧ vs.length = i ∧ Same H1 H2 ∧ DhAll (Ho (upd H1 D (.lst [])) H2) vs (tupdAll (ds.take i)))
      ⟨[], upd_same, rfl, same_new hD _, .nil⟩ (fun i H2 _ ⟨_, _, _, e, _⟩ => .inl (.inl (e _ _ (s1 _ _ ha)))) ?_ ?_⟩
    · rintro i x H2 hx ⟨vs, hD2, hvl, e2, hvs⟩
      have hil : i < xs.length := (List.getElem?_eq_some_iff.mp hx).1
      obtain ⟨d, hd1, hd2⟩ := hds.get hx
      refine ⟨rfl, ?_⟩
      have hdep := dep_get hd1
      have hn2 : depAll ds + 1 < n + 1 := hn
      refine ⟨_, rfl, x, d, rfl, Dh.same e2 _ _ (Dh.same s1 _ _ hd2), by omega, fun v' H3 e3 hv' => ⟨vs, e3 _ _ hD2, by rw [hvl]; exact Nat.lt_of_lt_of_le (Nat.lt_of_lt_of_le hil hl) (by decide), vs ++ [v'], upd_same, by rw [List.length_append, hvl]; rfl, ?_, ?_⟩⟩
      · exact fun b o hb => by rw [upd_ne (ne_of_none hb hD)]; exact e3 _ _ (e2 _ _ hb)
      · rw [ho_upd (by rw [upd_same]; exact fun z => nomatch z), take_succ' hd1, tupdAll_app]
        have k1 : ∀ b, H2 b = none → upd H1 D (.lst []) b = none := fun b hb => by
          have n1 : b ≠ D := fun z => by rw [z, hD2] at hb; cases hb
          rw [upd_ne n1]
          exact e2.free hb
        exact DhAll.snoc (Dh.same (ho_from k1) _ _ hv') (DhAll.same (ho_to fun b o _ h2 => e3 _ _ h2) _ _ hvs)
    · rintro H2 ⟨vs, hD2, hvl, e2, hvs⟩
      refine ⟨D, vs, rfl, .inl ⟨.inl (.inl hD2), fun l hl2 => ?_⟩⟩
      have k2 : ∀ b, upd H1 D (.lst []) b = none → H b = none := fun b hb => by
        have n1 : b ≠ D := fun z => by rw [z, upd_same] at hb; cases hb
        rw [upd_ne n1] at hb
        exact s1.free hb
      have e4 : Same H (upd H2 l (.tup vs)) := s1.trans (e2.trans (same_new hl2 _))
      refine k (.ref l) _ e4 ?_
      have hlen : ds.take xs.length = ds := List.take_of_length_le (by rw [hds.len]; exact Nat.le_refl _)
      rw [hlen] at hvs
      have n2 : H l = none := (s1.trans e2).free hl2
      refine .tup (by rw [ho_new n2, upd_same]) (by rw [hvl]; exact hl) ?_
      exact DhAll.same (Same.trans (ho_from k2) (ho_to fun b o _ h2 => by rw [upd_ne (ne_of_none h2 hl2)]; exact h2)) _ _ hvs
  | non =>
    refine ⟨_, PSs.nox (pss_cons (ps_if (pt_val (pe_callB call_isiT (by rfl) T.n_isi (by decide +kernel) (pa_cons (pv 0) (pa_cons (pe_tup (pa_cons (pe_bltn (v := .ty "list") (by rfl) T.n_list (by decide +kernel) rfl) (pa_cons (pe_bltn (v := .ty "tuple") (by rfl) T.n_tuple (by decide +kernel) rfl) pa_nil))) pa_nil))))
      (pss_one (ps_ret (pe_callTy call_tuple_of (by rfl) T.n_tuple (by decide +kernel) (pa_cons (pe_lc (own := [("part", 1)]) (g := (gName 1)) (tt := tYes) rfl nd (pi_list (pv 0)) (blkOk_by (N := ["value", "part"]) (sc := defScope sFixed) (by decide +kernel)) (fun _ _ _ _ _ => pg_name (i := 1) nd rfl (Or.inl rfl)) (fun _ _ _ _ _ => pts_nil) (fun _ _ _ _ _ => (pe_call G hr rfl mG kG bG .nil pass0 (pa_cons (pv 1) pa_nil)))) pa_nil))))
      pss_nil)
    (pss_one (ps_ret (pv 0)))), ?_⟩
    walk_at "rd"
    refine ⟨by decide, fun tp htp => ?_⟩
    have s1 : Same H (upd H tp (HO.tup [V.ty "list", V.ty "tuple"])) := same_new htp _
    refine ⟨_, tp, [V.ty "list", V.ty "tuple"], _, [.type "list", .type "tuple"], false, rfl, upd_same, .cons (.ty _) (.cons (.ty _) .nil), .base .non, kitAny_cons (b := false) (kit_ty (by decide +kernel)) (fun _ => kitAny_cons (b := false) (kit_ty (by decide +kernel)) (fun _ => kitAny_nil) (fun z => nomatch z)) (fun z => nomatch z), _, rfl, ?_⟩
    refine iteF ?_
    exact ⟨_, rfl, k _ _ s1 .non⟩
  | bl b =>
    refine ⟨_, PSs.nox (pss_cons (ps_if (pt_val (pe_callB call_isiT (by rfl) T.n_isi (by decide +kernel) (pa_cons (pv 0) (pa_cons (pe_tup (pa_cons (pe_bltn (v := .ty "list") (by rfl) T.n_list (by decide +kernel) rfl) (pa_cons (pe_bltn (v := .ty "tuple") (by rfl) T.n_tuple (by decide +kernel) rfl) pa_nil))) pa_nil))))
      (pss_one (ps_ret (pe_callTy call_tuple_of (by rfl) T.n_tuple (by decide +kernel) (pa_cons (pe_lc (own := [("part", 1)]) (g := (gName 1)) (tt := tYes) rfl nd (pi_list (pv 0)) (blkOk_by (N := ["value", "part"]) (sc := defScope sFixed) (by decide +kernel)) (fun _ _ _ _ _ => pg_name (i := 1) nd rfl (Or.inl rfl)) (fun _ _ _ _ _ => pts_nil) (fun _ _ _ _ _ => (pe_call G hr rfl mG kG bG .nil pass0 (pa_cons (pv 1) pa_nil)))) pa_nil))))
      pss_nil)
    (pss_one (ps_ret (pv 0)))), ?_⟩
    walk_at "rd"
    refine ⟨by decide, fun tp htp => ?_⟩
    have s1 : Same H (upd H tp (HO.tup [V.ty "list", V.ty "tuple"])) := same_new htp _
    refine ⟨_, tp, [V.ty "list", V.ty "tuple"], _, [.type "list", .type "tuple"], false, rfl, upd_same, .cons (.ty _) (.cons (.ty _) .nil), .base (.bl b), kitAny_cons (b := false) (kit_ty (by decide +kernel)) (fun _ => kitAny_cons (b := false) (kit_ty (by decide +kernel)) (fun _ => kitAny_nil) (fun z => nomatch z)) (fun z => nomatch z), _, rfl, ?_⟩
    refine iteF ?_
    exact ⟨_, rfl, k _ _ s1 (.bl b)⟩
  | int j =>
    refine ⟨_, PSs.nox (pss_cons (ps_if (pt_val (pe_callB call_isiT (by rfl) T.n_isi (by decide +kernel) (pa_cons (pv 0) (pa_cons (pe_tup (pa_cons (pe_bltn (v := .ty "list") (by rfl) T.n_list (by decide +kernel) rfl) (pa_cons (pe_bltn (v := .ty "tuple") (by rfl) T.n_tuple (by decide +kernel) rfl) pa_nil))) pa_nil))))
      (pss_one (ps_ret (pe_callTy call_tuple_of (by rfl) T.n_tuple (by decide +kernel) (pa_cons (pe_lc (own := [("part", 1)]) (g := (gName 1)) (tt := tYes) rfl nd (pi_list (pv 0)) (blkOk_by (N := ["value", "part"]) (sc := defScope sFixed) (by decide +kernel)) (fun _ _ _ _ _ => pg_name (i := 1) nd rfl (Or.inl rfl)) (fun _ _ _ _ _ => pts_nil) (fun _ _ _ _ _ => (pe_call G hr rfl mG kG bG .nil pass0 (pa_cons (pv 1) pa_nil)))) pa_nil))))
      pss_nil)
    (pss_one (ps_ret (pv 0)))), ?_⟩
    walk_at "rd"
    refine ⟨by decide, fun tp htp => ?_⟩
    have s1 : Same H (upd H tp (HO.tup [V.ty "list", V.ty "tuple"])) := same_new htp _
    refine ⟨_, tp, [V.ty "list", V.ty "tuple"], _, [.type "list", .type "tuple"], false, rfl, upd_same, .cons (.ty _) (.cons (.ty _) .nil), .base (.int j), kitAny_cons (b := false) (kit_ty (by decide +kernel)) (fun _ => kitAny_cons (b := false) (kit_ty (by decide +kernel)) (fun _ => kitAny_nil) (fun z => nomatch z)) (fun z => nomatch z), _, rfl, ?_⟩
    refine iteF ?_
    exact ⟨_, rfl, k _ _ s1 (.int j)⟩
  | str z =>
    refine ⟨_, PSs.nox (pss_cons (ps_if (pt_val (pe_callB call_isiT (by rfl) T.n_isi (by decide +kernel) (pa_cons (pv 0) (pa_cons (pe_tup (pa_cons (pe_bltn (v := .ty "list") (by rfl) T.n_list (by decide +kernel) rfl) (pa_cons (pe_bltn (v := .ty "tuple") (by rfl) T.n_tuple (by decide +kernel) rfl) pa_nil))) pa_nil))))
      (pss_one (ps_ret (pe_callTy call_tuple_of (by rfl) T.n_tuple (by decide +kernel) (pa_cons (pe_lc (own := [("part", 1)]) (g := (gName 1)) (tt := tYes) rfl nd (pi_list (pv 0)) (blkOk_by (N := ["value", "part"]) (sc := defScope sFixed) (by decide +kernel)) (fun _ _ _ _ _ => pg_name (i := 1) nd rfl (Or.inl rfl)) (fun _ _ _ _ _ => pts_nil) (fun _ _ _ _ _ => (pe_call G hr rfl mG kG bG .nil pass0 (pa_cons (pv 1) pa_nil)))) pa_nil))))
      pss_nil)
    (pss_one (ps_ret (pv 0)))), ?_⟩
    walk_at "rd"
    refine ⟨by decide, fun tp htp => ?_⟩
    have s1 : Same H (upd H tp (HO.tup [V.ty "list", V.ty "tuple"])) := same_new htp _
    refine ⟨_, tp, [V.ty "list", V.ty "tuple"], _, [.type "list", .type "tuple"], false, rfl, upd_same, .cons (.ty _) (.cons (.ty _) .nil), .base (.str z), kitAny_cons (b := false) (kit_ty (by decide +kernel)) (fun _ => kitAny_cons (b := false) (kit_ty (by decide +kernel)) (fun _ => kitAny_nil) (fun z => nomatch z)) (fun z => nomatch z), _, rfl, ?_⟩
    refine iteF ?_
    exact ⟨_, rfl, k _ _ s1 (.str z)⟩
theorem scTu : FnScope ["value", "one"] ["value"] (defScope sTupled) := ⟨rfl, rfl, rfl, by decide +kernel, rfl, by decide +kernel, by decide +kernel⟩
theorem ok_tupled1 {n : Nat} (F : FnP K "_law_tupled" sTupled f fd) (G : FnOk P w K mg base CX0 n f fd ["value"] (spTup n)) (bG : Binds K fd ["value"] []) (kG : PySem.W.keepIn K (.ref f) = true) (mG : mg "_law_tupled" = some (.ref f)) (T : TxtT mg) :
    FnOk P w K mg base CX0 (n + 1) f fd ["value"] (spTup (n + 1)) := by
  refine F.ok scTu (fun vs H Q E h => ?_) (fun cdv A outer s H vs Q E hr h => ?_)
  · obtain ⟨v, d, rfl, _⟩ := h
    rfl
  obtain ⟨v, d, rfl, hd, hn, k⟩ := h
  have nd := scTu.nd
  cases hd with
  | lst ha hl hds =>
    rename_i a xs ds
    refine ⟨_, PSs.nox (pss_one (ps_ret (pe_ifExp (pt_val (pe_callB call_isiT (by rfl) T.n_isi (by decide +kernel) (pa_cons (pv 0) (pa_cons (pe_tup (pa_cons (pe_bltn (v := .ty "list") (by rfl) T.n_list (by decide +kernel) rfl) (pa_cons (pe_bltn (v := .ty "tuple") (by rfl) T.n_tuple (by decide +kernel) rfl) pa_nil))) pa_nil))))
      (pe_callTy call_tuple_of (by rfl) T.n_tuple (by decide +kernel) (pa_cons (pe_lc (own := [("one", 1)]) (g := (gName 1)) (tt := tYes) rfl nd (pi_list (pv 0)) (blkOk_by (N := ["value", "one"]) (sc := defScope sTupled) (by decide +kernel)) (fun _ _ _ _ _ => pg_name (i := 1) nd rfl (Or.inl rfl)) (fun _ _ _ _ _ => pts_nil) (fun _ _ _ _ _ => (pe_call G hr rfl mG kG bG .nil pass0 (pa_cons (pv 1) pa_nil)))) pa_nil))
      (pv 0)))), ?_⟩
    walk_at "rd"
    refine ⟨by decide, fun tp htp => ?_⟩
    have s1 : Same H (upd H tp (HO.tup [V.ty "list", V.ty "tuple"])) := same_new htp _
    refine ⟨V.ref a, tp, [V.ty "list", V.ty "tuple"], .type "list", [.type "list", .type "tuple"], true, rfl, upd_same, .cons (.ty _) (.cons (.ty _) .nil), .base (.lst (s1 _ _ ha)), (kitAny_cons (b := true) (kit_ty (by decide +kernel)) (fun z => nomatch z) (fun _ => rfl)), _, rfl, ?_⟩
    refine iteT ?_
    generalize upd H tp (HO.tup [V.ty "list", V.ty "tuple"]) = H1 at s1 ⊢
    refine ⟨_, rfl, a, rfl, ⟨xs, .inl (.inl (s1 _ _ ha))⟩, fun D hD => lc_list (xs := xs) (fun i H2 => ∃ vs, H2 D = some (.lst vs) ∧ vs.length = i ∧ Same H1 H2 ∧ DhAll (Ho (upd H1 D (.lst [])) H2) vs (tupdAll (ds.take i)))
      ⟨[], upd_same, rfl, same_new hD _, .nil⟩ (fun i H2 _ ⟨_, _, _, e, _⟩ => .inl (.inl (e _ _ (s1 _ _ ha)))) ?_ ?_⟩
    · rintro i x H2 hx ⟨vs, hD2, hvl, e2, hvs⟩
      have hil : i < xs.length := (List.getElem?_eq_some_iff.mp hx).1
      obtain ⟨d, hd1, hd2⟩ := hds.get hx
      refine ⟨rfl, ?_⟩
      have hdep := dep_get hd1
      have hn2 : depAll ds + 1 < n + 1 := hn
      refine ⟨_, rfl, x, d, rfl, Dh.same e2 _ _ (Dh.same s1 _ _ hd2), by omega, fun v' H3 e3 hv' => ⟨vs, e3 _ _ hD2, by rw [hvl]; exact Nat.lt_of_lt_of_le (Nat.lt_of_lt_of_le hil hl) (by decide), vs ++ [v'], upd_same, by rw [List.length_append, hvl]; rfl, ?_, ?_⟩⟩
      · exact fun b o hb => by rw [upd_ne (ne_of_none hb hD)]; exact e3 _ _ (e2 _ _ hb)
      · rw [ho_upd (by rw [upd_same]; exact fun z => nomatch z), take_succ' hd1, tupdAll_app]
        have k1 : ∀ b, H2 b = none → upd H1 D (.lst []) b = none := fun b hb => by
          have n1 : b ≠ D := fun z => by rw [z, hD2] at hb; cases hb
          rw [upd_ne n1]
          exact e2.free hb
        exact DhAll.snoc (Dh.same (ho_from k1) _ _ hv') (DhAll.same (ho_to fun b o _ h2 => e3 _ _ h2) _ _ hvs)
    · rintro H2 ⟨vs, hD2, hvl, e2, hvs⟩
      refine ⟨D, vs, rfl, .inl ⟨.inl (.inl hD2), fun l hl2 => ?_⟩⟩
      have k2 : ∀ b, upd H1 D (.lst []) b = none → H b = none := fun b hb => by
        have n1 : b ≠ D := fun z => by rw [z, upd_same] at hb; cases hb
        rw [upd_ne n1] at hb
        exact s1.free hb
      have e4 : Same H (upd H2 l (.tup vs)) := s1.trans (e2.trans (same_new hl2 _))
      refine k (.ref l) _ e4 ?_
      have hlen : ds.take xs.length = ds := List.take_of_length_le (by rw [hds.len]; exact Nat.le_refl _)
      rw [hlen] at hvs
      have n2 : H l = none := (s1.trans e2).free hl2
      refine .tup (by rw [ho_new n2, upd_same]) (by rw [hvl]; exact hl) ?_
      exact DhAll.same (Same.trans (ho_from k2) (ho_to fun b o _ h2 => by rw [upd_ne (ne_of_none h2 hl2)]; exact h2)) _ _ hvs
  | tup ha hl hds =>
    rename_i a xs ds
    refine ⟨_, PSs.nox (pss_one (ps_ret (pe_ifExp (pt_val (pe_callB call_isiT (by rfl) T.n_isi (by decide +kernel) (pa_cons (pv 0) (pa_cons (pe_tup (pa_cons (pe_bltn (v := .ty "list") (by rfl) T.n_list (by decide +kernel) rfl) (pa_cons (pe_bltn (v := .ty "tuple") (by rfl) T.n_tuple (by decide +kernel) rfl) pa_nil))) pa_nil))))
      (pe_callTy call_tuple_of (by rfl) T.n_tuple (by decide +kernel) (pa_cons (pe_lc (own := [("one", 1)]) (g := (gName 1)) (tt := tYes) rfl nd (pi_tup (pv 0)) (blkOk_by (N := ["value", "one"]) (sc := defScope sTupled) (by decide +kernel)) (fun _ _ _ _ _ => pg_name (i := 1) nd rfl (Or.inl rfl)) (fun _ _ _ _ _ => pts_nil) (fun _ _ _ _ _ => (pe_call G hr rfl mG kG bG .nil pass0 (pa_cons (pv 1) pa_nil)))) pa_nil))
      (pv 0)))), ?_⟩
    walk_at "rd"
    refine ⟨by decide, fun tp htp => ?_⟩
    have s1 : Same H (upd H tp (HO.tup [V.ty "list", V.ty "tuple"])) := same_new htp _
    refine ⟨V.ref a, tp, [V.ty "list", V.ty "tuple"], .type "tuple", [.type "list", .type "tuple"], true, rfl, upd_same, .cons (.ty _) (.cons (.ty _) .nil), .base (.tup (s1 _ _ ha)), (kitAny_cons (b := false) (kit_ty (by decide +kernel)) (fun _ => kitAny_cons (b := true) (kit_ty (by decide +kernel)) (fun z => nomatch z) (fun _ => rfl)) (fun z => nomatch z)), _, rfl, ?_⟩
    refine iteT ?_
    generalize upd H tp (HO.tup [V.ty "list", V.ty "tuple"]) = H1 at s1 ⊢
    refine ⟨_, rfl, a, rfl, ⟨xs, .inl (.inl (s1 _ _ ha))⟩, fun D hD => lc_tup (xs := xs) (fun i H2 => ∃ vs, H2 D = some (.lst vs) ∧ vs.length = i ∧ Same H1 H2 ∧ DhAll (Ho (upd H1 D (.lst [])) H2) vs (tupdAll (ds.take i)))
      ⟨[], upd_same, rfl, same_new hD _, .nil⟩ (fun i H2 _ ⟨_, _, _, e, _⟩ => .inl (.inl (e _ _ (s1 _ _ ha)))) ?_ ?_⟩
    · rintro i x H2 hx ⟨vs, hD2, hvl, e2, hvs⟩
      have hil : i < xs.length := (List.getElem?_eq_some_iff.mp hx).1
      obtain ⟨d, hd1, hd2⟩ := hds.get hx
      refine ⟨rfl, ?_⟩
      have hdep := dep_get hd1
      have hn2 : depAll ds + 1 < n + 1 := hn
      refine ⟨_, rfl, x, d, rfl, Dh.same e2 _ _ (Dh.same s1 _ _ hd2), by omega, fun v' H3 e3 hv' => ⟨vs, e3 _ _ hD2, by rw [hvl]; exact Nat.lt_of_lt_of_le (Nat.lt_of_lt_of_le hil hl) (by decide), vs ++ [v'], upd_same, by rw [List.length_append, hvl]; rfl, ?_, ?_⟩⟩
      · exact fun b o hb => by rw [upd_ne (ne_of_none hb hD)]; exact e3 _ _ (e2 _ _ hb)
      · rw [ho_upd (by rw [upd_same]; exact fun z => nomatch z), take_succ' hd1, tupdAll_app]
        have k1 : ∀ b, H2 b = none → upd H1 D (.lst []) b = none := fun b hb => by
          have n1 : b ≠ D := fun z => by rw [z, hD2] at hb; cases hb
          rw [upd_ne n1]
          exact e2.free hb
        exact DhAll.snoc (Dh.same (ho_from k1) _ _ hv') (DhAll.same (ho_to fun b o _ h2 => e3 _ _ h2) _ _ hvs)
    · rintro H2 ⟨vs, hD2, hvl, e2, hvs⟩
      refine ⟨D, vs, rfl, .inl ⟨.inl (.inl hD2), fun l hl2 => ?_⟩⟩
      have k2 : ∀ b, upd H1 D (.lst []) b = none → H b = none := fun b hb => by
        have n1 : b ≠ D := fun z => by rw [z, upd_same] at hb; cases hb
        rw [upd_ne n1] at hb
        exact s1.free hb
      have e4 : Same H (upd H2 l (.tup vs)) := s1.trans (e2.trans (same_new hl2 _))
      refine k (.ref l) _ e4 ?_
      have hlen : ds.take xs.length = ds := List.take_of_length_le (by rw [hds.len]; exact Nat.le_refl _)
      rw [hlen] at hvs
      have n2 : H l = none := (s1.trans e2).free hl2
      refine .tup (by rw [ho_new n2, upd_same]) (by rw [hvl]; exact hl) ?_
      exact DhAll.same (Same.trans (ho_from k2) (ho_to fun b o _ h2 => by rw [upd_ne (ne_of_none h2 hl2)]; exact h2)) _ _ hvs
  | non =>
    refine ⟨_, PSs.nox (pss_one (ps_ret (pe_ifExp (pt_val (pe_callB call_isiT (by rfl) T.n_isi (by decide +kernel) (pa_cons (pv 0) (pa_cons (pe_tup (pa_cons (pe_bltn (v := .ty "list") (by rfl) T.n_list (by decide +kernel) rfl) (pa_cons (pe_bltn (v := .ty "tuple") (by rfl) T.n_tuple (by decide +kernel) rfl) pa_nil))) pa_nil))))
      (pe_callTy call_tuple_of (by rfl) T.n_tuple (by decide +kernel) (pa_cons (pe_lc (own := [("one", 1)]) (g := (gName 1)) (tt := tYes) rfl nd (pi_list (pv 0)) (blkOk_by (N := ["value", "one"]) (sc := defScope sTupled) (by decide +kernel)) (fun _ _ _ _ _ => pg_name (i := 1) nd rfl (Or.inl rfl)) (fun _ _ _ _ _ => pts_nil) (fun _ _ _ _ _ => (pe_call G hr rfl mG kG bG .nil pass0 (pa_cons (pv 1) pa_nil)))) pa_nil))
      (pv 0)))), ?_⟩
    walk_at "rd"
    refine ⟨by decide, fun tp htp => ?_⟩
    have s1 : Same H (upd H tp (HO.tup [V.ty "list", V.ty "tuple"])) := same_new htp _
    refine ⟨_, tp, [V.ty "list", V.ty "tuple"], _, [.type "list", .type "tuple"], false, rfl, upd_same, .cons (.ty _) (.cons (.ty _) .nil), .base .non, kitAny_cons (b := false) (kit_ty (by decide +kernel)) (fun _ => kitAny_cons (b := false) (kit_ty (by decide +kernel)) (fun _ => kitAny_nil) (fun z => nomatch z)) (fun z => nomatch z), _, rfl, ?_⟩
    refine iteF ?_
    exact ⟨_, rfl, k _ _ s1 .non⟩
  | bl b =>
    refine ⟨_, PSs.nox (pss_one (ps_ret (pe_ifExp (pt_val (pe_callB call_isiT (by rfl) T.n_isi (by decide +kernel) (pa_cons (pv 0) (pa_cons (pe_tup (pa_cons (pe_bltn (v := .ty "list") (by rfl) T.n_list (by decide +kernel) rfl) (pa_cons (pe_bltn (v := .ty "tuple") (by rfl) T.n_tuple (by decide +kernel) rfl) pa_nil))) pa_nil))))
      (pe_callTy call_tuple_of (by rfl) T.n_tuple (by decide +kernel) (pa_cons (pe_lc (own := [("one", 1)]) (g := (gName 1)) (tt := tYes) rfl nd (pi_list (pv 0)) (blkOk_by (N := ["value", "one"]) (sc := defScope sTupled) (by decide +kernel)) (fun _ _ _ _ _ => pg_name (i := 1) nd rfl (Or.inl rfl)) (fun _ _ _ _ _ => pts_nil) (fun _ _ _ _ _ => (pe_call G hr rfl mG kG bG .nil pass0 (pa_cons (pv 1) pa_nil)))) pa_nil))
      (pv 0)))), ?_⟩
    walk_at "rd"
    refine ⟨by decide, fun tp htp => ?_⟩
    have s1 : Same H (upd H tp (HO.tup [V.ty "list", V.ty "tuple"])) := same_new htp _
    refine ⟨_, tp, [V.ty "list", V.ty "tuple"], _, [.type "list", .type "tuple"], false, rfl, upd_same, .cons (.ty _) (.cons (.ty _) .nil), .base (.bl b), kitAny_cons (b := false) (kit_ty (by decide +kernel)) (fun _ => kitAny_cons (b := false) (kit_ty (by decide +kernel)) (fun _ => kitAny_nil) (fun z => nomatch z)) (fun z => nomatch z), _, rfl, ?_⟩
    refine iteF ?_
    exact ⟨_, rfl, k _ _ s1 (.bl b)⟩
  | int j =>
    refine ⟨_, PSs.nox (pss_one (ps_ret (pe_ifExp (pt_val (pe_callB call_isiT (by rfl) T.n_isi (by decide +kernel) (pa_cons (pv 0) (pa_cons (pe_tup (pa_cons (pe_bltn (v := .ty "list") (by rfl) T.n_list (by decide +kernel) rfl) (pa_cons (pe_bltn (v := .ty "tuple") (by rfl) T.n_tuple (by decide +kernel) rfl) pa_nil))) pa_nil))))
      (pe_callTy call_tuple_of (by rfl) T.n_tuple (by decide +kernel) (pa_cons (pe_lc (own := [("one", 1)]) (g := (gName 1)) (tt := tYes) rfl nd (pi_list (pv 0)) (blkOk_by (N := ["value", "one"]) (sc := defScope sTupled) (by decide +kernel)) (fun _ _ _ _ _ => pg_name (i := 1) nd rfl (Or.inl rfl)) (fun _ _ _ _ _ => pts_nil) (fun _ _ _ _ _ => (pe_call G hr rfl mG kG bG .nil pass0 (pa_cons (pv 1) pa_nil)))) pa_nil))
      (pv 0)))), ?_⟩
    walk_at "rd"
    refine ⟨by decide, fun tp htp => ?_⟩
    have s1 : Same H (upd H tp (HO.tup [V.ty "list", V.ty "tuple"])) := same_new htp _
    refine ⟨_, tp, [V.ty "list", V.ty "tuple"], _, [.type "list", .type "tuple"], false, rfl, upd_same, .cons (.ty _) (.cons (.ty _) .nil), .base (.int j), kitAny_cons (b := false) (kit_ty (by decide +kernel)) (fun _ => kitAny_cons (b := false) (kit_ty (by decide +kernel)) (fun _ => kitAny_nil) (fun z => nomatch z)) (fun z => nomatch z), _, rfl, ?_⟩
    refine iteF ?_
    exact ⟨_, rfl, k _ _ s1 (.int j)⟩
  | str z =>
    refine ⟨_, PSs.nox (pss_one (ps_ret (pe_ifExp (pt_val (pe_callB call_isiT (by rfl) T.n_isi (by decide +kernel) (pa_cons (pv 0) (pa_cons (pe_tup (pa_cons (pe_bltn (v := .ty "list") (by rfl) T.n_list (by decide +kernel) rfl) (pa_cons (pe_bltn (v := .ty "tuple") (by rfl) T.n_tuple (by decide +kernel) rfl) pa_nil))) pa_nil))))
      (pe_callTy call_tuple_of (by rfl) T.n_tuple (by decide +kernel) (pa_cons (pe_lc (own := [("one", 1)]) (g := (gName 1)) (tt := tYes) rfl nd (pi_list (pv 0)) (blkOk_by (N := ["value", "one"]) (sc := defScope sTupled) (by decide +kernel)) (fun _ _ _ _ _ => pg_name (i := 1) nd rfl (Or.inl rfl)) (fun _ _ _ _ _ => pts_nil) (fun _ _ _ _ _ => (pe_call G hr rfl mG kG bG .nil pass0 (pa_cons (pv 1) pa_nil)))) pa_nil))
      (pv 0)))), ?_⟩
    walk_at "rd"
    refine ⟨by decide, fun tp htp => ?_⟩
    have s1 : Same H (upd H tp (HO.tup [V.ty "list", V.ty "tuple"])) := same_new htp _
    refine ⟨_, tp, [V.ty "list", V.ty "tuple"], _, [.type "list", .type "tuple"], false, rfl, upd_same, .cons (.ty _) (.cons (.ty _) .nil), .base (.str z), kitAny_cons (b := false) (kit_ty (by decide +kernel)) (fun _ => kitAny_cons (b := false) (kit_ty (by decide +kernel)) (fun _ => kitAny_nil) (fun z => nomatch z)) (fun z => nomatch z), _, rfl, ?_⟩
    refine iteF ?_
    exact ⟨_, rfl, k _ _ s1 (.str z)⟩
theorem tup_none {ps : List Str} (hp : ps.length = 1) : FnOk P w K mg base CX0 0 f fd ps (spTup 0) := by
  have no : ∀ vs H Q E, ¬ spTup 0 vs H Q E := fun vs H Q E h => by
    obtain ⟨v, d, _, _, h1, _⟩ := h
    exact absurd h1 (Nat.not_lt_zero _)
  exact ⟨fun vs H Q E h => absurd h (no vs H Q E), fun A outer s H args us vs Q E _ _ _ _ h => absurd h (no vs H Q E)⟩
theorem ok_fixed (F : FnP K "fixed" sFixed f fd) (bG : Binds K fd ["value"] []) (kG : PySem.W.keepIn K (.ref f) = true) (mG : mg "fixed" = some (.ref f)) (T : TxtT mg) : ∀ n, FnOk P w K mg base CX0 n f fd ["value"] (spTup n)
  | 0 => tup_none rfl
  | n + 1 => ok_fixed1 F (ok_fixed F bG kG mG T n) bG kG mG T
theorem ok_tupled (F : FnP K "_law_tupled" sTupled f fd) (bG : Binds K fd ["value"] []) (kG : PySem.W.keepIn K (.ref f) = true) (mG : mg "_law_tupled" = some (.ref f)) (T : TxtT mg) : ∀ n, FnOk P w K mg base CX0 n f fd ["value"] (spTup n)
  | 0 => tup_none rfl
  | n + 1 => ok_tupled1 F (ok_tupled F bG kG mG T n) bG kG mG T
end
end My

set_option maxHeartbeats 4000000
namespace My
open PySem PySem.Spec PyProof.Rows L2
local macro_rules | `(tactic| walk_at "rd1") => `(tactic| first
  | refine ⟨_, rfl, ?_⟩
  | refine ⟨_, _, rfl, rfl, ?_⟩
  | refine Or.inl ⟨_, rfl, ?_⟩
  | refine Or.inr ⟨_, rfl, ?_⟩
  | refine ⟨_, _, _, _, rfl, rfl, Or.inl (Or.inl (by assumption)), rfl, ?_⟩
  | refine ⟨_, _, rfl, Or.inl (Or.inl (Or.inl (by assumption))), ?_⟩)
local macro_rules | `(tactic| walk_at "rd") => `(tactic| repeat walk_at "rd1")
/-! ### are_like -/
def isB : PyData → Bool
  | .bool _ => true
  | _ => false
def isT : PyData → Bool
  | .tuple _ => true
  | _ => false
mutual
def alike : PyData → PyData → Bool
  | .tuple xs, .tuple ys => (xs.length == ys.length) && alikeAll xs ys
  | .tuple xs, e => (isB (.tuple xs) == isB e) && PyData.eqv (.tuple xs) e
  | .none, e => (isB .none == isB e) && PyData.eqv .none e
  | .bool b, e => (isB (.bool b) == isB e) && PyData.eqv (.bool b) e
  | .int b, e => (isB (.int b) == isB e) && PyData.eqv (.int b) e
  | .str b, e => (isB (.str b) == isB e) && PyData.eqv (.str b) e
  | .list b, e => (isB (.list b) == isB e) && PyData.eqv (.list b) e
  | .dict b, e => (isB (.dict b) == isB e) && PyData.eqv (.dict b) e
def alikeAll : List PyData → List PyData → Bool
  | x :: xs, y :: ys => alike x y && alikeAll xs ys
  | [], _ => true
  | _ :: _, [] => true
end
theorem alike_else {d e : PyData} (h : ¬ (isT d = true ∧ isT e = true)) : alike d e = ((isB d == isB e) && PyData.eqv d e) := by
  cases d <;> cases e <;> first | rfl | (exact absurd ⟨rfl, rfl⟩ h)
theorem alike_tup {xs ys : List PyData} : alike (.tuple xs) (.tuple ys) = ((xs.length == ys.length) && alikeAll xs ys) := rfl
theorem kit_tup {K : PySem.W.Frag} {d : PyData} : PySem.W.kitOne K (.type (tyn d)) (.type "tuple") = some (isT d) := by
  cases d with
  | none => exact kit_ty (a := "NoneType") (b := "tuple") (r := false) (by decide +kernel)
  | bool b => exact kit_ty (a := "bool") (b := "tuple") (r := false) (by decide +kernel)
  | int b => exact kit_ty (a := "int") (b := "tuple") (r := false) (by decide +kernel)
  | str b => exact kit_ty (a := "str") (b := "tuple") (r := false) (by decide +kernel)
  | list b => exact kit_ty (a := "list") (b := "tuple") (r := false) (by decide +kernel)
  | tuple b => exact kit_ty (a := "tuple") (b := "tuple") (r := true) (by decide +kernel)
  | dict b => exact kit_ty (a := "dict") (b := "tuple") (r := false) (by decide +kernel)
theorem kit_bool {K : PySem.W.Frag} {d : PyData} : PySem.W.kitOne K (.type (tyn d)) (.type "bool") = some (isB d) := by
  cases d with
  | none => exact kit_ty (a := "NoneType") (b := "bool") (r := false) (by decide +kernel)
  | bool b => exact kit_ty (a := "bool") (b := "bool") (r := true) (by decide +kernel)
  | int b => exact kit_ty (a := "int") (b := "bool") (r := false) (by decide +kernel)
  | str b => exact kit_ty (a := "str") (b := "bool") (r := false) (by decide +kernel)
  | list b => exact kit_ty (a := "list") (b := "bool") (r := false) (by decide +kernel)
  | tuple b => exact kit_ty (a := "tuple") (b := "bool") (r := false) (by decide +kernel)
  | dict b => exact kit_ty (a := "dict") (b := "bool") (r := false) (by decide +kernel)
theorem walk_zipT {K : PySem.W.Frag} {a b : Addr} {xs ys : List V} {n : Nat} (hn : n = min xs.length ys.length) : Walk (RZ.ItzT K a b) n (fun H => SqT K H a xs ∧ SqT K H b ys) (YPair (fun i => xs[i]?) (fun i => ys[i]?)) := by
  subst hn
  refine ⟨fun i _ hi q => ?_, fun _ q => ⟨xs, ys, q.1, q.2, by omega⟩, fun i H v H' _ q y => ?_⟩
  · have h1 : i < xs.length := by omega
    have h2 : i < ys.length := by omega
    exact ⟨xs, ys, xs[i], ys[i], q.1, q.2, by simp [h1], by simp [h2]⟩
  · obtain ⟨T, x, z, h1, h2, h3, h4, h5⟩ := y
    exact ⟨T, x, z, h1, h2, h3, h4 xs q.1, h5 ys q.2⟩
def likes : List PyData → List PyData → List Bool
  | x :: xs, y :: ys => alike x y :: likes xs ys
  | [], _ => []
  | _ :: _, [] => []
theorem likes_all : ∀ xs ys : List PyData, (likes xs ys).all id = alikeAll xs ys
  | x :: xs, y :: ys => by
    show (id (alike x y) && (likes xs ys).all id) = (alike x y && alikeAll xs ys)
    rw [likes_all xs ys]
    rfl
  | [], _ => by simp [likes, alikeAll]
  | _ :: _, [] => by simp [likes, alikeAll]
theorem likes_len : ∀ xs ys : List PyData, xs.length = ys.length → (likes xs ys).length = xs.length
  | x :: xs, y :: ys, h => congrArg Nat.succ (likes_len xs ys (Nat.succ.inj h))
  | [], _, _ => by simp [likes]
  | _ :: _, [], h => by cases h
theorem likes_get : ∀ {xs ys : List PyData} {i : Nat} {d e : PyData}, xs[i]? = some d → ys[i]? = some e → (likes xs ys)[i]? = some (alike d e)
  | x :: xs, y :: ys, 0, d, e, h1, h2 => by
    have h3 : some x = some d := h1
    have h4 : some y = some e := h2
    rw [← Option.some.inj h3, ← Option.some.inj h4]
    rfl
  | x :: xs, y :: ys, i + 1, d, e, h1, h2 => likes_get (xs := xs) (ys := ys) (i := i) h1 h2
  | [], _, _, _, _, h1, _ => by simp at h1
  | _ :: _, [], _, _, _, _, h2 => by simp at h2
theorem lay_get : ∀ {ds : List PyData} {i : Nat} {d : PyData}, PyData.canLayAll0 ds = true → ds[i]? = some d → PyData.canLay0 d = true
  | [], i, d, _, h => by simp at h
  | x :: ds, 0, d, h, e => by
    have h2 : some x = some d := e
    rw [← Option.some.inj h2]
    exact (Bool.and_eq_true_iff.mp (show (PyData.canLay0 x && PyData.canLayAll0 ds) = true from h)).1
  | x :: ds, i + 1, d, h, e => lay_get (ds := ds) (i := i) (Bool.and_eq_true_iff.mp (show (PyData.canLay0 x && PyData.canLayAll0 ds) = true from h)).2 e
theorem shaped_of {d : PyData} (h1 : PyData.canLay0 d = true) (h2 : dep d ≤ 64) : SeqAt.shaped d = true := by
  show (PyData.canLay0 d && decide (PyData.depth d ≤ 64)) = true
  rw [h1, decide_eq_true h2]
  rfl
theorem ite_join2 {c : Prop} [Decidable c] {A B : Prop} (R : Prop) (hB : R → B) (hr : ¬ c → R) (hA : c → (R → B) → A) : if c then A else B := by
  by_cases h : c
  · rw [if_pos h]
    exact hA h hB
  · rw [if_neg h]
    exact hB (hr h)
theorem dec_blb {a b : Bool} : decide (V.bl a = V.bl b) = (a == b) := by
  cases a <;> cases b <;> decide
def spLike (n : Nat) : Sp := fun vs H Q _ => ∃ (v w : V) (d e : PyData), vs = [v, w] ∧ Dh H v d ∧ Dh H w e ∧ PyData.canLay0 d = true ∧ PyData.canLay0 e = true ∧ dep d < n ∧ dep d ≤ 60 ∧ dep e ≤ 60 ∧ ∀ H', Same H H' → Q (.bl (alike d e)) H'
structure TxtL (mg : Str → Option Value) : Prop where
  n_isi : mg "isinstance" = none
  n_tuple : mg "tuple" = none
  n_bool : mg "bool" = none
  n_len : mg "len" = none
  n_all : mg "all" = none
  n_zip : mg "zip" = none
section
variable {P : Program} {w : World} {K : PySem.W.Frag} {mg : Str → Option Value} {base : Heap} {f : Addr} {fd : FuncData}
theorem scLk : FnScope ["one", "other", "here", "there"] ["one", "other"] (defScope sLike) := ⟨rfl, rfl, rfl, by decide +kernel, rfl, by decide +kernel, by decide +kernel⟩
theorem ok_like1 {n : Nat} (F : FnP K "are_like" sLike f fd) (G : FnOk P w K mg base CX0 n f fd ["one", "other"] (spLike n)) (bG : Binds K fd ["one", "other"] []) (kG : PySem.W.keepIn K (.ref f) = true) (mG : mg "are_like" = some (.ref f)) (T : TxtL mg) :
    FnOk P w K mg base CX0 (n + 1) f fd ["one", "other"] (spLike (n + 1)) := by
  refine F.ok scLk (fun vs H Q E h => ?_) (fun cdv A outer s H vs Q E hr h => ?_)
  · obtain ⟨v, w, d, e, rfl, _⟩ := h
    rfl
  obtain ⟨v, w, d, e, rfl, hd, he, ld, le, dn, d6, e6, k⟩ := h
  have nd := scLk.nd
  refine ⟨_, PSs.nox (pss_cons (ps_if (PW.pt (pw_and (pt_val (pe_callB call_isi (by rfl) T.n_isi (by decide +kernel) (pa_cons (pv 0) (pa_cons (pe_bltn (v := .ty "tuple") (by rfl) T.n_tuple (by decide +kernel) rfl) pa_nil)))) (pw_and1 (pt_val (pe_callB call_isi (by rfl) T.n_isi (by decide +kernel) (pa_cons (pv 1) (pa_cons (pe_bltn (v := .ty "tuple") (by rfl) T.n_tuple (by decide +kernel) rfl) pa_nil)))))))
      (pss_one (ps_ret (pe_and (pe_cmpR op_eq (pe_callB call_len_seq (by rfl) T.n_len PySem.boot_len (pa_cons (pv 0) pa_nil)) (pe_callB call_len_seq (by rfl) T.n_len PySem.boot_len (pa_cons (pv 1) pa_nil)) (nomark _)) (pe_one (pe_callB (cr_all rfl) (by rfl) T.n_all (by decide +kernel) (pa_cons (pe_lc (own := [("here", 2), ("there", 3)]) (g := gTup K 2 (gCons (gName 2) (gCons (gName 3) gNil))) (tt := tYes) rfl nd (RZ.pi_zipA (by rfl) T.n_zip (pa_cons (pv 0) (pa_cons (pv 1) pa_nil))) (blkOk_by (N := ["one", "other", "here", "there"]) (sc := defScope sLike) (by decide +kernel)) (fun _ _ _ _ _ => pg_tup (by rfl) (pgs_cons (pg_name (i := 2) nd rfl (Or.inl rfl)) (pgs_cons (pg_name (i := 3) nd rfl (Or.inl rfl)) pgs_nil))) (fun _ _ _ _ _ => pts_nil) (fun _ _ _ _ _ => (pe_call G hr rfl mG kG bG .nil pass0 (pa_cons (pv 2) (pa_cons (pv 3) pa_nil))))) pa_nil))))))
      pss_nil)
    (pss_one (ps_ret (pe_and (pe_cmpR op_eq (pe_callB call_isi (by rfl) T.n_isi (by decide +kernel) (pa_cons (pv 0) (pa_cons (pe_bltn (v := .ty "bool") (by rfl) T.n_bool (by decide +kernel) rfl) pa_nil))) (pe_callB call_isi (by rfl) T.n_isi (by decide +kernel) (pa_cons (pv 1) (pa_cons (pe_bltn (v := .ty "bool") (by rfl) T.n_bool (by decide +kernel) rfl) pa_nil))) (nomark _)) (pe_one (pe_callTy call_bool1 (by rfl) T.n_bool (by decide +kernel) (pa_cons (pe_cmpR (op_eqD hr.units) (pv 0) (pv 1) (nomark _)) pa_nil))))))), ?_⟩
  walk_at "rd"
  refine ⟨v, .ty "tuple", _, _, _, rfl, .ty _, hd.ty, kit_tup, _, rfl, ?_⟩
  refine ite_join2 (alike d e = ((isB d == isB e) && PyData.eqv d e)) (fun z => ?_) (fun c => alike_else fun q => c q.1) (fun c tail => ?_)
  · refine iteF ?_
    walk_at "rd"
    refine ⟨v, .ty "bool", _, _, _, rfl, .ty _, hd.ty, kit_bool, ?_⟩
    walk_at "rd"
    refine ⟨w, .ty "bool", _, _, _, rfl, .ty _, he.ty, kit_bool, rfl, _, rfl, ?_⟩
    rw [dec_blb]
    refine ite2 (fun c => ?_) (fun c => ?_)
    · walk_at "rd"
      refine ⟨d, e, Dh.dp _ _ hd, Dh.dp _ _ he, shaped_of ld (by omega), shaped_of le (by omega), .inr ⟨_, rfl, ?_⟩⟩
      have z2 := k H (Same.refl H)
      rw [z, c] at z2
      exact z2
    · have z2 := k H (Same.refl H)
      rw [z, Bool.eq_false_iff.mpr c] at z2
      exact z2
  · walk_at "rd"
    refine ⟨w, .ty "tuple", _, _, _, rfl, .ty _, he.ty, kit_tup, _, rfl, ?_⟩
    refine ite2 (fun c2 => ?_) (fun c2 => of_iteF (tail (alike_else fun q => c2 q.2)))
    clear tail
    cases hd with
    | tup ha hl hds =>
      cases he with
      | tup hb hm hes =>
        rename_i a xs ds b ys es
        have lx := hds.len
        have ly := hes.len
        walk_at "rd"
        refine ⟨a, xs, rfl, .inr (.inl (.inl ha)), _, rfl, b, ys, rfl, .inr (.inl (.inl hb)), rfl, _, rfl, ?_⟩
        refine ite2 (fun c3 => ?_) (fun c3 => ?_)
        · have c4 : xs.length = ys.length := by
            have c5 := of_decide_eq_true c3
            injection c5 with c6
            omega
          have el : (ds.length == es.length) = true := by rw [← lx, ← ly, c4]; exact beq_self_eq_true _
          have ld2 : PyData.canLayAll0 ds = true := ld
          have le2 : PyData.canLayAll0 es = true := le
          have dn2 : depAll ds + 1 < n + 1 := dn
          have d62 : depAll ds + 1 ≤ 60 := d6
          have e62 : depAll es + 1 ≤ 60 := e6
          walk_at "rd"
          refine ⟨a, b, xs, ys, rfl, .inr ⟨.inl (.inl ha), .inl (.inl hb), fun D hD => lc_it (walk_zipT (xs := xs) (ys := ys) (n := xs.length) (by omega)) (fun i H2 => H2 D = some (.lst (((likes ds es).take i).map V.bl)) ∧ Same H H2)
            ⟨upd_same, same_new hD _⟩ (fun i H2 _ ⟨_, e2⟩ => ⟨.inl (.inl (e2 _ _ ha)), .inl (.inl (e2 _ _ hb))⟩) ?_ ?_⟩⟩
          · rintro i x H2 H3 hi ⟨hD2, e2⟩ ⟨T, x1, y1, rfl, hT, rfl, hx, hy⟩
            obtain ⟨d1, hd1, hd2⟩ := hds.get hx
            obtain ⟨e1, he1, he2⟩ := hes.get hy
            have z1 := dep_get hd1
            have z2 := dep_get he1
            refine ⟨T, [x1, y1], rfl, .inl (.inl upd_same), rfl, x1, [y1], rfl, y1, [], rfl, rfl, rfl, ?_⟩
            have e3 : Same H (upd H2 T (.tup [x1, y1])) := e2.trans (same_new hT _)
            refine ⟨x1, rfl, y1, rfl, x1, y1, d1, e1, rfl, Dh.same e3 _ _ hd2, Dh.same e3 _ _ he2, lay_get ld2 hd1, lay_get le2 he1, by omega, by omega, by omega, fun H4 e4 => ?_⟩
            refine ⟨((likes ds es).take i).map V.bl, e4 _ _ (by rw [upd_ne (ne_of_none hD2 hT)]; exact hD2), ?_, ?_, ?_⟩
            · rw [List.length_map, List.length_take]
              exact Nat.lt_of_le_of_lt (Nat.min_le_left _ _) (Nat.lt_of_lt_of_le (Nat.lt_of_lt_of_le hi hl) (by decide))
            · rw [upd_same, take_succ' (likes_get hd1 he1), List.map_append]
              rfl
            · exact fun q o hq => by rw [upd_ne (ne_of_none hq hD)]; exact e4 _ _ (e3 _ _ hq)
          · rintro H2 ⟨hD2, e2⟩
            refine ⟨D, (likes ds es).take xs.length, rfl, .inl (.inl hD2), ?_⟩
            have z := k H2 e2
            rw [alike_tup, el, ← likes_all] at z
            have z3 : (likes ds es).take xs.length = likes ds es := List.take_of_length_le (by rw [likes_len _ _ (by omega)]; omega)
            rw [z3]
            exact z
        · have c4 : ¬ ds.length = es.length := fun q => c3 (decide_eq_true (by rw [lx, ly, q]))
          have z := k H (Same.refl H)
          have el : (ds.length == es.length) = false := beq_eq_false_iff_ne.mpr c4
          rw [alike_tup, el] at z
          exact z
      | _ => exact Bool.noConfusion (show false = true from c2)
    | _ => exact Bool.noConfusion (show false = true from c)
theorem like_none : FnOk P w K mg base CX0 0 f fd ["one", "other"] (spLike 0) := by
  have no : ∀ vs H Q E, ¬ spLike 0 vs H Q E := fun vs H Q E h => by
    obtain ⟨v, w, d, e, _, _, _, _, _, h1, _⟩ := h
    exact absurd h1 (Nat.not_lt_zero _)
  exact ⟨fun vs H Q E h => absurd h (no vs H Q E), fun A outer s H args us vs Q E _ _ _ _ h => absurd h (no vs H Q E)⟩
theorem ok_like (F : FnP K "are_like" sLike f fd) (bG : Binds K fd ["one", "other"] []) (kG : PySem.W.keepIn K (.ref f) = true) (mG : mg "are_like" = some (.ref f)) (T : TxtL mg) : ∀ n, FnOk P w K mg base CX0 n f fd ["one", "other"] (spLike n)
  | 0 => like_none
  | n + 1 => ok_like1 F (ok_like F bG kG mG T n) bG kG mG T
end
end My

set_option maxHeartbeats 4000000
namespace My
open PySem PySem.Spec PyProof.Rows L2
local macro_rules | `(tactic| walk_at "rd1") => `(tactic| first
  | refine ⟨_, rfl, ?_⟩
  | refine ⟨_, _, rfl, rfl, ?_⟩
  | refine Or.inl ⟨_, rfl, ?_⟩
  | refine Or.inr ⟨_, rfl, ?_⟩
  | refine ⟨_, _, _, _, rfl, rfl, Or.inl (Or.inl (by assumption)), rfl, ?_⟩
  | refine ⟨_, _, rfl, Or.inl (Or.inl (Or.inl (by assumption))), ?_⟩)
local macro_rules | `(tactic| walk_at "rd") => `(tactic| repeat walk_at "rd1")
/-! ### the pen, drawn values -/
def spPen (K : PySem.W.Frag) : Sp := fun vs H Q _ => ∃ (a : Addr) (ns : List Int), vs = [.ref a] ∧ SqL K H a (ns.map V.int) ∧ ns.length ≤ 63 ∧ ∀ (p q : Addr) (ms : List Int) (H' : Hp), Same H H' → H p = none → Pen H' p q ms 0 0 → Q (.ref p) H'
theorem cut_ints (ns : List Int) (lo hi : Option Int) : ∃ ms : List Int, cutV (ns.map V.int) lo hi = ms.map V.int ∧ ms.length ≤ ns.length := by
  refine ⟨(ns.drop (HT.sIx (ns.map V.int).length 0 lo)).take (HT.sIx (ns.map V.int).length (ns.map V.int).length hi - HT.sIx (ns.map V.int).length 0 lo), ?_, ?_⟩
  · unfold cutV
    rw [List.map_take, List.map_drop]
  · rw [List.length_take, List.length_drop]
    omega
/-- drawn data: n nestings, three parts at most -/
inductive Dw : Nat → PyData → Prop
  | non {n} : Dw n .none
  | tru {n} : Dw n (.bool true)
  | small {n} (i : Int) : -50 ≤ i → i ≤ 98 → Dw n (.int i)
  | ab {n} : Dw n (.str "ab")
  | big {n} : Dw n (.int (10 ^ 40))
  | lst {n ds} : ds.length ≤ 3 → (∀ d ∈ ds, Dw n d) → Dw (n + 1) (.list ds)
  | tup {n ds} : ds.length ≤ 3 → (∀ d ∈ ds, Dw n d) → Dw (n + 1) (.tuple ds)
def cost : Nat → Int
  | 0 => 2
  | n + 1 => 2 + 3 * cost n
theorem cost2 : ∀ n, 2 ≤ cost n
  | 0 => Int.le_refl _
  | n + 1 => by
    have z := cost2 n
    show 2 ≤ 2 + 3 * cost n
    omega
/-- a drawn value: of new objects; the pen told anew -/
def spVal (n : Nat) : Sp := fun vs H Q _ => ∃ (p q : Addr) (ns : List Int) (t r : Int) (k : Nat), vs = [.ref p, .int k] ∧ Pen H p q ns t r ∧ k < n ∧ t + cost k ≤ 90000 ∧
  ∀ (v : V) (d : PyData) (H' : Hp) (t' r' : Int), Sm p H H' → Pen H' p q ns t' r' → t ≤ t' → t' ≤ t + cost k → Dh (Ho H H') v d → Dw k d → Q v H'
structure TxtV (K : PySem.W.Frag) (mg : Str → Option Value) : Prop where
  n_int : mg "int" = none
  n_range : mg "range" = none
  n_tuple : mg "tuple" = none
theorem Pen.of {H H' : Hp} {p q : Addr} {ns : List Int} {t r t' r' : Int} (h : Pen H p q ns t r) (e : Sm p H H') (hp : H' p = some (.lst [.ref q, .int t', .int r'])) (h1 : 0 ≤ t') (h2 : t' < 100000) (h3 : 0 ≤ r') : Pen H' p q ns t' r' := by
  refine ⟨hp, e q _ (fun z => ?_) h.cells, h.few, h1, h2, h3⟩
  have h4 := h.at_
  rw [← z, h.cells] at h4
  have e2 := Option.some.inj h4
  injection e2 with e3
  cases ns with
  | nil => cases e3
  | cons n ns =>
    have e4 := List.cons.inj e3
    cases e4.1
theorem Pen.same {H H' : Hp} {p q : Addr} {ns : List Int} {t r : Int} (h : Pen H p q ns t r) (e : Same H H') : Pen H' p q ns t r := ⟨e _ _ h.at_, e _ _ h.cells, h.few, h.t0, h.t1, h.r0⟩
theorem ite_tC {c : Prop} [Decidable c] {a b : Int} {σ : L2.St} {H : Hp} {Q : VK} (h : ∀ m, ((c ∧ m = a) ∨ (¬ c ∧ m = b)) → Q (.int m) H) : if c then tC (.int a) σ H Q else tC (.int b) σ H Q := by
  by_cases e : c
  · rw [if_pos e]
    exact h a (.inl ⟨e, rfl⟩)
  · rw [if_neg e]
    exact h b (.inr ⟨e, rfl⟩)
section
variable {P : Program} {w : World} {K : PySem.W.Frag} {mg : Str → Option Value} {base : Heap} {f fD : Addr} {fd fdD : FuncData}
theorem scP : FnScope ["script", "cell"] ["script"] (defScope sPen) := ⟨rfl, rfl, rfl, by decide +kernel, rfl, by decide +kernel, by decide +kernel⟩
theorem ok_pen (F : FnP K "_law_pen" sPen f fd) (T : TxtV K mg) : FnOk P w K mg base CX0 1 f fd ["script"] (spPen K) := by
  refine F.ok scP (fun vs H Q E h => ?_) (fun cdv A outer s H vs Q E hr h => ?_)
  · obtain ⟨a, ns, rfl, _⟩ := h
    rfl
  obtain ⟨a, ns, rfl, hs, hl, k⟩ := h
  have nd := scP.nd
  refine ⟨_, PSs.nox (pss_one (ps_ret (pe_lst (pa_cons (pe_lc (own := [("cell", 1)]) (g := (gName 1)) (tt := tYes) rfl nd (pi_list (pe_slice sl_list (pv 0) po_none (po_some pe_int))) (blkOk_by (N := ["script", "cell"]) (sc := defScope sPen) (by decide +kernel)) (fun _ _ _ _ _ => pg_name (i := 1) nd rfl (Or.inl rfl)) (fun _ _ _ _ _ => pts_nil) (fun _ _ _ _ _ => (pe_callTy call_int1 (by rfl) T.n_int (by decide +kernel) (pa_cons (pv 1) pa_nil)))) (pa_cons pe_int (pa_cons pe_int pa_nil)))))), ?_⟩
  walk_at "rd"
  obtain ⟨ms, em, lm⟩ := cut_ints ns none (some 63)
  refine ⟨a, _, rfl, hs, fun l hl2 => ?_⟩
  rw [em]
  have s1 : Same H (upd H l (HO.lst (ms.map V.int))) := same_new hl2 _
  have hl3 : upd H l (HO.lst (ms.map V.int)) l = some (.lst (ms.map V.int)) := upd_same
  generalize upd H l (HO.lst (ms.map V.int)) = H1 at s1 hl3 ⊢
  refine ⟨l, rfl, ⟨_, .inl (.inl hl3)⟩, fun D hD => lc_list (xs := ms.map V.int) (fun i H2 => H2 D = some (.lst ((ms.take i).map V.int)) ∧ Same H1 H2) ⟨upd_same, same_new hD _⟩ (fun i H2 _ ⟨_, e2⟩ => .inl (.inl (e2 _ _ hl3))) ?_ ?_⟩
  · rintro i x H2 hx ⟨hD2, e2⟩
    rw [List.getElem?_map] at hx
    cases e : ms[i]? with
    | none =>
      rw [e] at hx
      cases hx
    | some n =>
      rw [e] at hx
      have hx2 : V.int n = x := Option.some.inj hx
      subst hx2
      refine ⟨rfl, ?_⟩
      refine ⟨_, rfl, .inl ⟨_, rfl, (ms.take i).map V.int, hD2, ?_, ?_, ?_⟩⟩
      · rw [List.length_map, List.length_take]
        exact Nat.lt_of_le_of_lt (Nat.le_trans (Nat.min_le_right _ _) (Nat.le_trans lm hl)) (by decide)
      · rw [upd_same, take_succ' e, List.map_append]
        rfl
      · exact fun b o hb => by rw [upd_ne (ne_of_none hb hD)]; exact e2 _ _ hb
  · rintro H2 ⟨hD2, e2⟩
    rw [List.length_map, List.take_length] at hD2
    refine ⟨by show 3 ≤ sizeLine; decide, fun p hp => ?_⟩
    refine k p D ms _ (s1.trans (e2.trans (same_new hp _))) ((s1.trans e2).free hp) ⟨upd_same, ?_, Nat.le_trans lm hl, Int.le_refl _, by decide, Int.le_refl _⟩
    rw [upd_ne (ne_of_none hD2 hp)]
    exact hD2
theorem scV : FnScope ["pen", "deep", "way", "some", "at"] ["pen", "deep"] (defScope sValue) := ⟨rfl, rfl, rfl, by decide +kernel, rfl, by decide +kernel, by decide +kernel⟩
theorem ok_value1 {n : Nat} (F : FnP K "_law_value" sValue f fd) (G : FnOk P w K mg base CX0 (n + 1) f fd ["pen", "deep"] (spVal n)) (bG : Binds K fd ["pen", "deep"] []) (mG : mg "_law_value" = some (.ref f)) (T : TxtV K mg)
    (FD : FnP K "_law_draw" sDraw fD fdD) (GD : FnOk P w K mg base CX0 1 fD fdD ["pen", "many"] spDraw) (bD : Binds K fdD ["pen", "many"] []) (mD : mg "_law_draw" = some (.ref fD)) :
    FnOk P w K mg base CX0 (n + 2) f fd ["pen", "deep"] (spVal (n + 1)) := by
  refine F.ok scV (fun vs H Q E h => ?_) (fun cdv A outer s H vs Q E hr h => ?_)
  · obtain ⟨p, q, ns, t, r, k, rfl, _⟩ := h
    rfl
  obtain ⟨p, q, ns, t, r, kk, rfl, pen, hk, ht, k⟩ := h
  have nd := scV.nd
  have hr1 : Room 1 (A.deeper (envOfC "_law_value" (defScope sValue) s.heap.objs.size f cdv)) := hr.mono (by omega)
  refine ⟨_, PSs.nox (pss_cons (ps_set (i := 2) nd rfl (Or.inl rfl) (pe_call GD hr1 rfl mD FD.kp bD .nil pass0 (pa_cons (pv 0) (pa_cons (pe_ifExp (pt_cmpR op_gt (pv 1) pe_int (nomark _)) pe_int pe_int) pa_nil))))
    (pss_cons (ps_if (pt_cmpR op_lt (pv 2) pe_int (nomark _))
      (pss_one (ps_ret (pe_ix ix_list (pe_lst (pa_cons pe_non (pa_cons pe_bl (pa_cons pe_int (pa_cons (pe_op op_sub (pe_call GD hr1 rfl mD FD.kp bD .nil pass0 (pa_cons (pv 0) (pa_cons pe_int pa_nil))) pe_int) (pa_cons pe_str (pa_cons (pe_op op_pow pe_int pe_int) pa_nil))))))) (pv 2) (fun _ _ => rfl))))
      pss_nil)
    (pss_cons (ps_setLc (i := 3) (own := [("at", 4)]) (g := (gName 4)) (tt := tYes) rfl nd rfl rfl (sw_true rfl rfl rfl (by decide +kernel)) (pi_range1 (by rfl) T.n_range (pa_cons (pe_call GD hr1 rfl mD FD.kp bD .nil pass0 (pa_cons (pv 0) (pa_cons pe_int pa_nil))) pa_nil)) (blkOk_by (N := ["pen", "deep", "way", "some", "at"]) (sc := defScope sValue) (by decide +kernel)) (fun _ _ _ _ _ => pg_name (i := 4) nd rfl (Or.inl rfl)) (fun _ _ _ _ _ => pts_nil) (fun _ _ _ _ _ => (pe_call G hr rfl mG F.kp bG .nil pass0 (pa_cons (pv 0) (pa_cons (pe_op op_sub (pv 1) pe_int) pa_nil)))))
    (pss_one (ps_ret (pe_ifExp (pt_cmpR op_lt (pv 2) pe_int (nomark _)) (pv 3) (pe_callTy call_tuple_of (by rfl) T.n_tuple (by decide +kernel) (pa_cons (pv 3) pa_nil)))))))), ?_⟩
  walk_at "rd"
  -- way = _law_draw(pen, 9 if deep > 0 else 6)
  have hc := cost2 kk
  have p0 := pen.t0
  refine ite_tC fun many hm => ?_
  have hm2 : (many = 9 ∧ 0 < kk) ∨ many = 6 := hm.imp (fun z => ⟨z.2, by have z2 := of_decide_eq_true z.1; omega⟩) (fun z => z.2)
  refine ⟨p, q, ns, t, r, many, rfl, pen, by omega, by omega, by omega, fun way t1 r1 H1 w0 w1 t01 t02 r10 sm1 hp1 => ?_⟩
  have pen1 := pen.of sm1 hp1 (by omega) (by omega) r10
  walk_at "rd"
  refine ite2 (fun c => ?_) (fun c => ?_)
  · have w6 : way < 6 := of_decide_eq_true c
    walk_at "rd"
    refine ⟨p, q, ns, t1, r1, 99, rfl, pen1, by decide, by decide, by omega, fun x t2 r2 H2 x0 x1 t12 t13 r20 sm2 hp2 => ?_⟩
    have pen2 := pen1.of sm2 hp2 (by omega) (by omega) r20
    walk_at "rd"
    refine ⟨⟨by decide, by decide, by decide⟩, by show 6 ≤ sizeLine; decide, fun l hl => ?_⟩
    have s3 : Same H2 (upd H2 l (HO.lst [V.non, V.bl true, V.int 1, V.int (x - 50), V.str "ab", V.int (10 ^ 40)])) := same_new hl _
    have fin : ∀ (v : V) (d : PyData), Dh (Ho H (upd H2 l (HO.lst [V.non, V.bl true, V.int 1, V.int (x - 50), V.str "ab", V.int (10 ^ 40)]))) v d → Dw kk d → Q v (upd H2 l (HO.lst [V.non, V.bl true, V.int 1, V.int (x - 50), V.str "ab", V.int (10 ^ 40)])) := fun v d h1 h2 =>
      k v d _ t2 r2 ((sm1.trans sm2).trans (Same.sm s3)) (pen2.same s3) (by omega) (by omega) h1 h2
    have wc : way = 0 ∨ way = 1 ∨ way = 2 ∨ way = 3 ∨ way = 4 ∨ way = 5 := by omega
    rcases wc with rfl | rfl | rfl | rfl | rfl | rfl
    · exact ⟨_, rfl, l, _, 0, _, rfl, rfl, .inl (.inl upd_same), rfl, fin _ _ .non .non⟩
    · exact ⟨_, rfl, l, _, 1, _, rfl, rfl, .inl (.inl upd_same), rfl, fin _ _ (.bl true) .tru⟩
    · exact ⟨_, rfl, l, _, 2, _, rfl, rfl, .inl (.inl upd_same), rfl, fin _ _ (.int 1) (.small 1 (by decide) (by decide))⟩
    · exact ⟨_, rfl, l, _, 3, _, rfl, rfl, .inl (.inl upd_same), rfl, fin _ _ (.int (x - 50)) (.small _ (by omega) (by omega))⟩
    · exact ⟨_, rfl, l, _, 4, _, rfl, rfl, .inl (.inl upd_same), rfl, fin _ _ (.str "ab") .ab⟩
    · exact ⟨_, rfl, l, _, 5, _, rfl, rfl, .inl (.inl upd_same), rfl, fin _ _ (.int (10 ^ 40)) .big⟩
  · have w6 : ¬ way < 6 := fun z => c (decide_eq_true z)
    have k0 : 0 < kk := by omega
    obtain ⟨j, rfl⟩ : ∃ j, kk = j + 1 := ⟨kk - 1, by omega⟩
    have cj := cost2 j
    have ec : cost (j + 1) = 2 + 3 * cost j := rfl
    rw [ec] at ht hc k
    have ej : (((j + 1 : Nat) : Int) - 1) = (j : Int) := by omega
    walk_at "rd"
    refine ⟨p, q, ns, t1, r1, 4, rfl, pen1, by decide, by decide, by omega, fun x t2 r2 H2 x0 x1 t12 t13 r20 sm2 hp2 => ?_⟩
    have pen2 := pen1.of sm2 hp2 (by omega) (by omega) r20
    have hpn : H2 p ≠ none := by rw [hp2]; exact fun z => nomatch z
    refine ⟨x, rfl, by omega, by omega, fun D hD => lc_range (n := x.toNat) (fun i H3 => ∃ vs ds t3 r3, H3 D = some (.lst vs) ∧ vs.length = i ∧ Sm p H2 H3 ∧ Pen H3 p q ns t3 r3 ∧ t2 ≤ t3 ∧ t3 ≤ t2 + i * cost j ∧ DhAll (Ho (upd H2 D (.lst [])) H3) vs ds ∧ ∀ d ∈ ds, Dw j d) ?_ ?_ ?_⟩
    · refine ⟨[], [], t2, r2, upd_same, rfl, Sm.new .refl hD, pen2.same (same_new hD _), Int.le_refl _, ?_, .nil, fun _ z => nomatch z⟩
      show t2 ≤ t2 + ((0 : Nat) : Int) * cost j
      rw [Int.ofNat_zero, Int.zero_mul]
      omega
    · rintro i H3 hi ⟨vs, ds, t3, r3, hD3, hvl, sm3, pen3, t23, t24, hvs, hds⟩
      have mi : (i : Int) * cost j ≤ 2 * cost j := Int.mul_le_mul_of_nonneg_right (by omega) (by omega)
      refine ⟨rfl, ?_⟩
      refine ⟨_, rfl, _, rfl, _, _, rfl, rfl, ?_⟩
      refine ⟨p, q, ns, t3, r3, j, by show [V.ref p, V.int (((j + 1 : Nat) : Int) - 1)] = [V.ref p, V.int (j : Int)]; rw [ej], pen3, by omega, by omega, fun v d H4 t4 r4 sm4 pen4 t34 t35 hv hdw => ?_⟩
      have npD : D ≠ p := fun z => by rw [z] at hD; exact hpn hD
      have h4D := sm4 _ _ npD hD3
      refine ⟨vs, h4D, by rw [hvl]; exact Nat.lt_of_lt_of_le hi (Nat.le_trans (show x.toNat ≤ 4 by omega) (by decide)), vs ++ [v], ds ++ [d], t4, r4, upd_same, by rw [List.length_append, hvl]; rfl, ?_, ?_, by omega, ?_, ?_, ?_⟩
      · exact fun b o nb hb => by rw [upd_ne (ne_of_none hb hD)]; exact sm4 _ _ nb (sm3 _ _ nb hb)
      · exact ⟨by rw [upd_ne npD.symm]; exact pen4.at_, by rw [upd_ne (ne_of_none pen2.cells hD)]; exact pen4.cells, pen4.few, pen4.t0, pen4.t1, pen4.r0⟩
      · have e1 : ((i + 1 : Nat) : Int) * cost j = (i : Int) * cost j + cost j := by
          rw [Int.natCast_add, Int.add_mul]
          show _ + ((1 : Nat) : Int) * _ = _
          rw [Int.natCast_one, Int.one_mul]
        rw [e1]
        omega
      · rw [ho_upd (by rw [upd_same]; exact fun z => nomatch z)]
        have hp4 : H4 p ≠ none := by rw [pen4.at_]; exact fun z => nomatch z
        have hp3 : H3 p ≠ none := by rw [pen3.at_]; exact fun z => nomatch z
        have k1 : ∀ b, H3 b = none → upd H2 D (.lst []) b = none := fun b hb => by
          have n1 : b ≠ D := fun z => by rw [z, hD3] at hb; cases hb
          rw [upd_ne n1]
          exact sm_none sm3 hp3 b hb
        refine DhAll.snoc (Dh.same (ho_from k1) _ _ hv) (DhAll.same (ho_to fun b o h1 h2 => ?_) _ _ hvs)
        refine sm4 b o (fun z => ?_) h2
        rw [z, upd_ne npD.symm] at h1
        exact hpn h1
      · intro d' hd'
        rcases List.mem_append.mp hd' with z | z
        · exact hds d' z
        · rw [List.mem_singleton.mp z]
          exact hdw
    · rintro H3 ⟨vs, ds, t3, r3, hD3, hvl, sm3, pen3, t23, t24, hvs, hds⟩
      have mi : (x.toNat : Int) * cost j ≤ 3 * cost j := Int.mul_le_mul_of_nonneg_right (by omega) (by omega)
      have hlen := hvs.len
      have hp3 : H3 p ≠ none := by rw [pen3.at_]; exact fun z => nomatch z
      have hp1' : H2 p ≠ none := hpn
      have k2 : ∀ b, upd H2 D (.lst []) b = none → H b = none := fun b hb => by
        have n1 : b ≠ D := fun z => by rw [z, upd_same] at hb; cases hb
        rw [upd_ne n1] at hb
        exact sm_none (sm1.trans sm2) hpn b hb
      have hv3 : DhAll (Ho H H3) vs ds := DhAll.same (ho_from k2) _ _ hvs
      have nD : H D = none := sm_none (sm1.trans sm2) hpn D hD
      have sm03 := (sm1.trans sm2).trans sm3
      walk_at "rd"
      have l3 : vs.length ≤ 3 := by omega
      refine ite2 (fun _ => ?_) (fun _ => ?_)
      · exact ⟨_, rfl, k (.ref D) (.list ds) H3 t3 r3 sm03 pen3 (by omega) (by omega) (.lst (by rw [ho_new nD]; exact hD3) (by omega) hv3) (.lst (by omega) hds)⟩
      · walk_at "rd"
        refine ⟨D, vs, rfl, .inl ⟨.inl (.inl hD3), fun l hl => ?_⟩⟩
        have s5 : Same H3 (upd H3 l (.tup vs)) := same_new hl _
        have nl : H l = none := sm_none sm03 hp3 l hl
        exact k (.ref l) (.tuple ds) _ t3 r3 (sm03.trans (Same.sm s5)) (pen3.same s5) (by omega) (by omega) (.tup (by rw [ho_new nl, upd_same]) (by omega) (DhAll.same (ho_to fun b o _ h2 => s5 _ _ h2) _ _ hv3)) (.tup (by omega) hds)
theorem val_none : FnOk P w K mg base CX0 1 f fd ["pen", "deep"] (spVal 0) := by
  have no : ∀ vs H Q E, ¬ spVal 0 vs H Q E := fun vs H Q E h => by
    obtain ⟨p, q, ns, t, r, k, _, _, h1, _⟩ := h
    exact absurd h1 (Nat.not_lt_zero _)
  exact ⟨fun vs H Q E h => absurd h (no vs H Q E), fun A outer s H args us vs Q E _ _ _ _ h => absurd h (no vs H Q E)⟩
theorem ok_value (F : FnP K "_law_value" sValue f fd) (bG : Binds K fd ["pen", "deep"] []) (mG : mg "_law_value" = some (.ref f)) (T : TxtV K mg)
    (FD : FnP K "_law_draw" sDraw fD fdD) (GD : FnOk P w K mg base CX0 1 fD fdD ["pen", "many"] spDraw) (bD : Binds K fdD ["pen", "many"] []) (mD : mg "_law_draw" = some (.ref fD)) : ∀ n, FnOk P w K mg base CX0 (n + 1) f fd ["pen", "deep"] (spVal n)
  | 0 => val_none
  | n + 1 => ok_value1 F (ok_value F bG mG T FD GD bD mD n) bG mG T FD GD bD mD
end
end My

set_option maxHeartbeats 4000000
/-! an own exception class's call with keywords; its __init__ that says super().__init__('..') and stores its parameters -/
namespace PySem
namespace MyX
open Builtin Builtin.ObjectAttr PySem.HandSPX
section
variable {M : Model} {A : Around} {E : Value → Shared → Prop} {h : Heap} {g : Array GenState} {d : Drawn} {t : Nat} {os : OsState}
variable {nm q : Str} {C N : Addr} {bs bm bmB : List Value} {hdct : Bool} {sn : List Str} {sub : List Value} {ab : Bool} {col : Option Bool} {dd : Option Addr} {k0 k1 k2 k3 k5 : Option Value} {B newId initId : String}
theorem check_new_kw (F : ExcBaseFacts B newId initId bmB) (hT : ∀ X : String, bm.contains (.type X) = bmB.contains (.type X)) {rest : List Value} {kw : List (Str × Value)} {Q : Unit → Shared → Prop}
    (hC : h.get? C = some (excClassObj nm q C N bs bm hdct sn sub ab col dd k0 k1 k2 k3 k5 newId)) (hq : Q () ⟨h, g, d, t, os⟩) : wpAny M A (checkBuiltinCall newId ⟨.ref C :: rest, kw⟩) Q E ⟨h, g, d, t, os⟩ := by
  have hcont : (Value.ref C :: bm).contains (.type B) = true := by rw [List.contains_cons, hT, F.hasB, Bool.or_true]
  have hstar := F.noStar
  simp only [checkBuiltinCall, F.newKind, F.newSplit, F.newRow]
  repeat (first | refine wpAny_loadPart_at hC ?_ | (refine wpAny_isSubtype_exc hC ?_; rw [hcont]) | refine wpAny_staticBase_exc hC ?_ | refine wpAny_madeBy_exc hC ?_ | simp only [bne_self_eq_false, Bool.false_eq_true, if_false] | wp_step)
  exact hq
theorem check_tc_kw {rest : List Value} {kw : List (Str × Value)} {Q : Unit → Shared → Prop} (hC : h.get? C = some (excClassObj nm q C N bs bm hdct sn sub ab col dd k0 k1 k2 k3 k5 newId))
    (hq : Q () ⟨h, g, d, t, os⟩) : wpAny M A (checkBuiltinCall "type.__call__" ⟨.ref C :: rest, kw⟩) Q E ⟨h, g, d, t, os⟩ := by
  have f3 := tc_sub
  have hT : (⟨h, g, d, t, os⟩ : Shared).TypeIs (.ref C) "type" := ⟨_, hC, rfl⟩
  simp only [checkBuiltinCall, tc_kind, tc_split]
  repeat (any_goals (first | assumption | with_reducible refine wpAny_loadPart_at hC ?_ | with_reducible refine wpAny_onRaise ?_ | with_reducible refine wpAny_map ?_ | wp_step))
end
section
variable {prog : Program} {w : World} {A : Around} {E : Value → Shared → Prop} {R : Result → Shared → Prop} {h : Heap} {g : Array GenState} {d : Drawn} {t : Nat} {os : OsState}
variable {nm q : Str} {C N : Addr} {bs bm bmB : List Value} {hdct : Bool} {sn : List Str} {sub : List Value} {ab : Bool} {col : Option Bool} {dd : Option Addr} {k0 k1 k2 k3 k5 : Option Value} {B newId initId : String}
theorem new_kw (F : ExcBaseFacts B newId initId bmB) (hT : ∀ X : String, bm.contains (.type X) = bmB.contains (.type X)) {rest : List Value} {kw : List (Str × Value)}
    (hC : h.get? C = some (excClassObj nm q C N bs bm hdct sn sub ab col dd k0 k1 k2 k3 k5 newId))
    (hq : R (.ok (.ret (.ref (h.objs.size + 1)))) ⟨(h.push { cls := .type "tuple", data := .seq rest.toArray }).push
      { cls := .ref C, data := .fields #[.ref h.objs.size, .none, .none, .none, .bool false, .none] }, g, d, t, os⟩) (hrest : rest.length ≤ sizeLine) :
    codeAny (model prog w) A (.builtin newId ⟨.ref C :: rest, kw⟩) R ⟨h, g, d, t, os⟩ := by
  have hends := F.ends
  have hcB : (Value.ref C :: bm).contains (.type B) = true := by rw [List.contains_cons, hT, F.hasB, Bool.or_true]
  have hcA : (Value.ref C :: bm).contains (.type "AttributeError") = false := by rw [List.contains_cons, hT, F.noAttr]; rfl
  have hcN : (Value.ref C :: bm).contains (.type "NameError") = false := by rw [List.contains_cons, hT, F.noName]; rfl
  refine codeAny_builtinAt F.entry ?_
  unfold Builtin.«BaseException.__new__»
  refine wpAt_bind ?_
  show wpAt _ _ _ (stack >>= _) _ _ _
  refine wpAt_bind (wpAt_stack fun p below => wpAt_of_wpAny ?_)
  wp_walk
  refine wpAt_of_wpAny ?_
  rw [F.owner]
  repeat (first | with_reducible refine wpAny_madeHere_exc F.canon hC ?_ | with_reducible refine wpAny_loadPart_at hC ?_ | (with_reducible refine wpAny_isSubtype_exc hC ?_; first | rw [hcB] | rw [hcA] | rw [hcN]) | wp_step)
  show R _ _
  rw [Heap.size_push]
  exact hq
theorem type_call_kw (F : ExcBaseFacts B newId initId bmB) (hT : ∀ X : String, bm.contains (.type X) = bmB.contains (.type X)) {rest : List Value} {kw : List (Str × Value)} {fI : Addr} {Q : Fin → Shared → Prop}
    (hC : h.get? C = some (excClassObj nm q C N bs bm hdct sn sub ab col dd k0 k1 k2 k3 k5 newId))
    (hi : W.Looks (model prog w) h (typeLookup (.ref C) "__init__") (some (.ref fI))) (hb : ∀ self, W.Looks (model prog w) h (bindSpecial (.ref fI) self) (.ref fI, [self])) (hrest : rest.length ≤ sizeLine)
    (hq : codeAny (model prog w) A (.call (.ref fI) ⟨.ref (h.objs.size + 1) :: rest, kw⟩)
      (fun r s' => match r with | .ok (.ret v) => v = .none ∧ Q (.done (.ret (.ref (h.objs.size + 1)))) s' | .ok _ => False | .error e => E e s')
      ⟨(h.push (W.kdv_tup rest)).push (excO C h.objs.size), g, d, t, os⟩) :
    wpAny (model prog w) A (Builtin.«type.__call__» ⟨.ref C :: rest, kw⟩) Q E ⟨h, g, d, t, os⟩ := by
  repeat (first | with_reducible refine wpAny_loadPart_at hC ?_ | with_reducible refine wpAny_madeBy_exc hC ?_ | wp_step)
  refine codeAny_call_builtin_code (Code.quiet_builtin _ F.quiet) (check_new_kw F hT hC ?_)
  refine new_kw F hT hC ?_ hrest
  show wpAny _ _ _ _ _ _
  have k : ∀ b o, h.get? b = some o → ((h.push (W.kdv_tup rest)).push (excO C h.objs.size)).get? b = some o := fun b o e => Heap.get?_push_of_some _ (Heap.get?_push_of_some _ e)
  have hC₁ := k _ _ hC
  have hget : ((h.push (W.kdv_tup rest)).push (excO C h.objs.size)).get? (h.objs.size + 1) = some (excO C h.objs.size) := by heap_get
  have hcC : (Value.ref C :: bm).contains (.ref C) = true := by simp
  have i1 := hi.keeps k
  have b1 := (hb (.ref (h.objs.size + 1))).keeps k
  unfold isInstance
  repeat (first | with_reducible refine wpAny_loadPart_at hget ?_ | (with_reducible refine wpAny_isSubtype_exc hC₁ ?_; rw [hcC]) | wp_step)
  show wpAny _ _ (typeLookup (.ref C) _) _ _ _
  refine i1.at ?_
  refine wpAny_holding (wpAny_bind (b1.at ?_))
  refine wpAny_bind (wpAny_call (codeAny_mono hq fun r s' z => ?_))
  rcases r with e | (v | _ | _ | _) <;> first | exact z | exact z.elim | skip
  obtain ⟨rfl, z⟩ := z
  first
    | exact wpAny_pure (wpAny_pure z)
    | (wp_walk; exact z)
theorem call_kw (F : ExcBaseFacts B newId initId bmB) (hT : ∀ X : String, bm.contains (.type X) = bmB.contains (.type X)) {rest : List Value} {kw : List (Str × Value)} {fI : Addr}
    (hC : h.get? C = some (excClassObj nm q C N bs bm hdct sn sub ab col dd k0 k1 k2 k3 k5 newId))
    (hi : W.Looks (model prog w) h (typeLookup (.ref C) "__init__") (some (.ref fI))) (hb : ∀ self, W.Looks (model prog w) h (bindSpecial (.ref fI) self) (.ref fI, [self])) (hrest : rest.length ≤ sizeLine)
    (hq : codeAny (model prog w) (A.under (.builtin "type.__call__" ⟨.ref C :: rest, kw⟩)) (.call (.ref fI) ⟨.ref (h.objs.size + 1) :: rest, kw⟩) (W.InitBack (h.objs.size + 1) R)
      ⟨(h.push (W.kdv_tup rest)).push (excO C h.objs.size), g, d, t, os⟩) :
    codeAny (model prog w) A (.call (.ref C) ⟨rest, kw⟩) R ⟨h, g, d, t, os⟩ := by
  have f1 := tc_lookup
  have f2 := tc_bind (.ref C)
  have hTy : (⟨h, g, d, t, os⟩ : Shared).TypeIs (.ref C) "type" := ⟨_, hC, rfl⟩
  refine codeAny_of_tree ?_
  show wpAny _ _ (callAny (.ref C) _) _ _ _
  repeat (any_goals (first | assumption | with_reducible refine wpAny_loadPart_at hC ?_ | wp_step))
  refine ⟨rfl, ?_⟩
  refine codeAny_call_builtin_at (Code.quiet_builtin _ (by decide +kernel)) entry_typeCall (check_tc_kw hC (type_call_kw F hT hC hi hb hrest ?_))
  refine codeAny_mono hq fun r s' z => ?_
  rcases r with e | (v | _ | _ | _) <;> exact z
end
end MyX
end PySem

set_option maxHeartbeats 4000000
/-! an own exception class over another one over ValueError; __init__ says super().__init__('..') and stores its parameters -/
namespace PySem
namespace MyX
open PySem.W PySem.Calls PyProof.Rows PySem.HandSPX
abbrev supEnv (qual : Str) (scope : Scope) (L f : Addr) (cd : Value) (cc : Addr) : Env := ksEnv qual scope L f cd cc
/-- what the written part says of the class at C, of its __init__ at f -/
structure ExI (prog : Program) (K : Frag) (C f : Addr) (name qual : Str) (params : Arguments) (body : List Stmt) (scope : Scope) (fd : FuncData) : Prop where
  oc : L2.OexC K C
  iC : findIn K (.ref C) "__init__" = some (some (.ref f))
  tI : typeIn K (.ref f) = some (.type "function")
  su : ks_superIn K C C "__init__" = some (some (.builtin "ValueError.__init__"))
  ve : subIn K (.ref C) (.type "ValueError") = some true
  op : nsIn K cStatics "thirdparty.any" = some none
  ex : ∃ (oc : Value) (od : Option Addr) (dV kV doc pm : Value) (an : Option Addr) (cda : Addr) (ct : Value) (osl : Array (Option Value)) (cc : Addr) (ccl : Value) (cdd : Option Addr) (vs : Array Value) (ccs : Array (Option Value)) (file : Str) (tf : Tok) (cl : Value) (cld : Option Addr) (csl : Array (Option Value)),
    fd = ksFn name qual params body scope dV kV doc pm an (.ref cda) ct cc ∧ K.lookup f = some ⟨oc, od, .func fd, osl⟩ ∧ codeIn K (.ref cda) qual = true ∧
    K.lookup cda = some ⟨ccl, cdd, .fields vs, ccs⟩ ∧ vs[2]? = some (.str file tf) ∧ ((prog.main.file : Str) == file) = true ∧ K.lookup cc = some ⟨cl, cld, .cell (some (.ref C)), csl⟩ ∧ dV = .none
section
variable {prog : Program} {w : World} {A : Around} {E : Value → Shared → Prop} {h : Heap} {g : Array GenState} {d : Drawn} {t : Nat} {os : OsState}
theorem clsIn_of {K : Frag} {C : Addr} (T : L2.OexC K C) : ∃ cd, clsIn K C = some cd := by
  obtain ⟨nm, q, N, bs, bm, sn, sub, ab, col, dd, k0, k1, k2, k3, k5, hC, hbm⟩ := T.cls
  exact ⟨_, by unfold clsIn; rw [hC] <;> rfl⟩
/-- super().__init__('..') in an exception's __init__ -/
theorem super_init {K : Frag} {C f e t0 L cda cc : Addr} {body : List Stmt} {qual lit : Str} {scope : Scope} {fd : FuncData} {mg mb m : Str → Option Value} {oc od osl ccl cdd vs ccs file tf cl cld csl} {ar : Arg} {p0 p1 p2 p3 p4 p5 : Pos} {kk : Nat} {Q : Flow → Shared → Prop}
    (T : L2.OexC K C) (su : ks_superIn K C C "__init__" = some (some (.builtin "ValueError.__init__"))) (ve : subIn K (.ref C) (.type "ValueError") = some true) (op : nsIn K cStatics "thirdparty.any" = some none)
    (X : K.In h) (hf : K.lookup f = some ⟨oc, od, .func fd, osl⟩) (hp : (fd.params.posonlyargs ++ fd.params.args).head? = some ar) (hcode : K.lookup cda = some ⟨ccl, cdd, .fields vs, ccs⟩) (hvs : vs[2]? = some (.str file tf)) (hfile : ((prog.main.file : Str) == file) = true)
    (hcell : K.lookup cc = some ⟨cl, cld, .cell (some (.ref C)), csl⟩) (G : h.Ns mainGlobals mg) (hsup : mg "super" = none) (GB : h.Ns builtinsNs mb) (hbs : mb "super" = some (.type "super")) (htop : (prog.main.scope.names.lookup ("super" : Str)).isSome = false)
    (hL : h.Ns L m) (hself : m ar.arg = some (.ref e)) (he : h.get? e = some (excO C t0))
    {pl : Sem Bool} (hev : eval (.Call (.Attribute (.Call (.Name "super" p0) [] [] p1) "__init__" p2) [.Constant (.str lit) kk p3] [] p4) (ksEnv qual scope L f (.ref cda) cc) = (do
      let ov ← attributeBase (.Call (.Name "super" p0) [] [] p1) "__init__" (ksEnv qual scope L f (.ref cda) cc) (eval (.Call (.Name "super" p0) [] [] p1) (ksEnv qual scope L f (.ref cda) cc))
      standAt p2.atName
      let (fx, first) ← holding [ov] (getMethod ov "__init__" pl)
      callWith p4 fx first (backTo p4 (starEach [.Constant (.str lit) kk p3] (ksEnv qual scope L f (.ref cda) cc))) []))
    (hint : interactive (ksEnv qual scope L f (.ref cda) cc) = false)
    (hsw : swapsWith (.Call (.Attribute (.Call (.Name "super" p0) [] [] p1) "__init__" p2) [.Constant (.str lit) kk p3] [] p4) none p5.line (ksEnv qual scope L f (.ref cda) cc) = pure false)
    (hks : scope.names.lookup ("super" : Str) = some .globalImplicit) (hkc : scope.names.lookup ("__class__" : Str) = some .free) (hka : scope.names.lookup ar.arg = some .local) (hk : scope.kind = .function)
    (hq : ∀ h' t1 tk, (∀ b o, b ≠ e → h.get? b = some o → h'.get? b = some o) → h'.get? e = some (excO C t1) → Q .next ⟨h', g, d, tk, os⟩) :
    wpAt (model prog w) A (.func body (ksEnv qual scope L f (.ref cda) cc)) (exec (.Expr (.Call (.Attribute (.Call (.Name "super" p0) [] [] p1) "__init__" p2) [.Constant (.str lit) kk p3] [] p4) p5) (ksEnv qual scope L f (.ref cda) cc)) Q E ⟨h, g, d, t, os⟩ := by
  obtain ⟨nm, q, N, bs, bm, sn, sub, ab, col, dd, k0, k1, k2, k3, k5, hC, hbm⟩ := T.cls
  have hCh := X _ _ hC
  have hcd : ∃ cd, clsIn K C = some cd := clsIn_of T
  obtain ⟨cd, hcd⟩ := hcd
  obtain ⟨oD, hD1, hD2⟩ : ∃ oD, h.get? C = some oD ∧ oD.data = .cls cd := by
    unfold clsIn at hcd
    split at hcd
    · rename_i c d' cd' sl ho
      cases hcd
      exact ⟨_, X _ _ ho, rfl⟩
    · cases hcd
  have I : InstAt h e (excO C t0) C none := ⟨he, rfl, rfl, trivial⟩
  have hsubC : Looks (model prog w) h (isSubtype (.ref C) (.ref C)) true := by
    refine looks_mroIn X ?_
    unfold mroIn clsIn
    rw [hC]
    show (if (Value.ref C :: bm).isEmpty = true then none else some ((Value.ref C :: bm).contains (.ref C))) = some true
    rw [if_neg (by simp)]
    simp
  refine ks_wpAt_Expr_any (ks_wpAt_MethodCall (pl := pl) ?_ hev) hint hsw
  refine ks_wpAt_super_base (env := ksEnv qual scope L f (.ref cda) cc) hks hkc (by decide) rfl (X _ _ hf) rfl hp rfl (X _ _ hcode) rfl hvs hfile htop ?_
  refine ks_loadName_global hk hks (loadGlobal_builtin (env := ksEnv qual scope L f (.ref cda) cc) G hsup GB hbs ⟨rfl, ?_⟩)
  refine wpAny_loadName_free hk hkc rfl ⟨_, X _ _ hcell, rfl⟩ ?_
  refine wpAny_loadName_local hk hka hL hself ?_
  refine ks_wpAny_isType_cls hD1 hD2 ⟨rfl, ?_⟩
  refine ks_wpAny_call_super hD1 hD2 he rfl (fun c z => by cases z) hsubC (fun h1 e1 k1 => ?_)
  have X1 : K.In h1 := fun a o z => k1 _ _ (X a o z)
  have he1 := k1 _ _ he
  have hC1 := X1 _ _ hC
  have I1 : InstAt h1 e (excO C t0) C none := ⟨he1, rfl, rfl, trivial⟩
  unfold ks_superIn at su
  rw [hcd] at su
  have hI : Looks (model prog w) h1 (isInstance (.ref e) (.type "ValueError")) true := I1.type.andThen (looks_subIn X1 ve)
  refine kxs_getMethod kxs_ValueError e1 (looks_opaque X1 op) (l₀ := cd.mro) (fun A Q E s k q => wpAny_bind ((looks_clsIn X1 hcd) A _ E s k (wpAny_pure q))) rfl X1 su hI (ks_ne X1 I1 hcd) (by decide) ?_
  have k2 : ∀ b o, h1.get? b = some o → (h1.push (kxs_mw "ValueError.__init__" e)).get? b = some o := fun b o z => Heap.get?_push_of_some _ z
  have hu : (h1.push (kxs_mw "ValueError.__init__" e)).get? h1.objs.size = some (kxs_mw "ValueError.__init__" e) := Heap.get?_push_at rfl rfl
  refine kxs_callWith1 (i := "ValueError.__init__") (x := e) (news := [(h1.objs.size, kxs_mw "ValueError.__init__" e)]) (L := h1.objs.size + 1) (h₀ := Att.noObjs h) ?n1 (by simp) ?n2 (by rfl) (by rfl)
  case n1 =>
    intro p hp
    cases List.mem_singleton.mp hp
    exact ⟨hu, Nat.ne_of_lt (Nat.lt_succ_self _), Att.noObjs_get _ _⟩
  show wpAny _ _ (spliced ((false, eval (.Constant (.str lit) kk p3) (ksEnv qual scope L f (.ref cda) cc)) :: backTo p4 (starEach [] (ksEnv qual scope L f (.ref cda) cc)))) _ _ _
  refine spliced_cons (Constant_str ?_)
  refine spliced_nil ⟨hu, ?_⟩
  have he2 := k2 _ _ he1
  have hC2 := k2 _ _ hC1
  refine wpAny_call (codeAny_of_tree ?_)
  show wpAny _ A.in1 (callAny (.ref h1.objs.size) ⟨[.str lit _], []⟩) _ _ _
  simp only [callAny]
  refine wpAny_bind (wpAny_load hu ?_)
  simp only [kxs_mw, show (Value.type "method-wrapper" == Value.type "method" || Value.type "method-wrapper" == Value.type "builtin_function_or_method" || Value.type "method-wrapper" == Value.type "method-wrapper") = true by decide, if_true]
  refine KFB.if_so (by decide) ?_
  refine wpAny_bind (check_bound_init F.excBase_ValueError.toExcCallFacts hC2 he2 rfl ?_)
  refine wpAny_bind (wpAny_pure (wpAny_pure ?_))
  refine ⟨plainId_quiet F.excBase_ValueError.init.plain _, codeAny_builtin F.excBase_ValueError.initEntry ?_⟩
  refine exc_init_tree (cls := .ref C) (t0 := t0) (dv := none) (c2 := .none) (c3 := .none) (b4 := .bool false) he2 (by show 1 ≤ sizeLine; decide) fun h3 k3 e3 _ => ?_
  exact hq h3 _ _ (fun b o nb z => k3 b o nb (k2 _ _ (k1 _ _ z))) e3
/-- the first store of a field: the exception gets its dict -/
theorem store_first {K : Frag} {C e t1 : Addr} {env : Env} {m : Str → Option Value} {fld x y : Str} {u : Value} {q0 q1 q2 q3 : Pos} {Q : Flow → Shared → Prop} (T : L2.OexC K C) (X : K.In h) (he : h.get? e = some (excO C t1))
    (hno : findIn K (.ref C) fld = some none) (hL : h.Ns env.locals m) (hself : m y = some (.ref e)) (hx : m x = some u) (hk : env.scope.kind = .function) (ky : env.kindOf y = some .local) (kx : env.kindOf x = some .local)
    (dy : (y == ("__debug__" : Str)) = false) (dx' : (x == ("__debug__" : Str)) = false)
    (hq : ∀ h' tk dx, (∀ b o, b ≠ e → h.get? b = some o → h'.get? b = some o) → h.objs.size ≤ dx → dx ≠ e → h'.get? e = some ({ cls := .ref C, dict := some dx, data := .fields #[.ref t1, .none, .none, .none, .bool false, .none] } : Obj) →
      h'.Ns1 dx (fun z => if z = fld then some u else none) → Q .next ⟨h', g, d, tk, os⟩)
    (hs : swapsWith (.Name x q2) (some (.Attribute (.Name y q0) fld q1)) q3.line env = pure false) :
    wpAny (model prog w) A (exec (.Assign [.Attribute (.Name y q0) fld q1] (.Name x q2) q3) env) Q E ⟨h, g, d, t, os⟩ := by
  obtain ⟨nm, q, N, bs, bm, sn, sub, ab, col, dd, k0, k1, k2, k3, k5, hC, hbm⟩ := T.cls
  have hcl : clsIn K C = some { name := nm, bases := bs, mro := .ref C :: bm, ns := N, qualname := q, hasDict := true, slotNames := sn, subclasses := sub, abstract := ab, collection := col, hasDel := false } := by unfold clsIn; rw [hC] <;> rfl
  refine plainObj_wpAny_Assign_Attribute ?_ hs
  refine wpAny_Name (wpAny_loadName_local hk kx hL hx ?_) dx'
  refine wpAny_Name (wpAny_loadName_local hk ky hL hself ?_) dy
  refine set_plain X (ox := { cls := .ref C, dict := none, data := .fields #[.ref t1, .none, .none, .none, .bool false, .none] }) (od := none) ⟨he, rfl, rfl, trivial⟩ T.sa ?_
  exact exc_osa X he hcl (show refsVE (.ref C :: bm) = true from hbm) rfl hno (fun h' tk' dx k dn dne hx' hn => hq h' _ dx k dn dne hx' hn)
/-- a further one -/
theorem store_more {K : Frag} {C e t1 dx : Addr} {env : Env} {m m0 : Str → Option Value} {nl : List Str} {fld x y : Str} {u : Value} {q0 q1 q2 q3 : Pos} {Q : Flow → Shared → Prop} (T : L2.OexC K C) (X : K.In h)
    (he : h.get? e = some ({ cls := .ref C, dict := some dx, data := .fields #[.ref t1, .none, .none, .none, .bool false, .none] } : Obj)) (hns : h.Ns1 dx m0) (hw : Within m0 nl) (hz : nl.length ≤ 1000)
    (hno : findIn K (.ref C) fld = some none) (hL : h.Ns env.locals m) (hself : m y = some (.ref e)) (hx : m x = some u) (hk : env.scope.kind = .function) (ky : env.kindOf y = some .local) (kx : env.kindOf x = some .local)
    (dy : (y == ("__debug__" : Str)) = false) (dx' : (x == ("__debug__" : Str)) = false)
    (hq : ∀ h' tk, (∀ b o, b ≠ dx → h.get? b = some o → h'.get? b = some o) → h'.Ns1 dx (fun z => if z = fld then some u else m0 z) → Q .next ⟨h', g, d, tk, os⟩)
    (hs : swapsWith (.Name x q2) (some (.Attribute (.Name y q0) fld q1)) q3.line env = pure false) :
    wpAny (model prog w) A (exec (.Assign [.Attribute (.Name y q0) fld q1] (.Name x q2) q3) env) Q E ⟨h, g, d, t, os⟩ := by
  obtain ⟨nm, q, N, bs, bm, sn, sub, ab, col, dd, k0, k1, k2, k3, k5, hC, hbm⟩ := T.cls
  have hcl : clsIn K C = some { name := nm, bases := bs, mro := .ref C :: bm, ns := N, qualname := q, hasDict := true, slotNames := sn, subclasses := sub, abstract := ab, collection := col, hasDel := false } := by unfold clsIn; rw [hC] <;> rfl
  obtain ⟨oD, _, _, hoD, _, _⟩ := hns.count hw
  refine plainObj_wpAny_Assign_Attribute ?_ hs
  refine wpAny_Name (wpAny_loadName_local hk kx hL hx ?_) dx'
  refine wpAny_Name (wpAny_loadName_local hk ky hL hself ?_) dy
  refine set_plain X (ox := { cls := .ref C, dict := some dx, data := .fields #[.ref t1, .none, .none, .none, .bool false, .none] }) (od := some oD) ⟨he, rfl, rfl, hoD⟩ T.sa ?_
  exact PySem.OEX.osa_old X he hns hw hz hcl (show refsVE (.ref C :: bm) = true from hbm) rfl hno (fun h' tk' k hn => hq h' _ k hn)
end
end MyX
end PySem

set_option maxHeartbeats 4000000
namespace PySem
namespace MyX
open PySem.W PySem.Calls PyProof.Rows PySem.HandSPX
abbrev supStmt (p0 p1 p2 p3 p4 p5 : Pos) (lit : Str) (kk : Nat) : Stmt := .Expr (.Call (.Attribute (.Call (.Name "super" p0) [] [] p1) "__init__" p2) [.Constant (.str lit) kk p3] [] p4) p5
abbrev stoStmt (q0 q1 q2 q3 : Pos) (fld x : Str) : Stmt := .Assign [.Attribute (.Name "self" q0) fld q1] (.Name x q2) q3
/-- what the text gives by rfl -/
structure SupB (qual : Str) (scope : Scope) (p0 p1 p2 p3 p4 p5 : Pos) (lit : Str) (kk : Nat) : Prop where
  hev : ∀ (L f : Addr) (cd : Value) (cc : Addr), ∃ pl : Sem Bool, eval (.Call (.Attribute (.Call (.Name "super" p0) [] [] p1) "__init__" p2) [.Constant (.str lit) kk p3] [] p4) (ksEnv qual scope L f cd cc) = (do
      let ov ← attributeBase (.Call (.Name "super" p0) [] [] p1) "__init__" (ksEnv qual scope L f cd cc) (eval (.Call (.Name "super" p0) [] [] p1) (ksEnv qual scope L f cd cc))
      standAt p2.atName
      let (fx, first) ← holding [ov] (getMethod ov "__init__" pl)
      callWith p4 fx first (backTo p4 (starEach [.Constant (.str lit) kk p3] (ksEnv qual scope L f cd cc))) [])
  hint : ∀ (L f : Addr) (cd : Value) (cc : Addr), interactive (ksEnv qual scope L f cd cc) = false
  hsw : ∀ (L f : Addr) (cd : Value) (cc : Addr), swapsWith (.Call (.Attribute (.Call (.Name "super" p0) [] [] p1) "__init__" p2) [.Constant (.str lit) kk p3] [] p4) none p5.line (ksEnv qual scope L f cd cc) = pure false
  hks : scope.names.lookup ("super" : Str) = some .globalImplicit
  hkc : scope.names.lookup ("__class__" : Str) = some .free
  hka : scope.names.lookup ("self" : Str) = some .local
  hk : scope.kind = .function
  hcell : ∀ x ∈ scope.names, x.2 ≠ .cell
  hco : scope.isCoroutine = false
  hgen : scope.isGenerator = false
structure StoB (qual : Str) (scope : Scope) (q0 q1 q2 q3 : Pos) (fld x : Str) : Prop where
  kx : scope.names.lookup x = some .local
  dx : (x == ("__debug__" : Str)) = false
  ne : x ≠ "self"
  hs : ∀ (L f : Addr) (cd : Value) (cc : Addr), swapsWith (.Name x q2) (some (.Attribute (.Name "self" q0) fld q1)) q3.line (ksEnv qual scope L f cd cc) = pure false
section
variable {prog : Program} {w : World} {A : Around} {R : Result → Shared → Prop} {s : Shared} {K : Frag} {C f e t0 : Addr} {name qual lit fld x fld2 x2 : Str} {params : Arguments} {scope : Scope} {fd : FuncData} {args : Args} {u u2 : Value} {mg : Str → Option Value} {base : Heap}
  {p0 p1 p2 p3 p4 p5 q0 q1 q2 q3 r0 r1 r2 r3 : Pos} {kk : Nat} {ar : Arg}
abbrev excD (C dx t1 : Addr) : Obj := { cls := .ref C, dict := some dx, data := .fields #[.ref t1, .none, .none, .none, .bool false, .none] }
/-- __init__(self, x): super().__init__('..'); self.fld = x -/
theorem init1 {binds : List (Str × Value)} (D : ExI prog K C f name qual params [supStmt p0 p1 p2 p3 p4 p5 lit kk, stoStmt q0 q1 q2 q3 fld x] scope fd) (B : SupB qual scope p0 p1 p2 p3 p4 p5 lit kk) (S1 : StoB qual scope q0 q1 q2 q3 fld x)
    (har : (params.posonlyargs ++ params.args).head? = some ar) (hself : ar.arg = "self") (htop : (prog.main.scope.names.lookup ("super" : Str)).isSome = false) (n1 : findIn K (.ref C) fld = some none)
    (M : L2.Mod K mg base) (hsup : mg "super" = none) (bk : ∀ b o, base.get? b = some o → s.heap.get? b = some o) (hbe : base.get? e = none) (hroom : A.depth < recursionLimit) (hb : BindsTo s fd args binds) (hloc : ∀ y ∈ binds, scope.names.lookup y.1 = some .local)
    (ms : binds.reverse.lookup ("self" : Str) = some (.ref e)) (mx : binds.reverse.lookup x = some u) (he : s.heap.get? e = some (excO C t0))
    (hq : ∀ h' tk dx t1, (∀ b o, b ≠ e → s.heap.get? b = some o → h'.get? b = some o) → s.heap.objs.size ≤ dx → dx ≠ e → h'.get? e = some (excD C dx t1) → h'.Ns1 dx (fun z => if z = fld then some u else none) → R (.ok (.ret .none)) { s with heap := h', toks := tk }) :
    codeAny (model prog w) A (.call (.ref f) args) R s := by
  obtain ⟨T, iC, tI, su, ve, op, oc, od, dV, kV, doc, pm, an, cda, ct, osl, cc, ccl, cdd, vs, ccs, file, tf, cl, cld, csl, rfl, lk, hcd, hcode, hvs, hfile, hcell, hdV⟩ := D
  have X : K.In s.heap := M.kin.keeps bk
  obtain ⟨mb, hb1, hb2⟩ := M.blt
  refine ks_codeAny_call_defAt (body := [supStmt p0 p1 p2 p3 p4 p5 lit kk, stoStmt q0 q1 q2 q3 fld x]) (binds := binds) hroom (X _ _ lk) rfl (M.nolimit.keeps bk) (codeRec_of X hcd) rfl hb B.hcell hloc (fun h0 hns k0 => ?_) B.hco B.hgen B.hk
  have X0 : K.In h0 := fun a o z => k0 _ _ (X a o z)
  obtain ⟨pl, hev⟩ := B.hev s.heap.objs.size f (.ref cda) cc
  obtain ⟨hh, g, d, tk0, os⟩ := s
  have neL : ∀ {b o}, hh.get? b = some o → b ≠ hh.objs.size := fun z => Nat.ne_of_lt (Heap.lt_size z)
  refine ks_wpAt_execs_cons ?_
  refine super_init (ar := ar) (L := hh.objs.size) T su ve op X0 lk har hcode hvs hfile hcell (M.glob.keeps fun b o z => k0 _ _ (bk b o z)) hsup (hb1.keeps fun b o z => k0 _ _ (bk b o z)) ((hb2 _ (by decide)).trans (by decide +kernel)) htop hns (by rw [hself]; exact ms) (k0 _ _ he)
    (pl := pl) hev (B.hint _ f (.ref cda) cc) (B.hsw _ f (.ref cda) cc) B.hks B.hkc (by rw [hself]; exact B.hka) B.hk (fun h1 t1 tk k1 e1 => ?_)
  refine wpAt_of_wpAny ?_
  have X1 : K.In h1 := fun a o z => k1 _ _ (fun q => by
    have y := M.kin _ _ z
    rw [q, hbe] at y
    cases y) (X0 _ _ z)
  have hns1 : h1.Ns hh.objs.size (fun y => binds.reverse.lookup y) := by
    obtain ⟨o, es, ep, ho, hr⟩ := hns
    exact ⟨o, es, ep, k1 _ _ (neL he).symm ho, hr⟩
  refine wpAny_execs_cons (store_first (y := "self") T X1 e1 n1 hns1 ms mx B.hk B.hka S1.kx (by decide) S1.dx (fun h2 tk2 dx k2 dn dne e2 n2 => ?_) (S1.hs _ f (.ref cda) cc))
  refine wpAny_execs_nil ?_
  refine hq h2 tk2 dx t1 (fun b o nb z => k2 b o nb (k1 b o nb (k0 b o z))) ?_ dne e2 n2
  exact Nat.le_trans (Nat.le_of_lt hns1.lt) dn
/-- two fields -/
theorem init2 {binds : List (Str × Value)} (D : ExI prog K C f name qual params [supStmt p0 p1 p2 p3 p4 p5 lit kk, stoStmt q0 q1 q2 q3 fld x, stoStmt r0 r1 r2 r3 fld2 x2] scope fd) (B : SupB qual scope p0 p1 p2 p3 p4 p5 lit kk) (S1 : StoB qual scope q0 q1 q2 q3 fld x) (S2 : StoB qual scope r0 r1 r2 r3 fld2 x2)
    (har : (params.posonlyargs ++ params.args).head? = some ar) (hself : ar.arg = "self") (htop : (prog.main.scope.names.lookup ("super" : Str)).isSome = false) (n1 : findIn K (.ref C) fld = some none) (n2 : findIn K (.ref C) fld2 = some none)
    (M : L2.Mod K mg base) (hsup : mg "super" = none) (bk : ∀ b o, base.get? b = some o → s.heap.get? b = some o) (hbe : base.get? e = none) (hroom : A.depth < recursionLimit) (hb : BindsTo s fd args binds) (hloc : ∀ y ∈ binds, scope.names.lookup y.1 = some .local)
    (ms : binds.reverse.lookup ("self" : Str) = some (.ref e)) (mx : binds.reverse.lookup x = some u) (mx2 : binds.reverse.lookup x2 = some u2) (he : s.heap.get? e = some (excO C t0))
    (hq : ∀ h' tk dx t1, (∀ b o, b ≠ e → s.heap.get? b = some o → h'.get? b = some o) → s.heap.objs.size ≤ dx → dx ≠ e → h'.get? e = some (excD C dx t1) → h'.Ns1 dx (fun z => if z = fld2 then some u2 else if z = fld then some u else none) → R (.ok (.ret .none)) { s with heap := h', toks := tk }) :
    codeAny (model prog w) A (.call (.ref f) args) R s := by
  obtain ⟨T, iC, tI, su, ve, op, oc, od, dV, kV, doc, pm, an, cda, ct, osl, cc, ccl, cdd, vs, ccs, file, tf, cl, cld, csl, rfl, lk, hcd, hcode, hvs, hfile, hcell, hdV⟩ := D
  have X : K.In s.heap := M.kin.keeps bk
  obtain ⟨mb, hb1, hb2⟩ := M.blt
  refine ks_codeAny_call_defAt (body := [supStmt p0 p1 p2 p3 p4 p5 lit kk, stoStmt q0 q1 q2 q3 fld x, stoStmt r0 r1 r2 r3 fld2 x2]) (binds := binds) hroom (X _ _ lk) rfl (M.nolimit.keeps bk) (codeRec_of X hcd) rfl hb B.hcell hloc (fun h0 hns k0 => ?_) B.hco B.hgen B.hk
  have X0 : K.In h0 := fun a o z => k0 _ _ (X a o z)
  obtain ⟨pl, hev⟩ := B.hev s.heap.objs.size f (.ref cda) cc
  obtain ⟨hh, g, d, tk0, os⟩ := s
  have neL : ∀ {b o}, hh.get? b = some o → b ≠ hh.objs.size := fun z => Nat.ne_of_lt (Heap.lt_size z)
  refine ks_wpAt_execs_cons ?_
  refine super_init (ar := ar) (L := hh.objs.size) T su ve op X0 lk har hcode hvs hfile hcell (M.glob.keeps fun b o z => k0 _ _ (bk b o z)) hsup (hb1.keeps fun b o z => k0 _ _ (bk b o z)) ((hb2 _ (by decide)).trans (by decide +kernel)) htop hns (by rw [hself]; exact ms) (k0 _ _ he)
    (pl := pl) hev (B.hint _ f (.ref cda) cc) (B.hsw _ f (.ref cda) cc) B.hks B.hkc (by rw [hself]; exact B.hka) B.hk (fun h1 t1 tk k1 e1 => ?_)
  refine wpAt_of_wpAny ?_
  have neK : ∀ {a o}, K.lookup a = some o → a ≠ e := fun z q => by
    have y := M.kin _ _ z
    rw [q, hbe] at y
    cases y
  have X1 : K.In h1 := fun a o z => k1 _ _ (neK z) (X0 _ _ z)
  have hns1 : h1.Ns hh.objs.size (fun y => binds.reverse.lookup y) := by
    obtain ⟨o, es, ep, ho, hr⟩ := hns
    exact ⟨o, es, ep, k1 _ _ (neL he).symm ho, hr⟩
  refine wpAny_execs_cons (store_first (y := "self") T X1 e1 n1 hns1 ms mx B.hk B.hka S1.kx (by decide) S1.dx (fun h2 tk2 dx k2 dn dne e2 m2 => ?_) (S1.hs _ f (.ref cda) cc))
  have X2 : K.In h2 := fun a o z => k2 _ _ (neK z) (X1 _ _ z)
  have hns2 : h2.Ns hh.objs.size (fun y => binds.reverse.lookup y) := by
    obtain ⟨o, es, ep, ho, hr⟩ := hns1
    exact ⟨o, es, ep, k2 _ _ (neL he).symm ho, hr⟩
  have dn0 : hh.objs.size < dx := Nat.lt_of_lt_of_le hns1.lt dn
  refine wpAny_execs_cons (store_more (y := "self") (nl := [fld]) T X2 e2 m2 (fun z hz => ?_) (by show 1 ≤ 1000; decide) n2 hns2 ms mx2 B.hk B.hka S2.kx (by decide) S2.dx (fun h3 tk3 k3 m3 => ?_) (S2.hs _ f (.ref cda) cc))
  · by_cases q : z = fld
    · rw [q]
      exact List.mem_singleton_self _
    · exact absurd (if_neg q) hz
  refine wpAny_execs_nil ?_
  exact hq h3 tk3 dx t1 (fun b o nb z => k3 b o (Nat.ne_of_lt (Nat.lt_trans (Heap.lt_size z) dn0)) (k2 b o nb (k1 b o nb (k0 b o z)))) (Nat.le_of_lt dn0) dne (k3 e _ dne.symm e2) m3
end
end MyX
end PySem

set_option maxHeartbeats 4000000
namespace My
open PySem PySem.Spec PyProof.Rows L2 PySem.MyX
section
variable {X : Cx} {pins : List (Addr × Obj)} {σ : L2.St} {H : Hp} {s : Shared} {C f e t0 : Addr} {us : List Value} {kw : List (Str × Value)} {Q : VK} {fs : List (Str × V)} {mA : Str → Option Value}
/-- what the walked __init__ gives -/
def InitP (X : Cx) (C f : Addr) (us : List Value) (kw : List (Str × Value)) (mA : Str → Option Value) : Prop :=
  ∀ (s : Shared) (e t0 : Addr) (R : Result → Shared → Prop) (A : Around), A.depth < recursionLimit → (∀ b o, X.base.get? b = some o → s.heap.get? b = some o) → X.base.get? e = none → s.heap.get? e = some (PySem.HandSPX.excO C t0) →
    (∀ h' tk dx t1, (∀ b o, b ≠ e → s.heap.get? b = some o → h'.get? b = some o) → s.heap.objs.size ≤ dx → dx ≠ e → h'.get? e = some (excD C dx t1) → h'.Ns1 dx mA → R (.ok (.ret .none)) { s with heap := h', toks := tk }) →
    codeAny (model X.prog X.w) A (.call (.ref f) ⟨.ref e :: us, kw⟩) R s
theorem made_core (T : OexC X.K C) (iC : PySem.W.findIn X.K (.ref C) "__init__" = some (some (.ref f))) (tI : PySem.W.typeIn X.K (.ref f) = some (.type "function")) (hr : Room 1 X.A) (I : Inv X pins σ H s) (hus : us.length ≤ sizeLine)
    (init : InitP X C f us kw mA) (rel : ∀ z, RelO (fs.lookup z) (mA z))
    (h : ∀ e dx, H e = none → H dx = none → dx ≠ e → Q (.ref e) (upd (upd H dx (exd dx fs)) e (exo e C (some dx)))) :
    wpAny (model X.prog X.w) X.A (call (.ref C) us kw) (EP X pins σ Q) X.xe s := by
  obtain ⟨nm, q, N, bs, bm, sn, sub, ab, col, dd, k0, k1, k2, k3, k5, hC, hbm⟩ := T.cls
  have hK := I.kIn
  have hbk := I.bk
  obtain ⟨hp, g, dr, tk, os⟩ := s
  have kk : ∀ b o, hp.get? b = some o → ((hp.push (PySem.W.kdv_tup us)).push (PySem.HandSPX.excO C hp.objs.size)).get? b = some o := fun b o e => Heap.get?_push_of_some _ (Heap.get?_push_of_some _ e)
  have hget : ((hp.push (PySem.W.kdv_tup us)).push (PySem.HandSPX.excO C hp.objs.size)).get? (hp.objs.size + 1) = some (PySem.HandSPX.excO C hp.objs.size) := by heap_get
  have hbe : X.base.get? (hp.objs.size + 1) = none := by
    cases q : X.base.get? (hp.objs.size + 1) with
    | none => rfl
    | some o => exact absurd (Heap.lt_size (hbk _ _ q)) (by show ¬ hp.objs.size + 1 < hp.objs.size; omega)
  refine wpAny_call (PySem.MyX.call_kw F.excBase_ValueError (fun Y => PySem.HandSPX.refsVE_contains Y bm hbm) (hK _ _ hC) (PySem.W.looks_findIn hK iC) (fun self => PySem.W.bind_fn hK self tI) hus
    (init _ (hp.objs.size + 1) hp.objs.size _ _ (hr.make C us kw).depth (fun b o z => kk _ _ (hbk _ _ z)) hbe hget (fun h' tk' dx t1 k dn dne he hn => ⟨rfl, ?_⟩)))
  have k' : ∀ b o, hp.get? b = some o → h'.get? b = some o := fun b o z => k b o (Nat.ne_of_lt (Nat.lt_succ_of_lt (Heap.lt_size z))) (kk b o z)
  have sz : ((hp.push (PySem.W.kdv_tup us)).push (PySem.HandSPX.excO C hp.objs.size)).objs.size = hp.objs.size + 2 := by rw [Heap.size_push, Heap.size_push]
  have dn2 : hp.objs.size + 2 ≤ dx := by rw [← sz]; exact dn
  have he0 : H (hp.objs.size + 1) = none := I.hok.fresh (Nat.le_succ _)
  have hd0 : H dx = none := I.hok.fresh (Nat.le_trans (by show hp.objs.size ≤ hp.objs.size + 2; omega) dn2)
  have ne : ∀ {b : Addr} {o : Obj}, hp.get? b = some o → b ≠ hp.objs.size + 1 := fun z => Nat.ne_of_lt (Nat.lt_succ_of_lt (Heap.lt_size z))
  have nd : ∀ {b : Addr} {o : Obj}, hp.get? b = some o → b ≠ dx := fun z => Nat.ne_of_lt (Nat.lt_of_lt_of_le (Heap.lt_size z) (Nat.le_trans (by show hp.objs.size ≤ hp.objs.size + 2; omega) dn2))
  have Un1 : Un X.fs [] H (upd (upd H dx (exd dx fs)) (hp.objs.size + 1) (exo (hp.objs.size + 1) C (some dx))) hp h' := {
    keep := fun b o q n _ _ => k' b o q
    slot := fun b o q n _ _ => ⟨o.slots, k' b o q⟩
    free := fun b o q n _ => by rw [upd_ne (ne q), upd_ne (nd q)]; exact n
    there := fun b o q _ => ⟨o, k' b o q⟩
    tups := fun b xs q => by rw [upd_ne (ne_of_none q he0), upd_ne (ne_of_none q hd0)]; exact q
    frzs := fun b o v q => by rw [upd_ne (ne_of_none q he0), upd_ne (ne_of_none q hd0)]; exact q
    tbls := fun b ps q => ⟨#[], by rw [upd_ne (ne_of_none q he0), upd_ne (ne_of_none q hd0), q]; simp⟩ }
  refine ⟨.ref (hp.objs.size + 1), _, I.un (t' := tk') Un1 fun b o q => ?_, rfl, h _ dx he0 hd0 dne⟩
  by_cases hb : b = hp.objs.size + 1
  · subst hb
    rw [upd_same] at q
    cases q
    exact exo_ok he
  · rw [upd_ne hb] at q
    by_cases hd : b = dx
    · subst hd
      rw [upd_same] at q
      cases q
      exact exd_ok hn rel
    · rw [upd_ne hd] at q
      exact (I.hok b o q).stay (fun c v hc z => k' c v z) (fun c hc => by rw [upd_ne (ne_of_none hc he0), upd_ne (ne_of_none hc hd0)]; exact hc) (fun c xs hc => by rw [upd_ne (ne_of_none hc he0), upd_ne (ne_of_none hc hd0)]; exact hc)
end
/-- making an exception of the class at C by n values and keywords ks: its fields are fs -/
def XMade (X : Cx) (C : Addr) (n : Nat) (ks : List Str) (fs : List V → List V → List (Str × V)) : Prop :=
  ∀ (pins : List (Addr × Obj)) (σ : L2.St) (H : Hp) (s : Shared) (Q : VK) (us ws : List Value) (vs zs : List V), Inv X pins σ H s → Vals vs us → Vals zs ws → vs.length = n → zs.length = ks.length →
    (∀ e dx, H e = none → H dx = none → dx ≠ e → Q (.ref e) (upd (upd H dx (exd dx (fs vs zs))) e (exo e C (some dx)))) →
    wpAny (model X.prog X.w) X.A (call (.ref C) us (ks.zip ws)) (EP X pins σ Q) X.xe s
def tMkX (C : Addr) (n m : Nat) (fs : List V → List V → List (Str × V)) (t tk : TA) : TE := fun σ H Q => t σ H fun vs H1 => tk σ H1 fun zs H2 => vs.length = n ∧ zs.length = m ∧
  ∀ e dx, H2 e = none → H2 dx = none → dx ≠ e → Q (.ref e) (upd (upd H2 dx (exd dx (fs vs zs))) e (exo e C (some dx)))
section
variable {X : Cx} {n : Nat} {C : Addr} {ks : List Str} {x : Str} {p pos : Pos} {e : Expr} {es : List Expr} {kws : List Keyword} {t tk : TA} {fs : List V → List V → List (Str × V)}
/-- C(e, ..) -/
theorem pe_mkX (M : XMade X C n [] fs) (hk : PySem.W.keepIn X.K (.ref C) = true) (hg : Gl X x) (hm : X.mg x = some (.ref C)) (ha : PA X (e :: es) t) (hdb : (x == ("__debug__" : Str)) = false := by decide)
    (he : starEach (e :: es) X.env = (false, eval e X.env) :: starEach es X.env := by rfl) (hpl : (backTo pos (starEach es X.env)).any (·.1) = false := by rfl) :
    PE X (.Call (.Name x p) (e :: es) [] pos) (tMkX C n 0 fs t tNil) := by
  refine ⟨fun pins s σ H Q I h => ?_⟩
  refine wpAny_Call_Name_kw (ld_glob I hg hm ?_ hdb)
  refine PySem.W.callWith_K (h₀ := X.base) I.ok.mod.kin hk (thn (ha.run pos pins s σ H _ I h) fun us s1 ⟨vs, H1, I1, r, l1, _, q⟩ => ⟨I1.kIn, ?_⟩) he hpl
  exact M pins σ H1 s1 Q us [] vs [] I1 r .nil l1 rfl q
/-- C(k = e, ..) -/
theorem pe_mkXk (M : XMade X C 0 ks fs) (hk : PySem.W.keepIn X.K (.ref C) = true) (hg : Gl X x) (hm : X.mg x = some (.ref C)) (hkw : PK X kws tk)
    (hall : (backToKw pos (keywordEach kws X.env)).all (·.1.isSome) = true := by rfl) (hks : (backToKw pos (keywordEach kws X.env)).filterMap (·.1) = ks := by rfl) (hdb : (x == ("__debug__" : Str)) = false := by decide)
    (hpl : ((backTo pos (starEach [] X.env)).any (·.1) || (backToKw pos (keywordEach kws X.env)).any (·.1.isNone)) = false := by rfl) :
    PE X (.Call (.Name x p) [] kws pos) (tMkX C 0 ks.length fs tNil tk) := by
  refine ⟨fun pins s σ H Q I h => ?_⟩
  refine wpAny_Call_Name_kw (ld_glob I hg hm ?_ hdb)
  refine PySem.W.callWith_KW0 (h₀ := X.base) I.ok.mod.kin hk hall ?_ hpl
  refine thn (hkw.run pos pins s σ H _ I h) fun ws s2 ⟨zs, H2, I2, rz, l1, l2, q2⟩ => ⟨I2.kIn, ?_⟩
  rw [hks]
  exact M pins σ H2 s2 Q [] ws [] zs I2 .nil rz rfl l2 q2
end
/-- the fields by what was told -/
def fs1 (f : Str) (vs _zs : List V) : List (Str × V) := match vs with
  | [y] => [(f, y)]
  | _ => []
def fs1k (f : Str) (_vs zs : List V) : List (Str × V) := match zs with
  | [y] => [(f, y)]
  | _ => []
def fs2 (f f2 : Str) (vs _zs : List V) : List (Str × V) := match vs with
  | [y, y2] => [(f2, y2), (f, y)]
  | _ => []
def fs2k (f f2 : Str) (_vs zs : List V) : List (Str × V) := match zs with
  | [y2, y] => [(f2, y2), (f, y)]
  | _ => []
/-- .. in every body over such a program -/
def MadeK (Pr : Program) (K : PySem.W.Frag) (mg : Str → Option Value) (C : Addr) (n : Nat) (ks : List Str) (fs : List V → List V → List (Str × V)) : Prop := ∀ X : Cx, X.prog = Pr → X.K = K → X.mg = mg → Room 1 X.A → XMade X C n ks fs
/-! ### from the walked inits -/
section
variable {X : Cx} {C f : Addr} {name qual lit fld x fld2 x2 : Str} {params : Arguments} {scope : Scope} {fd : FuncData} {p0 p1 p2 p3 p4 p5 q0 q1 q2 q3 r0 r1 r2 r3 : Pos} {kk : Nat} {ar : Arg}
theorem relO1 {f1 : Str} {y : V} {u : Value} (r : RelV y u) (z : Str) : RelO (([(f1, y)] : List (Str × V)).lookup z) (if z = f1 then some u else none) := relO_put (fs := []) (mA := fun _ => none) r (fun _ => True.intro) z
theorem relO2 {f1 f2 : Str} {y y2 : V} {u u2 : Value} (r : RelV y u) (r2 : RelV y2 u2) (z : Str) : RelO (([(f2, y2), (f1, y)] : List (Str × V)).lookup z) (if z = f2 then some u2 else if z = f1 then some u else none) :=
  relO_put (fs := [(f1, y)]) (mA := fun z => if z = f1 then some u else none) r2 (relO1 r) z
/-- what a class of one parameter tells -/
structure One (Pr : Program) (K : PySem.W.Frag) (mg : Str → Option Value) (C f : Addr) (name qual lit fld x : Str) (params : Arguments) (scope : Scope) (fd : FuncData) (p0 p1 p2 p3 p4 p5 q0 q1 q2 q3 : Pos) (kk : Nat) (ar : Arg) : Prop where
  D : ExI Pr K C f name qual params [supStmt p0 p1 p2 p3 p4 p5 lit kk, stoStmt q0 q1 q2 q3 fld x] scope fd
  B : SupB qual scope p0 p1 p2 p3 p4 p5 lit kk
  S1 : StoB qual scope q0 q1 q2 q3 fld x
  har : (params.posonlyargs ++ params.args).head? = some ar
  hself : ar.arg = "self"
  htop : (Pr.main.scope.names.lookup ("super" : Str)).isSome = false
  n1 : PySem.W.findIn K (.ref C) fld = some none
  sup : mg "super" = none
theorem One.made (O : One X.prog X.K X.mg C f name qual lit fld x params scope fd p0 p1 p2 p3 p4 p5 q0 q1 q2 q3 kk ar) (hr : Room 1 X.A)
    (hb : ∀ (kV doc pm : Value) (an : Option Addr) (cdv ct : Value) (cc e : Addr) (u : Value), bindArgs (PySem.W.ksFn name qual params [supStmt p0 p1 p2 p3 p4 p5 lit kk, stoStmt q0 q1 q2 q3 fld x] scope .none kV doc pm an cdv ct cc) ⟨[.ref e, u], []⟩ = pure [(("self" : Str), Value.ref e), (x, u)]) :
    XMade X C 1 [] (fs1 fld) := by
  intro pins σ H s Q us ws vs zs I r rz l1 l2 h
  cases r with
  | nil => cases l1
  | @cons y u _ ur ry r2 =>
    cases r2 with
    | cons _ _ => cases l1
    | nil =>
      refine made_core (fs := [(fld, y)]) (mA := fun z => if z = fld then some u else none) O.D.oc O.D.iC O.D.tI hr I (by show 1 ≤ sizeLine; decide) (fun s e t0 R A hroom bk hbe he hq => ?_) (relO1 ry) h
      obtain ⟨oc, od, dV, kV, doc, pm, an, cda, ct, osl, cc, ccl, cdd, vs, ccs, file, tf, cl, cld, csl, e1, lk, hcd, hcode, hvs, hfile, hcell, hdV⟩ := id O.D.ex
      refine init1 (binds := [(("self" : Str), Value.ref e), (x, u)]) (u := u) O.D O.B O.S1 O.har O.hself O.htop O.n1 I.mod O.sup bk hbe hroom ?_ ?_ ?_ ?_ he hq
      · rw [e1, hdV]
        exact .of_eq (hb kV doc pm an _ ct cc e u)
      · intro y hy
        rcases List.mem_cons.mp hy with rfl | hy
        · exact O.B.hka
        · rw [List.mem_singleton.mp hy]
          exact O.S1.kx
      · show (match ("self" : Str) == x with | true => some u | false => ([(("self" : Str), Value.ref e)] : List (Str × Value)).lookup ("self" : Str)) = some (.ref e)
        rw [beq_eq_false_iff_ne.mpr O.S1.ne.symm]
        rfl
      · show (match x == x with | true => some u | false => ([(("self" : Str), Value.ref e)] : List (Str × Value)).lookup x) = some u
        rw [beq_self_eq_true]
theorem One.madeK (O : One X.prog X.K X.mg C f name qual lit fld x params scope fd p0 p1 p2 p3 p4 p5 q0 q1 q2 q3 kk ar) (hr : Room 1 X.A)
    (hb : ∀ (kV doc pm : Value) (an : Option Addr) (cdv ct : Value) (cc e : Addr) (u : Value), bindArgs (PySem.W.ksFn name qual params [supStmt p0 p1 p2 p3 p4 p5 lit kk, stoStmt q0 q1 q2 q3 fld x] scope .none kV doc pm an cdv ct cc) ⟨[.ref e], [(x, u)]⟩ = pure [(("self" : Str), Value.ref e), (x, u)]) :
    XMade X C 0 [x] (fs1k fld) := by
  intro pins σ H s Q us ws vs zs I r rz l1 l2 h
  cases r with
  | cons _ _ => cases l1
  | nil =>
    cases rz with
    | nil => cases l2
    | @cons y u _ ur ry r2 =>
      cases r2 with
      | cons _ _ => cases l2
      | nil =>
        refine made_core (fs := [(fld, y)]) (mA := fun z => if z = fld then some u else none) O.D.oc O.D.iC O.D.tI hr I (by show 0 ≤ sizeLine; decide) (fun s e t0 R A hroom bk hbe he hq => ?_) (relO1 ry) h
        obtain ⟨oc, od, dV, kV, doc, pm, an, cda, ct, osl, cc, ccl, cdd, vs, ccs, file, tf, cl, cld, csl, e1, lk, hcd, hcode, hvs, hfile, hcell, hdV⟩ := id O.D.ex
        refine init1 (binds := [(("self" : Str), Value.ref e), (x, u)]) (u := u) O.D O.B O.S1 O.har O.hself O.htop O.n1 I.mod O.sup bk hbe hroom ?_ ?_ ?_ ?_ he hq
        · rw [e1, hdV]
          exact .of_eq (hb kV doc pm an _ ct cc e u)
        · intro y hy
          rcases List.mem_cons.mp hy with rfl | hy
          · exact O.B.hka
          · rw [List.mem_singleton.mp hy]
            exact O.S1.kx
        · show (match ("self" : Str) == x with | true => some u | false => ([(("self" : Str), Value.ref e)] : List (Str × Value)).lookup ("self" : Str)) = some (.ref e)
          rw [beq_eq_false_iff_ne.mpr O.S1.ne.symm]
          rfl
        · show (match x == x with | true => some u | false => ([(("self" : Str), Value.ref e)] : List (Str × Value)).lookup x) = some u
          rw [beq_self_eq_true]
/-- .. of two -/
structure Two (Pr : Program) (K : PySem.W.Frag) (mg : Str → Option Value) (C f : Addr) (name qual lit fld x fld2 x2 : Str) (params : Arguments) (scope : Scope) (fd : FuncData) (p0 p1 p2 p3 p4 p5 q0 q1 q2 q3 r0 r1 r2 r3 : Pos) (kk : Nat) (ar : Arg) : Prop where
  D : ExI Pr K C f name qual params [supStmt p0 p1 p2 p3 p4 p5 lit kk, stoStmt q0 q1 q2 q3 fld x, stoStmt r0 r1 r2 r3 fld2 x2] scope fd
  B : SupB qual scope p0 p1 p2 p3 p4 p5 lit kk
  S1 : StoB qual scope q0 q1 q2 q3 fld x
  S2 : StoB qual scope r0 r1 r2 r3 fld2 x2
  har : (params.posonlyargs ++ params.args).head? = some ar
  hself : ar.arg = "self"
  htop : (Pr.main.scope.names.lookup ("super" : Str)).isSome = false
  n1 : PySem.W.findIn K (.ref C) fld = some none
  n2 : PySem.W.findIn K (.ref C) fld2 = some none
  sup : mg "super" = none
  ne : x ≠ x2
theorem Two.core {pins : List (Addr × Obj)} {σ : L2.St} {H : Hp} {s : Shared} {Q : VK} {us : List Value} {kw : List (Str × Value)} {u u2 : Value} {y y2 : V} (O : Two X.prog X.K X.mg C f name qual lit fld x fld2 x2 params scope fd p0 p1 p2 p3 p4 p5 q0 q1 q2 q3 r0 r1 r2 r3 kk ar) (hr : Room 1 X.A)
    (hb : ∀ (kV doc pm : Value) (an : Option Addr) (cdv ct : Value) (cc e : Addr), bindArgs (PySem.W.ksFn name qual params [supStmt p0 p1 p2 p3 p4 p5 lit kk, stoStmt q0 q1 q2 q3 fld x, stoStmt r0 r1 r2 r3 fld2 x2] scope .none kV doc pm an cdv ct cc) ⟨.ref e :: us, kw⟩ = pure [(("self" : Str), Value.ref e), (x, u), (x2, u2)])
    (I : Inv X pins σ H s) (hus : us.length ≤ sizeLine) (ry : RelV y u) (ry2 : RelV y2 u2) (h : ∀ e dx, H e = none → H dx = none → dx ≠ e → Q (.ref e) (upd (upd H dx (exd dx [(fld2, y2), (fld, y)])) e (exo e C (some dx)))) :
    wpAny (model X.prog X.w) X.A (call (.ref C) us kw) (EP X pins σ Q) X.xe s := by
  refine made_core (fs := [(fld2, y2), (fld, y)]) (mA := fun z => if z = fld2 then some u2 else if z = fld then some u else none) O.D.oc O.D.iC O.D.tI hr I hus (fun s e t0 R A hroom bk hbe he hq => ?_) (relO2 ry ry2) h
  obtain ⟨oc, od, dV, kV, doc, pm, an, cda, ct, osl, cc, ccl, cdd, vs, ccs, file, tf, cl, cld, csl, e1, lk, hcd, hcode, hvs, hfile, hcell, hdV⟩ := id O.D.ex
  refine init2 (binds := [(("self" : Str), Value.ref e), (x, u), (x2, u2)]) (u := u) (u2 := u2) O.D O.B O.S1 O.S2 O.har O.hself O.htop O.n1 O.n2 I.mod O.sup bk hbe hroom ?_ ?_ ?_ ?_ ?_ he hq
  · rw [e1, hdV]
    exact .of_eq (hb kV doc pm an _ ct cc e)
  · intro y hy
    rcases List.mem_cons.mp hy with rfl | hy
    · exact O.B.hka
    · rcases List.mem_cons.mp hy with rfl | hy
      · exact O.S1.kx
      · rw [List.mem_singleton.mp hy]
        exact O.S2.kx
  · show (match ("self" : Str) == x2 with | true => some u2 | false => (match ("self" : Str) == x with | true => some u | false => ([(("self" : Str), Value.ref e)] : List (Str × Value)).lookup ("self" : Str))) = some (.ref e)
    rw [beq_eq_false_iff_ne.mpr O.S2.ne.symm, beq_eq_false_iff_ne.mpr O.S1.ne.symm]
    rfl
  · show (match x == x2 with | true => some u2 | false => (match x == x with | true => some u | false => ([(("self" : Str), Value.ref e)] : List (Str × Value)).lookup x)) = some u
    rw [beq_eq_false_iff_ne.mpr O.ne, beq_self_eq_true]
  · show (match x2 == x2 with | true => some u2 | false => (match x2 == x with | true => some u | false => ([(("self" : Str), Value.ref e)] : List (Str × Value)).lookup x2)) = some u2
    rw [beq_self_eq_true]
/-- C(a, b) -/
theorem Two.made (O : Two X.prog X.K X.mg C f name qual lit fld x fld2 x2 params scope fd p0 p1 p2 p3 p4 p5 q0 q1 q2 q3 r0 r1 r2 r3 kk ar) (hr : Room 1 X.A)
    (hb : ∀ (kV doc pm : Value) (an : Option Addr) (cdv ct : Value) (cc e : Addr) (u u2 : Value), bindArgs (PySem.W.ksFn name qual params [supStmt p0 p1 p2 p3 p4 p5 lit kk, stoStmt q0 q1 q2 q3 fld x, stoStmt r0 r1 r2 r3 fld2 x2] scope .none kV doc pm an cdv ct cc) ⟨[.ref e, u, u2], []⟩ = pure [(("self" : Str), Value.ref e), (x, u), (x2, u2)]) :
    XMade X C 2 [] (fs2 fld fld2) := by
  intro pins σ H s Q us ws vs zs I r rz l1 l2 h
  match vs, us, r, l1, h with
  | [y, y2], [u, u2], .cons ry (.cons ry2 .nil), _, h => exact O.core hr (fun kV doc pm an cdv ct cc e => hb kV doc pm an cdv ct cc e u u2) I (by show 2 ≤ sizeLine; decide) ry ry2 h
/-- C(b = .., a = ..): the second parameter told first -/
theorem Two.madeK (O : Two X.prog X.K X.mg C f name qual lit fld x fld2 x2 params scope fd p0 p1 p2 p3 p4 p5 q0 q1 q2 q3 r0 r1 r2 r3 kk ar) (hr : Room 1 X.A)
    (hb : ∀ (kV doc pm : Value) (an : Option Addr) (cdv ct : Value) (cc e : Addr) (u u2 : Value), bindArgs (PySem.W.ksFn name qual params [supStmt p0 p1 p2 p3 p4 p5 lit kk, stoStmt q0 q1 q2 q3 fld x, stoStmt r0 r1 r2 r3 fld2 x2] scope .none kV doc pm an cdv ct cc) ⟨[.ref e], [(x2, u2), (x, u)]⟩ = pure [(("self" : Str), Value.ref e), (x, u), (x2, u2)]) :
    XMade X C 0 [x2, x] (fs2k fld fld2) := by
  intro pins σ H s Q us ws vs zs I r rz l1 l2 h
  match vs, us, r, zs, ws, rz, l1, l2, h with
  | [], [], .nil, [y2, y], [u2, u], .cons ry2 (.cons ry .nil), _, _, h => exact O.core hr (fun kV doc pm an cdv ct cc e => hb kV doc pm an cdv ct cc e u u2) I (by show 0 ≤ sizeLine; decide) ry ry2 h
end
end My

set_option maxHeartbeats 4000000
namespace PySem
namespace MyX
open PySem.W PySem.Calls PyProof.Rows Builtin Builtin.ObjectAttr Builtin.Getset_descriptor
theorem dga_ref (d tp : Value) (C : Addr) : descrGetArgs ⟨[d, .ref C, tp], []⟩ = pure (d, some (.ref C), given tp) := by kernel_rfl
section
variable {prog : Program} {w : World} {A : Around} {E : Value → Shared → Prop} {s : Shared} {K : Frag} {R : Result → Shared → Prop} {C : Addr} {h₀ : Heap} {L : Addr} {m : Str → Option Value} {oc : Obj} {nm : Str} {tk : Tok}
theorem name_get {tp : Value} (hC : s.heap.get? C = some oc) (hcl : oc.cls = .type "type") (hs : oc.slots[2]? = some (some (.str nm tk))) (h : R (.ok (.ret (.str nm tk))) s) :
    codeAny (model prog w) A (.call (.builtin "getset_descriptor.__get__") ⟨[.builtin "type.__name__", .ref C, tp], []⟩) R s := by
  obtain ⟨hh, g, dr, t, os⟩ := s
  have L0 : Looks (model prog w) hh (typeOf (.ref C)) (.type "type") := fun A Q E s k q => wpAny_typeOf (T := "type") ⟨_, k _ _ hC, hcl⟩ q
  have L1 : Looks (model prog w) hh (isSubtype (.type "type") (.type "type")) true := Looks.of_pure (by rw [isSubtype_type]; kernel_rfl)
  refine codeAny_call_builtin KF.slot_gs.plain KF.entry_gs (KF.slot_gs.check _ _ _ _ _ _ _ _ ktyn_type (KF.args_gs _ _ _) ?_)
  unfold Builtin.«getset_descriptor.__get__» descrGet
  rw [dga_ref]
  refine wpAny_bind (wpAny_pure ?_)
  unfold descrGetter descrCheckInstance descrNameAndClass isInstance
  simp only [ktyn_owner]
  repeat lk
  refine ⟨Code.quiet_builtin _ (by decide +kernel), codeAny_builtin ktyn_entry ?_⟩
  unfold Builtin.«type.__name__»
  dsimp only
  unfold keptObject slotAt
  refine wpAny_bind (wpAny_bind (wpAny_loadPart_at hC ?_))
  rw [hs]
  exact wpAny_pure (wpAny_pure h)
/-- C.__name__, C an own class -/
theorem name_attr {expr : Bool} {Q : Value → Shared → Prop} (X : K.In s.heap) (op : nsIn K cStatics "thirdparty.any" = some none) (lC : K.lookup C = some oc) (hcl : oc.cls = .type "type") (hs : oc.slots[2]? = some (some (.str nm tk)))
    (e : findCls K (.ref C) (.type "type") "__name__" = some (.get (.builtin "getset_descriptor.__get__") (.builtin "type.__name__") (.ref C) (.type "type"))) (h : ∀ u, Q (.str nm tk) { s with toks := u }) : wpAny (model prog w) A (getAttr (.ref C) "__name__" expr) Q E s := by
  have hC := X _ _ lC
  have L0 : Looks (model prog w) s.heap (typeOf (.ref C)) (.type "type") := fun A Q E s k q => wpAny_typeOf (T := "type") ⟨_, k _ _ hC, hcl⟩ q
  have hg : findIn K (.type "type") "__getattribute__" = some (some (.builtin "type.__getattribute__")) := type_tga
  refine cls_open X (looks_opaque X op) L0 hg (looks_hook X (r := none) (by rfl)) (by show subIn K _ _ = _; rfl) e ?_
  show wpAny _ _ (do ret (← holding [Value.builtin "type.__name__"] (call (.builtin "getset_descriptor.__get__") [.builtin "type.__name__", .ref C, .type "type"]))) _ _ _
  refine wpAny_bind (wpAny_holding (wpAny_call (name_get (s := { s with toks := s.toks + 1 }) hC hcl hs ?_)))
  exact wpAny_pure (handed_on rfl (h _))
/-- bool(x) by truth -/
theorem call_bool_truth {x : Value} {Q : Value → Shared → Prop} (h : wpAny (model prog w) A.in1.in1 (truthy x) (fun b s' => Q (.bool b) s') E s) : wpAny (model prog w) A (call (.type "bool") [x]) Q E s := by
  refine callType_newIn (S := fun A' R s' => wpAny (model prog w) A'.in1 (truthy x) (fun b s2 => R (.ok (.ret (.bool b))) s2) (fun e s2 => R (.error e) s2) s') F.called_bool F.newNe_bool (F.typeCall_bool_1 x) (F.newCall_bool_1 x) (fun obj => F.args_object_init_2 obj x) F.entry_bool_new ?_ ?_
  · intro A' R s' hs'
    have f1 := F.conv_sub_bool
    obtain ⟨hp, g, d, tk, os⟩ := s'
    have hx : wpAny (model prog w) A'.in1 (truthy x) (fun b s2 => wpAny (model prog w) A'.in1 (ret (.bool b)) (fun fin s' => match fin with | .done f => R (.ok f) s' | .again c' => c'.quiet = true ∧ codeAny (model prog w) A' c' R s') (fun e s' => R (.error e) s') s2) (fun e s2 => R (.error e) s2) ⟨hp, g, d, tk, os⟩ :=
      wpAny_mono hs' (fun b s2 q => wpAny_pure q) fun _ _ z => z
    unfold Builtin.«bool.__new__»
    repeat (first | exact wpAny_bind hx | wp_step)
  · refine wpAny_mono h (fun b s2 q => ⟨?_, q⟩) fun _ _ z => z
    exact typeIs_bool _ _
/-! ### x != y by the own __eq__ through object.__ne__ -/
variable {x f : Addr} {ox : Obj} {od : Option Obj} {b tb : Value}
theorem ifBound_B {M : Model} {id : String} {name : Str} {T : String} {args : List Value} {Q : Option Value → Shared → Prop} (X : K.In s.heap) (I : InstAt s.heap x ox C od) (hs : findIn K (.ref C) name = some (some (.builtin id))) (S : Slot T name id)
    (h : wpAny M A (call (.builtin id) (.ref x :: args)) (fun v => Q (some v)) E s) : wpAny M A (callSpecialIfBound? (.ref x) name args) Q E s := by
  simp only [callSpecialIfBound?, bindSpecialIfBound?]
  refine wpAny_holding (wpAny_bind (wpAny_bind (wpAny_bind (I.type.here ((looks_findIn X hs).here ?_)))))
  simp only [S.bind]
  refine wpAny_bind (wpAny_askSetting (wpAny_ite ?_))
  have fin : wpAny M A (call (.builtin id) ([.ref x] ++ args) >>= fun v => pure (some v)) Q E s := wpAny_bind (wpAny_mono h (fun v s' h' => wpAny_pure h') fun _ _ h' => h')
  split
  · exact wpAny_bind (wpAny_pure (wpAny_pure fin))
  · exact wpAny_tryCatch (wpAny_bind (wpAny_pure (wpAny_pure fin)))
/-- object.__ne__(x, y): the own __eq__'s answer turned -/
theorem call_ne {Q : Value → Shared → Prop} (X : K.In s.heap) (I : InstAt s.heap x ox C od) (hs : findIn K (.ref C) "__eq__" = some (some (.ref f))) (hf : isFn K (.ref f) = true) (hob : mroIn K C (.type "object") = some true) (hu : A.units + 1 < cLine)
    (h : wpAny (model prog w) A.in1 (call (.ref f) [.ref x, b]) (fun v s' => ∃ r, v = .bool r ∧ Q (.bool (!r)) s') E s) : wpAny (model prog w) A (call (.builtin "object.__ne__") [.ref x, b]) Q E s := by
  have FB := F.cmp_object
  refine wpAny_call (codeAny_call_builtin FB.ne.plain F.cmpEntry_ne (@check_slot (model prog w) _ _ s "object.__ne__" "object" "__ne__" (.ref x) [b] [] _ F.cmpKind_ne F.cmpSplit_ne (I.type.andThen (looks_mroIn X hob)) (F.cmpArgs_ne _ _) ?_))
  have hcall : wpAny (model prog w) A.in1 (callSpecialIfBound? (.ref x) "__eq__" [b]) (fun o s' => ∃ r, o = some (.bool r) ∧ Q (.bool (!r)) s') E s :=
    ifBound_K X I hs hf (wpAny_mono h (fun v s' z => by
      obtain ⟨r, e, q⟩ := z
      exact ⟨r, by rw [e], q⟩) fun _ _ z => z)
  unfold Builtin.«object.__ne__»
  refine wpAny_bind (wpAny_of_eq (a := ((Value.ref x : Value), [b])) (by first | rfl | (simp only [slotArgs]; rfl) | kernel_rfl) ?_)
  refine wpAny_bind (wpAny_cRoomFor (by show A.units + 1 < cLine; exact hu) ?_)
  refine wpAny_bind (wpAny_mono hcall (fun o s' z => ?_) fun _ _ z => z)
  obtain ⟨r, rfl, q⟩ := z
  refine wpAny_bind (wpAny_truthy_bool ?_)
  exact wpAny_pure q
theorem cmp_ne {Q : Value → Shared → Prop} (hu : A.units + 2 < cLine) (X : K.In s.heap) (I : InstAt s.heap x ox C od) (hb : Looks (model prog w) s.heap (typeOf b) tb) (hn : notFirst K C tb = true)
    (hne : findIn K (.ref C) "__ne__" = some (some (.builtin "object.__ne__"))) (hs : findIn K (.ref C) "__eq__" = some (some (.ref f))) (hf : isFn K (.ref f) = true) (hob : mroIn K C (.type "object") = some true)
    (h : wpAny (model prog w) A.in1 (call (.ref f) [.ref x, b]) (fun v s' => ∃ r, v = .bool r ∧ Q (.bool (!r)) s') E s) : wpAny (model prog w) A (richCompare .NotEq (.ref x) b) Q E s := by
  have one : wpAny (model prog w) A (tryCompare (.ref x) (cmpInfo .NotEq).2.1 b) (fun r s' => ∃ v, r = some v ∧ Q v s') E s := by
    unfold tryCompare
    refine wpAny_bind (ifBound_B (args := [b]) X I hne F.cmp_object.ne (wpAny_mono (call_ne (Q := fun v s' => ∃ r, v = .bool r ∧ Q v s') X I hs hf hob (by omega) (wpAny_mono h (fun v s' z => ?_) fun _ _ z => z)) (fun v s' hv => ?_) fun _ _ e => e))
    · obtain ⟨r, e, q⟩ := z
      exact ⟨r, e, _, rfl, q⟩
    · obtain ⟨r, rfl, q⟩ := hv
      exact wpAny_pure ⟨_, rfl, q⟩
  unfold richCompare
  simp only [oneThing_ref]
  refine wpAny_holding (wpAny_bind (wpAny_cRoomFor (by omega) ?_))
  refine wpAny_bind (I.type.here (wpAny_bind (hb.here ?_)))
  split
  · rename_i q
    have e : subIn K tb (.ref C) = some false := by
      rcases Bool.or_eq_true_iff.mp hn with e | e
      · rw [beq_iff_eq.mp e] at q; simp at q
      · exact beq_iff_eq.mp e
    refine wpAny_bind ((looks_subIn X e).here ?_)
    simp only [Bool.false_eq_true, if_false]
    refine wpAny_bind (wpAny_mono one (fun r s' z => ?_) fun _ _ e => e)
    obtain ⟨v, rfl, hq⟩ := z
    exact wpAny_pure hq
  · refine wpAny_bind (wpAny_pure ?_)
    simp only [Bool.false_eq_true, if_false]
    refine wpAny_bind (wpAny_mono one (fun r s' z => ?_) fun _ _ e => e)
    obtain ⟨v, rfl, hq⟩ := z
    exact wpAny_pure hq
/-- x == y, y's class below x's: y's own __eq__ first -/
theorem cmp_first {Q : Value → Shared → Prop} {y D : Addr} {oy : Obj} {oe : Option Obj} (hu : A.units < cLine) (X : K.In s.heap) (I : InstAt s.heap x ox C od) (J : InstAt s.heap y oy D oe) (hDC : (Value.ref D != Value.ref C) = true) (hsub : subIn K (.ref D) (.ref C) = some true)
    (hs : findIn K (.ref D) "__eq__" = some (some (.ref f))) (hf : isFn K (.ref f) = true)
    (h : wpAny (model prog w) A (call (.ref f) [.ref y, .ref x]) (PySem.W.CmpBack Q) E s) : wpAny (model prog w) A (richCompare .Eq (.ref x) (.ref y)) Q E s := by
  have one : wpAny (model prog w) A (tryCompare (.ref y) (cmpInfo .Eq).2.2 (.ref x)) (fun r s' => ∃ v, r = some v ∧ Q v s') E s := by
    unfold tryCompare
    refine wpAny_bind (ifBound_K X J hs hf (wpAny_mono h (fun v s' hv => ?_) fun _ _ e => e))
    cases v <;> first | exact hv.elim | exact wpAny_pure ⟨_, rfl, hv⟩
  unfold richCompare
  simp only [oneThing_ref]
  refine wpAny_holding (wpAny_bind (wpAny_cRoomFor hu ?_))
  refine wpAny_bind (I.type.here (wpAny_bind (J.type.here ?_)))
  split
  · refine wpAny_bind ((looks_subIn X hsub).here ?_)
    simp only [if_true]
    refine wpAny_bind (wpAny_mono one (fun r s' z => ?_) fun _ _ e => e)
    obtain ⟨v, rfl, hq⟩ := z
    first
      | exact wpAny_bind (wpAny_rule (wpAny_pure hq))
      | exact wpAny_bind (wpAny_rule (wpAny_bind (wpAny_pure hq)))
      | exact wpAny_rule (wpAny_pure hq)
  · rename_i q
    exact absurd (by simpa [bne_comm] using hDC) q
end
end MyX
end PySem

set_option maxHeartbeats 4000000
namespace My
open PySem PySem.Spec PyProof.Rows L2
/-- what the written part says of an own class for x.__class__, C.__name__ -/
structure ClsN (K : PySem.W.Frag) (C : Addr) (nm : Str) : Prop where
  cl : Cls K C
  ca : PySem.W.findIn K (.ref C) "__class__" = some (some (.builtin "object.__class__"))
  sp : PySem.W.specialIn K (.builtin "object.__class__") "__get__" = some (some (.builtin "getset_descriptor.__get__"))
  tk : PySem.W.takesIn K (.builtin "object.__class__") = some true
  mo : PySem.W.mroIn K C (.type "object") = some true
  op : PySem.W.nsIn K cStatics "thirdparty.any" = some none
  nm : ∃ (oc : Obj) (t : Tok), K.lookup C = some oc ∧ oc.cls = .type "type" ∧ oc.slots[2]? = some (some (.str nm t))
  fc : PySem.W.findCls K (.ref C) (.type "type") "__name__" = some (.get (.builtin "getset_descriptor.__get__") (.builtin "type.__name__") (.ref C) (.type "type"))
section
variable {X : Cx} {e : Expr} {te : TE} {pos : Pos} {n : Str}
/-- e.__class__, e an instance -/
def tCls (K : PySem.W.Frag) (te : TE) : TE := fun σ H Q => te σ H fun x H1 => ∃ (a C dx : Addr) (fs : List (Str × V)) (nm : Str), x = .ref a ∧ H1 a = some (.ins C dx fs) ∧ ClsN K C nm ∧ Q (.ref C) H1
theorem pe_cls (he : PE X e te) (hb : attributeBase e "__class__" X.env (eval e X.env) = eval e X.env := by rfl) : PE X (.Attribute e "__class__" pos) (tCls X.K te) := by
  refine ⟨fun pins s σ H Q I h => ?_⟩
  refine attr_of hb (thn (he.run pins s σ H _ I h) fun u s1 hh => ?_)
  obtain ⟨x, H1, I1, rx, a, C, dx, fs, nm, ex, ha, N, q⟩ := hh
  subst ex
  obtain rfl : u = Value.ref a := rx
  obtain ⟨mA, O, _⟩ := ins_get I1.hok ha
  obtain ⟨od, J, _⟩ := O.look
  obtain ⟨m, fr⟩ := I1.fr
  exact PySem.W.get_class fr I1.ok.mod.kin J (N.cl.get _) N.cl.hd N.ca N.sp N.tk N.mo ⟨.ref C, H1, I1.tok _, rfl, q⟩
/-- e.__name__, e an own class -/
def tNm (K : PySem.W.Frag) (te : TE) : TE := fun σ H Q => te σ H fun x H1 => ∃ (C : Addr) (nm : Str), x = .ref C ∧ ClsN K C nm ∧ Q (.str nm) H1
theorem pe_nm (he : PE X e te) (hb : attributeBase e "__name__" X.env (eval e X.env) = eval e X.env := by rfl) : PE X (.Attribute e "__name__" pos) (tNm X.K te) := by
  refine ⟨fun pins s σ H Q I h => ?_⟩
  refine attr_of hb (thn (he.run pins s σ H _ I h) fun u s1 hh => ?_)
  obtain ⟨x, H1, I1, rx, C, nm, ex, N, q⟩ := hh
  subst ex
  obtain rfl : u = Value.ref C := rx
  obtain ⟨oc, t, lC, hc, hs⟩ := N.nm
  exact PySem.MyX.name_attr I1.kIn N.op lC hc hs N.fc fun u => ⟨.str nm, H1, I1.tok _, ⟨_, rfl⟩, q⟩
/-- an exception at a: its class C, its dict at dx, its fields -/
structure XAt (H : Hp) (a C dx : Addr) (fs : List (Str × V)) : Prop where
  e : H a = some (exo a C (some dx))
  d : H dx = some (exd dx fs)
theorem XAt.same {H H' : Hp} {a C dx : Addr} {fs : List (Str × V)} (h : XAt H a C dx fs) (s : Same H H') : XAt H' a C dx fs := ⟨s _ _ h.e, s _ _ h.d⟩
theorem xat_inst {pins : List (Addr × Obj)} {σ : L2.St} {H : Hp} {s : Shared} {a C dx : Addr} {fs : List (Str × V)} (I : Inv X pins σ H s) (h : XAt H a C dx fs) :
    ∃ (oe od : Obj) (mA : Str → Option Value), PySem.W.InstAt s.heap a oe C (some od) ∧ s.heap.Ns1 dx mA ∧ (∀ f, RelO (fs.lookup f) (mA f)) ∧ ∀ f, PySem.W.lookIn f od = some (mA f) := by
  obtain ⟨t1, he⟩ := exo_at I.hok h.e
  obtain ⟨mA, hns, rel⟩ := exd_at I.hok h.d
  obtain ⟨od, ho, hl⟩ := lookIn_ns hns
  exact ⟨_, od, mA, ⟨he, rfl, rfl, ho⟩, hns, rel, hl⟩
/-- e.f, e an exception held as a value -/
def tXv (K : PySem.W.Frag) (n : Str) (te : TE) : TE := fun σ H Q => te σ H fun x H1 => ∃ (a C dx : Addr) (fs : List (Str × V)) (v : V), x = .ref a ∧ XAt H1 a C dx fs ∧ XfC K C ∧ PySem.W.findIn K (.ref C) n = some none ∧ fs.lookup n = some v ∧ Q v H1
theorem pe_xv (he : PE X e te) (hb : attributeBase e n X.env (eval e X.env) = eval e X.env := by rfl) : PE X (.Attribute e n pos) (tXv X.K n te) := by
  refine ⟨fun pins s σ H Q I h => ?_⟩
  refine attr_of hb (thn (he.run pins s σ H _ I h) fun u s1 hh => ?_)
  obtain ⟨x, H1, I1, rx, a, C, dx, fs, v, ex, xa, T, hno, l, q⟩ := hh
  subst ex
  obtain rfl : u = Value.ref a := rx
  obtain ⟨oe, od, mA, J, hns, hr, hl⟩ := xat_inst I1 xa
  obtain ⟨u, hu, ru⟩ := RelO.some_of (v := v) (o := mA n) (by rw [← l]; exact hr n)
  exact HandSPX.exc_get I1.kIn J T.ga T.gg T.exC (PySem.W.findObj_own T.hdC hno rfl (by rw [hl, hu])) (handed_of ru) ⟨v, H1, I1.tok _, ru, q⟩
end
/-- isinstance(e, c), e an exception held as a value -/
def rIsX (K : PySem.W.Frag) : List V → Hp → VK → Prop := fun xs H Q => ∃ (a C dx : Addr) (fs : List (Str × V)) (c : V) (u : Value) (b : Bool), xs = [.ref a, c] ∧ XAt H a C dx fs ∧ ExcC K C ∧ ClsV c u ∧ PySem.W.kitOne K (.ref C) u = some b ∧ Q (.bl b) H
def rIsXT (K : PySem.W.Frag) : List V → Hp → VK → Prop := fun xs H Q => ∃ (a C dx : Addr) (fs : List (Str × V)) (tp : Addr) (cs : List V) (us : List Value) (b : Bool), xs = [.ref a, .ref tp] ∧ XAt H a C dx fs ∧ ExcC K C ∧ H tp = some (.tup cs) ∧ Paired ClsV cs us ∧ PySem.W.kitAny K (.ref C) us = some b ∧ Q (.bl b) H
section
variable {X : Cx}
theorem cls_some {K : PySem.W.Frag} {C : Addr} (h : PySem.W.hasDictIn K C = true) : (PySem.W.clsIn K C).isSome = true := by
  obtain ⟨cd, hc, _⟩ := PySem.W.any_some h
  rw [hc]
  rfl
theorem call_isX : CallR X (.builtin "isinstance") (rIsX X.K) := by
  intro pins s σ H xs us Q I r h
  obtain ⟨a, C, dx, fs, c, u, b, rfl, xa, E, k, e, q⟩ := h
  obtain ⟨u1, u2, rfl, r1, r2⟩ := vals2 r
  have e2 := k.eq r2
  subst e2
  obtain rfl : u1 = Value.ref a := r1
  obtain ⟨oe, od, mA, J, _⟩ := xat_inst I xa
  exact PySem.W.kia_one (PySem.W.kitx_exc (cls_some E.hd) E.hg E.hk E.hs E.ha E.hn E.ht E.hm) I.kIn J e (fun z => nomatch z) fun tk => ⟨.bl b, H, I.tok tk, rfl, q⟩
theorem call_isXT : CallR X (.builtin "isinstance") (rIsXT X.K) := by
  intro pins s σ H xs us Q I r h
  obtain ⟨a, C, dx, fs, tp, cs, ws, b, rfl, xa, E, hT, k, e, q⟩ := h
  obtain ⟨u1, u2, rfl, r1, r2⟩ := vals2 r
  cases (show u2 = Value.ref tp from r2)
  obtain rfl : u1 = Value.ref a := r1
  obtain ⟨oe, od, mA, J, _⟩ := xat_inst I xa
  obtain ⟨_, its, rv, o, h1, h2, n, h3⟩ := (show ObjOk X.prog X.w H s.heap tp (.tup cs) from I.hok tp _ hT)
  have e3 := ClsV.all k rv
  subst e3
  obtain ⟨oc, od, dt, sl⟩ := o
  simp only at h2 h3
  subst h2 h3
  exact PySem.W.kia_tup (PySem.W.kitx_exc (cls_some E.hd) E.hg E.hk E.hs E.ha E.hn E.ht E.hm) I.kIn J h1 e (fun z => nomatch z) fun tk => ⟨.bl b, H, I.tok tk, rfl, q⟩
end
/-! ### == and != by an own __eq__, bool by an own __bool__ -/
section
variable {X : Cx} {k : Nat} {f : Addr} {fd : FuncData} {ps : List Str} {sp : Sp}
/-- a method's promise run with the values told, one or two steps deeper -/
theorem run_at {A : Around} {pins : List (Addr × Obj)} {σ : L2.St} {H : Hp} {s : Shared} {us : List Value} {vs : List V} {Q : VK} {E : Value → Shared → Prop} (F : FnOk X.prog X.w X.K X.mg X.base CX0 k f fd ps sp) (hA : Room k A) (hfr : A.frames = X.A.frames) (hb : Binds X.K fd ps [])
    (I : Inv X pins σ H s) (r : Vals vs us) (h : sp vs H Q E0) : wpAny (model X.prog X.w) A (call (.ref f) us) (EP X pins σ Q) E s := by
  have e0 : Env0 X.prog X.w X.K X.mg X.base A X.stack s H := by
    have e := I.env0
    exact ⟨by rw [hfr]; exact e.frames, e.mod, e.bs, e.bsz, e.funs, e.frf, e.hok, e.bare⟩
  have hl := F.len _ _ _ _ h
  have hl2 : us.length + ([] : List Value).length = ps.length := by rw [← r.length, hl]; rfl
  refine wpAny_call (codeAny_mono (F.run A X.stack s H ⟨us, []⟩ us vs _ E0 hA e0 (by
    have z := hb s us I.kIn (by simpa using hl2)
    simpa using z) r h) fun r s' hq => ?_)
  cases r with
  | error e => exact hq.elim
  | ok fl =>
    cases fl with
    | ret w => exact I.after hq
    | next => exact False.elim hq
    | brk => exact False.elim hq
    | cont => exact False.elim hq
/-- what a class with an own __eq__ at f tells -/
structure EqC (K : PySem.W.Frag) (C f : Addr) : Prop where
  eq : PySem.W.findIn K (.ref C) "__eq__" = some (some (.ref f))
  ne : PySem.W.findIn K (.ref C) "__ne__" = some (some (.builtin "object.__ne__"))
  fn : PySem.W.isFn K (.ref f) = true
  mo : PySem.W.mroIn K C (.type "object") = some true
def rEqP (K : PySem.W.Frag) (f : Addr) (sp : Sp) : R2 := fun x y H Q => ∃ (a C dx : Addr) (fs : List (Str × V)) (t : Value), x = .ref a ∧ H a = some (.ins C dx fs) ∧ EqC K C f ∧ TyX K H y t ∧ PySem.W.notFirst K C t = true ∧ sp [x, y] H (fun v H' => ∃ r, v = .bl r ∧ Q (.bl r) H') E0
def rNeP (K : PySem.W.Frag) (f : Addr) (sp : Sp) : R2 := fun x y H Q => ∃ (a C dx : Addr) (fs : List (Str × V)) (t : Value), x = .ref a ∧ H a = some (.ins C dx fs) ∧ EqC K C f ∧ TyX K H y t ∧ PySem.W.notFirst K C t = true ∧ sp [x, y] H (fun v H' => ∃ r, v = .bl r ∧ Q (.bl (!r)) H') E0
/-- y's class is below x's -/
def rEqF (K : PySem.W.Frag) (f : Addr) (sp : Sp) : R2 := fun x y H Q => ∃ (a C dx b D dy : Addr) (fs gs : List (Str × V)), x = .ref a ∧ y = .ref b ∧ H a = some (.ins C dx fs) ∧ H b = some (.ins D dy gs) ∧ EqC K D f ∧ (Value.ref D != Value.ref C) = true ∧ PySem.W.subIn K (.ref D) (.ref C) = some true ∧
  sp [y, x] H (fun v H' => ∃ r, v = .bl r ∧ Q (.bl r) H') E0
theorem op_eqP (F : FnOk X.prog X.w X.K X.mg X.base CX0 k f fd ps sp) (hr : Room (k + 1) X.A) (hb : Binds X.K fd ps []) : OpR X (compareOp .Eq) (rEqP X.K f sp) := by
  intro pins s σ H x y v u Q I rx ry h
  obtain ⟨a, C, dx, fs, t, rfl, ha, T, ty, nf, hsp⟩ := h
  have rx' := rx
  cases rx
  obtain ⟨mA, J, _⟩ := ins_get I.hok ha
  obtain ⟨od, J, _⟩ := J.look
  obtain ⟨P, Z, p, _⟩ := kit_of I ry ty
  obtain ⟨m, hF⟩ := I.fr
  show wpAny (model X.prog X.w) X.A (richCompare .Eq (.ref a) u) (EP X pins σ Q) X.xe s
  refine PySem.W.cmp_K (op := .Eq) (tb := t) hr.units0 hF I.ok.mod.kin J (Z.ty _ _ I.kIn p) nf T.eq T.fn ?_
  refine wpAny_mono (run_at F (hr.mono (Nat.le_succ k)) rfl hb I (.cons rx' (.cons ry .nil)) hsp) (fun w s' z => ?_) fun _ _ z => z
  obtain ⟨v, H', I', rv, r, rfl, q⟩ := z
  cases (show w = Value.bool r from rv)
  exact ⟨.bl r, H', I', rfl, q⟩
theorem op_neP (F : FnOk X.prog X.w X.K X.mg X.base CX0 k f fd ps sp) (hr : Room (k + 1) X.A) (hb : Binds X.K fd ps []) : OpR X (compareOp .NotEq) (rNeP X.K f sp) := by
  intro pins s σ H x y v u Q I rx ry h
  obtain ⟨a, C, dx, fs, t, rfl, ha, T, ty, nf, hsp⟩ := h
  have rx' := rx
  cases rx
  obtain ⟨mA, J, _⟩ := ins_get I.hok ha
  obtain ⟨od, J, _⟩ := J.look
  obtain ⟨P, Z, p, _⟩ := kit_of I ry ty
  show wpAny (model X.prog X.w) X.A (richCompare .NotEq (.ref a) u) (EP X pins σ Q) X.xe s
  refine PySem.MyX.cmp_ne (tb := t) (by have := hr.units; omega) I.kIn J (Z.ty _ _ I.kIn p) nf T.ne T.eq T.fn T.mo ?_
  refine wpAny_mono (run_at F hr.in1 rfl hb I (.cons rx' (.cons ry .nil)) hsp) (fun w s' z => ?_) fun _ _ z => z
  obtain ⟨v, H', I', rv, r, rfl, q⟩ := z
  cases (show w = Value.bool r from rv)
  exact ⟨r, rfl, .bl (!r), H', I', rfl, q⟩
theorem op_eqF (F : FnOk X.prog X.w X.K X.mg X.base CX0 k f fd ps sp) (hr : Room (k + 1) X.A) (hb : Binds X.K fd ps []) : OpR X (compareOp .Eq) (rEqF X.K f sp) := by
  intro pins s σ H x y v u Q I rx ry h
  obtain ⟨a, C, dx, b, D, dy, fs, gs, rfl, rfl, ha, hb', T, hne, hsub, hsp⟩ := h
  have rx' := rx
  have ry' := ry
  cases rx
  cases ry
  obtain ⟨mA, J, _⟩ := ins_get I.hok ha
  obtain ⟨od, J, _⟩ := J.look
  obtain ⟨mB, J2, _⟩ := ins_get I.hok hb'
  obtain ⟨od2, J2, _⟩ := J2.look
  show wpAny (model X.prog X.w) X.A (richCompare .Eq (.ref a) (.ref b)) (EP X pins σ Q) X.xe s
  refine PySem.MyX.cmp_first hr.units0 I.kIn J J2 hne hsub T.eq T.fn ?_
  refine wpAny_mono (run_at F (hr.mono (Nat.le_succ k)) rfl hb I (.cons ry' (.cons rx' .nil)) hsp) (fun w s' z => ?_) fun _ _ z => z
  obtain ⟨v, H', I', rv, r, rfl, q⟩ := z
  cases (show w = Value.bool r from rv)
  exact ⟨.bl r, H', I', rfl, q⟩
/-- a method of no further argument that hands back b -/
def spCst (b : Bool) : Sp := fun vs H Q _ => vs.length = 1 ∧ Q (.bl b) H
/-- bool(x), x an instance with an own __bool__ at g -/
def rBoolP (X : Cx) (k : Nat) : List V → Hp → VK → Prop := fun xs H Q => ∃ (a C dx g : Addr) (fs : List (Str × V)) (fd : FuncData) (ps : List Str) (b : Bool), xs = [.ref a] ∧ H a = some (.ins C dx fs) ∧ PySem.W.findIn X.K (.ref C) "__bool__" = some (some (.ref g)) ∧ PySem.W.isFn X.K (.ref g) = true ∧
  FnOk X.prog X.w X.K X.mg X.base CX0 k g fd ps (spCst b) ∧ Binds X.K fd ps [] ∧ Q (.bl b) H
theorem call_boolP (hr : Room (k + 2) X.A) : CallR X (.type "bool") (rBoolP X k) := by
  intro pins s σ H xs us Q I r h
  obtain ⟨a, C, dx, g, fs, fd, ps, b, rfl, ha, hg, hfn, F, hb, q⟩ := h
  obtain ⟨u, rfl, r1⟩ := vals1 r
  have r1' := r1
  cases r1
  obtain ⟨mA, J, _⟩ := ins_get I.hok ha
  obtain ⟨od, J, _⟩ := J.look
  obtain ⟨m, hFr⟩ := I.fr
  refine PySem.MyX.call_bool_truth (PySem.W.truthy_K hFr I.ok.mod.kin J hg hfn ?_)
  refine wpAny_mono (run_at (Q := fun v H' => v = .bl b ∧ Q v H') F hr.in1.in1 rfl hb I (.cons r1' .nil) ⟨rfl, rfl, q⟩) (fun w s' z => ?_) fun _ _ z => z
  obtain ⟨v, H', I', rv, rfl, q⟩ := z
  cases (show w = Value.bool b from rv)
  exact ⟨.bl b, H', I', rfl, q⟩
end
end My

set_option maxHeartbeats 4000000
namespace My
open PySem PySem.Spec PyProof.Rows L2
local macro_rules | `(tactic| walk_at "rd1") => `(tactic| first
  | refine ⟨_, rfl, ?_⟩
  | refine ⟨_, _, rfl, rfl, ?_⟩
  | refine Or.inl ⟨_, rfl, ?_⟩
  | refine Or.inr ⟨_, rfl, ?_⟩
  | refine ⟨_, _, _, _, rfl, rfl, Or.inl (Or.inl (by assumption)), rfl, ?_⟩
  | refine ⟨_, _, rfl, Or.inl (Or.inl (Or.inl (by assumption))), ?_⟩)
local macro_rules | `(tactic| walk_at "rd") => `(tactic| repeat walk_at "rd1")
abbrev sPInit : Stmt := inClass (top 3) 0
abbrev sPBool : Stmt := inClass (top 3) 1
abbrev sPEq : Stmt := inClass (top 3) 2
abbrev sDBool : Stmt := inClass (top 4) 0
abbrev FnM (K : PySem.W.Frag) (x q : Str) (st : Stmt) (f : Addr) (fd : FuncData) : Prop := FunD K x q (defArgs st) (defBody st) (defScope st) [] [] f fd
/-- lists and tuples as they were -/
def SD (H H' : Hp) : Prop := ∀ b xs, (H b = some (.lst xs) → H' b = some (.lst xs)) ∧ (H b = some (.tup xs) → H' b = some (.tup xs))
theorem Same.sd {H H' : Hp} (e : Same H H') : SD H H' := fun b xs => ⟨e b _, e b _⟩
theorem sm_sd {a C dx : Addr} {fs : List (Str × V)} {H H' : Hp} (ha : H a = some (.ins C dx fs)) (e : Sm a H H') : SD H H' := fun b xs =>
  ⟨fun h => e b _ (fun z => by rw [z, ha] at h; cases h) h, fun h => e b _ (fun z => by rw [z, ha] at h; cases h) h⟩
mutual
theorem Dh.sd {H H' : Hp} (e : SD H H') : ∀ (d : PyData) (v : V), Dh H v d → Dh H' v d
  | _, _, .non => .non
  | _, _, .bl b => .bl b
  | _, _, .int i => .int i
  | _, _, .str x => .str x
  | _, _, .lst (ds := ds) h l a => .lst ((e _ _).1 h) l (DhAll.sd e ds _ a)
  | _, _, .tup (ds := ds) h l a => .tup ((e _ _).2 h) l (DhAll.sd e ds _ a)
theorem DhAll.sd {H H' : Hp} (e : SD H H') : ∀ (ds : List PyData) (vs : List V), DhAll H vs ds → DhAll H' vs ds
  | _, _, .nil => .nil
  | _, _, .cons (d := d) (ds := ds) h r => .cons (Dh.sd e d _ h) (DhAll.sd e ds _ r)
end
def pfs (w : Str) (v : V) : List (Str × V) := [("word", .str w), ("parts", v)]
theorem kwp : ¬ (("parts" : Str) = "word") := by decide +kernel
theorem pfs_put (w : Str) (v : V) : putF "parts" v (putF "word" (.str w) []) = pfs w v := by
  show (if ("word" : Str) = "parts" then _ else _) = _
  rw [if_neg (fun z => kwp z.symm)]
  rfl
theorem pfs_word (w : Str) (v : V) : (pfs w v).lookup ("word" : Str) = some (.str w) := rfl
theorem pfs_parts (w : Str) (v : V) : (pfs w v).lookup ("parts" : Str) = some v := rfl
/-- the classes Paper and Denial as the top left them: P is Paper's address -/
structure PapC (K : PySem.W.Frag) (P C : Addr) (nm : Str) : Prop where
  n : ClsN K C nm
  nw : NoAttr K C "word"
  np : NoAttr K C "parts"
  kit : PySem.W.kitOne K (.ref C) (.ref P) = some true
/-- a paper at a -/
structure PapAt (K : PySem.W.Frag) (P : Addr) (H : Hp) (a C : Addr) (w : Str) (v : V) (d : PyData) (nm : Str) : Prop where
  c : PapC K P C nm
  o : ∃ dx, H a = some (.ins C dx (pfs w v))
  d : Dh H v d
theorem PapAt.same {K : PySem.W.Frag} {P : Addr} {H H' : Hp} {a C : Addr} {w : Str} {v : V} {d : PyData} {nm : Str} (h : PapAt K P H a C w v d nm) (e : Same H H') : PapAt K P H' a C w v d nm :=
  ⟨h.c, by obtain ⟨dx, z⟩ := h.o; exact ⟨dx, e _ _ z⟩, Dh.same e _ _ h.d⟩
theorem PapAt.ty {K : PySem.W.Frag} {P : Addr} {H : Hp} {a C : Addr} {w : Str} {v : V} {d : PyData} {nm : Str} (h : PapAt K P H a C w v d nm) : TyX K H (.ref a) (.ref C) := by
  obtain ⟨dx, z⟩ := h.o
  exact .base (.ins z h.c.n.cl h.c.n.ca h.c.n.sp h.c.n.tk h.c.n.mo)
/-- __init__ behind its binding -/
def spPI (K : PySem.W.Frag) (P : Addr) (n : Nat) : Sp := fun vs H Q _ => ∃ (a t C dx : Addr) (w nm : Str) (xs : List V) (ds : List PyData), vs = [.ref a, .str w, .ref t] ∧ H a = some (.ins C dx []) ∧ PapC K P C nm ∧ H t = some (.tup xs) ∧ xs.length ≤ 100 ∧ DhAll H xs ds ∧ depAll ds + 1 < n ∧
  ∀ v H', Sm a H H' → H' a = some (.ins C dx (pfs w v)) → Dh H' v (.tuple (tupdAll ds)) → Q .non H'
def spEqv (K : PySem.W.Frag) (P : Addr) : Sp := fun vs H Q _ => ∃ (a C : Addr) (y : V) (w nm : Str) (v : V) (d : PyData), vs = [.ref a, y] ∧ PapAt K P H a C w v d nm ∧ PyData.canLay0 d = true ∧ PyData.canLay0 (.str w) = true ∧ dep d ≤ 5 ∧
  ((∃ t, TyX K H y t ∧ PySem.W.kitOne K t (.ref P) = some false ∧ ∀ H', Same H H' → Q (.bl false) H') ∨
   (∃ (b D : Addr) (w2 nm2 : Str) (v2 : V) (d2 : PyData), y = .ref b ∧ PapAt K P H b D w2 v2 d2 nm2 ∧ PyData.canLay0 d2 = true ∧ PyData.canLay0 (.str w2) = true ∧ dep d2 ≤ 5 ∧ ∀ H', Same H H' → Q (.bl ((nm == nm2) && alike (.tuple [.str w, d]) (.tuple [.str w2, d2]))) H'))
structure TxtP (K : PySem.W.Frag) (mg : Str → Option Value) (P : Addr) : Prop where
  n_isi : mg "isinstance" = none
  mP : mg "Paper" = some (.ref P)
section
variable {Pr : Program} {w : World} {K : PySem.W.Frag} {mg : Str → Option Value} {base : Heap} {f fF fL P : Addr} {fd fdF fdL : FuncData}
theorem scPB : FnScope ["self"] ["self"] (defScope sPBool) := ⟨rfl, rfl, rfl, by decide +kernel, rfl, by decide +kernel, by decide +kernel⟩
theorem scDB : FnScope ["self"] ["self"] (defScope sDBool) := ⟨rfl, rfl, rfl, by decide +kernel, rfl, by decide +kernel, by decide +kernel⟩
theorem scPE : FnScope ["self", "other"] ["self", "other"] (defScope sPEq) := ⟨rfl, rfl, rfl, by decide +kernel, rfl, by decide +kernel, by decide +kernel⟩
theorem scPI : FnScope ["self", "word", "parts"] ((["self", "word"] : List Str) ++ (["parts"] : List Str)) (defScope sPInit) := ⟨rfl, rfl, rfl, by decide +kernel, rfl, by decide +kernel, by decide +kernel⟩
theorem ok_pbool (F : FnM K "__bool__" "Paper.__bool__" sPBool f fd) : FnOk Pr w K mg base CX0 1 f fd ["self"] (spCst true) := by
  refine F.ok scPB (fun vs H Q E h => h.1) (fun cdv A outer s H vs Q E hr h => ?_)
  exact ⟨_, PSs.nox (pss_one (ps_ret pe_bl)), h.2⟩
theorem ok_dbool (F : FnM K "__bool__" "Denial.__bool__" sDBool f fd) : FnOk Pr w K mg base CX0 1 f fd ["self"] (spCst false) := by
  refine F.ok scDB (fun vs H Q E h => h.1) (fun cdv A outer s H vs Q E hr h => ?_)
  exact ⟨_, PSs.nox (pss_one (ps_ret pe_bl)), h.2⟩
theorem ok_peq (F : FnM K "__eq__" "Paper.__eq__" sPEq f fd) (FL : FnP K "are_like" sLike fL fdL) (GL : FnOk Pr w K mg base CX0 8 fL fdL ["one", "other"] (spLike 8)) (bL : Binds K fdL ["one", "other"] []) (mL : mg "are_like" = some (.ref fL)) (T : TxtP K mg P) :
    FnOk Pr w K mg base CX0 9 f fd ["self", "other"] (spEqv K P) := by
  refine F.ok scPE (fun vs H Q E h => ?_) (fun cdv A outer s H vs Q E hr h => ?_)
  · obtain ⟨a, C, y, w, nm, v, d, rfl, _⟩ := h
    rfl
  obtain ⟨a, C, y, w1, nm, v, d, rfl, pa, ld, lw, dd, hh⟩ := h
  have nd := scPE.nd
  refine ⟨_, PSs.nox (pss_cons (ps_if (PW.pt (pw_or (pt_not (pt_val (pe_callB call_isi (by rfl) T.n_isi (by decide +kernel) (pa_cons (pv 1) (pa_cons (pe_glob (v := .ref P) (by rfl) T.mP rfl) pa_nil))))) (pw_or1 (pt_cmpR op_ne (pe_nm (pe_cls (pv 0))) (pe_nm (pe_cls (pv 1))) (nomark _)))))
      (pss_one (ps_ret pe_bl))
      pss_nil)
    (pss_one (ps_ret (pe_call GL hr rfl mL FL.kp bL .nil pass0 (pa_cons (pe_tup (pa_cons (pe_fld (pv 0) rfl) (pa_cons (pe_fld (pv 0) rfl) pa_nil))) (pa_cons (pe_tup (pa_cons (pe_fld (pv 1) rfl) (pa_cons (pe_fld (pv 1) rfl) pa_nil))) pa_nil)))))), ?_⟩
  walk_at "rd"
  obtain ⟨dx, ha⟩ := pa.o
  rcases hh with ⟨t, ty, kt, k⟩ | ⟨b, D, w2, nm2, v2, d2, rfl, pb, ld2, lw2, dd2, k⟩
  · refine ⟨y, .ref P, t, _, false, rfl, .own _, ty, kt, _, rfl, ?_⟩
    exact k H (Same.refl H)
  · obtain ⟨dy, hb⟩ := pb.o
    refine ⟨.ref b, .ref P, .ref D, _, true, rfl, .own _, pb.ty, pb.c.kit, _, rfl, ?_⟩
    refine iteF ?_
    walk_at "rd"
    refine ⟨a, C, dx, _, nm, rfl, ha, pa.c.n, C, nm, rfl, pa.c.n, ?_⟩
    walk_at "rd"
    refine ⟨b, D, dy, _, nm2, rfl, hb, pb.c.n, D, nm2, rfl, pb.c.n, rfl, _, rfl, ?_⟩
    refine ite2 (fun c => ?_) (fun c => ?_)
    · have e : (nm == nm2) = false := by
        have c1 : (!decide (V.str nm = V.str nm2)) = true := c
        refine beq_eq_false_iff_ne.mpr fun z => ?_
        rw [z, decide_eq_true rfl] at c1
        cases c1
      have z := k H (Same.refl H)
      rw [e] at z
      exact z
    · have e : (nm == nm2) = true := by
        by_cases z : nm = nm2
        · exact beq_iff_eq.mpr z
        · exact absurd (show (!decide (V.str nm = V.str nm2)) = true by rw [decide_eq_false (fun q => z (by injection q))]; rfl) c
      refine ⟨_, rfl, a, C, dx, _, _, rfl, ha, pa.c.n.cl, pa.c.nw, pfs_word _ _, _, rfl, a, C, dx, _, _, rfl, ha, pa.c.n.cl, pa.c.np, pfs_parts _ _, by show 2 ≤ sizeLine; decide, fun p hp => ?_⟩
      have s1 : Same H (upd H p (.tup [V.str w1, v])) := same_new hp _
      refine ⟨_, rfl, b, D, dy, _, _, rfl, s1 _ _ hb, pb.c.n.cl, pb.c.nw, pfs_word _ _, _, rfl, b, D, dy, _, _, rfl, s1 _ _ hb, pb.c.n.cl, pb.c.np, pfs_parts _ _, by show 2 ≤ sizeLine; decide, fun q hq => ?_⟩
      have s2 : Same (upd H p (.tup [V.str w1, v])) (upd (upd H p (.tup [V.str w1, v])) q (.tup [V.str w2, v2])) := same_new hq _
      have s3 := s1.trans s2
      have t1 : PyData.canLay0 (.tuple [.str w1, d]) = true := by
        show (PyData.canLay0 (.str w1) && (PyData.canLay0 d && true)) = true
        rw [lw, ld]
        rfl
      have t2 : PyData.canLay0 (.tuple [.str w2, d2]) = true := by
        show (PyData.canLay0 (.str w2) && (PyData.canLay0 d2 && true)) = true
        rw [lw2, ld2]
        rfl
      have d1 : dep (.tuple [.str w1, d]) ≤ 6 := by
        show max 0 (max (PyData.depth d) 0) + 1 ≤ 6
        have z : PyData.depth d ≤ 5 := dd
        omega
      have d3 : dep (.tuple [.str w2, d2]) ≤ 6 := by
        show max 0 (max (PyData.depth d2) 0) + 1 ≤ 6
        have z : PyData.depth d2 ≤ 5 := dd2
        omega
      refine ⟨.ref p, .ref q, .tuple [.str w1, d], .tuple [.str w2, d2], rfl, .tup (s2 _ _ upd_same) (by show 2 ≤ 100; decide) (.cons (.str _) (.cons (Dh.same s3 _ _ pa.d) .nil)), .tup upd_same (by show 2 ≤ 100; decide) (.cons (.str _) (.cons (Dh.same s3 _ _ pb.d) .nil)), t1, t2, by omega, by omega, by omega, fun H' e' => ?_⟩
      have z := k H' (s3.trans e')
      rw [e] at z
      exact z
/-- Paper(word, *parts) -/
theorem ok_pinit (F : FnM K "__init__" "Paper.__init__" sPInit f fd) (FF : FnP K "fixed" sFixed fF fdF) (GF : ∀ n, FnOk Pr w K mg base CX0 n fF fdF ["value"] (spTup n)) (bF : Binds K fdF ["value"] []) (mF : mg "fixed" = some (.ref fF)) (n : Nat) :
    FnR Pr w K mg base CX0 (n + 1) f (fun vs H Q E => ∃ ws rest, vs = ws ++ rest ∧ ws.length = (["self", "word"] : List Str).length ∧ rest.length ≤ sizeLine ∧ ∀ p, H p = none → spPI K P n (ws ++ [V.ref p]) (upd H p (.tup rest)) Q E) := by
  obtain ⟨oc, od, dV, kV, doc, pm, an, cdv, ct, osl, rfl, lk, hcd, hD, hK⟩ := F.ex
  have hdV : dV = .none := by
    rcases hD with ⟨_, e⟩ | ⟨e, _⟩
    · exact e
    · exact absurd rfl e
  subst hdV
  refine StX.fn_star lk hcd scPI StX.cxUp_none (StX.bind_star2 (p1 := "self") (p2 := "word") (pv := "parts") (B := fun us => bindArgs (PySem.W.fnOf "__init__" "Paper.__init__" (defArgs sPInit) (defBody sPInit) (defScope sPInit) .none kV doc pm an cdv ct) ⟨us, []⟩) (fun a b => rfl) (fun a b r rs => rfl)) fun A outer s H vs Q E hr h => ?_
  obtain ⟨a, t, C, dx, w1, nm, xs, ds, rfl, ha, pc, ht, hl, hds, hn, k⟩ := h
  have nd := scPI.nd
  refine ⟨_, (pss_cons (ps_fld (pv 0) (pv 1) rfl)
    (pss_one (ps_fld (pv 0) (pe_call (GF n) hr rfl mF FF.kp bF .nil pass0 (pa_cons (pv 2) pa_nil)) rfl))), ?_⟩
  walk_at "rd"
  refine ⟨a, C, dx, [], rfl, ha, pc.n.cl, pc.nw, by decide, ?_⟩
  have sm1 : Sm a H (upd H a (HO.ins C dx (putF "word" (V.str w1) []))) := Sm.at .refl
  have ha1 : upd H a (HO.ins C dx (putF "word" (V.str w1) [])) a = some (.ins C dx (putF "word" (V.str w1) [])) := upd_same
  have sd1 : SD H (upd H a (HO.ins C dx (putF "word" (V.str w1) []))) := sm_sd ha sm1
  generalize upd H a (HO.ins C dx (putF "word" (V.str w1) [])) = H1 at sm1 ha1 sd1 ⊢
  walk_at "rd"
  refine ⟨.ref t, .tuple ds, rfl, .tup ((sd1 _ _).2 ht) hl (DhAll.sd sd1 _ _ hds), hn, fun v' H2 e2 hv => ?_⟩
  have ha2 := e2 _ _ ha1
  have hv2 : Dh H2 v' (.tuple (tupdAll ds)) := Dh.same ho_same _ _ hv
  walk_at "rd"
  refine ⟨a, C, dx, _, rfl, ha2, pc.n.cl, pc.np, by show 1 < 1000; decide, ?_⟩
  rw [pfs_put]
  have sm3 : Sm a H2 (upd H2 a (HO.ins C dx (pfs w1 v'))) := Sm.at .refl
  exact k v' _ ((sm1.trans (Same.sm e2)).trans sm3) upd_same (Dh.sd (sm_sd ha2 sm3) _ _ hv2)
end
end My

set_option maxHeartbeats 4000000
namespace My
open PySem PySem.Spec PyProof.Rows L2
/-! ### the signs of a shown data -/
def sg (d : PyData) : List Nat := (PyData.shown d).cps.toList
theorem cps_app (x y : Str) : (x ++ y).cps.toList = x.cps.toList ++ y.cps.toList := by
  show (x.cps ++ y.cps).toList = _
  exact Array.toList_append
/-- behind the first of more than one -/
def bod2 : List PyData → List Nat
  | [] => []
  | [d] => sg d ++ [41]
  | d :: e :: r => sg d ++ 44 :: 32 :: bod2 (e :: r)
def bod : List PyData → List Nat
  | [] => [41]
  | [d] => sg d ++ [44, 41]
  | d :: e :: r => bod2 (d :: e :: r)
theorem join_bod2 : ∀ (d : PyData) (r : List PyData), (Str.join ", " (PyData.shownAll (d :: r))).cps.toList ++ [41] = bod2 (d :: r)
  | d, [] => rfl
  | d, e :: r => by
    show ((PyData.shown d ++ (", " : Str)) ++ Str.join ", " (PyData.shownAll (e :: r))).cps.toList ++ [41] = sg d ++ 44 :: 32 :: bod2 (e :: r)
    rw [cps_app, cps_app, ← join_bod2 e r]
    show ((PyData.shown d).cps.toList ++ [44, 32]) ++ _ ++ [41] = _
    simp [sg]
theorem shownAll_len : ∀ ds : List PyData, (PyData.shownAll ds).length = ds.length
  | [] => rfl
  | _ :: ds => congrArg Nat.succ (shownAll_len ds)
theorem sg_tup : ∀ ds : List PyData, sg (.tuple ds) = 40 :: bod ds
  | [] => by
    show (PyData.shown (.tuple [])).cps.toList = [40, 41]
    decide +kernel
  | [d] => by
    show ((("(" : Str) ++ PyData.shown d) ++ (",)" : Str)).cps.toList = 40 :: (sg d ++ [44, 41])
    rw [cps_app, cps_app]
    rfl
  | d :: e :: r => by
    show (tupleText (PyData.shownAll (d :: e :: r))).cps.toList = 40 :: bod2 (d :: e :: r)
    unfold tupleText
    rw [shownAll_len, if_neg (by simp), cps_app, cps_app, List.append_assoc]
    show [40] ++ (_ ++ [41]) = _
    rw [join_bod2]
    rfl
def atoms : List PyData := [.none, .bool true, .str "ab", .int (10 ^ 40)] ++ (List.range 149).map fun k => .int ((k : Int) - 50)
theorem atoms_nd : (atoms.map sg).Nodup := by decide +kernel
def okA (l : List Nat) : Bool := match l with
  | [] => false
  | c :: r => !decide (c = 40) && (c :: r).all fun c => !decide (c = 44) && !decide (c = 41)
theorem atoms_ok : (atoms.all fun a => okA (sg a)) = true := by decide +kernel
/-- tupled data -/
inductive Dt : Nat → PyData → Prop
  | at_ {n d} : d ∈ atoms → Dt n d
  | tup {n ds} : ds.length ≤ 7 → (∀ d ∈ ds, Dt n d) → Dt (n + 1) (.tuple ds)
def stop (r : List Nat) : Prop := ∀ c t, r = c :: t → c = 44 ∨ c = 41
theorem span_eq : ∀ {l1 l2 r r' : List Nat}, (∀ c ∈ l1, c ≠ 44 ∧ c ≠ 41) → (∀ c ∈ l2, c ≠ 44 ∧ c ≠ 41) → stop r → stop r' → l1 ++ r = l2 ++ r' → l1 = l2 ∧ r = r'
  | [], [], r, r', _, _, _, _, h => ⟨rfl, h⟩
  | [], c :: l2, r, r', _, h2, s1, _, h => by
    have z := s1 c (l2 ++ r') h
    have y := h2 c List.mem_cons_self
    rcases z with z | z
    · exact absurd z y.1
    · exact absurd z y.2
  | c :: l1, [], r, r', h1, _, _, s2, h => by
    have z := s2 c (l1 ++ r) h.symm
    have y := h1 c List.mem_cons_self
    rcases z with z | z
    · exact absurd z y.1
    · exact absurd z y.2
  | c :: l1, e :: l2, r, r', h1, h2, s1, s2, h => by
    have h' : c :: (l1 ++ r) = e :: (l2 ++ r') := h
    obtain ⟨hc, ht⟩ := List.cons.inj h'
    obtain ⟨e1, e2⟩ := span_eq (fun c hc => h1 c (List.mem_cons_of_mem _ hc)) (fun c hc => h2 c (List.mem_cons_of_mem _ hc)) s1 s2 ht
    exact ⟨by rw [hc, e1], e2⟩
theorem map_inj {α β : Type} {f : α → β} : ∀ {l : List α}, (l.map f).Nodup → ∀ {a b : α}, a ∈ l → b ∈ l → f a = f b → a = b
  | [], _, a, b, h, _, _ => by cases h
  | x :: l, hn, a, b, ha, hb, e => by
    have hn' : (f x :: l.map f).Nodup := hn
    obtain ⟨n1, n2⟩ := List.nodup_cons.mp hn'
    rcases List.mem_cons.mp ha with rfl | ha'
    · rcases List.mem_cons.mp hb with rfl | hb'
      · rfl
      · exact absurd (e ▸ List.mem_map_of_mem hb') n1
    · rcases List.mem_cons.mp hb with rfl | hb'
      · exact absurd (e ▸ List.mem_map_of_mem ha') n1
      · exact map_inj n2 ha' hb' e
theorem atom_sg {a : PyData} (h : a ∈ atoms) : (∃ c t, sg a = c :: t ∧ c ≠ 40) ∧ ∀ c ∈ sg a, c ≠ 44 ∧ c ≠ 41 := by
  have z := List.all_eq_true.mp atoms_ok a h
  cases e : sg a with
  | nil =>
    rw [e] at z
    cases z
  | cons c t =>
    rw [e] at z
    have z1 : (!decide (c = 40) && (c :: t).all fun c => !decide (c = 44) && !decide (c = 41)) = true := z
    obtain ⟨z2, z3⟩ := Bool.and_eq_true_iff.mp z1
    refine ⟨⟨c, t, rfl, by simpa using z2⟩, fun x hx => ?_⟩
    have z4 := List.all_eq_true.mp z3 x hx
    obtain ⟨z5, z6⟩ := Bool.and_eq_true_iff.mp z4
    exact ⟨by simpa using z5, by simpa using z6⟩
theorem dt_head {n : Nat} {d : PyData} (h : Dt n d) : ∃ c t, sg d = c :: t ∧ c ≠ 41 ∧ c ≠ 44 := by
  cases h with
  | at_ h =>
    obtain ⟨⟨c, t, e, _⟩, k⟩ := atom_sg h
    have z := k c (by rw [e]; exact List.mem_cons_self)
    exact ⟨c, t, e, z.2, z.1⟩
  | tup _ _ => exact ⟨40, _, sg_tup _, by decide, by decide⟩
def InjP (n : Nat) : Prop := ∀ d e r r', Dt n d → Dt n e → stop r → stop r' → sg d ++ r = sg e ++ r' → d = e ∧ r = r'
theorem stop44 (t : List Nat) : stop (44 :: t) := fun c u e => .inl (List.cons.inj e).1.symm
theorem stop41 (t : List Nat) : stop (41 :: t) := fun c u e => .inr (List.cons.inj e).1.symm
theorem bod2_inj {n : Nat} (ih : InjP n) : ∀ (d e : PyData) (ds es : List PyData) (r r' : List Nat), (∀ x ∈ d :: ds, Dt n x) → (∀ x ∈ e :: es, Dt n x) → bod2 (d :: ds) ++ r = bod2 (e :: es) ++ r' → d :: ds = e :: es ∧ r = r'
  | d, e, [], [], r, r', h1, h2, h => by
    have h' : sg d ++ 41 :: r = sg e ++ 41 :: r' := by simpa [bod2] using h
    obtain ⟨a, b⟩ := ih d e _ _ (h1 d List.mem_cons_self) (h2 e List.mem_cons_self) (stop41 _) (stop41 _) h'
    exact ⟨by rw [a], (List.cons.inj b).2⟩
  | d, e, [], f :: es, r, r', h1, h2, h => by
    have h' : sg d ++ 41 :: r = sg e ++ 44 :: (32 :: bod2 (f :: es) ++ r') := by simpa [bod2] using h
    obtain ⟨a, b⟩ := ih d e _ _ (h1 d List.mem_cons_self) (h2 e List.mem_cons_self) (stop41 _) (stop44 _) h'
    exact absurd (List.cons.inj b).1 (by decide)
  | d, e, f :: ds, [], r, r', h1, h2, h => by
    have h' : sg d ++ 44 :: (32 :: bod2 (f :: ds) ++ r) = sg e ++ 41 :: r' := by simpa [bod2] using h
    obtain ⟨a, b⟩ := ih d e _ _ (h1 d List.mem_cons_self) (h2 e List.mem_cons_self) (stop44 _) (stop41 _) h'
    exact absurd (List.cons.inj b).1 (by decide)
  | d, e, f :: ds, g :: es, r, r', h1, h2, h => by
    have h' : sg d ++ 44 :: (32 :: bod2 (f :: ds) ++ r) = sg e ++ 44 :: (32 :: bod2 (g :: es) ++ r') := by simpa [bod2] using h
    obtain ⟨a, b⟩ := ih d e _ _ (h1 d List.mem_cons_self) (h2 e List.mem_cons_self) (stop44 _) (stop44 _) h'
    have b2 : bod2 (f :: ds) ++ r = bod2 (g :: es) ++ r' := (List.cons.inj (List.cons.inj b).2).2
    obtain ⟨c1, c2⟩ := bod2_inj ih f g ds es r r' (fun x hx => h1 x (List.mem_cons_of_mem _ hx)) (fun x hx => h2 x (List.mem_cons_of_mem _ hx)) b2
    exact ⟨by rw [a, c1], c2⟩
theorem bod_inj {n : Nat} (ih : InjP n) : ∀ (ds es : List PyData) (r r' : List Nat), (∀ x ∈ ds, Dt n x) → (∀ x ∈ es, Dt n x) → bod ds ++ r = bod es ++ r' → ds = es ∧ r = r'
  | [], [], r, r', _, _, h => ⟨rfl, (List.cons.inj h).2⟩
  | [], [e], r, r', _, h2, h => by
    obtain ⟨c, t, e1, n1, _⟩ := dt_head (h2 e List.mem_cons_self)
    have h' : 41 :: r = (sg e ++ [44, 41]) ++ r' := h
    rw [e1] at h'
    exact absurd (List.cons.inj h').1.symm n1
  | [], e :: f :: es, r, r', _, h2, h => by
    obtain ⟨c, t, e1, n1, _⟩ := dt_head (h2 e List.mem_cons_self)
    have h' : 41 :: r = (sg e ++ 44 :: 32 :: bod2 (f :: es)) ++ r' := h
    rw [e1] at h'
    exact absurd (List.cons.inj h').1.symm n1
  | [d], [], r, r', h1, _, h => by
    obtain ⟨c, t, e1, n1, _⟩ := dt_head (h1 d List.mem_cons_self)
    have h' : (sg d ++ [44, 41]) ++ r = 41 :: r' := h
    rw [e1] at h'
    exact absurd (List.cons.inj h').1 n1
  | d :: f :: ds, [], r, r', h1, _, h => by
    obtain ⟨c, t, e1, n1, _⟩ := dt_head (h1 d List.mem_cons_self)
    have h' : (sg d ++ 44 :: 32 :: bod2 (f :: ds)) ++ r = 41 :: r' := h
    rw [e1] at h'
    exact absurd (List.cons.inj h').1 n1
  | [d], [e], r, r', h1, h2, h => by
    have h' : sg d ++ 44 :: 41 :: r = sg e ++ 44 :: 41 :: r' := by simpa [bod] using h
    obtain ⟨a, b⟩ := ih d e _ _ (h1 d List.mem_cons_self) (h2 e List.mem_cons_self) (stop44 _) (stop44 _) h'
    exact ⟨by rw [a], (List.cons.inj (List.cons.inj b).2).2⟩
  | [d], e :: f :: es, r, r', h1, h2, h => by
    have h' : sg d ++ 44 :: 41 :: r = sg e ++ 44 :: (32 :: bod2 (f :: es) ++ r') := by simpa [bod, bod2] using h
    obtain ⟨a, b⟩ := ih d e _ _ (h1 d List.mem_cons_self) (h2 e List.mem_cons_self) (stop44 _) (stop44 _) h'
    exact absurd (List.cons.inj (List.cons.inj b).2).1 (by decide)
  | d :: f :: ds, [e], r, r', h1, h2, h => by
    have h' : sg d ++ 44 :: (32 :: bod2 (f :: ds) ++ r) = sg e ++ 44 :: 41 :: r' := by simpa [bod, bod2] using h
    obtain ⟨a, b⟩ := ih d e _ _ (h1 d List.mem_cons_self) (h2 e List.mem_cons_self) (stop44 _) (stop44 _) h'
    exact absurd (List.cons.inj (List.cons.inj b).2).1 (by decide)
  | d :: f :: ds, e :: g :: es, r, r', h1, h2, h => bod2_inj ih d e (f :: ds) (g :: es) r r' h1 h2 h
theorem atom_inj {a b : PyData} {r r' : List Nat} (ha : a ∈ atoms) (hb : b ∈ atoms) (s1 : stop r) (s2 : stop r') (h : sg a ++ r = sg b ++ r') : a = b ∧ r = r' := by
  obtain ⟨e1, e2⟩ := span_eq (atom_sg ha).2 (atom_sg hb).2 s1 s2 h
  exact ⟨map_inj atoms_nd ha hb e1, e2⟩
theorem injP : ∀ n, InjP n
  | 0 => fun d e r r' h1 h2 s1 s2 h => by
    cases h1 with
    | at_ ha =>
      cases h2 with
      | at_ hb => exact atom_inj ha hb s1 s2 h
  | n + 1 => fun d e r r' h1 h2 s1 s2 h => by
    cases h1 with
    | at_ ha =>
      cases h2 with
      | at_ hb => exact atom_inj ha hb s1 s2 h
      | tup l2 k2 =>
        obtain ⟨⟨c, t, e1, n1⟩, _⟩ := atom_sg ha
        rw [e1, sg_tup] at h
        exact absurd (List.cons.inj h).1 n1
    | tup l1 k1 =>
      cases h2 with
      | at_ hb =>
        obtain ⟨⟨c, t, e1, n1⟩, _⟩ := atom_sg hb
        rw [e1, sg_tup] at h
        exact absurd (List.cons.inj h).1.symm n1
      | tup l2 k2 =>
        rw [sg_tup, sg_tup] at h
        obtain ⟨a, b⟩ := bod_inj (injP n) _ _ r r' k1 k2 (List.cons.inj h).2
        exact ⟨by rw [a], b⟩
theorem shown_inj {n : Nat} {d e : PyData} (h1 : Dt n d) (h2 : Dt n e) (h : PyData.shown d = PyData.shown e) : d = e := by
  have z : sg d ++ [] = sg e ++ [] := by unfold sg; rw [h]
  exact (injP n d e [] [] h1 h2 (fun c t e => nomatch e) (fun c t e => nomatch e) z).1
/-! ### alike is equality there -/
def okS : PyData → Bool
  | .none => true
  | .bool b => b
  | .int _ => true
  | .str _ => true
  | _ => false
theorem atoms_okS : (atoms.all okS) = true := by decide +kernel
theorem okS_alike {d e : PyData} (h1 : okS d = true) (h2 : okS e = true) : alike d e = true ↔ d = e := by
  cases d <;> cases e <;> first | (cases h1; done) | (cases h2; done) | skip
  all_goals simp_all [alike, isB, PyData.eqv, okS]
theorem okS_tup {d : PyData} {es : List PyData} (h1 : okS d = true) : alike d (.tuple es) = false ∧ alike (.tuple es) d = false := by
  cases d <;> first | (cases h1; done) | skip
  all_goals exact ⟨by simp [alike, isB, PyData.eqv], by simp [alike, isB, PyData.eqv]⟩
def AlP (n : Nat) : Prop := ∀ d e, Dt n d → Dt n e → (alike d e = true ↔ d = e)
theorem alAll {n : Nat} (ih : AlP n) : ∀ ds es : List PyData, (∀ x ∈ ds, Dt n x) → (∀ x ∈ es, Dt n x) → ds.length = es.length → (alikeAll ds es = true ↔ ds = es)
  | [], [], _, _, _ => by simp [alikeAll]
  | [], _ :: _, _, _, h => by cases h
  | _ :: _, [], _, _, h => by cases h
  | d :: ds, e :: es, h1, h2, h => by
    have a := ih d e (h1 d List.mem_cons_self) (h2 e List.mem_cons_self)
    have b := alAll ih ds es (fun x hx => h1 x (List.mem_cons_of_mem _ hx)) (fun x hx => h2 x (List.mem_cons_of_mem _ hx)) (Nat.succ.inj h)
    show (alike d e && alikeAll ds es) = true ↔ d :: ds = e :: es
    rw [Bool.and_eq_true_iff, a, b, List.cons.injEq]
theorem atomS {a : PyData} (h : a ∈ atoms) : okS a = true := List.all_eq_true.mp atoms_okS a h
theorem alTup {n : Nat} (ih : AlP n) {ds es : List PyData} (h1 : ∀ x ∈ ds, Dt n x) (h2 : ∀ x ∈ es, Dt n x) : alike (.tuple ds) (.tuple es) = true ↔ PyData.tuple ds = .tuple es := by
  rw [alike_tup, Bool.and_eq_true_iff]
  constructor
  · rintro ⟨a, b⟩
    rw [(alAll ih ds es h1 h2 (eq_of_beq a)).mp b]
  · intro h
    injection h with h
    subst h
    exact ⟨beq_self_eq_true _, (alAll ih ds ds h1 h1 rfl).mpr rfl⟩
theorem atomTup {n : Nat} {a : PyData} {es : List PyData} (h : a ∈ atoms) : (alike a (.tuple es) = true ↔ a = .tuple es) ∧ (alike (.tuple es) a = true ↔ .tuple es = a) := by
  have z := okS_tup (es := es) (atomS h)
  have ne : a ≠ .tuple es := fun q => by
    have y := atomS h
    rw [q] at y
    cases y
  rw [z.1, z.2]
  exact ⟨⟨fun q => Bool.noConfusion q, fun q => absurd q ne⟩, ⟨fun q => Bool.noConfusion q, fun q => absurd q.symm ne⟩⟩
theorem alP : ∀ n, AlP n
  | 0 => fun d e h1 h2 => by
    cases h1 with
    | at_ ha =>
      cases h2 with
      | at_ hb => exact okS_alike (atomS ha) (atomS hb)
  | n + 1 => fun d e h1 h2 => by
    cases h1 with
    | at_ ha =>
      cases h2 with
      | at_ hb => exact okS_alike (atomS ha) (atomS hb)
      | tup l2 k2 => exact (atomTup (n := n) ha).1
    | tup l1 k1 =>
      cases h2 with
      | at_ hb => exact (atomTup (n := n) hb).2
      | tup l2 k2 => exact alTup (alP n) k1 k2
theorem alike_iff {n : Nat} {d e : PyData} (h1 : Dt n d) (h2 : Dt n e) : alike d e = true ↔ d = e := alP n d e h1 h2
/-! ### sizes -/
inductive Dz : Nat → PyData → Prop
  | at_ {n d} : d ∈ atoms → Dz n d
  | lst {n ds} : ds.length ≤ 7 → (∀ d ∈ ds, Dz n d) → Dz (n + 1) (.list ds)
  | tup {n ds} : ds.length ≤ 7 → (∀ d ∈ ds, Dz n d) → Dz (n + 1) (.tuple ds)
def bnd : Nat → Nat
  | 0 => 50
  | n + 1 => 7 * bnd n + 17
theorem bnd50 : ∀ n, 50 ≤ bnd n
  | 0 => Nat.le_refl _
  | n + 1 => by
    have z := bnd50 n
    show 50 ≤ 7 * bnd n + 17
    omega
def okZ (d : PyData) : Bool := PyData.canLay0 d && (decide (PyData.depth d = 0) && (PyData.showable d && (decide ((PyData.shown d).length ≤ 50) && !PyData.hasDict d)))
theorem atoms_okZ : (atoms.all okZ) = true := by decide +kernel
/-- what the rules ask of such data -/
structure OkZ (n : Nat) (d : PyData) : Prop where
  lay : PyData.canLay0 d = true
  dp : PyData.depth d ≤ n
  sh : PyData.showable d = true
  len : (PyData.shown d).length ≤ bnd n
  nd : PyData.hasDict d = false
theorem atom_okz {n : Nat} {d : PyData} (h : d ∈ atoms) : OkZ n d := by
  have z := List.all_eq_true.mp atoms_okZ d h
  obtain ⟨z1, z⟩ := Bool.and_eq_true_iff.mp z
  obtain ⟨z2, z⟩ := Bool.and_eq_true_iff.mp z
  obtain ⟨z3, z⟩ := Bool.and_eq_true_iff.mp z
  obtain ⟨z4, z5⟩ := Bool.and_eq_true_iff.mp z
  refine ⟨z1, ?_, z3, Nat.le_trans (of_decide_eq_true z4) (bnd50 n), by simpa using z5⟩
  rw [of_decide_eq_true z2]
  exact Nat.zero_le _
theorem all_okz {n : Nat} : ∀ ds : List PyData, (∀ d ∈ ds, OkZ n d) → PyData.canLayAll0 ds = true ∧ PyData.depthAll ds ≤ n ∧ PyData.showableAll ds = true ∧ ((PyData.shownAll ds).map (·.length)).sum ≤ ds.length * bnd n ∧ PyData.hasDictAll ds = false
  | [], _ => ⟨rfl, Nat.zero_le _, rfl, Nat.zero_le _, rfl⟩
  | d :: ds, h => by
    obtain ⟨a1, a2, a3, a4, a5⟩ := h d List.mem_cons_self
    obtain ⟨b1, b2, b3, b4, b5⟩ := all_okz ds fun x hx => h x (List.mem_cons_of_mem _ hx)
    refine ⟨?_, ?_, ?_, ?_, ?_⟩
    · show (PyData.canLay0 d && PyData.canLayAll0 ds) = true
      rw [a1, b1]
      rfl
    · show max (PyData.depth d) (PyData.depthAll ds) ≤ n
      omega
    · show (PyData.showable d && PyData.showableAll ds) = true
      rw [a3, b3]
      rfl
    · show ((PyData.shown d).length :: (PyData.shownAll ds).map (·.length)).sum ≤ (ds.length + 1) * bnd n
      rw [List.sum_cons, Nat.add_mul, Nat.one_mul]
      omega
    · show (PyData.hasDict d || PyData.hasDictAll ds) = false
      rw [a5, b5]
      rfl
theorem okz : ∀ {n : Nat} {d : PyData}, Dz n d → OkZ n d
  | n, d, .at_ h => atom_okz h
  | n + 1, _, .lst (ds := ds) l k => by
    obtain ⟨b1, b2, b3, b4, b5⟩ := all_okz ds fun x hx => okz (k x hx)
    have z := listText_len_le (PyData.shownAll ds)
    rw [shownAll_len] at z
    have y : ds.length * bnd n ≤ 7 * bnd n := Nat.mul_le_mul_right _ l
    exact ⟨b1, by show PyData.depthAll ds + 1 ≤ n + 1; omega, b3, by show (listText (PyData.shownAll ds)).length ≤ 7 * bnd n + 17; omega, b5⟩
  | n + 1, _, .tup (ds := ds) l k => by
    obtain ⟨b1, b2, b3, b4, b5⟩ := all_okz ds fun x hx => okz (k x hx)
    have z := tupleText_len_le (PyData.shownAll ds)
    rw [shownAll_len] at z
    have y : ds.length * bnd n ≤ 7 * bnd n := Nat.mul_le_mul_right _ l
    exact ⟨b1, by show PyData.depthAll ds + 1 ≤ n + 1; omega, b3, by show (tupleText (PyData.shownAll ds)).length ≤ 7 * bnd n + 17; omega, b5⟩
theorem small_atom (i : Int) (h1 : -50 ≤ i) (h2 : i ≤ 98) : PyData.int i ∈ atoms := by
  refine List.mem_append_right _ (List.mem_map.mpr ⟨(i + 50).toNat, List.mem_range.mpr (by omega), ?_⟩)
  have e : (((i + 50).toNat : Nat) : Int) - 50 = i := by omega
  rw [e]
theorem dw_z : ∀ {n : Nat} {d : PyData}, Dw n d → Dz n d
  | _, _, .non => .at_ (by simp [atoms])
  | _, _, .tru => .at_ (by simp [atoms])
  | _, _, .small i h1 h2 => .at_ (small_atom i h1 h2)
  | _, _, .ab => .at_ (by simp [atoms])
  | _, _, .big => .at_ (by simp [atoms])
  | _, _, .lst l k => .lst (by omega) fun d hd => dw_z (k d hd)
  | _, _, .tup l k => .tup (by omega) fun d hd => dw_z (k d hd)
theorem atom_tupd {d : PyData} (h : d ∈ atoms) : tupd d = d := by
  have z := atomS h
  cases d <;> first | rfl | cases z
theorem mem_tupdAll : ∀ {ds : List PyData} {x : PyData}, x ∈ tupdAll ds → ∃ d ∈ ds, x = tupd d
  | [], x, h => by cases h
  | d :: ds, x, h => by
    rcases List.mem_cons.mp (show x ∈ tupd d :: tupdAll ds from h) with rfl | h
    · exact ⟨d, List.mem_cons_self, rfl⟩
    · obtain ⟨e, he, hx⟩ := mem_tupdAll h
      exact ⟨e, List.mem_cons_of_mem _ he, hx⟩
theorem dz_t : ∀ {n : Nat} {d : PyData}, Dz n d → Dt n (tupd d)
  | _, _, .at_ h => by rw [atom_tupd h]; exact .at_ h
  | _, _, .lst (ds := ds) l k => .tup (by rw [tupdAll_len]; exact l) fun x hx => by
    obtain ⟨d, hd, rfl⟩ := mem_tupdAll hx
    exact dz_t (k d hd)
  | _, _, .tup (ds := ds) l k => .tup (by rw [tupdAll_len]; exact l) fun x hx => by
    obtain ⟨d, hd, rfl⟩ := mem_tupdAll hx
    exact dz_t (k d hd)
theorem dt_z : ∀ {n : Nat} {d : PyData}, Dt n d → Dz n d
  | _, _, .at_ h => .at_ h
  | _, _, .tup l k => .tup l fun d hd => dt_z (k d hd)
theorem tupdAll_id : ∀ ds : List PyData, (∀ d ∈ ds, tupd d = d) → tupdAll ds = ds
  | [], _ => rfl
  | d :: ds, h => by
    show tupd d :: tupdAll ds = d :: ds
    rw [h d List.mem_cons_self, tupdAll_id ds fun x hx => h x (List.mem_cons_of_mem _ hx)]
theorem dt_tupd : ∀ {n : Nat} {d : PyData}, Dt n d → tupd d = d
  | _, _, .at_ h => atom_tupd h
  | _, _, .tup (ds := ds) l k => by
    show PyData.tuple (tupdAll ds) = .tuple ds
    rw [tupdAll_id ds fun d hd => dt_tupd (k d hd)]
theorem Dz.up : ∀ {n : Nat} {d : PyData}, Dz n d → ∀ m, n ≤ m → Dz m d
  | _, _, .at_ h, m, _ => .at_ h
  | _, _, .lst l k, m + 1, e => .lst l fun d hd => Dz.up (k d hd) m (by omega)
  | _, _, .tup l k, m + 1, e => .tup l fun d hd => Dz.up (k d hd) m (by omega)
theorem Dt.up : ∀ {n : Nat} {d : PyData}, Dt n d → ∀ m, n ≤ m → Dt m d
  | _, _, .at_ h, m, _ => .at_ h
  | _, _, .tup l k, m + 1, e => .tup l fun d hd => Dt.up (k d hd) m (by omega)
/-! ### repr of such data, where no repr is running -/
def rReprD : List V → Hp → VK → Prop := fun xs H Q => ∃ v d, xs = [v] ∧ Dh H v d ∧ Dz 5 d ∧ Q (.str (PyData.shown d)) H
theorem call_reprD {X : Cx} (hg : X.A.guards = some []) (hu : X.A.units + 64 < cLine) : CallR X (.builtin "repr") rReprD := by
  intro pins s σ H xs us Q I r h
  obtain ⟨v, d, rfl, hd, hz, q⟩ := h
  obtain ⟨u, rfl, rv⟩ := vals1 r
  obtain ⟨o1, o2, o3, o4, o5⟩ := okz hz
  have hlen : (PyData.shown d).length ≤ sizeLine := Nat.le_trans o4 (by decide)
  obtain ⟨as, hr⟩ := Dp.reads I d v u (Dh.dp _ _ hd) rv
  cases hd with
  | non =>
    cases (show u = Value.none from rv)
    exact PySem.P.repr_of_none ⟨.str _, H, I.tok _, ⟨_, rfl⟩, q⟩
  | bl b =>
    cases (show u = Value.bool b from rv)
    exact PySem.P.repr_of_bool ⟨.str _, H, I.tok _, ⟨_, rfl⟩, by cases b <;> exact q⟩
  | int i =>
    obtain ⟨t, e⟩ := (show ∃ t, u = Value.int i t from rv)
    subst e
    exact PySem.P.repr_of_int (of_decide_eq_true o3) ⟨.str _, H, I.tok _, ⟨_, rfl⟩, q⟩
  | str x =>
    obtain ⟨t, e⟩ := (show ∃ t, u = Value.str x t from rv)
    subst e
    exact PySem.P.repr_of_str ⟨.str _, H, I.tok _, ⟨_, rfl⟩, q⟩ hlen
  | lst ha hl hds =>
    cases (show u = Value.ref _ from rv)
    exact repr_of_reads' hr o3 (fun z => by rw [o5] at z; cases z) hg (by omega) (fun b o z => z) (fun h' u tk k => ⟨.str _, H, I.kept k, ⟨_, rfl⟩, q⟩) hlen
  | tup ha hl hds =>
    cases (show u = Value.ref _ from rv)
    exact repr_of_reads' hr o3 (fun z => by rw [o5] at z; cases z) hg (by omega) (fun b o z => z) (fun h' u tk k => ⟨.str _, H, I.kept k, ⟨_, rfl⟩, q⟩) hlen
end My

set_option maxHeartbeats 4000000
namespace My
open PySem PySem.Spec PyProof.Rows L2
theorem nf_self {K : PySem.W.Frag} {C : Addr} : PySem.W.notFirst K C (.ref C) = true := by
  have h : ((Value.ref C : Value) == Value.ref C) = true := by simp
  unfold PySem.W.notFirst
  rw [h]
  rfl
def rReprB : List V → Hp → VK → Prop := fun xs H Q => ∃ b, xs = [.bl b] ∧ Q (.str (PyData.shown (.bool b))) H
theorem call_reprB {X : Cx} : CallR X (.builtin "repr") rReprB := by
  intro pins s σ H xs us Q I r h
  obtain ⟨b, rfl, q⟩ := h
  obtain ⟨u, rfl, rv⟩ := vals1 r
  cases (show u = Value.bool b from rv)
  exact PySem.P.repr_of_bool ⟨.str _, H, I.tok _, ⟨_, rfl⟩, by cases b <;> exact q⟩
theorem alk {w w2 : Str} {d d2 : PyData} : alike (.tuple [.str w, d]) (.tuple [.str w2, d2]) = (alike (.str w) (.str w2) && alike d d2) := by
  simp [alike, alikeAll]
theorem alk_s {w : Str} : alike (.str w) (.str w) = true := by
  simp [alike, isB, PyData.eqv]
theorem alk_ba : alike (.str "a") (.str "b") = false := by
  simp [alike, isB, PyData.eqv]
  decide
/-- two of one class -/
theorem rEq_pap {K : PySem.W.Frag} {P C f a b : Addr} {H : Hp} {w w2 nm : Str} {v v2 : V} {d d2 : PyData} {Q : VK} (e : EqC K C f) (h1 : PapAt K P H a C w v d nm) (h2 : PapAt K P H b C w2 v2 d2 nm) (l1 : PyData.canLay0 d = true) (l2 : PyData.canLay0 d2 = true) (k1 : PyData.canLay0 (.str w) = true) (k2 : PyData.canLay0 (.str w2) = true) (p1 : dep d ≤ 5) (p2 : dep d2 ≤ 5)
    {r : Bool} (hr : alike (.tuple [.str w, d]) (.tuple [.str w2, d2]) = r) (q : ∀ H', Same H H' → Q (.bl r) H') : rEqP K f (spEqv K P) (.ref a) (.ref b) H Q := by
  obtain ⟨dx, o⟩ := h1.o
  refine ⟨a, C, dx, _, .ref C, rfl, o, e, h2.ty, nf_self, a, C, _, w, nm, v, d, rfl, h1, l1, k1, p1, .inr ⟨b, C, w2, nm, v2, d2, rfl, h2, l2, k2, p2, fun H' s => ⟨_, rfl, ?_⟩⟩⟩
  rw [hr]
  have z : (nm == nm) = true := by simp
  rw [z, Bool.true_and]
  exact q H' s
theorem rNe_pap {K : PySem.W.Frag} {P C f a b : Addr} {H : Hp} {w w2 nm : Str} {v v2 : V} {d d2 : PyData} {Q : VK} (e : EqC K C f) (h1 : PapAt K P H a C w v d nm) (h2 : PapAt K P H b C w2 v2 d2 nm) (l1 : PyData.canLay0 d = true) (l2 : PyData.canLay0 d2 = true) (k1 : PyData.canLay0 (.str w) = true) (k2 : PyData.canLay0 (.str w2) = true) (p1 : dep d ≤ 5) (p2 : dep d2 ≤ 5)
    {r : Bool} (hr : alike (.tuple [.str w, d]) (.tuple [.str w2, d2]) = r) (q : ∀ H', Same H H' → Q (.bl (!r)) H') : rNeP K f (spEqv K P) (.ref a) (.ref b) H Q := by
  obtain ⟨dx, o⟩ := h1.o
  refine ⟨a, C, dx, _, .ref C, rfl, o, e, h2.ty, nf_self, a, C, _, w, nm, v, d, rfl, h1, l1, k1, p1, .inr ⟨b, C, w2, nm, v2, d2, rfl, h2, l2, k2, p2, fun H' s => ⟨_, rfl, ?_⟩⟩⟩
  rw [hr]
  have z : (nm == nm) = true := by simp
  rw [z, Bool.true_and]
  exact q H' s
/-- a paper and a tuple -/
theorem rEq_tup {K : PySem.W.Frag} {P C f a t : Addr} {H : Hp} {w nm : Str} {v : V} {xs : List V} {d : PyData} {Q : VK} (e : EqC K C f) (h1 : PapAt K P H a C w v d nm) (ht : H t = some (.tup xs)) (nf : PySem.W.notFirst K C (.type "tuple") = true) (kt : PySem.W.kitOne K (.type "tuple") (.ref P) = some false) (l1 : PyData.canLay0 d = true) (k1 : PyData.canLay0 (.str w) = true) (p1 : dep d ≤ 5)
    (q : ∀ H', Same H H' → Q (.bl false) H') : rEqP K f (spEqv K P) (.ref a) (.ref t) H Q := by
  obtain ⟨dx, o⟩ := h1.o
  exact ⟨a, C, dx, _, .type "tuple", rfl, o, e, .base (.tup ht), nf, a, C, _, w, nm, v, d, rfl, h1, l1, k1, p1, .inl ⟨.type "tuple", .base (.tup ht), kt, fun H' s => ⟨_, rfl, q H' s⟩⟩⟩
/-- x == y, y of a class below x's -/
theorem rEqF_pap {K : PySem.W.Frag} {P C D f a b : Addr} {H : Hp} {w w2 nm nm2 : Str} {v v2 : V} {d d2 : PyData} {Q : VK} (e : EqC K D f) (hne : D ≠ C) (hs : PySem.W.subIn K (.ref D) (.ref C) = some true) (h1 : PapAt K P H a C w v d nm) (h2 : PapAt K P H b D w2 v2 d2 nm2) (l1 : PyData.canLay0 d = true) (l2 : PyData.canLay0 d2 = true) (k1 : PyData.canLay0 (.str w) = true) (k2 : PyData.canLay0 (.str w2) = true) (p1 : dep d ≤ 5) (p2 : dep d2 ≤ 5)
    (hn : (nm2 == nm) = false) (q : ∀ H', Same H H' → Q (.bl false) H') : rEqF K f (spEqv K P) (.ref a) (.ref b) H Q := by
  obtain ⟨dx, o⟩ := h1.o
  obtain ⟨dy, o2⟩ := h2.o
  have hq : (Value.ref D != Value.ref C) = true := by simp [bne, hne]
  refine ⟨a, C, dx, b, D, dy, _, _, rfl, rfl, o, o2, e, hq, hs, b, D, _, w2, nm2, v2, d2, rfl, h2, l2, k2, p2, .inr ⟨a, C, w, nm, v, d, rfl, h1, l1, k1, p1, fun H' s => ⟨_, rfl, ?_⟩⟩⟩
  rw [hn, Bool.false_and]
  exact q H' s
/-- five papers in a list at l, their data named -/
structure Fiv (K : PySem.W.Frag) (H : Hp) (l C : Addr) (nm : Str) (D1 D4 D5 : PyData) (x1 x2 x3 x4 x5 : Addr) : Prop where
  at_ : H l = some (.lst [.ref x1, .ref x2, .ref x3, .ref x4, .ref x5])
  a1 : ∃ v, PapAt K (He.ga K "Paper") H x1 C "a" v D1 nm
  a2 : ∃ v, PapAt K (He.ga K "Paper") H x2 C "a" v D1 nm
  a3 : ∃ v, PapAt K (He.ga K "Paper") H x3 C "b" v D1 nm
  a4 : ∃ v, PapAt K (He.ga K "Paper") H x4 C "a" v D4 nm
  a5 : ∃ v, PapAt K (He.ga K "Paper") H x5 C "a" v D5 nm
theorem Fiv.same {K : PySem.W.Frag} {H H' : Hp} {l C : Addr} {nm : Str} {D1 D4 D5 : PyData} {x1 x2 x3 x4 x5 : Addr} (h : Fiv K H l C nm D1 D4 D5 x1 x2 x3 x4 x5) (e : Same H H') : Fiv K H' l C nm D1 D4 D5 x1 x2 x3 x4 x5 :=
  ⟨e _ _ h.at_, h.a1.imp fun _ z => z.same e, h.a2.imp fun _ z => z.same e, h.a3.imp fun _ z => z.same e, h.a4.imp fun _ z => z.same e, h.a5.imp fun _ z => z.same e⟩
/-- what the three are -/
structure Dat (d g D1 D4 D5 : PyData) : Prop where
  t1 : Dt 4 D1
  t4 : Dt 4 D4
  t5 : Dt 4 D5
  e1 : tupd (.tuple [d, .list [g]]) = D1
  n4 : alike D1 D4 = false
  e5 : alike D1 D5 = decide (V.str (PyData.shown (tupd d)) = V.str (PyData.shown (tupd g)))
theorem mkDat {d g : PyData} (hd : Dz 3 d) (hg : Dz 2 g) : ∃ D1 D4 D5, D1 = .tuple [tupd d, .tuple [tupd g]] ∧ D4 = .tuple [tupd d] ∧ D5 = .tuple [tupd g, .tuple [tupd g]] ∧ Dat d g D1 D4 D5 := by
  have td : Dt 3 (tupd d) := dz_t hd
  have tg2 : Dt 2 (tupd g) := dz_t hg
  have tg : Dt 3 (tupd g) := tg2.up 3 (by decide)
  have tt : Dt 3 (.tuple [tupd g]) := .tup (by show 1 ≤ 7; decide) fun x hx => by
    rcases List.mem_cons.mp hx with rfl | hx
    · exact tg2
    · cases hx
  have t1 : Dt 4 (.tuple [tupd d, .tuple [tupd g]]) := .tup (by show 2 ≤ 7; decide) fun x hx => by
    rcases List.mem_cons.mp hx with rfl | hx
    · exact td
    · rcases List.mem_cons.mp hx with rfl | hx
      · exact tt
      · cases hx
  have t4 : Dt 4 (.tuple [tupd d]) := .tup (by show 1 ≤ 7; decide) fun x hx => by
    rcases List.mem_cons.mp hx with rfl | hx
    · exact td
    · cases hx
  have t5 : Dt 4 (.tuple [tupd g, .tuple [tupd g]]) := .tup (by show 2 ≤ 7; decide) fun x hx => by
    rcases List.mem_cons.mp hx with rfl | hx
    · exact tg
    · rcases List.mem_cons.mp hx with rfl | hx
      · exact tt
      · cases hx
  refine ⟨_, _, _, rfl, rfl, rfl, t1, t4, t5, rfl, ?_, ?_⟩
  · rw [Bool.eq_false_iff]
    intro z
    have y := (alike_iff t1 t4).mp z
    injection y with y
    injection y with _ y
    cases y
  · rw [Bool.eq_iff_iff, decide_eq_true_iff, alike_iff t1 t5]
    constructor
    · intro y
      injection y with y
      injection y with y _
      rw [y]
    · intro y
      injection y with y
      rw [shown_inj td tg y]
theorem dhAll_t {H H' : Hp} (hk : ∀ b xs, H b = some (.tup xs) → H' b = some (.tup xs)) {n : Nat} (ih : ∀ d v, Dt n d → Dh H v d → Dh H' v d) : ∀ (ds : List PyData) (vs : List V), (∀ d ∈ ds, Dt n d) → DhAll H vs ds → DhAll H' vs ds
  | [], _, _, .nil => .nil
  | d :: ds, _, hd, .cons h hs => .cons (ih _ _ (hd d List.mem_cons_self) h) (dhAll_t hk ih ds _ (fun x hx => hd x (List.mem_cons_of_mem _ hx)) hs)
theorem dh_atom {H H' : Hp} {v : V} {d : PyData} (ha : d ∈ atoms) (h : Dh H v d) : Dh H' v d := by
  have z := atomS ha
  cases h with
  | non => exact .non
  | bl b => exact .bl b
  | int i => exact .int i
  | str x => exact .str x
  | lst => cases z
  | tup => cases z
theorem dh_t {H H' : Hp} (hk : ∀ b xs, H b = some (.tup xs) → H' b = some (.tup xs)) : ∀ (n : Nat) (d : PyData) (v : V), Dt n d → Dh H v d → Dh H' v d
  | 0, d, v, hd, h => by
    cases hd with
    | at_ ha => exact dh_atom ha h
  | n + 1, d, v, hd, h => by
    cases hd with
    | at_ ha => exact dh_atom ha h
    | tup l k =>
      cases h with
      | tup ha hl hds => exact .tup (hk _ _ ha) hl (dhAll_t hk (dh_t hk n) _ _ k hds)
theorem keep_tup {H : Hp} {l : Addr} {ys zs : List V} (hl : H l = some (.lst ys)) : ∀ b xs, H b = some (.tup xs) → upd H l (.lst zs) b = some (.tup xs) := fun b xs q => by
  rw [upd_ne (fun e => by rw [e, hl] at q; cases q)]
  exact q
theorem PapAt.app {K : PySem.W.Frag} {P : Addr} {H : Hp} {a C l : Addr} {w : Str} {v : V} {d : PyData} {nm : Str} {ys zs : List V} {n : Nat} (h : PapAt K P H a C w v d nm) (hd : Dt n d) (hl : H l = some (.lst ys)) : PapAt K P (upd H l (.lst zs)) a C w v d nm :=
  ⟨h.c, by obtain ⟨dx, z⟩ := h.o; exact ⟨dx, by rw [upd_ne (fun e => by rw [e, hl] at z; cases z)]; exact z⟩, dh_t (keep_tup hl) n d v hd h.d⟩
theorem Fiv.app {K : PySem.W.Frag} {H : Hp} {l C m : Addr} {nm : Str} {D1 D4 D5 : PyData} {x1 x2 x3 x4 x5 : Addr} {y : V} {zs : List V} {n : Nat} (h : Fiv K H l C nm D1 D4 D5 x1 x2 x3 x4 x5) (t1 : Dt n D1) (t4 : Dt n D4) (t5 : Dt n D5) (hm : H m = some (.lst [y])) : Fiv K (upd H m (.lst zs)) l C nm D1 D4 D5 x1 x2 x3 x4 x5 :=
  ⟨by rw [upd_ne (fun e => by have z := h.at_; rw [e, hm] at z; cases z)]; exact h.at_, h.a1.imp fun _ z => z.app t1 hm, h.a2.imp fun _ z => z.app t1 hm, h.a3.imp fun _ z => z.app t1 hm, h.a4.imp fun _ z => z.app t4 hm, h.a5.imp fun _ z => z.app t5 hm⟩
theorem lay_a : PyData.canLay0 (.str "a") = true := by decide +kernel
theorem lay_b : PyData.canLay0 (.str "b") = true := by decide +kernel
theorem lay_1 : PyData.canLay0 (.tuple (tupdAll [.int 1])) = true := by decide +kernel
theorem lay_t : PyData.canLay0 (.tuple (tupdAll [.bool true])) = true := by decide +kernel
theorem lay_0 : PyData.canLay0 (.tuple (tupdAll [.tuple [.int 0]])) = true := by decide +kernel
theorem dep_1 : dep (.tuple (tupdAll [.int 1])) ≤ 5 := by decide +kernel
theorem dep_t : dep (.tuple (tupdAll [.bool true])) ≤ 5 := by decide +kernel
theorem dep_00 : dep (.tuple (tupdAll [.tuple [.int 0]])) ≤ 5 := by decide +kernel
theorem dep_0 : depAll [] + 1 < 7 := by decide +kernel
theorem nm_DP : (("Denial" : Str) == "Paper") = false := by decide +kernel
theorem alk_1t : alike (.tuple [.str "a", .tuple (tupdAll [.int 1])]) (.tuple [.str "a", .tuple (tupdAll [.bool true])]) = false := by decide +kernel
theorem alk_00 : alike (.tuple [.str "a", .tuple (tupdAll [.tuple [.int 0]])]) (.tuple [.str "a", .tuple (tupdAll [.list [.int 0]])]) = true := by decide +kernel
theorem dep_t0 : dep (.tuple [.int 0]) ≤ 4 := by decide +kernel
theorem dep_l0 : dep (.list [.int 0]) ≤ 4 := by decide +kernel
end My

set_option maxHeartbeats 16000000
namespace My
open PySem PySem.Spec PyProof.Rows L2
local macro_rules | `(tactic| walk_at "rd1") => `(tactic| first
  | refine ⟨_, rfl, ?_⟩
  | refine ⟨_, _, rfl, rfl, ?_⟩
  | refine Or.inl ⟨_, rfl, ?_⟩
  | refine Or.inr ⟨_, rfl, ?_⟩
  | refine ⟨_, _, _, _, rfl, rfl, Or.inl (Or.inl (by assumption)), rfl, ?_⟩
  | refine ⟨_, _, rfl, Or.inl (Or.inl (Or.inl (by assumption))), ?_⟩)
local macro_rules | `(tactic| walk_at "rd") => `(tactic| repeat walk_at "rd1")
abbrev sLaw : Stmt := top 25
/-- f(k = e), a def -/
theorem pe_callN0 {X : Cx} {k : Nat} {f : Addr} {fd : FuncData} {ps ks : List Str} {sp : Sp} {x : Str} {p pos : Pos} {kws : List Keyword} {tk : TA} {g : List Value → List Value → List Value} {gV : List V → List V → List V}
    (F : FnOk X.prog X.w X.K X.mg X.base CX0 k f fd ps sp) (hr : Room k X.A) (hg : Gl X x) (hm : X.mg x = some (.ref f)) (hk : PySem.W.keepIn X.K (.ref f) = true) (hb : KBn X.K fd ps 0 ks g gV) (hkw : PK X kws tk)
    (hall : (backToKw pos (keywordEach kws X.env)).all (·.1.isSome) = true := by rfl) (hks : (backToKw pos (keywordEach kws X.env)).filterMap (·.1) = ks := by rfl) (hdb : (x == ("__debug__" : Str)) = false := by decide)
    (hpl : ((backTo pos (starEach [] X.env)).any (·.1) || (backToKw pos (keywordEach kws X.env)).any (·.1.isNone)) = false := by rfl) :
    PE X (.Call (.Name x p) [] kws pos) (fun σ H Q => tk σ H fun zs H1 => zs.length = ks.length ∧ sp (gV [] zs) H1 Q E0) := by
  refine ⟨fun pins s σ H Q I h => ?_⟩
  refine wpAny_Call_Name_kw (ld_glob I hg hm ?_ hdb)
  refine PySem.W.callWith_KW0 (h₀ := X.base) I.ok.mod.kin hk hall ?_ hpl
  refine thn (hkw.run pos pins s σ H _ I h) fun ws s2 ⟨zs, H2, I2, rz, l2, q2⟩ => ⟨I2.kIn, ?_⟩
  rw [hks]
  have hlen : ([] : List Value).length = 0 := rfl
  refine wpAny_call (codeAny_mono (F.run X.A X.stack s2 H2 ⟨[], ks.zip ws⟩ (g [] ws) _ _ E0 hr I2.env0 (hb.to _ [] ws I2.kIn hlen (rz.length.symm.trans l2)) (hb.rel .nil rz) q2) fun r s' hq => ?_)
  cases r with
  | error e => exact hq.elim
  | ok fl =>
    cases fl with
    | ret w => exact I2.after hq
    | next => exact False.elim hq
    | brk => exact False.elim hq
    | cont => exact False.elim hq
/-- an own exception class over BellError at B -/
structure ClsX (K : PySem.W.Frag) (mg : Str → Option Value) (nm : Str) : Prop where
  kp : PySem.W.keepIn K (.ref (He.ga K nm)) = true
  mgc : mg nm = some (.ref (He.ga K nm))
  xf : XfC K (He.ga K nm)
  ec : ExcC K (He.ga K nm)
theorem mk_same {H : Hp} {e dx C : Addr} {fs : List (Str × V)} (he : H e = none) (hd : H dx = none) : Same H (upd (upd H dx (exd dx fs)) e (exo e C (some dx))) := fun b o q => by
  rw [upd_ne (ne_of_none q he), upd_ne (ne_of_none q hd)]
  exact q
theorem mk_at {H : Hp} {e dx C : Addr} {fs : List (Str × V)} (hn : dx ≠ e) : XAt (upd (upd H dx (exd dx fs)) e (exo e C (some dx))) e C dx fs :=
  ⟨upd_same, by rw [upd_ne hn]; exact upd_same⟩
/-- one of the list: an exception with this part, below BellError and ValueError -/
structure Way (K : PySem.W.Frag) (H : Hp) (v : V) (a : Addr) : Prop where
  ex : ∃ C dx fs, XAt H a C dx fs ∧ XfC K C ∧ ExcC K C ∧ PySem.W.findIn K (.ref C) "part" = some none ∧ fs.lookup ("part" : Str) = some v ∧ PySem.W.kitOne K (.ref C) (.ref (He.ga K "BellError")) = some true ∧ PySem.W.kitOne K (.ref C) (.type "ValueError") = some true
theorem Way.same {K : PySem.W.Frag} {H H' : Hp} {v : V} {a : Addr} (h : Way K H v a) (e : Same H H') : Way K H' v a := by
  obtain ⟨C, dx, fs, x, r⟩ := h.ex
  exact ⟨C, dx, fs, x.same e, r⟩
/-- one of the others: none of the three kinds -/
structure Oth (K : PySem.W.Frag) (H : Hp) (a : Addr) : Prop where
  ex : ∃ C dx fs, XAt H a C dx fs ∧ ExcC K C ∧ PySem.W.kitAny K (.ref C) [.ref (He.ga K "BadNumber"), .ref (He.ga K "BadBits"), .ref (He.ga K "BadTable")] = some false
theorem Oth.same {K : PySem.W.Frag} {H H' : Hp} {a : Addr} (h : Oth K H a) (e : Same H H') : Oth K H' a := by
  obtain ⟨C, dx, fs, x, r⟩ := h.ex
  exact ⟨C, dx, fs, x.same e, r⟩
structure TL (Pr : Program) (w : World) (base : Heap) (K : PySem.W.Frag) (mg : Str → Option Value) : Prop where
  n_range : mg "range" = none
  n_repr : mg "repr" = none
  n_isi : mg "isinstance" = none
  n_enum : mg "enumerate" = none
  n_bool : mg "bool" = none
  n_VE : mg "ValueError" = none
  mB : mg "BellError" = some (.ref (He.ga K "BellError"))
  x_BadNumber : ClsX K mg "BadNumber"
  x_BadBits : ClsX K mg "BadBits"
  x_BadTable : ClsX K mg "BadTable"
  x_BadBook : ClsX K mg "BadBook"
  x_BadRow : ClsX K mg "BadRow"
  x_BadPattern : ClsX K mg "BadPattern"
  x_BadPaper : ClsX K mg "BadPaper"
  x_Misfit : ClsX K mg "Misfit"
  x_BadText : ClsX K mg "BadText"
  x_BadWord : ClsX K mg "BadWord"
  x_TooMany : ClsX K mg "TooMany"
  x_NoName : ClsX K mg "NoName"
  x_Nothing : ClsX K mg "Nothing"
  m_BadNumber : MadeK Pr K mg (He.ga K "BadNumber") 1 [] (fs1 "part")
  m_BadBits : MadeK Pr K mg (He.ga K "BadBits") 1 [] (fs1 "part")
  m_BadTable : MadeK Pr K mg (He.ga K "BadTable") 1 [] (fs1 "part")
  m_BadBook : MadeK Pr K mg (He.ga K "BadBook") 1 [] (fs1 "part")
  m_BadRow : MadeK Pr K mg (He.ga K "BadRow") 1 [] (fs1 "part")
  m_BadPattern : MadeK Pr K mg (He.ga K "BadPattern") 1 [] (fs1 "part")
  m_BadPaper : MadeK Pr K mg (He.ga K "BadPaper") 1 [] (fs1 "part")
  m_Misfit : MadeK Pr K mg (He.ga K "Misfit") 1 [] (fs1 "part")
  m_BadWord : MadeK Pr K mg (He.ga K "BadWord") 1 [] (fs1 "word")
  m_NoName : MadeK Pr K mg (He.ga K "NoName") 1 [] (fs1 "name")
  m_Nothing : MadeK Pr K mg (He.ga K "Nothing") 1 [] (fs1 "word")
  k_BadNumber : MadeK Pr K mg (He.ga K "BadNumber") 0 ["part"] (fs1k "part")
  k_Misfit : MadeK Pr K mg (He.ga K "Misfit") 0 ["part"] (fs1k "part")
  k_Nothing : MadeK Pr K mg (He.ga K "Nothing") 0 ["word"] (fs1k "word")
  m_BadText : MadeK Pr K mg (He.ga K "BadText") 2 [] (fs2 "line" "word")
  k_BadText : MadeK Pr K mg (He.ga K "BadText") 0 ["word", "line"] (fs2k "line" "word")
  m_TooMany : MadeK Pr K mg (He.ga K "TooMany") 2 [] (fs2 "what" "most")
  k_TooMany : MadeK Pr K mg (He.ga K "TooMany") 0 ["most", "what"] (fs2k "what" "most")
  p_BadNumber : PySem.W.findIn K (.ref (He.ga K "BadNumber")) "part" = some none
  b_BadNumber : PySem.W.kitOne K (.ref (He.ga K "BadNumber")) (.ref (He.ga K "BellError")) = some true
  v_BadNumber : PySem.W.kitOne K (.ref (He.ga K "BadNumber")) (.type "ValueError") = some true
  p_BadBits : PySem.W.findIn K (.ref (He.ga K "BadBits")) "part" = some none
  b_BadBits : PySem.W.kitOne K (.ref (He.ga K "BadBits")) (.ref (He.ga K "BellError")) = some true
  v_BadBits : PySem.W.kitOne K (.ref (He.ga K "BadBits")) (.type "ValueError") = some true
  p_BadTable : PySem.W.findIn K (.ref (He.ga K "BadTable")) "part" = some none
  b_BadTable : PySem.W.kitOne K (.ref (He.ga K "BadTable")) (.ref (He.ga K "BellError")) = some true
  v_BadTable : PySem.W.kitOne K (.ref (He.ga K "BadTable")) (.type "ValueError") = some true
  p_BadBook : PySem.W.findIn K (.ref (He.ga K "BadBook")) "part" = some none
  b_BadBook : PySem.W.kitOne K (.ref (He.ga K "BadBook")) (.ref (He.ga K "BellError")) = some true
  v_BadBook : PySem.W.kitOne K (.ref (He.ga K "BadBook")) (.type "ValueError") = some true
  p_BadRow : PySem.W.findIn K (.ref (He.ga K "BadRow")) "part" = some none
  b_BadRow : PySem.W.kitOne K (.ref (He.ga K "BadRow")) (.ref (He.ga K "BellError")) = some true
  v_BadRow : PySem.W.kitOne K (.ref (He.ga K "BadRow")) (.type "ValueError") = some true
  p_BadPattern : PySem.W.findIn K (.ref (He.ga K "BadPattern")) "part" = some none
  b_BadPattern : PySem.W.kitOne K (.ref (He.ga K "BadPattern")) (.ref (He.ga K "BellError")) = some true
  v_BadPattern : PySem.W.kitOne K (.ref (He.ga K "BadPattern")) (.type "ValueError") = some true
  p_BadPaper : PySem.W.findIn K (.ref (He.ga K "BadPaper")) "part" = some none
  b_BadPaper : PySem.W.kitOne K (.ref (He.ga K "BadPaper")) (.ref (He.ga K "BellError")) = some true
  v_BadPaper : PySem.W.kitOne K (.ref (He.ga K "BadPaper")) (.type "ValueError") = some true
  p_Misfit : PySem.W.findIn K (.ref (He.ga K "Misfit")) "part" = some none
  b_Misfit : PySem.W.kitOne K (.ref (He.ga K "Misfit")) (.ref (He.ga K "BellError")) = some true
  v_Misfit : PySem.W.kitOne K (.ref (He.ga K "Misfit")) (.type "ValueError") = some true
  p_BadWord_word : PySem.W.findIn K (.ref (He.ga K "BadWord")) "word" = some none
  p_NoName_name : PySem.W.findIn K (.ref (He.ga K "NoName")) "name" = some none
  p_Nothing_word : PySem.W.findIn K (.ref (He.ga K "Nothing")) "word" = some none
  p_BadText_line : PySem.W.findIn K (.ref (He.ga K "BadText")) "line" = some none
  p_BadText_word : PySem.W.findIn K (.ref (He.ga K "BadText")) "word" = some none
  p_TooMany_what : PySem.W.findIn K (.ref (He.ga K "TooMany")) "what" = some none
  p_TooMany_most : PySem.W.findIn K (.ref (He.ga K "TooMany")) "most" = some none
  o_BadBook : PySem.W.kitAny K (.ref (He.ga K "BadBook")) [.ref (He.ga K "BadNumber"), .ref (He.ga K "BadBits"), .ref (He.ga K "BadTable")] = some false
  o_BadRow : PySem.W.kitAny K (.ref (He.ga K "BadRow")) [.ref (He.ga K "BadNumber"), .ref (He.ga K "BadBits"), .ref (He.ga K "BadTable")] = some false
  o_Misfit : PySem.W.kitAny K (.ref (He.ga K "Misfit")) [.ref (He.ga K "BadNumber"), .ref (He.ga K "BadBits"), .ref (He.ga K "BadTable")] = some false
  o_TooMany : PySem.W.kitAny K (.ref (He.ga K "TooMany")) [.ref (He.ga K "BadNumber"), .ref (He.ga K "BadBits"), .ref (He.ga K "BadTable")] = some false
  o_NoName : PySem.W.kitAny K (.ref (He.ga K "NoName")) [.ref (He.ga K "BadNumber"), .ref (He.ga K "BadBits"), .ref (He.ga K "BadTable")] = some false
  o_Nothing : PySem.W.kitAny K (.ref (He.ga K "Nothing")) [.ref (He.ga K "BadNumber"), .ref (He.ga K "BadBits"), .ref (He.ga K "BadTable")] = some false
  o_BadText : PySem.W.kitAny K (.ref (He.ga K "BadText")) [.ref (He.ga K "BadNumber"), .ref (He.ga K "BadBits"), .ref (He.ga K "BadTable")] = some false
  o_BadWord : PySem.W.kitAny K (.ref (He.ga K "BadWord")) [.ref (He.ga K "BadNumber"), .ref (He.ga K "BadBits"), .ref (He.ga K "BadTable")] = some false
  gP : mg "Paper" = some (.ref (He.ga K "Paper"))
  gD : mg "Denial" = some (.ref (He.ga K "Denial"))
  pP : PapC K (He.ga K "Paper") (He.ga K "Paper") "Paper"
  pD : PapC K (He.ga K "Paper") (He.ga K "Denial") "Denial"
  kT : PySem.W.kitOne K (.type "tuple") (.ref (He.ga K "Paper")) = some false
  kDP : PySem.W.kitOne K (.ref (He.ga K "Denial")) (.ref (He.ga K "Paper")) = some true
  sDP : PySem.W.subIn K (.ref (He.ga K "Denial")) (.ref (He.ga K "Paper")) = some true
  nTP : PySem.W.notFirst K (He.ga K "Paper") (.type "tuple") = true
  nTD : PySem.W.notFirst K (He.ga K "Denial") (.type "tuple") = true
  neD : He.ga K "Denial" ≠ He.ga K "Paper"
def teOth (K : PySem.W.Frag) : TE := tCB (rIsXT K) (tCons (tVar 6) (tCons (tTup (tCons (tC (.ref (He.ga K "BadNumber"))) (tCons (tC (.ref (He.ga K "BadBits"))) (tCons (tC (.ref (He.ga K "BadTable"))) tNil)))) tNil))
theorem pap_ins {G : Hp} {x dx p C : Addr} {rest : List V} (hp : upd (upd G dx (.own x)) x (.ins C dx []) p = none) : upd (upd (upd G dx (.own x)) x (.ins C dx [])) p (.tup rest) x = some (.ins C dx []) := by
  rw [upd_ne (ne_of_none (upd_same (H := upd G dx (.own x)) (a := x) (o := .ins C dx [])) hp), upd_same]
theorem pap_same0 {G : Hp} {x dx p C : Addr} {rest : List V} (hx : G x = none) (hd : G dx = none) (hp : upd (upd G dx (.own x)) x (.ins C dx []) p = none) : Same G (upd (upd (upd G dx (.own x)) x (.ins C dx [])) p (.tup rest)) := fun b o q => by
  have z : upd (upd G dx (.own x)) x (.ins C dx []) b = some o := by rw [upd_ne (ne_of_none q hx), upd_ne (ne_of_none q hd)]; exact q
  rw [upd_ne (ne_of_none z hp)]
  exact z
theorem pap_same {G N : Hp} {x dx p C : Addr} {rest : List V} (hx : G x = none) (hd : G dx = none) (hp : upd (upd G dx (.own x)) x (.ins C dx []) p = none) (sm : Sm x (upd (upd (upd G dx (.own x)) x (.ins C dx [])) p (.tup rest)) N) : Same G N := fun b o q =>
  sm b o (ne_of_none q hx) (pap_same0 hx hd hp b o q)
/-- five papers in a list at l -/
structure Five (K : PySem.W.Frag) (H : Hp) (l C : Addr) (nm : Str) (d g : PyData) (x1 x2 x3 x4 x5 : Addr) : Prop where
  at_ : H l = some (.lst [.ref x1, .ref x2, .ref x3, .ref x4, .ref x5])
  a1 : ∃ v, PapAt K (He.ga K "Paper") H x1 C "a" v (.tuple [tupd d, .tuple [tupd g]]) nm
  a2 : ∃ v, PapAt K (He.ga K "Paper") H x2 C "a" v (.tuple [tupd d, .tuple [tupd g]]) nm
  a3 : ∃ v, PapAt K (He.ga K "Paper") H x3 C "b" v (.tuple [tupd d, .tuple [tupd g]]) nm
  a4 : ∃ v, PapAt K (He.ga K "Paper") H x4 C "a" v (.tuple [tupd d]) nm
  a5 : ∃ v, PapAt K (He.ga K "Paper") H x5 C "a" v (.tuple [tupd g, .tuple [tupd g]]) nm
theorem Five.same {K : PySem.W.Frag} {H H' : Hp} {l C : Addr} {nm : Str} {d g : PyData} {x1 x2 x3 x4 x5 : Addr} (h : Five K H l C nm d g x1 x2 x3 x4 x5) (e : Same H H') : Five K H' l C nm d g x1 x2 x3 x4 x5 :=
  ⟨e _ _ h.at_, h.a1.imp fun _ z => z.same e, h.a2.imp fun _ z => z.same e, h.a3.imp fun _ z => z.same e, h.a4.imp fun _ z => z.same e, h.a5.imp fun _ z => z.same e⟩
theorem one100 {v : V} : ([v] : List V).length ≤ 100 := by show 1 ≤ 100; decide
theorem two100 {v w : V} : ([v, w] : List V).length ≤ 100 := by show 2 ≤ 100; decide
theorem one_line {v : V} : ([v] : List V).length ≤ sizeLine := by show 1 ≤ sizeLine; decide
theorem two_line {v w : V} : ([v, w] : List V).length ≤ sizeLine := by show 2 ≤ sizeLine; decide
theorem dz_dep {n : Nat} {d : PyData} (h : Dz n d) : dep d ≤ n := (okz h).dp
theorem dep2 {d e : PyData} (h1 : dep d ≤ 4) (h2 : dep e ≤ 5) : depAll [d, e] + 1 < 7 := by
  show max (PyData.depth d) (max (PyData.depth e) 0) + 1 < 7
  have z1 : PyData.depth d ≤ 4 := h1
  have z2 : PyData.depth e ≤ 5 := h2
  omega
theorem dep1 {d : PyData} (h1 : dep d ≤ 4) : depAll [d] + 1 < 7 := by
  show max (PyData.depth d) 0 + 1 < 7
  have z1 : PyData.depth d ≤ 4 := h1
  omega
theorem depL {g : PyData} (h : dep g ≤ 4) : dep (.list [g]) ≤ 5 := by
  show max (PyData.depth g) 0 + 1 ≤ 5
  have z1 : PyData.depth g ≤ 4 := h
  omega
theorem depT {g : PyData} (h : dep g ≤ 4) : dep (.tuple [g]) ≤ 5 := depL h
theorem dz_seven {n : Nat} {d g : PyData} (h1 : Dz n d) (h2 : Dz n g) : Dz (n + 1) (.tuple [d, g, d, g, d, d, d]) := by
  refine .tup (Nat.le_refl 7) fun x hx => ?_
  repeat (first | (rcases List.mem_cons.mp hx with rfl | hx; first | exact h1 | exact h2))
  cases hx
theorem a_seven {HH : Hp} {v o : V} {d g : PyData} (hv : Dh HH v d) (ho : Dh HH o g) : DhAll HH [v, o, v, o, v, v, v] [d, g, d, g, d, d, d] := .cons hv (.cons ho (.cons hv (.cons ho (.cons hv (.cons hv (.cons hv .nil))))))
theorem len_seven {v o : V} : ([v, o, v, o, v, v, v] : List V).length ≤ 100 := by show 7 ≤ 100; decide
def ttWay (K : PySem.W.Frag) : TT := tOr (tTest (tOp rNe (tCB rReprD (tCons (tXv K "part" (tVar 6)) tNil)) (tCB rReprD (tCons (tVar 3) tNil)))) (tOr (tNot (tB (tCB (rIsX K) (tCons (tVar 6) (tCons (tC (.ref (He.ga K "BellError"))) tNil))))) (tNot (tB (tCB (rIsX K) (tCons (tVar 6) (tCons (tC (.ty "ValueError")) tNil))))))
abbrev NL : List Str := ["script", "pen", "turn", "value", "other", "ways", "one", "text", "more", "kinds", "some", "at", "two", "named", "short", "its"]
theorem scL : FnScope NL ["script"] (defScope sLaw) := ⟨rfl, rfl, rfl, by decide +kernel, rfl, by decide +kernel, by decide +kernel⟩
theorem law_body {Pr : Program} {w : World} {K : PySem.W.Frag} {mg : Str → Option Value} {base : Heap} {f fPn fV fT fF fI fE fB fDB : Addr} {fdPn fdV fdT fdF fdE fdB fdDB : FuncData} {cdv : Value} {A : Around} {outer : List Env} {s : Shared} {H : Hp} {E : XK} {a : Addr} {ns : List Int}
    (T : TL Pr w base K mg) (hr : Room 14 (A.deeper (envOfC "law" (defScope sLaw) s.heap.objs.size f cdv))) (hg : (A.deeper (envOfC "law" (defScope sLaw) s.heap.objs.size f cdv)).guards = some [])
    (FPn : FnP K "_law_pen" sPen fPn fdPn) (GPn : FnOk Pr w K mg base CX0 1 fPn fdPn ["script"] (spPen K)) (bPn : Binds K fdPn ["script"] []) (mPn : mg "_law_pen" = some (.ref fPn))
    (FV : FnP K "_law_value" sValue fV fdV) (GV : FnOk Pr w K mg base CX0 5 fV fdV ["pen", "deep"] (spVal 4)) (bV : Binds K fdV ["pen", "deep"] []) (mV : mg "_law_value" = some (.ref fV))
    (FT : FnP K "_law_tupled" sTupled fT fdT) (GT : FnOk Pr w K mg base CX0 7 fT fdT ["value"] (spTup 7)) (bT : Binds K fdT ["value"] []) (mT : mg "_law_tupled" = some (.ref fT))
    (FF : FnP K "fixed" sFixed fF fdF) (GF : FnOk Pr w K mg base CX0 7 fF fdF ["value"] (spTup 7)) (kF : KBn K fdF ["value"] 0 ["value"] (fun us ws => us ++ ws) (fun vs zs => vs ++ zs)) (mF : mg "fixed" = some (.ref fF))
    (GI : FnR Pr w K mg base CX0 8 fI (fun vs H Q E => ∃ ws rest, vs = ws ++ rest ∧ ws.length = (["self", "word"] : List Str).length ∧ rest.length ≤ sizeLine ∧ ∀ p, H p = none → spPI K (He.ga K "Paper") 7 (ws ++ [V.ref p]) (upd H p (.tup rest)) Q E))
    (MP : Mk K (He.ga K "Paper") fI) (MD : Mk K (He.ga K "Denial") fI)
    (GE : FnOk Pr w K mg base CX0 9 fE fdE ["self", "other"] (spEqv K (He.ga K "Paper"))) (bE : Binds K fdE ["self", "other"] []) (eP : EqC K (He.ga K "Paper") fE) (eD : EqC K (He.ga K "Denial") fE)
    (GB : FnOk Pr w K mg base CX0 1 fB fdB ["self"] (spCst true)) (bB : Binds K fdB ["self"] []) (qB : PySem.W.findIn K (.ref (He.ga K "Paper")) "__bool__" = some (some (.ref fB))) (iB : PySem.W.isFn K (.ref fB) = true)
    (GDB : FnOk Pr w K mg base CX0 1 fDB fdDB ["self"] (spCst false)) (bDB : Binds K fdDB ["self"] []) (qDB : PySem.W.findIn K (.ref (He.ga K "Denial")) "__bool__" = some (some (.ref fDB))) (iDB : PySem.W.isFn K (.ref fDB) = true)
    (hs : SqL K H a (ns.map V.int)) (hl : ns.length ≤ 63) :
    ∃ t, PSs (cxOf CX0 Pr w K mg base NL "law" (defScope sLaw) f cdv A outer s H E) (defBody sLaw) t ∧ t { nx := fun _ H' => (fun v (_ : Hp) => v = V.bl true) .non H', rt := fun v _ => v = .bl true } (start NL [.ref a]) H := by
  have nd := scL.nd
  have hr1 : Room 1 (A.deeper (envOfC "law" (defScope sLaw) s.heap.objs.size f cdv)) := hr.mono (by decide)
  have hrPn := hr1
  have hrV : Room 5 (A.deeper (envOfC "law" (defScope sLaw) s.heap.objs.size f cdv)) := hr.mono (by decide)
  have hrT : Room 7 (A.deeper (envOfC "law" (defScope sLaw) s.heap.objs.size f cdv)) := hr.mono (by decide)
  have hrP : Room (8 + 1) (A.deeper (envOfC "law" (defScope sLaw) s.heap.objs.size f cdv)) := hr.mono (by decide)
  have hrE : Room (9 + 1) (A.deeper (envOfC "law" (defScope sLaw) s.heap.objs.size f cdv)) := hr.mono (by decide)
  have hrB : Room (1 + 2) (A.deeper (envOfC "law" (defScope sLaw) s.heap.objs.size f cdv)) := hr.mono (by decide)
  have bI : bootBuiltins "isinstance" = some (.builtin "isinstance") := by decide +kernel
  refine ⟨_, PSs.nox (pss_cons (ps_set (i := 1) nd rfl (Or.inl rfl) (pe_call GPn hrPn rfl mPn FPn.kp bPn .nil pass0 (pa_cons (pv 0) pa_nil)))
    (pss_cons (ps_for PassesOwn.never rfl (pi_range1 (by rfl) T.n_range (pa_cons pe_int pa_nil)) (pg_name (i := 2) nd rfl (Or.inl rfl))
      (pss_cons (ps_asg (pe_tup (pa_cons (pe_call GV hrV rfl mV FV.kp bV .nil pass0 (pa_cons (pv 1) (pa_cons pe_int pa_nil))) (pa_cons (pe_call GV hrV rfl mV FV.kp bV .nil pass0 (pa_cons (pv 1) (pa_cons pe_int pa_nil))) pa_nil))) (pg_tup (by rfl) (pgs_cons (pg_name (i := 3) nd rfl (Or.inr rfl)) (pgs_cons (pg_name (i := 4) nd rfl (Or.inl rfl)) pgs_nil))))
      (pss_cons (ps_set (i := 5) nd rfl (Or.inl rfl) (pe_lst (pa_cons (pe_mkX (T.m_BadNumber _ rfl rfl rfl hr1) T.x_BadNumber.kp (by rfl) T.x_BadNumber.mgc (pa_cons (pv 3) pa_nil)) (pa_cons (pe_mkX (T.m_BadBits _ rfl rfl rfl hr1) T.x_BadBits.kp (by rfl) T.x_BadBits.mgc (pa_cons (pv 3) pa_nil)) (pa_cons (pe_mkX (T.m_BadTable _ rfl rfl rfl hr1) T.x_BadTable.kp (by rfl) T.x_BadTable.mgc (pa_cons (pv 3) pa_nil)) (pa_cons (pe_mkX (T.m_BadBook _ rfl rfl rfl hr1) T.x_BadBook.kp (by rfl) T.x_BadBook.mgc (pa_cons (pv 3) pa_nil)) (pa_cons (pe_mkX (T.m_BadRow _ rfl rfl rfl hr1) T.x_BadRow.kp (by rfl) T.x_BadRow.mgc (pa_cons (pv 3) pa_nil)) (pa_cons (pe_mkX (T.m_BadPattern _ rfl rfl rfl hr1) T.x_BadPattern.kp (by rfl) T.x_BadPattern.mgc (pa_cons (pv 3) pa_nil)) (pa_cons (pe_mkX (T.m_BadPaper _ rfl rfl rfl hr1) T.x_BadPaper.kp (by rfl) T.x_BadPaper.mgc (pa_cons (pv 3) pa_nil)) (pa_cons (pe_mkX (T.m_Misfit _ rfl rfl rfl hr1) T.x_Misfit.kp (by rfl) T.x_Misfit.mgc (pa_cons (pv 3) pa_nil)) (pa_cons (pe_mkXk (T.k_BadNumber _ rfl rfl rfl hr1) T.x_BadNumber.kp (by rfl) T.x_BadNumber.mgc (pk_cons (pv 3) pk_nil)) pa_nil)))))))))))
      (pss_cons (ps_set (i := 5) nd rfl (Or.inl rfl) (pe_op op_cat (pv 5) (pe_lst (pa_cons (pe_mkXk (T.k_Misfit _ rfl rfl rfl hr1) T.x_Misfit.kp (by rfl) T.x_Misfit.mgc (pk_cons (pv 3) pk_nil)) pa_nil))))
      (pss_cons (ps_if (pt_cmpR (op_neD hr.units) (pe_lc (own := [("one", 6)]) (g := (gName 6)) (tt := ttWay K) rfl nd (pi_list (pv 5)) (blkOk_by (N := NL) (sc := defScope sLaw) (by decide +kernel)) (fun _ _ _ _ _ => pg_name (i := 6) nd rfl (Or.inl rfl)) (fun _ _ _ _ _ => (pts_one (PW.pt (pw_or (pt_cmpR op_ne (pe_callB (call_reprD hg hr.units) (by rfl) T.n_repr (by decide +kernel) (pa_cons (pe_xv (pv 6)) pa_nil)) (pe_callB (call_reprD hg hr.units) (by rfl) T.n_repr (by decide +kernel) (pa_cons (pv 3) pa_nil)) (nomark _)) (pw_or (pt_not (pt_val (pe_callB call_isX (by rfl) T.n_isi bI (pa_cons (pv 6) (pa_cons (pe_glob (v := .ref (He.ga K "BellError")) (by rfl) T.mB rfl) pa_nil))))) (pw_or1 (pt_not (pt_val (pe_callB call_isX (by rfl) T.n_isi bI (pa_cons (pv 6) (pa_cons (pe_bltn (v := .ty "ValueError") (by rfl) T.n_VE (by decide +kernel) rfl) pa_nil))))))))))) (fun _ _ _ _ _ => (pv 6))) (pe_lst pa_nil) (nomark _))
        (pss_one (ps_ret pe_bl))
        pss_nil)
      (pss_cons (ps_par (i := 7) (j := 8) (by rfl) nd rfl rfl (by decide) rfl rfl (pa_cons (pe_mkXk (T.k_BadText _ rfl rfl rfl hr1) T.x_BadText.kp (by rfl) T.x_BadText.mgc (pk_cons (pv 4) (pk_cons (pv 3) pk_nil))) (pa_cons (pe_mkXk (T.k_TooMany _ rfl rfl rfl hr1) T.x_TooMany.kp (by rfl) T.x_TooMany.mgc (pk_cons (pv 4) (pk_cons (pv 3) pk_nil))) pa_nil)) (by rfl))
      (pss_cons (ps_if (pt_cmpR op_ne (pe_callB (call_reprD hg hr.units) (by rfl) T.n_repr (by decide +kernel) (pa_cons (pe_tup (pa_cons (pe_xv (pv 7)) (pa_cons (pe_xv (pv 7)) (pa_cons (pe_xv (pv 8)) (pa_cons (pe_xv (pv 8)) (pa_cons (pe_xv (pe_mkX (T.m_NoName _ rfl rfl rfl hr1) T.x_NoName.kp (by rfl) T.x_NoName.mgc (pa_cons (pv 3) pa_nil))) (pa_cons (pe_xv (pe_mkXk (T.k_Nothing _ rfl rfl rfl hr1) T.x_Nothing.kp (by rfl) T.x_Nothing.mgc (pk_cons (pv 3) pk_nil))) (pa_cons (pe_xv (pe_mkX (T.m_BadWord _ rfl rfl rfl hr1) T.x_BadWord.kp (by rfl) T.x_BadWord.mgc (pa_cons (pv 3) pa_nil))) pa_nil)))))))) pa_nil)) (pe_callB (call_reprD hg hr.units) (by rfl) T.n_repr (by decide +kernel) (pa_cons (pe_tup (pa_cons (pv 3) (pa_cons (pv 4) (pa_cons (pv 3) (pa_cons (pv 4) (pa_cons (pv 3) (pa_cons (pv 3) (pa_cons (pv 3) pa_nil)))))))) pa_nil)) (nomark _))
        (pss_one (ps_ret pe_bl))
        pss_nil)
      (pss_cons (ps_setLc (te := teOth K) (i := 9) (own := [("one", 6)]) (g := (gName 6)) (tt := tYes) rfl nd rfl rfl (sw_true rfl rfl rfl (by decide +kernel)) (pi_tup (pe_tup (pa_cons (pe_mkX (T.m_BadBook _ rfl rfl rfl hr1) T.x_BadBook.kp (by rfl) T.x_BadBook.mgc (pa_cons pe_int pa_nil)) (pa_cons (pe_mkX (T.m_BadRow _ rfl rfl rfl hr1) T.x_BadRow.kp (by rfl) T.x_BadRow.mgc (pa_cons pe_int pa_nil)) (pa_cons (pe_mkX (T.m_Misfit _ rfl rfl rfl hr1) T.x_Misfit.kp (by rfl) T.x_Misfit.mgc (pa_cons pe_int pa_nil)) (pa_cons (pe_mkX (T.m_TooMany _ rfl rfl rfl hr1) T.x_TooMany.kp (by rfl) T.x_TooMany.mgc (pa_cons pe_int (pa_cons pe_int pa_nil))) (pa_cons (pe_mkX (T.m_NoName _ rfl rfl rfl hr1) T.x_NoName.kp (by rfl) T.x_NoName.mgc (pa_cons pe_int pa_nil)) (pa_cons (pe_mkX (T.m_Nothing _ rfl rfl rfl hr1) T.x_Nothing.kp (by rfl) T.x_Nothing.mgc (pa_cons pe_int pa_nil)) (pa_cons (pe_mkX (T.m_BadText _ rfl rfl rfl hr1) T.x_BadText.kp (by rfl) T.x_BadText.mgc (pa_cons pe_int (pa_cons pe_int pa_nil))) (pa_cons (pe_mkX (T.m_BadWord _ rfl rfl rfl hr1) T.x_BadWord.kp (by rfl) T.x_BadWord.mgc (pa_cons pe_int pa_nil)) pa_nil)))))))))) (blkOk_by (N := NL) (sc := defScope sLaw) (by decide +kernel)) (fun _ _ _ _ _ => pg_name (i := 6) nd rfl (Or.inl rfl)) (fun _ _ _ _ _ => pts_nil) (fun _ _ _ _ _ => (pe_callB call_isXT (by rfl) T.n_isi bI (pa_cons (pv 6) (pa_cons (pe_tup (pa_cons (pe_glob (v := .ref (He.ga K "BadNumber")) (by rfl) T.x_BadNumber.mgc rfl) (pa_cons (pe_glob (v := .ref (He.ga K "BadBits")) (by rfl) T.x_BadBits.mgc rfl) (pa_cons (pe_glob (v := .ref (He.ga K "BadTable")) (by rfl) T.x_BadTable.mgc rfl) pa_nil)))) pa_nil)))))
      (pss_cons (ps_if (pt_cmpR op_in_seq pe_bl (pv 9) (by rfl))
        (pss_one (ps_ret pe_bl))
        pss_nil)
      (pss_cons (ps_set (i := 10) nd rfl (Or.inl rfl) (pe_lst (pa_cons (pe_lst (pa_cons (StX.pe_makeR MP GI hrP (by rfl) T.gP pass0 (pa_cons pe_str (pa_cons (pv 3) (pa_cons (pe_lst (pa_cons (pv 4) pa_nil)) pa_nil)))) (pa_cons (StX.pe_makeR MP GI hrP (by rfl) T.gP pass0 (pa_cons pe_str (pa_cons (pe_call GT hrT rfl mT FT.kp bT .nil pass0 (pa_cons (pv 3) pa_nil)) (pa_cons (pe_tup (pa_cons (pv 4) pa_nil)) pa_nil)))) (pa_cons (StX.pe_makeR MP GI hrP (by rfl) T.gP pass0 (pa_cons pe_str (pa_cons (pv 3) (pa_cons (pe_lst (pa_cons (pv 4) pa_nil)) pa_nil)))) (pa_cons (StX.pe_makeR MP GI hrP (by rfl) T.gP pass0 (pa_cons pe_str (pa_cons (pv 3) pa_nil))) (pa_cons (StX.pe_makeR MP GI hrP (by rfl) T.gP pass0 (pa_cons pe_str (pa_cons (pv 4) (pa_cons (pe_lst (pa_cons (pv 4) pa_nil)) pa_nil)))) pa_nil)))))) pa_nil)))
      (pss_cons (ps_expr (pe_bm PySem.F.plainAttrs_list PySem.F.slot_list_append PySem.F.type_list_append mt_append (pv 10) (pa_cons (pe_lst (pa_cons (StX.pe_makeR MD GI hrP (by rfl) T.gD pass0 (pa_cons pe_str (pa_cons (pv 3) (pa_cons (pe_lst (pa_cons (pv 4) pa_nil)) pa_nil)))) (pa_cons (StX.pe_makeR MD GI hrP (by rfl) T.gD pass0 (pa_cons pe_str (pa_cons (pe_call GT hrT rfl mT FT.kp bT .nil pass0 (pa_cons (pv 3) pa_nil)) (pa_cons (pe_tup (pa_cons (pv 4) pa_nil)) pa_nil)))) (pa_cons (StX.pe_makeR MD GI hrP (by rfl) T.gD pass0 (pa_cons pe_str (pa_cons (pv 3) (pa_cons (pe_lst (pa_cons (pv 4) pa_nil)) pa_nil)))) (pa_cons (StX.pe_makeR MD GI hrP (by rfl) T.gD pass0 (pa_cons pe_str (pa_cons (pv 3) pa_nil))) (pa_cons (StX.pe_makeR MD GI hrP (by rfl) T.gD pass0 (pa_cons pe_str (pa_cons (pv 4) (pa_cons (pe_lst (pa_cons (pv 4) pa_nil)) pa_nil)))) pa_nil)))))) pa_nil)))
      (pss_cons (ps_for PassesOwn.never rfl (pi_enum (by rfl) T.n_enum (pa_cons (pv 10) pa_nil)) (pg_tup (by rfl) (pgs_cons (pg_name (i := 11) nd rfl (Or.inl rfl)) (pgs_cons (pg_unl (by rfl) (pgs_cons (pg_name (i := 6) nd rfl (Or.inl rfl)) (pgs_cons (pg_name (i := 12) nd rfl (Or.inl rfl)) (pgs_cons (pg_name (i := 13) nd rfl (Or.inl rfl)) (pgs_cons (pg_name (i := 14) nd rfl (Or.inl rfl)) (pgs_cons (pg_name (i := 15) nd rfl (Or.inl rfl)) pgs_nil)))))) pgs_nil)))
        (pss_cons (ps_if (PW.pt (pw_or (pt_cmpR op_ne (pe_callB (call_reprD hg hr.units) (by rfl) T.n_repr (by decide +kernel) (pa_cons (pe_fld (pv 6) rfl) pa_nil)) (pe_callB (call_reprD hg hr.units) (by rfl) T.n_repr (by decide +kernel) (pa_cons (pe_call GT hrT rfl mT FT.kp bT .nil pass0 (pa_cons (pe_tup (pa_cons (pv 3) (pa_cons (pe_lst (pa_cons (pv 4) pa_nil)) pa_nil))) pa_nil)) pa_nil)) (nomark _)) (pw_or (pt_cmpR op_ne (pe_fld (pv 6) rfl) pe_str (nomark _)) (pw_or (pt_cmpR (op_neP GE hrE bE) (pv 6) (pv 12) (nomark _)) (pw_or (pt_cmpR (op_eqP GE hrE bE) (pv 6) (pv 13) (nomark _)) (pw_or (pt_cmpR (op_eqP GE hrE bE) (pv 6) (pv 14) (nomark _)) (pw_or1 (pt_cmpR op_ne (pe_callTy (call_boolP (k := 1) hrB) (by rfl) T.n_bool (by decide +kernel) (pa_cons (pv 6) pa_nil)) (pe_cmpR op_eq (pv 11) pe_int (nomark _)) (nomark _)))))))))
          (pss_one (ps_ret pe_bl))
          pss_nil)
        (pss_one (ps_if (PW.pt (pw_or (pt_cmpR op_ne (pe_callB call_reprB (by rfl) T.n_repr (by decide +kernel) (pa_cons (pe_cmpR (op_eqP GE hrE bE) (pv 6) (pv 15) (nomark _)) pa_nil)) (pe_callB call_reprB (by rfl) T.n_repr (by decide +kernel) (pa_cons (pe_cmpR op_eq (pe_callB (call_reprD hg hr.units) (by rfl) T.n_repr (by decide +kernel) (pa_cons (pe_call GT hrT rfl mT FT.kp bT .nil pass0 (pa_cons (pv 3) pa_nil)) pa_nil)) (pe_callB (call_reprD hg hr.units) (by rfl) T.n_repr (by decide +kernel) (pa_cons (pe_call GT hrT rfl mT FT.kp bT .nil pass0 (pa_cons (pv 4) pa_nil)) pa_nil)) (nomark _)) pa_nil)) (nomark _)) (pw_or1 (pt_cmpR (op_eqP GE hrE bE) (pv 6) (pe_tup (pa_cons (pv 3) (pa_cons (pe_lst (pa_cons (pv 4) pa_nil)) pa_nil))) (nomark _)))))
          (pss_one (ps_ret pe_bl))
          pss_nil))))
      (pss_one (ps_if (PW.pt (pw_or (pt_cmpR (op_eqF GE hrE bE) (StX.pe_makeR MP GI hrP (by rfl) T.gP pass0 (pa_cons pe_str (pa_cons pe_int pa_nil))) (StX.pe_makeR MD GI hrP (by rfl) T.gD pass0 (pa_cons pe_str (pa_cons pe_int pa_nil))) (nomark _)) (pw_or (pt_not (pt_val (pe_callB call_isi (by rfl) T.n_isi bI (pa_cons (StX.pe_makeR MD GI hrP (by rfl) T.gD pass0 (pa_cons pe_str pa_nil)) (pa_cons (pe_glob (v := .ref (He.ga K "Paper")) (by rfl) T.gP rfl) pa_nil))))) (pw_or (pt_cmpR (op_neD hr.units) (pe_fld (StX.pe_makeR MP GI hrP (by rfl) T.gP pass0 (pa_cons pe_str pa_nil)) rfl) (pe_tup pa_nil) (nomark _)) (pw_or1 (pt_cmpR op_ne (pe_callB (call_reprD hg hr.units) (by rfl) T.n_repr (by decide +kernel) (pa_cons (pe_callN0 GF hrT rfl mF FF.kp kF (pk_cons (pv 3) pk_nil)) pa_nil)) (pe_callB (call_reprD hg hr.units) (by rfl) T.n_repr (by decide +kernel) (pa_cons (pe_call GT hrT rfl mT FT.kp bT .nil pass0 (pa_cons (pv 3) pa_nil)) pa_nil)) (nomark _)))))))
        (pss_one (ps_ret pe_bl))
        pss_nil))))))))))))))
    (pss_one (ps_ret (pe_and (pe_cmpR (op_neP GE hrE bE) (StX.pe_makeR MP GI hrP (by rfl) T.gP pass0 (pa_cons pe_str (pa_cons pe_int pa_nil))) (StX.pe_makeR MP GI hrP (by rfl) T.gP pass0 (pa_cons pe_str (pa_cons pe_bl pa_nil))) (nomark _)) (pe_one (pe_cmpR (op_eqP GE hrE bE) (StX.pe_makeR MP GI hrP (by rfl) T.gP pass0 (pa_cons pe_str (pa_cons (pe_tup (pa_cons pe_int pa_nil)) pa_nil))) (StX.pe_makeR MP GI hrP (by rfl) T.gP pass0 (pa_cons pe_str (pa_cons (pe_lst (pa_cons pe_int pa_nil)) pa_nil))) (nomark _)))))))), ?_⟩
  walk_at "rd"
  refine ⟨a, ns, rfl, hs, hl, fun p q ms H1 e1 hp0 pen => ?_⟩
  walk_at "rd"
  refine ⟨by decide, by decide, for_range (n := 5) (fun i σ H2 => ∃ (v2 v3 v4 v5 v6 v7 v8 v9 v10 v11 v12 v13 v14 v15 : Option V) (t r : Int), σ = [some (.ref a), some (.ref p), v2, v3, v4, v5, v6, v7, v8, v9, v10, v11, v12, v13, v14, v15] ∧ Pen H2 p q ms t r ∧ t ≤ 200 * i)
    ⟨_, _, _, _, _, _, _, _, _, _, _, _, _, _, 0, 0, rfl, pen, by decide⟩ ?_ ?_⟩
  · rintro i σ H2 hi ⟨v2, v3, v4, v5, v6, v7, v8, v9, v10, v11, v12, v13, v14, v15, t, r, rfl, pen2, ht⟩
    have hi5 : i < 5 := hi
    walk_at "rd"
    refine ⟨p, q, ms, t, r, 3, rfl, pen2, by decide, ?_, fun v d H3 t3 r3 sm3 pen3 t31 t32 hv0 dw => ?_⟩
    · have c3 : cost 3 = 80 := by decide
      rw [c3]
      omega
    have c3 : cost 3 = 80 := by decide
    rw [c3] at t32
    walk_at "rd"
    refine ⟨p, q, ms, t3, r3, 2, rfl, pen3, by decide, ?_, fun o g H4 t4 r4 sm4 pen4 t41 t42 ho0 gw => ?_⟩
    · have c2 : cost 2 = 26 := by decide
      rw [c2]
      omega
    have c2 : cost 2 = 26 := by decide
    rw [c2] at t42
    have hp3 : H2 p ≠ none := by rw [pen2.at_]; exact fun z => nomatch z
    have hv4 : Dh H4 v d := Dh.same (fun b o2 z => by
      obtain ⟨z1, z2⟩ := ho_some z
      exact sm4 b o2 (fun y => hp3 (by rw [← y]; exact z1)) z2) _ _ hv0
    have ho4 : Dh H4 o g := Dh.same ho_same _ _ ho0
    clear hv0 ho0 sm3 sm4 pen3 hp3
    walk_at "rd"
    refine ⟨by show 2 ≤ sizeLine; decide, fun tp htp => ?_⟩
    refine ⟨tp, [v, o], rfl, .inl (.inl upd_same), rfl, v, [o], rfl, o, [], rfl, rfl, ?_⟩
    have s0 : Same H4 (upd H4 tp (.tup [v, o])) := same_new htp _
    generalize upd H4 tp (HO.tup [v, o]) = G0 at s0 ⊢
    -- ways
    refine ⟨_, rfl, rfl, rfl, fun e1 d1 he1 hd1 hn1 => ?_⟩
    have s1 : Same G0 (upd (upd G0 d1 (exd d1 (fs1 "part" [v] []))) e1 (exo e1 (He.ga K "BadNumber") (some d1))) := mk_same he1 hd1
    have x1 : XAt (upd (upd G0 d1 (exd d1 (fs1 "part" [v] []))) e1 (exo e1 (He.ga K "BadNumber") (some d1))) e1 (He.ga K "BadNumber") d1 (fs1 "part" [v] []) := mk_at hn1
    generalize upd (upd G0 d1 (exd d1 (fs1 "part" [v] []))) e1 (exo e1 (He.ga K "BadNumber") (some d1)) = G1 at s1 x1 ⊢
    have w1 : Way K G1 v e1 := ⟨_, _, _, x1, T.x_BadNumber.xf, T.x_BadNumber.ec, T.p_BadNumber, rfl, T.b_BadNumber, T.v_BadNumber⟩
    refine ⟨_, rfl, rfl, rfl, fun e2 d2 he2 hd2 hn2 => ?_⟩
    have s2 : Same G1 (upd (upd G1 d2 (exd d2 (fs1 "part" [v] []))) e2 (exo e2 (He.ga K "BadBits") (some d2))) := mk_same he2 hd2
    have x2 : XAt (upd (upd G1 d2 (exd d2 (fs1 "part" [v] []))) e2 (exo e2 (He.ga K "BadBits") (some d2))) e2 (He.ga K "BadBits") d2 (fs1 "part" [v] []) := mk_at hn2
    generalize upd (upd G1 d2 (exd d2 (fs1 "part" [v] []))) e2 (exo e2 (He.ga K "BadBits") (some d2)) = G2 at s2 x2 ⊢
    have w2 : Way K G2 v e2 := ⟨_, _, _, x2, T.x_BadBits.xf, T.x_BadBits.ec, T.p_BadBits, rfl, T.b_BadBits, T.v_BadBits⟩
    refine ⟨_, rfl, rfl, rfl, fun e3 d3 he3 hd3 hn3 => ?_⟩
    have s3 : Same G2 (upd (upd G2 d3 (exd d3 (fs1 "part" [v] []))) e3 (exo e3 (He.ga K "BadTable") (some d3))) := mk_same he3 hd3
    have x3 : XAt (upd (upd G2 d3 (exd d3 (fs1 "part" [v] []))) e3 (exo e3 (He.ga K "BadTable") (some d3))) e3 (He.ga K "BadTable") d3 (fs1 "part" [v] []) := mk_at hn3
    generalize upd (upd G2 d3 (exd d3 (fs1 "part" [v] []))) e3 (exo e3 (He.ga K "BadTable") (some d3)) = G3 at s3 x3 ⊢
    have w3 : Way K G3 v e3 := ⟨_, _, _, x3, T.x_BadTable.xf, T.x_BadTable.ec, T.p_BadTable, rfl, T.b_BadTable, T.v_BadTable⟩
    refine ⟨_, rfl, rfl, rfl, fun e4 d4 he4 hd4 hn4 => ?_⟩
    have s4 : Same G3 (upd (upd G3 d4 (exd d4 (fs1 "part" [v] []))) e4 (exo e4 (He.ga K "BadBook") (some d4))) := mk_same he4 hd4
    have x4 : XAt (upd (upd G3 d4 (exd d4 (fs1 "part" [v] []))) e4 (exo e4 (He.ga K "BadBook") (some d4))) e4 (He.ga K "BadBook") d4 (fs1 "part" [v] []) := mk_at hn4
    generalize upd (upd G3 d4 (exd d4 (fs1 "part" [v] []))) e4 (exo e4 (He.ga K "BadBook") (some d4)) = G4 at s4 x4 ⊢
    have w4 : Way K G4 v e4 := ⟨_, _, _, x4, T.x_BadBook.xf, T.x_BadBook.ec, T.p_BadBook, rfl, T.b_BadBook, T.v_BadBook⟩
    refine ⟨_, rfl, rfl, rfl, fun e5 d5 he5 hd5 hn5 => ?_⟩
    have s5 : Same G4 (upd (upd G4 d5 (exd d5 (fs1 "part" [v] []))) e5 (exo e5 (He.ga K "BadRow") (some d5))) := mk_same he5 hd5
    have x5 : XAt (upd (upd G4 d5 (exd d5 (fs1 "part" [v] []))) e5 (exo e5 (He.ga K "BadRow") (some d5))) e5 (He.ga K "BadRow") d5 (fs1 "part" [v] []) := mk_at hn5
    generalize upd (upd G4 d5 (exd d5 (fs1 "part" [v] []))) e5 (exo e5 (He.ga K "BadRow") (some d5)) = G5 at s5 x5 ⊢
    have w5 : Way K G5 v e5 := ⟨_, _, _, x5, T.x_BadRow.xf, T.x_BadRow.ec, T.p_BadRow, rfl, T.b_BadRow, T.v_BadRow⟩
    refine ⟨_, rfl, rfl, rfl, fun e6 d6 he6 hd6 hn6 => ?_⟩
    have s6 : Same G5 (upd (upd G5 d6 (exd d6 (fs1 "part" [v] []))) e6 (exo e6 (He.ga K "BadPattern") (some d6))) := mk_same he6 hd6
    have x6 : XAt (upd (upd G5 d6 (exd d6 (fs1 "part" [v] []))) e6 (exo e6 (He.ga K "BadPattern") (some d6))) e6 (He.ga K "BadPattern") d6 (fs1 "part" [v] []) := mk_at hn6
    generalize upd (upd G5 d6 (exd d6 (fs1 "part" [v] []))) e6 (exo e6 (He.ga K "BadPattern") (some d6)) = G6 at s6 x6 ⊢
    have w6 : Way K G6 v e6 := ⟨_, _, _, x6, T.x_BadPattern.xf, T.x_BadPattern.ec, T.p_BadPattern, rfl, T.b_BadPattern, T.v_BadPattern⟩
    refine ⟨_, rfl, rfl, rfl, fun e7 d7 he7 hd7 hn7 => ?_⟩
    have s7 : Same G6 (upd (upd G6 d7 (exd d7 (fs1 "part" [v] []))) e7 (exo e7 (He.ga K "BadPaper") (some d7))) := mk_same he7 hd7
    have x7 : XAt (upd (upd G6 d7 (exd d7 (fs1 "part" [v] []))) e7 (exo e7 (He.ga K "BadPaper") (some d7))) e7 (He.ga K "BadPaper") d7 (fs1 "part" [v] []) := mk_at hn7
    generalize upd (upd G6 d7 (exd d7 (fs1 "part" [v] []))) e7 (exo e7 (He.ga K "BadPaper") (some d7)) = G7 at s7 x7 ⊢
    have w7 : Way K G7 v e7 := ⟨_, _, _, x7, T.x_BadPaper.xf, T.x_BadPaper.ec, T.p_BadPaper, rfl, T.b_BadPaper, T.v_BadPaper⟩
    refine ⟨_, rfl, rfl, rfl, fun e8 d8 he8 hd8 hn8 => ?_⟩
    have s8 : Same G7 (upd (upd G7 d8 (exd d8 (fs1 "part" [v] []))) e8 (exo e8 (He.ga K "Misfit") (some d8))) := mk_same he8 hd8
    have x8 : XAt (upd (upd G7 d8 (exd d8 (fs1 "part" [v] []))) e8 (exo e8 (He.ga K "Misfit") (some d8))) e8 (He.ga K "Misfit") d8 (fs1 "part" [v] []) := mk_at hn8
    generalize upd (upd G7 d8 (exd d8 (fs1 "part" [v] []))) e8 (exo e8 (He.ga K "Misfit") (some d8)) = G8 at s8 x8 ⊢
    have w8 : Way K G8 v e8 := ⟨_, _, _, x8, T.x_Misfit.xf, T.x_Misfit.ec, T.p_Misfit, rfl, T.b_Misfit, T.v_Misfit⟩
    refine ⟨_, rfl, rfl, rfl, fun e9 d9 he9 hd9 hn9 => ?_⟩
    have s9 : Same G8 (upd (upd G8 d9 (exd d9 (fs1k "part" [] [v]))) e9 (exo e9 (He.ga K "BadNumber") (some d9))) := mk_same he9 hd9
    have x9 : XAt (upd (upd G8 d9 (exd d9 (fs1k "part" [] [v]))) e9 (exo e9 (He.ga K "BadNumber") (some d9))) e9 (He.ga K "BadNumber") d9 (fs1k "part" [] [v]) := mk_at hn9
    generalize upd (upd G8 d9 (exd d9 (fs1k "part" [] [v]))) e9 (exo e9 (He.ga K "BadNumber") (some d9)) = G9 at s9 x9 ⊢
    have w9 : Way K G9 v e9 := ⟨_, _, _, x9, T.x_BadNumber.xf, T.x_BadNumber.ec, T.p_BadNumber, rfl, T.b_BadNumber, T.v_BadNumber⟩
    refine ⟨by show 9 ≤ sizeLine; decide, fun l9 hl9 => ?_⟩
    have s10 : Same G9 (upd G9 l9 (.lst [V.ref e1, V.ref e2, V.ref e3, V.ref e4, V.ref e5, V.ref e6, V.ref e7, V.ref e8, V.ref e9])) := same_new hl9 _
    have h10 : upd G9 l9 (HO.lst [V.ref e1, V.ref e2, V.ref e3, V.ref e4, V.ref e5, V.ref e6, V.ref e7, V.ref e8, V.ref e9]) l9 = some (.lst [V.ref e1, V.ref e2, V.ref e3, V.ref e4, V.ref e5, V.ref e6, V.ref e7, V.ref e8, V.ref e9]) := upd_same
    generalize upd G9 l9 (HO.lst [V.ref e1, V.ref e2, V.ref e3, V.ref e4, V.ref e5, V.ref e6, V.ref e7, V.ref e8, V.ref e9]) = G10 at s10 h10 ⊢
    refine ⟨_, rfl, ?_⟩
    refine ⟨_, rfl, rfl, rfl, fun e11 d11 he11 hd11 hn11 => ?_⟩
    have s11 : Same G10 (upd (upd G10 d11 (exd d11 (fs1k "part" [] [v]))) e11 (exo e11 (He.ga K "Misfit") (some d11))) := mk_same he11 hd11
    have x11 : XAt (upd (upd G10 d11 (exd d11 (fs1k "part" [] [v]))) e11 (exo e11 (He.ga K "Misfit") (some d11))) e11 (He.ga K "Misfit") d11 (fs1k "part" [] [v]) := mk_at hn11
    generalize upd (upd G10 d11 (exd d11 (fs1k "part" [] [v]))) e11 (exo e11 (He.ga K "Misfit") (some d11)) = G11 at s11 x11 ⊢
    have w11 : Way K G11 v e11 := ⟨_, _, _, x11, T.x_Misfit.xf, T.x_Misfit.ec, T.p_Misfit, rfl, T.b_Misfit, T.v_Misfit⟩
    refine ⟨by show 1 ≤ sizeLine; decide, fun l12 hl12 => ?_⟩
    have s12 : Same G11 (upd G11 l12 (.lst [V.ref e11])) := same_new hl12 _
    have h12 : upd G11 l12 (HO.lst [V.ref e11]) l12 = some (.lst [V.ref e11]) := upd_same
    generalize upd G11 l12 (HO.lst [V.ref e11]) = G12 at s12 h12 ⊢
    refine ⟨l9, l12, _, _, rfl, rfl, s12 _ _ (s11 _ _ h10), h12, by show 10 ≤ sizeLine; decide, fun l13 hl13 => ?_⟩
    have s13 : Same G12 (upd G12 l13 (.lst ([V.ref e1, V.ref e2, V.ref e3, V.ref e4, V.ref e5, V.ref e6, V.ref e7, V.ref e8, V.ref e9] ++ [V.ref e11]))) := same_new hl13 _
    have h13 : upd G12 l13 (HO.lst ([V.ref e1, V.ref e2, V.ref e3, V.ref e4, V.ref e5, V.ref e6, V.ref e7, V.ref e8, V.ref e9] ++ [V.ref e11])) l13 = some (.lst ([V.ref e1, V.ref e2, V.ref e3, V.ref e4, V.ref e5, V.ref e6, V.ref e7, V.ref e8, V.ref e9] ++ [V.ref e11])) := upd_same
    generalize upd G12 l13 (HO.lst ([V.ref e1, V.ref e2, V.ref e3, V.ref e4, V.ref e5, V.ref e6, V.ref e7, V.ref e8, V.ref e9] ++ [V.ref e11])) = G13 at s13 h13 ⊢
    have r9 : Same G9 G13 := s10.trans (s11.trans (s12.trans s13))
    have r8 : Same G8 G13 := s9.trans r9
    have r7 : Same G7 G13 := s8.trans r8
    have r6 : Same G6 G13 := s7.trans r7
    have r5 : Same G5 G13 := s6.trans r6
    have r4 : Same G4 G13 := s5.trans r5
    have r3 : Same G3 G13 := s4.trans r4
    have r2 : Same G2 G13 := s3.trans r3
    have r1 : Same G1 G13 := s2.trans r2
    have r0 : Same H4 G13 := s0.trans (s1.trans r1)
    have hways : ∀ y ∈ ([V.ref e1, V.ref e2, V.ref e3, V.ref e4, V.ref e5, V.ref e6, V.ref e7, V.ref e8, V.ref e9] ++ [V.ref e11]), ∃ b, y = V.ref b ∧ Way K G13 v b := by
      intro y hy
      have hy' : y = V.ref e1 ∨ y = V.ref e2 ∨ y = V.ref e3 ∨ y = V.ref e4 ∨ y = V.ref e5 ∨ y = V.ref e6 ∨ y = V.ref e7 ∨ y = V.ref e8 ∨ y = V.ref e9 ∨ y = V.ref e11 := by simpa using hy
      rcases hy' with rfl | rfl | rfl | rfl | rfl | rfl | rfl | rfl | rfl | rfl
      · exact ⟨_, rfl, w1.same r1⟩
      · exact ⟨_, rfl, w2.same r2⟩
      · exact ⟨_, rfl, w3.same r3⟩
      · exact ⟨_, rfl, w4.same r4⟩
      · exact ⟨_, rfl, w5.same r5⟩
      · exact ⟨_, rfl, w6.same r6⟩
      · exact ⟨_, rfl, w7.same r7⟩
      · exact ⟨_, rfl, w8.same r8⟩
      · exact ⟨_, rfl, w9.same r9⟩
      · exact ⟨_, rfl, w11.same (s12.trans s13)⟩
    have hv13 : Dh G13 v d := Dh.same r0 _ _ hv4
    have ho13 : Dh G13 o g := Dh.same r0 _ _ ho4
    have pen13 := pen4.same r0
    generalize [V.ref e1, V.ref e2, V.ref e3, V.ref e4, V.ref e5, V.ref e6, V.ref e7, V.ref e8, V.ref e9] ++ [V.ref e11] = ways at h13 hways ⊢
    clear s0 s1 s2 s3 s4 s5 s6 s7 s8 s9 s10 s11 s12 s13 r1 r2 r3 r4 r5 r6 r7 r8 r9 x1 x2 x3 x4 x5 x6 x7 x8 x9 x11 w1 w2 w3 w4 w5 w6 w7 w8 w9 w11 h10 h12 hl9 hl12 hl13 r0 hv4 ho4 hn1 hn2 hn3 hn4 hn5 hn6 hn7 hn8 hn9 hn11
    clear he1 he2 he3 he4 he5 he6 he7 he8 he9 he11 hd1 hd2 hd3 hd4 hd5 hd6 hd7 hd8 hd9 hd11
    have dz : Dz 5 d := (dw_z dw).up 5 (by decide)
    have gz : Dz 5 g := (dw_z gw).up 5 (by decide)
    walk_at "rd"
    refine ⟨⟨_, .inl (.inl h13)⟩, fun D hD => lc_list (xs := ways) (fun i H2 => H2 D = some (.lst []) ∧ Same G13 H2) ⟨upd_same, same_new hD _⟩ (fun i H2 _ ⟨_, z2⟩ => .inl (.inl (z2 _ _ h13))) ?_ ?_⟩
    · rintro j x H5 hx ⟨hD5, e5'⟩
      obtain ⟨b, rfl, wy⟩ := hways x (List.mem_of_getElem? hx)
      obtain ⟨C, dx, fs, xa, xf, ec, pn, lk, kb, kv⟩ := (wy.same e5').ex
      have hv5 := Dh.same e5' _ _ hv13
      refine ⟨rfl, ?_⟩
      refine ⟨_, rfl, b, C, dx, fs, v, rfl, xa, xf, pn, lk, ?_⟩
      refine ⟨v, d, rfl, hv5, dz, ?_⟩
      refine ⟨_, rfl, v, d, rfl, hv5, dz, rfl, _, rfl, ?_⟩
      refine iteNS rfl ?_
      refine ⟨_, rfl, b, C, dx, fs, _, _, true, rfl, xa, ec, .own _, kb, _, rfl, ?_⟩
      refine iteF ?_
      refine ⟨_, rfl, b, C, dx, fs, _, _, true, rfl, xa, ec, .ty _, kv, _, rfl, ?_⟩
      exact iteF ⟨hD5, e5'⟩
    · rintro H5 ⟨hD5, e5'⟩
      refine ⟨by show 0 ≤ sizeLine; decide, fun l14 hl14 => ?_⟩
      have s14 : Same H5 (upd H5 l14 (.lst [])) := same_new hl14 _
      refine ⟨.list [], .list [], .lst (.inl (.inl (s14 _ _ hD5))) .nil, .lst (.inl (.inl upd_same)) .nil, rfl, rfl, _, rfl, ?_⟩
      have s15 := e5'.trans s14
      have hv14 := Dh.same s15 _ _ hv13
      have ho14 := Dh.same s15 _ _ ho13
      have pen14 := pen13.same s15
      generalize upd H5 l14 (HO.lst []) = G14 at s15 hv14 ho14 pen14 ⊢
      clear s14 hD5 e5' hl14 hD hways h13 hv13 ho13 pen13 s15
      refine iteF ?_
      -- text, more
      refine ⟨_, rfl, _, rfl, rfl, rfl, fun e15 d15 he15 hd15 hn15 => ?_⟩
      have s15 : Same G14 (upd (upd G14 d15 (exd d15 (fs2k "line" "word" [] [o, v]))) e15 (exo e15 (He.ga K "BadText") (some d15))) := mk_same he15 hd15
      have x15 : XAt (upd (upd G14 d15 (exd d15 (fs2k "line" "word" [] [o, v]))) e15 (exo e15 (He.ga K "BadText") (some d15))) e15 (He.ga K "BadText") d15 (fs2k "line" "word" [] [o, v]) := mk_at hn15
      generalize upd (upd G14 d15 (exd d15 (fs2k "line" "word" [] [o, v]))) e15 (exo e15 (He.ga K "BadText") (some d15)) = G15 at s15 x15 ⊢
      refine ⟨_, rfl, _, rfl, rfl, rfl, fun e16 d16 he16 hd16 hn16 => ?_⟩
      have s16 : Same G15 (upd (upd G15 d16 (exd d16 (fs2k "what" "most" [] [o, v]))) e16 (exo e16 (He.ga K "TooMany") (some d16))) := mk_same he16 hd16
      have x16 : XAt (upd (upd G15 d16 (exd d16 (fs2k "what" "most" [] [o, v]))) e16 (exo e16 (He.ga K "TooMany") (some d16))) e16 (He.ga K "TooMany") d16 (fs2k "what" "most" [] [o, v]) := mk_at hn16
      generalize upd (upd G15 d16 (exd d16 (fs2k "what" "most" [] [o, v]))) e16 (exo e16 (He.ga K "TooMany") (some d16)) = G16 at s16 x16 ⊢
      have x15b := x15.same s16
      refine ⟨_, _, rfl, ?_⟩
      refine ⟨_, rfl, e15, _, d15, _, v, rfl, x15b, T.x_BadText.xf, T.p_BadText_line, rfl, ?_⟩
      refine ⟨_, rfl, e15, _, d15, _, o, rfl, x15b, T.x_BadText.xf, T.p_BadText_word, rfl, ?_⟩
      refine ⟨_, rfl, e16, _, d16, _, v, rfl, x16, T.x_TooMany.xf, T.p_TooMany_what, rfl, ?_⟩
      refine ⟨_, rfl, e16, _, d16, _, o, rfl, x16, T.x_TooMany.xf, T.p_TooMany_most, rfl, ?_⟩
      refine ⟨_, rfl, rfl, rfl, fun e17 d17 he17 hd17 hn17 => ?_⟩
      have s17 : Same G16 (upd (upd G16 d17 (exd d17 (fs1 "name" [v] []))) e17 (exo e17 (He.ga K "NoName") (some d17))) := mk_same he17 hd17
      have x17 : XAt (upd (upd G16 d17 (exd d17 (fs1 "name" [v] []))) e17 (exo e17 (He.ga K "NoName") (some d17))) e17 (He.ga K "NoName") d17 (fs1 "name" [v] []) := mk_at hn17
      generalize upd (upd G16 d17 (exd d17 (fs1 "name" [v] []))) e17 (exo e17 (He.ga K "NoName") (some d17)) = G17 at s17 x17 ⊢
      refine ⟨e17, _, d17, _, v, rfl, x17, T.x_NoName.xf, T.p_NoName_name, rfl, ?_⟩
      refine ⟨_, rfl, rfl, rfl, fun e18 d18 he18 hd18 hn18 => ?_⟩
      have s18 : Same G17 (upd (upd G17 d18 (exd d18 (fs1k "word" [] [v]))) e18 (exo e18 (He.ga K "Nothing") (some d18))) := mk_same he18 hd18
      have x18 : XAt (upd (upd G17 d18 (exd d18 (fs1k "word" [] [v]))) e18 (exo e18 (He.ga K "Nothing") (some d18))) e18 (He.ga K "Nothing") d18 (fs1k "word" [] [v]) := mk_at hn18
      generalize upd (upd G17 d18 (exd d18 (fs1k "word" [] [v]))) e18 (exo e18 (He.ga K "Nothing") (some d18)) = G18 at s18 x18 ⊢
      refine ⟨e18, _, d18, _, v, rfl, x18, T.x_Nothing.xf, T.p_Nothing_word, rfl, ?_⟩
      refine ⟨_, rfl, rfl, rfl, fun e19 d19 he19 hd19 hn19 => ?_⟩
      have s19 : Same G18 (upd (upd G18 d19 (exd d19 (fs1 "word" [v] []))) e19 (exo e19 (He.ga K "BadWord") (some d19))) := mk_same he19 hd19
      have x19 : XAt (upd (upd G18 d19 (exd d19 (fs1 "word" [v] []))) e19 (exo e19 (He.ga K "BadWord") (some d19))) e19 (He.ga K "BadWord") d19 (fs1 "word" [v] []) := mk_at hn19
      generalize upd (upd G18 d19 (exd d19 (fs1 "word" [v] []))) e19 (exo e19 (He.ga K "BadWord") (some d19)) = G19 at s19 x19 ⊢
      refine ⟨e19, _, d19, _, v, rfl, x19, T.x_BadWord.xf, T.p_BadWord_word, rfl, ?_⟩
      refine ⟨by show 7 ≤ sizeLine; decide, fun l20 hl20 => ?_⟩
      have s20 : Same G19 (upd G19 l20 (.tup [v, o, v, o, v, v, v])) := same_new hl20 _
      have h20 : upd G19 l20 (HO.tup [v, o, v, o, v, v, v]) l20 = some (.tup [v, o, v, o, v, v, v]) := upd_same
      generalize upd G19 l20 (HO.tup [v, o, v, o, v, v, v]) = G20 at s20 h20 ⊢
      have r14 : Same G14 G20 := s15.trans (s16.trans (s17.trans (s18.trans (s19.trans s20))))
      have hv20 := Dh.same r14 _ _ hv14
      have ho20 := Dh.same r14 _ _ ho14
      have pen20 := pen14.same r14
      have dz4 : Dz 4 d := (dw_z dw).up 4 (by decide)
      have gz4 : Dz 4 g := (dw_z gw).up 4 (by decide)
      have z7 : Dz 5 (.tuple [d, g, d, g, d, d, d]) := dz_seven dz4 gz4
      clear s15 s16 s17 s18 s19 s20 x15 x16 x15b x17 x18 x19 r14 hv14 ho14 pen14 he15 hd15 hn15 he16 hd16 hn16 he17 hd17 hn17 he18 hd18 hn18 he19 hd19 hn19 hl20
      refine ⟨.ref l20, .tuple [d, g, d, g, d, d, d], rfl, .tup h20 len_seven (a_seven hv20 ho20), z7, ?_⟩
      iterate 7 refine ⟨_, rfl, ?_⟩
      refine ⟨by show 7 ≤ sizeLine; decide, fun l21 hl21 => ?_⟩
      have s21 : Same G20 (upd G20 l21 (.tup [v, o, v, o, v, v, v])) := same_new hl21 _
      have h21 : upd G20 l21 (HO.tup [v, o, v, o, v, v, v]) l21 = some (.tup [v, o, v, o, v, v, v]) := upd_same
      generalize upd G20 l21 (HO.tup [v, o, v, o, v, v, v]) = G21 at s21 h21 ⊢
      have hv21 := Dh.same s21 _ _ hv20
      have ho21 := Dh.same s21 _ _ ho20
      have pen21 := pen20.same s21
      refine ⟨.ref l21, .tuple [d, g, d, g, d, d, d], rfl, .tup h21 len_seven (a_seven hv21 ho21), z7, ?_⟩
      generalize PyData.shown (PyData.tuple [d, g, d, g, d, d, d]) = tx
      refine ⟨rfl, _, rfl, ?_⟩
      refine iteNS rfl ?_
      clear hv20 ho20 pen20 h20 s21 h21 hl21 z7
      -- kinds
      refine ⟨rfl, rfl, fun e22 d22 he22 hd22 hn22 => ?_⟩
      have s22 : Same G21 (upd (upd G21 d22 (exd d22 (fs1 "part" [V.int 1] []))) e22 (exo e22 (He.ga K "BadBook") (some d22))) := mk_same he22 hd22
      have x22 : XAt (upd (upd G21 d22 (exd d22 (fs1 "part" [V.int 1] []))) e22 (exo e22 (He.ga K "BadBook") (some d22))) e22 (He.ga K "BadBook") d22 (fs1 "part" [V.int 1] []) := mk_at hn22
      generalize upd (upd G21 d22 (exd d22 (fs1 "part" [V.int 1] []))) e22 (exo e22 (He.ga K "BadBook") (some d22)) = G22 at s22 x22 ⊢
      have w22 : Oth K G22 e22 := ⟨_, _, _, x22, T.x_BadBook.ec, T.o_BadBook⟩
      refine ⟨rfl, rfl, fun e23 d23 he23 hd23 hn23 => ?_⟩
      have s23 : Same G22 (upd (upd G22 d23 (exd d23 (fs1 "part" [V.int 1] []))) e23 (exo e23 (He.ga K "BadRow") (some d23))) := mk_same he23 hd23
      have x23 : XAt (upd (upd G22 d23 (exd d23 (fs1 "part" [V.int 1] []))) e23 (exo e23 (He.ga K "BadRow") (some d23))) e23 (He.ga K "BadRow") d23 (fs1 "part" [V.int 1] []) := mk_at hn23
      generalize upd (upd G22 d23 (exd d23 (fs1 "part" [V.int 1] []))) e23 (exo e23 (He.ga K "BadRow") (some d23)) = G23 at s23 x23 ⊢
      have w23 : Oth K G23 e23 := ⟨_, _, _, x23, T.x_BadRow.ec, T.o_BadRow⟩
      refine ⟨rfl, rfl, fun e24 d24 he24 hd24 hn24 => ?_⟩
      have s24 : Same G23 (upd (upd G23 d24 (exd d24 (fs1 "part" [V.int 1] []))) e24 (exo e24 (He.ga K "Misfit") (some d24))) := mk_same he24 hd24
      have x24 : XAt (upd (upd G23 d24 (exd d24 (fs1 "part" [V.int 1] []))) e24 (exo e24 (He.ga K "Misfit") (some d24))) e24 (He.ga K "Misfit") d24 (fs1 "part" [V.int 1] []) := mk_at hn24
      generalize upd (upd G23 d24 (exd d24 (fs1 "part" [V.int 1] []))) e24 (exo e24 (He.ga K "Misfit") (some d24)) = G24 at s24 x24 ⊢
      have w24 : Oth K G24 e24 := ⟨_, _, _, x24, T.x_Misfit.ec, T.o_Misfit⟩
      refine ⟨rfl, rfl, fun e25 d25 he25 hd25 hn25 => ?_⟩
      have s25 : Same G24 (upd (upd G24 d25 (exd d25 (fs2 "what" "most" [V.int 1, V.int 2] []))) e25 (exo e25 (He.ga K "TooMany") (some d25))) := mk_same he25 hd25
      have x25 : XAt (upd (upd G24 d25 (exd d25 (fs2 "what" "most" [V.int 1, V.int 2] []))) e25 (exo e25 (He.ga K "TooMany") (some d25))) e25 (He.ga K "TooMany") d25 (fs2 "what" "most" [V.int 1, V.int 2] []) := mk_at hn25
      generalize upd (upd G24 d25 (exd d25 (fs2 "what" "most" [V.int 1, V.int 2] []))) e25 (exo e25 (He.ga K "TooMany") (some d25)) = G25 at s25 x25 ⊢
      have w25 : Oth K G25 e25 := ⟨_, _, _, x25, T.x_TooMany.ec, T.o_TooMany⟩
      refine ⟨rfl, rfl, fun e26 d26 he26 hd26 hn26 => ?_⟩
      have s26 : Same G25 (upd (upd G25 d26 (exd d26 (fs1 "name" [V.int 1] []))) e26 (exo e26 (He.ga K "NoName") (some d26))) := mk_same he26 hd26
      have x26 : XAt (upd (upd G25 d26 (exd d26 (fs1 "name" [V.int 1] []))) e26 (exo e26 (He.ga K "NoName") (some d26))) e26 (He.ga K "NoName") d26 (fs1 "name" [V.int 1] []) := mk_at hn26
      generalize upd (upd G25 d26 (exd d26 (fs1 "name" [V.int 1] []))) e26 (exo e26 (He.ga K "NoName") (some d26)) = G26 at s26 x26 ⊢
      have w26 : Oth K G26 e26 := ⟨_, _, _, x26, T.x_NoName.ec, T.o_NoName⟩
      refine ⟨rfl, rfl, fun e27 d27 he27 hd27 hn27 => ?_⟩
      have s27 : Same G26 (upd (upd G26 d27 (exd d27 (fs1 "word" [V.int 1] []))) e27 (exo e27 (He.ga K "Nothing") (some d27))) := mk_same he27 hd27
      have x27 : XAt (upd (upd G26 d27 (exd d27 (fs1 "word" [V.int 1] []))) e27 (exo e27 (He.ga K "Nothing") (some d27))) e27 (He.ga K "Nothing") d27 (fs1 "word" [V.int 1] []) := mk_at hn27
      generalize upd (upd G26 d27 (exd d27 (fs1 "word" [V.int 1] []))) e27 (exo e27 (He.ga K "Nothing") (some d27)) = G27 at s27 x27 ⊢
      have w27 : Oth K G27 e27 := ⟨_, _, _, x27, T.x_Nothing.ec, T.o_Nothing⟩
      refine ⟨rfl, rfl, fun e28 d28 he28 hd28 hn28 => ?_⟩
      have s28 : Same G27 (upd (upd G27 d28 (exd d28 (fs2 "line" "word" [V.int 0, V.int 0] []))) e28 (exo e28 (He.ga K "BadText") (some d28))) := mk_same he28 hd28
      have x28 : XAt (upd (upd G27 d28 (exd d28 (fs2 "line" "word" [V.int 0, V.int 0] []))) e28 (exo e28 (He.ga K "BadText") (some d28))) e28 (He.ga K "BadText") d28 (fs2 "line" "word" [V.int 0, V.int 0] []) := mk_at hn28
      generalize upd (upd G27 d28 (exd d28 (fs2 "line" "word" [V.int 0, V.int 0] []))) e28 (exo e28 (He.ga K "BadText") (some d28)) = G28 at s28 x28 ⊢
      have w28 : Oth K G28 e28 := ⟨_, _, _, x28, T.x_BadText.ec, T.o_BadText⟩
      refine ⟨rfl, rfl, fun e29 d29 he29 hd29 hn29 => ?_⟩
      have s29 : Same G28 (upd (upd G28 d29 (exd d29 (fs1 "word" [V.int 0] []))) e29 (exo e29 (He.ga K "BadWord") (some d29))) := mk_same he29 hd29
      have x29 : XAt (upd (upd G28 d29 (exd d29 (fs1 "word" [V.int 0] []))) e29 (exo e29 (He.ga K "BadWord") (some d29))) e29 (He.ga K "BadWord") d29 (fs1 "word" [V.int 0] []) := mk_at hn29
      generalize upd (upd G28 d29 (exd d29 (fs1 "word" [V.int 0] []))) e29 (exo e29 (He.ga K "BadWord") (some d29)) = G29 at s29 x29 ⊢
      have w29 : Oth K G29 e29 := ⟨_, _, _, x29, T.x_BadWord.ec, T.o_BadWord⟩
      refine ⟨by show 8 ≤ sizeLine; decide, fun l30 hl30 => ?_⟩
      have s30 : Same G29 (upd G29 l30 (.tup [V.ref e22, V.ref e23, V.ref e24, V.ref e25, V.ref e26, V.ref e27, V.ref e28, V.ref e29])) := same_new hl30 _
      have h30 : upd G29 l30 (HO.tup [V.ref e22, V.ref e23, V.ref e24, V.ref e25, V.ref e26, V.ref e27, V.ref e28, V.ref e29]) l30 = some (.tup [V.ref e22, V.ref e23, V.ref e24, V.ref e25, V.ref e26, V.ref e27, V.ref e28, V.ref e29]) := upd_same
      generalize upd G29 l30 (HO.tup [V.ref e22, V.ref e23, V.ref e24, V.ref e25, V.ref e26, V.ref e27, V.ref e28, V.ref e29]) = G30 at s30 h30 ⊢
      have q29 : Same G29 G30 := s30
      have q28 : Same G28 G30 := s29.trans q29
      have q27 : Same G27 G30 := s28.trans q28
      have q26 : Same G26 G30 := s27.trans q27
      have q25 : Same G25 G30 := s26.trans q26
      have q24 : Same G24 G30 := s25.trans q25
      have q23 : Same G23 G30 := s24.trans q24
      have q22 : Same G22 G30 := s23.trans q23
      have q21 : Same G21 G30 := s22.trans q22
      have hoth : ∀ y ∈ [V.ref e22, V.ref e23, V.ref e24, V.ref e25, V.ref e26, V.ref e27, V.ref e28, V.ref e29], ∃ b, y = V.ref b ∧ Oth K G30 b := by
        intro y hy
        have hy' : y = V.ref e22 ∨ y = V.ref e23 ∨ y = V.ref e24 ∨ y = V.ref e25 ∨ y = V.ref e26 ∨ y = V.ref e27 ∨ y = V.ref e28 ∨ y = V.ref e29 := by simpa using hy
        rcases hy' with rfl | rfl | rfl | rfl | rfl | rfl | rfl | rfl
        · exact ⟨_, rfl, w22.same q22⟩
        · exact ⟨_, rfl, w23.same q23⟩
        · exact ⟨_, rfl, w24.same q24⟩
        · exact ⟨_, rfl, w25.same q25⟩
        · exact ⟨_, rfl, w26.same q26⟩
        · exact ⟨_, rfl, w27.same q27⟩
        · exact ⟨_, rfl, w28.same q28⟩
        · exact ⟨_, rfl, w29.same q29⟩
      have hv30 := Dh.same q21 _ _ hv21
      have ho30 := Dh.same q21 _ _ ho21
      have pen30 := pen21.same q21
      have hlen8 : ([V.ref e22, V.ref e23, V.ref e24, V.ref e25, V.ref e26, V.ref e27, V.ref e28, V.ref e29] : List V).length = 8 := rfl
      generalize ([V.ref e22, V.ref e23, V.ref e24, V.ref e25, V.ref e26, V.ref e27, V.ref e28, V.ref e29] : List V) = oths at h30 hoth hlen8 ⊢
      clear s22 x22 w22 he22 hd22 hn22 q22 s23 x23 w23 he23 hd23 hn23 q23 s24 x24 w24 he24 hd24 hn24 q24 s25 x25 w25 he25 hd25 hn25 q25 s26 x26 w26 he26 hd26 hn26 q26 s27 x27 w27 he27 hd27 hn27 q27 s28 x28 w28 he28 hd28 hn28 q28 s29 x29 w29 he29 hd29 hn29 q29 q21 s30 hl30 hv21 ho21 pen21
      refine ⟨l30, rfl, ⟨_, .inl (.inl h30)⟩, fun D hD => lc_tup (xs := oths) (fun i H2 => H2 D = some (.lst (List.replicate i (V.bl false))) ∧ Same G30 H2) ⟨upd_same, same_new hD _⟩ (fun i H2 _ ⟨_, z2⟩ => .inl (.inl (z2 _ _ h30))) ?_ ?_⟩
      · rintro j x H5 hx ⟨hD5, e5'⟩
        have hj : j < oths.length := (List.getElem?_eq_some_iff.mp hx).1
        obtain ⟨b, rfl, wy⟩ := hoth x (List.mem_of_getElem? hx)
        refine ⟨rfl, ?_⟩
        refine ⟨_, rfl, by show 3 ≤ sizeLine; decide, fun tq htq => ?_⟩
        have s6' : Same H5 (upd H5 tq (.tup [V.ref (He.ga K "BadNumber"), V.ref (He.ga K "BadBits"), V.ref (He.ga K "BadTable")])) := same_new htq _
        obtain ⟨C, dx, fs, xa, ec, kk⟩ := (wy.same (e5'.trans s6')).ex
        refine ⟨b, C, dx, fs, tq, _, _, false, rfl, xa, ec, upd_same, .cons (.own _) (.cons (.own _) (.cons (.own _) .nil)), kk, List.replicate j (V.bl false), s6' _ _ hD5, ?_, ?_, ?_⟩
        · rw [List.length_replicate]
          exact Nat.lt_of_lt_of_le hj (by rw [hlen8]; decide)
        · rw [upd_same, List.replicate_succ']
        · exact fun b2 o2 hb2 => by rw [upd_ne (ne_of_none hb2 hD)]; exact s6' _ _ (e5' _ _ hb2)
      · rintro H5 ⟨hD5, e5'⟩
        rw [hlen8] at hD5
        have hv31 := Dh.same e5' _ _ hv30
        have ho31 := Dh.same e5' _ _ ho30
        have pen31 := pen30.same e5'
        clear hoth h30 hlen8 hv30 ho30 pen30 e5' hD
        walk_at "rd"
        refine ⟨rfl, rfl, _, rfl, ?_⟩
        refine iteF ?_
        clear hD5
        -- papers
        have dd4 : dep d ≤ 4 := dz_dep ((dw_z dw).up 4 (by decide))
        have gd4 : dep g ≤ 4 := dz_dep ((dw_z gw).up 4 (by decide))
        have td4 : dep (tupd d) ≤ 4 := dz_dep (dt_z (dz_t ((dw_z dw).up 4 (by decide))))
        refine ⟨_, rfl, ?_⟩
        refine ⟨_, rfl, one_line, fun q40 hq40 => ?_⟩
        have t40 : Same H5 (upd H5 q40 (.lst [o])) := same_new hq40 _
        have hk40 : upd H5 q40 (HO.lst [o]) q40 = some (.lst [o]) := upd_same
        generalize upd H5 q40 (HO.lst [o]) = L40 at t40 hk40 ⊢
        clear hq40
        have hva40 := Dh.same t40 _ _ hv31
        have hoa40 := Dh.same t40 _ _ ho31
        refine fun x40 dx40 hx40 hd40 hn40 => ⟨[V.ref x40, V.str "a"], [v, V.ref q40], rfl, rfl, two_line, fun p40 hp40 => ⟨x40, p40, _, dx40, "a", "Paper", [v, V.ref q40], [d, PyData.list [g]], rfl, pap_ins hp40, T.pP, upd_same, two100, ?_, dep2 dd4 (depL gd4), fun v40 N40 sm40 hxx40 hdd40 => ⟨rfl, ?_⟩⟩⟩
        · exact DhAll.same (pap_same0 hx40 hd40 hp40) _ _ (.cons hva40 (.cons (.lst hk40 one100 (.cons hoa40 .nil)) .nil))
        have s40 : Same L40 N40 := pap_same hx40 hd40 hp40 sm40
        have a40 : PapAt K (He.ga K "Paper") N40 x40 (He.ga K "Paper") "a" v40 (.tuple (tupdAll [d, PyData.list [g]])) "Paper" := ⟨T.pP, ⟨_, hxx40⟩, hdd40⟩
        clear sm40 hxx40 hdd40 hp40 hx40 hd40 hn40
        have hvb40 := Dh.same s40 _ _ hva40
        have hob40 := Dh.same s40 _ _ hoa40
        refine ⟨_, rfl, v, d, rfl, hvb40, by omega, fun u41 M41 m41 hu41 => ?_⟩
        have hu41b : Dh M41 u41 (tupd d) := Dh.same ho_same _ _ hu41
        have hvc41 := Dh.same m41 _ _ hvb40
        have hoc41 := Dh.same m41 _ _ hob40
        refine ⟨_, rfl, one_line, fun q41 hq41 => ?_⟩
        have t41 : Same M41 (upd M41 q41 (.tup [o])) := same_new hq41 _
        have hk41 : upd M41 q41 (HO.tup [o]) q41 = some (.tup [o]) := upd_same
        generalize upd M41 q41 (HO.tup [o]) = L41 at t41 hk41 ⊢
        clear hq41
        have hva41 := Dh.same t41 _ _ hvc41
        have hoa41 := Dh.same t41 _ _ hoc41
        have hu41c := Dh.same t41 _ _ hu41b
        refine fun x41 dx41 hx41 hd41 hn41 => ⟨[V.ref x41, V.str "a"], [u41, V.ref q41], rfl, rfl, two_line, fun p41 hp41 => ⟨x41, p41, _, dx41, "a", "Paper", [u41, V.ref q41], [tupd d, PyData.tuple [g]], rfl, pap_ins hp41, T.pP, upd_same, two100, ?_, dep2 td4 (depT gd4), fun v41 N41 sm41 hxx41 hdd41 => ⟨rfl, ?_⟩⟩⟩
        · exact DhAll.same (pap_same0 hx41 hd41 hp41) _ _ (.cons hu41c (.cons (.tup hk41 one100 (.cons hoa41 .nil)) .nil))
        have s41 : Same L41 N41 := pap_same hx41 hd41 hp41 sm41
        have a41 : PapAt K (He.ga K "Paper") N41 x41 (He.ga K "Paper") "a" v41 (.tuple (tupdAll [tupd d, PyData.tuple [g]])) "Paper" := ⟨T.pP, ⟨_, hxx41⟩, hdd41⟩
        clear sm41 hxx41 hdd41 hp41 hx41 hd41 hn41
        have hvb41 := Dh.same s41 _ _ hva41
        have hob41 := Dh.same s41 _ _ hoa41
        refine ⟨_, rfl, ?_⟩
        refine ⟨_, rfl, one_line, fun q42 hq42 => ?_⟩
        have t42 : Same N41 (upd N41 q42 (.lst [o])) := same_new hq42 _
        have hk42 : upd N41 q42 (HO.lst [o]) q42 = some (.lst [o]) := upd_same
        generalize upd N41 q42 (HO.lst [o]) = L42 at t42 hk42 ⊢
        clear hq42
        have hva42 := Dh.same t42 _ _ hvb41
        have hoa42 := Dh.same t42 _ _ hob41
        refine fun x42 dx42 hx42 hd42 hn42 => ⟨[V.ref x42, V.str "b"], [v, V.ref q42], rfl, rfl, two_line, fun p42 hp42 => ⟨x42, p42, _, dx42, "b", "Paper", [v, V.ref q42], [d, PyData.list [g]], rfl, pap_ins hp42, T.pP, upd_same, two100, ?_, dep2 dd4 (depL gd4), fun v42 N42 sm42 hxx42 hdd42 => ⟨rfl, ?_⟩⟩⟩
        · exact DhAll.same (pap_same0 hx42 hd42 hp42) _ _ (.cons hva42 (.cons (.lst hk42 one100 (.cons hoa42 .nil)) .nil))
        have s42 : Same L42 N42 := pap_same hx42 hd42 hp42 sm42
        have a42 : PapAt K (He.ga K "Paper") N42 x42 (He.ga K "Paper") "b" v42 (.tuple (tupdAll [d, PyData.list [g]])) "Paper" := ⟨T.pP, ⟨_, hxx42⟩, hdd42⟩
        clear sm42 hxx42 hdd42 hp42 hx42 hd42 hn42
        have hvb42 := Dh.same s42 _ _ hva42
        have hob42 := Dh.same s42 _ _ hoa42
        refine ⟨_, rfl, ?_⟩
        refine fun x43 dx43 hx43 hd43 hn43 => ⟨[V.ref x43, V.str "a"], [v], rfl, rfl, one_line, fun p43 hp43 => ⟨x43, p43, _, dx43, "a", "Paper", [v], [d], rfl, pap_ins hp43, T.pP, upd_same, one100, ?_, dep1 dd4, fun v43 N43 sm43 hxx43 hdd43 => ⟨rfl, ?_⟩⟩⟩
        · exact DhAll.same (pap_same0 hx43 hd43 hp43) _ _ (.cons hvb42 .nil)
        have s43 : Same N42 N43 := pap_same hx43 hd43 hp43 sm43
        have a43 : PapAt K (He.ga K "Paper") N43 x43 (He.ga K "Paper") "a" v43 (.tuple (tupdAll [d])) "Paper" := ⟨T.pP, ⟨_, hxx43⟩, hdd43⟩
        clear sm43 hxx43 hdd43 hp43 hx43 hd43 hn43
        have hvb43 := Dh.same s43 _ _ hvb42
        have hob43 := Dh.same s43 _ _ hob42
        refine ⟨_, rfl, ?_⟩
        refine ⟨_, rfl, one_line, fun q44 hq44 => ?_⟩
        have t44 : Same N43 (upd N43 q44 (.lst [o])) := same_new hq44 _
        have hk44 : upd N43 q44 (HO.lst [o]) q44 = some (.lst [o]) := upd_same
        generalize upd N43 q44 (HO.lst [o]) = L44 at t44 hk44 ⊢
        clear hq44
        have hva44 := Dh.same t44 _ _ hvb43
        have hoa44 := Dh.same t44 _ _ hob43
        refine fun x44 dx44 hx44 hd44 hn44 => ⟨[V.ref x44, V.str "a"], [o, V.ref q44], rfl, rfl, two_line, fun p44 hp44 => ⟨x44, p44, _, dx44, "a", "Paper", [o, V.ref q44], [g, PyData.list [g]], rfl, pap_ins hp44, T.pP, upd_same, two100, ?_, dep2 gd4 (depL gd4), fun v44 N44 sm44 hxx44 hdd44 => ⟨rfl, ?_⟩⟩⟩
        · exact DhAll.same (pap_same0 hx44 hd44 hp44) _ _ (.cons hoa44 (.cons (.lst hk44 one100 (.cons hoa44 .nil)) .nil))
        have s44 : Same L44 N44 := pap_same hx44 hd44 hp44 sm44
        have a44 : PapAt K (He.ga K "Paper") N44 x44 (He.ga K "Paper") "a" v44 (.tuple (tupdAll [g, PyData.list [g]])) "Paper" := ⟨T.pP, ⟨_, hxx44⟩, hdd44⟩
        clear sm44 hxx44 hdd44 hp44 hx44 hd44 hn44
        have hvb44 := Dh.same s44 _ _ hva44
        have hob44 := Dh.same s44 _ _ hoa44
        refine ⟨by show 5 ≤ sizeLine; decide, fun f40 hf40 => ?_⟩
        have fs40 : Same N44 (upd N44 f40 (.lst [V.ref x40, V.ref x41, V.ref x42, V.ref x43, V.ref x44])) := same_new hf40 _
        have hfl40 : upd N44 f40 (HO.lst [V.ref x40, V.ref x41, V.ref x42, V.ref x43, V.ref x44]) f40 = some (.lst [V.ref x40, V.ref x41, V.ref x42, V.ref x43, V.ref x44]) := upd_same
        generalize upd N44 f40 (HO.lst [V.ref x40, V.ref x41, V.ref x42, V.ref x43, V.ref x44]) = F40 at fs40 hfl40 ⊢
        have hvf40 := Dh.same fs40 _ _ hvb44
        have hof40 := Dh.same fs40 _ _ hob44
        have y5 : Same N44 F40 := fs40
        have y4 : Same N43 F40 := t44.trans (s44.trans y5)
        have y3 : Same N42 F40 := s43.trans y4
        have y2 : Same N41 F40 := t42.trans (s42.trans y3)
        have y1 : Same N40 F40 := m41.trans (t41.trans (s41.trans y2))
        have y0 : Same H5 F40 := t40.trans (s40.trans y1)
        have e2t : tupd (tupd d) = tupd d := dt_tupd (dz_t dz)
        have z2 : PapAt K (He.ga K "Paper") N41 x41 (He.ga K "Paper") "a" v41 (.tuple [tupd d, .tuple [tupd g]]) "Paper" := by
          have z : PapAt K (He.ga K "Paper") N41 x41 (He.ga K "Paper") "a" v41 (.tuple [tupd (tupd d), .tuple [tupd g]]) "Paper" := a41
          rw [e2t] at z
          exact z
        have five40 : Five K F40 f40 (He.ga K "Paper") "Paper" d g x40 x41 x42 x43 x44 := ⟨hfl40, ⟨_, (a40).same y1⟩, ⟨_, z2.same y2⟩, ⟨_, (a42).same y3⟩, ⟨_, (a43).same y4⟩, ⟨_, (a44).same y5⟩⟩
        clear s40 a40 hvb40 hob40 s41 a41 hvb41 hob41 s42 a42 hvb42 hob42 s43 a43 hvb43 hob43 s44 a44 hvb44 hob44 t40 hk40 hva40 hoa40 t41 hk41 hva41 hoa41 t42 hk42 hva42 hoa42 t44 hk44 hva44 hoa44 m41 hu41 hu41b hu41c hvc41 hoc41 z2 e2t y1 y2 y3 y4 y5 fs40 hf40
        have pen40 := pen31.same y0
        clear y0 hv31 ho31 pen31
        refine ⟨one_line, fun l50 hl50 => ?_⟩
        have s50 : Same F40 (upd F40 l50 (.lst [V.ref f40])) := same_new hl50 _
        have h50 : upd F40 l50 (HO.lst [V.ref f40]) l50 = some (.lst [V.ref f40]) := upd_same
        generalize upd F40 l50 (HO.lst [V.ref f40]) = G50 at s50 h50 ⊢
        have hv50 := Dh.same s50 _ _ hvf40
        have ho50 := Dh.same s50 _ _ hof40
        have fiveA := five40.same s50
        have pen50 := pen40.same s50
        clear hfl40
        refine ⟨_, rfl, ?_⟩
        refine ⟨.inl ⟨rfl, _, SqL.of h50⟩, ?_⟩
        refine ⟨_, rfl, ?_⟩
        refine ⟨_, rfl, one_line, fun q60 hq60 => ?_⟩
        have t60 : Same G50 (upd G50 q60 (.lst [o])) := same_new hq60 _
        have hk60 : upd G50 q60 (HO.lst [o]) q60 = some (.lst [o]) := upd_same
        generalize upd G50 q60 (HO.lst [o]) = L60 at t60 hk60 ⊢
        clear hq60
        have hva60 := Dh.same t60 _ _ hv50
        have hoa60 := Dh.same t60 _ _ ho50
        refine fun x60 dx60 hx60 hd60 hn60 => ⟨[V.ref x60, V.str "a"], [v, V.ref q60], rfl, rfl, two_line, fun p60 hp60 => ⟨x60, p60, _, dx60, "a", "Denial", [v, V.ref q60], [d, PyData.list [g]], rfl, pap_ins hp60, T.pD, upd_same, two100, ?_, dep2 dd4 (depL gd4), fun v60 N60 sm60 hxx60 hdd60 => ⟨rfl, ?_⟩⟩⟩
        · exact DhAll.same (pap_same0 hx60 hd60 hp60) _ _ (.cons hva60 (.cons (.lst hk60 one100 (.cons hoa60 .nil)) .nil))
        have s60 : Same L60 N60 := pap_same hx60 hd60 hp60 sm60
        have a60 : PapAt K (He.ga K "Paper") N60 x60 (He.ga K "Denial") "a" v60 (.tuple (tupdAll [d, PyData.list [g]])) "Denial" := ⟨T.pD, ⟨_, hxx60⟩, hdd60⟩
        clear sm60 hxx60 hdd60 hp60 hx60 hd60 hn60
        have hvb60 := Dh.same s60 _ _ hva60
        have hob60 := Dh.same s60 _ _ hoa60
        refine ⟨_, rfl, v, d, rfl, hvb60, by omega, fun u61 M61 m61 hu61 => ?_⟩
        have hu61b : Dh M61 u61 (tupd d) := Dh.same ho_same _ _ hu61
        have hvc61 := Dh.same m61 _ _ hvb60
        have hoc61 := Dh.same m61 _ _ hob60
        refine ⟨_, rfl, one_line, fun q61 hq61 => ?_⟩
        have t61 : Same M61 (upd M61 q61 (.tup [o])) := same_new hq61 _
        have hk61 : upd M61 q61 (HO.tup [o]) q61 = some (.tup [o]) := upd_same
        generalize upd M61 q61 (HO.tup [o]) = L61 at t61 hk61 ⊢
        clear hq61
        have hva61 := Dh.same t61 _ _ hvc61
        have hoa61 := Dh.same t61 _ _ hoc61
        have hu61c := Dh.same t61 _ _ hu61b
        refine fun x61 dx61 hx61 hd61 hn61 => ⟨[V.ref x61, V.str "a"], [u61, V.ref q61], rfl, rfl, two_line, fun p61 hp61 => ⟨x61, p61, _, dx61, "a", "Denial", [u61, V.ref q61], [tupd d, PyData.tuple [g]], rfl, pap_ins hp61, T.pD, upd_same, two100, ?_, dep2 td4 (depT gd4), fun v61 N61 sm61 hxx61 hdd61 => ⟨rfl, ?_⟩⟩⟩
        · exact DhAll.same (pap_same0 hx61 hd61 hp61) _ _ (.cons hu61c (.cons (.tup hk61 one100 (.cons hoa61 .nil)) .nil))
        have s61 : Same L61 N61 := pap_same hx61 hd61 hp61 sm61
        have a61 : PapAt K (He.ga K "Paper") N61 x61 (He.ga K "Denial") "a" v61 (.tuple (tupdAll [tupd d, PyData.tuple [g]])) "Denial" := ⟨T.pD, ⟨_, hxx61⟩, hdd61⟩
        clear sm61 hxx61 hdd61 hp61 hx61 hd61 hn61
        have hvb61 := Dh.same s61 _ _ hva61
        have hob61 := Dh.same s61 _ _ hoa61
        refine ⟨_, rfl, ?_⟩
        refine ⟨_, rfl, one_line, fun q62 hq62 => ?_⟩
        have t62 : Same N61 (upd N61 q62 (.lst [o])) := same_new hq62 _
        have hk62 : upd N61 q62 (HO.lst [o]) q62 = some (.lst [o]) := upd_same
        generalize upd N61 q62 (HO.lst [o]) = L62 at t62 hk62 ⊢
        clear hq62
        have hva62 := Dh.same t62 _ _ hvb61
        have hoa62 := Dh.same t62 _ _ hob61
        refine fun x62 dx62 hx62 hd62 hn62 => ⟨[V.ref x62, V.str "b"], [v, V.ref q62], rfl, rfl, two_line, fun p62 hp62 => ⟨x62, p62, _, dx62, "b", "Denial", [v, V.ref q62], [d, PyData.list [g]], rfl, pap_ins hp62, T.pD, upd_same, two100, ?_, dep2 dd4 (depL gd4), fun v62 N62 sm62 hxx62 hdd62 => ⟨rfl, ?_⟩⟩⟩
        · exact DhAll.same (pap_same0 hx62 hd62 hp62) _ _ (.cons hva62 (.cons (.lst hk62 one100 (.cons hoa62 .nil)) .nil))
        have s62 : Same L62 N62 := pap_same hx62 hd62 hp62 sm62
        have a62 : PapAt K (He.ga K "Paper") N62 x62 (He.ga K "Denial") "b" v62 (.tuple (tupdAll [d, PyData.list [g]])) "Denial" := ⟨T.pD, ⟨_, hxx62⟩, hdd62⟩
        clear sm62 hxx62 hdd62 hp62 hx62 hd62 hn62
        have hvb62 := Dh.same s62 _ _ hva62
        have hob62 := Dh.same s62 _ _ hoa62
        refine ⟨_, rfl, ?_⟩
        refine fun x63 dx63 hx63 hd63 hn63 => ⟨[V.ref x63, V.str "a"], [v], rfl, rfl, one_line, fun p63 hp63 => ⟨x63, p63, _, dx63, "a", "Denial", [v], [d], rfl, pap_ins hp63, T.pD, upd_same, one100, ?_, dep1 dd4, fun v63 N63 sm63 hxx63 hdd63 => ⟨rfl, ?_⟩⟩⟩
        · exact DhAll.same (pap_same0 hx63 hd63 hp63) _ _ (.cons hvb62 .nil)
        have s63 : Same N62 N63 := pap_same hx63 hd63 hp63 sm63
        have a63 : PapAt K (He.ga K "Paper") N63 x63 (He.ga K "Denial") "a" v63 (.tuple (tupdAll [d])) "Denial" := ⟨T.pD, ⟨_, hxx63⟩, hdd63⟩
        clear sm63 hxx63 hdd63 hp63 hx63 hd63 hn63
        have hvb63 := Dh.same s63 _ _ hvb62
        have hob63 := Dh.same s63 _ _ hob62
        refine ⟨_, rfl, ?_⟩
        refine ⟨_, rfl, one_line, fun q64 hq64 => ?_⟩
        have t64 : Same N63 (upd N63 q64 (.lst [o])) := same_new hq64 _
        have hk64 : upd N63 q64 (HO.lst [o]) q64 = some (.lst [o]) := upd_same
        generalize upd N63 q64 (HO.lst [o]) = L64 at t64 hk64 ⊢
        clear hq64
        have hva64 := Dh.same t64 _ _ hvb63
        have hoa64 := Dh.same t64 _ _ hob63
        refine fun x64 dx64 hx64 hd64 hn64 => ⟨[V.ref x64, V.str "a"], [o, V.ref q64], rfl, rfl, two_line, fun p64 hp64 => ⟨x64, p64, _, dx64, "a", "Denial", [o, V.ref q64], [g, PyData.list [g]], rfl, pap_ins hp64, T.pD, upd_same, two100, ?_, dep2 gd4 (depL gd4), fun v64 N64 sm64 hxx64 hdd64 => ⟨rfl, ?_⟩⟩⟩
        · exact DhAll.same (pap_same0 hx64 hd64 hp64) _ _ (.cons hoa64 (.cons (.lst hk64 one100 (.cons hoa64 .nil)) .nil))
        have s64 : Same L64 N64 := pap_same hx64 hd64 hp64 sm64
        have a64 : PapAt K (He.ga K "Paper") N64 x64 (He.ga K "Denial") "a" v64 (.tuple (tupdAll [g, PyData.list [g]])) "Denial" := ⟨T.pD, ⟨_, hxx64⟩, hdd64⟩
        clear sm64 hxx64 hdd64 hp64 hx64 hd64 hn64
        have hvb64 := Dh.same s64 _ _ hva64
        have hob64 := Dh.same s64 _ _ hoa64
        refine ⟨by show 5 ≤ sizeLine; decide, fun f60 hf60 => ?_⟩
        have fs60 : Same N64 (upd N64 f60 (.lst [V.ref x60, V.ref x61, V.ref x62, V.ref x63, V.ref x64])) := same_new hf60 _
        have hfl60 : upd N64 f60 (HO.lst [V.ref x60, V.ref x61, V.ref x62, V.ref x63, V.ref x64]) f60 = some (.lst [V.ref x60, V.ref x61, V.ref x62, V.ref x63, V.ref x64]) := upd_same
        generalize upd N64 f60 (HO.lst [V.ref x60, V.ref x61, V.ref x62, V.ref x63, V.ref x64]) = F60 at fs60 hfl60 ⊢
        have hvf60 := Dh.same fs60 _ _ hvb64
        have hof60 := Dh.same fs60 _ _ hob64
        have y5 : Same N64 F60 := fs60
        have y4 : Same N63 F60 := t64.trans (s64.trans y5)
        have y3 : Same N62 F60 := s63.trans y4
        have y2 : Same N61 F60 := t62.trans (s62.trans y3)
        have y1 : Same N60 F60 := m61.trans (t61.trans (s61.trans y2))
        have y0 : Same G50 F60 := t60.trans (s60.trans y1)
        have e2t : tupd (tupd d) = tupd d := dt_tupd (dz_t dz)
        have z2 : PapAt K (He.ga K "Paper") N61 x61 (He.ga K "Denial") "a" v61 (.tuple [tupd d, .tuple [tupd g]]) "Denial" := by
          have z : PapAt K (He.ga K "Paper") N61 x61 (He.ga K "Denial") "a" v61 (.tuple [tupd (tupd d), .tuple [tupd g]]) "Denial" := a61
          rw [e2t] at z
          exact z
        have five60 : Five K F60 f60 (He.ga K "Denial") "Denial" d g x60 x61 x62 x63 x64 := ⟨hfl60, ⟨_, (a60).same y1⟩, ⟨_, z2.same y2⟩, ⟨_, (a62).same y3⟩, ⟨_, (a63).same y4⟩, ⟨_, (a64).same y5⟩⟩
        clear s60 a60 hvb60 hob60 s61 a61 hvb61 hob61 s62 a62 hvb62 hob62 s63 a63 hvb63 hob63 s64 a64 hvb64 hob64 t60 hk60 hva60 hoa60 t61 hk61 hva61 hoa61 t62 hk62 hva62 hoa62 t64 hk64 hva64 hoa64 m61 hu61 hu61b hu61c hvc61 hoc61 z2 e2t y1 y2 y3 y4 y5 fs60 hf60
        obtain ⟨D1, D4, D5, eD1, eD4, eD5, DA⟩ := mkDat (dw_z dw) (dw_z gw)
        have fv40 : Fiv K F40 f40 (He.ga K "Paper") "Paper" D1 D4 D5 x40 x41 x42 x43 x44 := by rw [eD1, eD4, eD5]; exact ⟨five40.at_, five40.a1, five40.a2, five40.a3, five40.a4, five40.a5⟩
        have fv60 : Fiv K F60 f60 (He.ga K "Denial") "Denial" D1 D4 D5 x60 x61 x62 x63 x64 := by rw [eD1, eD4, eD5]; exact ⟨five60.at_, five60.a1, five60.a2, five60.a3, five60.a4, five60.a5⟩
        clear five40 five60 eD1 eD4 eD5 hvf60 hof60 hv50 ho50 fiveA pen50
        refine ⟨l50, _, _, rfl, rfl, y0 _ _ h50, by show 1 < sizeLine; decide, ?_⟩
        have k0 : Same F40 (upd F60 l50 (.lst ([V.ref f40] ++ [V.ref f60]))) := fun b o2 z => by rw [upd_ne (ne_of_none z hl50)]; exact y0 _ _ (s50 _ _ z)
        have hv70 := Dh.same k0 _ _ hvf40
        have ho70 := Dh.same k0 _ _ hof40
        have pen70 := pen40.same k0
        have fA70 := fv40.same k0
        have fB70 : Fiv K (upd F60 l50 (.lst ([V.ref f40] ++ [V.ref f60]))) f60 (He.ga K "Denial") "Denial" D1 D4 D5 x60 x61 x62 x63 x64 := fv60.app DA.t1 DA.t4 DA.t5 (y0 _ _ h50)
        have hL70 : upd F60 l50 (HO.lst ([V.ref f40] ++ [V.ref f60])) l50 = some (.lst [V.ref f40, V.ref f60]) := upd_same
        generalize upd F60 l50 (HO.lst ([V.ref f40] ++ [V.ref f60])) = G70 at hv70 ho70 pen70 fA70 fB70 hL70 ⊢
        clear k0 fv40 fv60 hvf40 hof40 pen40 y0 h50 s50 hl50
        refine ⟨_, rfl, l50, _, rfl, SqL.of hL70, for_it (walk_enum (xs := [V.ref f40, V.ref f60])) (fun j σ2 H2 => ∃ s2 s5 v6 s7 s8 s9 v11 v12 v13 v14 v15, σ2 = [some (.ref a), some (.ref p), s2, some v, some o, s5, v6, s7, s8, s9, some (.ref l50), v11, v12, v13, v14, v15] ∧ Same G70 H2) ⟨_, _, _, _, _, _, _, _, _, _, _, rfl, fun b o2 z => z⟩ (fun j σ2 H2 _ z => ?_) ?_ ?_⟩
        · obtain ⟨_, _, _, _, _, _, _, _, _, _, _, _, z⟩ := z
          exact SqL.of (z _ _ hL70)
        · rintro j y σ2 H6 H7 hj ⟨s2, s5, v6, s7, s8, s9, v11, v12, v13, v14, v15, rfl, e6⟩ ⟨T1, y1, y2, rfl, hT1, rfl, hy1, hy2⟩
          have hcl : ∃ (l C : Addr) (nm : Str) (z1 z2 z3 z4 z5 fb : Addr) (fdb : FuncData) (bb : Bool), y2 = .ref l ∧ Fiv K G70 l C nm D1 D4 D5 z1 z2 z3 z4 z5 ∧ EqC K C fE ∧ PySem.W.notFirst K C (.type "tuple") = true ∧ PySem.W.findIn K (.ref C) "__bool__" = some (some (.ref fb)) ∧ PySem.W.isFn K (.ref fb) = true ∧ FnOk Pr w K mg base CX0 1 fb fdb ["self"] (spCst bb) ∧ Binds K fdb ["self"] [] ∧ V.bl bb = V.bl (decide (V.int (j : Nat) = V.int 0)) := by
            match j, hj with
            | 0, _ =>
              cases hy2
              exact ⟨_, _, _, _, _, _, _, _, _, _, _, rfl, fA70, eP, T.nTP, qB, iB, GB, bB, rfl⟩
            | 1, _ =>
              cases hy2
              exact ⟨_, _, _, _, _, _, _, _, _, _, _, rfl, fB70, eD, T.nTD, qDB, iDB, GDB, bDB, rfl⟩
          cases hy1
          obtain ⟨l, C, nm, z1, z2, z3, z4, z5, fb, fdb, bb, rfl, fv, eC, nT, qb, ib, Gb, bBb, hbb⟩ := hcl
          have e7 : Same G70 (upd H6 T1 (.tup [V.int (j : Nat), V.ref l])) := e6.trans (same_new hT1 _)
          have h7 : upd H6 T1 (HO.tup [V.int (j : Nat), V.ref l]) T1 = some (.tup [V.int (j : Nat), V.ref l]) := upd_same
          generalize upd H6 T1 (HO.tup [V.int (j : Nat), V.ref l]) = H7 at e7 h7 ⊢
          have fv7 := fv.same e7
          have hv7 := Dh.same e7 _ _ hv70
          have ho7 := Dh.same e7 _ _ ho70
          clear e6 fA70 fB70 hL70 hT1
          refine ⟨T1, _, rfl, .inl (.inl h7), rfl, _, _, rfl, _, _, rfl, l, _, rfl, SqL.of fv7.at_, rfl, _, _, rfl, _, _, rfl, _, _, rfl, _, _, rfl, _, _, rfl, rfl, rfl, ?_⟩
          clear h7
          obtain ⟨w1, p1⟩ := fv7.a1
          obtain ⟨dx1, o1⟩ := p1.o
          have zD1 : Dz 5 D1 := (dt_z DA.t1).up 5 (by decide)
          have zD4 : Dz 5 D4 := (dt_z DA.t4).up 5 (by decide)
          have zD5 : Dz 5 D5 := (dt_z DA.t5).up 5 (by decide)
          have ztd : Dz 5 (tupd d) := dt_z (dz_t dz)
          have ztg : Dz 5 (tupd g) := dt_z (dz_t gz)
          refine ⟨_, rfl, z1, C, dx1, _, w1, rfl, o1, p1.c.n.cl, p1.c.np, pfs_parts _ _, w1, D1, rfl, p1.d, zD1, ?_⟩
          refine ⟨_, rfl, _, rfl, one_line, fun q8 hq8 => ?_⟩
          have s8 : Same H7 (upd H7 q8 (.lst [o])) := same_new hq8 _
          have k8 : upd H7 q8 (HO.lst [o]) q8 = some (.lst [o]) := upd_same
          generalize upd H7 q8 (HO.lst [o]) = H8 at s8 k8 ⊢
          have e8 := e7.trans s8
          have fv8 := fv7.same s8
          have hv8 := Dh.same s8 _ _ hv7
          have ho8 := Dh.same s8 _ _ ho7
          refine ⟨two_line, fun q9 hq9 => ?_⟩
          have s9 : Same H8 (upd H8 q9 (.tup [v, V.ref q8])) := same_new hq9 _
          have k9 : upd H8 q9 (HO.tup [v, V.ref q8]) q9 = some (.tup [v, V.ref q8]) := upd_same
          generalize upd H8 q9 (HO.tup [v, V.ref q8]) = H9 at s9 k9 ⊢
          have e9 := e8.trans s9
          have fv9 := fv8.same s9
          have hv9 := Dh.same s9 _ _ hv8
          have ho9 := Dh.same s9 _ _ ho8
          refine ⟨_, .tuple [d, .list [g]], rfl, .tup k9 two100 (.cons hv9 (.cons (.lst (s9 _ _ k8) one100 (.cons ho9 .nil)) .nil)), dep2 dd4 (depL gd4), fun u10 H10 s10 hu10 => ?_⟩
          have e10 := e9.trans s10
          have fv10 := fv9.same s10
          have hv10 := Dh.same s10 _ _ hv9
          have ho10 := Dh.same s10 _ _ ho9
          have hx10 : Dh H10 u10 D1 := by
            have z := Dh.same ho_same _ _ hu10
            rw [DA.e1] at z
            exact z
          refine ⟨u10, D1, rfl, hx10, zD1, rfl, _, rfl, iteNS rfl ?_⟩
          obtain ⟨w10, p10⟩ := fv10.a1
          obtain ⟨dx10, o10⟩ := p10.o
          obtain ⟨y10, r10⟩ := fv10.a2
          refine ⟨_, rfl, z1, C, dx10, _, .str "a", rfl, o10, p10.c.n.cl, p10.c.nw, pfs_word _ _, rfl, _, rfl, iteNS rfl ?_⟩
          refine ⟨_, rfl, _, rfl, ?_⟩
          refine rNe_pap (r := true) eC p10 r10 (okz zD1).lay (okz zD1).lay lay_a lay_a (okz zD1).dp (okz zD1).dp (by rw [alk, alk_s, (alike_iff DA.t1 DA.t1).mpr rfl]; rfl) (fun H11 s11 => ?_)
          refine ⟨_, rfl, iteF ?_⟩
          have e11 := e10.trans s11
          have fv11 := fv10.same s11
          have hv11 := Dh.same s11 _ _ hv10
          have ho11 := Dh.same s11 _ _ ho10
          obtain ⟨w11, p11⟩ := fv11.a1
          obtain ⟨dx11, o11⟩ := p11.o
          obtain ⟨y11, r11⟩ := fv11.a3
          refine ⟨_, rfl, _, rfl, ?_⟩
          refine rEq_pap (r := false) eC p11 r11 (okz zD1).lay (okz zD1).lay lay_a lay_b (okz zD1).dp (okz zD1).dp (by rw [alk, alk_ba, Bool.false_and]) (fun H12 s12 => ?_)
          refine ⟨_, rfl, iteF ?_⟩
          have e12 := e11.trans s12
          have fv12 := fv11.same s12
          have hv12 := Dh.same s12 _ _ hv11
          have ho12 := Dh.same s12 _ _ ho11
          obtain ⟨w12, p12⟩ := fv12.a1
          obtain ⟨dx12, o12⟩ := p12.o
          obtain ⟨y12, r12⟩ := fv12.a4
          refine ⟨_, rfl, _, rfl, ?_⟩
          refine rEq_pap (r := false) eC p12 r12 (okz zD1).lay (okz zD4).lay lay_a lay_a (okz zD1).dp (okz zD4).dp (by rw [alk, DA.n4, Bool.and_false]) (fun H13 s13 => ?_)
          refine ⟨_, rfl, iteF ?_⟩
          have e13 := e12.trans s13
          have fv13 := fv12.same s13
          have hv13 := Dh.same s13 _ _ hv12
          have ho13 := Dh.same s13 _ _ ho12
          obtain ⟨w13, p13⟩ := fv13.a1
          obtain ⟨dx13, o13⟩ := p13.o
          obtain ⟨y13, r13⟩ := fv13.a5
          refine ⟨_, rfl, z1, C, dx13, fb, _, fdb, _, bb, rfl, o13, qb, ib, Gb, bBb, ?_⟩
          refine ⟨_, rfl, rfl, rfl, _, rfl, iteNS hbb ?_⟩
          clear s8 s9 s10 k8 k9 hq8 hq9 hu10 hx10 e8 fv8 hv8 ho8 e9 fv9 hv9 ho9 e10 fv10 hv10 ho10 p10 o10 r10 s11 e11 fv11 hv11 ho11 p11 o11 r11 s12 e12 fv12 hv12 ho12 p12 o12 r12 s13 o13 hbb qb ib Gb bBb
          refine ⟨_, rfl, _, rfl, ?_⟩
          refine rEq_pap (r := decide (V.str (PyData.shown (tupd d)) = V.str (PyData.shown (tupd g)))) eC p13 r13 (okz zD1).lay (okz zD5).lay lay_a lay_a (okz zD1).dp (okz zD5).dp (by rw [alk, alk_s, Bool.true_and]; exact DA.e5) (fun H14 s14 => ?_)
          refine ⟨_, rfl, ?_⟩
          have e14 := e13.trans s14
          have fv14 := fv13.same s14
          have hv14 := Dh.same s14 _ _ hv13
          have ho14 := Dh.same s14 _ _ ho13
          refine ⟨_, rfl, v, d, rfl, hv14, Nat.lt_of_le_of_lt dd4 (by decide), fun u15 H15 s15 hu15 => ?_⟩
          have e15 := e14.trans s15
          have fv15 := fv14.same s15
          have hv15 := Dh.same s15 _ _ hv14
          have ho15 := Dh.same s15 _ _ ho14
          refine ⟨u15, tupd d, rfl, Dh.same ho_same _ _ hu15, ztd, ?_⟩
          refine ⟨_, rfl, o, g, rfl, ho15, Nat.lt_of_le_of_lt gd4 (by decide), fun u16 H16 s16 hu16 => ?_⟩
          have e16 := e15.trans s16
          have fv16 := fv15.same s16
          have hv16 := Dh.same s16 _ _ hv15
          have ho16 := Dh.same s16 _ _ ho15
          refine ⟨u16, tupd g, rfl, Dh.same ho_same _ _ hu16, ztg, ?_⟩
          refine ⟨rfl, ?_⟩
          refine ⟨_, rfl, ?_⟩
          refine ⟨rfl, ?_⟩
          refine ⟨_, rfl, ?_⟩
          refine iteNS rfl ?_
          obtain ⟨w16, p16⟩ := fv16.a1
          obtain ⟨dx16, o16⟩ := p16.o
          refine ⟨_, rfl, _, rfl, _, rfl, one_line, fun q17 hq17 => ?_⟩
          have s17 : Same H16 (upd H16 q17 (.lst [o])) := same_new hq17 _
          have k17 : upd H16 q17 (HO.lst [o]) q17 = some (.lst [o]) := upd_same
          generalize upd H16 q17 (HO.lst [o]) = H17 at s17 k17 ⊢
          have e17 := e16.trans s17
          have fv17 := fv16.same s17
          have hv17 := Dh.same s17 _ _ hv16
          have ho17 := Dh.same s17 _ _ ho16
          refine ⟨two_line, fun q18 hq18 => ?_⟩
          have s18 : Same H17 (upd H17 q18 (.tup [v, V.ref q17])) := same_new hq18 _
          have k18 : upd H17 q18 (HO.tup [v, V.ref q17]) q18 = some (.tup [v, V.ref q17]) := upd_same
          generalize upd H17 q18 (HO.tup [v, V.ref q17]) = H18 at s18 k18 ⊢
          have e18 := e17.trans s18
          have fv18 := fv17.same s18
          have hv18 := Dh.same s18 _ _ hv17
          have ho18 := Dh.same s18 _ _ ho17
          obtain ⟨w18, p18⟩ := fv18.a1
          obtain ⟨dx18, o18⟩ := p18.o
          refine rEq_tup eC p18 k18 nT T.kT (okz zD1).lay lay_a (okz zD1).dp (fun H19 s19 => ?_)
          refine ⟨_, rfl, iteF ?_⟩
          have e19 := e18.trans s19
          exact ⟨_, _, _, _, _, _, _, _, _, _, _, rfl, e19⟩
        · rintro σ9 H80 ⟨s2, s5, v6, s7, s8, s9, v11, v12, v13, v14, v15, rfl, e80⟩
          have hv80 := Dh.same e80 _ _ hv70
          have ho80 := Dh.same e80 _ _ ho70
          have pen80 := pen70.same e80
          clear e80 fA70 fB70 hL70 hv70 ho70 pen70
          have ztd : Dz 5 (tupd d) := dt_z (dz_t dz)
          refine fun x81 dx81 hx81 hd81 hn81 => ⟨[V.ref x81, V.str "a"], [V.int 1], rfl, rfl, one_line, fun p81 hp81 => ⟨x81, p81, _, dx81, "a", "Paper", [V.int 1], [PyData.int 1], rfl, pap_ins hp81, T.pP, upd_same, one100, ?_, dep1 (Nat.zero_le _), fun v81 N81 sm81 hxx81 hdd81 => ⟨rfl, ?_⟩⟩⟩
          · exact .cons (.int 1) .nil
          have s81 : Same H80 N81 := pap_same hx81 hd81 hp81 sm81
          have a81 : PapAt K (He.ga K "Paper") N81 x81 (He.ga K "Paper") "a" v81 (.tuple (tupdAll [PyData.int 1])) "Paper" := ⟨T.pP, ⟨_, hxx81⟩, hdd81⟩
          clear sm81 hxx81 hdd81 hp81 hx81 hd81 hn81
          refine fun x82 dx82 hx82 hd82 hn82 => ⟨[V.ref x82, V.str "a"], [V.int 1], rfl, rfl, one_line, fun p82 hp82 => ⟨x82, p82, _, dx82, "a", "Denial", [V.int 1], [PyData.int 1], rfl, pap_ins hp82, T.pD, upd_same, one100, ?_, dep1 (Nat.zero_le _), fun v82 N82 sm82 hxx82 hdd82 => ⟨rfl, ?_⟩⟩⟩
          · exact .cons (.int 1) .nil
          have s82 : Same N81 N82 := pap_same hx82 hd82 hp82 sm82
          have a82 : PapAt K (He.ga K "Paper") N82 x82 (He.ga K "Denial") "a" v82 (.tuple (tupdAll [PyData.int 1])) "Denial" := ⟨T.pD, ⟨_, hxx82⟩, hdd82⟩
          clear sm82 hxx82 hdd82 hp82 hx82 hd82 hn82
          refine rEqF_pap eD T.neD T.sDP (a81.same s82) a82 lay_1 lay_1 lay_a lay_a dep_1 dep_1 nm_DP (fun N83 s83 => ?_)
          refine ⟨_, rfl, iteF ?_⟩
          refine fun x84 dx84 hx84 hd84 hn84 => ⟨[V.ref x84, V.str "a"], ([] : List V), rfl, rfl, (Nat.zero_le _), fun p84 hp84 => ⟨x84, p84, _, dx84, "a", "Denial", ([] : List V), ([] : List PyData), rfl, pap_ins hp84, T.pD, upd_same, (Nat.zero_le _), ?_, dep_0, fun v84 N84 sm84 hxx84 hdd84 => ⟨rfl, ?_⟩⟩⟩
          · exact .nil
          have s84 : Same N83 N84 := pap_same hx84 hd84 hp84 sm84
          have a84 : PapAt K (He.ga K "Paper") N84 x84 (He.ga K "Denial") "a" v84 (.tuple (tupdAll ([] : List PyData))) "Denial" := ⟨T.pD, ⟨_, hxx84⟩, hdd84⟩
          clear sm84 hxx84 hdd84 hp84 hx84 hd84 hn84
          refine ⟨_, _, .ref (He.ga K "Denial"), .ref (He.ga K "Paper"), true, rfl, .own _, a84.ty, T.kDP, _, rfl, ?_⟩
          refine iteF ?_
          refine fun x85 dx85 hx85 hd85 hn85 => ⟨[V.ref x85, V.str "a"], ([] : List V), rfl, rfl, (Nat.zero_le _), fun p85 hp85 => ⟨x85, p85, _, dx85, "a", "Paper", ([] : List V), ([] : List PyData), rfl, pap_ins hp85, T.pP, upd_same, (Nat.zero_le _), ?_, dep_0, fun v85 N85 sm85 hxx85 hdd85 => ⟨rfl, ?_⟩⟩⟩
          · exact .nil
          have s85 : Same N84 N85 := pap_same hx85 hd85 hp85 sm85
          have a85 : PapAt K (He.ga K "Paper") N85 x85 (He.ga K "Paper") "a" v85 (.tuple (tupdAll ([] : List PyData))) "Paper" := ⟨T.pP, ⟨_, hxx85⟩, hdd85⟩
          clear sm85 hxx85 hdd85 hp85 hx85 hd85 hn85
          obtain ⟨dx86, o86⟩ := a85.o
          refine ⟨x85, _, dx86, _, v85, rfl, o86, a85.c.n.cl, a85.c.np, pfs_parts _ _, Nat.zero_le _, fun q86 hq86 => ?_⟩
          have s86 : Same N85 (upd N85 q86 (.tup [])) := same_new hq86 _
          refine ⟨.tuple [], .tuple [], Dh.dp _ _ (Dh.same s86 _ _ a85.d), .tup (.inl (.inl upd_same)) .nil, rfl, rfl, _, rfl, iteF ?_⟩
          have s87 : Same H80 (upd N85 q86 (.tup [])) := s81.trans (s82.trans (s83.trans (s84.trans (s85.trans s86))))
          generalize upd N85 q86 (HO.tup []) = N87 at s87 ⊢
          clear s81 s82 s83 s84 s85 s86 a81 a82 a84 a85 o86
          have hv87 := Dh.same s87 _ _ hv80
          refine ⟨_, rfl, rfl, v, d, rfl, hv87, Nat.lt_of_le_of_lt dd4 (by decide), fun u88 N88 s88 hu88 => ?_⟩
          refine ⟨u88, tupd d, rfl, Dh.same ho_same _ _ hu88, ztd, ?_⟩
          refine ⟨_, rfl, v, d, rfl, Dh.same s88 _ _ hv87, Nat.lt_of_le_of_lt dd4 (by decide), fun u89 N89 s89 hu89 => ?_⟩
          refine ⟨u89, tupd d, rfl, Dh.same ho_same _ _ hu89, ztd, ?_⟩
          refine ⟨rfl, ?_⟩
          refine ⟨_, rfl, ?_⟩
          refine iteNS rfl ?_
          refine ⟨_, _, _, _, _, _, _, _, _, _, _, _, _, _, t4, r4, rfl, pen80.same (s87.trans (s88.trans s89)), ?_⟩
          have q1 : ((i + 1 : Nat) : Int) = (i : Int) + 1 := by omega
          rw [q1]
          omega
  · rintro σ H2 ⟨v2, v3, v4, v5, v6, v7, v8, v9, v10, v11, v12, v13, v14, v15, t, r, rfl, pen2, ht⟩
    clear pen2 ht
    refine fun x91 dx91 hx91 hd91 hn91 => ⟨[V.ref x91, V.str "a"], [V.int 1], rfl, rfl, one_line, fun p91 hp91 => ⟨x91, p91, _, dx91, "a", "Paper", [V.int 1], [PyData.int 1], rfl, pap_ins hp91, T.pP, upd_same, one100, ?_, dep1 (Nat.zero_le _), fun v91 N91 sm91 hxx91 hdd91 => ⟨rfl, ?_⟩⟩⟩
    · exact .cons (.int 1) .nil
    have s91 : Same H2 N91 := pap_same hx91 hd91 hp91 sm91
    have a91 : PapAt K (He.ga K "Paper") N91 x91 (He.ga K "Paper") "a" v91 (.tuple (tupdAll [PyData.int 1])) "Paper" := ⟨T.pP, ⟨_, hxx91⟩, hdd91⟩
    clear sm91 hxx91 hdd91 hp91 hx91 hd91 hn91
    refine fun x92 dx92 hx92 hd92 hn92 => ⟨[V.ref x92, V.str "a"], [V.bl true], rfl, rfl, one_line, fun p92 hp92 => ⟨x92, p92, _, dx92, "a", "Paper", [V.bl true], [PyData.bool true], rfl, pap_ins hp92, T.pP, upd_same, one100, ?_, dep1 (Nat.zero_le _), fun v92 N92 sm92 hxx92 hdd92 => ⟨rfl, ?_⟩⟩⟩
    · exact .cons (.bl true) .nil
    have s92 : Same N91 N92 := pap_same hx92 hd92 hp92 sm92
    have a92 : PapAt K (He.ga K "Paper") N92 x92 (He.ga K "Paper") "a" v92 (.tuple (tupdAll [PyData.bool true])) "Paper" := ⟨T.pP, ⟨_, hxx92⟩, hdd92⟩
    clear sm92 hxx92 hdd92 hp92 hx92 hd92 hn92
    refine rNe_pap (r := false) eP (a91.same s92) a92 lay_1 lay_t lay_a lay_a dep_1 dep_t alk_1t (fun N93 s93 => ?_)
    refine ⟨_, rfl, iteT ?_⟩
    refine ⟨one_line, fun q94 hq94 => ?_⟩
    have k94 : upd N93 q94 (HO.tup [V.int 0]) q94 = some (.tup [V.int 0]) := upd_same
    generalize upd N93 q94 (HO.tup [V.int 0]) = L94 at k94 ⊢
    refine fun x95 dx95 hx95 hd95 hn95 => ⟨[V.ref x95, V.str "a"], [V.ref q94], rfl, rfl, one_line, fun p95 hp95 => ⟨x95, p95, _, dx95, "a", "Paper", [V.ref q94], [PyData.tuple [.int 0]], rfl, pap_ins hp95, T.pP, upd_same, one100, ?_, dep1 dep_t0, fun v95 N95 sm95 hxx95 hdd95 => ⟨rfl, ?_⟩⟩⟩
    · exact (DhAll.same (pap_same0 hx95 hd95 hp95) _ _ (.cons (.tup k94 one100 (.cons (.int 0) .nil)) .nil))
    have s95 : Same L94 N95 := pap_same hx95 hd95 hp95 sm95
    have a95 : PapAt K (He.ga K "Paper") N95 x95 (He.ga K "Paper") "a" v95 (.tuple (tupdAll [PyData.tuple [.int 0]])) "Paper" := ⟨T.pP, ⟨_, hxx95⟩, hdd95⟩
    clear sm95 hxx95 hdd95 hp95 hx95 hd95 hn95
    refine ⟨one_line, fun q96 hq96 => ?_⟩
    have s96 : Same N95 (upd N95 q96 (.lst [V.int 0])) := same_new hq96 _
    have k96 : upd N95 q96 (HO.lst [V.int 0]) q96 = some (.lst [V.int 0]) := upd_same
    generalize upd N95 q96 (HO.lst [V.int 0]) = L96 at s96 k96 ⊢
    refine fun x97 dx97 hx97 hd97 hn97 => ⟨[V.ref x97, V.str "a"], [V.ref q96], rfl, rfl, one_line, fun p97 hp97 => ⟨x97, p97, _, dx97, "a", "Paper", [V.ref q96], [PyData.list [.int 0]], rfl, pap_ins hp97, T.pP, upd_same, one100, ?_, dep1 dep_l0, fun v97 N97 sm97 hxx97 hdd97 => ⟨rfl, ?_⟩⟩⟩
    · exact (DhAll.same (pap_same0 hx97 hd97 hp97) _ _ (.cons (.lst k96 one100 (.cons (.int 0) .nil)) .nil))
    have s97 : Same L96 N97 := pap_same hx97 hd97 hp97 sm97
    have a97 : PapAt K (He.ga K "Paper") N97 x97 (He.ga K "Paper") "a" v97 (.tuple (tupdAll [PyData.list [.int 0]])) "Paper" := ⟨T.pP, ⟨_, hxx97⟩, hdd97⟩
    clear sm97 hxx97 hdd97 hp97 hx97 hd97 hn97
    refine rEq_pap (r := true) eP (a95.same (s96.trans s97)) a97 lay_0 lay_0 lay_a lay_a dep_00 dep_00 alk_00 (fun N98 s98 => ?_)
    rfl
end My

set_option maxHeartbeats 4000000
namespace My
open PySem PySem.Spec PyProof.Rows L2
/-- a promise held in the outermost call alone, where no repr is running -/
def RunC (P : Program) (w : World) (K : PySem.W.Frag) (mg : Str → Option Value) (base : Heap) (f : Addr) (fd : FuncData) (ps : List Str) (sp : Sp) : Prop :=
  ∀ (s : Shared) (H : Hp) (args : Args) (us : List Value) (vs : List V) (Q : VK) (E : XK), Env0 P w K mg base callerA [] s H → BindsTo s fd args (ps.zip us) → Vals vs us → sp vs H Q E → codeAny (model P w) callerA (.call (.ref f) args) (CR CX0 [] P w H s Q E) s
section
variable {P : Program} {w : World} {K : PySem.W.Frag} {mg mb : Str → Option Value} {f a : Addr} {fd : FuncData} {x : Str} {sp : Sp} {s₁ : Shared} {vs : List Value} {ns : List Int}
/-- the call, H the part of the heap that is tracked: nothing, or the script -/
theorem end_at (KX : K.In s₁.heap) (hns : s₁.heap.Ns mainGlobals mg) (hb : s₁.heap.Ns builtinsNs mb) (hbb : ∀ x : Str, x ≠ "__name__" → mb x = bootBuiltins x) (hlim : s₁.heap.NoLimit) (hg : s₁.gens = #[])
    (ha : s₁.heap.get? a = some { cls := .type "list", data := .seq vs.toArray })
    (F : ∀ base : Heap, K.In base → base.Ns mainGlobals mg → RunC P w K mg base f fd [x] sp) (hbind : ∀ (s : Shared) (u : Value), BindsTo s fd ⟨[u], []⟩ [(x, u)])
    (H : Hp) (hO : ∀ b u, H b = some u → b = a ∧ ∃ ob xs, u = .frz ob (.lst xs)) (hok : HOk P w H s₁.heap) (hK : H a ≠ none → K.lookup a = none) (hsp : sp [.ref a] H (fun v _ => v = .bl true) fun _ _ _ => False) :
    codeAny (model P w) callerA (.call (.ref f) ⟨[.ref a], []⟩) (fun r s' => r = .ok (.ret (.bool true)) ∧ OldK s₁.heap s'.heap ∧ s'.os = s₁.os ∧ AllBare s'.gens) s₁ := by
  have nd : ∀ {b : Addr} {o : Obj} {es : Array DictEntry} {ep : Nat}, s₁.heap.get? b = some o → o.data = .dict es ep → H b = none := fun {b o es ep} e d => by
    cases q : H b with
    | none => rfl
    | some u =>
      obtain ⟨rfl, _⟩ := hO b u q
      rw [ha] at e
      cases e
      exact nomatch (show Data.seq vs.toArray _ = Data.dict es ep from d)
  have ks : ∀ {b : Addr} {m : Str → Option Value}, s₁.heap.Ns b m → (hidT s₁.heap H).Ns b m := fun ⟨o, es, ep, e, d, r⟩ => ⟨o, es, ep, hidT_get e (nd e d), d, r⟩
  have kb : K.In (hidT s₁.heap H) := fun b o e => hidT_get (KX b o e) (by
    cases q : H b with
    | none => rfl
    | some u =>
      obtain ⟨rfl, _⟩ := hO b u q
      have z := hK (by rw [q]; exact fun y => nomatch y)
      rw [z] at e
      cases e)
  have e0 : Env0 P w K mg (hidT s₁.heap H) callerA [] s₁ H :=
    ⟨rfl, ⟨kb, ks hns, ⟨mb, ks hb, hbb⟩, let ⟨mc, h1, h2⟩ := hlim; ⟨mc, ks h1, h2⟩⟩, fun b o e => of_hidT e, Nat.le_of_eq (hidT_size _ _), trivial, fun b hb => absurd (show b ∈ ([] : List Addr) from hb) (List.not_mem_nil), hok, .of_eq hg⟩
  refine codeAny_mono (F _ kb (ks hns) s₁ H ⟨[.ref a], []⟩ [.ref a] [.ref a] _ _ e0 (hbind s₁ (.ref a)) (.cons rfl .nil) hsp) fun r s' h => ?_
  match r, h with
  | .ok (.ret u), h =>
    obtain ⟨v, H', os, bare, un, hok', r', q⟩ := h
    cases (show v = .bl true from q)
    cases (show u = Value.bool true from r')
    refine ⟨rfl, OldK.of_keep fun b o e => ?_, os, bare⟩
    cases q : H b with
    | none => exact un.keep b o e q (fun z => absurd (show b ∈ ([] : List Addr) from z) (List.not_mem_nil)) (List.not_mem_nil)
    | some u =>
      obtain ⟨_, ob, xs, rfl⟩ := hO b u q
      have z2 := un.frzs b ob _ q
      obtain ⟨e1, _⟩ := hok b _ q
      obtain ⟨e2, _⟩ := hok' b _ z2
      rw [e] at e1
      cases e1
      exact e2
theorem end_call (KX : K.In s₁.heap) (hns : s₁.heap.Ns mainGlobals mg) (hb : s₁.heap.Ns builtinsNs mb) (hbb : ∀ x : Str, x ≠ "__name__" → mb x = bootBuiltins x) (hlim : s₁.heap.NoLimit) (hg : s₁.gens = #[])
    (ha : s₁.heap.get? a = some { cls := .type "list", data := .seq vs.toArray }) (hi : IntsAre vs ns) (hl : ns.length ≤ sizeLine)
    (F : ∀ base : Heap, K.In base → base.Ns mainGlobals mg → RunC P w K mg base f fd [x] sp) (hbind : ∀ (s : Shared) (u : Value), BindsTo s fd ⟨[u], []⟩ [(x, u)])
    (hsp : ∀ H : Hp, SqL K H a (ns.map V.int) → sp [.ref a] H (fun v _ => v = .bl true) fun _ _ _ => False) :
    codeAny (model P w) callerA (.call (.ref f) ⟨[.ref a], []⟩) (fun r s' => r = .ok (.ret (.bool true)) ∧ OldK s₁.heap s'.heap ∧ s'.os = s₁.os ∧ AllBare s'.gens) s₁ := by
  have rv := vals_ints hi
  have lv := hi.length
  cases hk : K.lookup a with
  | some o =>
    have e := KX a o hk
    rw [ha] at e
    cases e
    exact end_at KX hns hb hbb hlim hg ha F hbind (fun _ => none) (fun b u z => nomatch z) (fun b u z => nomatch z) (fun z => absurd rfl z)
      (hsp _ (.inr ⟨_, vs.toArray, _, hk, rfl, rfl, rfl, by rw [List.size_toArray, lv]; exact hl, by simpa using rv⟩))
  | none =>
    have eA : ∀ b u, (fun b => if b = a then some (HO.frz { cls := .type "list", data := .seq vs.toArray } (.lst (ns.map V.int))) else none) b = some u → b = a ∧ u = HO.frz { cls := .type "list", data := .seq vs.toArray } (.lst (ns.map V.int)) := fun b u z => by
      by_cases q : b = a
      · exact ⟨q, (Option.some.inj ((if_pos q).symm.trans z)).symm⟩
      · exact nomatch (if_neg q).symm.trans z
    refine end_at KX hns hb hbb hlim hg ha F hbind (fun b => if b = a then some (.frz { cls := .type "list", data := .seq vs.toArray } (.lst (ns.map V.int))) else none) (fun b u z => ?_) (fun b u z => ?_) (fun _ => hk)
      (hsp _ (.inl (.inr ⟨{ cls := .type "list", data := .seq vs.toArray }, if_pos rfl⟩)))
    · obtain ⟨q, e⟩ := eA b u z
      exact ⟨q, _, _, e⟩
    · obtain ⟨q, e⟩ := eA b u z
      subst q e
      exact ⟨ha, by rw [List.length_map]; exact hl, vs, _, rv, ha⟩
end
theorem end_walk {l : PySem.W.OpenLaw} {n : Nat} {q : Program} {loose : List Str} {XP : (Str → Option Value) → Heap → Prop} {YP : World → Heap → Prop} {d : DefRec} {x : Str}
    (hn : l.most = some n) (hn2 : n ≤ sizeLine) (hdf : d.params.defaults = [])
    (F : ∀ (w : World) (mg : Str → Option Value) (fa : Addr) (h : Heap), YP w h → h.Ns mainGlobals mg → mg d.name = some (.ref fa) →
      ∃ (K : PySem.W.Frag) (fd : FuncData) (sp : Sp), K.In h ∧ (∀ (s : Shared) (u : Value), BindsTo s fd ⟨[u], []⟩ [(x, u)]) ∧
        (∀ (H : Hp) (a : Addr) (ns : List Int), ns.length ≤ n → SqL K H a (ns.map V.int) → sp [.ref a] H (fun v _ => v = .bl true) fun _ _ _ => False) ∧
        ∀ base : Heap, K.In base → base.Ns mainGlobals mg → RunC l.prog w K mg base fa fd [x] sp) :
    PySem.W.WalkO q loose XP YP l.row.toRowW d [] (fun f vs => PySem.call f vs) := by
  refine Att.attach_call hn hdf fun w s₀ s₁ mg mb fa o pm cd doc a vs ns G Y ho hd hcd hmg hobj hints hlen hg => ?_
  obtain ⟨K, fd, sp, KX, hb, hsp, hF⟩ := F w mg fa _ Y G.T.g hmg
  exact end_call KX G.T.g G.T.b G.T.builtins G.T.nolimit hg hobj hints (Nat.le_trans hlen hn2) hF hb (fun H hS => hsp H a ns hlen hS)
/-- a def's promise in the outermost call, from its body there -/
theorem runC_of {P : Program} {w : World} {K : PySem.W.Frag} {mg : Str → Option Value} {base : Heap} {k : Nat} {f : Addr} {fd : FuncData} {x qual : Str} {params : Arguments} {body : List Stmt} {scope : Scope} {N ps : List Str} {sp : Sp}
    (F : FunD K x qual params body scope [] [] f fd) (S : FnScope N ps scope) (hr : Room (k + 1) callerA) (len : ∀ vs H Q E, sp vs H Q E → vs.length = ps.length)
    (hbody : ∀ (cdv : Value) (s : Shared) (H : Hp) (vs : List V) (Q : VK) (E : XK), Room k (callerA.deeper (envOfC qual scope s.heap.objs.size f cdv)) → (callerA.deeper (envOfC qual scope s.heap.objs.size f cdv)).guards = some [] → sp vs H Q E →
      ∃ t, PSs (cxOf CX0 P w K mg base N qual scope f cdv callerA [] s H E) body t ∧ t { nx := fun _ H' => Q .non H', rt := Q } (start N vs) H) : RunC P w K mg base f fd ps sp := by
  intro s H args us vs Q E e0 hb r hsp
  obtain ⟨oc, od, dV, kV, doc, pm, an, cdv, ct, osl, rfl, lk, hcd, _, _⟩ := F.ex
  exact StX.run_bnd (G := fun ws H2 => sp ws H2 Q E) lk hcd S hr e0 (fun A' Ex Q' h => hb _ _ _ _ (h s H vs us e0 Un.refl rfl (fun _ _ z => z) r (len _ _ _ _ hsp) hsp)) fun s2 H2 ws hw hr2 => hbody cdv s2 H2 ws Q E hr2 rfl hw
end My

set_option maxHeartbeats 4000000
namespace My
open PySem PySem.Spec PyProof.Rows L2 PySem.MyX
abbrev sX (j : Nat) : Stmt := inClass (top j) 0
section
variable {Pr : Program} {K : PySem.W.Frag} {mg : Str → Option Value} {C f : Addr} {fd : FuncData}
theorem made_BadNumber (D : PySem.MyX.ExI Pr K C f "__init__" "BadNumber.__init__" (defArgs (sX 7)) (defBody (sX 7)) (defScope (sX 7)) fd) (n1 : PySem.W.findIn K (.ref C) "part" = some none) (sup : mg "super" = none) (ht : (Pr.main.scope.names.lookup ("super" : Str)).isSome = false) : MadeK Pr K mg C 1 [] (fs1 "part") := by
  intro X e1 e2 e3 hr
  subst e1 e2 e3
  exact One.made (x := "part") ⟨D, ⟨fun _ _ _ _ => ⟨_, rfl⟩, fun _ _ _ _ => rfl, fun _ _ _ _ => rfl, by decide +kernel, by decide +kernel, by decide +kernel, rfl, by decide +kernel, rfl, rfl⟩, ⟨by decide +kernel, by decide +kernel, by decide +kernel, fun _ _ _ _ => rfl⟩, rfl, rfl, ht, n1, sup⟩ hr (by intros; rfl)
theorem madeK_BadNumber (D : PySem.MyX.ExI Pr K C f "__init__" "BadNumber.__init__" (defArgs (sX 7)) (defBody (sX 7)) (defScope (sX 7)) fd) (n1 : PySem.W.findIn K (.ref C) "part" = some none) (sup : mg "super" = none) (ht : (Pr.main.scope.names.lookup ("super" : Str)).isSome = false) : MadeK Pr K mg C 0 ["part"] (fs1k "part") := by
  intro X e1 e2 e3 hr
  subst e1 e2 e3
  exact One.madeK (x := "part") ⟨D, ⟨fun _ _ _ _ => ⟨_, rfl⟩, fun _ _ _ _ => rfl, fun _ _ _ _ => rfl, by decide +kernel, by decide +kernel, by decide +kernel, rfl, by decide +kernel, rfl, rfl⟩, ⟨by decide +kernel, by decide +kernel, by decide +kernel, fun _ _ _ _ => rfl⟩, rfl, rfl, ht, n1, sup⟩ hr (by intros; rfl)
theorem made_BadBits (D : PySem.MyX.ExI Pr K C f "__init__" "BadBits.__init__" (defArgs (sX 8)) (defBody (sX 8)) (defScope (sX 8)) fd) (n1 : PySem.W.findIn K (.ref C) "part" = some none) (sup : mg "super" = none) (ht : (Pr.main.scope.names.lookup ("super" : Str)).isSome = false) : MadeK Pr K mg C 1 [] (fs1 "part") := by
  intro X e1 e2 e3 hr
  subst e1 e2 e3
  exact One.made (x := "part") ⟨D, ⟨fun _ _ _ _ => ⟨_, rfl⟩, fun _ _ _ _ => rfl, fun _ _ _ _ => rfl, by decide +kernel, by decide +kernel, by decide +kernel, rfl, by decide +kernel, rfl, rfl⟩, ⟨by decide +kernel, by decide +kernel, by decide +kernel, fun _ _ _ _ => rfl⟩, rfl, rfl, ht, n1, sup⟩ hr (by intros; rfl)
theorem made_BadTable (D : PySem.MyX.ExI Pr K C f "__init__" "BadTable.__init__" (defArgs (sX 9)) (defBody (sX 9)) (defScope (sX 9)) fd) (n1 : PySem.W.findIn K (.ref C) "part" = some none) (sup : mg "super" = none) (ht : (Pr.main.scope.names.lookup ("super" : Str)).isSome = false) : MadeK Pr K mg C 1 [] (fs1 "part") := by
  intro X e1 e2 e3 hr
  subst e1 e2 e3
  exact One.made (x := "part") ⟨D, ⟨fun _ _ _ _ => ⟨_, rfl⟩, fun _ _ _ _ => rfl, fun _ _ _ _ => rfl, by decide +kernel, by decide +kernel, by decide +kernel, rfl, by decide +kernel, rfl, rfl⟩, ⟨by decide +kernel, by decide +kernel, by decide +kernel, fun _ _ _ _ => rfl⟩, rfl, rfl, ht, n1, sup⟩ hr (by intros; rfl)
theorem made_BadBook (D : PySem.MyX.ExI Pr K C f "__init__" "BadBook.__init__" (defArgs (sX 10)) (defBody (sX 10)) (defScope (sX 10)) fd) (n1 : PySem.W.findIn K (.ref C) "part" = some none) (sup : mg "super" = none) (ht : (Pr.main.scope.names.lookup ("super" : Str)).isSome = false) : MadeK Pr K mg C 1 [] (fs1 "part") := by
  intro X e1 e2 e3 hr
  subst e1 e2 e3
  exact One.made (x := "part") ⟨D, ⟨fun _ _ _ _ => ⟨_, rfl⟩, fun _ _ _ _ => rfl, fun _ _ _ _ => rfl, by decide +kernel, by decide +kernel, by decide +kernel, rfl, by decide +kernel, rfl, rfl⟩, ⟨by decide +kernel, by decide +kernel, by decide +kernel, fun _ _ _ _ => rfl⟩, rfl, rfl, ht, n1, sup⟩ hr (by intros; rfl)
theorem made_BadRow (D : PySem.MyX.ExI Pr K C f "__init__" "BadRow.__init__" (defArgs (sX 11)) (defBody (sX 11)) (defScope (sX 11)) fd) (n1 : PySem.W.findIn K (.ref C) "part" = some none) (sup : mg "super" = none) (ht : (Pr.main.scope.names.lookup ("super" : Str)).isSome = false) : MadeK Pr K mg C 1 [] (fs1 "part") := by
  intro X e1 e2 e3 hr
  subst e1 e2 e3
  exact One.made (x := "part") ⟨D, ⟨fun _ _ _ _ => ⟨_, rfl⟩, fun _ _ _ _ => rfl, fun _ _ _ _ => rfl, by decide +kernel, by decide +kernel, by decide +kernel, rfl, by decide +kernel, rfl, rfl⟩, ⟨by decide +kernel, by decide +kernel, by decide +kernel, fun _ _ _ _ => rfl⟩, rfl, rfl, ht, n1, sup⟩ hr (by intros; rfl)
theorem made_BadPattern (D : PySem.MyX.ExI Pr K C f "__init__" "BadPattern.__init__" (defArgs (sX 12)) (defBody (sX 12)) (defScope (sX 12)) fd) (n1 : PySem.W.findIn K (.ref C) "part" = some none) (sup : mg "super" = none) (ht : (Pr.main.scope.names.lookup ("super" : Str)).isSome = false) : MadeK Pr K mg C 1 [] (fs1 "part") := by
  intro X e1 e2 e3 hr
  subst e1 e2 e3
  exact One.made (x := "part") ⟨D, ⟨fun _ _ _ _ => ⟨_, rfl⟩, fun _ _ _ _ => rfl, fun _ _ _ _ => rfl, by decide +kernel, by decide +kernel, by decide +kernel, rfl, by decide +kernel, rfl, rfl⟩, ⟨by decide +kernel, by decide +kernel, by decide +kernel, fun _ _ _ _ => rfl⟩, rfl, rfl, ht, n1, sup⟩ hr (by intros; rfl)
theorem made_BadPaper (D : PySem.MyX.ExI Pr K C f "__init__" "BadPaper.__init__" (defArgs (sX 13)) (defBody (sX 13)) (defScope (sX 13)) fd) (n1 : PySem.W.findIn K (.ref C) "part" = some none) (sup : mg "super" = none) (ht : (Pr.main.scope.names.lookup ("super" : Str)).isSome = false) : MadeK Pr K mg C 1 [] (fs1 "part") := by
  intro X e1 e2 e3 hr
  subst e1 e2 e3
  exact One.made (x := "part") ⟨D, ⟨fun _ _ _ _ => ⟨_, rfl⟩, fun _ _ _ _ => rfl, fun _ _ _ _ => rfl, by decide +kernel, by decide +kernel, by decide +kernel, rfl, by decide +kernel, rfl, rfl⟩, ⟨by decide +kernel, by decide +kernel, by decide +kernel, fun _ _ _ _ => rfl⟩, rfl, rfl, ht, n1, sup⟩ hr (by intros; rfl)
theorem made_Misfit (D : PySem.MyX.ExI Pr K C f "__init__" "Misfit.__init__" (defArgs (sX 14)) (defBody (sX 14)) (defScope (sX 14)) fd) (n1 : PySem.W.findIn K (.ref C) "part" = some none) (sup : mg "super" = none) (ht : (Pr.main.scope.names.lookup ("super" : Str)).isSome = false) : MadeK Pr K mg C 1 [] (fs1 "part") := by
  intro X e1 e2 e3 hr
  subst e1 e2 e3
  exact One.made (x := "part") ⟨D, ⟨fun _ _ _ _ => ⟨_, rfl⟩, fun _ _ _ _ => rfl, fun _ _ _ _ => rfl, by decide +kernel, by decide +kernel, by decide +kernel, rfl, by decide +kernel, rfl, rfl⟩, ⟨by decide +kernel, by decide +kernel, by decide +kernel, fun _ _ _ _ => rfl⟩, rfl, rfl, ht, n1, sup⟩ hr (by intros; rfl)
theorem madeK_Misfit (D : PySem.MyX.ExI Pr K C f "__init__" "Misfit.__init__" (defArgs (sX 14)) (defBody (sX 14)) (defScope (sX 14)) fd) (n1 : PySem.W.findIn K (.ref C) "part" = some none) (sup : mg "super" = none) (ht : (Pr.main.scope.names.lookup ("super" : Str)).isSome = false) : MadeK Pr K mg C 0 ["part"] (fs1k "part") := by
  intro X e1 e2 e3 hr
  subst e1 e2 e3
  exact One.madeK (x := "part") ⟨D, ⟨fun _ _ _ _ => ⟨_, rfl⟩, fun _ _ _ _ => rfl, fun _ _ _ _ => rfl, by decide +kernel, by decide +kernel, by decide +kernel, rfl, by decide +kernel, rfl, rfl⟩, ⟨by decide +kernel, by decide +kernel, by decide +kernel, fun _ _ _ _ => rfl⟩, rfl, rfl, ht, n1, sup⟩ hr (by intros; rfl)
theorem made_BadWord (D : PySem.MyX.ExI Pr K C f "__init__" "BadWord.__init__" (defArgs (sX 16)) (defBody (sX 16)) (defScope (sX 16)) fd) (n1 : PySem.W.findIn K (.ref C) "word" = some none) (sup : mg "super" = none) (ht : (Pr.main.scope.names.lookup ("super" : Str)).isSome = false) : MadeK Pr K mg C 1 [] (fs1 "word") := by
  intro X e1 e2 e3 hr
  subst e1 e2 e3
  exact One.made (x := "word") ⟨D, ⟨fun _ _ _ _ => ⟨_, rfl⟩, fun _ _ _ _ => rfl, fun _ _ _ _ => rfl, by decide +kernel, by decide +kernel, by decide +kernel, rfl, by decide +kernel, rfl, rfl⟩, ⟨by decide +kernel, by decide +kernel, by decide +kernel, fun _ _ _ _ => rfl⟩, rfl, rfl, ht, n1, sup⟩ hr (by intros; rfl)
theorem made_NoName (D : PySem.MyX.ExI Pr K C f "__init__" "NoName.__init__" (defArgs (sX 18)) (defBody (sX 18)) (defScope (sX 18)) fd) (n1 : PySem.W.findIn K (.ref C) "name" = some none) (sup : mg "super" = none) (ht : (Pr.main.scope.names.lookup ("super" : Str)).isSome = false) : MadeK Pr K mg C 1 [] (fs1 "name") := by
  intro X e1 e2 e3 hr
  subst e1 e2 e3
  exact One.made (x := "name") ⟨D, ⟨fun _ _ _ _ => ⟨_, rfl⟩, fun _ _ _ _ => rfl, fun _ _ _ _ => rfl, by decide +kernel, by decide +kernel, by decide +kernel, rfl, by decide +kernel, rfl, rfl⟩, ⟨by decide +kernel, by decide +kernel, by decide +kernel, fun _ _ _ _ => rfl⟩, rfl, rfl, ht, n1, sup⟩ hr (by intros; rfl)
theorem made_Nothing (D : PySem.MyX.ExI Pr K C f "__init__" "Nothing.__init__" (defArgs (sX 19)) (defBody (sX 19)) (defScope (sX 19)) fd) (n1 : PySem.W.findIn K (.ref C) "word" = some none) (sup : mg "super" = none) (ht : (Pr.main.scope.names.lookup ("super" : Str)).isSome = false) : MadeK Pr K mg C 1 [] (fs1 "word") := by
  intro X e1 e2 e3 hr
  subst e1 e2 e3
  exact One.made (x := "word") ⟨D, ⟨fun _ _ _ _ => ⟨_, rfl⟩, fun _ _ _ _ => rfl, fun _ _ _ _ => rfl, by decide +kernel, by decide +kernel, by decide +kernel, rfl, by decide +kernel, rfl, rfl⟩, ⟨by decide +kernel, by decide +kernel, by decide +kernel, fun _ _ _ _ => rfl⟩, rfl, rfl, ht, n1, sup⟩ hr (by intros; rfl)
theorem madeK_Nothing (D : PySem.MyX.ExI Pr K C f "__init__" "Nothing.__init__" (defArgs (sX 19)) (defBody (sX 19)) (defScope (sX 19)) fd) (n1 : PySem.W.findIn K (.ref C) "word" = some none) (sup : mg "super" = none) (ht : (Pr.main.scope.names.lookup ("super" : Str)).isSome = false) : MadeK Pr K mg C 0 ["word"] (fs1k "word") := by
  intro X e1 e2 e3 hr
  subst e1 e2 e3
  exact One.madeK (x := "word") ⟨D, ⟨fun _ _ _ _ => ⟨_, rfl⟩, fun _ _ _ _ => rfl, fun _ _ _ _ => rfl, by decide +kernel, by decide +kernel, by decide +kernel, rfl, by decide +kernel, rfl, rfl⟩, ⟨by decide +kernel, by decide +kernel, by decide +kernel, fun _ _ _ _ => rfl⟩, rfl, rfl, ht, n1, sup⟩ hr (by intros; rfl)
theorem made_BadText (D : PySem.MyX.ExI Pr K C f "__init__" "BadText.__init__" (defArgs (sX 15)) (defBody (sX 15)) (defScope (sX 15)) fd) (n1 : PySem.W.findIn K (.ref C) "line" = some none) (n2 : PySem.W.findIn K (.ref C) "word" = some none) (sup : mg "super" = none) (ht : (Pr.main.scope.names.lookup ("super" : Str)).isSome = false) : MadeK Pr K mg C 2 [] (fs2 "line" "word") := by
  intro X e1 e2 e3 hr
  subst e1 e2 e3
  exact Two.made (x := "line") (x2 := "word") ⟨D, ⟨fun _ _ _ _ => ⟨_, rfl⟩, fun _ _ _ _ => rfl, fun _ _ _ _ => rfl, by decide +kernel, by decide +kernel, by decide +kernel, rfl, by decide +kernel, rfl, rfl⟩, ⟨by decide +kernel, by decide +kernel, by decide +kernel, fun _ _ _ _ => rfl⟩, ⟨by decide +kernel, by decide +kernel, by decide +kernel, fun _ _ _ _ => rfl⟩, rfl, rfl, ht, n1, n2, sup, by decide +kernel⟩ hr (by intros; rfl)
theorem madeK_BadText (D : PySem.MyX.ExI Pr K C f "__init__" "BadText.__init__" (defArgs (sX 15)) (defBody (sX 15)) (defScope (sX 15)) fd) (n1 : PySem.W.findIn K (.ref C) "line" = some none) (n2 : PySem.W.findIn K (.ref C) "word" = some none) (sup : mg "super" = none) (ht : (Pr.main.scope.names.lookup ("super" : Str)).isSome = false) : MadeK Pr K mg C 0 ["word", "line"] (fs2k "line" "word") := by
  intro X e1 e2 e3 hr
  subst e1 e2 e3
  exact Two.madeK (x := "line") (x2 := "word") ⟨D, ⟨fun _ _ _ _ => ⟨_, rfl⟩, fun _ _ _ _ => rfl, fun _ _ _ _ => rfl, by decide +kernel, by decide +kernel, by decide +kernel, rfl, by decide +kernel, rfl, rfl⟩, ⟨by decide +kernel, by decide +kernel, by decide +kernel, fun _ _ _ _ => rfl⟩, ⟨by decide +kernel, by decide +kernel, by decide +kernel, fun _ _ _ _ => rfl⟩, rfl, rfl, ht, n1, n2, sup, by decide +kernel⟩ hr (by intros; rfl)
theorem made_TooMany (D : PySem.MyX.ExI Pr K C f "__init__" "TooMany.__init__" (defArgs (sX 17)) (defBody (sX 17)) (defScope (sX 17)) fd) (n1 : PySem.W.findIn K (.ref C) "what" = some none) (n2 : PySem.W.findIn K (.ref C) "most" = some none) (sup : mg "super" = none) (ht : (Pr.main.scope.names.lookup ("super" : Str)).isSome = false) : MadeK Pr K mg C 2 [] (fs2 "what" "most") := by
  intro X e1 e2 e3 hr
  subst e1 e2 e3
  exact Two.made (x := "what") (x2 := "most") ⟨D, ⟨fun _ _ _ _ => ⟨_, rfl⟩, fun _ _ _ _ => rfl, fun _ _ _ _ => rfl, by decide +kernel, by decide +kernel, by decide +kernel, rfl, by decide +kernel, rfl, rfl⟩, ⟨by decide +kernel, by decide +kernel, by decide +kernel, fun _ _ _ _ => rfl⟩, ⟨by decide +kernel, by decide +kernel, by decide +kernel, fun _ _ _ _ => rfl⟩, rfl, rfl, ht, n1, n2, sup, by decide +kernel⟩ hr (by intros; rfl)
theorem madeK_TooMany (D : PySem.MyX.ExI Pr K C f "__init__" "TooMany.__init__" (defArgs (sX 17)) (defBody (sX 17)) (defScope (sX 17)) fd) (n1 : PySem.W.findIn K (.ref C) "what" = some none) (n2 : PySem.W.findIn K (.ref C) "most" = some none) (sup : mg "super" = none) (ht : (Pr.main.scope.names.lookup ("super" : Str)).isSome = false) : MadeK Pr K mg C 0 ["most", "what"] (fs2k "what" "most") := by
  intro X e1 e2 e3 hr
  subst e1 e2 e3
  exact Two.madeK (x := "what") (x2 := "most") ⟨D, ⟨fun _ _ _ _ => ⟨_, rfl⟩, fun _ _ _ _ => rfl, fun _ _ _ _ => rfl, by decide +kernel, by decide +kernel, by decide +kernel, rfl, by decide +kernel, rfl, rfl⟩, ⟨by decide +kernel, by decide +kernel, by decide +kernel, fun _ _ _ _ => rfl⟩, ⟨by decide +kernel, by decide +kernel, by decide +kernel, fun _ _ _ _ => rfl⟩, rfl, rfl, ht, n1, n2, sup, by decide +kernel⟩ hr (by intros; rfl)
end
end My

set_option maxHeartbeats 4000000
namespace My
open PySem PySem.Spec PyProof.Rows L2 PySem.MyX
open He (ba eqO eqO_ok ga ma fAd Fa DefD)
/-! ### an own exception class, its __init__ -/
def oexB (K : PySem.W.Frag) (C : Addr) : Bool := (match K.lookup C with
  | some ⟨.type t, _, .cls cd, sl⟩ => decide (t = "type") && (match cd.mro, sl.toList with
    | .ref C' :: bm, [_, _, _, _, some (.builtin n), _] => decide (C' = C) && (decide (n = "ValueError.__new__") && (!cd.hasDel && (cd.hasDict && PySem.HandSPX.refsVE bm)))
    | _, _ => false)
  | _ => false) && (eqO (PySem.W.findIn K (.ref C) "__setattr__") (some (some (.builtin "object.__setattr__"))) && (decide (PySem.W.subIn K (.ref C) (.type "BaseException") = some true) && (decide (PySem.W.typeIn K (.ref C) = some (.type "type")) && PySem.W.keepIn K (.ref C))))
theorem oexB_ok {K : PySem.W.Frag} {C : Addr} (h : oexB K C = true) : OexC K C := by
  obtain ⟨h1, h⟩ := ba h
  obtain ⟨h2, h⟩ := ba h
  obtain ⟨h3, h⟩ := ba h
  obtain ⟨h4, h5⟩ := ba h
  refine ⟨?_, eqO_ok h2, of_decide_eq_true h3, of_decide_eq_true h4, h5⟩
  split at h1
  · rename_i t dd cd sl ho
    obtain ⟨z1, z2⟩ := ba h1
    split at z2
    · rename_i C' bm k0 k1 k2 k3 n k5 hm hs
      obtain ⟨z3, z4⟩ := ba z2
      obtain ⟨z5, z6⟩ := ba z4
      obtain ⟨z7, z8⟩ := ba z6
      obtain ⟨z9, z10⟩ := ba z8
      have e1 := of_decide_eq_true z1
      have e2 := of_decide_eq_true z3
      have e3 := of_decide_eq_true z5
      subst e1 e2 e3
      obtain ⟨nm, bs, mro, ns, qn, hd, sn, sub, ab, col, del⟩ := cd
      dsimp only at hm z7 z9
      subst hm z9
      have e4 : del = false := by simpa using z7
      subst e4
      have hsl : sl = #[k0, k1, k2, k3, some (.builtin "ValueError.__new__"), k5] := by
        obtain ⟨l⟩ := sl
        simp only at hs
        rw [hs]
      subst hsl
      exact ⟨nm, qn, ns, bs, bm, sn, sub, ab, col, dd, k0, k1, k2, k3, k5, ho, z10⟩
    · cases z2
  · cases h1
def ecB (K : PySem.W.Frag) (C : Addr) : Bool := xfB K C && (eqO (PySem.W.findIn K (.ref C) "__class__") (some (some (.builtin "object.__class__"))) && (eqO (PySem.W.specialIn K (.builtin "object.__class__") "__get__") (some (some (.builtin "getset_descriptor.__get__"))) && (decide (PySem.W.takesIn K (.builtin "object.__class__") = some true) && decide (PySem.W.mroIn K C (.type "object") = some true))))
theorem ecB_ok {K : PySem.W.Frag} {C : Addr} (h : ecB K C = true) : XfC K C ∧ ExcC K C := by
  obtain ⟨h1, h⟩ := ba h
  obtain ⟨h2, h⟩ := ba h
  obtain ⟨h3, h⟩ := ba h
  obtain ⟨h4, h5⟩ := ba h
  have x := xfB_ok h1
  exact ⟨x, x.ga, x.gg, x.exC, x.hdC, eqO_ok h2, eqO_ok h3, of_decide_eq_true h4, of_decide_eq_true h5⟩
structure XcD where
  cls : Str
  qual : Str
  st : Stmt
abbrev FnC : Type := Option (Str × Str × Arguments × FuncBody × Scope × Addr × Value × Addr × List Str)
def fnC (K : PySem.W.Frag) (f : Addr) : FnC := match K.lookup f with
  | some ⟨_, _, .func fd, _⟩ => some (fd.name, fd.qualname, fd.params, fd.body, fd.scope, fd.globals, fd.defaults, fd.builtins, fd.closure.map (·.1))
  | _ => none
def XcD.C (d : XcD) (K : PySem.W.Frag) : Addr := ga K d.cls
def XcD.f (d : XcD) (K : PySem.W.Frag) : Addr := ma K (ga K d.cls) "__init__"
def XcD.val (d : XcD) : FnC := some ("__init__", d.qual, defArgs d.st, .stmts (defBody d.st), defScope d.st, mainGlobals, .none, builtinsNs, ["__class__"])
/-- the code object's file, the cell -/
def xcB (file : Str) (K : PySem.W.Frag) (C f : Addr) (qual : Str) : Bool := match K.lookup f with
  | some ⟨_, _, .func fd, _⟩ => (match fd.code with
    | .ref cda => PySem.W.codeIn K (.ref cda) qual && (match K.lookup cda with
      | some ⟨_, _, .fields vs, _⟩ => (match (vs[2]? : Option Value) with
        | some (.str fl _) => file == fl
        | _ => false)
      | _ => false)
    | _ => false) && (match fd.closure with
    | [(_, cc)] => (match K.lookup cc with
      | some ⟨_, _, .cell (some v), _⟩ => decide (v = .ref C)
      | _ => false)
    | _ => false)
  | _ => false
def XcD.ok (file : Str) (K : PySem.W.Frag) (d : XcD) : Bool := oexB K (d.C K) && (eqO (PySem.W.findIn K (.ref (d.C K)) "__init__") (some (some (.ref (d.f K)))) && (decide (PySem.W.typeIn K (.ref (d.f K)) = some (.type "function")) && (eqO (PySem.W.ks_superIn K (d.C K) (d.C K) "__init__") (some (some (.builtin "ValueError.__init__"))) &&
  (decide (PySem.W.subIn K (.ref (d.C K)) (.type "ValueError") = some true) && (eqO (PySem.W.nsIn K cStatics "thirdparty.any") (some none) && xcB file K (d.C K) (d.f K) d.qual)))))
theorem XcD.exI {Pr : Program} {K : PySem.W.Frag} {d : XcD} (e : fnC K (d.f K) = d.val) (c : d.ok Pr.main.file K = true) : ∃ fd, ExI Pr K (d.C K) (d.f K) "__init__" d.qual (defArgs d.st) (defBody d.st) (defScope d.st) fd := by
  obtain ⟨h1, h⟩ := ba c
  obtain ⟨h2, h⟩ := ba h
  obtain ⟨h3, h⟩ := ba h
  obtain ⟨h4, h⟩ := ba h
  obtain ⟨h5, h⟩ := ba h
  obtain ⟨h6, h7⟩ := ba h
  unfold fnC at e
  unfold xcB at h7
  cases q : K.lookup (d.f K) with
  | none =>
    rw [q] at h7
    cases h7
  | some o =>
    obtain ⟨oc, od, dt, osl⟩ := o
    rw [q] at h7 e
    cases dt with
    | func fd =>
      obtain ⟨n1, n2, n3, n4, n5, n6, n7, n8, n9, n10, n11, n12, n13, n14, n15⟩ := fd
      dsimp only at h7
      have e2 : (some (n1, n2, n3, n4, n5, n6, n8, n15, n7.map (·.1)) : FnC) = d.val := e
      unfold XcD.val at e2
      simp only [Option.some.injEq, Prod.mk.injEq] at e2
      obtain ⟨g1, g2, g3, g4, g5, g6, g7, g8, g9⟩ := e2
      subst g1 g2 g3 g4 g5 g6 g7 g8
      obtain ⟨h8, h9⟩ := ba h7
      cases n13 with
      | ref cda =>
        dsimp only at h8
        obtain ⟨k1, k2⟩ := ba h8
        split at k2
        · rename_i ccl cdd vs ccs hcode
          split at k2
          · rename_i fl tf hvs
            split at h9
            · rename_i nm cc
              split at h9
              · rename_i cl cld v csl hcell
                have ev := of_decide_eq_true h9
                subst ev
                have en : nm = "__class__" := by simpa using g9
                subst en
                exact ⟨_, oexB_ok h1, eqO_ok h2, of_decide_eq_true h3, eqO_ok h4, of_decide_eq_true h5, eqO_ok h6, oc, od, .none, n9, n10, n11, n12, cda, n14, osl, cc, ccl, cdd, vs, ccs, fl, tf, cl, cld, csl, rfl, q, k1, hcode, hvs, k2, hcell, rfl⟩
              · cases h9
            · cases h9
          · cases k2
        · cases k2
      | _ => cases h8
    | _ => cases h7
/-! ### Paper, Denial -/
def clsNB (K : PySem.W.Frag) (C : Addr) (nm : Str) : Bool := eqO (PySem.W.findIn K (.ref C) "__class__") (some (some (.builtin "object.__class__"))) && (eqO (PySem.W.specialIn K (.builtin "object.__class__") "__get__") (some (some (.builtin "getset_descriptor.__get__"))) && (decide (PySem.W.takesIn K (.builtin "object.__class__") = some true) && (decide (PySem.W.mroIn K C (.type "object") = some true) && (eqO (PySem.W.nsIn K cStatics "thirdparty.any") (some none) &&
  ((match K.lookup C with
    | some ⟨.type t, _, _, sl⟩ => decide (t = "type") && (match (sl[2]? : Option (Option Value)) with
      | some (some (.str n _)) => decide (n = nm)
      | _ => false)
    | _ => false) && (match PySem.W.findCls K (.ref C) (.type "type") "__name__" with
    | some (.get g a o t) => decide (g = .builtin "getset_descriptor.__get__") && (decide (a = .builtin "type.__name__") && (decide (o = .ref C) && decide (t = .type "type")))
    | _ => false))))))
theorem clsNB_ok {K : PySem.W.Frag} {x nm : Str} (hc : (Fa.cls x).ok K = true) (h : clsNB K (ga K x) nm = true) : ClsN K (ga K x) nm := by
  obtain ⟨h1, h⟩ := ba h
  obtain ⟨h2, h⟩ := ba h
  obtain ⟨h3, h⟩ := ba h
  obtain ⟨h4, h⟩ := ba h
  obtain ⟨h5, h⟩ := ba h
  obtain ⟨h6, h7⟩ := ba h
  refine ⟨He.cls_ok hc, eqO_ok h1, eqO_ok h2, of_decide_eq_true h3, of_decide_eq_true h4, eqO_ok h5, ?_, ?_⟩
  · split at h6
    · rename_i t dd dt sl ho
      obtain ⟨z1, z2⟩ := ba h6
      split at z2
      · rename_i n tk hs
        have e1 := of_decide_eq_true z1
        have e2 := of_decide_eq_true z2
        subst e1 e2
        exact ⟨_, tk, ho, rfl, hs⟩
      · cases z2
    · cases h6
  · split at h7
    · rename_i g a o t hf
      obtain ⟨z1, z2⟩ := ba h7
      obtain ⟨z3, z4⟩ := ba z2
      obtain ⟨z5, z6⟩ := ba z4
      have e1 := of_decide_eq_true z1
      have e2 := of_decide_eq_true z3
      have e3 := of_decide_eq_true z5
      have e4 := of_decide_eq_true z6
      subst e1 e2 e3 e4
      exact hf
    · cases h7
def papB (K : PySem.W.Frag) (x : Str) : Bool := (Fa.cls x).ok K && (clsNB K (ga K x) x && (eqO (PySem.W.findIn K (.ref (ga K x)) "word") (some none) && (eqO (PySem.W.findIn K (.ref (ga K x)) "parts") (some none) && decide (PySem.W.kitOne K (.ref (ga K x)) (.ref (ga K "Paper")) = some true))))
theorem papB_ok {K : PySem.W.Frag} {x : Str} (h : papB K x = true) : PapC K (ga K "Paper") (ga K x) x := by
  obtain ⟨h1, h⟩ := ba h
  obtain ⟨h2, h⟩ := ba h
  obtain ⟨h3, h⟩ := ba h
  obtain ⟨h4, h5⟩ := ba h
  exact ⟨clsNB_ok h1 h2, eqO_ok h3, eqO_ok h4, of_decide_eq_true h5⟩
def eqB (K : PySem.W.Frag) (C f : Addr) : Bool := eqO (PySem.W.findIn K (.ref C) "__eq__") (some (some (.ref f))) && (eqO (PySem.W.findIn K (.ref C) "__ne__") (some (some (.builtin "object.__ne__"))) && (PySem.W.isFn K (.ref f) && decide (PySem.W.mroIn K C (.type "object") = some true)))
theorem eqB_ok {K : PySem.W.Frag} {C f : Addr} (h : eqB K C f = true) : EqC K C f := by
  obtain ⟨h1, h⟩ := ba h
  obtain ⟨h2, h⟩ := ba h
  obtain ⟨h3, h4⟩ := ba h
  exact ⟨eqO_ok h1, eqO_ok h2, h3, of_decide_eq_true h4⟩
def mkB (K : PySem.W.Frag) (C f : Addr) : Bool := PySem.W.makesIn K C && (eqO (PySem.W.findIn K (.ref C) "__init__") (some (some (.ref f))) && (PySem.W.isFn K (.ref f) && PySem.W.keepIn K (.ref C)))
theorem mkB_ok {K : PySem.W.Frag} {C f : Addr} (h : mkB K C f = true) : Mk K C f := by
  obtain ⟨h1, h⟩ := ba h
  obtain ⟨h2, h⟩ := ba h
  obtain ⟨h3, h4⟩ := ba h
  exact ⟨h1, eqO_ok h2, h3, h4⟩
def blB (K : PySem.W.Frag) (x : Str) : Bool := eqO (PySem.W.findIn K (.ref (ga K x)) "__bool__") (some (some (.ref (ma K (ga K x) "__bool__")))) && PySem.W.isFn K (.ref (ma K (ga K x) "__bool__"))
/-! ### the lists -/
def freeL : List Str := ["range", "repr", "isinstance", "enumerate", "bool", "ValueError", "int", "len", "abs", "list", "tuple", "all", "zip", "super"]
def gloL : List Str := ["_law_pen", "_law_draw", "_law_value", "_law_tupled", "fixed", "are_like", "law", "Paper", "Denial", "BellError", "BadNumber", "BadBits", "BadTable", "BadBook", "BadRow", "BadPattern", "BadPaper", "Misfit", "BadText", "BadWord", "TooMany", "NoName", "Nothing"]
def xL : List Str := ["BadNumber", "BadBits", "BadTable", "BadBook", "BadRow", "BadPattern", "BadPaper", "Misfit", "BadText", "BadWord", "TooMany", "NoName", "Nothing"]
def pairL : List (Str × Str) := [("BadNumber", "part"), ("BadBits", "part"), ("BadTable", "part"), ("BadBook", "part"), ("BadRow", "part"), ("BadPattern", "part"), ("BadPaper", "part"), ("Misfit", "part"), ("BadWord", "word"), ("NoName", "name"), ("Nothing", "word"), ("BadText", "line"), ("BadText", "word"), ("TooMany", "what"), ("TooMany", "most")]
def partL : List Str := ["BadNumber", "BadBits", "BadTable", "BadBook", "BadRow", "BadPattern", "BadPaper", "Misfit"]
def othL : List Str := ["BadBook", "BadRow", "Misfit", "TooMany", "NoName", "Nothing", "BadText", "BadWord"]
def xcL : List XcD := [⟨"BadNumber", "BadNumber.__init__", sX 7⟩, ⟨"BadBits", "BadBits.__init__", sX 8⟩, ⟨"BadTable", "BadTable.__init__", sX 9⟩, ⟨"BadBook", "BadBook.__init__", sX 10⟩, ⟨"BadRow", "BadRow.__init__", sX 11⟩, ⟨"BadPattern", "BadPattern.__init__", sX 12⟩, ⟨"BadPaper", "BadPaper.__init__", sX 13⟩, ⟨"Misfit", "Misfit.__init__", sX 14⟩, ⟨"BadText", "BadText.__init__", sX 15⟩, ⟨"BadWord", "BadWord.__init__", sX 16⟩, ⟨"TooMany", "TooMany.__init__", sX 17⟩, ⟨"NoName", "NoName.__init__", sX 18⟩, ⟨"Nothing", "Nothing.__init__", sX 19⟩]
def fnL : List DefD := [⟨("fixed", none), "fixed", "fixed", defArgs sFixed, defBody sFixed, defScope sFixed, [], []⟩,
  ⟨("are_like", none), "are_like", "are_like", defArgs sLike, defBody sLike, defScope sLike, [], []⟩,
  ⟨("_law_pen", none), "_law_pen", "_law_pen", defArgs sPen, defBody sPen, defScope sPen, [], []⟩,
  ⟨("_law_draw", none), "_law_draw", "_law_draw", defArgs sDraw, defBody sDraw, defScope sDraw, [], []⟩,
  ⟨("_law_value", none), "_law_value", "_law_value", defArgs sValue, defBody sValue, defScope sValue, [], []⟩,
  ⟨("_law_tupled", none), "_law_tupled", "_law_tupled", defArgs sTupled, defBody sTupled, defScope sTupled, [], []⟩,
  ⟨("law", none), "law", "law", defArgs sLaw, defBody sLaw, defScope sLaw, [], []⟩,
  ⟨("Paper", some "__init__"), "__init__", "Paper.__init__", defArgs sPInit, defBody sPInit, defScope sPInit, [], []⟩,
  ⟨("Paper", some "__bool__"), "__bool__", "Paper.__bool__", defArgs sPBool, defBody sPBool, defScope sPBool, [], []⟩,
  ⟨("Paper", some "__eq__"), "__eq__", "Paper.__eq__", defArgs sPEq, defBody sPEq, defScope sPEq, [], []⟩,
  ⟨("Denial", some "__bool__"), "__bool__", "Denial.__bool__", defArgs sDBool, defBody sDBool, defScope sDBool, [], []⟩]
def exB (K : PySem.W.Frag) : Bool := ((freeL.all fun x => (Fa.free x).ok K) && ((gloL.all fun x => (Fa.glo x).ok K) && ((xL.all fun x => PySem.W.keepIn K (.ref (ga K x)) && ecB K (ga K x)) && ((pairL.all fun q => eqO (PySem.W.findIn K (.ref (ga K q.1)) q.2) (some none)) && ((partL.all fun x => decide (PySem.W.kitOne K (.ref (ga K x)) (.ref (ga K "BellError")) = some true) && decide (PySem.W.kitOne K (.ref (ga K x)) (.type "ValueError") = some true)) && ((othL.all fun x => decide (PySem.W.kitAny K (.ref (ga K x)) [.ref (ga K "BadNumber"), .ref (ga K "BadBits"), .ref (ga K "BadTable")] = some false)) && (decide (PySem.W.kitOne K (.type "tuple") (.ref (ga K "Paper")) = some false) && (decide (PySem.W.kitOne K (.ref (ga K "Denial")) (.ref (ga K "Paper")) = some true) && (decide (PySem.W.subIn K (.ref (ga K "Denial")) (.ref (ga K "Paper")) = some true) && (PySem.W.notFirst K (ga K "Paper") (.type "tuple") && (PySem.W.notFirst K (ga K "Denial") (.type "tuple") && (!decide (ga K "Denial" = ga K "Paper") && (mkB K (ga K "Paper") (ma K (ga K "Paper") "__init__") && (mkB K (ga K "Denial") (ma K (ga K "Paper") "__init__") && (eqB K (ga K "Paper") (ma K (ga K "Paper") "__eq__") && (eqB K (ga K "Denial") (ma K (ga K "Paper") "__eq__") && (blB K "Paper" && (blB K "Denial" && (papB K "Paper" && papB K "Denial")))))))))))))))))))
/-- what the Bool says -/
structure ExF (K : PySem.W.Frag) : Prop where
  c0 : (freeL.all fun x => (Fa.free x).ok K) = true
  c1 : (gloL.all fun x => (Fa.glo x).ok K) = true
  c2 : (xL.all fun x => PySem.W.keepIn K (.ref (ga K x)) && ecB K (ga K x)) = true
  c3 : (pairL.all fun q => eqO (PySem.W.findIn K (.ref (ga K q.1)) q.2) (some none)) = true
  c4 : (partL.all fun x => decide (PySem.W.kitOne K (.ref (ga K x)) (.ref (ga K "BellError")) = some true) && decide (PySem.W.kitOne K (.ref (ga K x)) (.type "ValueError") = some true)) = true
  c5 : (othL.all fun x => decide (PySem.W.kitAny K (.ref (ga K x)) [.ref (ga K "BadNumber"), .ref (ga K "BadBits"), .ref (ga K "BadTable")] = some false)) = true
  c6 : decide (PySem.W.kitOne K (.type "tuple") (.ref (ga K "Paper")) = some false) = true
  c7 : decide (PySem.W.kitOne K (.ref (ga K "Denial")) (.ref (ga K "Paper")) = some true) = true
  c8 : decide (PySem.W.subIn K (.ref (ga K "Denial")) (.ref (ga K "Paper")) = some true) = true
  c9 : PySem.W.notFirst K (ga K "Paper") (.type "tuple") = true
  c10 : PySem.W.notFirst K (ga K "Denial") (.type "tuple") = true
  c11 : (!decide (ga K "Denial" = ga K "Paper")) = true
  c12 : mkB K (ga K "Paper") (ma K (ga K "Paper") "__init__") = true
  c13 : mkB K (ga K "Denial") (ma K (ga K "Paper") "__init__") = true
  c14 : eqB K (ga K "Paper") (ma K (ga K "Paper") "__eq__") = true
  c15 : eqB K (ga K "Denial") (ma K (ga K "Paper") "__eq__") = true
  c16 : blB K "Paper" = true
  c17 : blB K "Denial" = true
  c18 : papB K "Paper" = true
  c19 : papB K "Denial" = true
theorem exB_ok {K : PySem.W.Frag} (h : exB K = true) : ExF K := by
  obtain ⟨c0, h⟩ := ba h
  obtain ⟨c1, h⟩ := ba h
  obtain ⟨c2, h⟩ := ba h
  obtain ⟨c3, h⟩ := ba h
  obtain ⟨c4, h⟩ := ba h
  obtain ⟨c5, h⟩ := ba h
  obtain ⟨c6, h⟩ := ba h
  obtain ⟨c7, h⟩ := ba h
  obtain ⟨c8, h⟩ := ba h
  obtain ⟨c9, h⟩ := ba h
  obtain ⟨c10, h⟩ := ba h
  obtain ⟨c11, h⟩ := ba h
  obtain ⟨c12, h⟩ := ba h
  obtain ⟨c13, h⟩ := ba h
  obtain ⟨c14, h⟩ := ba h
  obtain ⟨c15, h⟩ := ba h
  obtain ⟨c16, h⟩ := ba h
  obtain ⟨c17, h⟩ := ba h
  obtain ⟨c18, h⟩ := ba h
  exact ⟨c0, c1, c2, c3, c4, c5, c6, c7, c8, c9, c10, c11, c12, c13, c14, c15, c16, c17, c18, h⟩
end My

set_option maxHeartbeats 0
namespace My
open PySem PySem.Spec PyProof.Rows L2
open He (ba DefD)
abbrev RR : PySem.W.OpenRow := PySem.W.OpenLaw.row PySem.Challenge.rw_opencuts_k00_errors_and_papers
abbrev qv : Program := PySem.W.view RR.prog [25]
def names : List PySem.Str := ["fixed", "are_like", "Paper", "Denial", "BellError", "BadNumber", "BadBits", "BadTable", "BadBook", "BadRow", "BadPattern", "BadPaper", "Misfit", "BadText", "BadWord", "TooMany", "NoName", "Nothing", "_law_pen", "_law_draw", "_law_value", "_law_tupled"]
abbrev AlK : Type := (Bool × List He.FnW) × List FnC
def asK (g : Addr → Option Obj) : Nat → List Addr
  | 0 => [mainGlobals, cStatics]
  | n + 1 => He.growD g (asK g n)
def obsK (K : PySem.W.Frag) : AlK := ((exB K && ((fnL.all fun d => d.ok K) && xcL.all fun d => d.ok RR.prog.main.file K), fnL.map fun d => He.fnW K d.at_), xcL.map fun d => fnC K (d.f K))
def valK : AlK := ((true, fnL.map DefD.val), xcL.map XcD.val)
def obsKG (g : Addr → Option Obj) : AlK := obsK (He.frG g (asK g 4))
def hookK : PySem.W.Hook where
  α := AlK
  obs := fun s => obsKG s.heap.get?
  val := fun _ => valK
  says := fun _ h => ∃ K : PySem.W.Frag, K.In h ∧ obsK K = valK
  of := fun _ _ e => ⟨_, He.frG_in, e⟩
  keeps := fun _ _ _ ⟨K, hK, c⟩ k => ⟨K, PySem.W.Frag.In.keeps hK k, c⟩
def obK (s : PySem.W.SharedT) : AlK := obsKG (HandSHeadRun.getT s)
theorem obK_eq (s : PySem.W.SharedT) : obK s = hookK.obs s.abs := by
  have e : HandSHeadRun.getT s = s.abs.heap.get? := funext (HandSHeadRun.getT_eq s)
  unfold obK
  rw [e] <;> rfl
open PySem.W PySem.Calls in
theorem runK (w : World) : HandSHeadRun.RunEq RR qv hookK obK 30000 names w := by
  intro os
  kernel_rfl
end My

set_option maxHeartbeats 4000000
namespace My
open PySem PySem.Spec PyProof.Rows L2 PySem.MyX
open He (ba eqO_ok ga ma fAd DefD)
abbrev PR : Program := PySem.Challenge.rw_opencuts_k00_errors_and_papers.prog
section
variable {K : PySem.W.Frag}
theorem says1 (c : obsK K = valK) : exB K = true ∧ (fnL.all fun d => d.ok K) = true ∧ (xcL.all fun d => d.ok RR.prog.main.file K) = true := by
  have z : (exB K && ((fnL.all fun d => d.ok K) && xcL.all fun d => d.ok RR.prog.main.file K)) = true := congrArg (fun z : AlK => z.1.1) c
  obtain ⟨h1, h⟩ := ba z
  obtain ⟨h2, h3⟩ := ba h
  exact ⟨h1, h2, h3⟩
theorem get_fn (c : obsK K = valK) (i : Nat) {d : DefD} (h : fnL[i]? = some d) : ∃ fd, FunD K d.name d.qual d.params d.body d.scope (d.dvs K) (d.kws K) (fAd K d.at_) fd := by
  have e : fnL.map (fun d => He.fnW K d.at_) = fnL.map DefD.val := congrArg (fun z : AlK => z.1.2) c
  have e2 : (fnL.map fun d => He.fnW K d.at_)[i]? = (fnL.map DefD.val)[i]? := by rw [e]
  rw [List.getElem?_map, List.getElem?_map, h] at e2
  exact DefD.funD (Option.some.inj e2) (List.all_eq_true.mp (says1 c).2.1 d (List.mem_of_getElem? h))
theorem get_xc (c : obsK K = valK) (i : Nat) {d : XcD} (h : xcL[i]? = some d) : ∃ fd, ExI PR K (d.C K) (d.f K) "__init__" d.qual (defArgs d.st) (defBody d.st) (defScope d.st) fd := by
  have e : xcL.map (fun d => fnC K (d.f K)) = xcL.map XcD.val := congrArg (fun z : AlK => z.2) c
  have e2 : (xcL.map fun d => fnC K (d.f K))[i]? = (xcL.map XcD.val)[i]? := by rw [e]
  rw [List.getElem?_map, List.getElem?_map, h] at e2
  exact XcD.exI (Option.some.inj e2) (List.all_eq_true.mp (says1 c).2.2 d (List.mem_of_getElem? h))
end
section
variable {K : PySem.W.Frag} {h : Heap} {mg : Str → Option Value} {w : World} {base : Heap}
theorem top_super : (PR.main.scope.names.lookup ("super" : Str)).isSome = false := by decide +kernel
theorem tl_of (X : K.In h) (G : h.Ns mainGlobals mg) (c : obsK K = valK) : TL PR w base K mg := by
  have F := exB_ok (says1 c).1
  have fr : ∀ x ∈ freeL, mg x = none := fun x hx => He.free_ok X G (List.all_eq_true.mp F.c0 x hx)
  have gl : ∀ x ∈ gloL, mg x = some (.ref (ga K x)) := fun x hx => He.glo_ok X G (List.all_eq_true.mp F.c1 x hx)
  have cx : ∀ x ∈ xL, x ∈ gloL → ClsX K mg x := fun x hx hg => by
    obtain ⟨h1, h2⟩ := ba (List.all_eq_true.mp F.c2 x hx)
    obtain ⟨h3, h4⟩ := ecB_ok h2
    exact ⟨h1, gl x hg, h3, h4⟩
  have pr : ∀ q ∈ pairL, PySem.W.findIn K (.ref (ga K q.1)) q.2 = some none := fun q hq => eqO_ok (List.all_eq_true.mp F.c3 q hq)
  have bv : ∀ x ∈ partL, PySem.W.kitOne K (.ref (ga K x)) (.ref (ga K "BellError")) = some true ∧ PySem.W.kitOne K (.ref (ga K x)) (.type "ValueError") = some true := fun x hx => by
    obtain ⟨h1, h2⟩ := ba (List.all_eq_true.mp F.c4 x hx)
    exact ⟨of_decide_eq_true h1, of_decide_eq_true h2⟩
  have ot : ∀ x ∈ othL, PySem.W.kitAny K (.ref (ga K x)) [.ref (ga K "BadNumber"), .ref (ga K "BadBits"), .ref (ga K "BadTable")] = some false := fun x hx => of_decide_eq_true (List.all_eq_true.mp F.c5 x hx)
  have su : mg "super" = none := fr "super" (by decide +kernel)
  obtain ⟨f0, D0⟩ := get_xc c 0 (d := ⟨"BadNumber", "BadNumber.__init__", sX 7⟩) rfl
  obtain ⟨f1, D1⟩ := get_xc c 1 (d := ⟨"BadBits", "BadBits.__init__", sX 8⟩) rfl
  obtain ⟨f2, D2⟩ := get_xc c 2 (d := ⟨"BadTable", "BadTable.__init__", sX 9⟩) rfl
  obtain ⟨f3, D3⟩ := get_xc c 3 (d := ⟨"BadBook", "BadBook.__init__", sX 10⟩) rfl
  obtain ⟨f4, D4⟩ := get_xc c 4 (d := ⟨"BadRow", "BadRow.__init__", sX 11⟩) rfl
  obtain ⟨f5, D5⟩ := get_xc c 5 (d := ⟨"BadPattern", "BadPattern.__init__", sX 12⟩) rfl
  obtain ⟨f6, D6⟩ := get_xc c 6 (d := ⟨"BadPaper", "BadPaper.__init__", sX 13⟩) rfl
  obtain ⟨f7, D7⟩ := get_xc c 7 (d := ⟨"Misfit", "Misfit.__init__", sX 14⟩) rfl
  obtain ⟨f8, D8⟩ := get_xc c 8 (d := ⟨"BadText", "BadText.__init__", sX 15⟩) rfl
  obtain ⟨f9, D9⟩ := get_xc c 9 (d := ⟨"BadWord", "BadWord.__init__", sX 16⟩) rfl
  obtain ⟨f10, D10⟩ := get_xc c 10 (d := ⟨"TooMany", "TooMany.__init__", sX 17⟩) rfl
  obtain ⟨f11, D11⟩ := get_xc c 11 (d := ⟨"NoName", "NoName.__init__", sX 18⟩) rfl
  obtain ⟨f12, D12⟩ := get_xc c 12 (d := ⟨"Nothing", "Nothing.__init__", sX 19⟩) rfl
  exact {
    n_range := fr "range" (by decide +kernel)
    n_repr := fr "repr" (by decide +kernel)
    n_isi := fr "isinstance" (by decide +kernel)
    n_enum := fr "enumerate" (by decide +kernel)
    n_bool := fr "bool" (by decide +kernel)
    n_VE := fr "ValueError" (by decide +kernel)
    mB := gl "BellError" (by decide +kernel)
    x_BadNumber := cx "BadNumber" (by decide +kernel) (by decide +kernel)
    x_BadBits := cx "BadBits" (by decide +kernel) (by decide +kernel)
    x_BadTable := cx "BadTable" (by decide +kernel) (by decide +kernel)
    x_BadBook := cx "BadBook" (by decide +kernel) (by decide +kernel)
    x_BadRow := cx "BadRow" (by decide +kernel) (by decide +kernel)
    x_BadPattern := cx "BadPattern" (by decide +kernel) (by decide +kernel)
    x_BadPaper := cx "BadPaper" (by decide +kernel) (by decide +kernel)
    x_Misfit := cx "Misfit" (by decide +kernel) (by decide +kernel)
    x_BadText := cx "BadText" (by decide +kernel) (by decide +kernel)
    x_BadWord := cx "BadWord" (by decide +kernel) (by decide +kernel)
    x_TooMany := cx "TooMany" (by decide +kernel) (by decide +kernel)
    x_NoName := cx "NoName" (by decide +kernel) (by decide +kernel)
    x_Nothing := cx "Nothing" (by decide +kernel) (by decide +kernel)
    m_BadNumber := made_BadNumber D0 (pr ("BadNumber", "part") (by decide +kernel)) su top_super
    m_BadBits := made_BadBits D1 (pr ("BadBits", "part") (by decide +kernel)) su top_super
    m_BadTable := made_BadTable D2 (pr ("BadTable", "part") (by decide +kernel)) su top_super
    m_BadBook := made_BadBook D3 (pr ("BadBook", "part") (by decide +kernel)) su top_super
    m_BadRow := made_BadRow D4 (pr ("BadRow", "part") (by decide +kernel)) su top_super
    m_BadPattern := made_BadPattern D5 (pr ("BadPattern", "part") (by decide +kernel)) su top_super
    m_BadPaper := made_BadPaper D6 (pr ("BadPaper", "part") (by decide +kernel)) su top_super
    m_Misfit := made_Misfit D7 (pr ("Misfit", "part") (by decide +kernel)) su top_super
    m_BadWord := made_BadWord D9 (pr ("BadWord", "word") (by decide +kernel)) su top_super
    m_NoName := made_NoName D11 (pr ("NoName", "name") (by decide +kernel)) su top_super
    m_Nothing := made_Nothing D12 (pr ("Nothing", "word") (by decide +kernel)) su top_super
    k_BadNumber := madeK_BadNumber D0 (pr ("BadNumber", "part") (by decide +kernel)) su top_super
    k_Misfit := madeK_Misfit D7 (pr ("Misfit", "part") (by decide +kernel)) su top_super
    k_Nothing := madeK_Nothing D12 (pr ("Nothing", "word") (by decide +kernel)) su top_super
    m_BadText := made_BadText D8 (pr ("BadText", "line") (by decide +kernel)) (pr ("BadText", "word") (by decide +kernel)) su top_super
    k_BadText := madeK_BadText D8 (pr ("BadText", "line") (by decide +kernel)) (pr ("BadText", "word") (by decide +kernel)) su top_super
    m_TooMany := made_TooMany D10 (pr ("TooMany", "what") (by decide +kernel)) (pr ("TooMany", "most") (by decide +kernel)) su top_super
    k_TooMany := madeK_TooMany D10 (pr ("TooMany", "what") (by decide +kernel)) (pr ("TooMany", "most") (by decide +kernel)) su top_super
    p_BadNumber := (pr ("BadNumber", "part") (by decide +kernel))
    b_BadNumber := (bv "BadNumber" (by decide +kernel)).1
    v_BadNumber := (bv "BadNumber" (by decide +kernel)).2
    p_BadBits := (pr ("BadBits", "part") (by decide +kernel))
    b_BadBits := (bv "BadBits" (by decide +kernel)).1
    v_BadBits := (bv "BadBits" (by decide +kernel)).2
    p_BadTable := (pr ("BadTable", "part") (by decide +kernel))
    b_BadTable := (bv "BadTable" (by decide +kernel)).1
    v_BadTable := (bv "BadTable" (by decide +kernel)).2
    p_BadBook := (pr ("BadBook", "part") (by decide +kernel))
    b_BadBook := (bv "BadBook" (by decide +kernel)).1
    v_BadBook := (bv "BadBook" (by decide +kernel)).2
    p_BadRow := (pr ("BadRow", "part") (by decide +kernel))
    b_BadRow := (bv "BadRow" (by decide +kernel)).1
    v_BadRow := (bv "BadRow" (by decide +kernel)).2
    p_BadPattern := (pr ("BadPattern", "part") (by decide +kernel))
    b_BadPattern := (bv "BadPattern" (by decide +kernel)).1
    v_BadPattern := (bv "BadPattern" (by decide +kernel)).2
    p_BadPaper := (pr ("BadPaper", "part") (by decide +kernel))
    b_BadPaper := (bv "BadPaper" (by decide +kernel)).1
    v_BadPaper := (bv "BadPaper" (by decide +kernel)).2
    p_Misfit := (pr ("Misfit", "part") (by decide +kernel))
    b_Misfit := (bv "Misfit" (by decide +kernel)).1
    v_Misfit := (bv "Misfit" (by decide +kernel)).2
    p_BadWord_word := (pr ("BadWord", "word") (by decide +kernel))
    p_NoName_name := (pr ("NoName", "name") (by decide +kernel))
    p_Nothing_word := (pr ("Nothing", "word") (by decide +kernel))
    p_BadText_line := (pr ("BadText", "line") (by decide +kernel))
    p_BadText_word := (pr ("BadText", "word") (by decide +kernel))
    p_TooMany_what := (pr ("TooMany", "what") (by decide +kernel))
    p_TooMany_most := (pr ("TooMany", "most") (by decide +kernel))
    o_BadBook := ot "BadBook" (by decide +kernel)
    o_BadRow := ot "BadRow" (by decide +kernel)
    o_Misfit := ot "Misfit" (by decide +kernel)
    o_TooMany := ot "TooMany" (by decide +kernel)
    o_NoName := ot "NoName" (by decide +kernel)
    o_Nothing := ot "Nothing" (by decide +kernel)
    o_BadText := ot "BadText" (by decide +kernel)
    o_BadWord := ot "BadWord" (by decide +kernel)
    gP := gl "Paper" (by decide +kernel)
    gD := gl "Denial" (by decide +kernel)
    pP := papB_ok F.c18
    pD := papB_ok F.c19
    kT := of_decide_eq_true F.c6
    kDP := of_decide_eq_true F.c7
    sDP := of_decide_eq_true F.c8
    nTP := F.c9
    nTD := F.c10
    neD := of_decide_eq_false (by simpa using F.c11) }
abbrev spLaw (K : PySem.W.Frag) : Sp := fun vs H Q _ => ∃ (a : Addr) (ns : List Int), vs = [.ref a] ∧ SqL K H a (ns.map V.int) ∧ ns.length ≤ 63 ∧ Q = fun v _ => v = V.bl true
theorem room15 : Room 15 callerA := ⟨rfl, by decide, by decide⟩
theorem kbn_fixed {fd : FuncData} {f : Addr} (F : FnP K "fixed" sFixed f fd) : KBn K fd ["value"] 0 ["value"] (fun us ws => us ++ ws) (fun vs zs => vs ++ zs) := by
  obtain ⟨oc, od, dV, kV, doc, pm, an, cdv, ct, osl, rfl, lk, hcd, hD, hK⟩ := F.ex
  rcases hD with ⟨_, rfl⟩ | ⟨e, _⟩
  · refine ⟨fun s us ws X l1 l2 => ?_, fun r1 r2 => ?_⟩
    · match us, ws, l1, l2 with
      | [], [u], _, _ => exact .of_eq rfl
    · exact r1.append r2
  · exact absurd rfl e
theorem law_of (X : K.In h) (G : h.Ns mainGlobals mg) (c : obsK K = valK) : ∃ fd : FuncData, (∀ (s : Shared) (v : Value), BindsTo s fd ⟨[v], []⟩ [("script", v)]) ∧ ∀ base : Heap, RunC PR w K mg base (ga K "law") fd ["script"] (spLaw K) := by
  have F := exB_ok (says1 c).1
  have fr : ∀ x ∈ freeL, mg x = none := fun x hx => He.free_ok X G (List.all_eq_true.mp F.c0 x hx)
  have gl : ∀ x ∈ gloL, mg x = some (.ref (ga K x)) := fun x hx => He.glo_ok X G (List.all_eq_true.mp F.c1 x hx)
  obtain ⟨fdF, FF⟩ : ∃ fd, FnP K "fixed" sFixed (ga K "fixed") fd := get_fn c 0 (d := ⟨("fixed", none), "fixed", "fixed", defArgs sFixed, defBody sFixed, defScope sFixed, [], []⟩) rfl
  obtain ⟨fdL, FL⟩ : ∃ fd, FnP K "are_like" sLike (ga K "are_like") fd := get_fn c 1 (d := ⟨("are_like", none), "are_like", "are_like", defArgs sLike, defBody sLike, defScope sLike, [], []⟩) rfl
  obtain ⟨fdPn, FPn⟩ : ∃ fd, FnP K "_law_pen" sPen (ga K "_law_pen") fd := get_fn c 2 (d := ⟨("_law_pen", none), "_law_pen", "_law_pen", defArgs sPen, defBody sPen, defScope sPen, [], []⟩) rfl
  obtain ⟨fdDr, FDr⟩ : ∃ fd, FnP K "_law_draw" sDraw (ga K "_law_draw") fd := get_fn c 3 (d := ⟨("_law_draw", none), "_law_draw", "_law_draw", defArgs sDraw, defBody sDraw, defScope sDraw, [], []⟩) rfl
  obtain ⟨fdV, FV⟩ : ∃ fd, FnP K "_law_value" sValue (ga K "_law_value") fd := get_fn c 4 (d := ⟨("_law_value", none), "_law_value", "_law_value", defArgs sValue, defBody sValue, defScope sValue, [], []⟩) rfl
  obtain ⟨fdT, FT⟩ : ∃ fd, FnP K "_law_tupled" sTupled (ga K "_law_tupled") fd := get_fn c 5 (d := ⟨("_law_tupled", none), "_law_tupled", "_law_tupled", defArgs sTupled, defBody sTupled, defScope sTupled, [], []⟩) rfl
  obtain ⟨fdW, FW⟩ : ∃ fd, FnP K "law" sLaw (ga K "law") fd := get_fn c 6 (d := ⟨("law", none), "law", "law", defArgs sLaw, defBody sLaw, defScope sLaw, [], []⟩) rfl
  obtain ⟨fdI, FI⟩ : ∃ fd, FnM K "__init__" "Paper.__init__" sPInit (ma K (ga K "Paper") "__init__") fd := get_fn c 7 (d := ⟨("Paper", some "__init__"), "__init__", "Paper.__init__", defArgs sPInit, defBody sPInit, defScope sPInit, [], []⟩) rfl
  obtain ⟨fdB, FB⟩ : ∃ fd, FnM K "__bool__" "Paper.__bool__" sPBool (ma K (ga K "Paper") "__bool__") fd := get_fn c 8 (d := ⟨("Paper", some "__bool__"), "__bool__", "Paper.__bool__", defArgs sPBool, defBody sPBool, defScope sPBool, [], []⟩) rfl
  obtain ⟨fdE, FE⟩ : ∃ fd, FnM K "__eq__" "Paper.__eq__" sPEq (ma K (ga K "Paper") "__eq__") fd := get_fn c 9 (d := ⟨("Paper", some "__eq__"), "__eq__", "Paper.__eq__", defArgs sPEq, defBody sPEq, defScope sPEq, [], []⟩) rfl
  obtain ⟨fdDB, FDB⟩ : ∃ fd, FnM K "__bool__" "Denial.__bool__" sDBool (ma K (ga K "Denial") "__bool__") fd := get_fn c 10 (d := ⟨("Denial", some "__bool__"), "__bool__", "Denial.__bool__", defArgs sDBool, defBody sDBool, defScope sDBool, [], []⟩) rfl
  have bF : Binds K fdF ["value"] [] := FF.bindsN fun _ _ _ _ _ _ us hl => match us, hl with | [_], _ => rfl
  have bL : Binds K fdL ["one", "other"] [] := FL.bindsN fun _ _ _ _ _ _ us hl => match us, hl with | [_, _], _ => rfl
  have bPn : Binds K fdPn ["script"] [] := FPn.bindsN fun _ _ _ _ _ _ us hl => match us, hl with | [_], _ => rfl
  have bDr : Binds K fdDr ["pen", "many"] [] := FDr.bindsN fun _ _ _ _ _ _ us hl => match us, hl with | [_, _], _ => rfl
  have bV : Binds K fdV ["pen", "deep"] [] := FV.bindsN fun _ _ _ _ _ _ us hl => match us, hl with | [_, _], _ => rfl
  have bT : Binds K fdT ["value"] [] := FT.bindsN fun _ _ _ _ _ _ us hl => match us, hl with | [_], _ => rfl
  have bB : Binds K fdB ["self"] [] := FB.bindsN fun _ _ _ _ _ _ us hl => match us, hl with | [_], _ => rfl
  have bE : Binds K fdE ["self", "other"] [] := FE.bindsN fun _ _ _ _ _ _ us hl => match us, hl with | [_, _], _ => rfl
  have bDB : Binds K fdDB ["self"] [] := FDB.bindsN fun _ _ _ _ _ _ us hl => match us, hl with | [_], _ => rfl
  have mF : mg "fixed" = some (.ref (ga K "fixed")) := gl "fixed" (by decide +kernel)
  have mL : mg "are_like" = some (.ref (ga K "are_like")) := gl "are_like" (by decide +kernel)
  have mPn : mg "_law_pen" = some (.ref (ga K "_law_pen")) := gl "_law_pen" (by decide +kernel)
  have mDr : mg "_law_draw" = some (.ref (ga K "_law_draw")) := gl "_law_draw" (by decide +kernel)
  have mV : mg "_law_value" = some (.ref (ga K "_law_value")) := gl "_law_value" (by decide +kernel)
  have mT : mg "_law_tupled" = some (.ref (ga K "_law_tupled")) := gl "_law_tupled" (by decide +kernel)
  have tT : TxtT mg := ⟨fr "isinstance" (by decide +kernel), fr "list" (by decide +kernel), fr "tuple" (by decide +kernel)⟩
  have tV : TxtV K mg := ⟨fr "int" (by decide +kernel), fr "range" (by decide +kernel), fr "tuple" (by decide +kernel)⟩
  have tD : TxtD mg := ⟨fr "int" (by decide +kernel), fr "len" (by decide +kernel), fr "abs" (by decide +kernel)⟩
  have tL : TxtL mg := ⟨fr "isinstance" (by decide +kernel), fr "tuple" (by decide +kernel), fr "bool" (by decide +kernel), fr "len" (by decide +kernel), fr "all" (by decide +kernel), fr "zip" (by decide +kernel)⟩
  have tP : TxtP K mg (ga K "Paper") := ⟨fr "isinstance" (by decide +kernel), gl "Paper" (by decide +kernel)⟩
  obtain ⟨qB, iB⟩ := ba F.c16
  obtain ⟨qD, iD⟩ := ba F.c17
  have bW := FunD.bindsA (ps := ["script"]) FW fun _ _ _ _ _ _ us hl => match us, hl with | [_], _ => rfl
  refine ⟨fdW, fun s v => bW s [v] rfl, fun base => ?_⟩
  have GF : ∀ n, FnOk PR w K mg base CX0 n (ga K "fixed") fdF ["value"] (spTup n) := ok_fixed FF bF FF.kp mF tT
  have GDr : FnOk PR w K mg base CX0 1 (ga K "_law_draw") fdDr ["pen", "many"] spDraw := ok_draw FDr tD
  refine runC_of (k := 14) FW scL room15 (fun vs H Q E z => ?_) (fun cdv s H vs Q E hr hg z => ?_)
  · obtain ⟨a, ns, rfl, _⟩ := z
    rfl
  · obtain ⟨a, ns, rfl, hs, hl, rfl⟩ := z
    exact law_body (tl_of X G c) hr hg FPn (ok_pen FPn tV) bPn mPn FV (ok_value FV bV mV tV FDr GDr bDr mDr 4) bV mV FT (ok_tupled FT bT FT.kp mT tT 7) bT mT FF (GF 7) (kbn_fixed FF) mF (ok_pinit FI FF GF bF mF 7) (mkB_ok F.c12) (mkB_ok F.c13)
      (ok_peq FE FL (ok_like FL bL FL.kp mL tL 8) bL mL tP) bE (eqB_ok F.c14) (eqB_ok F.c15) (ok_pbool FB) bB (eqO_ok qB) iB (ok_dbool FDB) bDB (eqO_ok qD) iD hs hl
end
end My
open PySem PySem.W PySem.Calls PyProof.Rows
theorem PySem.Challenge.cw_opencuts_k00_errors_and_papers_holds : PySem.Challenge.rw_opencuts_k00_errors_and_papers.Holds := by
  w_on; o_law
  refine HandSHeadRun.head_any (r := My.RR) (q := My.qv) (H := My.hookK) (ob := My.obK) (M := 30000) (loose := My.names) (d := HandSHeadRun.topDef My.RR.prog 25) (kwd := []) My.obK_eq
    (by kernel_rfl) (fun s => by kernel_rfl) My.runK (by kernel_rfl) (by kernel_rfl) (by kernel_rfl) (by rfl) (by first | assumption | decide +kernel) (by decide +kernel) ⟨rfl, rfl, rfl, rfl, rfl, by decide +kernel⟩ ?hw ?hc
  case hw => w_witness2
  case hc =>
    refine My.end_walk (l := PySem.Challenge.rw_opencuts_k00_errors_and_papers) (n := 63) (x := "script") rfl (by decide) (by kernel_rfl) ?F
    intro w mg fa h Y G hmg0
    obtain ⟨K, KX, c⟩ := Y
    have e : (HandSHeadRun.topDef My.RR.prog 25).name = ("law" : PySem.Str) := by kernel_rfl
    rw [e] at hmg0
    have F := My.exB_ok (My.says1 c).1
    have eg : mg ("law" : PySem.Str) = some (.ref (He.ga K "law")) := He.glo_ok KX G (List.all_eq_true.mp F.c1 "law" (by decide +kernel))
    have ef := hmg0.symm.trans eg
    cases ef
    obtain ⟨fd, hb, hF⟩ := My.law_of (w := w) KX G c
    exact ⟨K, fd, My.spLaw K, KX, hb, fun H a ns hl hS => ⟨a, ns, rfl, hS, hl, rfl⟩, fun base _ _ => hF base⟩
