import PyProof.Rows.All
import Wide.All
import OpenK.AllK
import Wide.FinOn
import HandS.ForMost
import HandS.Defaults
import HandS.Evl
import PySem.Challenge.RW_heldby_k01_statements_and_functions_as_v
import HandS.HeadEnd
import HandS.Style
import KE.KNest
import KE.KSuper
import HandS.Nested
import HandS.ClsMeth
import PyProof.EqKinds
import PyProof.P3Eq
import HandS.DictEq
import HandS.DeepEq
import PyProof.MeetsIn
import PyProof.NeKinds
import HandS.IsInst
import PyProof.InstEq
import HandS.OwnEq
import HandS.Conv
import HandS.Property
import HandS.HeadHook1
import HandS.HeadHook2
import HandS.MakeKwOnly
import KE.KStateDown
import HandS.Head0
import HandS.Head1
import HandS.Head2
import HandS.HeadHook3
import HandS.HeadHook4
import HandS.Words
set_option Elab.async false
set_option linter.all false
set_option maxRecDepth 100000
set_option maxHeartbeats 0
namespace HB
open PySem PySem.Spec PyProof.Rows L2 Evl
def top (i : Nat) : Stmt := PySem.Challenge.pw_heldby_k01_statements_and_functions_as_v.main.body.getD i (.Pass ⟨0, 0, 0, 0⟩)
abbrev FnP (K : PySem.W.Frag) (x : Str) (st : Stmt) (f : Addr) (fd : FuncData) : Prop := FunD K x x (defArgs st) (defBody st) (defScope st) [] [] f fd
abbrev s_pen : Stmt := top 11
abbrev s_draw : Stmt := top 12
abbrev s_pick : Stmt := top 13
/-! ### the pen -/
abbrev kC : Key := Sum.inr "cells"
abbrev kB : Key := Sum.inr "begun"
abbrev kR : Key := Sum.inr "rest"
/-- the pen's dict -/
def penD (c : Addr) (b r : Int) : HO := .dK [(kC, .ref c), (kB, .int b), (kR, .int r)]
def penL (c : Addr) (b r : Int) : List (Key × V) := [(kC, .ref c), (kB, .int b), (kR, .int r)]
theorem scb : ¬ ((Str.ofString "cells") = Str.ofString "begun") := by decide +kernel
theorem scr : ¬ ((Str.ofString "cells") = Str.ofString "rest") := by decide +kernel
theorem sbr : ¬ ((Str.ofString "begun") = Str.ofString "rest") := by decide +kernel
theorem srb : ¬ ((Str.ofString "rest") = Str.ofString "begun") := by decide +kernel
theorem ncb : ¬ (kC = kB) := by decide +kernel
theorem ncr : ¬ (kC = kR) := by decide +kernel
theorem nbr : ¬ (kB = kR) := by decide +kernel
theorem nrb : ¬ (kR = kB) := by decide +kernel
theorem val_c (c : Addr) (b r : Int) : valV (penL c b r) kC = some (.ref c) := valV_pos rfl
theorem val_b (c : Addr) (b r : Int) : valV (penL c b r) kB = some (.int b) := (valV_neg ncb).trans (valV_pos rfl)
theorem val_r (c : Addr) (b r : Int) : valV (penL c b r) kR = some (.int r) := (valV_neg ncr).trans ((valV_neg nbr).trans (valV_pos rfl))
theorem put_b (c : Addr) (b r z : Int) : putK (penL c b r) kB (.int z) = penL c z r := by
  unfold putK penL
  simp [scb, srb]
theorem put_r (c : Addr) (b r z : Int) : putK (penL c b r) kR (.int z) = penL c b z := by
  unfold putK penL
  simp [scr, sbr]
/-- a pen at p: its cells at c (the ints ns), fewer than n cells begun -/
structure Pen (H : Hp) (p c : Addr) (ns : List Int) (n : Nat) : Prop where
  at_ : ∃ b r : Int, H p = some (penD c b r) ∧ 0 ≤ b ∧ b ≤ n ∧ 0 ≤ r
  cells : H c = some (.lst (ns.map V.int))
  few : ns.length ≤ 63
theorem Pen.ne {H : Hp} {p c : Addr} {ns : List Int} {n : Nat} (h : Pen H p c ns n) : p ≠ c := by
  obtain ⟨b, r, e, _⟩ := h.at_
  exact ne_of e h.cells (by intro z; cases z)
theorem Pen.upd {H : Hp} {p c : Addr} {ns : List Int} {n m : Nat} (h : Pen H p c ns n) {b r : Int} (h0 : 0 ≤ b) (h1 : b ≤ m) (h2 : 0 ≤ r) : Pen (upd H p (penD c b r)) p c ns m :=
  ⟨⟨b, r, upd_same, h0, h1, h2⟩, by rw [upd_ne h.ne.symm]; exact h.cells, h.few⟩
theorem Pen.mono {H H' : Hp} {p c : Addr} {ns : List Int} {n m : Nat} (h : Pen H p c ns n) (e : Ex H H') (l : n ≤ m) : Pen H' p c ns m := by
  obtain ⟨b, r, e1, h0, h1, h2⟩ := h.at_
  exact ⟨⟨b, r, e _ _ e1, h0, by omega, h2⟩, e _ _ h.cells, h.few⟩
/-- a heap that differs from H in the pen alone, and has more -/
def ExP (p : Addr) (H H' : Hp) : Prop := ∀ a o, a ≠ p → H a = some o → H' a = some o
theorem ExP.refl (p : Addr) (H : Hp) : ExP p H H := fun _ _ _ h => h
theorem ExP.trans {p : Addr} {H H1 H2 : Hp} (a : ExP p H H1) (b : ExP p H1 H2) : ExP p H H2 := fun x o n h => b x o n (a x o n h)
theorem ExP.of {p : Addr} {H H' : Hp} (e : Ex H H') : ExP p H H' := fun a o _ h => e a o h
theorem ExP.pen {p : Addr} {H : Hp} {o : HO} : ExP p H (upd H p o) := fun a u n h => by rw [upd_ne n]; exact h
def spDraw : Sp := fun vs H Q _ => ∃ (p c : Addr) (ns : List Int) (n : Nat) (m : Int), vs = [.ref p, .int m] ∧ Pen H p c ns n ∧ n < 2 ^ 40 ∧ 0 < m ∧ m < 1073741824 ∧
  ∀ (r b r' : Int), 0 ≤ r → r < m → 0 ≤ b → b ≤ ((n + 1 : Nat) : Int) → 0 ≤ r' → Q (.int r) (upd H p (penD c b r'))
/-- the names that are built-in here -/
structure Blt (mg : Str → Option Value) : Prop where
  len : mg "len" = none
  int : mg "int" = none
  abs : mg "abs" = none
  list : mg "list" = none
section
variable {P : Program} {w : World} {K : PySem.W.Frag} {mg : Str → Option Value} {base : Heap}
theorem sc_draw : FnScope ["_law_pen_here", "_law_many", "_law_digit", "_law_spot", "_law_size", "_law_cell", "_law_mixed"] ["_law_pen_here", "_law_many"] (defScope s_draw) := ⟨rfl, rfl, rfl, by decide +kernel, rfl, by decide +kernel, by decide +kernel⟩
theorem ok_draw {f : Addr} {fd : FuncData} (F : FnP K "_law_draw" s_draw f fd) (T : Blt mg) : FnOk P w K mg base CX0 1 f fd ["_law_pen_here", "_law_many"] spDraw := by
  refine F.ok sc_draw (fun vs H Q E h => ?_) (fun cdv A outer s H vs Q E hr h => ?_)
  · obtain ⟨p, c, ns, n, m, rfl, _⟩ := h
    rfl
  · obtain ⟨p, c, ns, n, m, rfl, hp, hn, hm0, hm1, k⟩ := h
    have hu := hu_of hr
    have nd := sc_draw.nd
    obtain ⟨b, r, e1, hb0, hb1, hr0⟩ := hp.at_
    have ec := hp.cells
    have few := hp.few
    refine ⟨_, PSs.nox (pss_cons (ps_if (pt_cmpR op_gt (pe_dget hu (pv 0) pe_str (fun _ _ => rfl)) pe_int (nomark _))
        (pss_cons (ps_set (i := 2) nd rfl (Or.inl rfl) (pe_op op_mod (pe_callTy call_int1 (by rfl) T.int (by decide +kernel) (pa_cons (pe_dget hu (pv 0) pe_str (fun _ _ => rfl)) pa_nil)) (pv 1)))
        (pss_cons (ps_dput hu (pv 0) pe_str (pe_op op_fdiv (pe_dget hu (pv 0) pe_str (fun _ _ => rfl)) (pv 1)) rfl)
        (pss_one (ps_ret (pv 2))))) pss_nil)
      (pss_cons (ps_par (i := 3) (j := 4) (by rfl) nd rfl rfl (by decide) rfl rfl (pa_cons (pe_dget hu (pv 0) pe_str (fun _ _ => rfl)) (pa_cons (pe_callB call_len_seq (by rfl) T.len PySem.boot_len (pa_cons (pe_dget hu (pv 0) pe_str (fun _ _ => rfl)) pa_nil)) pa_nil)) (by rfl))
      (pss_cons (ps_dput hu (pv 0) pe_str (pe_op op_add (pv 3) pe_int) rfl)
      (pss_cons (ps_set (i := 5) nd rfl (Or.inl rfl) (pe_op op_add (pe_op op_mul pe_int (pv 3)) pe_int))
      (pss_cut (ps_if (pt_cmpR op_gt (pv 4) pe_int (nomark _))
        (pss_one (ps_set (i := 5) nd rfl (Or.inl rfl) (pe_ix ix_list (pe_dget hu (pv 0) pe_str (fun _ _ => rfl)) (pe_op op_mod (pe_callTy call_int1 (by rfl) T.int (by decide +kernel) (pa_cons (pv 3) pa_nil)) (pv 4)) (fun _ _ => rfl)))) pss_nil)
      (pss_cut (ps_if (PW.pt (pw_and (pt_cmpR op_lt (pv 3) (pv 4) (nomark _)) (pw_and1 (pt_cmpR op_ge (pe_callB call_abs (by rfl) T.abs (by decide +kernel) (pa_cons (pv 5) pa_nil)) (pe_op op_pow pe_int pe_int) (nomark _)))))
        (pss_cons (ps_dput hu (pv 0) pe_str (pe_op op_fdiv (pe_op op_sub (pe_callB call_abs (by rfl) T.abs (by decide +kernel) (pa_cons (pv 5) pa_nil)) (pe_op op_pow pe_int pe_int)) (pv 1)) rfl)
        (pss_one (ps_ret (pe_op op_mod (pe_op op_sub (pe_callB call_abs (by rfl) T.abs (by decide +kernel) (pa_cons (pv 5) pa_nil)) (pe_op op_pow pe_int pe_int)) (pv 1))))) pss_nil)
      (pss_cons (ps_set (i := 6) nd rfl (Or.inl rfl) (pe_op op_mod (pe_callTy call_int1 (by rfl) T.int (by decide +kernel) (pa_cons (pe_op op_add (pe_op op_add (pe_op op_mul (pe_op op_mod (pe_callTy call_int1 (by rfl) T.int (by decide +kernel) (pa_cons (pv 5) pa_nil)) pe_int) pe_int) (pe_op op_mul (pe_op op_mul pe_int (pv 3)) (pv 3))) pe_int) pa_nil)) pe_int))
      (pss_cons (ps_set (i := 6) nd rfl (Or.inl rfl) (pe_op op_mod (pe_callTy call_int1 (by rfl) T.int (by decide +kernel) (pa_cons (pe_op op_add (pe_op op_add (pe_op op_add (pe_op op_mul (pv 6) (pv 6)) (pe_op op_mul pe_int (pv 6))) (pe_op op_mul pe_int (pv 3))) pe_int) pa_nil)) pe_int))
      (pss_cons (ps_set (i := 6) nd rfl (Or.inl rfl) (pe_op op_fdiv (pe_op op_mod (pe_callTy call_int1 (by rfl) T.int (by decide +kernel) (pa_cons (pe_op op_mul (pv 6) (pe_op op_add (pv 6) pe_int)) pa_nil)) pe_int) pe_int))
      (pss_one (ps_ret (pe_op op_mod (pe_callTy call_int1 (by rfl) T.int (by decide +kernel) (pa_cons (pv 6) pa_nil)) (pv 1))))))))))))), ?_⟩
    have gR : ∀ (H' : Hp) (b r : Int), H' p = some (penD c b r) → DGet H' p (.str "rest") (some (.int r)) := fun H' b r e => by
      have z := DGet.k (k := kR) (show H' p = some (.dK (penL c b r)) from e)
      rw [val_r] at z
      exact z
    have gB : ∀ (H' : Hp) (b r : Int), H' p = some (penD c b r) → DGet H' p (.str "begun") (some (.int b)) := fun H' b r e => by
      have z := DGet.k (k := kB) (show H' p = some (.dK (penL c b r)) from e)
      rw [val_b] at z
      exact z
    have gC : ∀ (H' : Hp) (b r : Int), H' p = some (penD c b r) → DGet H' p (.str "cells") (some (.ref c)) := fun H' b r e => by
      have z := DGet.k (k := kC) (show H' p = some (.dK (penL c b r)) from e)
      rw [val_c] at z
      exact z
    have pR : ∀ (H' : Hp) (b r z : Int), H' p = some (penD c b r) → DPut H' p (.str "rest") (.int z) (upd H' p (penD c b z)) := fun H' b r z e => by
      have q := DPut.k (k := kR) (v := V.int z) (show H' p = some (.dK (penL c b r)) from e) (by show 3 < sizeLine; decide)
      rw [put_r] at q
      exact q
    have pB : ∀ (H' : Hp) (b r z : Int), H' p = some (penD c b r) → DPut H' p (.str "begun") (.int z) (upd H' p (penD c z r)) := fun H' b r z e => by
      have q := DPut.k (k := kB) (v := V.int z) (show H' p = some (.dK (penL c b r)) from e) (by show 3 < sizeLine; decide)
      rw [put_b] at q
      exact q
    have hb2 : b < 2 ^ 40 := by omega
    refine ⟨_, rfl, p, _, rfl, gR _ _ _ e1, _, _, rfl, rfl, _, rfl, ?_⟩
    refine ite2 (fun hc => ?_) (fun hc => ?_)
    · refine ⟨_, rfl, p, _, rfl, gR _ _ _ e1, .inl ⟨_, rfl, _, rfl, _, _, rfl, rfl, hm0, ?_⟩⟩
      refine ⟨_, rfl, p, _, rfl, gR _ _ _ e1, _, rfl, _, _, rfl, rfl, ⟨hm0, hm1⟩, _, rfl, p, _, rfl, pR _ _ _ _ e1, _, rfl, ?_⟩
      exact k _ _ _ (Int.emod_nonneg _ (by omega)) (Int.emod_lt_of_pos _ hm0) hb0 (by omega) (Int.ediv_nonneg hr0 (by omega))
    · refine ⟨_, rfl, p, _, rfl, gB _ _ _ e1, _, rfl, p, _, rfl, gC _ _ _ e1, c, _, rfl, .inl (SqL.of ec), _, _, rfl, ?_⟩
      refine ⟨_, rfl, _, _, rfl, rfl, _, rfl, p, _, rfl, pB _ _ _ _ e1, ?_⟩
      have e2 : upd H p (penD c (b + 1) r) p = some (penD c (b + 1) r) := upd_same
      have ec2 : upd H p (penD c (b + 1) r) c = some (.lst (ns.map V.int)) := by
        rw [upd_ne hp.ne.symm]
        exact ec
      refine ⟨_, rfl, _, _, rfl, rfl, .inl ⟨by decide, by decide⟩, _, _, rfl, rfl, ?_⟩
      have hL : ((ns.map V.int).length : Int) = (ns.length : Int) := by rw [List.length_map]
      refine ⟨fun σ' H' => ∃ z : Int, σ' = [some (.ref p), some (.int m), none, some (.int b), some (.int ((ns.map V.int).length : Int)), some (.int z), none] ∧ H' = upd H p (penD c (b + 1) r), ?_, ?_⟩
      · refine ⟨_, rfl, _, _, rfl, rfl, _, rfl, ?_⟩
        refine ite2 (fun hs => ?_) (fun hs => ⟨_, rfl, rfl⟩)
        have hs' : (0 : Int) < ((ns.map V.int).length : Int) := of_decide_eq_true hs
        have h0 : 0 ≤ b % ((ns.map V.int).length : Int) := Int.emod_nonneg _ (by omega)
        have h1 : b % ((ns.map V.int).length : Int) < ((ns.map V.int).length : Int) := Int.emod_lt_of_pos _ hs'
        obtain ⟨j, hj⟩ := Int.eq_ofNat_of_zero_le h0
        have hj1 : j < ns.length := by
          rw [hj, hL] at h1
          omega
        refine ⟨_, rfl, p, _, rfl, gC _ _ _ e2, _, rfl, .inl ⟨_, rfl, _, rfl, _, _, rfl, rfl, hs', c, _, _, .int ns[j], rfl, rfl, SqL.of ec2, ?_, ?_⟩⟩
        · rw [hj]
          exact atI_nat (by rw [List.getElem?_map, List.getElem?_eq_getElem hj1]; rfl)
        · exact ⟨_, rfl, rfl⟩
      · rintro σ' H' ⟨z, rfl, rfl⟩
        have hp18 : (0 : Int) ≤ 18 ∧ (18 : Int) ≤ 1000000 ∧ (10 : Int).natAbs < 2 ^ 64 := ⟨by decide, by decide, by decide⟩
        refine ⟨fun σ' H' => σ' = [some (.ref p), some (.int m), none, some (.int b), some (.int ((ns.map V.int).length : Int)), some (.int z), none] ∧ H' = upd H p (penD c (b + 1) r), ?_, ?_⟩
        · refine ⟨_, rfl, _, rfl, _, _, rfl, rfl, _, rfl, ?_⟩
          refine ite2 (fun h1 => ?_) (fun h1 => ?_)
          · refine ⟨_, rfl, _, rfl, _, _, rfl, rfl, hp18, _, _, rfl, rfl, _, rfl, ?_⟩
            refine ite2 (fun h2 => ?_) (fun h2 => ⟨rfl, rfl⟩)
            have h3 : (10 : Int) ^ (18 : Int).toNat ≤ (if z < 0 then -z else z) := of_decide_eq_true h2
            refine ⟨_, rfl, _, rfl, _, _, rfl, rfl, hp18, _, _, rfl, rfl, _, rfl, _, _, rfl, rfl, ⟨hm0, hm1⟩, _, rfl, p, _, rfl, pR _ _ _ _ e2, ?_⟩
            refine ⟨_, rfl, _, rfl, _, _, rfl, rfl, hp18, _, _, rfl, rfl, _, rfl, _, _, rfl, rfl, hm0, ?_⟩
            show Q _ (upd (upd H p _) p _)
            rw [upd_upd]
            exact k _ _ _ (Int.emod_nonneg _ (by omega)) (Int.emod_lt_of_pos _ hm0) (by omega) (by omega) (Int.ediv_nonneg (by omega) (by omega))
          · refine iteF ⟨rfl, rfl⟩
        · rintro σ' H' ⟨rfl, rfl⟩
          have m1 : 0 ≤ z % 4294967231 ∧ z % 4294967231 < 4294967231 := ⟨Int.emod_nonneg _ (by decide), Int.emod_lt_of_pos _ (by decide)⟩
          refine ⟨_, rfl, .inl ⟨_, rfl, _, _, rfl, rfl, (show (0 : Int) < 4294967231 by decide), _, _, rfl, rfl, .inr ⟨by decide, by decide⟩, _, rfl, _, _, rfl, rfl, .inl ⟨by decide, by decide⟩, _, rfl, _, _, rfl, rfl, .inr ⟨by omega, by omega⟩, _, _, rfl, rfl, _, _, rfl, rfl, .inl ⟨_, rfl, _, _, rfl, rfl, (show (0 : Int) < 4294967279 by decide), ?_⟩⟩⟩
          generalize hx : (z % 4294967231 * 48271 + 30269 * b * b + 211) % 4294967279 = x
          have m2 : 0 ≤ x ∧ x < 4294967279 := by
            rw [← hx]
            exact ⟨Int.emod_nonneg _ (by decide), Int.emod_lt_of_pos _ (by decide)⟩
          refine ⟨_, rfl, _, rfl, _, _, rfl, rfl, .inl ⟨by omega, by omega⟩, _, rfl, _, _, rfl, rfl, .inl ⟨by decide, by decide⟩, _, _, rfl, rfl, _, rfl, _, _, rfl, rfl, .inl ⟨by decide, by decide⟩, _, _, rfl, rfl, _, _, rfl, rfl, .inl ⟨_, rfl, _, _, rfl, rfl, (show (0 : Int) < 4294967291 by decide), ?_⟩⟩
          generalize hy : (x * x + 69069 * x + 23 * b + 7) % 4294967291 = y
          have m3 : 0 ≤ y ∧ y < 4294967291 := by
            rw [← hy]
            exact ⟨Int.emod_nonneg _ (by decide), Int.emod_lt_of_pos _ (by decide)⟩
          refine ⟨_, rfl, _, rfl, _, _, rfl, rfl, _, _, rfl, rfl, .inl ⟨by omega, by omega⟩, .inl ⟨_, rfl, _, _, rfl, rfl, (show (0 : Int) < 4294967197 by decide), _, _, rfl, rfl, ⟨by decide, by decide⟩, ?_⟩⟩
          refine ⟨_, rfl, .inl ⟨_, rfl, _, rfl, _, _, rfl, rfl, hm0, ?_⟩⟩
          exact k _ _ _ (Int.emod_nonneg _ (by omega)) (Int.emod_lt_of_pos _ hm0) (by omega) (by omega) hr0

/-- a new pen: its cells the script's first 63 -/
def spPen (K : PySem.W.Frag) : Sp := fun vs H Q _ => ∃ (a : Addr) (ns : List Int), vs = [.ref a] ∧ SqL K H a (ns.map V.int) ∧ ns.length ≤ 63 ∧ ∀ (p c : Addr) (ms : List Int) (H' : Hp), Ex H H' → Pen H' p c ms 0 → Q (.ref p) H'
theorem sc_pen : FnScope ["_law_script"] ["_law_script"] (defScope s_pen) := ⟨rfl, rfl, rfl, by decide +kernel, rfl, by decide +kernel, by decide +kernel⟩
theorem ok_pen {f : Addr} {fd : FuncData} (F : FnP K "_law_pen" s_pen f fd) (T : Blt mg) : FnOk P w K mg base CX0 1 f fd ["_law_script"] (spPen K) := by
  refine F.ok sc_pen (fun vs H Q E h => ?_) (fun cdv A outer s H vs Q E hr h => ?_)
  · obtain ⟨a, ns, rfl, _⟩ := h
    rfl
  · obtain ⟨a, ns, rfl, hS, hn, k⟩ := h
    refine ⟨_, PSs.nox (pss_one (ps_ret (pe_disp (pps_cons pe_str (pe_callTy call_list_of (by rfl) T.list (by decide +kernel) (pa_cons (pe_slice sl_list (pv 0) po_none (po_some pe_int)) pa_nil)) (pps_cons pe_str pe_int (pps_cons pe_str pe_int pps_nil))) (by rfl) (by rfl) (fun z => by cases z) (by decide)))), ?_⟩
    intro p hp
    refine ⟨_, rfl, 63, rfl, a, _, rfl, ex_l (Ex.new hp) hS, fun q hq => ⟨q, _, rfl, .inl (SqL.of upd_same), fun l hl => ?_⟩⟩
    have npq : p ≠ q := ne_of_none upd_same hq
    have npl : p ≠ l := ne_of_none (show upd (upd H p _) q _ p = some _ by rw [upd_ne npq, upd_same]) hl
    refine ⟨by rw [upd_ne npl, upd_ne npq, upd_same], penL l 0 0, rfl, (by show 3 ≤ 15; decide), ?_⟩
    have em : mergeK [] (penL l 0 0) = penL l 0 0 := by
      unfold mergeK penL
      simp [putK, scb, scr, sbr]
    show Q (.ref p) (upd _ p (.dK (mergeK [] (penL l 0 0))))
    rw [em]
    have hqH : H q = none := fresh_back (Ex.new hp) hq
    have hlH : H l = none := fresh_back ((Ex.new hp).trans (Ex.new hq)) hl
    obtain ⟨ms, hms⟩ : ∃ ms : List Int, cutV (ns.map V.int) none (some 63) = ms.map V.int := by
      unfold cutV
      exact ⟨_, by rw [← List.map_drop, ← List.map_take]⟩
    have hz : ms.length ≤ 63 := by
      have z := cutV_length (ns.map V.int) none (some 63)
      rw [hms, List.length_map, List.length_map] at z
      omega
    refine k p l ms _ ?_ ⟨⟨0, 0, upd_same, by decide, by decide, by decide⟩, ?_, hz⟩
    · exact Ex.mut (((Ex.new hp).trans (Ex.new hq)).trans (Ex.new hl)) hp
    · rw [upd_ne npl.symm, upd_same, hms]

/-- one of a list's items, or of a text's signs -/
def spPick (K : PySem.W.Frag) : Sp := fun vs H Q _ => ∃ (p c : Addr) (ns : List Int) (n : Nat) (o : V), vs = [.ref p, o] ∧ Pen H p c ns n ∧ n < 2 ^ 40 ∧
  ((∃ (a : Addr) (xs : List V), o = .ref a ∧ H a = some (.lst xs) ∧ 0 < xs.length ∧ xs.length < 1073741824 ∧ ∀ (v : V) (b r : Int), v ∈ xs → 0 ≤ b → b ≤ ((n + 1 : Nat) : Int) → 0 ≤ r → Q v (upd H p (penD c b r))) ∨
   (∃ z : Str, o = .str z ∧ 0 < z.length ∧ z.length ≤ 100000 ∧ ∀ (x : Nat) (b r : Int), x ∈ z.cps.toList → 0 ≤ b → b ≤ ((n + 1 : Nat) : Int) → 0 ≤ r → Q (.str ⟨#[x]⟩) (upd H p (penD c b r))))
theorem sc_pick : FnScope ["_law_pen_here", "_law_options"] ["_law_pen_here", "_law_options"] (defScope s_pick) := ⟨rfl, rfl, rfl, by decide +kernel, rfl, by decide +kernel, by decide +kernel⟩
theorem ok_pick {f g : Addr} {fd gd : FuncData} (F : FnP K "_law_pick" s_pick f fd) (T : Blt mg) (G : FnOk P w K mg base CX0 1 g gd ["_law_pen_here", "_law_many"] spDraw) (mgD : mg "_law_draw" = some (.ref g)) (kp : PySem.W.keepIn K (.ref g) = true) (bD : Binds K gd ["_law_pen_here", "_law_many"] []) :
    FnOk P w K mg base CX0 2 f fd ["_law_pen_here", "_law_options"] (spPick K) := by
  refine F.ok sc_pick (fun vs H Q E h => ?_) (fun cdv A outer s H vs Q E hr h => ?_)
  · obtain ⟨p, c, ns, n, o, rfl, _⟩ := h
    rfl
  · obtain ⟨p, c, ns, n, o, rfl, hp, hn, h⟩ := h
    refine ⟨_, PSs.nox (pss_one (ps_ret (pe_ix ix_seq (pv 1) (pe_call G hr rfl mgD kp bD .nil pass0 (pa_cons (pv 0) (pa_cons (pe_callB call_len (by rfl) T.len PySem.boot_len (pa_cons (pv 1) pa_nil)) pa_nil))) (fun _ _ => rfl)))), ?_⟩
    rcases h with ⟨a, xs, rfl, ha, hl0, hl1, k⟩ | ⟨z, rfl, hl0, hl1, k⟩
    · have nap : a ≠ p := by
        obtain ⟨b, r, e, _⟩ := hp.at_
        exact ne_of ha e (by intro z; cases z)
      refine ⟨_, rfl, _, rfl, _, rfl, _, xs.length, rfl, .inl ⟨_, SqL.of ha, rfl⟩, p, c, ns, n, (xs.length : Int), rfl, hp, hn, by omega, by omega, fun r b r' h0 h1 h2 h3 h4 => ?_⟩
      obtain ⟨j, rfl⟩ := Int.eq_ofNat_of_zero_le h0
      have hj : j < xs.length := by omega
      refine .inl ⟨a, xs, _, xs[j], rfl, rfl, SqL.of (by rw [upd_ne nap]; exact ha), atI_nat (List.getElem?_eq_getElem hj), ?_⟩
      exact k _ _ _ (List.getElem_mem hj) h2 h3 h4
    · refine ⟨_, rfl, _, rfl, _, rfl, _, z.length, rfl, ⟨sz_of hl1, rfl⟩, p, c, ns, n, (z.length : Int), rfl, hp, hn, by omega, by omega, fun r b r' h0 h1 h2 h3 h4 => ?_⟩
      obtain ⟨j, rfl⟩ := Int.eq_ofNat_of_zero_le h0
      have hj : j < z.cps.toList.length := by
        have e : z.cps.toList.length = z.length := rfl
        omega
      refine .inr (.inr ⟨z, _, z.cps.toList[j], rfl, rfl, sz_of hl1, atI_nat (List.getElem?_eq_getElem hj), ?_⟩)
      exact k _ _ _ (List.getElem_mem hj) h2 h3 h4
end
end HB
namespace HB
open PySem PySem.Spec PyProof.Rows L2 Evl
/-! ### defs that may ask repr: where no repr is on its way -/
structure FnG (P : Program) (w : World) (K : PySem.W.Frag) (mg : Str → Option Value) (base : Heap) (CX : CXT) (k : Nat) (f : Addr) (fd : FuncData) (ps : List Str) (sp : Sp) : Prop where
  len : ∀ vs H Q E, sp vs H Q E → vs.length = ps.length
  run : ∀ (B : Around) (out : List Env) (s : Shared) (H : Hp) (as : Args) (us : List Value) (vs : List V) (Q : VK) (E : XK), B.guards = some [] → Room k B → Env0 P w K mg base B out s H → BindsTo s fd as (ps.zip us) → Vals vs us →
    sp vs H Q E → codeAny (model P w) B (.call (.ref f) as) (CR CX out P w H s Q E) s
theorem FnG.of {P : Program} {w : World} {K : PySem.W.Frag} {mg : Str → Option Value} {base : Heap} {CX : CXT} {k : Nat} {f : Addr} {fd : FuncData} {ps : List Str} {sp : Sp} (F : FnOk P w K mg base CX k f fd ps sp) : FnG P w K mg base CX k f fd ps sp :=
  ⟨F.len, fun B out s H as us vs Q E _ hr e0 hb r h => F.run B out s H as us vs Q E hr e0 hb r h⟩
section
variable {P : Program} {w : World} {K : PySem.W.Frag} {mg : Str → Option Value} {base : Heap} {x qual : Str} {params : Arguments} {body : List Stmt} {scope : Scope} {dvs : List V} {kws : List (Str × V)} {f : Addr} {fd : FuncData}
theorem fun_okG {CX : CXT} {N ps : List Str} {k : Nat} {sp : Sp} (F : FunD K x qual params body scope dvs kws f fd) (S : FnScope N ps scope) (len : ∀ vs H Q E, sp vs H Q E → vs.length = ps.length)
    (hbody : ∀ (cdv : Value) (B : Around) (out : List Env) (s : Shared) (H : Hp) (vs : List V) (Q : VK) (E : XK), B.guards = some [] → Room k (B.deeper (envOfC qual scope s.heap.objs.size f cdv)) → sp vs H Q E →
      ∃ t, PSs (cxOf CX P w K mg base N qual scope f cdv B out s H E) body t ∧ t { nx := fun _ H' => Q .non H', rt := Q } (start N vs) H) : FnG P w K mg base CX (k + 1) f fd ps sp := by
  obtain ⟨oc, od, dV, kV, doc, pm, an, cdv, ct, osl, rfl, lk, hcd, _, _⟩ := F.ex
  refine ⟨len, fun B out s H as us vs Q E hgd hr e0 hb r hsp => ?_⟩
  have inS : K.In s.heap := e0.mod.kin.keeps fun b o e => (e0.bs b o e).1
  have lim : s.heap.NoLimit := e0.mod.nolimit.keeps fun b o e => (e0.bs b o e).1
  have kinds : ∀ y ∈ ps.zip us, scope.names.lookup y.1 = some .local ∨
      (scope.names.lookup y.1 = some .cell ∧ ((cellsFrom (s.heap.objs.size + 1) scope.names []).lookup y.1).isSome = true) := by
    rintro ⟨n, v⟩ hy
    rcases S.par n (List.of_mem_zip hy).1 with q | q
    · exact Or.inl q
    · exact Or.inr ⟨q, PySem.W.cellsFrom_some _ _ _ (.inl q)⟩
  refine codeAny_call_function hr.depth (inS _ _ lk) rfl S.co S.gen rfl (PySem.W.codeRec_of inS hcd) (hb _ _ _ _ ?_)
  refine wpAny_newFunctionEnv_cells S.kind kinds fun env he s1 z => ?_
  subst he
  refine ⟨lim.keeps z.toInCall.keep, codeAny_func ?_⟩
  obtain ⟨t, ht, hq⟩ := hbody cdv B out s H vs Q E hgd (hr.deeper _) hsp
  have J : Inv (cxOf CX P w K mg base N qual scope f cdv B out s H E) [] (start N vs) H s1 := inv_start S hr.hd e0 (len _ _ _ _ hsp) r z
  refine wpAny_mono (ht.run [] s1 (start N vs) H _ J hq) (fun fl s' hs => ?_) fun e s' hs => hs
  cases fl with
  | ret u =>
    obtain ⟨v, σ', H', J', rv, q⟩ := hs
    exact ⟨v, H', J'.os, J'.bare, J'.base, J'.hok, rv, q⟩
  | next =>
    obtain ⟨σ', H', J', q⟩ := hs
    exact ⟨V.non, H', J'.os, J'.bare, J'.base, J'.hok, rfl, q⟩
  | brk =>
    obtain ⟨_, _, _, q⟩ := hs
    exact False.elim q
  | cont =>
    obtain ⟨_, _, _, q⟩ := hs
    exact False.elim q
end
/-! ### the law's own end over FnG -/
section
variable {P : Program} {w : World} {K : PySem.W.Frag} {mg mb : Str → Option Value} {k : Nat} {fa a : Addr} {fd : FuncData} {x : Str} {sp : Sp} {t : Shared} {vs : List Value} {ns : List Int}
/-- what is wanted of the law's call -/
def LawEnd (t : Shared) (r : Result) (s' : Shared) : Prop := r = .ok (.ret (.bool true)) ∧ OldK t.heap s'.heap ∧ s'.os = t.os ∧ AllBare s'.gens
theorem callG_core (inT : K.In t.heap) (hns : t.heap.Ns mainGlobals mg) (hb : t.heap.Ns builtinsNs mb) (hbb : ∀ x : Str, x ≠ "__name__" → mb x = bootBuiltins x) (hlim : t.heap.NoLimit) (hg : t.gens = #[])
    (ha : t.heap.get? a = some { cls := .type "list", data := .seq vs.toArray }) (hr : Room k callerA)
    (F : ∀ base : Heap, K.In base → base.Ns mainGlobals mg → FnG P w K mg base CX0 k fa fd [x] sp) (hbind : ∀ (s : Shared) (u : Value), BindsTo s fd ⟨[u], []⟩ [(x, u)])
    (H : Hp) (only : Only H) (hsp : sp [.ref a] H (fun v _ => v = .bl true) fun _ _ _ => False) (hok : HOk P w H t.heap) (hA : ∀ b, H b ≠ none → b = a) (hK : H a ≠ none → K.lookup a = none) :
    codeAny (model P w) callerA (.call (.ref fa) ⟨[.ref a], []⟩) (LawEnd t) t := by
  have none_of : ∀ {b : Addr} {o : Obj} {es : Array DictEntry} {ep : Nat}, t.heap.get? b = some o → o.data = .dict es ep → H b = none := by
    intro b o es ep e d
    cases q : H b with
    | none => rfl
    | some u =>
      obtain rfl := hA b (by rw [q]; simp)
      rw [ha] at e
      cases e
      exact nomatch (show Data.seq vs.toArray _ = Data.dict es ep from d)
  have nsB : ∀ {b : Addr} {m : Str → Option Value}, t.heap.Ns b m → (hidT t.heap H).Ns b m := by
    rintro b m ⟨o, es, ep, e, d, r⟩
    exact ⟨o, es, ep, hidT_get e (none_of e d), d, r⟩
  have inB : K.In (hidT t.heap H) := fun b o e => hidT_get (inT b o e) (by
    cases q : H b with
    | none => rfl
    | some u =>
      obtain rfl := hA b (by rw [q]; simp)
      rw [hK (by rw [q]; simp)] at e
      cases e)
  have md : Mod K mg (hidT t.heap H) := by
    refine ⟨inB, nsB hns, ⟨mb, nsB hb, hbb⟩, ?_⟩
    obtain ⟨mc, h1, h2⟩ := hlim
    exact ⟨mc, nsB h1, h2⟩
  have e0 : Env0 P w K mg (hidT t.heap H) callerA [] t H :=
    { frames := rfl, mod := md, bs := fun b o e => of_hidT e, bsz := Nat.le_of_eq (hidT_size _ _), funs := trivial, frf := fun b hb => absurd (show b ∈ ([] : List Addr) from hb) (by simp), hok := hok, bare := .of_eq hg }
  have go := (F _ inB (nsB hns)).run callerA [] t H ⟨[.ref a], []⟩ [.ref a] [.ref a] _ _ rfl hr e0 (hbind t (.ref a)) (.cons rfl .nil) hsp
  refine codeAny_mono go fun r s' h => ?_
  cases r with
  | error e => exact False.elim h
  | ok fl =>
    cases fl with
    | next => exact False.elim h
    | brk => exact False.elim h
    | cont => exact False.elim h
    | ret u =>
      obtain ⟨v, H', os, bare, un, hok', r', q⟩ := h
      obtain rfl : v = .bl true := q
      obtain rfl : u = Value.bool true := r'
      refine ⟨rfl, OldK.of_keep fun b o e => ?_, os, bare⟩
      cases q : H b with
      | none => exact un.keep b o e q (fun z => absurd (show b ∈ ([] : List Addr) from z) (by simp)) (by simp)
      | some u =>
        rcases only b with z | ⟨ob, ys, z⟩
        · rw [q] at z
          cases z
        · obtain ⟨e1, _⟩ := hok b _ z
          obtain ⟨e2, _⟩ := hok' b _ (un.frzs b ob _ z)
          rw [e] at e1
          cases e1
          exact e2
theorem callG (inT : K.In t.heap) (hns : t.heap.Ns mainGlobals mg) (hb : t.heap.Ns builtinsNs mb) (hbb : ∀ x : Str, x ≠ "__name__" → mb x = bootBuiltins x) (hlim : t.heap.NoLimit) (hg : t.gens = #[])
    (ha : t.heap.get? a = some { cls := .type "list", data := .seq vs.toArray }) (hi : IntsAre vs ns) (hl : ns.length ≤ sizeLine) (hr : Room k callerA)
    (F : ∀ base : Heap, K.In base → base.Ns mainGlobals mg → FnG P w K mg base CX0 k fa fd [x] sp) (hbind : ∀ (s : Shared) (u : Value), BindsTo s fd ⟨[u], []⟩ [(x, u)])
    (hsp : ∀ H : Hp, Only H → SqL K H a (ns.map V.int) → sp [.ref a] H (fun v _ => v = .bl true) fun _ _ _ => False) :
    codeAny (model P w) callerA (.call (.ref fa) ⟨[.ref a], []⟩) (LawEnd t) t := by
  have rv := vals_ints hi
  cases hk : K.lookup a with
  | some o =>
    have e := inT a o hk
    rw [ha] at e
    cases e
    have none0 : Only (fun _ : Addr => (none : Option HO)) := fun _ => .inl rfl
    have sq : SqL K (fun _ : Addr => (none : Option HO)) a (ns.map V.int) := .inr ⟨_, vs.toArray, _, hk, rfl, rfl, rfl, (by rw [List.size_toArray, hi.length]; exact hl), (by simpa using rv)⟩
    exact callG_core inT hns hb hbb hlim hg ha hr F hbind (fun _ => none) none0 (hsp _ none0 sq) (fun b u z => nomatch (show (none : Option HO) = some u from z)) (fun b z => absurd rfl z) fun z => absurd rfl z
  | none =>
    let Ha : Hp := fun b => if b = a then some (.frz { cls := .type "list", data := .seq vs.toArray } (.lst (ns.map V.int))) else none
    have only : Only Ha := fun b => by
      by_cases hb : b = a
      · exact .inr ⟨_, _, if_pos hb⟩
      · exact .inl (if_neg hb)
    refine callG_core inT hns hb hbb hlim hg ha hr F hbind Ha only (hsp _ only (.inl (.inr ⟨_, if_pos rfl⟩))) (fun b u z => ?_) (fun b z => ?_) fun _ => hk
    · by_cases hb : b = a
      · have z' := (if_pos hb).symm.trans z
        cases z'
        subst hb
        exact ⟨ha, (by rw [List.length_map]; exact hl), vs, _, rv, ha⟩
      · have z' := (if_neg hb).symm.trans z
        cases z'
    · by_cases hb : b = a
      · exact hb
      · exact absurd (if_neg hb) z
end
theorem walkG {l : PySem.W.OpenLaw} {n k : Nat} {q : Program} {loose : List Str} {XP : (Str → Option Value) → Heap → Prop} {YP : World → Heap → Prop} {d : DefRec} {x : Str} (hn : l.most = some n) (hn2 : n ≤ sizeLine) (hdf : d.params.defaults = []) (hr : Room k callerA)
    (F : ∀ (w : World) (mg : Str → Option Value) (fa : Addr) (h : Heap), YP w h → h.Ns mainGlobals mg → mg d.name = some (.ref fa) →
      ∃ (K : PySem.W.Frag) (fd : FuncData) (sp : Sp), K.In h ∧ (∀ (s : Shared) (u : Value), BindsTo s fd ⟨[u], []⟩ [(x, u)]) ∧
        (∀ (H : Hp) (a : Addr) (ns : List Int), ns.length ≤ n → Only H → SqL K H a (ns.map V.int) → sp [.ref a] H (fun v _ => v = .bl true) fun _ _ _ => False) ∧ ∀ base : Heap, K.In base → base.Ns mainGlobals mg → FnG l.prog w K mg base CX0 k fa fd [x] sp) :
    PySem.W.WalkO q loose XP YP l.row.toRowW d [] (fun f vs => PySem.call f vs) := by
  refine Att.attach_call hn hdf fun w s₀ s₁ mg mb fa o pm cd doc a vs ns G Y ho hd hcd hmg hobj hints hlen hg => ?_
  obtain ⟨K, fd, sp, inT, hb, hsp, hF⟩ := F w mg fa _ Y G.T.g hmg
  exact callG inT G.T.g G.T.b G.T.builtins G.T.nolimit hg hobj hints (Nat.le_trans hlen hn2) hr hF hb (fun H hO hS => hsp H a ns hlen hO hS)
end HB
namespace HB
open PySem PySem.Spec PyProof.Rows L2 Evl
/-! ### data of any kind, dicts too -/
def keyD : Key → PyData
  | .inl i => .int i
  | .inr x => .str x
mutual
inductive Dq (K : PySem.W.Frag) (H : Hp) : V → PyData → Prop
  | non : Dq K H .non .none
  | bl (b : Bool) : Dq K H (.bl b) (.bool b)
  | int (i : Int) : Dq K H (.int i) (.int i)
  | str (x : Str) : Dq K H (.str x) (.str x)
  | lst {a : Addr} {xs : List V} {ds : List PyData} : SqL K H a xs → Dqs K H xs ds → Dq K H (.ref a) (.list ds)
  | tup {a : Addr} {xs : List V} {ds : List PyData} : SqT K H a xs → Dqs K H xs ds → Dq K H (.ref a) (.tuple ds)
  | dic {a : Addr} {kvs : List (Key × V)} {ds : List PyData} : H a = some (.dK kvs) → Dqs K H (kvs.map (·.2)) ds → Dq K H (.ref a) (.dict ((kvs.map fun kv => keyD kv.1).zip ds))
inductive Dqs (K : PySem.W.Frag) (H : Hp) : List V → List PyData → Prop
  | nil : Dqs K H [] []
  | cons {v : V} {vs : List V} {d : PyData} {ds : List PyData} : Dq K H v d → Dqs K H vs ds → Dqs K H (v :: vs) (d :: ds)
end
section
variable {K : PySem.W.Frag} {H H' : Hp}
theorem Dqs.length : ∀ {vs : List V} {ds : List PyData}, Dqs K H vs ds → vs.length = ds.length
  | _, _, .nil => rfl
  | _, _, .cons _ h => congrArg (· + 1) (Dqs.length h)
mutual
theorem Dq.mono (e : Ex H H') : ∀ {v : V} {d : PyData}, Dq K H v d → Dq K H' v d
  | _, _, .non => .non
  | _, _, .bl b => .bl b
  | _, _, .int i => .int i
  | _, _, .str x => .str x
  | _, _, .lst h hs => .lst (ex_l e h) (Dqs.mono e hs)
  | _, _, .tup h hs => .tup (ex_t e h) (Dqs.mono e hs)
  | _, _, .dic h hs => .dic (e _ _ h) (Dqs.mono e hs)
theorem Dqs.mono (e : Ex H H') : ∀ {vs : List V} {ds : List PyData}, Dqs K H vs ds → Dqs K H' vs ds
  | _, _, .nil => .nil
  | _, _, .cons h hs => .cons (Dq.mono e h) (Dqs.mono e hs)
end
end
/-- the module table's own object stands in the written part: no tracked thing stands there -/
def Sys (K : PySem.W.Frag) : Prop := ∃ o es ep, K.lookup sysModules = some o ∧ o.data = .dict es ep
section
variable {X : Cx} {pins : List (Addr × Obj)} {σ : L2.St} {H : Hp} {s : Shared}
theorem sys_free (I : Inv X pins σ H s) (S : Sys X.K) : H sysModules = none := by
  obtain ⟨o, es, ep, e, _⟩ := S
  exact (I.bs _ _ (I.ok.mod.kin _ _ e)).2
theorem list_ne_sys (I : Inv X pins σ H s) (S : Sys X.K) {a : Addr} {xs : List V} (h : SqL X.K H a xs) : a ≠ sysModules := by
  obtain ⟨its, rv, ⟨o, n, ho, hc, _, hd⟩, _⟩ := I.list h
  obtain ⟨o', es, ep, e, d'⟩ := S
  rintro rfl
  have := I.kIn _ _ e
  rw [ho] at this
  cases this
  rw [hd] at d'
  cases d'

theorem keys_read {h : Heap} {prog : Program} {w : World} : ∀ {es : List DictEntry} {kvs : List (Key × Value)}, Pairs (mixKind prog w) es kvs → ReadsAll h (es.map (·.key)) (kvs.map fun kv => keyD kv.1) []
  | _, _, .nil => .nil
  | _, _, .cons (e := e) (kv := kv) hk _ r => by
    have h1 : Reads h e.key (keyD kv.1) [] := by
      obtain ⟨k, v⟩ := kv
      rcases keyIs_shape hk with ⟨i, t, rfl, z⟩ | ⟨x, t, rfl, z⟩
      · rw [z]
        exact .int i t
      · rw [z]
        exact .str x t
    exact .cons (as := []) (bs := []) h1 (keys_read r)
theorem vals_of_pairs {prog : Program} {w : World} : ∀ {es : List DictEntry} {kvs : List (Key × Value)}, Pairs (mixKind prog w) es kvs → es.map (·.val) = kvs.map (·.2)
  | _, _, .nil => rfl
  | _, _, .cons _ hv r => by
    rw [List.map_cons, List.map_cons, hv, vals_of_pairs r]
theorem kv_keys : ∀ {kvs : List (Key × V)} {us : List (Key × Value)}, KV kvs us → (us.map fun kv => keyD kv.1) = kvs.map fun kv => keyD kv.1
  | _, _, .nil => rfl
  | _, _, .cons h r => by
    rw [List.map_cons, List.map_cons, kv_keys r, h.1]
theorem kv_vals : ∀ {kvs : List (Key × V)} {us : List (Key × Value)}, KV kvs us → Vals (kvs.map (·.2)) (us.map (·.2))
  | _, _, .nil => .nil
  | _, _, .cons h r => .cons h.2 (kv_vals r)
theorem zip_fst {α β : Type} : ∀ (xs : List α) (ys : List β), xs.length = ys.length → (xs.zip ys).map (·.1) = xs
  | [], _, _ => by simp
  | x :: xs, [], h => by simp at h
  | x :: xs, y :: ys, h => by simp [zip_fst xs ys (by simpa using h)]
theorem zip_snd {α β : Type} : ∀ (xs : List α) (ys : List β), xs.length = ys.length → (xs.zip ys).map (·.2) = ys
  | [], [], _ => rfl
  | [], y :: ys, h => by simp at h
  | x :: xs, [], h => by simp at h
  | x :: xs, y :: ys, h => by simp [zip_snd xs ys (by simpa using h)]
mutual
theorem Dq.reads (I : Inv X pins σ H s) (S : Sys X.K) : ∀ {v : V} {d : PyData} (u : Value), Dq X.K H v d → RelV v u → ∃ as, Reads s.heap u d as ∧ sysModules ∉ as
  | _, _, u, .non, r => by
    cases r
    exact ⟨[], .none, by simp⟩
  | _, _, u, .bl b, r => by
    cases r
    exact ⟨[], .bool b, by simp⟩
  | _, _, u, .int i, r => by
    obtain ⟨t, rfl⟩ := r
    exact ⟨[], .int i t, by simp⟩
  | _, _, u, .str x, r => by
    obtain ⟨t, rfl⟩ := r
    exact ⟨[], .str x t, by simp⟩
  | _, _, u, .lst hs ha, r => by
    cases r
    have ne := list_ne_sys I S hs
    obtain ⟨its, rv, ⟨o, n, ho, hc, _, hd⟩, _⟩ := I.list hs
    obtain ⟨as, hr, hn⟩ := Dqs.reads I S its ha rv
    exact ⟨_, .list ho hc hd hr, by
      intro hm
      rcases List.mem_cons.mp hm with z | z
      · exact ne z.symm
      · exact hn z⟩
  | _, _, u, .tup hs ha, r => by
    cases r
    obtain ⟨its, rv, ⟨o, ho, hc, n, hd⟩, _⟩ := I.tuple hs
    obtain ⟨as, hr, hn⟩ := Dqs.reads I S its ha rv
    exact ⟨_, .tuple ho hc hd hr, hn⟩
  | _, _, u, .dic (kvs := kvs) (ds := ds) hx ha, r => by
    cases r
    obtain ⟨_, ne, us, rel, o, es, ep, ho, hc, hd, _, pr, _⟩ := dk_of I.hok hx
    have hl := ha.length
    rw [List.length_map] at hl
    obtain ⟨as, hr, hn⟩ := Dqs.reads I S (us.map (·.2)) ha (kv_vals rel)
    refine ⟨_ :: [] ++ as, Reads.dict (as := []) (bs := as) ho hc.1 hd ?_ ?_, ?_⟩
    · rw [zip_fst _ _ (by rw [List.length_map]; exact hl), ← kv_keys rel]
      exact keys_read pr
    · rw [zip_snd _ _ (by rw [List.length_map]; exact hl), vals_of_pairs pr]
      exact hr
    · intro hm
      rcases List.mem_cons.mp hm with z | z
      · rw [← z] at ne
        exact absurd ne (by decide)
      · exact hn z
theorem Dqs.reads (I : Inv X pins σ H s) (S : Sys X.K) : ∀ {vs : List V} {ds : List PyData} (us : List Value), Dqs X.K H vs ds → Vals vs us → ∃ as, ReadsAll s.heap us ds as ∧ sysModules ∉ as
  | _, _, us, .nil, r => by
    cases r
    exact ⟨[], .nil, by simp⟩
  | _, _, us, .cons h hs, r => by
    cases r with
    | cons r1 r2 =>
      obtain ⟨as, q1, n1⟩ := Dq.reads I S _ h r1
      obtain ⟨bs, q2, n2⟩ := Dqs.reads I S _ hs r2
      exact ⟨_, .cons q1 q2, by
        intro hm
        rcases List.mem_append.mp hm with z | z
        · exact n1 z
        · exact n2 z⟩
end
/-- repr(x): the text of the data -/
def rRepr (K : PySem.W.Frag) : List V → Hp → VK → Prop := fun xs H Q => ∃ (v : V) (d : PyData), xs = [v] ∧ Dq K H v d ∧ d.showable = true ∧ d.depth < 60 ∧ d.shown.length ≤ sizeLine ∧ Q (.str d.shown) H
theorem call_repr (S : Sys X.K) (hg : X.A.guards = some []) (hu : X.A.units + 64 < cLine) : CallR X (.builtin "repr") (rRepr X.K) := by
  intro pins s σ H xs us Q I r h
  obtain ⟨v, d, rfl, hd, hs, hdep, hz, q⟩ := h
  obtain ⟨u, rfl, ru⟩ := vals1 r
  obtain ⟨as, hr, hn⟩ := Dq.reads I S u hd ru
  cases hd with
  | non =>
    cases ru
    exact PySem.P.repr_of_none ⟨.str _, H, I.tok _, ⟨_, rfl⟩, q⟩
  | bl b =>
    cases ru
    exact PySem.P.repr_of_bool ⟨.str _, H, I.tok _, ⟨_, by cases b <;> rfl⟩, q⟩
  | int i =>
    obtain ⟨t, rfl⟩ := ru
    exact PySem.P.repr_of_int (of_decide_eq_true hs) ⟨.str _, H, I.tok _, ⟨_, rfl⟩, q⟩
  | str x =>
    obtain ⟨t, rfl⟩ := ru
    exact PySem.P.repr_of_str ⟨.str _, H, I.tok _, ⟨_, rfl⟩, q⟩ hz
  | lst h1 h2 =>
    cases ru
    exact PySem.repr_of_reads' hr hs (fun _ => hn) hg (by omega) (fun _ _ z => z) (fun h' t tk keep => ⟨.str _, H, I.kept keep, ⟨_, rfl⟩, q⟩) hz
  | tup h1 h2 =>
    cases ru
    exact PySem.repr_of_reads' hr hs (fun _ => hn) hg (by omega) (fun _ _ z => z) (fun h' t tk keep => ⟨.str _, H, I.kept keep, ⟨_, rfl⟩, q⟩) hz
  | dic h1 h2 =>
    cases ru
    exact PySem.repr_of_reads' hr hs (fun _ => hn) hg (by omega) (fun _ _ z => z) (fun h' t tk keep => ⟨.str _, H, I.kept keep, ⟨_, rfl⟩, q⟩) hz
end
end HB
namespace HB
open PySem PySem.Spec PyProof.Rows L2 Evl
/-! ### readings by what is told of the value -/
def ER (te : TE) (σ : L2.St) (H : Hp) (P : V → Hp → Prop) : Prop := ∀ H1, Ex H H1 → ∀ Q : VK, (∀ v H2, Ex H1 H2 → P v H2 → Q v H2) → te σ H1 Q
def EA (ta : TA) (σ : L2.St) (H : Hp) (P : List V → Hp → Prop) : Prop := ∀ H1, Ex H H1 → ∀ Q : List V → Hp → Prop, (∀ vs H2, Ex H1 H2 → P vs H2 → Q vs H2) → ta σ H1 Q
def Mono {α : Type} (P : α → Hp → Prop) : Prop := ∀ v H H', Ex H H' → P v H → P v H'
/-- a list that was just made, P of its items -/
def NewL (P : List V → Hp → Prop) : V → Hp → Prop := fun v H => ∃ p xs, v = .ref p ∧ H p = some (.lst xs) ∧ P xs H
def NewT (P : List V → Hp → Prop) : V → Hp → Prop := fun v H => ∃ p xs, v = .ref p ∧ H p = some (.tup xs) ∧ P xs H
section
variable {K : PySem.W.Frag} {σ : L2.St} {H H' : Hp} {te ta tb : TE} {tl tr : TA} {v x y : V} {P R : V → Hp → Prop} {PA_ RA_ : List V → Hp → Prop} {D : Ends} {tz tu tw : TS} {t : TT}
theorem ER.mono (h : ER te σ H P) (e : Ex H H') : ER te σ H' P := fun H1 e1 => h H1 (e.trans e1)
theorem ER.imp (h : ER te σ H P) (k : ∀ v H2, Ex H H2 → P v H2 → R v H2) : ER te σ H R := fun H1 e Q q => h H1 e Q fun v H2 e2 p => q v H2 e2 (k v H2 (e.trans e2) p)
theorem EA.imp (h : EA tl σ H PA_) (k : ∀ v H2, Ex H H2 → PA_ v H2 → RA_ v H2) : EA tl σ H RA_ := fun H1 e Q q => h H1 e Q fun v H2 e2 p => q v H2 e2 (k v H2 (e.trans e2) p)
theorem ER.ev (h : Ev te σ H v) : ER te σ H (fun x _ => x = v) := fun H1 e Q q => h H1 e Q fun H2 e2 => q v H2 e2 rfl
theorem Ev.er (h : ER te σ H (fun x _ => x = v)) : Ev te σ H v := fun H1 e Q q => h H1 e Q fun x H2 e2 z => z ▸ q H2 e2
theorem EA.ev {vs : List V} (h : EvA tl σ H vs) : EA tl σ H (fun x _ => x = vs) := fun H1 e Q q => h H1 e Q fun H2 e2 => q vs H2 e2 rfl
theorem ER.evP (h : Ev te σ H v) (p : P v H) (m : Mono P) : ER te σ H P := fun H1 e Q q => h H1 e Q fun H2 e2 => q v H2 e2 (m _ _ _ (e.trans e2) p)
theorem ea_nil' (p : PA_ [] H) (m : Mono PA_) : EA tNil σ H PA_ := fun H1 e _ q => q [] H1 (Ex.refl H1) (m _ _ _ e p)
theorem ea_cons' (h : ER te σ H P) (hr : EA tr σ H PA_) (m : Mono P) (k : ∀ v vs H2, Ex H H2 → P v H2 → PA_ vs H2 → RA_ (v :: vs) H2) : EA (tCons te tr) σ H RA_ := fun H1 e _ q =>
  h H1 e _ fun v H2 e2 p => hr H2 (e.trans e2) _ fun vs H3 e3 r => q (v :: vs) H3 (e2.trans e3) (k v vs H3 ((e.trans e2).trans e3) (m _ _ _ e3 p) r)
theorem er_lst (h : EA tl σ H PA_) (m : Mono PA_) (hz : ∀ xs H2, PA_ xs H2 → xs.length ≤ 100000) : ER (tLst tl) σ H (NewL PA_) := fun H1 e _ q =>
  h H1 e _ fun xs H2 e2 p => ⟨sz_of (hz xs H2 p), fun a ha => q (.ref a) _ (e2.trans (Ex.new ha)) ⟨a, xs, rfl, upd_same, m _ _ _ (Ex.new ha) p⟩⟩
theorem er_tup (h : EA tl σ H PA_) (m : Mono PA_) (hz : ∀ xs H2, PA_ xs H2 → xs.length ≤ 100000) : ER (tTup tl) σ H (NewT PA_) := fun H1 e _ q =>
  h H1 e _ fun xs H2 e2 p => ⟨sz_of (hz xs H2 p), fun a ha => q (.ref a) _ (e2.trans (Ex.new ha)) ⟨a, xs, rfl, upd_same, m _ _ _ (Ex.new ha) p⟩⟩
theorem newL_mono (m : Mono PA_) : Mono (NewL PA_) := fun _ _ _ e ⟨p, xs, z, h, q⟩ => ⟨p, xs, z, e _ _ h, m _ _ _ e q⟩
theorem newT_mono (m : Mono PA_) : Mono (NewT PA_) := fun _ _ _ e ⟨p, xs, z, h, q⟩ => ⟨p, xs, z, e _ _ h, m _ _ _ e q⟩
/-- xs + ys -/
theorem er_cat {PB RB : List V → Hp → Prop} (ha : ER ta σ H (NewL PA_)) (hb : ER tb σ H (NewL PB)) (m1 : Mono PA_) (m2 : Mono PB) (hz : ∀ xs ys H2, PA_ xs H2 → PB ys H2 → xs.length + ys.length ≤ 100000)
    (k : ∀ xs ys H2, Ex H H2 → PA_ xs H2 → PB ys H2 → RB (xs ++ ys) H2) : ER (tOp rCat ta tb) σ H (NewL RB) := fun H1 e _ q =>
  ha H1 e _ fun v H2 e2 p => hb H2 (e.trans e2) _ fun u H3 e3 r => by
    obtain ⟨a, xs, rfl, h1, p1⟩ := newL_mono m1 _ _ _ e3 p
    obtain ⟨b, ys, rfl, h2, p2⟩ := r
    refine ⟨a, b, xs, ys, rfl, rfl, h1, h2, sz_of (hz xs ys H3 p1 p2), fun c hc => ?_⟩
    have en := Ex.new (o := HO.lst (xs ++ ys)) hc
    exact q (.ref c) _ ((e2.trans e3).trans en) ⟨c, _, rfl, upd_same, k xs ys _ (((e.trans e2).trans e3).trans en) (m1 _ _ _ en p1) (m2 _ _ _ en p2)⟩
/-- a list that stands -/
theorem er_at {i : Nat} {p : Addr} {xs : List V} (hs : σ[i]? = some (some (.ref p))) (h : H p = some (.lst xs)) (q : PA_ xs H) (m : Mono PA_) : ER (tVar i) σ H (NewL PA_) := ER.evP (ev_var hs) ⟨p, xs, rfl, h, q⟩ (newL_mono m)
theorem s_asgR {i : Nat} (h : ER te σ H P) (k : ∀ v H1, Ex H H1 → P v H1 → D.nx (σ.set i (some v)) H1) : tAsg te (gName i) D σ H := h H (Ex.refl H) _ fun v H1 e p => k v H1 e p
theorem q_asgR {i : Nat} (h : ER te σ H P) (k : ∀ v H1, Ex H H1 → P v H1 → tz D (σ.set i (some v)) H1) : tSeq (tAsg te (gName i)) tz D σ H := s_asgR (D := { D with nx := tz D }) h k
theorem s_retR (h : ER te σ H P) (k : ∀ v H1, Ex H H1 → P v H1 → D.rt v H1) : tRet te D σ H := h H (Ex.refl H) _ fun v H1 e p => k v H1 e p
theorem er_cb {r : List V → Hp → VK → Prop} (h : EA tl σ H PA_) (k : ∀ vs H1, Ex H H1 → PA_ vs H1 → ∀ Q : VK, (∀ v H2, Ex H1 H2 → P v H2 → Q v H2) → r vs H1 Q) : ER (tCB r tl) σ H P := fun H1 e Q q =>
  h H1 e _ fun vs H2 e2 p => k vs H2 (e.trans e2) p Q fun v H3 e3 z => q v H3 (e2.trans e3) z
theorem er_call {sp : Sp} {dvs : List V} {E : XK} (h : EA tl σ H PA_) (k : ∀ vs H1, Ex H H1 → PA_ vs H1 → ∀ Q : VK, (∀ v H2, Ex H1 H2 → P v H2 → Q v H2) → sp (vs ++ dvs) H1 Q E) : ER (tCall sp dvs E tl) σ H P := fun H1 e Q q =>
  h H1 e _ fun vs H2 e2 p => k vs H2 (e.trans e2) p Q fun v H3 e3 z => q v H3 (e2.trans e3) z
theorem er_op {r : R2} (ha : ER ta σ H P) (hb : ER tb σ H R) (m : Mono P) {S : V → Hp → Prop} (k : ∀ x y H1, Ex H H1 → P x H1 → R y H1 → ∀ Q : VK, (∀ v H2, Ex H1 H2 → S v H2 → Q v H2) → r x y H1 Q) : ER (tOp r ta tb) σ H S := fun H1 e Q q =>
  ha H1 e _ fun x H2 e2 p => hb H2 (e.trans e2) _ fun y H3 e3 p2 => k x y H3 ((e.trans e2).trans e3) (m _ _ _ e3 p) p2 Q fun v H4 e4 z => q v H4 ((e2.trans e3).trans e4) z
theorem et_testR {b : Bool} (h : ER te σ H (fun v _ => v = .bl b)) : EvT (tTest te) σ H b := et_test (Ev.er h)
end
end HB
namespace HB
open PySem PySem.Spec PyProof.Rows L2 Evl
/-! ### values of any kind, apart from the pen at p -/
/-- the heap without what stands at p -/
def wo (p : Addr) (H : Hp) : Hp := fun a => if a = p then none else H a
theorem wo_ne {p a : Addr} {H : Hp} (h : a ≠ p) : wo p H a = H a := if_neg h
theorem wo_upd {p : Addr} {H : Hp} {o : HO} : wo p (upd H p o) = wo p H := by
  funext a
  unfold wo
  split
  · rfl
  · rw [upd_ne (by assumption)]
theorem wo_ex {p : Addr} {H : Hp} : Ex (wo p H) H := fun a o e => by
  unfold wo at e
  split at e
  · cases e
  · exact e
theorem wo_mono {p : Addr} {H H' : Hp} (x : Ex H H') : Ex (wo p H) (wo p H') := fun a o e => by
  unfold wo at e ⊢
  split at e
  · cases e
  · rename_i h
    rw [if_neg h]
    exact x a o e
/-- the heap without what stands at S -/
def hid (S : Addr → Bool) (H : Hp) : Hp := fun a => if S a = true then none else H a
theorem hid_ne {S : Addr → Bool} {a : Addr} {H : Hp} (h : S a = false) : hid S H a = H a := if_neg (by rw [h]; exact Bool.false_ne_true)
theorem hid_upd {S : Addr → Bool} {p : Addr} {H : Hp} {o : HO} (h : S p = true) : hid S (upd H p o) = hid S H := by
  funext a
  unfold hid
  split
  · rfl
  · rename_i n
    rw [upd_ne (fun z => n (by rw [z]; exact h))]
theorem hid_ex {S : Addr → Bool} {H : Hp} : Ex (hid S H) H := fun a o e => by
  unfold hid at e
  split at e
  · cases e
  · exact e
theorem hid_mono {S : Addr → Bool} {H H' : Hp} (x : Ex H H') : Ex (hid S H) (hid S H') := fun a o e => by
  unfold hid at e ⊢
  split at e
  · cases e
  · rename_i h
    rw [if_neg h]
    exact x a o e
/-- all of S stands in the heap -/
def SAll (S : Addr → Bool) (H : Hp) : Prop := ∀ a, S a = true → ∃ o, H a = some o
theorem SAll.mono {S : Addr → Bool} {H H' : Hp} (h : SAll S H) (e : Ex H H') : SAll S H' := fun a z => (h a z).elim fun o q => ⟨o, e _ _ q⟩
theorem SAll.fresh {S : Addr → Bool} {H : Hp} (h : SAll S H) {a : Addr} (ha : H a = none) : S a = false := by
  cases z : S a with
  | false => rfl
  | true =>
    obtain ⟨o, q⟩ := h a z
    rw [ha] at q
    cases q
theorem SAll.upd {S : Addr → Bool} {H : Hp} {p : Addr} {u : HO} (h : SAll S H) : SAll S (upd H p u) := fun a z => by
  by_cases e : a = p
  · exact ⟨u, by rw [e, upd_same]⟩
  · obtain ⟨o, q⟩ := h a z
    exact ⟨o, by rw [upd_ne e]; exact q⟩
/-- the heap has grown; of S only p may have changed -/
def Wx (S : Addr → Bool) (p : Addr) (H H' : Hp) : Prop := Ex (hid S H) (hid S H') ∧ ∀ a, S a = true → a ≠ p → H' a = H a
theorem Wx.refl (S : Addr → Bool) (p : Addr) (H : Hp) : Wx S p H H := ⟨Ex.refl _, fun _ _ _ => rfl⟩
theorem Wx.trans {S : Addr → Bool} {p : Addr} {H H1 H2 : Hp} (a : Wx S p H H1) (b : Wx S p H1 H2) : Wx S p H H2 := ⟨Ex.trans a.1 b.1, fun x h1 h2 => (b.2 x h1 h2).trans (a.2 x h1 h2)⟩
theorem Wx.of {S : Addr → Bool} {p : Addr} {H H' : Hp} (e : Ex H H') (h : SAll S H) : Wx S p H H' := ⟨hid_mono e, fun a z _ => by
  obtain ⟨o, q⟩ := h a z
  rw [q, e _ _ q]⟩
theorem Wx.upd {S : Addr → Bool} {p : Addr} {H : Hp} {o : HO} (h : S p = true) : Wx S p H (upd H p o) := ⟨by rw [hid_upd h]; exact Ex.refl _, fun a _ n => upd_ne n⟩
def IsD (K : PySem.W.Frag) (S : Addr → Bool) (d : PyData) : V → Hp → Prop := fun v H => Dq K (hid S H) v d
def AreD (K : PySem.W.Frag) (S : Addr → Bool) (ds : List PyData) : List V → Hp → Prop := fun vs H => Dqs K (hid S H) vs ds
theorem isD_mono {K : PySem.W.Frag} {S : Addr → Bool} {d : PyData} : Mono (IsD K S d) := fun _ _ _ e h => Dq.mono (hid_mono e) h
theorem areD_mono {K : PySem.W.Frag} {S : Addr → Bool} {ds : List PyData} : Mono (AreD K S ds) := fun _ _ _ e h => Dqs.mono (hid_mono e) h
theorem dqs_append {K : PySem.W.Frag} {H : Hp} : ∀ {xs ys : List V} {ds es : List PyData}, Dqs K H xs ds → Dqs K H ys es → Dqs K H (xs ++ ys) (ds ++ es)
  | _, _, _, _, .nil, h => h
  | _, _, _, _, .cons a r, h => .cons a (dqs_append r h)
theorem dqs_mem {K : PySem.W.Frag} {H : Hp} : ∀ {xs : List V} {ds : List PyData} {v : V}, Dqs K H xs ds → v ∈ xs → ∃ d, d ∈ ds ∧ Dq K H v d
  | _, _, v, .nil, h => by simp at h
  | _, _, v, .cons a r, h => by
    rcases List.mem_cons.mp h with rfl | h
    · exact ⟨_, List.mem_cons_self, a⟩
    · obtain ⟨d, h1, h2⟩ := dqs_mem r h
      exact ⟨d, List.mem_cons_of_mem _ h1, h2⟩
section
variable {K : PySem.W.Frag} {σ : L2.St} {H : Hp} {tl : TA} {te : TE} {S : Addr → Bool} {d : PyData} {ds : List PyData} {v : V}
theorem d_ev (h : Ev te σ H v) (hd : ∀ H', Dq K H' v d) : ER te σ H (IsD K S d) := ER.evP h (hd _) isD_mono
theorem d_nil : EA tNil σ H (AreD K S []) := ea_nil' .nil areD_mono
theorem d_cons (h : ER te σ H (IsD K S d)) (hr : EA tl σ H (AreD K S ds)) : EA (tCons te tl) σ H (AreD K S (d :: ds)) := ea_cons' h hr isD_mono fun _ _ _ _ a b => .cons a b
theorem d_lst (hp : SAll S H) (h : EA tl σ H (AreD K S ds)) (hz : ds.length ≤ 1000) : ER (tLst tl) σ H (IsD K S (.list ds)) := fun H1 e _ q =>
  h H1 e _ fun xs H2 e2 z => ⟨sz_of (by rw [Dqs.length z]; omega), fun a ha => by
    have nap : S a = false := (hp.mono (e.trans e2)).fresh ha
    exact q (.ref a) _ (e2.trans (Ex.new ha)) (.lst (sq_of (by rw [hid_ne nap, upd_same])) (areD_mono _ _ _ (Ex.new ha) z))⟩
theorem d_tup (hp : SAll S H) (h : EA tl σ H (AreD K S ds)) (hz : ds.length ≤ 1000) : ER (tTup tl) σ H (IsD K S (.tuple ds)) := fun H1 e _ q =>
  h H1 e _ fun xs H2 e2 z => ⟨sz_of (by rw [Dqs.length z]; omega), fun a ha => by
    have nap : S a = false := (hp.mono (e.trans e2)).fresh ha
    exact q (.ref a) _ (e2.trans (Ex.new ha)) (.tup (st_of (by rw [hid_ne nap, upd_same])) (areD_mono _ _ _ (Ex.new ha) z))⟩
theorem d_dnew (hp : SAll S H) : ER tDNewK σ H (IsD K S (.dict [])) := fun H1 e _ q => fun a ha => by
  have nap : S a = false := (hp.mono e).fresh ha
  exact q (.ref a) _ (Ex.new ha) (.dic (kvs := []) (by rw [hid_ne nap, upd_same]) .nil)
theorem d_one {z : Str} {i : Int} (hp : SAll S H) : ER (tDisp [(tC (.str z), tC (.int i))]) σ H (IsD K S (.dict [(.str z, .int i)])) := fun H1 e _ q => fun a ha => by
  have nap : S a = false := (hp.mono e).fresh ha
  refine ⟨upd_same, [(Sum.inr z, .int i)], rfl, by show 1 ≤ 15; decide, ?_⟩
  rw [upd_upd]
  exact q (.ref a) _ (Ex.new ha) (.dic (kvs := [(Sum.inr z, .int i)]) (by rw [hid_ne nap, upd_same]; rfl) (.cons (.int i) .nil))
theorem d_list (h : EA tl σ H (AreD K S ds)) (hz : ds.length ≤ 1000) : ER (tLst tl) σ H (NewL (AreD K S ds)) := er_lst h areD_mono fun xs H2 z => by
  rw [Dqs.length z]
  omega
theorem d_cat {ta tb : TE} {es : List PyData} (ha : ER ta σ H (NewL (AreD K S ds))) (hb : ER tb σ H (NewL (AreD K S es))) (hz : ds.length + es.length ≤ 1000) : ER (tOp rCat ta tb) σ H (NewL (AreD K S (ds ++ es))) :=
  er_cat ha hb areD_mono areD_mono (fun xs ys H2 a b => by rw [Dqs.length a, Dqs.length b]; omega) fun xs ys H2 _ a b => dqs_append a b
theorem d_at {j : Nat} {u : V} (hs : σ[j]? = some (some u)) (h : NewL (AreD K S ds) u H) : ER (tVar j) σ H (NewL (AreD K S ds)) := ER.evP (ev_var hs) h (newL_mono areD_mono)
end
def odd0_0 : List PyData := [.none, .bool true, .bool false, .int 0, .int 1, .int (-1), .int 2, .int 7, .int (10 ^ 30)]
def odd0_1 : List PyData := [.int (10 ^ 60), .str "", .str "a", .str "A", .str "ab cd", .str "abcdefghi", .str "a1", .tuple [], .list []]
def odd0 : List PyData := odd0_0 ++ odd0_1
def odd1_0 : List PyData := [.dict [], .tuple [.str "a"], .list [.str "a"], .tuple [.int 0], .tuple [.int 0, .int 1], .tuple [.int 0, .int 0, .int 0], .dict [(.str "a", .int 1)], .list [.none], .tuple [.none, .str "a"]]
def odd1_1 : List PyData := [.tuple [.str "a", .tuple []], .int (-5)]
def odd1 : List PyData := odd1_0 ++ odd1_1
def odd2_0 : List PyData := [.tuple [.str "alone", .str "a"], .tuple [.str "record", .str "a"], .tuple [.str "bundle", .tuple [.str "a", .str "b"]], .list [.list []], .tuple [.bool true]]
def odd2 : List PyData := odd2_0
def oddD : List PyData := odd0 ++ odd1 ++ odd2
section
variable {P : Program} {w : World} {K : PySem.W.Frag} {mg : Str → Option Value} {base : Heap}
abbrev s_law_odd : Stmt := top 14
def spOdd (K : PySem.W.Frag) : Sp := fun vs H Q _ => ∃ (p c : Addr) (ns : List Int) (n : Nat) (S : Addr → Bool), vs = [.ref p] ∧ S p = true ∧ SAll S H ∧ Pen H p c ns n ∧ n < 2 ^ 39 ∧ ∀ (v : V) (H' : Hp), Wx S p H H' → Pen H' p c ns (n + 1) → (∃ d, d ∈ oddD ∧ IsD K S d v H') → Q v H'
theorem sc_law_odd : FnScope ["_law_pen_here", "_law_some"] ["_law_pen_here"] (defScope s_law_odd) := ⟨rfl, rfl, rfl, by decide +kernel, rfl, by decide +kernel, by decide +kernel⟩
theorem ok_odd {f g : Addr} {fd gd : FuncData} (F : FnP K "_law_odd" s_law_odd f fd) (G : FnOk P w K mg base CX0 2 g gd ["_law_pen_here", "_law_options"] (spPick K)) (mgP : mg "_law_pick" = some (.ref g)) (kp : PySem.W.keepIn K (.ref g) = true)
    (bP : Binds K gd ["_law_pen_here", "_law_options"] []) : FnOk P w K mg base CX0 3 f fd ["_law_pen_here"] (spOdd K) := by
  refine F.ok sc_law_odd (fun vs H Q E h => ?_) (fun cdv A outer s H vs Q E hr h => ?_)
  · obtain ⟨p, c, ns, n, S, rfl, _⟩ := h
    rfl
  · obtain ⟨p, c, ns, n, S, rfl, hSp, hS, hp, hn, k⟩ := h
    refine ⟨_, PSs.nox (pss_cons (ps_set (i := 1) sc_law_odd.nd rfl (Or.inl rfl) (pe_lst (pa_cons pe_non (pa_cons pe_bl (pa_cons pe_bl (pa_cons pe_int (pa_cons pe_int (pa_cons (pe_un un_neg pe_int) (pa_cons pe_int (pa_cons pe_int (pa_cons (pe_op op_pow pe_int pe_int) (pa_cons (pe_op op_pow pe_int pe_int) (pa_cons pe_str (pa_cons pe_str (pa_cons pe_str (pa_cons pe_str (pa_cons pe_str (pa_cons pe_str (pa_cons (pe_tup pa_nil) (pa_cons (pe_lst pa_nil) pa_nil))))))))))))))))))))
      (pss_cons (ps_set (i := 1) sc_law_odd.nd rfl (Or.inl rfl) (pe_op op_cat (pv 1) (pe_lst (pa_cons pe_dnewK (pa_cons (pe_tup (pa_cons pe_str pa_nil)) (pa_cons (pe_lst (pa_cons pe_str pa_nil)) (pa_cons (pe_tup (pa_cons pe_int pa_nil)) (pa_cons (pe_tup (pa_cons pe_int (pa_cons pe_int pa_nil))) (pa_cons (pe_tup (pa_cons pe_int (pa_cons pe_int (pa_cons pe_int pa_nil)))) (pa_cons (pe_disp (pps_cons pe_str pe_int pps_nil) (by rfl) (by rfl) (fun z => by cases z) (by decide)) (pa_cons (pe_lst (pa_cons pe_non pa_nil)) (pa_cons (pe_tup (pa_cons pe_non (pa_cons pe_str pa_nil))) (pa_cons (pe_tup (pa_cons pe_str (pa_cons (pe_tup pa_nil) pa_nil))) (pa_cons (pe_un un_neg pe_int) pa_nil))))))))))))))
      (pss_one (ps_ret (pe_call G hr rfl mgP kp bP .nil pass0 (pa_cons (pv 0) (pa_cons (pe_op op_cat (pv 1) (pe_lst (pa_cons (pe_tup (pa_cons pe_str (pa_cons pe_str pa_nil))) (pa_cons (pe_tup (pa_cons pe_str (pa_cons pe_str pa_nil))) (pa_cons (pe_tup (pa_cons pe_str (pa_cons (pe_tup (pa_cons pe_str (pa_cons pe_str pa_nil))) pa_nil))) (pa_cons (pe_lst (pa_cons (pe_lst pa_nil) pa_nil)) (pa_cons (pe_tup (pa_cons pe_bl pa_nil)) pa_nil))))))) pa_nil))))))), ?_⟩
    refine q_asgR (P := NewL (AreD K S odd0)) (d_list (d_cons (d_ev ev_c fun _ => .non) (d_cons (d_ev ev_c fun _ => .bl _) (d_cons (d_ev ev_c fun _ => .bl _) (d_cons (d_ev ev_c fun _ => .int _) (d_cons (d_ev ev_c fun _ => .int _) (d_cons (d_ev (ev_un ev_c ru_neg) fun _ => .int _) (d_cons (d_ev ev_c fun _ => .int _) (d_cons (d_ev ev_c fun _ => .int _) (d_cons (d_ev (ev_op ev_c ev_c (rv_I ⟨by decide, by decide, by decide⟩)) fun _ => .int _) (d_cons (d_ev (ev_op ev_c ev_c (rv_I ⟨by decide, by decide, by decide⟩)) fun _ => .int _) (d_cons (d_ev ev_c fun _ => .str _) (d_cons (d_ev ev_c fun _ => .str _) (d_cons (d_ev ev_c fun _ => .str _) (d_cons (d_ev ev_c fun _ => .str _) (d_cons (d_ev ev_c fun _ => .str _) (d_cons (d_ev ev_c fun _ => .str _) (d_cons (d_tup hS d_nil (by decide)) (d_cons (d_lst hS d_nil (by decide)) d_nil)))))))))))))))))) (by decide)) fun u1 H1 e1 h1 => ?_
    refine q_asgR (P := NewL (AreD K S (odd0 ++ odd1))) (d_cat (d_at rfl h1) (d_list (d_cons (d_dnew (hS.mono e1)) (d_cons (d_tup (hS.mono e1) (d_cons (d_ev ev_c fun _ => .str _) d_nil) (by decide)) (d_cons (d_lst (hS.mono e1) (d_cons (d_ev ev_c fun _ => .str _) d_nil) (by decide)) (d_cons (d_tup (hS.mono e1) (d_cons (d_ev ev_c fun _ => .int _) d_nil) (by decide)) (d_cons (d_tup (hS.mono e1) (d_cons (d_ev ev_c fun _ => .int _) (d_cons (d_ev ev_c fun _ => .int _) d_nil)) (by decide)) (d_cons (d_tup (hS.mono e1) (d_cons (d_ev ev_c fun _ => .int _) (d_cons (d_ev ev_c fun _ => .int _) (d_cons (d_ev ev_c fun _ => .int _) d_nil))) (by decide)) (d_cons (d_one (hS.mono e1)) (d_cons (d_lst (hS.mono e1) (d_cons (d_ev ev_c fun _ => .non) d_nil) (by decide)) (d_cons (d_tup (hS.mono e1) (d_cons (d_ev ev_c fun _ => .non) (d_cons (d_ev ev_c fun _ => .str _) d_nil)) (by decide)) (d_cons (d_tup (hS.mono e1) (d_cons (d_ev ev_c fun _ => .str _) (d_cons (d_tup (hS.mono e1) d_nil (by decide)) d_nil)) (by decide)) (d_cons (d_ev (ev_un ev_c ru_neg) fun _ => .int _) d_nil))))))))))) (by decide)) (by decide)) fun u2 H2 e2 h2 => ?_
    have e12 := e1.trans e2
    refine ⟨_, rfl, ?_⟩
    have hcat : ER _ _ H2 (NewL (AreD K S oddD)) := d_cat (d_at (σ := [some (.ref p), some u2]) (j := 1) rfl h2) (d_list (d_cons (d_tup (hS.mono e12) (d_cons (d_ev ev_c fun _ => .str _) (d_cons (d_ev ev_c fun _ => .str _) d_nil)) (by decide)) (d_cons (d_tup (hS.mono e12) (d_cons (d_ev ev_c fun _ => .str _) (d_cons (d_ev ev_c fun _ => .str _) d_nil)) (by decide)) (d_cons (d_tup (hS.mono e12) (d_cons (d_ev ev_c fun _ => .str _) (d_cons (d_tup (hS.mono e12) (d_cons (d_ev ev_c fun _ => .str _) (d_cons (d_ev ev_c fun _ => .str _) d_nil)) (by decide)) d_nil)) (by decide)) (d_cons (d_lst (hS.mono e12) (d_cons (d_lst (hS.mono e12) d_nil (by decide)) d_nil) (by decide)) (d_cons (d_tup (hS.mono e12) (d_cons (d_ev ev_c fun _ => .bl _) d_nil) (by decide)) d_nil))))) (by decide)) (by decide)
    refine hcat H2 (Ex.refl H2) _ fun u3 H3 e3 h3 => ?_
    obtain ⟨a, xs, rfl, ha, hx⟩ := h3
    have e13 := e12.trans e3
    have hp3 := hp.mono e13 (Nat.le_refl n)
    have hlen : xs.length = oddD.length := Dqs.length hx
    refine ⟨p, c, ns, n, _, rfl, hp3, by omega, .inl ⟨a, xs, rfl, ha, ?_, ?_, fun v b r hv h0 h1 h2 => ?_⟩⟩
    · rw [hlen]
      decide
    · rw [hlen]
      decide
    · obtain ⟨d, hd, hq⟩ := dqs_mem hx hv
      refine k v _ ((Wx.of e13 hS).trans (.upd hSp)) (hp3.upd h0 h1 h2) ⟨d, hd, ?_⟩
      show Dq K (hid S (upd H3 p _)) v d
      rw [hid_upd hSp]
      exact hq
end
end HB
namespace HB
open PySem PySem.Spec PyProof.Rows L2 Evl
/-! ### readings where the pen is drawn from -/
def MonoW {α : Type} (S : Addr → Bool) (P : α → Hp → Prop) : Prop := ∀ v H H', Ex (hid S H) (hid S H') → P v H → P v H'
theorem isD_w {K : PySem.W.Frag} {S : Addr → Bool} {d : PyData} : MonoW S (IsD K S d) := fun _ _ _ e h => Dq.mono e h
theorem areD_w {K : PySem.W.Frag} {S : Addr → Bool} {ds : List PyData} : MonoW S (AreD K S ds) := fun _ _ _ e h => Dqs.mono e h
def NewW (S : Addr → Bool) (PA_ : List V → Hp → Prop) : V → Hp → Prop := fun v H => ∃ a xs, v = .ref a ∧ hid S H a = some (.lst xs) ∧ PA_ xs H
def NewTW (S : Addr → Bool) (PA_ : List V → Hp → Prop) : V → Hp → Prop := fun v H => ∃ a xs, v = .ref a ∧ hid S H a = some (.tup xs) ∧ PA_ xs H
theorem newW_w {S : Addr → Bool} {PA_ : List V → Hp → Prop} (m : MonoW S PA_) : MonoW S (NewW S PA_) := fun _ _ _ e ⟨a, xs, z, h, q⟩ => ⟨a, xs, z, e _ _ h, m _ _ _ e q⟩
theorem newTW_w {S : Addr → Bool} {PA_ : List V → Hp → Prop} (m : MonoW S PA_) : MonoW S (NewTW S PA_) := fun _ _ _ e ⟨a, xs, z, h, q⟩ => ⟨a, xs, z, e _ _ h, m _ _ _ e q⟩
theorem NewW.isD {K : PySem.W.Frag} {S : Addr → Bool} {ds : List PyData} {v : V} {H : Hp} (h : NewW S (AreD K S ds) v H) : IsD K S (.list ds) v H := by
  obtain ⟨a, xs, rfl, h1, h2⟩ := h
  exact .lst (sq_of h1) h2
theorem NewTW.isD {K : PySem.W.Frag} {S : Addr → Bool} {ds : List PyData} {v : V} {H : Hp} (h : NewTW S (AreD K S ds) v H) : IsD K S (.tuple ds) v H := by
  obtain ⟨a, xs, rfl, h1, h2⟩ := h
  exact .tup (st_of h1) h2
theorem SAll.of_wx {S : Addr → Bool} {p c : Addr} {ns : List Int} {n : Nat} {H H' : Hp} (h : SAll S H) (e : Wx S p H H') (hp : Pen H' p c ns n) : SAll S H' := fun a z => by
  by_cases q : a = p
  · obtain ⟨b, r, e1, _⟩ := hp.at_
    exact ⟨_, by rw [q]; exact e1⟩
  · obtain ⟨o, e1⟩ := h a z
    exact ⟨o, (e.2 a z q).trans e1⟩
/-- what an expression tells, drawing from the pen at p; S left aside -/
def EQ (S : Addr → Bool) (p c : Addr) (ns : List Int) (te : TE) (σ : L2.St) (H : Hp) (n n' : Nat) (P : V → Hp → Prop) : Prop :=
  ∀ H1, Wx S p H H1 → Pen H1 p c ns n → SAll S H1 → ∀ Q : VK, (∀ v H2, Wx S p H1 H2 → Pen H2 p c ns n' → P v H2 → Q v H2) → te σ H1 Q
def AQ (S : Addr → Bool) (p c : Addr) (ns : List Int) (tl : TA) (σ : L2.St) (H : Hp) (n n' : Nat) (P : List V → Hp → Prop) : Prop :=
  ∀ H1, Wx S p H H1 → Pen H1 p c ns n → SAll S H1 → ∀ Q : List V → Hp → Prop, (∀ v H2, Wx S p H1 H2 → Pen H2 p c ns n' → P v H2 → Q v H2) → tl σ H1 Q
section
variable {K : PySem.W.Frag} {S : Addr → Bool} {p c : Addr} {ns : List Int} {σ : L2.St} {H : Hp} {n n1 n2 n3 : Nat} {te : TE} {tl : TA} {v : V} {P R : V → Hp → Prop} {PA_ RA_ : List V → Hp → Prop} {D : Ends} {tz : TS} {i j l : Nat}
theorem eq_val (h : ∀ H1, Ev te σ H1 v) (q : ∀ H2, Wx S p H H2 → P v H2) : EQ S p c ns te σ H n n P := fun H1 e hp hS Q k => h H1 H1 (Ex.refl H1) Q fun H2 e2 => k v H2 (.of e2 hS) (hp.mono e2 (Nat.le_refl n)) (q H2 (e.trans (.of e2 hS)))
theorem eq_c (q : ∀ H2, Wx S p H H2 → P v H2) : EQ S p c ns (tC v) σ H n n P := eq_val (fun _ => ev_c) q
theorem eq_var (h : σ[i]? = some (some v)) (q : ∀ H2, Wx S p H H2 → P v H2) : EQ S p c ns (tVar i) σ H n n P := eq_val (fun _ => ev_var h) q
theorem eq_er (h : ∀ H1, Wx S p H H1 → SAll S H1 → ER te σ H1 P) : EQ S p c ns te σ H n n P := fun H1 e hp hS Q k => h H1 e hS H1 (Ex.refl H1) Q fun v H2 e2 z => k v H2 (.of e2 hS) (hp.mono e2 (Nat.le_refl n)) z
theorem eq_imp (h : EQ S p c ns te σ H n n1 P) (k : ∀ v H2, Wx S p H H2 → P v H2 → R v H2) : EQ S p c ns te σ H n n1 R := fun H1 e hp hS Q q => h H1 e hp hS Q fun v H2 e2 hp2 z => q v H2 e2 hp2 (k v H2 (e.trans e2) z)
theorem eq_at {H' : Hp} (h : EQ S p c ns te σ H n n1 P) (e : Wx S p H H') : EQ S p c ns te σ H' n n1 P := fun H1 e1 => h H1 (e.trans e1)
theorem aq_nil (q : ∀ H2, Wx S p H H2 → PA_ [] H2) : AQ S p c ns tNil σ H n n PA_ := fun H1 e hp hS Q k => k [] H1 (.refl S p H1) hp (q H1 e)
theorem aq_cons (h : EQ S p c ns te σ H n n1 P) (m : MonoW S P) (hr : AQ S p c ns tl σ H n1 n2 PA_) (k : ∀ v vs H2, Wx S p H H2 → P v H2 → PA_ vs H2 → RA_ (v :: vs) H2) : AQ S p c ns (tCons te tl) σ H n n2 RA_ := fun H1 e hp hS Q q =>
  h H1 e hp hS _ fun v H2 e2 hp2 z => hr H2 (e.trans e2) hp2 (hS.of_wx e2 hp2) _ fun vs H3 e3 hp3 y => q (v :: vs) H3 (e2.trans e3) hp3 (k v vs H3 ((e.trans e2).trans e3) (m _ _ _ e3.1 z) y)
theorem pen_ne {H1 : Hp} {a : Addr} (hp : Pen H1 p c ns n) (ha : H1 a = none) : a ≠ p := by
  rintro rfl
  obtain ⟨b, r, e, _⟩ := hp.at_
  rw [ha] at e
  cases e
theorem eq_lst (h : AQ S p c ns tl σ H n n1 PA_) (m : MonoW S PA_) (hz : ∀ xs H2, PA_ xs H2 → xs.length ≤ 100000) : EQ S p c ns (tLst tl) σ H n n1 (NewW S PA_) := fun H1 e hp hS Q q =>
  h H1 e hp hS _ fun xs H2 e2 hp2 z => ⟨sz_of (hz xs H2 z), fun a ha => q (.ref a) _ (e2.trans (.of (Ex.new ha) (hS.of_wx e2 hp2))) (hp2.mono (Ex.new ha) (Nat.le_refl _)) ⟨a, xs, rfl, by rw [hid_ne ((hS.of_wx e2 hp2).fresh ha), upd_same], m _ _ _ (hid_mono (Ex.new ha)) z⟩⟩
theorem eq_tup (h : AQ S p c ns tl σ H n n1 PA_) (m : MonoW S PA_) (hz : ∀ xs H2, PA_ xs H2 → xs.length ≤ 100000) : EQ S p c ns (tTup tl) σ H n n1 (NewTW S PA_) := fun H1 e hp hS Q q =>
  h H1 e hp hS _ fun xs H2 e2 hp2 z => ⟨sz_of (hz xs H2 z), fun a ha => q (.ref a) _ (e2.trans (.of (Ex.new ha) (hS.of_wx e2 hp2))) (hp2.mono (Ex.new ha) (Nat.le_refl _)) ⟨a, xs, rfl, by rw [hid_ne ((hS.of_wx e2 hp2).fresh ha), upd_same], m _ _ _ (hid_mono (Ex.new ha)) z⟩⟩
theorem aq_dcons {d : PyData} {ds : List PyData} (h : EQ S p c ns te σ H n n1 (IsD K S d)) (hr : AQ S p c ns tl σ H n1 n2 (AreD K S ds)) : AQ S p c ns (tCons te tl) σ H n n2 (AreD K S (d :: ds)) := aq_cons h isD_w hr fun _ _ _ _ a b => .cons a b
theorem aq_dnil : AQ S p c ns tNil σ H n n (AreD K S []) := aq_nil fun _ _ => .nil
theorem areD_len {ds : List PyData} {xs : List V} {H : Hp} (h : AreD K S ds xs H) : xs.length = ds.length := Dqs.length h
theorem eq_dlst {ds : List PyData} (h : AQ S p c ns tl σ H n n1 (AreD K S ds)) (hz : ds.length ≤ 1000) : EQ S p c ns (tLst tl) σ H n n1 (IsD K S (.list ds)) := eq_imp (eq_lst h areD_w fun xs H2 z => by rw [areD_len z]; omega) fun _ _ _ z => z.isD
theorem eq_dtup {ds : List PyData} (h : AQ S p c ns tl σ H n n1 (AreD K S ds)) (hz : ds.length ≤ 1000) : EQ S p c ns (tTup tl) σ H n n1 (IsD K S (.tuple ds)) := eq_imp (eq_tup h areD_w fun xs H2 z => by rw [areD_len z]; omega) fun _ _ _ z => z.isD
/-- all of them, m many -/
def AllP (P : V → Hp → Prop) (m : Nat) : List V → Hp → Prop := fun xs H => xs.length = m ∧ ∀ v ∈ xs, P v H
theorem allP_w {m : Nat} (h : MonoW S P) : MonoW S (AllP P m) := fun _ _ _ e z => ⟨z.1, fun v hv => h _ _ _ e (z.2 v hv)⟩
theorem aq_anil : AQ S p c ns tNil σ H n n (AllP P 0) := aq_nil fun _ _ => ⟨rfl, fun v hv => by simp at hv⟩
theorem aq_acons {m : Nat} (h : EQ S p c ns te σ H n n1 P) (w : MonoW S P) (hr : AQ S p c ns tl σ H n1 n2 (AllP P m)) : AQ S p c ns (tCons te tl) σ H n n2 (AllP P (m + 1)) := aq_cons h w hr fun v vs H2 _ a b => ⟨by rw [List.length_cons, b.1], fun x hx => by
  rcases List.mem_cons.mp hx with rfl | hx
  · exact a
  · exact b.2 x hx⟩
/-- a def that draws k times from the pen -/
def spW (R : (Addr → Bool) → V → Hp → Prop) (k B : Nat) : Sp := fun vs H Q _ => ∃ (p c : Addr) (ns : List Int) (n : Nat) (S : Addr → Bool), vs = [.ref p] ∧ S p = true ∧ SAll S H ∧ Pen H p c ns n ∧ n < B ∧ ∀ (v : V) (H' : Hp), Wx S p H H' → Pen H' p c ns (n + k) → R S v H' → Q v H'
theorem eq_w {R : (Addr → Bool) → V → Hp → Prop} {k B : Nat} (h : σ[i]? = some (some (.ref p))) (hSp : S p = true) (hn : n < B) : EQ S p c ns (tCall (spW R k B) [] E0 (tCons (tVar i) tNil)) σ H n (n + k) (R S) := fun H1 e hp hS Q q =>
  ⟨_, h, p, c, ns, n, S, rfl, hSp, hS, hp, hn, fun v H' e' hp' z => q v H' e' hp' z⟩
theorem eq_draw {m : Int} (h : σ[i]? = some (some (.ref p))) (hSp : S p = true) (hn : n < 2 ^ 39) (h0 : 0 < m) (h1 : m < 1073741824) : EQ S p c ns (tCall spDraw [] E0 (tCons (tVar i) (tCons (tC (.int m)) tNil))) σ H n (n + 1) (fun v _ => ∃ r : Int, v = .int r ∧ 0 ≤ r ∧ r < m) := fun H1 e hp hS Q q =>
  ⟨_, h, p, c, ns, n, m, rfl, hp, by omega, h0, h1, fun r b r' r0 r1 b0 b1 q0 => q _ _ (.upd hSp) (hp.upd b0 b1 q0) ⟨r, rfl, r0, r1⟩⟩
theorem eq_pick {m : Nat} (h : σ[i]? = some (some (.ref p))) (hSp : S p = true) (hn : n1 < 2 ^ 39) (ht : EQ S p c ns te σ H n n1 (NewW S (AllP P m))) (m0 : 0 < m) (m1 : m ≤ 1000) (w : MonoW S P) :
    EQ S p c ns (tCall (spPick K) [] E0 (tCons (tVar i) (tCons te tNil))) σ H n (n1 + 1) P := fun H1 e hp hS Q q => ⟨_, h, ht H1 e hp hS _ fun o H2 e2 hp2 z => by
  obtain ⟨a, xs, rfl, ha, z0, z2⟩ := z
  exact ⟨p, c, ns, n1, _, rfl, hp2, by omega, .inl ⟨a, xs, rfl, hid_ex _ _ ha, by omega, by omega, fun v b r hv b0 b1 r0 => q v _ (e2.trans (.upd hSp)) (hp2.upd b0 b1 r0) (w _ _ _ (Wx.upd hSp).1 (z2 v hv))⟩⟩⟩
theorem q_asgQ (h : EQ S p c ns te σ H n n1 P) (hp : Pen H p c ns n) (hS : SAll S H) (k : ∀ v H1, Wx S p H H1 → Pen H1 p c ns n1 → SAll S H1 → P v H1 → tz D (σ.set i (some v)) H1) : tSeq (tAsg te (gName i)) tz D σ H := h H (.refl S p H) hp hS _ fun v H1 e hp1 z => k v H1 e hp1 (hS.of_wx e hp1) z
theorem s_asgQ (h : EQ S p c ns te σ H n n1 P) (hp : Pen H p c ns n) (hS : SAll S H) (k : ∀ v H1, Wx S p H H1 → Pen H1 p c ns n1 → SAll S H1 → P v H1 → D.nx (σ.set i (some v)) H1) : tAsg te (gName i) D σ H := h H (.refl S p H) hp hS _ fun v H1 e hp1 z => k v H1 e hp1 (hS.of_wx e hp1) z
theorem s_retQ (h : EQ S p c ns te σ H n n1 P) (hp : Pen H p c ns n) (hS : SAll S H) (k : ∀ v H1, Wx S p H H1 → Pen H1 p c ns n1 → P v H1 → D.rt v H1) : tRet te D σ H := h H (.refl S p H) hp hS _ k
theorem q_parQ {P2 : V → Hp → Prop} (h : EQ S p c ns te σ H n n1 P) (m : MonoW S P) {te2 : TE} (h2 : EQ S p c ns te2 σ H n1 n2 P2) (hp : Pen H p c ns n) (hS : SAll S H) (k : ∀ v w H1, Wx S p H H1 → Pen H1 p c ns n2 → SAll S H1 → P v H1 → P2 w H1 → tz D ((σ.set i (some v)).set j (some w)) H1) :
    tSeq (tPar i j (tCons te (tCons te2 tNil))) tz D σ H := h H (.refl S p H) hp hS _ fun v H1 e1 hp1 z1 => h2 H1 e1 hp1 (hS.of_wx e1 hp1) _ fun w H2 e2 hp2 z2 => ⟨v, w, rfl, k v w H2 (e1.trans e2) hp2 (hS.of_wx (e1.trans e2) hp2) (m _ _ _ e2.1 z1) z2⟩
theorem q_par3Q {P2 P3 : V → Hp → Prop} (h : EQ S p c ns te σ H n n1 P) (m : MonoW S P) {te2 te3 : TE} (h2 : EQ S p c ns te2 σ H n1 n2 P2) (m2 : MonoW S P2) (h3 : EQ S p c ns te3 σ H n2 n3 P3) (hp : Pen H p c ns n) (hS : SAll S H)
    (k : ∀ v w x H1, Wx S p H H1 → Pen H1 p c ns n3 → SAll S H1 → P v H1 → P2 w H1 → P3 x H1 → tz D (((σ.set i (some v)).set j (some w)).set l (some x)) H1) :
    tSeq (tPar3 i j l (tCons te (tCons te2 (tCons te3 tNil)))) tz D σ H := h H (.refl S p H) hp hS _ fun v H1 e1 hp1 z1 => h2 H1 e1 hp1 (hS.of_wx e1 hp1) _ fun w H2 e2 hp2 z2 => h3 H2 (e1.trans e2) hp2 (hS.of_wx (e1.trans e2) hp2) _ fun x H3 e3 hp3 z3 =>
      ⟨v, w, x, rfl, k v w x H3 ((e1.trans e2).trans e3) hp3 (hS.of_wx ((e1.trans e2).trans e3) hp3) (m _ _ _ (e2.trans e3).1 z1) (m2 _ _ _ e3.1 z2) z3⟩
end
end HB
namespace HB
open PySem PySem.Spec PyProof.Rows L2 Evl NdefX ClX
/-! ### a def whose one row says super().__init__(..): its __class__ is captured -/
structure SupF (K : PySem.W.Frag) (f : Addr) (F : NF) (file : Str) (D g : Addr) : Prop where
  lk : ∃ (oc : Value) (od : Option Addr) (sl : Array (Option Value)) (doc pm ctv : Value), K.lookup f = some ⟨oc, od, .func (F.fd doc pm ctv), sl⟩
  cell : ∃ (cc : Addr) (cv : Value) (od : Option Addr) (sl : Array (Option Value)), F.cl = [(("__class__" : Str), cc)] ∧ K.lookup cc = some ⟨cv, od, .cell (some (.ref D)), sl⟩
  code : PySem.W.codeIn K (.ref F.c) F.qual = true
  file : ∃ (cv : Value) (od : Option Addr) (vs : Array Value) (sl : Array (Option Value)) (tf : Tok), K.lookup F.c = some ⟨cv, od, .fields vs, sl⟩ ∧ vs[2]? = some (.str file tf)
  cls : ∃ cd, PySem.W.clsIn K D = some cd
  mro : PySem.W.mroIn K D (.ref D) = some true
  sup : PySem.W.ks_superIn K D D "__init__" = some (some (.ref g))
  fn : PySem.W.typeIn K (.ref g) = some (.type "function")
  fi : PySem.W.fnIn K g = true
  opq : PySem.W.nsIn K cStatics "thirdparty.any" = some none
theorem boot_super : bootBuiltins "super" = some (.type "super") := by decide +kernel
section
variable {P : Program} {w : World} {K : PySem.W.Frag} {mg : Str → Option Value} {base : Heap} {N ps gps : List Str} {F : NF} {f D g : Addr} {gd fd : FuncData} {k : Nat} {sp sg : Sp} {file : Str} {e : Expr} {es : List Expr} {p0 p1 p2 p3 p4 : Pos} {ar : Arg}
theorem sup_ok (Y : SupF K f F file D g) (hfd : ∃ (oc : Value) (od : Option Addr) (sl : Array (Option Value)), K.lookup f = some ⟨oc, od, .func fd, sl⟩) (S : NScope N ps ["__class__"] F.scope) (hself : ps[0]? = some ("self" : Str))
    (hbody : F.body = [.Expr (.Call (.Attribute (.Call (.Name "super" p0) [] [] p1) "__init__" p2) (e :: es) [] p3) p4]) (hp : (F.params.posonlyargs ++ F.params.args).head? = some ar) (har : ar.arg = "self")
    (hks : F.scope.names.lookup ("super" : Str) = some .globalImplicit) (hfile : ((P.main.file : Str) == file) = true) (htop : (P.main.scope.names.lookup ("super" : Str)).isSome = false) (mgS : mg "super" = none)
    (G : FnOk P w K mg base CX0 k g gd gps sg) (gb : Binds K gd gps []) (hi : ∀ L, interactive (envF F f L) = false)
    (hs : ∀ L, swapsWith (.Call (.Attribute (.Call (.Name "super" p0) [] [] p1) "__init__" p2) (e :: es) [] p3) none p4.line (envF F f L) = pure false)
    (hev : ∀ L, ∃ pl, eval (.Call (.Attribute (.Call (.Name "super" p0) [] [] p1) "__init__" p2) (e :: es) [] p3) (envF F f L) = (do
      let ov ← attributeBase (.Call (.Name "super" p0) [] [] p1) "__init__" (envF F f L) (eval (.Call (.Name "super" p0) [] [] p1) (envF F f L))
      standAt p2.atName
      let (f', first) ← holding [ov] (getMethod ov "__init__" pl)
      callWith p3 f' first (backTo p3 (starEach (e :: es) (envF F f L))) []))
    (hst : ∀ L, starEach (e :: es) (envF F f L) = (false, eval e (envF F f L)) :: starEach es (envF F f L)) (hpl : ∀ L, (backTo p3 (starEach es (envF F f L))).any (·.1) = false)
    (len : ∀ vs H Q E, sp vs H Q E → vs.length = ps.length)
    (h : ∀ (B : Around) (out : List Env) (s : Shared) (H : Hp) (vs : List V) (Q : VK) (E : XK), Room k (B.deeper (envF F f s.heap.objs.size)) → sp vs H Q E →
      ∃ (a dx : Addr) (fs : List (Str × V)) (rest : List V) (t : TA), vs = .ref a :: rest ∧ H a = some (.ins D dx fs) ∧ PA (ncx CX0 P w K mg base N F f B out s H E).nox (e :: es) t ∧ t (startF N vs [some (.ref D)]) H fun ws H1 => sg (.ref a :: ws) H1 (fun v H2 => v = .non ∧ Q .non H2) E0) :
    FnOk P w K mg base CX0 (k + 1) f fd ps sp := by
  obtain ⟨oc, od, sl, doc, pm, ctv, lk⟩ := Y.lk
  obtain ⟨oc', od', sl', lk'⟩ := hfd
  rw [lk] at lk'
  cases lk'
  obtain ⟨cc, ccv, cod, csl, hcl, hcell⟩ := Y.cell
  obtain ⟨kcv, kod, kvs, ksl, tf, hcode, hvs⟩ := Y.file
  obtain ⟨cdD, hD⟩ := Y.cls
  refine ⟨len, fun B out s H as us vs Q E hr e0 hb r hsp => ?_⟩
  have KX : K.In s.heap := e0.mod.kin.keeps fun b o z => (e0.bs b o z).1
  have hl := len _ _ _ _ hsp
  have lim : s.heap.NoLimit := e0.mod.nolimit.keeps fun b o z => (e0.bs b o z).1
  have C : CellsAt F.cl ["__class__"] [some (.ref D)] s.heap H := by
    rw [hcl]
    have one : ∀ {y : Str} {c : Addr}, List.lookup y [(("__class__" : Str), cc)] = some c → y = "__class__" ∧ c = cc := fun {y c} z => by
      have z' : (match y == ("__class__" : Str) with | true => some cc | false => none) = some c := z
      cases q : (y == ("__class__" : Str)) with
      | true =>
        rw [q] at z'
        exact ⟨beq_iff_eq.mp q, (Option.some.inj z').symm⟩
      | false =>
        rw [q] at z'
        cases z'
    have isc : s.heap.IsCell cc (some (.ref D)) := ⟨_, KX _ _ hcell, rfl⟩
    refine ⟨rfl, fun y c z => ?_, fun x y c z1 z2 => (one z1).1.trans (one z2).1.symm, fun i y z => ?_⟩
    · obtain ⟨_, rfl⟩ := one z
      refine ⟨?_, _, isc⟩
      exact (e0.bs _ _ (e0.mod.kin _ _ hcell)).2
    · cases i with
      | zero =>
        obtain rfl : ("__class__" : Str) = y := Option.some.inj z
        refine ⟨cc, by simp [List.lookup], fun v hv => ?_⟩
        obtain rfl : V.ref D = v := by simpa using hv
        exact ⟨.ref D, rfl, isc⟩
      | succ i => simp at z
  obtain ⟨a, dx, fs, rest, t, rfl, ha, PAt, ht⟩ := h B out s H vs Q E (hr.deeper _) hsp
  refine codeAny_call_function hr.depth (KX _ _ lk) rfl S.co S.gen rfl (PySem.W.codeRec_of KX Y.code) (hb _ _ _ _ ?_)
  refine wpAny_newFunctionEnv S.nocell (fun ⟨n, _⟩ hy => S.par n (List.of_mem_zip hy).1) (fun h₁ hns hsb => ⟨lim.fresh _ hsb, ?_⟩) S.kind
  show codeAny _ _ (.func F.body (envF F f s.heap.objs.size)) _ _
  have kp : ∀ b o, s.heap.get? b = some o → h₁.get? b = some o := fun b o z => hsb.extBut b o (Nat.ne_of_lt (Heap.lt_size z)) (Heap.get?_push_of_some _ z)
  have I : Inv (ncx CX0 P w K mg base N F f B out s H E).nox [] (startF N (.ref a :: rest) [some (.ref D)]) H { s with heap := h₁, toks := s.toks + (ps.zip us).length } := (inv_startN S hr.hd e0 hl r C hns kp).wish _
  have K1 : K.In h₁ := KX.keeps kp
  have hself2 : (ps.zip us).reverse.lookup ar.arg = some (.ref a) := by
    obtain ⟨u, hu, ru⟩ := r.get (i := 0) (x := .ref a) rfl
    obtain rfl : u = Value.ref a := ru
    have ndP : ps.Nodup := by
      have q := S.nd.sublist (List.take_sublist (ps.length + [("__class__" : Str)].length) N)
      rw [S.pre] at q
      exact (List.nodup_append.mp q).1
    rw [har]
    exact zip_look ndP hself hu
  obtain ⟨mA, J, _⟩ := ins_get I.hok ha
  obtain ⟨odx, J, _⟩ := J.look
  refine ks_codeAny_funcAt ?_
  rw [hbody]
  obtain ⟨pl, hpe⟩ := hev s.heap.objs.size
  refine ks_wpAt_execs_cons (ks_wpAt_Expr_any (ks_wpAt_MethodCall (pl := pl) ?_ hpe) (hi _) (hs _))
  obtain ⟨oD, hD1, hD2⟩ : ∃ oD, h₁.get? D = some oD ∧ oD.data = .cls cdD := by
    have hD' := hD
    unfold PySem.W.clsIn at hD'
    split at hD'
    · rename_i c d cd' sl ho
      cases hD'
      exact ⟨_, K1 _ _ ho, rfl⟩
    · cases hD'
  obtain ⟨mb, mb1, mb2⟩ := I.mod.blt
  have kfree : F.scope.names.lookup ("__class__" : Str) = some .free := S.frk "__class__" (by simp)
  have hcl2 : F.cl.lookup ("__class__" : Str) = some cc := by
    rw [hcl]
    simp [List.lookup]
  refine ks_wpAt_super_base (env := envF F f s.heap.objs.size) hks kfree rfl rfl (K1 _ _ lk) rfl hp rfl (K1 _ _ hcode) rfl hvs hfile htop ?_
  refine PySem.W.ks_loadName_global S.kind hks (Calls.loadGlobal_builtin (I.mod.glob.keeps I.bk) mgS (mb1.keeps I.bk) ((mb2 _ (by decide +kernel)).trans boot_super) ⟨rfl, ?_⟩)
  refine wpAny_loadName_free S.kind kfree hcl2 ⟨_, K1 _ _ hcell, rfl⟩ ?_
  refine wpAny_loadName_local S.kind (by rw [har]; exact S.par "self" (List.mem_of_getElem? hself)) hns hself2 ?_
  obtain ⟨hh, gg, dd, tt, oo⟩ := s
  refine ks_wpAny_isType_cls hD1 hD2 ⟨rfl, ?_⟩
  refine ks_wpAny_call_super hD1 hD2 J.at_ J.cls (fun c z => ?_) (PySem.W.looks_mroIn K1 Y.mro) (fun h' hso k' => ?_)
  · have q := J.no
    unfold PySem.W.notCls at q
    rw [z] at q
    cases q
  have K2 : K.In h' := K1.keeps k'
  obtain ⟨ofn, hofn, hofc⟩ : ∃ of, h'.get? g = some of ∧ of.cls = .type "function" := by
    have ht' : (K.lookup g).map (·.cls) = some (.type "function") := Y.fn
    cases z : K.lookup g with
    | none =>
      rw [z] at ht'
      cases ht'
    | some of =>
      rw [z] at ht'
      exact ⟨of, K2 _ _ z, Option.some.inj ht'⟩
  have hsup := Y.sup
  unfold PySem.W.ks_superIn at hsup
  rw [hD] at hsup
  have neq : a ≠ D := PySem.W.ks_ne K1 J hD
  have J2 := I.kept (t' := tt + (ps.zip us).length) k'
  refine ks_wpAny_getMethod_super hso (PySem.W.looks_opaque K2 Y.opq) (l₀ := cdD.mro) ?_ rfl K2 hsup hofn hofc neq rfl ?_
  · exact fun A Q E s k q => wpAny_bind ((PySem.W.looks_clsIn K2 hD) A _ E s k (wpAny_pure q))
  have J3 := met_new (g := g) (C := a) J2
  have fr : FnR P w K mg base CX0 k g sg := fun A' o' s' H' us' vs' Q' E' r' e' v' z => G.run A' o' s' H' ⟨us', []⟩ us' vs' Q' E' r' e' (by
    have q := gb s' us' (e'.mod.kin.keeps fun b o z => (e'.bs b o z).1) (by
      have q1 := G.len _ _ _ _ z
      rw [v'.length] at q1
      simpa using q1)
    simpa using q) v' z
  refine wpAny_mono (E := fun _ _ => False) (callwith_cm J3 (base_none J2 (Nat.le_refl _)) Y.fi (thn (PAt.run p3 _ _ _ _ _ J3 ht) fun us' s3 hv => ?_) (hst _) (hpl _)) (Q := EP (ncx CX0 P w K mg base N F f B out ⟨hh, gg, dd, tt, oo⟩ H E).nox [] (startF N (.ref a :: rest) [some (.ref D)]) (fun v H2 => v = .non ∧ Q .non H2)) (fun u s4 hq => ?_) fun _ _ x => x.elim
  · obtain ⟨vs', H2, I3, rv, q2⟩ := hv
    exact ⟨⟨pin_at I3, I3.kIn⟩, run_cm fr (hr.deeper _) pass0 I3 rv q2⟩
  · obtain ⟨v, H', I4, rv, rfl, q4⟩ := hq
    refine wpAt_of_wpAny ?_
    rw [execs_nil]
    refine wpAny_pure ?_
    exact ⟨.non, H', I4.os, I4.bare, I4.base, I4.hok, rfl, q4⟩
end
end HB
namespace HB
open PySem PySem.Spec PyProof.Rows PySem.SeqAt
open AutoSeq1 (wpAny_loadPart')
/-! ### a dict against another kind -/
section
variable {prog : Program} {w : World} {A : Around} {E : Value → Shared → Prop} {s : Shared}
theorem dict_no {l : Addr} {b : Value} {Tb : String} {Q : Value → Shared → Prop} (hl : s.TypeIs (.ref l) "dict") (hb : s.TypeIs b Tb) (hs : isSubtype (.type Tb) (.type "dict") = pure false) (slot : Slot "dict" (cmpInfo .Eq).2.1 "dict.__eq__") (h : Q .notImplemented s) :
    wpAny (model prog w) A (call (.builtin "dict.__eq__") [.ref l, b]) Q E s := by
  refine wpAny_call_entry slot hl PySem.F.entry_dict_eq ?_ (PySem.F.args_dict_eq_2 _ _)
  show wpAny _ _ (Builtin.Dict.dictSlotArgs "__eq__" ⟨[.ref l, b], []⟩ >>= _) _ _ s
  refine wpAny_bind ?_
  unfold Builtin.Dict.dictSlotArgs
  refine wpAny_bind (wpAny_notOrdered_dict hl ?_)
  show wpAny _ _ (pure (Value.ref l, b)) _ _ s
  refine wpAny_pure ?_
  refine wpAny_bind (wpAny_isInstance (T := Tb) hb hs ?_)
  simp only [Bool.not_false, if_true]
  exact wpAny_bind (wpAny_rule (wpAny_pure ⟨_, rfl, h⟩))
end
theorem bool_no_dict (b : Bool) (l : Addr) (c : Value) (es : Array DictEntry) (n : Nat) (dd : Option Addr) (sl : Array (Option Value)) :
    Meets (Builtin.«int.__eq__» ⟨[(.bool b), .ref l], []⟩) (fun _ R s => s.heap.get? l = some { cls := c, dict := dd, data := .dict es n, slots := sl } ∧ R (.ok (.ret .notImplemented)) s) :=
  .of_wp fun prog w A R s h => by obtain ⟨hp, g, d, tk, os⟩ := s; obtain ⟨hl, h⟩ := h; wp_walk using wpAny_loadPart' hl, wpAny_load hl; exact ⟨_, rfl, h⟩
theorem int_no_dict (b : Int) (u : Tok) (l : Addr) (c : Value) (es : Array DictEntry) (n : Nat) (dd : Option Addr) (sl : Array (Option Value)) :
    Meets (Builtin.«int.__eq__» ⟨[(.int b u), .ref l], []⟩) (fun _ R s => s.heap.get? l = some { cls := c, dict := dd, data := .dict es n, slots := sl } ∧ R (.ok (.ret .notImplemented)) s) :=
  .of_wp fun prog w A R s h => by obtain ⟨hp, g, d, tk, os⟩ := s; obtain ⟨hl, h⟩ := h; wp_walk using wpAny_loadPart' hl, wpAny_load hl; exact ⟨_, rfl, h⟩
theorem str_no_dict (b : Str) (u : Tok) (l : Addr) (c : Value) (es : Array DictEntry) (n : Nat) (dd : Option Addr) (sl : Array (Option Value)) :
    Meets (Builtin.«str.__eq__» ⟨[(.str b u), .ref l], []⟩) (fun _ R s => s.heap.get? l = some { cls := c, dict := dd, data := .dict es n, slots := sl } ∧ R (.ok (.ret .notImplemented)) s) :=
  .of_wp fun prog w A R s h => by obtain ⟨hp, g, d, tk, os⟩ := s; obtain ⟨hl, h⟩ := h; wp_walk using wpAny_loadPart' hl, wpAny_load hl; exact ⟨_, rfl, h⟩
theorem list_no_dict (l b : Addr) (items : Array Value) (es : Array DictEntry) (n n2 : Nat) (dd dd2 : Option Addr) (sl sl2 : Array (Option Value)) :
    Meets (Builtin.«list.__eq__» ⟨[.ref l, .ref b], []⟩) (fun _ R s => s.heap.get? l = some { cls := .type "list", dict := dd, data := .seq items n, slots := sl } ∧ s.heap.get? b = some { cls := .type "dict", dict := dd2, data := .dict es n2, slots := sl2 } ∧ R (.ok (.ret .notImplemented)) s) :=
  .of_wp fun prog w A R s h => by obtain ⟨hp, g, d, tk, os⟩ := s; obtain ⟨hl, hb, h⟩ := h; have f1 := F.sub_dict_list; wp_walk using wpAny_loadPart' hl, wpAny_loadPart' hb; exact ⟨_, rfl, h⟩
theorem tuple_no_dict (l b : Addr) (items : Array Value) (es : Array DictEntry) (n n2 : Nat) (dd dd2 : Option Addr) (sl sl2 : Array (Option Value)) :
    Meets (Builtin.«tuple.__eq__» ⟨[.ref l, .ref b], []⟩) (fun _ R s => s.heap.get? l = some { cls := .type "tuple", dict := dd, data := .seq items n, slots := sl } ∧ s.heap.get? b = some { cls := .type "dict", dict := dd2, data := .dict es n2, slots := sl2 } ∧ R (.ok (.ret .notImplemented)) s) :=
  .of_wp fun prog w A R s h => by obtain ⟨hp, g, d, tk, os⟩ := s; obtain ⟨hl, hb, h⟩ := h; have f1 := F.sub_dict_tuple; wp_walk using wpAny_loadPart' hl, wpAny_loadPart' hb; exact ⟨_, rfl, h⟩
/-- a dict on the heap -/
def IsDic (h : Heap) (l : Addr) : Prop := ∃ dd es n sl, h.get? l = some { cls := .type "dict", dict := dd, data := .dict es n, slots := sl }
section
variable {A : Around} {s : Shared} {l : Addr}
theorem IsDic.ty (h : IsDic s.heap l) : s.TypeIs (.ref l) "dict" := by
  obtain ⟨dd, es, n, sl, ho⟩ := h
  exact ⟨_, ho, rfl⟩
theorem rc_dict_none (hl : IsDic s.heap l) (hu : A.units < cLine) : RcAt A s (.ref l) .none false := fun prog w E Q h => by
  have ht := hl.ty
  obtain ⟨dd, es, n, sl, ho⟩ := hl
  exact rc_eq_decline_or (k := false) ht rfl (by decide) F.sub_NoneType_dict F.slot_dict_eq F.slot_NoneType_eq_refl (fun _ hq => dict_no ht rfl F.sub_NoneType_dict F.slot_dict_eq hq)
    (fun _ hq => call_gives F.slot_NoneType_eq_refl rfl F.entry_NoneType_eq (F.args_NoneType_eq_2 _ _) (NoneType___eq___none_ref_0 l) hq) (fun _ hq => wpAny_of_eq (rfl : isSame (.ref l) .none = pure false) hq) (.inr hu) h
theorem rc_none_dict (hl : IsDic s.heap l) (hu : A.units < cLine) : RcAt A s .none (.ref l) false := fun prog w E Q h => by
  have ht := hl.ty
  obtain ⟨dd, es, n, sl, ho⟩ := hl
  exact rc_eq_decline_or (k := false) rfl ht (by decide) F.sub_dict_NoneType F.slot_NoneType_eq F.slot_dict_eq_refl (fun _ hq => call_gives F.slot_NoneType_eq rfl F.entry_NoneType_eq (F.args_NoneType_eq_2 _ _) (NoneType___eq___none_ref_0 l) hq)
    (fun _ hq => dict_no ht rfl F.sub_NoneType_dict F.slot_dict_eq_refl hq) (fun _ hq => wpAny_of_eq (rfl : isSame .none (.ref l) = pure false) hq) (.inr hu) h
theorem eq_dict_none (hl : IsDic s.heap l) (hu : A.units < cLine) : EqAt A s (.ref l) .none false := fun prog w E Q h => by
  unfold eqBool
  refine wpAny_holding ?_
  refine wpAny_ite_split (fun hab => absurd (eq_of_beq hab) nofun) (fun _ => ?_)
  exact wpAny_bind (rc_dict_none hl hu prog w E _ (wpAny_truthy_bool h))
theorem eq_none_dict (hl : IsDic s.heap l) (hu : A.units < cLine) : EqAt A s .none (.ref l) false := fun prog w E Q h => by
  unfold eqBool
  refine wpAny_holding ?_
  refine wpAny_ite_split (fun hab => absurd (eq_of_beq hab) nofun) (fun _ => ?_)
  exact wpAny_bind (rc_none_dict hl hu prog w E _ (wpAny_truthy_bool h))
theorem rc_dict_bool (b : Bool) (hl : IsDic s.heap l) (hu : A.units < cLine) : RcAt A s (.ref l) (.bool b) false := fun prog w E Q h => by
  have ht := hl.ty
  obtain ⟨dd, es, n, sl, ho⟩ := hl
  exact rc_eq_decline_or (k := false) ht rfl (by decide) F.sub_bool_dict F.slot_dict_eq F.slot_bool_eq_refl (fun _ hq => dict_no ht rfl F.sub_bool_dict F.slot_dict_eq hq)
    (fun _ hq => call_meets F.slot_bool_eq_refl rfl F.entry_int_eq (F.args_int_eq_2 _ _) (bool_no_dict b l _ es n dd sl) ⟨ho, hq⟩) (fun _ hq => wpAny_of_eq (rfl : isSame (.ref l) (.bool b) = pure false) hq) (.inr hu) h
theorem rc_bool_dict (b : Bool) (hl : IsDic s.heap l) (hu : A.units < cLine) : RcAt A s (.bool b) (.ref l) false := fun prog w E Q h => by
  have ht := hl.ty
  obtain ⟨dd, es, n, sl, ho⟩ := hl
  exact rc_eq_decline_or (k := false) rfl ht (by decide) F.sub_dict_bool F.slot_bool_eq F.slot_dict_eq_refl (fun _ hq => call_meets F.slot_bool_eq rfl F.entry_int_eq (F.args_int_eq_2 _ _) (bool_no_dict b l _ es n dd sl) ⟨ho, hq⟩)
    (fun _ hq => dict_no ht rfl F.sub_bool_dict F.slot_dict_eq_refl hq) (fun _ hq => wpAny_of_eq (rfl : isSame (.bool b) (.ref l) = pure false) hq) (.inr hu) h
theorem eq_dict_bool (b : Bool) (hl : IsDic s.heap l) (hu : A.units < cLine) : EqAt A s (.ref l) (.bool b) false := fun prog w E Q h => by
  unfold eqBool
  refine wpAny_holding ?_
  refine wpAny_ite_split (fun hab => absurd (eq_of_beq hab) nofun) (fun _ => ?_)
  exact wpAny_bind (rc_dict_bool b hl hu prog w E _ (wpAny_truthy_bool h))
theorem eq_bool_dict (b : Bool) (hl : IsDic s.heap l) (hu : A.units < cLine) : EqAt A s (.bool b) (.ref l) false := fun prog w E Q h => by
  unfold eqBool
  refine wpAny_holding ?_
  refine wpAny_ite_split (fun hab => absurd (eq_of_beq hab) nofun) (fun _ => ?_)
  exact wpAny_bind (rc_bool_dict b hl hu prog w E _ (wpAny_truthy_bool h))
theorem rc_dict_int (b : Int) (u : Tok) (hl : IsDic s.heap l) (hu : A.units < cLine) : RcAt A s (.ref l) (.int b u) false := fun prog w E Q h => by
  have ht := hl.ty
  obtain ⟨dd, es, n, sl, ho⟩ := hl
  exact rc_eq_decline_or (k := false) ht (typeIs_int s b u) (by decide) F.sub_int_dict F.slot_dict_eq F.slot_int_eq_refl (fun _ hq => dict_no ht (typeIs_int s b u) F.sub_int_dict F.slot_dict_eq hq)
    (fun _ hq => call_meets F.slot_int_eq_refl (typeIs_int s b u) F.entry_int_eq (F.args_int_eq_2 _ _) (int_no_dict b u l _ es n dd sl) ⟨ho, hq⟩) (fun _ hq => wpAny_of_eq (rfl : isSame (.ref l) (.int b u) = pure false) hq) (.inr hu) h
theorem rc_int_dict (b : Int) (u : Tok) (hl : IsDic s.heap l) (hu : A.units < cLine) : RcAt A s (.int b u) (.ref l) false := fun prog w E Q h => by
  have ht := hl.ty
  obtain ⟨dd, es, n, sl, ho⟩ := hl
  exact rc_eq_decline_or (k := false) (typeIs_int s b u) ht (by decide) F.sub_dict_int F.slot_int_eq F.slot_dict_eq_refl (fun _ hq => call_meets F.slot_int_eq (typeIs_int s b u) F.entry_int_eq (F.args_int_eq_2 _ _) (int_no_dict b u l _ es n dd sl) ⟨ho, hq⟩)
    (fun _ hq => dict_no ht (typeIs_int s b u) F.sub_int_dict F.slot_dict_eq_refl hq) (fun _ hq => wpAny_of_eq (rfl : isSame (.int b u) (.ref l) = pure false) hq) (.inr hu) h
theorem eq_dict_int (b : Int) (u : Tok) (hl : IsDic s.heap l) (hu : A.units < cLine) : EqAt A s (.ref l) (.int b u) false := fun prog w E Q h => by
  unfold eqBool
  refine wpAny_holding ?_
  refine wpAny_ite_split (fun hab => absurd (eq_of_beq hab) nofun) (fun _ => ?_)
  exact wpAny_bind (rc_dict_int b u hl hu prog w E _ (wpAny_truthy_bool h))
theorem eq_int_dict (b : Int) (u : Tok) (hl : IsDic s.heap l) (hu : A.units < cLine) : EqAt A s (.int b u) (.ref l) false := fun prog w E Q h => by
  unfold eqBool
  refine wpAny_holding ?_
  refine wpAny_ite_split (fun hab => absurd (eq_of_beq hab) nofun) (fun _ => ?_)
  exact wpAny_bind (rc_int_dict b u hl hu prog w E _ (wpAny_truthy_bool h))
theorem rc_dict_str (b : Str) (u : Tok) (hl : IsDic s.heap l) (hu : A.units < cLine) : RcAt A s (.ref l) (.str b u) false := fun prog w E Q h => by
  have ht := hl.ty
  obtain ⟨dd, es, n, sl, ho⟩ := hl
  exact rc_eq_decline_or (k := false) ht (typeIs_str s b u) (by decide) F.sub_str_dict F.slot_dict_eq F.slot_str_eq_refl (fun _ hq => dict_no ht (typeIs_str s b u) F.sub_str_dict F.slot_dict_eq hq)
    (fun _ hq => call_meets F.slot_str_eq_refl (typeIs_str s b u) F.entry_str_eq (F.args_str_eq_2 _ _) (str_no_dict b u l _ es n dd sl) ⟨ho, hq⟩) (fun _ hq => wpAny_of_eq (rfl : isSame (.ref l) (.str b u) = pure false) hq) (.inr hu) h
theorem rc_str_dict (b : Str) (u : Tok) (hl : IsDic s.heap l) (hu : A.units < cLine) : RcAt A s (.str b u) (.ref l) false := fun prog w E Q h => by
  have ht := hl.ty
  obtain ⟨dd, es, n, sl, ho⟩ := hl
  exact rc_eq_decline_or (k := false) (typeIs_str s b u) ht (by decide) F.sub_dict_str F.slot_str_eq F.slot_dict_eq_refl (fun _ hq => call_meets F.slot_str_eq (typeIs_str s b u) F.entry_str_eq (F.args_str_eq_2 _ _) (str_no_dict b u l _ es n dd sl) ⟨ho, hq⟩)
    (fun _ hq => dict_no ht (typeIs_str s b u) F.sub_str_dict F.slot_dict_eq_refl hq) (fun _ hq => wpAny_of_eq (rfl : isSame (.str b u) (.ref l) = pure false) hq) (.inr hu) h
theorem eq_dict_str (b : Str) (u : Tok) (hl : IsDic s.heap l) (hu : A.units < cLine) : EqAt A s (.ref l) (.str b u) false := fun prog w E Q h => by
  unfold eqBool
  refine wpAny_holding ?_
  refine wpAny_ite_split (fun hab => absurd (eq_of_beq hab) nofun) (fun _ => ?_)
  exact wpAny_bind (rc_dict_str b u hl hu prog w E _ (wpAny_truthy_bool h))
theorem eq_str_dict (b : Str) (u : Tok) (hl : IsDic s.heap l) (hu : A.units < cLine) : EqAt A s (.str b u) (.ref l) false := fun prog w E Q h => by
  unfold eqBool
  refine wpAny_holding ?_
  refine wpAny_ite_split (fun hab => absurd (eq_of_beq hab) nofun) (fun _ => ?_)
  exact wpAny_bind (rc_str_dict b u hl hu prog w E _ (wpAny_truthy_bool h))
theorem ne_dict_list {b : Addr} {items : Array Value} (hl : IsDic s.heap l) (hb : s.heap.IsList b items) : l ≠ b := fun e => by
  subst e
  obtain ⟨dd, es, n, sl, ho⟩ := hl
  obtain ⟨o2, ho2, hc2, _⟩ := hb
  rw [ho] at ho2
  cases ho2
  exact absurd hc2 (by simp)
theorem rc_dict_list {b : Addr} {items : Array Value} (hl : IsDic s.heap l) (hb : s.heap.IsList b items) (hu : A.units < cLine) : RcAt A s (.ref l) (.ref b) false := fun prog w E Q h => by
  have ht := hl.ty
  have hne := ne_dict_list hl hb
  obtain ⟨dd, es, n, sl, ho⟩ := hl
  obtain ⟨⟨cls2, dd2, data2, sl2⟩, ho2, hc2, n2, hd2⟩ := id hb
  simp only at hc2 hd2
  subst hc2 hd2
  exact rc_eq_decline_or (k := false) ht ⟨_, ho2, rfl⟩ (by decide) F.sub_list_dict F.slot_dict_eq F.slot_list_eq_refl (fun _ hq => dict_no ht ⟨_, ho2, rfl⟩ F.sub_list_dict F.slot_dict_eq hq)
    (fun _ hq => call_meets F.slot_list_eq_refl ⟨_, ho2, rfl⟩ F.entry_list_eq (F.args_list_eq_2 _ _) (list_no_dict b l items es n2 n dd2 dd sl2 sl) ⟨ho2, ho, hq⟩)
    (fun _ hq => wpAny_isSame_ref_other' hne ho ho2 (by simp) hq) (.inr hu) h
theorem rc_list_dict {b : Addr} {items : Array Value} (hl : IsDic s.heap l) (hb : s.heap.IsList b items) (hu : A.units < cLine) : RcAt A s (.ref b) (.ref l) false := fun prog w E Q h => by
  have ht := hl.ty
  have hne := (ne_dict_list hl hb).symm
  obtain ⟨dd, es, n, sl, ho⟩ := hl
  obtain ⟨⟨cls2, dd2, data2, sl2⟩, ho2, hc2, n2, hd2⟩ := id hb
  simp only at hc2 hd2
  subst hc2 hd2
  exact rc_eq_decline_or (k := false) ⟨_, ho2, rfl⟩ ht (by decide) F.sub_dict_list F.slot_list_eq F.slot_dict_eq_refl
    (fun _ hq => call_meets F.slot_list_eq ⟨_, ho2, rfl⟩ F.entry_list_eq (F.args_list_eq_2 _ _) (list_no_dict b l items es n2 n dd2 dd sl2 sl) ⟨ho2, ho, hq⟩) (fun _ hq => dict_no ht ⟨_, ho2, rfl⟩ F.sub_list_dict F.slot_dict_eq_refl hq)
    (fun _ hq => wpAny_isSame_ref_other' hne ho2 ho (by simp) hq) (.inr hu) h
theorem eq_dict_list {b : Addr} {items : Array Value} (hl : IsDic s.heap l) (hb : s.heap.IsList b items) (hu : A.units < cLine) : EqAt A s (.ref l) (.ref b) false := .of_refs (ne_dict_list hl hb) (rc_dict_list hl hb hu)
theorem eq_list_dict {b : Addr} {items : Array Value} (hl : IsDic s.heap l) (hb : s.heap.IsList b items) (hu : A.units < cLine) : EqAt A s (.ref b) (.ref l) false := .of_refs (ne_dict_list hl hb).symm (rc_list_dict hl hb hu)
theorem ne_dict_tuple {b : Addr} {items : Array Value} (hl : IsDic s.heap l) (hb : s.heap.IsTuple b items) : l ≠ b := fun e => by
  subst e
  obtain ⟨dd, es, n, sl, ho⟩ := hl
  obtain ⟨o2, ho2, hc2, _⟩ := hb
  rw [ho] at ho2
  cases ho2
  exact absurd hc2 (by simp)
theorem rc_dict_tuple {b : Addr} {items : Array Value} (hl : IsDic s.heap l) (hb : s.heap.IsTuple b items) (hu : A.units < cLine) : RcAt A s (.ref l) (.ref b) false := fun prog w E Q h => by
  have ht := hl.ty
  have hne := ne_dict_tuple hl hb
  obtain ⟨dd, es, n, sl, ho⟩ := hl
  obtain ⟨⟨cls2, dd2, data2, sl2⟩, ho2, hc2, n2, hd2⟩ := id hb
  simp only at hc2 hd2
  subst hc2 hd2
  exact rc_eq_decline_or (k := false) ht ⟨_, ho2, rfl⟩ (by decide) F.sub_tuple_dict F.slot_dict_eq F.slot_tuple_eq_refl (fun _ hq => dict_no ht ⟨_, ho2, rfl⟩ F.sub_tuple_dict F.slot_dict_eq hq)
    (fun _ hq => call_meets F.slot_tuple_eq_refl ⟨_, ho2, rfl⟩ F.entry_tuple_eq (F.args_tuple_eq_2 _ _) (tuple_no_dict b l items es n2 n dd2 dd sl2 sl) ⟨ho2, ho, hq⟩)
    (fun _ hq => wpAny_isSame_ref_other hne ho ho2 (by simp) hq) (.inr hu) h
theorem rc_tuple_dict {b : Addr} {items : Array Value} (hl : IsDic s.heap l) (hb : s.heap.IsTuple b items) (hu : A.units < cLine) : RcAt A s (.ref b) (.ref l) false := fun prog w E Q h => by
  have ht := hl.ty
  have hne := (ne_dict_tuple hl hb).symm
  obtain ⟨dd, es, n, sl, ho⟩ := hl
  obtain ⟨⟨cls2, dd2, data2, sl2⟩, ho2, hc2, n2, hd2⟩ := id hb
  simp only at hc2 hd2
  subst hc2 hd2
  exact rc_eq_decline_or (k := false) ⟨_, ho2, rfl⟩ ht (by decide) F.sub_dict_tuple F.slot_tuple_eq F.slot_dict_eq_refl
    (fun _ hq => call_meets F.slot_tuple_eq ⟨_, ho2, rfl⟩ F.entry_tuple_eq (F.args_tuple_eq_2 _ _) (tuple_no_dict b l items es n2 n dd2 dd sl2 sl) ⟨ho2, ho, hq⟩) (fun _ hq => dict_no ht ⟨_, ho2, rfl⟩ F.sub_tuple_dict F.slot_dict_eq_refl hq)
    (fun _ hq => wpAny_isSame_ref_other' hne ho2 ho (by simp) hq) (.inr hu) h
theorem eq_dict_tuple {b : Addr} {items : Array Value} (hl : IsDic s.heap l) (hb : s.heap.IsTuple b items) (hu : A.units < cLine) : EqAt A s (.ref l) (.ref b) false := .of_refs (ne_dict_tuple hl hb) (rc_dict_tuple hl hb hu)
theorem eq_tuple_dict {b : Addr} {items : Array Value} (hl : IsDic s.heap l) (hb : s.heap.IsTuple b items) (hu : A.units < cLine) : EqAt A s (.ref b) (.ref l) false := .of_refs (ne_dict_tuple hl hb).symm (rc_tuple_dict hl hb hu)
end
end HB
namespace HB
open PySem PySem.Spec PyProof.Rows L2 Evl PySem.SeqAt
/-! ### == over data with small dicts -/
mutual
def eqD : PyData → PyData → Bool
  | .list xs, .list ys => eqDs xs ys
  | .tuple xs, .tuple ys => eqDs xs ys
  | .dict [], .dict [] => true
  | .dict [(.str k, .int i)], .dict [(.str l, .int j)] => k == l && i == j
  | x, y => PyData.eqv x y
def eqDs : List PyData → List PyData → Bool
  | [], [] => true
  | x :: xs, y :: ys => eqD x y && eqDs xs ys
  | [], _ :: _ => false
  | _ :: _, [] => false
end
mutual
def okD : PyData → Bool
  | .list xs => okDs xs
  | .tuple xs => okDs xs
  | .dict [] => true
  | .dict [(.str _, .int _)] => true
  | .dict _ => false
  | _ => true
def okDs : List PyData → Bool
  | [] => true
  | x :: xs => okD x && okDs xs
end
theorem eqDs_len : ∀ {xs ys : List PyData}, eqDs xs ys = true → xs.length = ys.length
  | [], [], _ => rfl
  | _ :: xs, _ :: ys, h => by
    rw [eqDs, Bool.and_eq_true] at h
    rw [List.length_cons, List.length_cons, eqDs_len h.2]
  | [], _ :: _, h => by rw [eqDs] at h; cases h
  | _ :: _, [], h => by rw [eqDs] at h; cases h
theorem okD_dict {es : List (PyData × PyData)} (h : okD (.dict es) = true) : es = [] ∨ ∃ k i, es = [(.str k, .int i)] := by
  unfold okD at h
  split at h <;> first | (exact .inl rfl) | (exact .inr ⟨_, _, rfl⟩) | cases h | skip
  all_goals simp_all
mutual
theorem eqD_refl : ∀ d : PyData, okD d = true → eqD d d = true
  | .none, _ => rfl
  | .bool b, _ => by
    show (b == b) = true
    simp
  | .int i, _ => by
    show (i == i) = true
    simp
  | .str x, _ => by
    show (x == x) = true
    simp
  | .list xs, h => by
    rw [eqD]
    exact eqDs_refl xs (by rw [okD] at h; exact h)
  | .tuple xs, h => by
    rw [eqD]
    exact eqDs_refl xs (by rw [okD] at h; exact h)
  | .dict es, h => by
    rcases okD_dict h with rfl | ⟨k, i, rfl⟩
    · rfl
    · rw [eqD]
      simp
theorem eqDs_refl : ∀ ds : List PyData, okDs ds = true → eqDs ds ds = true
  | [], _ => rfl
  | d :: ds, h => by
    rw [okDs, Bool.and_eq_true] at h
    rw [eqDs, eqD_refl d h.1, eqDs_refl ds h.2]
    rfl
end
/-- item by item -/
def pairD : List PyData → List PyData → Nat → Bool
  | x :: _, y :: _, 0 => eqD x y
  | _ :: xs, _ :: ys, j + 1 => pairD xs ys j
  | _, _, _ => true
theorem range_all (e : Nat → Bool) : ∀ n, (List.range (n + 1)).all e = (e 0 && (List.range n).all fun j => e (j + 1)) := fun n => by
  rw [List.range_succ_eq_map, List.all_cons, List.all_map]
  rfl
theorem pair_all : ∀ {xs ys : List PyData}, xs.length = ys.length → (List.range xs.length).all (pairD xs ys) = eqDs xs ys
  | [], [], _ => rfl
  | x :: xs, y :: ys, h => by
    rw [List.length_cons, range_all, eqDs]
    have q := pair_all (xs := xs) (ys := ys) (by simpa using h)
    rw [← q]
    rfl
theorem pair_min : ∀ {xs ys : List PyData}, ((List.range (min xs.length ys.length)).all (pairD xs ys) && xs.length == ys.length) = eqDs xs ys
  | [], [] => rfl
  | [], _ :: _ => by simp [eqDs]
  | _ :: _, [] => by simp [eqDs]
  | x :: xs, y :: ys => by
    have q := pair_min (xs := xs) (ys := ys)
    have e : min (x :: xs).length (y :: ys).length = min xs.length ys.length + 1 := by
      rw [List.length_cons, List.length_cons]
      omega
    rw [e, range_all, eqDs, ← q]
    have e2 : ((x :: xs).length == (y :: ys).length) = (xs.length == ys.length) := by simp
    rw [e2, Bool.and_assoc]
    rfl
def backV : Value → Option V
  | .none => some .non
  | .bool b => some (.bl b)
  | .int i _ => some (.int i)
  | .str x _ => some (.str x)
  | .bytes b _ => some (.byt b)
  | .float b _ => some (.flt b)
  | .ref a => some (.ref a)
  | .type n => some (.ty n)
  | _ => none
theorem back_of {x : V} {u : Value} (h : RelV x u) : backV u = some x := by
  cases x with
  | non => cases h; rfl
  | bl b => cases h; rfl
  | int i => obtain ⟨t, rfl⟩ := h; rfl
  | str x => obtain ⟨t, rfl⟩ := h; rfl
  | byt b => obtain ⟨t, rfl⟩ := h; rfl
  | flt b => obtain ⟨t, rfl⟩ := h; rfl
  | ref a => cases h; rfl
  | ty n => cases h; rfl
theorem relV_inj {x y : V} {u : Value} (h1 : RelV x u) (h2 : RelV y u) : x = y := Option.some.inj ((back_of h1).symm.trans (back_of h2))
theorem vals_inj : ∀ {xs ys : List V} {us : List Value}, Vals xs us → Vals ys us → xs = ys
  | _, _, _, .nil, .nil => rfl
  | _, _, _, .cons a b, .cons c d => by rw [relV_inj a c, vals_inj b d]
section
variable {X : Cx} {pins : List (Addr × Obj)} {σ : L2.St} {H : Hp} {s : Shared}
theorem isDic_of (I : Inv X pins σ H s) {a : Addr} {kvs : List (Key × V)} (h : H a = some (.dK kvs)) : IsDic s.heap a := by
  obtain ⟨_, ya, va, ra, o, es, ep, ho, hc, hd, _⟩ := (show ObjOk X.prog X.w H s.heap a (.dK kvs) from I.hok a _ h)
  obtain ⟨oc, od, dt, sl⟩ := o
  have hc1 : oc = .type "dict" := hc.1
  have hd1 : dt = .dict es ep := hd
  subst hc1 hd1
  exact ⟨_, _, _, _, ho⟩
theorem isList_uniq {h : Heap} {a : Addr} {is js : Array Value} (h1 : h.IsList a is) (h2 : h.IsList a js) : is = js := by
  obtain ⟨o, e, _, n, d⟩ := h1
  obtain ⟨o', e', _, n', d'⟩ := h2
  rw [e] at e'
  cases e'
  rw [d] at d'
  cases d'
  rfl
theorem isTuple_uniq {h : Heap} {a : Addr} {is js : Array Value} (h1 : h.IsTuple a is) (h2 : h.IsTuple a js) : is = js := by
  obtain ⟨o, e, _, n, d⟩ := h1
  obtain ⟨o', e', _, n', d'⟩ := h2
  rw [e] at e'
  cases e'
  rw [d] at d'
  cases d'
  rfl
theorem list_at (I : Inv X pins σ H s) {a : Addr} {xs : List V} (h : SqL X.K H a xs) : ∃ its : List Value, Vals xs its ∧ s.heap.IsList a its.toArray := by
  obtain ⟨its, rv, ⟨o, n, ho, hc, _, hd⟩, _⟩ := I.list h
  exact ⟨its, rv, ⟨o, ho, hc, _, hd⟩⟩
theorem tuple_at (I : Inv X pins σ H s) {a : Addr} {xs : List V} (h : SqT X.K H a xs) : ∃ its : List Value, Vals xs its ∧ s.heap.IsTuple a its.toArray := by
  obtain ⟨its, r, e, z⟩ := I.tuple h
  exact ⟨its, r, e⟩
mutual
theorem Dq.uniq (I : Inv X pins σ H s) : ∀ {v : V} {d e : PyData}, Dq X.K H v d → Dq X.K H v e → d = e
  | _, _, _, .non, .non => rfl
  | _, _, _, .bl b, .bl _ => rfl
  | _, _, _, .int i, .int _ => rfl
  | _, _, _, .str x, .str _ => rfl
  | _, _, _, .lst h hs, .lst h' hs' => by
    obtain ⟨is, r, e⟩ := list_at I h
    obtain ⟨js, r', e'⟩ := list_at I h'
    have q : is = js := by simpa using isList_uniq e e'
    subst q
    have q2 := vals_inj r r'
    subst q2
    rw [Dqs.uniq I hs hs']
  | _, _, _, .tup h hs, .tup h' hs' => by
    obtain ⟨is, r, e⟩ := tuple_at I h
    obtain ⟨js, r', e'⟩ := tuple_at I h'
    have q : is = js := by simpa using isTuple_uniq e e'
    subst q
    have q2 := vals_inj r r'
    subst q2
    rw [Dqs.uniq I hs hs']
  | _, _, _, .dic h hs, .dic h' hs' => by
    rw [h] at h'
    cases h'
    rw [Dqs.uniq I hs hs']
  | _, _, _, .lst h hs, .tup h' hs' => by
    obtain ⟨is, r, e⟩ := list_at I h
    obtain ⟨js, r', e'⟩ := tuple_at I h'
    exact absurd rfl (ne_of_list_tuple e e')
  | _, _, _, .tup h hs, .lst h' hs' => by
    obtain ⟨is, r, e⟩ := tuple_at I h
    obtain ⟨js, r', e'⟩ := list_at I h'
    exact absurd rfl (ne_of_list_tuple e' e)
  | _, _, _, .lst h hs, .dic h' hs' => by
    obtain ⟨is, r, e⟩ := list_at I h
    exact absurd rfl (ne_dict_list (isDic_of I h') e)
  | _, _, _, .dic h' hs', .lst h hs => by
    obtain ⟨is, r, e⟩ := list_at I h
    exact absurd rfl (ne_dict_list (isDic_of I h') e)
  | _, _, _, .tup h hs, .dic h' hs' => by
    obtain ⟨is, r, e⟩ := tuple_at I h
    exact absurd rfl (ne_dict_tuple (isDic_of I h') e)
  | _, _, _, .dic h' hs', .tup h hs => by
    obtain ⟨is, r, e⟩ := tuple_at I h
    exact absurd rfl (ne_dict_tuple (isDic_of I h') e)
theorem Dqs.uniq (I : Inv X pins σ H s) : ∀ {vs : List V} {ds es : List PyData}, Dqs X.K H vs ds → Dqs X.K H vs es → ds = es
  | _, _, _, .nil, .nil => rfl
  | _, _, _, .cons h hs, .cons h' hs' => by rw [Dq.uniq I h h', Dqs.uniq I hs hs']
end
end
end HB
namespace HB
open PySem PySem.Spec PyProof.Rows L2 Evl PySem.SeqAt
open AutoSeq1 (wpAny_loadPart')
section
variable {prog : Program} {w : World}
/-- tuple.__eq__ where the items' answers are known in this model -/
theorem tupIn (l b : Addr) (us ws : Array Value) (n m : Nat) (dl db : Option Addr) (sl sb : Array (Option Value)) (f : Nat → Bool) :
    MeetsIn prog w (Builtin.«tuple.__eq__» ⟨[.ref l, .ref b], []⟩)
      (fun A R s => s.heap.get? l = some { cls := .type "tuple", dict := dl, data := .seq us n, slots := sl } ∧ s.heap.get? b = some { cls := .type "tuple", dict := db, data := .seq ws m, slots := sb } ∧
        (∀ j (q1 : j < us.size) (q2 : j < ws.size), EqP prog w A.in1 s us[j] ws[j] (f j)) ∧ R (.ok (.ret (.bool ((List.range (min us.size ws.size)).all f && us.size == ws.size)))) s) := by
  intro A R s0 h
  obtain ⟨hp, g, d, tk, os⟩ := s0; obtain ⟨hl, hb, he, h⟩ := h
  have f2 := AutoSeq1.sub_tuple_tuple
  have hZ : (us.toList.zip ws.toList).length = min us.size ws.size := by simp
  wp_walk using wpAny_loadPart' hl, wpAny_loadPart' hb, wpAny_forIn_list _ (fun rest b s' => b.1 = none ∧ s' = ⟨hp, g, d, tk, os⟩ ∧ ∃ i, rest = (us.toList.zip ws.toList).drop i ∧
    R (.ok (.ret (.bool (((List.range (min us.size ws.size)).drop i).all f && us.size == ws.size)))) ⟨hp, g, d, tk, os⟩) _
  case turn =>
    rintro ⟨y, x⟩ rest b s' ⟨hb', rfl, i, hz, hR⟩
    have ilt : i < (us.toList.zip ws.toList).length := by
      rcases Nat.lt_or_ge i (us.toList.zip ws.toList).length with z | z
      · exact z
      · rw [List.drop_of_length_le z] at hz
        cases hz
    have im : i < min us.size ws.size := hZ ▸ ilt
    have i1 : i < us.size := Nat.lt_of_lt_of_le im (Nat.min_le_left _ _)
    have i2 : i < ws.size := Nat.lt_of_lt_of_le im (Nat.min_le_right _ _)
    rw [List.drop_eq_getElem_cons ilt] at hz
    injection hz with hyx hrest
    have ey : y = us[i] := by have := congrArg Prod.fst hyx; simpa using this
    have ex : x = ws[i] := by have := congrArg Prod.snd hyx; simpa using this
    subst ey ex
    have ed : (List.range (min us.size ws.size)).drop i = i :: (List.range (min us.size ws.size)).drop (i + 1) := by simp [List.drop_eq_getElem_cons, im]
    rw [ed, List.all_cons] at hR
    refine wpAny_bind (he i i1 i2 _ _ ?_)
    cases fi : f i with
    | true =>
      rw [fi] at hR
      wp_walk
      exact ⟨rfl, rfl, i + 1, hrest, by simpa using hR⟩
    | false =>
      rw [fi] at hR
      wp_walk
      simpa using hR
  case fin =>
    rintro ⟨b1, b2⟩ s' ⟨hb', rfl, i, hz, hR⟩
    simp only at hb'
    subst hb'
    have ige : min us.size ws.size ≤ i := by
      rcases Nat.lt_or_ge i (us.toList.zip ws.toList).length with z | z
      · rw [List.drop_eq_getElem_cons z] at hz
        cases hz
      · exact hZ ▸ z
    rw [List.drop_of_length_le (by simpa using ige)] at hR
    wp_walk
    simpa [Builtin.Tuple.tupleCompareSizes] using hR
  case h =>
    exact ⟨rfl, rfl, 0, rfl, by simpa using h⟩
theorem rcP_tups {A : Around} {s : Shared} {l b : Addr} {us ws : Array Value} {f : Nat → Bool} (hl : s.heap.IsTuple l us) (hb : s.heap.IsTuple b ws) (hu : A.units < cLine)
    (he : ∀ j (q1 : j < us.size) (q2 : j < ws.size), EqP prog w A.in1 s us[j] ws[j] (f j)) (E Q : Value → Shared → Prop) (h : Q (.bool ((List.range (min us.size ws.size)).all f && us.size == ws.size)) s) : wpAny (model prog w) A (richCompare .Eq (.ref l) (.ref b)) Q E s := by
  obtain ⟨⟨c1, d1, t1, s1⟩, o1, e1, n1, g1⟩ := id hl
  obtain ⟨⟨c2, d2, t2, s2⟩, o2, e2, n2, g2⟩ := id hb
  simp only at e1 g1 e2 g2
  subst e1 g1 e2 g2
  have ta : s.TypeIs (.ref l) "tuple" := ⟨_, o1, rfl⟩
  have tb : s.TypeIs (.ref b) "tuple" := ⟨_, o2, rfl⟩
  exact wpAny_richCompare_same_room (op := .Eq) ta tb F.slot_tuple_eq (call_meetsIn F.slot_tuple_eq ta F.entry_tuple_eq (F.args_tuple_eq_2 _ _) (tupIn l b us ws n1 n2 d1 d2 s1 s2 f)
    ⟨o1, o2, he, show Value.bool _ ≠ Value.notImplemented ∧ Q (.bool _) s from ⟨(fun x => nomatch x), h⟩⟩) hu
end
end HB
namespace HB
open PySem PySem.Spec PyProof.Rows L2 Evl PySem.SeqAt
section
variable {X : Cx} {pins : List (Addr × Obj)} {σ : L2.St} {H : Hp} {s : Shared}
theorem eq_of_rc (I : Inv X pins σ H s) {d e : PyData} {A : Around} {v u : V} {x y : Value} (hd : Dq X.K H v d) (he : Dq X.K H u e) (rv : RelV v x) (ru : RelV u y) (kd : okD d = true)
    (rc : ∀ (E Q : Value → Shared → Prop), Q (.bool (eqD d e)) s → wpAny (model X.prog X.w) A (richCompare .Eq x y) Q E s) : EqP X.prog X.w A s x y (eqD d e) := fun E Q q => by
  unfold eqBool
  refine wpAny_holding ?_
  refine wpAny_ite_split (fun hab => ?_) (fun _ => ?_)
  rotate_left
  · have go := fun R (h : R (.bool (eqD d e)) s) => rc E R h
    cases hd with
    | non => cases rv; exact wpAny_bind (go _ (wpAny_truthy_bool q))
    | bl b => cases rv; exact wpAny_bind (go _ (wpAny_truthy_bool q))
    | int i => obtain ⟨t, rfl⟩ := rv; exact wpAny_bind (go _ (wpAny_truthy_bool q))
    | str z => obtain ⟨t, rfl⟩ := rv; exact wpAny_bind (go _ (wpAny_truthy_bool q))
    | lst _ _ => cases rv; exact wpAny_bind (go _ (wpAny_truthy_bool q))
    | tup _ _ => cases rv; exact wpAny_bind (go _ (wpAny_truthy_bool q))
    | dic _ _ => cases rv; exact wpAny_bind (go _ (wpAny_truthy_bool q))
  have ex : x = y := eq_of_beq hab
  subst ex
  have ev := relV_inj rv ru
  subst ev
  have ed := Dq.uniq I hd he
  subst ed
  rw [eqD_refl _ kd] at q
  exact wpAny_bind (wpAny_rule (wpAny_pure q))
theorem eqD_dl (es : List (PyData × PyData)) {e : PyData} (h : ∀ fs, e ≠ .dict fs) : eqD (.dict es) e = false := by
  cases e <;> first | exact absurd rfl (h _) | (unfold eqD; split <;> first | rfl | simp_all [PyData.eqv])
theorem dic_shape {kvs : List (Key × V)} {ds : List PyData} (hs : Dqs X.K H (kvs.map (·.2)) ds) (k : okD (.dict ((kvs.map fun kv => keyD kv.1).zip ds)) = true) : (kvs = [] ∧ ds = []) ∨ ∃ x i, kvs = [(.inr x, .int i)] ∧ ds = [.int i] := by
  have hl := hs.length
  rw [List.length_map] at hl
  rcases okD_dict k with z | ⟨x, i, z⟩
  · cases kvs with
    | nil =>
      cases ds with
      | nil => exact .inl ⟨rfl, rfl⟩
      | cons a r => simp at hl
    | cons a r =>
      cases ds with
      | nil => simp at hl
      | cons b q => simp at z
  · cases kvs with
    | nil => simp at z
    | cons a r =>
      cases ds with
      | nil => simp at z
      | cons b q =>
        simp only [List.map_cons, List.zip_cons_cons, List.cons.injEq, Prod.mk.injEq] at z
        obtain ⟨⟨z1, z2⟩, z3⟩ := z
        have r0 : r = [] := by
          cases r with
          | nil => rfl
          | cons c t =>
            cases q with
            | nil => simp at hl
            | cons d u => simp at z3
        subst r0
        have q0 : q = [] := by
          cases q with
          | nil => rfl
          | cons d u => simp at hl
        subst q0
        subst z2
        obtain ⟨key, v⟩ := a
        have hk : key = .inr x := by
          cases key with
          | inl j => cases z1
          | inr y =>
            have z1' : PyData.str y = .str x := z1
            injection z1' with z1'
            rw [z1']
        subst hk
        have hv : Dqs X.K H [v] [.int i] := hs
        cases hv with
        | cons h t =>
          cases h
          exact .inr ⟨x, i, rfl, rfl⟩
theorem rc_dics (I : Inv X pins σ H s) {a b : Addr} {ka kb : List (Key × V)} {da db : List PyData} {A : Around} (ha : H a = some (.dK ka)) (hb : H b = some (.dK kb)) (hs : Dqs X.K H (ka.map (·.2)) da) (ht : Dqs X.K H (kb.map (·.2)) db)
    (k1 : okD (.dict ((ka.map fun kv => keyD kv.1).zip da)) = true) (k2 : okD (.dict ((kb.map fun kv => keyD kv.1).zip db)) = true) (hu : A.units < cLine) (E Q : Value → Shared → Prop)
    (q : Q (.bool (eqD (.dict ((ka.map fun kv => keyD kv.1).zip da)) (.dict ((kb.map fun kv => keyD kv.1).zip db)))) s) : wpAny (model X.prog X.w) A (richCompare .Eq (.ref a) (.ref b)) Q E s := by
  obtain ⟨_, ya, va, ra, ga⟩ := (show ObjOk X.prog X.w H s.heap a (.dK ka) from I.hok a _ ha)
  obtain ⟨_, yb, vb, rb, gb⟩ := (show ObjOk X.prog X.w H s.heap b (.dK kb) from I.hok b _ hb)
  rcases dic_shape hs k1 with ⟨rfl, rfl⟩ | ⟨x, i, rfl, rfl⟩
  · cases ra
    rcases dic_shape ht k2 with ⟨rfl, rfl⟩ | ⟨y, j, rfl, rfl⟩
    · cases rb
      exact PySem.W.rcP_dicts (knd := mixKind X.prog X.w) (r := true) ya yb ga gb hu (fun _ => .nil) E Q q
    · cases rb with
      | cons h t =>
        cases t
        exact PySem.W.rcP_dicts (knd := mixKind X.prog X.w) (r := true) ya yb ga gb hu (fun z => absurd z (by simp)) E Q q
  · cases ra with
    | @cons _ p _ _ h t =>
      cases t
      obtain ⟨pk, pv⟩ := p
      obtain ⟨h1, tk, h2⟩ := h
      have h1' : (Sum.inr x : Key) = pk := h1
      have h2' : pv = Value.int i tk := h2
      subst h1' h2'
      rcases dic_shape ht k2 with ⟨rfl, rfl⟩ | ⟨y, j, rfl, rfl⟩
      · cases rb
        exact PySem.W.rcP_dicts (knd := mixKind X.prog X.w) (r := true) ya yb ga gb hu (fun z => absurd z (by simp)) E Q q
      · cases rb with
        | @cons _ p2 _ _ g t2 =>
          cases t2
          obtain ⟨pk2, pv2⟩ := p2
          obtain ⟨g1, tk2, g2⟩ := g
          have g1' : (Sum.inr y : Key) = pk2 := g1
          have g2' : pv2 = Value.int j tk2 := g2
          subst g1' g2'
          have q' : Q (.bool (x == y && i == j)) s := q
          by_cases exy : x = y
          · subst exy
            refine PySem.W.rcP_dicts (knd := mixKind X.prog X.w) (r := (i == j) && true) ya yb ga gb hu (fun _ => .hit (y := .int j tk2) ?_ (EqAt.int_int i tk j tk2).eqP .nil) E Q ?_
            · simp [valueAt]
            · simpa using q'
          · refine PySem.W.rcP_dicts (knd := mixKind X.prog X.w) (r := false) ya yb ga gb hu (fun _ => .miss ?_) E Q ?_
            · have n : ¬ y = x := fun z => exy z.symm
              simp [valueAt, n]
            · have n : (x == y) = false := by simpa using exy
              rw [n, Bool.false_and] at q'
              simpa using q'
mutual
theorem rc_dq (I : Inv X pins σ H s) : ∀ (d e : PyData) (A : Around) (v u : V) (x y : Value), Dq X.K H v d → Dq X.K H u e → RelV v x → RelV u y → okD d = true → okD e = true → A.units + min d.depth e.depth < cLine →
    ∀ (E Q : Value → Shared → Prop), Q (.bool (eqD d e)) s → wpAny (model X.prog X.w) A (richCompare .Eq x y) Q E s
  | .none, e, A, v, u, x, y, hd, he, rv, ru, kd, ke, hu, E, Q, q => by
    cases hd
    cases rv
    cases he with
    | non  =>
      cases ru
      exact RcAt.none_none  _ _ E Q q
    | bl y0 =>
      cases ru
      exact RcAt.none_bool y0 _ _ E Q q
    | int y0 =>
      obtain ⟨t2, rfl⟩ := ru
      exact RcAt.none_int y0 t2 _ _ E Q q
    | str y0 =>
      obtain ⟨t2, rfl⟩ := ru
      exact RcAt.none_str y0 t2 _ _ E Q q
    | lst h2 hs2 =>
      cases ru
      obtain ⟨js, r2, z2⟩ := list_at I h2
      exact RcAt.none_list z2 (room_here hu) _ _ E Q q
    | tup h2 hs2 =>
      cases ru
      obtain ⟨js, r2, z2⟩ := tuple_at I h2
      exact RcAt.none_tuple z2 (room_here hu) _ _ E Q q
    | dic h2 hs2 =>
      cases ru
      exact rc_none_dict (isDic_of I h2) (room_here hu) _ _ E Q q
  | .bool c, e, A, v, u, x, y, hd, he, rv, ru, kd, ke, hu, E, Q, q => by
    cases hd
    cases rv
    cases he with
    | non  =>
      cases ru
      exact RcAt.bool_none c _ _ E Q q
    | bl y0 =>
      cases ru
      exact RcAt.bool_bool c y0 _ _ E Q q
    | int y0 =>
      obtain ⟨t2, rfl⟩ := ru
      exact RcAt.bool_int c y0 t2 _ _ E Q q
    | str y0 =>
      obtain ⟨t2, rfl⟩ := ru
      exact RcAt.bool_str c y0 t2 _ _ E Q q
    | lst h2 hs2 =>
      cases ru
      obtain ⟨js, r2, z2⟩ := list_at I h2
      exact RcAt.bool_list c z2 (room_here hu) _ _ E Q q
    | tup h2 hs2 =>
      cases ru
      obtain ⟨js, r2, z2⟩ := tuple_at I h2
      exact RcAt.bool_tuple c z2 (room_here hu) _ _ E Q q
    | dic h2 hs2 =>
      cases ru
      exact rc_bool_dict c (isDic_of I h2) (room_here hu) _ _ E Q q
  | .int c, e, A, v, u, x, y, hd, he, rv, ru, kd, ke, hu, E, Q, q => by
    cases hd
    obtain ⟨t, rfl⟩ := rv
    cases he with
    | non  =>
      cases ru
      exact RcAt.int_none c t _ _ E Q q
    | bl y0 =>
      cases ru
      exact RcAt.int_bool c t y0 _ _ E Q q
    | int y0 =>
      obtain ⟨t2, rfl⟩ := ru
      exact RcAt.int_int c t y0 t2 _ _ E Q q
    | str y0 =>
      obtain ⟨t2, rfl⟩ := ru
      exact RcAt.int_str c t y0 t2 _ _ E Q q
    | lst h2 hs2 =>
      cases ru
      obtain ⟨js, r2, z2⟩ := list_at I h2
      exact RcAt.int_list c t z2 (room_here hu) _ _ E Q q
    | tup h2 hs2 =>
      cases ru
      obtain ⟨js, r2, z2⟩ := tuple_at I h2
      exact RcAt.int_tuple c t z2 (room_here hu) _ _ E Q q
    | dic h2 hs2 =>
      cases ru
      exact rc_int_dict c t (isDic_of I h2) (room_here hu) _ _ E Q q
  | .str c, e, A, v, u, x, y, hd, he, rv, ru, kd, ke, hu, E, Q, q => by
    cases hd
    obtain ⟨t, rfl⟩ := rv
    cases he with
    | non  =>
      cases ru
      exact RcAt.str_none c t _ _ E Q q
    | bl y0 =>
      cases ru
      exact RcAt.str_bool c t y0 _ _ E Q q
    | int y0 =>
      obtain ⟨t2, rfl⟩ := ru
      exact RcAt.str_int c t y0 t2 _ _ E Q q
    | str y0 =>
      obtain ⟨t2, rfl⟩ := ru
      exact RcAt.str_str c t y0 t2 _ _ E Q q
    | lst h2 hs2 =>
      cases ru
      obtain ⟨js, r2, z2⟩ := list_at I h2
      exact RcAt.str_list c t z2 (room_here hu) _ _ E Q q
    | tup h2 hs2 =>
      cases ru
      obtain ⟨js, r2, z2⟩ := tuple_at I h2
      exact RcAt.str_tuple c t z2 (room_here hu) _ _ E Q q
    | dic h2 hs2 =>
      cases ru
      exact rc_str_dict c t (isDic_of I h2) (room_here hu) _ _ E Q q
  | .list xs, e, A, v, u, x, y, hd, he, rv, ru, kd, ke, hu, E, Q, q => by
    cases hd with
    | lst h1 hs1 =>
    cases rv
    obtain ⟨is, r1, z1⟩ := list_at I h1
    have kx : okDs xs = true := by rw [okD] at kd; exact kd
    cases he with
    | non  =>
      cases ru
      exact RcAt.list_none z1 (room_here hu) _ _ E Q q
    | bl y0 =>
      cases ru
      exact RcAt.list_bool y0 z1 (room_here hu) _ _ E Q q
    | int y0 =>
      obtain ⟨t2, rfl⟩ := ru
      exact RcAt.list_int y0 t2 z1 (room_here hu) _ _ E Q q
    | str y0 =>
      obtain ⟨t2, rfl⟩ := ru
      exact RcAt.list_str y0 t2 z1 (room_here hu) _ _ E Q q
    | tup h2 hs2 =>
      cases ru
      obtain ⟨js, r2, z2⟩ := tuple_at I h2
      exact RcAt.list_tuple z1 z2 (room_here hu) _ _ E Q q
    | dic h2 hs2 =>
      cases ru
      exact rc_list_dict (isDic_of I h2) z1 (room_here hu) _ _ E Q q
    | @lst _ _ ys h2 hs2 =>
      cases ru
      obtain ⟨js, r2, z2⟩ := list_at I h2
      have ky : okDs ys = true := by rw [okD] at ke; exact ke
      have n1 : is.length = xs.length := r1.length.symm.trans hs1.length
      have n2 : js.length = ys.length := r2.length.symm.trans hs2.length
      have eqs := eqs_dq I xs ys A.in1 _ _ is js hs1 hs2 r1 r2 kx ky (room_in hu)
      rw [eqD] at q
      by_cases hz : is.length = js.length
      · rw [← pair_all (by omega : xs.length = ys.length), ← n1] at q
        exact rcP_lists z1 z2 (by simpa using hz) (room_here hu) (fun j a b => by simpa using eqs j (by simpa using a) (by simpa using b)) E Q (by simpa using q)
      · have ne : eqDs xs ys = false := by
          cases z : eqDs xs ys with
          | false => rfl
          | true =>
            have := eqDs_len z
            omega
        rw [ne] at q
        exact RcAt.lists_lengths z1 z2 (by simpa using hz) (room_here hu) _ _ E Q q
  | .tuple xs, e, A, v, u, x, y, hd, he, rv, ru, kd, ke, hu, E, Q, q => by
    cases hd with
    | tup h1 hs1 =>
    cases rv
    obtain ⟨is, r1, z1⟩ := tuple_at I h1
    have kx : okDs xs = true := by rw [okD] at kd; exact kd
    cases he with
    | non  =>
      cases ru
      exact RcAt.tuple_none z1 (room_here hu) _ _ E Q q
    | bl y0 =>
      cases ru
      exact RcAt.tuple_bool y0 z1 (room_here hu) _ _ E Q q
    | int y0 =>
      obtain ⟨t2, rfl⟩ := ru
      exact RcAt.tuple_int y0 t2 z1 (room_here hu) _ _ E Q q
    | str y0 =>
      obtain ⟨t2, rfl⟩ := ru
      exact RcAt.tuple_str y0 t2 z1 (room_here hu) _ _ E Q q
    | lst h2 hs2 =>
      cases ru
      obtain ⟨js, r2, z2⟩ := list_at I h2
      exact RcAt.tuple_list z1 z2 (room_here hu) _ _ E Q q
    | dic h2 hs2 =>
      cases ru
      exact rc_tuple_dict (isDic_of I h2) z1 (room_here hu) _ _ E Q q
    | @tup _ _ ys h2 hs2 =>
      cases ru
      obtain ⟨js, r2, z2⟩ := tuple_at I h2
      have ky : okDs ys = true := by rw [okD] at ke; exact ke
      have n1 : is.length = xs.length := r1.length.symm.trans hs1.length
      have n2 : js.length = ys.length := r2.length.symm.trans hs2.length
      have eqs := eqs_dq I xs ys A.in1 _ _ is js hs1 hs2 r1 r2 kx ky (room_in hu)
      rw [eqD, ← pair_min, ← n1, ← n2] at q
      exact rcP_tups z1 z2 (room_here hu) (fun j a b => by simpa using eqs j (by simpa using a) (by simpa using b)) E Q (by simpa using q)
  | .dict es, e, A, v, u, x, y, hd, he, rv, ru, kd, ke, hu, E, Q, q => by
    cases hd with
    | dic h1 hs1 =>
    cases rv
    have z1 := isDic_of I h1
    cases he with
    | non  =>
      cases ru
      rw [eqD_dl _ (by intro _ z; cases z)] at q
      exact rc_dict_none z1 (room_here hu) _ _ E Q q
    | bl y0 =>
      cases ru
      rw [eqD_dl _ (by intro _ z; cases z)] at q
      exact rc_dict_bool y0 z1 (room_here hu) _ _ E Q q
    | int y0 =>
      obtain ⟨t2, rfl⟩ := ru
      rw [eqD_dl _ (by intro _ z; cases z)] at q
      exact rc_dict_int y0 t2 z1 (room_here hu) _ _ E Q q
    | str y0 =>
      obtain ⟨t2, rfl⟩ := ru
      rw [eqD_dl _ (by intro _ z; cases z)] at q
      exact rc_dict_str y0 t2 z1 (room_here hu) _ _ E Q q
    | lst h2 hs2 =>
      cases ru
      rw [eqD_dl _ (by intro _ z; cases z)] at q
      obtain ⟨js, r2, z2⟩ := list_at I h2
      exact rc_dict_list z1 z2 (room_here hu) _ _ E Q q
    | tup h2 hs2 =>
      cases ru
      rw [eqD_dl _ (by intro _ z; cases z)] at q
      obtain ⟨js, r2, z2⟩ := tuple_at I h2
      exact rc_dict_tuple z1 z2 (room_here hu) _ _ E Q q
    | dic h2 hs2 =>
      cases ru
      exact rc_dics I h1 h2 hs1 hs2 kd ke (room_here hu) E Q q
theorem eqs_dq (I : Inv X pins σ H s) : ∀ (xs ys : List PyData) (A : Around) (vs us : List V) (is js : List Value), Dqs X.K H vs xs → Dqs X.K H us ys → Vals vs is → Vals us js → okDs xs = true → okDs ys = true →
    A.units + min (PyData.depthAll xs) (PyData.depthAll ys) < cLine → ∀ j (q1 : j < is.length) (q2 : j < js.length), EqP X.prog X.w A s is[j] js[j] (pairD xs ys j)
  | [], _, _, _, _, _, _, h, _, r, _, _, _, _, j, q1, _ => by
    cases h
    cases r
    exact absurd q1 (Nat.not_lt_zero j)
  | _ :: _, [], _, _, _, _, _, _, h, _, r, _, _, _, j, _, q2 => by
    cases h
    cases r
    exact absurd q2 (Nat.not_lt_zero j)
  | x :: xs, y :: ys, A, _, _, _, _, h1, h2, r1, r2, k1, k2, hu, j, q1, q2 => by
    rw [okDs, Bool.and_eq_true] at k1 k2
    cases h1 with
    | cons a1 b1 =>
    cases h2 with
    | cons a2 b2 =>
    cases r1 with
    | cons c1 d1 =>
    cases r2 with
    | cons c2 d2 =>
    cases j with
    | zero => exact eq_of_rc I a1 a2 c1 c2 k1.1 (rc_dq I x y A _ _ _ _ a1 a2 c1 c2 k1.1 k2.1 (room_head hu))
    | succ j => exact eqs_dq I xs ys A _ _ _ _ b1 b2 d1 d2 k1.2 k2.2 (room_tail hu) j (Nat.lt_of_succ_lt_succ q1) (Nat.lt_of_succ_lt_succ q2)
end
end
end HB
namespace HB
open PySem PySem.Spec PyProof.Rows L2 Evl PySem.SeqAt
open AutoSeq1 (wpAny_loadPart')
open MeetsSeq MeetsSeq2 MeetsSeq3
section
variable {prog : Program} {w : World}
/-- list.__ne__ where the items' answers are known in this model -/
theorem neLoopIn (l b : Addr) (us ws : Array Value) (n m : Nat) (dl db : Option Addr) (sl sb : Array (Option Value)) (hz : us.size = ws.size) (f : Nat → Bool) (k : Nat) :
    ∀ i : Nat, us.size - i = k → MeetsIn prog w (Builtin.«list.__eq__.loop» ⟨[.ref l, .ref b, rawInt i, rawInt 3], []⟩)
      (fun A R s => s.heap.get? l = some { cls := .type "list", dict := dl, data := .seq us n, slots := sl } ∧ s.heap.get? b = some { cls := .type "list", dict := db, data := .seq ws m, slots := sb } ∧
        (∀ j (q1 : j < us.size) (q2 : j < ws.size), EqP prog w A.in1 s us[j] ws[j] (f j)) ∧ R (.ok (.ret (.bool (!((List.range us.size).drop i).all f)))) s) := by
  induction k with
  | zero =>
    intro i hk A R s0 h
    obtain ⟨hp, g, d, tk, os⟩ := s0; obtain ⟨hl, hb, he, h⟩ := h
    wp_walk using wpAny_loadPart' hl, wpAny_loadPart' hb
    have j1 : us[((i : Nat) : Int).toNat]? = none := by simp; omega
    have j2 : ws[((i : Nat) : Int).toNat]? = none := by simp; omega
    have jd : (List.range us.size).drop i = [] := by simp; omega
    rw [jd] at h
    rw [j1, j2]
    wp_walk using wpAny_loadPart' hl, wpAny_loadPart' hb
    show R (.ok (.ret (.bool (us.size != ws.size)))) _
    rw [hz]
    simpa using h
  | succ k ih =>
    intro i hk A R s0 h
    obtain ⟨hp, g, d, tk, os⟩ := s0; obtain ⟨hl, hb, he, h⟩ := h
    wp_walk using wpAny_loadPart' hl, wpAny_loadPart' hb
    have i1 : i < us.size := by omega
    have i2 : i < ws.size := by omega
    have j1 : us[((i : Nat) : Int).toNat]? = some us[i] := by simp [i1]
    have j2 : ws[((i : Nat) : Int).toNat]? = some ws[i] := by simp [i2]
    have jd : (List.range us.size).drop i = i :: (List.range us.size).drop (i + 1) := by simp [List.drop_eq_getElem_cons, i1]
    have jc : ((i : Int) + 1) = ((i + 1 : Nat) : Int) := by push_cast; rfl
    rw [jd, List.all_cons] at h
    rw [j1, j2]
    refine wpAny_bind (he i i1 i2 _ _ ?_)
    cases fi : f i with
    | true =>
      rw [fi] at h
      wp_walk
      rw [jc]
      exact ⟨plainId_quiet plain_eq_loop _, codeAny_builtin entry_eq_loop (by
        rw [Around.under_plainId plain_eq_loop _]
        exact ih (i + 1) (by omega) A R _ ⟨hl, hb, he, by simpa using h⟩)⟩
    | false =>
      rw [fi] at h
      wp_walk using wpAny_loadPart' hl, wpAny_loadPart' hb
      rw [j1, j2]
      wp_walk
      simpa using h
theorem neIn (l b : Addr) (us ws : Array Value) (n m : Nat) (dl db : Option Addr) (sl sb : Array (Option Value)) (hz : us.size = ws.size) (f : Nat → Bool) :
    MeetsIn prog w (Builtin.«list.__ne__» ⟨[.ref l, .ref b], []⟩)
      (fun A R s => s.heap.get? l = some { cls := .type "list", dict := dl, data := .seq us n, slots := sl } ∧ s.heap.get? b = some { cls := .type "list", dict := db, data := .seq ws m, slots := sb } ∧
        (∀ j (q1 : j < us.size) (q2 : j < ws.size), EqP prog w A.in1 s us[j] ws[j] (f j)) ∧ R (.ok (.ret (.bool (!(List.range us.size).all f)))) s) := by
  intro A R s0 h
  obtain ⟨hp, g, d, tk, os⟩ := s0; obtain ⟨hl, hb, he, h⟩ := h
  have f3 := AutoSeq1.sub_list_list
  have hne : ¬ (us.size != ws.size) = true := by simp [hz]
  wp_walk using wpAny_loadPart' hl, wpAny_loadPart' hb
  exact ⟨plainId_quiet plain_eq_loop _, codeAny_builtin entry_eq_loop (by
    rw [Around.under_plainId plain_eq_loop _]
    exact neLoopIn l b us ws n m dl db sl sb hz f _ 0 rfl A R _ ⟨hl, hb, he, by simpa using h⟩)⟩
theorem rcP_nes {A : Around} {s : Shared} {l b : Addr} {us ws : Array Value} {f : Nat → Bool} (hl : s.heap.IsList l us) (hb : s.heap.IsList b ws) (hz : us.size = ws.size) (hu : A.units < cLine)
    (he : ∀ j (q1 : j < us.size) (q2 : j < ws.size), EqP prog w A.in1 s us[j] ws[j] (f j)) (E Q : Value → Shared → Prop) (h : Q (.bool (!(List.range us.size).all f)) s) : wpAny (model prog w) A (richCompare .NotEq (.ref l) (.ref b)) Q E s := by
  obtain ⟨⟨c1, d1, t1, s1⟩, o1, e1, n1, g1⟩ := id hl
  obtain ⟨⟨c2, d2, t2, s2⟩, o2, e2, n2, g2⟩ := id hb
  simp only at e1 g1 e2 g2
  subst e1 g1 e2 g2
  have ta : s.TypeIs (.ref l) "list" := ⟨_, o1, rfl⟩
  have tb : s.TypeIs (.ref b) "list" := ⟨_, o2, rfl⟩
  exact wpAny_richCompare_same_room (op := .NotEq) ta tb F.slot_list_ne (call_meetsIn F.slot_list_ne ta F.entry_list_ne (F.args_list_ne_2 _ _) (neIn l b us ws n1 n2 d1 d2 s1 s2 hz f)
    ⟨o1, o2, he, show Value.bool _ ≠ Value.notImplemented ∧ Q (.bool _) s from ⟨(fun x => nomatch x), h⟩⟩) hu
end
section
variable {X : Cx}
/-- a == b over data, dicts too -/
def rEqQ (K : PySem.W.Frag) : R2 := fun x y H Q => ∃ d e, Dq K H x d ∧ Dq K H y e ∧ okD d = true ∧ okD e = true ∧ d.depth ≤ 60 ∧ Q (.bl (eqD d e)) H
theorem op_eqQ (hu : X.A.units + 64 < cLine) : OpR X (compareOp .Eq) (rEqQ X.K) := by
  intro pins s σ H x y v u Q I rx ry h
  obtain ⟨d, e, hd, he, kd, ke, hz, q⟩ := h
  exact rc_dq I d e X.A x y v u hd he rx ry kd ke (by have := Nat.min_le_left d.depth e.depth; omega) _ _ ⟨.bl _, H, I, rfl, q⟩
/-- xs != ys, two lists of data -/
def rNeQ (K : PySem.W.Frag) : R2 := fun x y H Q => ∃ ds es, Dq K H x (.list ds) ∧ Dq K H y (.list es) ∧ okDs ds = true ∧ okDs es = true ∧ PyData.depthAll ds ≤ 60 ∧ Q (.bl (!eqDs ds es)) H
theorem op_neQ (hu : X.A.units + 64 < cLine) : OpR X (compareOp .NotEq) (rNeQ X.K) := by
  intro pins s σ H x y v u Q I rx ry h
  obtain ⟨ds, es, hd, he, kd, ke, hz, q⟩ := h
  cases hd with
  | lst h1 hs1 =>
  cases he with
  | lst h2 hs2 =>
  cases rx
  cases ry
  obtain ⟨is, r1, z1⟩ := list_at I h1
  obtain ⟨js, r2, z2⟩ := list_at I h2
  have n1 : is.length = ds.length := r1.length.symm.trans hs1.length
  have n2 : js.length = es.length := r2.length.symm.trans hs2.length
  have eqs := eqs_dq I ds es X.A.in1 _ _ is js hs1 hs2 r1 r2 kd ke (by
    have := Nat.min_le_left (PyData.depthAll ds) (PyData.depthAll es)
    show X.A.units + 1 + _ < cLine
    omega)
  show wpAny (model X.prog X.w) X.A (richCompare .NotEq _ _) _ _ s
  by_cases hl : is.length = js.length
  · rw [← pair_all (by omega : ds.length = es.length), ← n1] at q
    exact rcP_nes z1 z2 (by simpa using hl) (by omega) (fun j a b => by simpa using eqs j (by simpa using a) (by simpa using b)) _ _ (by rw [List.size_toArray]; exact ⟨.bl _, H, I, rfl, q⟩)
  · have ne : eqDs ds es = false := by
      cases z : eqDs ds es with
      | false => rfl
      | true =>
        have := eqDs_len z
        omega
    rw [ne] at q
    exact RcNeAt.lists_lengths z1 z2 (by simpa using hl) (by omega) _ _ _ _ ⟨.bl _, H, I, rfl, q⟩
end
/-- the type of a datum -/
def tyN : PyData → String
  | .none => "NoneType"
  | .bool _ => "bool"
  | .int _ => "int"
  | .str _ => "str"
  | .list _ => "list"
  | .tuple _ => "tuple"
  | .dict _ => "dict"
theorem sqL_ty {K : PySem.W.Frag} {H : Hp} {a : Addr} {xs : List V} (h : SqL K H a xs) : TyX K H (.ref a) (.type "list") := by
  rcases h with (h | ⟨o, h⟩) | ⟨o, its, n, h, hc, _⟩
  · exact .base (.lst h)
  · exact .base (.frz h)
  · exact .kList h hc
theorem sqT_ty {K : PySem.W.Frag} {H : Hp} {a : Addr} {xs : List V} (h : SqT K H a xs) : TyX K H (.ref a) (.type "tuple") := by
  rcases h with (h | ⟨o, h⟩) | ⟨o, its, n, h, hc, _⟩
  · exact .base (.tup h)
  · exact .fTuple h
  · exact .kTuple h hc
theorem Dq.ty {K : PySem.W.Frag} {H : Hp} {v : V} {d : PyData} (h : Dq K H v d) : TyX K H v (.type (tyN d)) := by
  cases h with
  | non => exact .base .non
  | bl b => exact .base (.bl b)
  | int i => exact .base (.int i)
  | str x => exact .base (.str x)
  | lst h _ => exact sqL_ty h
  | tup h _ => exact sqT_ty h
  | dic h _ => exact .base (.dK h)
end HB
namespace HB
open PySem PySem.Spec PyProof.Rows L2 Evl
/-! ### == and != of instances whose class has an own __eq__ and no own __ne__ -/
section
variable {M : Model} {prog : Program} {w : World} {A : Around} {E : Value → Shared → Prop} {s : Shared} {K : PySem.W.Frag} {x C f L : Addr} {ox : Obj} {od : Option Obj} {b tb : Value} {h₀ : Heap} {m : Str → Option Value}
theorem ifBound_ne {as : List Value} {Q : Option Value → Shared → Prop} (X : K.In s.heap) (I : PySem.W.InstAt s.heap x ox C od) (hs : PySem.W.findIn K (.ref C) "__ne__" = some (some (.builtin "object.__ne__")))
    (h : wpAny M A (call (.builtin "object.__ne__") (.ref x :: as)) (fun v => Q (some v)) E s) : wpAny M A (callSpecialIfBound? (.ref x) "__ne__" as) Q E s := by
  simp only [callSpecialIfBound?, bindSpecialIfBound?]
  refine wpAny_holding (wpAny_bind (wpAny_bind (wpAny_bind (I.type.here ((PySem.W.looks_findIn X hs).here ?_)))))
  refine wpAny_bind (wpAny_askSetting (wpAny_ite ?_))
  have go : wpAny M A (call (.builtin "object.__ne__") ([.ref x] ++ as) >>= fun v => pure (some v)) Q E s := wpAny_bind (wpAny_mono h (fun v s' z => wpAny_pure z) fun _ _ z => z)
  split
  · exact wpAny_bind (wpAny_of_eq (F.cmp_object.ne.bind _) (wpAny_pure (by exact go)))
  · exact wpAny_tryCatch (wpAny_bind (wpAny_of_eq (F.cmp_object.ne.bind _) (wpAny_pure (by exact go))))
theorem ne_entry {Q : Fin → Shared → Prop} (X : K.In s.heap) (I : PySem.W.InstAt s.heap x ox C od) (hs : PySem.W.findIn K (.ref C) "__eq__" = some (some (.ref f))) (hf : PySem.W.isFn K (.ref f) = true) (hu : A.units < cLine)
    (h : wpAny (model prog w) A (call (.ref f) [.ref x, b]) (fun v s' => ∃ k, v = .bool k ∧ Q (.done (.ret (.bool (!k)))) s') E s) : wpAny (model prog w) A (Builtin.«object.__ne__» ⟨[.ref x, b], []⟩) Q E s := by
  unfold Builtin.«object.__ne__»
  repeat (first
    | with_reducible refine wpAny_cRoomFor hu ?_
    | (refine wpAny_bind (m := callSpecialIfBound? (.ref x) (Str.ofString "__eq__") [b]) (PySem.W.ifBound_K X I hs hf (wpAny_mono h (fun r s' hr => by
        obtain ⟨k, rfl, q⟩ := hr
        repeat (first | exact q | exact wpAny_pure q | exact wpAny_truthy_bool q | (refine wpAny_bind (m := truthy (.bool _)) (wpAny_truthy_bool ?_)) | wp_step)) fun _ _ z => z)))
    | wp_step)
theorem ne_K {Q : Value → Shared → Prop} (hu : A.units + 1 < cLine) (X : K.In s.heap) (I : PySem.W.InstAt s.heap x ox C od) (hb : PySem.W.Looks (model prog w) s.heap (typeOf b) tb) (hn : PySem.W.notFirst K C tb = true)
    (hs : PySem.W.findIn K (.ref C) "__ne__" = some (some (.builtin "object.__ne__"))) (he : PySem.W.findIn K (.ref C) "__eq__" = some (some (.ref f))) (hf : PySem.W.isFn K (.ref f) = true) (hm : PySem.W.mroIn K C (.type "object") = some true)
    (h : wpAny (model prog w) A.in1 (call (.ref f) [.ref x, b]) (fun v s' => ∃ k, v = .bool k ∧ Q (.bool (!k)) s') E s) : wpAny (model prog w) A (richCompare .NotEq (.ref x) b) Q E s := by
  have one : wpAny (model prog w) A (tryCompare (.ref x) "__ne__" b) (fun r s' => ∃ k, r = some (.bool (!k)) ∧ Q (.bool (!k)) s') E s := by
    unfold tryCompare
    refine wpAny_bind (ifBound_ne X I hs (wpAny_call (codeAny_call_builtin F.cmp_object.ne.plain F.cmpEntry_ne (PySem.W.check_slot F.cmpKind_ne F.cmpSplit_ne (I.type.andThen (PySem.W.looks_mroIn X hm)) (F.cmpArgs_ne _ _)
      (ne_entry (A := A.in1) X I he hf hu (wpAny_mono h (fun v s' hv => ?_) fun _ _ z => z))))))
    obtain ⟨k, rfl, q⟩ := hv
    exact ⟨k, rfl, wpAny_pure ⟨k, rfl, q⟩⟩
  simp only [richCompare, cmpInfo_NotEq, oneThing_ref]
  refine wpAny_holding (wpAny_bind (wpAny_cRoomFor (by omega) ?_))
  refine wpAny_bind (I.type.here (wpAny_bind (hb.here ?_)))
  split
  · rename_i q
    have e : PySem.W.subIn K tb (.ref C) = some false := by
      rcases Bool.or_eq_true_iff.mp hn with z | z
      · rw [beq_iff_eq.mp z] at q
        simp at q
      · exact beq_iff_eq.mp z
    refine wpAny_bind ((PySem.W.looks_subIn X e).here ?_)
    simp only [Bool.false_eq_true, if_false]
    refine wpAny_bind (wpAny_mono one (fun r s' z => ?_) fun _ _ z => z)
    obtain ⟨k, rfl, q⟩ := z
    exact wpAny_pure q
  · refine wpAny_bind (wpAny_pure ?_)
    simp only [Bool.false_eq_true, if_false]
    refine wpAny_bind (wpAny_mono one (fun r s' z => ?_) fun _ _ z => z)
    obtain ⟨k, rfl, q⟩ := z
    exact wpAny_pure q
end
/-- an own __eq__ at f; != is the object's -/
structure OwnEqC (K : PySem.W.Frag) (C f : Addr) : Prop where
  eq : PySem.W.findIn K (.ref C) "__eq__" = some (some (.ref f))
  fn : PySem.W.isFn K (.ref f) = true
  ne : PySem.W.findIn K (.ref C) "__ne__" = some (some (.builtin "object.__ne__"))
  ob : PySem.W.mroIn K C (.type "object") = some true
/-- what kind of thing stands on the right -/
inductive TyV (K : PySem.W.Frag) (H : Hp) : V → Value → Prop
  | str (x : Str) : TyV K H (.str x) (.type "str")
  | lst {a : Addr} {xs : List V} : SqL K H a xs → TyV K H (.ref a) (.type "list")
  | ins {a C dx : Addr} {fs : List (Str × V)} : H a = some (.ins C dx fs) → TyV K H (.ref a) (.ref C)
theorem sub_ty {K : PySem.W.Frag} {C : Addr} {T : String} {l : List Value} (e : fastBuiltinMro T = some l) (h : l.all (fun v => match v with | .ref _ => false | _ => true) = true) : PySem.W.subIn K (.type T) (.ref C) = some false := by
  show (fastBuiltinMro T).map (·.contains (.ref C)) = some false
  rw [e]
  show some (l.contains (.ref C)) = some false
  congr 1
  rw [List.contains_eq_any_beq]
  rw [List.any_eq_false]
  intro v hv
  have q := List.all_eq_true.mp h v hv
  cases v <;> simp_all
theorem nf_str {K : PySem.W.Frag} {C : Addr} : PySem.W.notFirst K C (.type "str") = true := by
  unfold PySem.W.notFirst
  rw [sub_ty (K := K) (C := C) (T := "str") (l := [.type "str", .type "object"]) (by decide +kernel) (by decide)]
  simp
theorem nf_list {K : PySem.W.Frag} {C : Addr} : PySem.W.notFirst K C (.type "list") = true := by
  unfold PySem.W.notFirst
  rw [sub_ty (K := K) (C := C) (T := "list") (l := [.type "list", .type "object"]) (by decide +kernel) (by decide)]
  simp
section
variable {X : Cx} {pins : List (Addr × Obj)} {σ : L2.St} {H : Hp} {s : Shared} {n : Nat} {f : Addr} {fd : FuncData} {ps : List Str} {sp : Sp}
theorem TyV.looks {y : V} {tb u : Value} (I : Inv X pins σ H s) (h : TyV X.K H y tb) (r : RelV y u) : PySem.W.Looks (model X.prog X.w) s.heap (typeOf u) tb := by
  cases h with
  | str x =>
    obtain ⟨t, rfl⟩ := r
    exact .now
  | lst h =>
    cases r
    obtain ⟨its, rv, ⟨o, n, ho, hc, _⟩, _⟩ := I.list h
    rw [← hc]
    exact (PySem.W.Looks.ld (part := none) ho).andThen .now
  | ins h =>
    cases r
    obtain ⟨mA, J, _⟩ := ins_get I.hok h
    obtain ⟨od, J, _⟩ := J.look
    exact J.type
theorem run_own {a : Addr} {y : V} {u : Value} {A : Around} {Q : VK} {E : Value → Shared → Prop} (F : FnOk X.prog X.w X.K X.mg X.base CX0 n f fd ps sp) (hb : Binds X.K fd ps []) (sb : Sub X n A) (I : Inv X pins σ H s) (ry : RelV y u) (h : sp [.ref a, y] H Q E0) :
    wpAny (model X.prog X.w) A (call (.ref f) [.ref a, u]) (EP X pins σ Q) E s := by
  have e0 : Env0 X.prog X.w X.K X.mg X.base A X.stack s H := by
    have e := I.env0
    exact ⟨by rw [sb.fr]; exact e.frames, e.mod, e.bs, e.bsz, e.funs, e.frf, e.hok, e.bare⟩
  have hl := F.len _ _ _ _ h
  have r2 : Vals [V.ref a, y] [Value.ref a, u] := .cons rfl (.cons ry .nil)
  refine wpAny_call (codeAny_mono (F.run A X.stack s H ⟨[.ref a, u], []⟩ [.ref a, u] [.ref a, y] _ E0 sb.room e0 (by
    have q := hb s [.ref a, u] I.kIn (by simpa using hl)
    simpa using q) r2 h) fun r s' hq => ?_)
  cases r with
  | error e => exact False.elim hq
  | ok fl =>
    cases fl with
    | ret w => exact I.after hq
    | next => exact False.elim hq
    | brk => exact False.elim hq
    | cont => exact False.elim hq
/-- x == y, x an instance with an own __eq__ -/
def rOwn (K : PySem.W.Frag) (g : Bool → Bool) (f : Addr) (sp : Sp) : R2 := fun x y H Q => ∃ a C dx fs tb, x = .ref a ∧ H a = some (.ins C dx fs) ∧ OwnEqC K C f ∧ TyV K H y tb ∧ PySem.W.notFirst K C tb = true ∧ sp [.ref a, y] H (fun v H' => ∃ b, v = .bl b ∧ Q (.bl (g b)) H') E0
theorem op_ownEq (F : FnOk X.prog X.w X.K X.mg X.base CX0 n f fd ps sp) (hb : Binds X.K fd ps []) (hr : Room n X.A) : OpR X (compareOp .Eq) (rOwn X.K id f sp) := by
  intro pins s σ H x y v u Q I rx ry h
  obtain ⟨a, C, dx, fs, tb, rfl, ha, o, ty, nf, q⟩ := h
  cases rx
  obtain ⟨mA, J, _⟩ := ins_get I.hok ha
  obtain ⟨od, J, _⟩ := J.look
  obtain ⟨m, hF⟩ := I.fr
  show wpAny (model X.prog X.w) X.A (richCompare .Eq (.ref a) u) _ _ s
  refine PySem.W.cmp_K (op := .Eq) (tb := tb) hr.units0 hF I.ok.mod.kin J (ty.looks I ry) nf o.eq o.fn ?_
  refine wpAny_mono (run_own F hb ⟨hr, rfl⟩ I ry q) (fun v s' z => ?_) fun _ _ z => z
  obtain ⟨v', H', I', rv, b, rfl, q'⟩ := z
  cases rv
  exact ⟨.bl b, H', I', rfl, q'⟩
theorem op_ownNe (F : FnOk X.prog X.w X.K X.mg X.base CX0 n f fd ps sp) (hb : Binds X.K fd ps []) (hr : Room (n + 1) X.A) : OpR X (compareOp .NotEq) (rOwn X.K not f sp) := by
  intro pins s σ H x y v u Q I rx ry h
  obtain ⟨a, C, dx, fs, tb, rfl, ha, o, ty, nf, q⟩ := h
  cases rx
  obtain ⟨mA, J, _⟩ := ins_get I.hok ha
  obtain ⟨od, J, _⟩ := J.look
  show wpAny (model X.prog X.w) X.A (richCompare .NotEq (.ref a) u) _ _ s
  refine ne_K (tb := tb) hr.in1.units0 I.kIn J (ty.looks I ry) nf o.ne o.eq o.fn o.ob ?_
  refine wpAny_mono (run_own F hb ⟨hr.in1, rfl⟩ I ry q) (fun v s' z => ?_) fun _ _ z => z
  obtain ⟨v', H', I', rv, b, rfl, q'⟩ := z
  cases rv
  exact ⟨b, rfl, .bl (!b), H', I', rfl, q'⟩
end
end HB
namespace HB
open PySem PySem.Spec PyProof.Rows L2 Evl NdefX
/-! ### tupled -/
def listed : PyData → PyData
  | .list ds => .tuple ds
  | d => d
def spTup (K : PySem.W.Frag) : Sp := fun vs H Q _ => ∃ (v : V) (d : PyData) (G : Hp), vs = [v] ∧ Ex G H ∧ Dq K G v d ∧ (listed d = d → Q v H) ∧ ∀ (ds : List PyData) (a : Addr) (xs : List V), d = .list ds → v = .ref a → SqL K G a xs → Dqs K G xs ds → ∀ q, H q = none → Q (.ref q) (upd H q (.tup xs))
section
variable {P : Program} {w : World} {K : PySem.W.Frag} {mg : Str → Option Value} {base : Heap}
theorem kit_list (d : PyData) : PySem.W.kitOne K (.type (tyN d)) (.type "list") = some (match d with | .list _ => true | _ => false) := by
  cases d with
  | none => exact kit_ty (a := "NoneType") (r := false) (by decide +kernel)
  | bool _ => exact kit_ty (a := "bool") (r := false) (by decide +kernel)
  | int _ => exact kit_ty (a := "int") (r := false) (by decide +kernel)
  | str _ => exact kit_ty (a := "str") (r := false) (by decide +kernel)
  | list _ => exact kit_ty (a := "list") (r := true) (by decide +kernel)
  | tuple _ => exact kit_ty (a := "tuple") (r := false) (by decide +kernel)
  | dict _ => exact kit_ty (a := "dict") (r := false) (by decide +kernel)

theorem sc_tupled : FnScope ["value"] ["value"] (defScope (top 1)) := ⟨rfl, rfl, rfl, by decide +kernel, rfl, by decide +kernel, by decide +kernel⟩
theorem ok_tupled {f : Addr} {fd : FuncData} (F : FnP K "tupled" (top 1) f fd) (m1 : mg "isinstance" = none) (m2 : mg "tuple" = none) (m3 : mg "list" = none) : FnOk P w K mg base CX0 1 f fd ["value"] (spTup K) := by
  refine F.ok sc_tupled (fun vs H Q E h => ?_) (fun cdv A outer s H vs Q E hr h => ?_)
  · obtain ⟨v, d, G, rfl, _⟩ := h
    rfl
  · obtain ⟨v, d, G, rfl, eg, hd, k1, k2⟩ := h
    refine ⟨_, PSs.nox (pss_one (ps_ret (pe_ifExp (pt_val (pe_callB call_isi (by rfl) m1 (by decide +kernel) (pa_cons (pv 0) (pa_cons (pe_bltn (by rfl) m3 (by decide +kernel) (v := .ty "list") rfl) pa_nil)))) (pe_tupleOf (by rfl) m2 (pv 0)) (pv 0)))), ?_⟩
    refine ⟨_, rfl, v, .ty "list", .type (tyN d), .type "list", _, rfl, .ty "list", (Dq.mono eg hd).ty, kit_list d, _, rfl, ?_⟩
    cases d with
    | list ds =>
      cases hd with
      | @lst a xs _ h1 h2 => exact ⟨_, rfl, .inl ⟨a, xs, rfl, ex_l eg h1, fun q hq => k2 ds a xs rfl rfl h1 h2 q hq⟩⟩
    | none => exact ⟨_, rfl, k1 rfl⟩
    | bool b => exact ⟨_, rfl, k1 rfl⟩
    | int b => exact ⟨_, rfl, k1 rfl⟩
    | str b => exact ⟨_, rfl, k1 rfl⟩
    | tuple b => exact ⟨_, rfl, k1 rfl⟩
    | dict b => exact ⟨_, rfl, k1 rfl⟩
theorem sc__law_listed : FnScope ["_law_value"] ["_law_value"] (defScope (top 15)) := ⟨rfl, rfl, rfl, by decide +kernel, rfl, by decide +kernel, by decide +kernel⟩
theorem ok__law_listed {f : Addr} {fd : FuncData} (F : FnP K "_law_listed" (top 15) f fd) (m1 : mg "isinstance" = none) (m2 : mg "tuple" = none) (m3 : mg "list" = none) : FnOk P w K mg base CX0 1 f fd ["_law_value"] (spTup K) := by
  refine F.ok sc__law_listed (fun vs H Q E h => ?_) (fun cdv A outer s H vs Q E hr h => ?_)
  · obtain ⟨v, d, G, rfl, _⟩ := h
    rfl
  · obtain ⟨v, d, G, rfl, eg, hd, k1, k2⟩ := h
    refine ⟨_, PSs.nox (pss_one (ps_ret (pe_ifExp (pt_val (pe_callB call_isi (by rfl) m1 (by decide +kernel) (pa_cons (pv 0) (pa_cons (pe_bltn (by rfl) m3 (by decide +kernel) (v := .ty "list") rfl) pa_nil)))) (pe_tupleOf (by rfl) m2 (pv 0)) (pv 0)))), ?_⟩
    refine ⟨_, rfl, v, .ty "list", .type (tyN d), .type "list", _, rfl, .ty "list", (Dq.mono eg hd).ty, kit_list d, _, rfl, ?_⟩
    cases d with
    | list ds =>
      cases hd with
      | @lst a xs _ h1 h2 => exact ⟨_, rfl, .inl ⟨a, xs, rfl, ex_l eg h1, fun q hq => k2 ds a xs rfl rfl h1 h2 q hq⟩⟩
    | none => exact ⟨_, rfl, k1 rfl⟩
    | bool b => exact ⟨_, rfl, k1 rfl⟩
    | int b => exact ⟨_, rfl, k1 rfl⟩
    | str b => exact ⟨_, rfl, k1 rfl⟩
    | tuple b => exact ⟨_, rfl, k1 rfl⟩
    | dict b => exact ⟨_, rfl, k1 rfl⟩
theorem updTwo {H : Hp} {a : Addr} {o o' : HO} : upd (upd H a o) a o' = upd H a o' := by
  funext b
  by_cases h : b = a
  · rw [h, upd_same, upd_same]
  · rw [upd_ne h, upd_ne h, upd_ne h]
/-- tupled(x), read -/
theorem rd_tup {σ : L2.St} {H G : Hp} {i : Nat} {v : V} {d : PyData} {Q : VK} (hs : σ[i]? = some (some v)) (eg : Ex G H) (hd : Dq K G v d) (k : ∀ v' H1, Ex H H1 → (∀ G', Ex G G' → (∀ b o, H b = none → H1 b = some o → G' b = some o) → Dq K G' v' (listed d)) → Q v' H1) :
    tCall (spTup K) [] E0 (tCons (tVar i) tNil) σ H Q := by
  refine ⟨v, hs, v, d, G, rfl, eg, hd, fun z => k v H (Ex.refl H) fun G' e _ => by rw [z]; exact Dq.mono e hd, fun ds a xs z1 z2 h1 h2 q hq => ?_⟩
  subst z1
  exact k (.ref q) _ (Ex.new hq) fun G' e n => .tup (st_of (n q _ hq upd_same)) (Dqs.mono e h2)
theorem fresh_in {H H1 : Hp} {a : Addr} {S : Addr → Bool} {o' : HO} (ha : H a = some o') (hp : SAll S (wo a H)) (b : Addr) (u : HO) (h0 : H b = none) (h1 : H1 b = some u) : hid S (wo a H1) b = some u := by
  have na : b ≠ a := fun z => by
    rw [z, ha] at h0
    cases h0
  have np : S b = false := hp.fresh (by rw [wo_ne na, h0])
  rw [hid_ne np, wo_ne na, h1]
/-! ### Statement.__init__ -/
def spStat (K : PySem.W.Frag) : Sp := fun vs H Q _ => ∃ (a C dx : Addr) (x y : V), vs = [.ref a, x, y] ∧ H a = some (.ins C dx []) ∧ Cls K C ∧ NoAttr K C "own_kind" ∧ NoAttr K C "own_parts" ∧ Q .non (upd H a (.ins C dx [("own_kind", x), ("own_parts", y)]))
abbrev sStat : Stmt := inClass (top 3) 0
theorem scStat : FnScope ["self", "kind", "parts"] ["self", "kind", "parts"] (defScope sStat) := ⟨rfl, rfl, rfl, by decide +kernel, rfl, by decide +kernel, by decide +kernel⟩
theorem okStat {f : Addr} {fd : FuncData} (F : FunD K "__init__" "Statement.__init__" (defArgs sStat) (defBody sStat) (defScope sStat) [] [] f fd) : FnOk P w K mg base CX0 1 f fd ["self", "kind", "parts"] (spStat K) := by
  refine F.ok scStat (fun vs H Q E h => ?_) (fun cdv A outer s H vs Q E hr h => ?_)
  · obtain ⟨a, C, dx, x, y, rfl, _⟩ := h
    rfl
  · obtain ⟨a, C, dx, x, y, rfl, ha, c, n1, n2, k⟩ := h
    refine ⟨_, PSs.nox (pss_cons (ps_fld (pv 0) (pv 1) rfl) (pss_one (ps_fld (pv 0) (pv 2) rfl))), ?_⟩
    refine ⟨_, rfl, _, rfl, a, C, dx, [], rfl, ha, c, n1, by decide, ?_⟩
    refine ⟨_, rfl, _, rfl, a, C, dx, [("own_kind", x)], rfl, upd_same, c, n2, by show 1 < 1000; decide, ?_⟩
    rw [updTwo]
    exact k
/-! ### the statements' __init__ -/
/-- a new statement of this kind: what stands at p left aside, its parts are the data's -/
def spIns (K : PySem.W.Frag) (C : Addr) (kind : Str) (m : Nat) (g : List PyData → List PyData) : Sp := fun vs H Q _ => ∃ (a dx : Addr) (xs : List V) (S : Addr → Bool) (ds : List PyData), vs = .ref a :: xs ∧ H a = some (.ins C dx []) ∧ SAll S (wo a H) ∧ Dqs K (hid S (wo a H)) xs ds ∧ ds.length = m ∧
  ∀ (H' : Hp) (t : Addr) (ys : List V), Ex (wo a H) (wo a H') → H' a = some (.ins C dx [("own_kind", .str kind), ("own_parts", .ref t)]) → hid S (wo a H') t = some (.tup ys) → Dqs K (hid S (wo a H')) ys (g ds) → Q .non H'
theorem dqs1 {H : Hp} {xs : List V} {ds : List PyData} (h : Dqs K H xs ds) (hl : ds.length = 1) : ∃ x d, xs = [x] ∧ ds = [d] ∧ Dq K H x d := by
  match xs, ds, h with
  | _, _, .cons a .nil => exact ⟨_, _, rfl, rfl, a⟩
  | _, _, .cons a (.cons b r) => simp at hl
theorem dqs2 {H : Hp} {xs : List V} {ds : List PyData} (h : Dqs K H xs ds) (hl : ds.length = 2) : ∃ x y d e, xs = [x, y] ∧ ds = [d, e] ∧ Dq K H x d ∧ Dq K H y e := by
  match xs, ds, h with
  | _, _, .cons a (.cons b .nil) => exact ⟨_, _, _, _, rfl, rfl, a, b⟩
  | _, _, .cons a .nil => simp at hl
  | _, _, .cons a (.cons b (.cons c r)) => simp at hl
theorem insEnd {C : Addr} {kind : Str} {a dx : Addr} {S : Addr → Bool} {H H1 : Hp} {t : Addr} {ys : List V} {es : List PyData} {Q : VK} (ha : H1 a = some (.ins C dx [])) (hp : SAll S (wo a H)) (e1 : Ex (wo a H) (wo a H1)) (ht : H1 t = none) (hd : Dqs K (hid S (wo a H1)) ys es)
    (k : ∀ (H' : Hp) (t : Addr) (ys : List V), Ex (wo a H) (wo a H') → H' a = some (.ins C dx [("own_kind", .str kind), ("own_parts", .ref t)]) → hid S (wo a H') t = some (.tup ys) → Dqs K (hid S (wo a H')) ys es → Q .non H') :
    Q .non (upd (upd H1 t (.tup ys)) a (.ins C dx [("own_kind", .str kind), ("own_parts", .ref t)])) := by
  have nt : t ≠ a := fun z => by
    rw [z, ha] at ht
    cases ht
  have np : S t = false := (hp.mono e1).fresh (by rw [wo_ne nt, ht])
  have e2 : Ex (wo a H1) (wo a (upd (upd H1 t (.tup ys)) a (.ins C dx [("own_kind", .str kind), ("own_parts", .ref t)]))) := by
    rw [wo_upd]
    exact wo_mono (Ex.new ht)
  refine k _ t ys (e1.trans e2) upd_same ?_ (Dqs.mono (hid_mono e2) hd)
  rw [hid_ne np, wo_ne nt, upd_ne nt, upd_same]
abbrev sShow : Stmt := inClass (top 4) 0
def nfShow (cl : List (Str × Addr)) (c : Addr) : NF := ⟨"__init__", "Show.__init__", defArgs sShow, defBody sShow, defScope sShow, cl, c⟩
def gShow : List PyData → List PyData := id
theorem scShow {cl : List (Str × Addr)} {c : Addr} : NScope ["self", "name", "__class__"] ["self", "name"] ["__class__"] (nfShow cl c).scope := nscope_by (show nscB ["self", "name", "__class__"] ["self", "name"] ["__class__"] (defScope sShow) = true by decide +kernel)
theorem okShow {f D g : Addr} {fd gd : FuncData} {cl : List (Str × Addr)} {c : Addr} {file : Str} (Y : SupF K f (nfShow cl c) file D g) (hfd : ∃ (oc : Value) (od : Option Addr) (sl : Array (Option Value)), K.lookup f = some ⟨oc, od, .func fd, sl⟩) (hfile : ((P.main.file : Str) == file) = true) (htop : (P.main.scope.names.lookup ("super" : Str)).isSome = false) (mgS : mg "super" = none)
    (G : FnOk P w K mg base CX0 2 g gd ["self", "kind", "parts"] (spStat K)) (gb : Binds K gd ["self", "kind", "parts"] []) (cD : Cls K D) (n1 : NoAttr K D "own_kind") (n2 : NoAttr K D "own_parts") : FnOk P w K mg base CX0 3 f fd ["self", "name"] (spIns K D "show" 1 gShow) := by
  refine sup_ok Y hfd scShow rfl rfl rfl rfl rfl hfile htop mgS G gb (fun _ => rfl) (fun _ => rfl) (fun _ => ⟨_, rfl⟩) (fun _ => rfl) (fun _ => rfl) (fun vs H Q E h => ?_) (fun B out s H vs Q E hr h => ?_)
  · obtain ⟨a, dx, xs, S, ds, rfl, _, _, hd, hl, _⟩ := h
    show xs.length + 1 = _
    rw [hd.length, hl]
    rfl
  · obtain ⟨a, dx, xs, S, ds, rfl, ha, hp, hd, hl, k⟩ := h
    obtain ⟨x, d, rfl, rfl, hx⟩ := dqs1 hd hl
    refine ⟨a, dx, [], [x], _, rfl, ha, pa_cons pe_str (pa_cons (pe_tup (pa_cons (pv 1) pa_nil)) pa_nil), ?_⟩
    refine ⟨_, rfl, by show 1 ≤ _; decide, fun t ht => ⟨a, D, dx, _, _, rfl, ?_, cD, n1, n2, rfl, ?_⟩⟩
    · rw [upd_ne (ne_of_none ha ht)]
      exact ha
    · exact insEnd ha hp (Ex.refl _) ht (.cons hx .nil) k
abbrev sAdd : Stmt := inClass (top 5) 0
def nfAdd (cl : List (Str × Addr)) (c : Addr) : NF := ⟨"__init__", "Add.__init__", defArgs sAdd, defBody sAdd, defScope sAdd, cl, c⟩
def gAdd : List PyData → List PyData := id
theorem scAdd {cl : List (Str × Addr)} {c : Addr} : NScope ["self", "name", "many", "__class__"] ["self", "name", "many"] ["__class__"] (nfAdd cl c).scope := nscope_by (show nscB ["self", "name", "many", "__class__"] ["self", "name", "many"] ["__class__"] (defScope sAdd) = true by decide +kernel)
theorem okAdd {f D g : Addr} {fd gd : FuncData} {cl : List (Str × Addr)} {c : Addr} {file : Str} (Y : SupF K f (nfAdd cl c) file D g) (hfd : ∃ (oc : Value) (od : Option Addr) (sl : Array (Option Value)), K.lookup f = some ⟨oc, od, .func fd, sl⟩) (hfile : ((P.main.file : Str) == file) = true) (htop : (P.main.scope.names.lookup ("super" : Str)).isSome = false) (mgS : mg "super" = none)
    (G : FnOk P w K mg base CX0 2 g gd ["self", "kind", "parts"] (spStat K)) (gb : Binds K gd ["self", "kind", "parts"] []) (cD : Cls K D) (n1 : NoAttr K D "own_kind") (n2 : NoAttr K D "own_parts") : FnOk P w K mg base CX0 3 f fd ["self", "name", "many"] (spIns K D "add" 2 gAdd) := by
  refine sup_ok Y hfd scAdd rfl rfl rfl rfl rfl hfile htop mgS G gb (fun _ => rfl) (fun _ => rfl) (fun _ => ⟨_, rfl⟩) (fun _ => rfl) (fun _ => rfl) (fun vs H Q E h => ?_) (fun B out s H vs Q E hr h => ?_)
  · obtain ⟨a, dx, xs, S, ds, rfl, _, _, hd, hl, _⟩ := h
    show xs.length + 1 = _
    rw [hd.length, hl]
    rfl
  · obtain ⟨a, dx, xs, S, ds, rfl, ha, hp, hd, hl, k⟩ := h
    obtain ⟨x, y, d, e, rfl, rfl, hx, hy⟩ := dqs2 hd hl
    refine ⟨a, dx, [], [x, y], _, rfl, ha, pa_cons pe_str (pa_cons (pe_tup (pa_cons (pv 1) (pa_cons (pv 2) pa_nil))) pa_nil), ?_⟩
    refine ⟨_, rfl, _, rfl, by show 2 ≤ _; decide, fun t ht => ⟨a, D, dx, _, _, rfl, ?_, cD, n1, n2, rfl, ?_⟩⟩
    · rw [upd_ne (ne_of_none ha ht)]
      exact ha
    · exact insEnd ha hp (Ex.refl _) ht (.cons hx (.cons hy .nil)) k
abbrev sCall : Stmt := inClass (top 6) 0
def nfCall (cl : List (Str × Addr)) (c : Addr) : NF := ⟨"__init__", "Call.__init__", defArgs sCall, defBody sCall, defScope sCall, cl, c⟩
def gCall : List PyData → List PyData := fun ds => match ds with | [d, e] => [d, listed e] | _ => ds
theorem scCall {cl : List (Str × Addr)} {c : Addr} : NScope ["self", "name", "things", "__class__"] ["self", "name", "things"] ["__class__"] (nfCall cl c).scope := nscope_by (show nscB ["self", "name", "things", "__class__"] ["self", "name", "things"] ["__class__"] (defScope sCall) = true by decide +kernel)
theorem okCall {f D g : Addr} {fd gd : FuncData} {cl : List (Str × Addr)} {c : Addr} {file : Str} {ft : Addr} {td : FuncData} (Y : SupF K f (nfCall cl c) file D g) (hfd : ∃ (oc : Value) (od : Option Addr) (sl : Array (Option Value)), K.lookup f = some ⟨oc, od, .func fd, sl⟩) (hfile : ((P.main.file : Str) == file) = true) (htop : (P.main.scope.names.lookup ("super" : Str)).isSome = false) (mgS : mg "super" = none)
    (G : FnOk P w K mg base CX0 2 g gd ["self", "kind", "parts"] (spStat K)) (gb : Binds K gd ["self", "kind", "parts"] []) (cD : Cls K D) (n1 : NoAttr K D "own_kind") (n2 : NoAttr K D "own_parts") (Gt : FnOk P w K mg base CX0 1 ft td ["value"] (spTup K)) (mt : mg "tupled" = some (.ref ft)) (kt : PySem.W.keepIn K (.ref ft) = true) (bt : Binds K td ["value"] []) : FnOk P w K mg base CX0 3 f fd ["self", "name", "things"] (spIns K D "call" 2 gCall) := by
  refine sup_ok Y hfd scCall rfl rfl rfl rfl rfl hfile htop mgS G gb (fun _ => rfl) (fun _ => rfl) (fun _ => ⟨_, rfl⟩) (fun _ => rfl) (fun _ => rfl) (fun vs H Q E h => ?_) (fun B out s H vs Q E hr h => ?_)
  · obtain ⟨a, dx, xs, S, ds, rfl, _, _, hd, hl, _⟩ := h
    show xs.length + 1 = _
    rw [hd.length, hl]
    rfl
  · obtain ⟨a, dx, xs, S, ds, rfl, ha, hp, hd, hl, k⟩ := h
    obtain ⟨x, y, d, e, rfl, rfl, hx, hy⟩ := dqs2 hd hl
    refine ⟨a, dx, [], [x, y], _, rfl, ha, pa_cons pe_str (pa_cons (pe_tup (pa_cons (pv 1) (pa_cons (pe_call Gt (hr.mono (by decide)) rfl mt kt bt .nil pass0 (pa_cons (pv 2) pa_nil)) pa_nil))) pa_nil), ?_⟩
    refine ⟨_, rfl, rd_tup rfl (hid_ex.trans wo_ex) hy fun y' H1 e1 hy1 => ⟨by show 2 ≤ _; decide, fun t ht => ⟨a, D, dx, _, _, rfl, ?_, cD, n1, n2, rfl, ?_⟩⟩⟩
    · rw [upd_ne (ne_of_none (e1 _ _ ha) ht)]
      exact e1 _ _ ha
    · exact insEnd (e1 _ _ ha) hp (wo_mono e1) ht (.cons (Dq.mono (hid_mono (wo_mono e1)) hx) (.cons (hy1 _ (hid_mono (wo_mono e1)) (fun b u h0 h1 => fresh_in ha hp b u h0 h1)) .nil)) k
abbrev sGive : Stmt := inClass (top 7) 0
def nfGive (cl : List (Str × Addr)) (c : Addr) : NF := ⟨"__init__", "Give.__init__", defArgs sGive, defBody sGive, defScope sGive, cl, c⟩
def gGive : List PyData → List PyData := id
theorem scGive {cl : List (Str × Addr)} {c : Addr} : NScope ["self", "name", "__class__"] ["self", "name"] ["__class__"] (nfGive cl c).scope := nscope_by (show nscB ["self", "name", "__class__"] ["self", "name"] ["__class__"] (defScope sGive) = true by decide +kernel)
theorem okGive {f D g : Addr} {fd gd : FuncData} {cl : List (Str × Addr)} {c : Addr} {file : Str} (Y : SupF K f (nfGive cl c) file D g) (hfd : ∃ (oc : Value) (od : Option Addr) (sl : Array (Option Value)), K.lookup f = some ⟨oc, od, .func fd, sl⟩) (hfile : ((P.main.file : Str) == file) = true) (htop : (P.main.scope.names.lookup ("super" : Str)).isSome = false) (mgS : mg "super" = none)
    (G : FnOk P w K mg base CX0 2 g gd ["self", "kind", "parts"] (spStat K)) (gb : Binds K gd ["self", "kind", "parts"] []) (cD : Cls K D) (n1 : NoAttr K D "own_kind") (n2 : NoAttr K D "own_parts") : FnOk P w K mg base CX0 3 f fd ["self", "name"] (spIns K D "give" 1 gGive) := by
  refine sup_ok Y hfd scGive rfl rfl rfl rfl rfl hfile htop mgS G gb (fun _ => rfl) (fun _ => rfl) (fun _ => ⟨_, rfl⟩) (fun _ => rfl) (fun _ => rfl) (fun vs H Q E h => ?_) (fun B out s H vs Q E hr h => ?_)
  · obtain ⟨a, dx, xs, S, ds, rfl, _, _, hd, hl, _⟩ := h
    show xs.length + 1 = _
    rw [hd.length, hl]
    rfl
  · obtain ⟨a, dx, xs, S, ds, rfl, ha, hp, hd, hl, k⟩ := h
    obtain ⟨x, d, rfl, rfl, hx⟩ := dqs1 hd hl
    refine ⟨a, dx, [], [x], _, rfl, ha, pa_cons pe_str (pa_cons (pe_tup (pa_cons (pv 1) pa_nil)) pa_nil), ?_⟩
    refine ⟨_, rfl, by show 1 ≤ _; decide, fun t ht => ⟨a, D, dx, _, _, rfl, ?_, cD, n1, n2, rfl, ?_⟩⟩
    · rw [upd_ne (ne_of_none ha ht)]
      exact ha
    · exact insEnd ha hp (Ex.refl _) ht (.cons hx .nil) k
abbrev sEither : Stmt := inClass (top 8) 0
def nfEither (cl : List (Str × Addr)) (c : Addr) : NF := ⟨"__init__", "Either.__init__", defArgs sEither, defBody sEither, defScope sEither, cl, c⟩
def gEither : List PyData → List PyData := fun ds => ds.map listed
theorem scEither {cl : List (Str × Addr)} {c : Addr} : NScope ["self", "one", "other", "__class__"] ["self", "one", "other"] ["__class__"] (nfEither cl c).scope := nscope_by (show nscB ["self", "one", "other", "__class__"] ["self", "one", "other"] ["__class__"] (defScope sEither) = true by decide +kernel)
theorem okEither {f D g : Addr} {fd gd : FuncData} {cl : List (Str × Addr)} {c : Addr} {file : Str} {ft : Addr} {td : FuncData} (Y : SupF K f (nfEither cl c) file D g) (hfd : ∃ (oc : Value) (od : Option Addr) (sl : Array (Option Value)), K.lookup f = some ⟨oc, od, .func fd, sl⟩) (hfile : ((P.main.file : Str) == file) = true) (htop : (P.main.scope.names.lookup ("super" : Str)).isSome = false) (mgS : mg "super" = none)
    (G : FnOk P w K mg base CX0 2 g gd ["self", "kind", "parts"] (spStat K)) (gb : Binds K gd ["self", "kind", "parts"] []) (cD : Cls K D) (n1 : NoAttr K D "own_kind") (n2 : NoAttr K D "own_parts") (Gt : FnOk P w K mg base CX0 1 ft td ["value"] (spTup K)) (mt : mg "tupled" = some (.ref ft)) (kt : PySem.W.keepIn K (.ref ft) = true) (bt : Binds K td ["value"] []) : FnOk P w K mg base CX0 3 f fd ["self", "one", "other"] (spIns K D "either" 2 gEither) := by
  refine sup_ok Y hfd scEither rfl rfl rfl rfl rfl hfile htop mgS G gb (fun _ => rfl) (fun _ => rfl) (fun _ => ⟨_, rfl⟩) (fun _ => rfl) (fun _ => rfl) (fun vs H Q E h => ?_) (fun B out s H vs Q E hr h => ?_)
  · obtain ⟨a, dx, xs, S, ds, rfl, _, _, hd, hl, _⟩ := h
    show xs.length + 1 = _
    rw [hd.length, hl]
    rfl
  · obtain ⟨a, dx, xs, S, ds, rfl, ha, hp, hd, hl, k⟩ := h
    obtain ⟨x, y, d, e, rfl, rfl, hx, hy⟩ := dqs2 hd hl
    refine ⟨a, dx, [], [x, y], _, rfl, ha, pa_cons pe_str (pa_cons (pe_tup (pa_cons (pe_call Gt (hr.mono (by decide)) rfl mt kt bt .nil pass0 (pa_cons (pv 1) pa_nil)) (pa_cons (pe_call Gt (hr.mono (by decide)) rfl mt kt bt .nil pass0 (pa_cons (pv 2) pa_nil)) pa_nil))) pa_nil), ?_⟩
    refine rd_tup rfl (hid_ex.trans wo_ex) hx fun x1 H1 e1 hx1 => rd_tup (G := hid S (wo a H1)) rfl (hid_ex.trans wo_ex) (Dq.mono (hid_mono (wo_mono e1)) hy) fun y1 H2 e2 hy2 => ⟨by show 2 ≤ _; decide, fun t ht => ⟨a, D, dx, _, _, rfl, ?_, cD, n1, n2, rfl, ?_⟩⟩
    · rw [upd_ne (ne_of_none (e2 _ _ (e1 _ _ ha)) ht)]
      exact e2 _ _ (e1 _ _ ha)
    · exact insEnd (e2 _ _ (e1 _ _ ha)) hp ((wo_mono e1).trans (wo_mono e2)) ht (.cons (Dq.mono (hid_mono (wo_mono e2)) (hx1 _ (hid_mono (wo_mono e1)) (fun b u h0 h1 => fresh_in ha hp b u h0 h1))) (.cons (hy2 _ (hid_mono (wo_mono e2)) (fun b u h0 h1 => fresh_in (e1 _ _ ha) (hp.mono (wo_mono e1)) b u h0 h1)) .nil)) k
end
end HB
namespace HB
open PySem PySem.Spec PyProof.Rows L2 Evl
/-! ### the five kinds of statement -/
def kn (i : Nat) : Str := (["Show", "Add", "Call", "Give", "Either"] : List Str).getD i ""
def kw (i : Nat) : Str := (["show", "add", "call", "give", "either"] : List Str).getD i ""
def cS (K : PySem.W.Frag) (i : Nat) : Addr := He.ga K (kn i)
def fI (K : PySem.W.Frag) (i : Nat) : Addr := He.ma K (cS K i) "__init__"
def cB (K : PySem.W.Frag) : Addr := He.ga K "Statement"
def fE (K : PySem.W.Frag) : Addr := He.ma K (cB K) "__eq__"
structure ObjC (K : PySem.W.Frag) (C : Addr) : Prop where
  cls : Cls K C
  ha : PySem.W.findIn K (.ref C) "__class__" = some (some (.builtin "object.__class__"))
  hn : PySem.W.specialIn K (.builtin "object.__class__") "__get__" = some (some (.builtin "getset_descriptor.__get__"))
  htk : PySem.W.takesIn K (.builtin "object.__class__") = some true
  hm : PySem.W.mroIn K C (.type "object") = some true
theorem ObjC.ty {K : PySem.W.Frag} {C a dx : Addr} {fs : List (Str × V)} {H : Hp} (o : ObjC K C) (h : H a = some (.ins C dx fs)) : TyX K H (.ref a) (.ref C) := .base (.ins h o.cls o.ha o.hn o.htk o.hm)
structure StC (K : PySem.W.Frag) (mg : Str → Option Value) (i : Nat) : Prop where
  ob : ObjC K (cS K i)
  mkr : Mk K (cS K i) (fI K i)
  own : OwnEqC K (cS K i) (fE K)
  nk : NoAttr K (cS K i) "own_kind"
  np : NoAttr K (cS K i) "own_parts"
  mgC : mg (kn i) = some (.ref (cS K i))
  kitS : PySem.W.kitOne K (.ref (cS K i)) (.ref (cB K)) = some true
  kit : ∀ j, j < 5 → PySem.W.kitOne K (.ref (cS K i)) (.ref (cS K j)) = some (decide (i = j))
  nf : ∀ j, j < 5 → PySem.W.notFirst K (cS K i) (.ref (cS K j)) = true
/-- a statement's piece: its kind, its parts as data -/
def IsPc (K : PySem.W.Frag) (S : Addr → Bool) (i : Nat) (ds : List PyData) : V → Hp → Prop := fun v H => ∃ (a dx t : Addr) (ys : List V), v = .ref a ∧ hid S H a = some (.ins (cS K i) dx [("own_kind", .str (kw i)), ("own_parts", .ref t)]) ∧ hid S H t = some (.tup ys) ∧ Dqs K (hid S H) ys ds
theorem isPc_w {K : PySem.W.Frag} {S : Addr → Bool} {i : Nat} {ds : List PyData} : MonoW S (IsPc K S i ds) := fun _ _ _ e ⟨a, dx, t, ys, z, h1, h2, h3⟩ => ⟨a, dx, t, ys, z, e _ _ h1, e _ _ h2, Dqs.mono e h3⟩
section
variable {P : Program} {w : World} {K : PySem.W.Frag} {mg : Str → Option Value} {base : Heap}
/-- C(..) where it is a statement -/
theorem er_piece {i : Nat} {m : Nat} {g : List PyData → List PyData} {σ : L2.St} {tl : TA} {S : Addr → Bool} {p c : Addr} {ns : List Int} {n n1 : Nat} {H : Hp} {ds : List PyData} (ht : AQ S p c ns tl σ H n n1 (AreD K S ds)) (hl : ds.length = m) :
    EQ S p c ns (tMake (cS K i) (spIns K (cS K i) (kw i) m g) [] E0 tl) σ H n n1 (IsPc K S i (g ds)) := fun H1 e1 hp hS Q q =>
  ht H1 e1 hp hS _ fun xs H2 e2 hp2 hx => fun x dx hx0 hdx ne => by
    have hS2 := hS.of_wx e2 hp2
    have ex : Ex H2 (wo x (upd (upd H2 dx (.own x)) x (.ins (cS K i) dx []))) := by
      rw [wo_upd]
      intro b o hb
      rw [wo_ne (ne_of_none hb hx0), upd_ne (ne_of_none hb hdx)]
      exact hb
    refine ⟨x, dx, xs ++ [], S, ds, rfl, upd_same, hS2.mono ex, by rw [List.append_nil]; exact Dqs.mono (hid_mono ex) hx, hl, fun H' t ys e' ha ht' hd' => ⟨rfl, ?_⟩⟩
    have eH : Ex H2 H' := (ex.trans e').trans wo_ex
    have em : Ex (hid S (wo x H')) (hid S H') := hid_mono wo_ex
    exact q (.ref x) H' (e2.trans (.of eH hS2)) (hp2.mono eH (Nat.le_refl _)) ⟨x, dx, t, ys, rfl, by rw [hid_ne (hS2.fresh hx0)]; exact ha, em _ _ ht', Dqs.mono em hd'⟩
/-! ### the parts, by properties -/
def spPart (K : PySem.W.Frag) (j : Nat) : Sp := fun vs H Q _ => ∃ (a C dx t : Addr) (fs : List (Str × V)) (xs : List V) (v : V), vs = [.ref a] ∧ H a = some (.ins C dx fs) ∧ Cls K C ∧ NoAttr K C "own_parts" ∧ fs.lookup ("own_parts" : Str) = some (V.ref t) ∧ SqT K H t xs ∧ xs[j]? = some v ∧ Q v H
abbrev sShow_name : Stmt := inClass (top 4) 1
theorem scShow_name : FnScope ["self"] ["self"] (defScope sShow_name) := ⟨rfl, rfl, rfl, by decide +kernel, rfl, by decide +kernel, by decide +kernel⟩
theorem okShow_name {f : Addr} {fd : FuncData} (F : FunD K "name" "Show.name" (defArgs sShow_name) (defBody sShow_name) (defScope sShow_name) [] [] f fd) : FnOk P w K mg base CX0 1 f fd ["self"] (spPart K 0) := by
  refine F.ok scShow_name (fun vs H Q E h => ?_) (fun cdv A outer s H vs Q E hr h => ?_)
  · obtain ⟨a, C, dx, t, fs, xs, v, rfl, _⟩ := h
    rfl
  · obtain ⟨a, C, dx, t, fs, xs, v, rfl, ha, c, na, hf, ht, hv, k⟩ := h
    refine ⟨_, PSs.nox (pss_one (ps_ret (pe_ix ix_tup (pe_fld (pv 0) rfl) pe_int (fun _ _ => rfl)))), ?_⟩
    exact ⟨_, rfl, a, C, dx, fs, _, rfl, ha, c, na, hf, t, xs, 0, v, rfl, rfl, ht, atI_nat (j := 0) hv, k⟩
abbrev sAdd_name : Stmt := inClass (top 5) 1
theorem scAdd_name : FnScope ["self"] ["self"] (defScope sAdd_name) := ⟨rfl, rfl, rfl, by decide +kernel, rfl, by decide +kernel, by decide +kernel⟩
theorem okAdd_name {f : Addr} {fd : FuncData} (F : FunD K "name" "Add.name" (defArgs sAdd_name) (defBody sAdd_name) (defScope sAdd_name) [] [] f fd) : FnOk P w K mg base CX0 1 f fd ["self"] (spPart K 0) := by
  refine F.ok scAdd_name (fun vs H Q E h => ?_) (fun cdv A outer s H vs Q E hr h => ?_)
  · obtain ⟨a, C, dx, t, fs, xs, v, rfl, _⟩ := h
    rfl
  · obtain ⟨a, C, dx, t, fs, xs, v, rfl, ha, c, na, hf, ht, hv, k⟩ := h
    refine ⟨_, PSs.nox (pss_one (ps_ret (pe_ix ix_tup (pe_fld (pv 0) rfl) pe_int (fun _ _ => rfl)))), ?_⟩
    exact ⟨_, rfl, a, C, dx, fs, _, rfl, ha, c, na, hf, t, xs, 0, v, rfl, rfl, ht, atI_nat (j := 0) hv, k⟩
abbrev sAdd_many : Stmt := inClass (top 5) 2
theorem scAdd_many : FnScope ["self"] ["self"] (defScope sAdd_many) := ⟨rfl, rfl, rfl, by decide +kernel, rfl, by decide +kernel, by decide +kernel⟩
theorem okAdd_many {f : Addr} {fd : FuncData} (F : FunD K "many" "Add.many" (defArgs sAdd_many) (defBody sAdd_many) (defScope sAdd_many) [] [] f fd) : FnOk P w K mg base CX0 1 f fd ["self"] (spPart K 1) := by
  refine F.ok scAdd_many (fun vs H Q E h => ?_) (fun cdv A outer s H vs Q E hr h => ?_)
  · obtain ⟨a, C, dx, t, fs, xs, v, rfl, _⟩ := h
    rfl
  · obtain ⟨a, C, dx, t, fs, xs, v, rfl, ha, c, na, hf, ht, hv, k⟩ := h
    refine ⟨_, PSs.nox (pss_one (ps_ret (pe_ix ix_tup (pe_fld (pv 0) rfl) pe_int (fun _ _ => rfl)))), ?_⟩
    exact ⟨_, rfl, a, C, dx, fs, _, rfl, ha, c, na, hf, t, xs, 1, v, rfl, rfl, ht, atI_nat (j := 1) hv, k⟩
abbrev sCall_name : Stmt := inClass (top 6) 1
theorem scCall_name : FnScope ["self"] ["self"] (defScope sCall_name) := ⟨rfl, rfl, rfl, by decide +kernel, rfl, by decide +kernel, by decide +kernel⟩
theorem okCall_name {f : Addr} {fd : FuncData} (F : FunD K "name" "Call.name" (defArgs sCall_name) (defBody sCall_name) (defScope sCall_name) [] [] f fd) : FnOk P w K mg base CX0 1 f fd ["self"] (spPart K 0) := by
  refine F.ok scCall_name (fun vs H Q E h => ?_) (fun cdv A outer s H vs Q E hr h => ?_)
  · obtain ⟨a, C, dx, t, fs, xs, v, rfl, _⟩ := h
    rfl
  · obtain ⟨a, C, dx, t, fs, xs, v, rfl, ha, c, na, hf, ht, hv, k⟩ := h
    refine ⟨_, PSs.nox (pss_one (ps_ret (pe_ix ix_tup (pe_fld (pv 0) rfl) pe_int (fun _ _ => rfl)))), ?_⟩
    exact ⟨_, rfl, a, C, dx, fs, _, rfl, ha, c, na, hf, t, xs, 0, v, rfl, rfl, ht, atI_nat (j := 0) hv, k⟩
abbrev sCall_things : Stmt := inClass (top 6) 2
theorem scCall_things : FnScope ["self"] ["self"] (defScope sCall_things) := ⟨rfl, rfl, rfl, by decide +kernel, rfl, by decide +kernel, by decide +kernel⟩
theorem okCall_things {f : Addr} {fd : FuncData} (F : FunD K "things" "Call.things" (defArgs sCall_things) (defBody sCall_things) (defScope sCall_things) [] [] f fd) : FnOk P w K mg base CX0 1 f fd ["self"] (spPart K 1) := by
  refine F.ok scCall_things (fun vs H Q E h => ?_) (fun cdv A outer s H vs Q E hr h => ?_)
  · obtain ⟨a, C, dx, t, fs, xs, v, rfl, _⟩ := h
    rfl
  · obtain ⟨a, C, dx, t, fs, xs, v, rfl, ha, c, na, hf, ht, hv, k⟩ := h
    refine ⟨_, PSs.nox (pss_one (ps_ret (pe_ix ix_tup (pe_fld (pv 0) rfl) pe_int (fun _ _ => rfl)))), ?_⟩
    exact ⟨_, rfl, a, C, dx, fs, _, rfl, ha, c, na, hf, t, xs, 1, v, rfl, rfl, ht, atI_nat (j := 1) hv, k⟩
abbrev sGive_name : Stmt := inClass (top 7) 1
theorem scGive_name : FnScope ["self"] ["self"] (defScope sGive_name) := ⟨rfl, rfl, rfl, by decide +kernel, rfl, by decide +kernel, by decide +kernel⟩
theorem okGive_name {f : Addr} {fd : FuncData} (F : FunD K "name" "Give.name" (defArgs sGive_name) (defBody sGive_name) (defScope sGive_name) [] [] f fd) : FnOk P w K mg base CX0 1 f fd ["self"] (spPart K 0) := by
  refine F.ok scGive_name (fun vs H Q E h => ?_) (fun cdv A outer s H vs Q E hr h => ?_)
  · obtain ⟨a, C, dx, t, fs, xs, v, rfl, _⟩ := h
    rfl
  · obtain ⟨a, C, dx, t, fs, xs, v, rfl, ha, c, na, hf, ht, hv, k⟩ := h
    refine ⟨_, PSs.nox (pss_one (ps_ret (pe_ix ix_tup (pe_fld (pv 0) rfl) pe_int (fun _ _ => rfl)))), ?_⟩
    exact ⟨_, rfl, a, C, dx, fs, _, rfl, ha, c, na, hf, t, xs, 0, v, rfl, rfl, ht, atI_nat (j := 0) hv, k⟩
abbrev sEither_one : Stmt := inClass (top 8) 1
theorem scEither_one : FnScope ["self"] ["self"] (defScope sEither_one) := ⟨rfl, rfl, rfl, by decide +kernel, rfl, by decide +kernel, by decide +kernel⟩
theorem okEither_one {f : Addr} {fd : FuncData} (F : FunD K "one" "Either.one" (defArgs sEither_one) (defBody sEither_one) (defScope sEither_one) [] [] f fd) : FnOk P w K mg base CX0 1 f fd ["self"] (spPart K 0) := by
  refine F.ok scEither_one (fun vs H Q E h => ?_) (fun cdv A outer s H vs Q E hr h => ?_)
  · obtain ⟨a, C, dx, t, fs, xs, v, rfl, _⟩ := h
    rfl
  · obtain ⟨a, C, dx, t, fs, xs, v, rfl, ha, c, na, hf, ht, hv, k⟩ := h
    refine ⟨_, PSs.nox (pss_one (ps_ret (pe_ix ix_tup (pe_fld (pv 0) rfl) pe_int (fun _ _ => rfl)))), ?_⟩
    exact ⟨_, rfl, a, C, dx, fs, _, rfl, ha, c, na, hf, t, xs, 0, v, rfl, rfl, ht, atI_nat (j := 0) hv, k⟩
abbrev sEither_other : Stmt := inClass (top 8) 2
theorem scEither_other : FnScope ["self"] ["self"] (defScope sEither_other) := ⟨rfl, rfl, rfl, by decide +kernel, rfl, by decide +kernel, by decide +kernel⟩
theorem okEither_other {f : Addr} {fd : FuncData} (F : FunD K "other" "Either.other" (defArgs sEither_other) (defBody sEither_other) (defScope sEither_other) [] [] f fd) : FnOk P w K mg base CX0 1 f fd ["self"] (spPart K 1) := by
  refine F.ok scEither_other (fun vs H Q E h => ?_) (fun cdv A outer s H vs Q E hr h => ?_)
  · obtain ⟨a, C, dx, t, fs, xs, v, rfl, _⟩ := h
    rfl
  · obtain ⟨a, C, dx, t, fs, xs, v, rfl, ha, c, na, hf, ht, hv, k⟩ := h
    refine ⟨_, PSs.nox (pss_one (ps_ret (pe_ix ix_tup (pe_fld (pv 0) rfl) pe_int (fun _ _ => rfl)))), ?_⟩
    exact ⟨_, rfl, a, C, dx, fs, _, rfl, ha, c, na, hf, t, xs, 1, v, rfl, rfl, ht, atI_nat (j := 1) hv, k⟩
/-! ### Statement.__eq__ -/
def eqPc (i j : Nat) (ds es : List PyData) : Bool := kw i == kw j && eqDs ds es
def spEqS (K : PySem.W.Frag) : Sp := fun vs H Q _ => ∃ (a : Addr) (y : V) (S : Addr → Bool) (i : Nat) (ds : List PyData), vs = [.ref a, y] ∧ i < 5 ∧ IsPc K S i ds (.ref a) H ∧ okDs ds = true ∧ PyData.depthAll ds ≤ 50 ∧
  ((∃ t, TyX K H y t ∧ PySem.W.kitOne K t (.ref (cB K)) = some false ∧ Q (.bl false) H) ∨ ∃ j es, j < 5 ∧ IsPc K S j es y H ∧ okDs es = true ∧ ∀ H', Ex H H' → Q (.bl (eqPc i j ds es)) H')
abbrev sEqS : Stmt := inClass (top 3) 1
theorem scEqS : FnScope ["self", "other"] ["self", "other"] (defScope sEqS) := ⟨rfl, rfl, rfl, by decide +kernel, rfl, by decide +kernel, by decide +kernel⟩
theorem okEqS {f : Addr} {fd : FuncData} (F : FunD K "__eq__" "Statement.__eq__" (defArgs sEqS) (defBody sEqS) (defScope sEqS) [] [] f fd) (T : ∀ i, i < 5 → StC K mg i) (m1 : mg "isinstance" = none) (mS : mg "Statement" = some (.ref (cB K))) : FnOk P w K mg base CX0 1 f fd ["self", "other"] (spEqS K) := by
  refine F.ok scEqS (fun vs H Q E h => ?_) (fun cdv A outer s H vs Q E hr h => ?_)
  · obtain ⟨a, y, S, i, ds, rfl, _⟩ := h
    rfl
  · obtain ⟨a, y, S, i, ds, rfl, hi, ⟨a', dx, t, ys, z, ha, ht, hd⟩, od, dd, h⟩ := h
    cases z
    have ha' := hid_ex _ _ ha
    refine ⟨_, PSs.nox (pss_cons (ps_if (pt_not (pt_val (pe_callB call_isi (by rfl) m1 (by decide +kernel) (pa_cons (pv 1) (pa_cons (pe_glob (by rfl) mS (v := .ref (cB K)) rfl) pa_nil))))) (pss_one (ps_ret pe_bl)) pss_nil)
      (pss_one (ps_ret (pe_cmpR (op_eqQ hr.units) (pe_tup (pa_cons (pe_fld (pv 0) rfl) (pa_cons (pe_fld (pv 0) rfl) pa_nil))) (pe_tup (pa_cons (pe_fld (pv 1) rfl) (pa_cons (pe_fld (pv 1) rfl) pa_nil))) (nomark _))))), ?_⟩
    rcases h with ⟨ty, hy, hk, q⟩ | ⟨j, es, hj, ⟨b, dx2, t2, zs, z2, hb, ht2, hd2⟩, oe, q⟩
    · exact ⟨_, rfl, y, .ref (cB K), ty, .ref (cB K), false, rfl, .own _, hy, hk, _, rfl, q⟩
    · cases z2
      have hb' := hid_ex _ _ hb
      have c1 := (T i hi).ob
      have c2 := (T j hj).ob
      refine ⟨_, rfl, _, .ref (cB K), _, .ref (cB K), true, rfl, .own _, c2.ty hb', (T j hj).kitS, _, rfl, ?_⟩
      refine ⟨_, rfl, a, _, _, _, _, rfl, ha', c1.cls, (T i hi).nk, rfl, _, rfl, a, _, _, _, _, rfl, ha', c1.cls, (T i hi).np, rfl, by show 2 ≤ _; decide, fun u1 hu1 => ?_⟩
      have e1 := Ex.new (o := .tup [.str (kw i), .ref t]) hu1
      refine ⟨_, rfl, b, _, _, _, _, rfl, e1 _ _ hb', c2.cls, (T j hj).nk, rfl, _, rfl, b, _, _, _, _, rfl, e1 _ _ hb', c2.cls, (T j hj).np, rfl, by show 2 ≤ _; decide, fun u2 hu2 => ?_⟩
      have e2 := Ex.new (o := .tup [.str (kw j), .ref t2]) hu2
      have e12 := e1.trans e2
      refine ⟨.tuple [.str (kw i), .tuple ds], .tuple [.str (kw j), .tuple es], ?_, ?_, ?_, ?_, ?_, ?_⟩
      · exact .tup (st_of (e2 _ _ upd_same)) (.cons (.str _) (.cons (.tup (st_of (e12 _ _ (hid_ex _ _ ht))) (Dqs.mono (hid_ex.trans e12) hd)) .nil))
      · exact .tup (st_of upd_same) (.cons (.str _) (.cons (.tup (st_of (e12 _ _ (hid_ex _ _ ht2))) (Dqs.mono (hid_ex.trans e12) hd2)) .nil))
      · simp [okD, okDs, od]
      · simp [okD, okDs, oe]
      · show PyData.depthAll [.str (kw i), .tuple ds] + 1 ≤ 60
        have : PyData.depthAll [.str (kw i), .tuple ds] = max 0 (max (PyData.depthAll ds + 1) 0) := rfl
        omega
      · have e : eqD (.tuple [.str (kw i), .tuple ds]) (.tuple [.str (kw j), .tuple es]) = eqPc i j ds es := by
          rw [eqD, eqDs, eqDs, eqDs, eqD]
          show ((kw i == kw j) && (eqDs ds es && true)) = _
          rw [Bool.and_true]
          rfl
        rw [e]
        exact q _ e12
end
end HB
namespace HB
open PySem PySem.Spec PyProof.Rows L2 Evl
/-! ### the class Function -/
def cF (K : PySem.W.Frag) : Addr := He.ga K "Function"
def fFE (K : PySem.W.Frag) : Addr := He.ma K (cF K) "__eq__"
def funF (y0 y1 y2 y3 y4 y5 : V) (t : Addr) : List (Str × V) := [("own_name", y0), ("own_parameters", y1), ("own_things", y2), ("own_numbers", y3), ("own_functions", y4), ("own_body", y5), ("own_parts", .ref t)]
def gF : List PyData → List PyData
  | [] => []
  | d :: ds => d :: ds.map listed
def fns : List Str := ["own_name", "own_parameters", "own_things", "own_numbers", "own_functions", "own_body", "own_parts"]
structure FnC (K : PySem.W.Frag) (mg : Str → Option Value) : Prop where
  ob : ObjC K (cF K)
  mkr : Mk K (cF K) (He.ma K (cF K) "__init__")
  own : OwnEqC K (cF K) (fFE K)
  no : ∀ f ∈ fns, NoAttr K (cF K) f
  mgC : mg "Function" = some (.ref (cF K))
  kit : PySem.W.kitOne K (.ref (cF K)) (.ref (cF K)) = some true
  nf : PySem.W.notFirst K (cF K) (.ref (cF K)) = true
  kst : PySem.W.kitOne K (.type "str") (.ref (cF K)) = some false
def IsFn (K : PySem.W.Frag) (S : Addr → Bool) (ds : List PyData) : V → Hp → Prop := fun v H => ∃ (a dx t : Addr) (y0 y1 y2 y3 y4 y5 : V), v = .ref a ∧ hid S H a = some (.ins (cF K) dx (funF y0 y1 y2 y3 y4 y5 t)) ∧ hid S H t = some (.tup [y0, y1, y2, y3, y4, y5]) ∧ Dqs K (hid S H) [y0, y1, y2, y3, y4, y5] ds
theorem isFn_w {K : PySem.W.Frag} {S : Addr → Bool} {ds : List PyData} : MonoW S (IsFn K S ds) := fun _ _ _ e ⟨a, dx, t, y0, y1, y2, y3, y4, y5, z, h1, h2, h3⟩ => ⟨a, dx, t, y0, y1, y2, y3, y4, y5, z, e _ _ h1, e _ _ h2, Dqs.mono e h3⟩
def spFun (K : PySem.W.Frag) (C : Addr) : Sp := fun vs H Q _ => ∃ (a dx : Addr) (xs : List V) (S : Addr → Bool) (ds : List PyData), vs = .ref a :: xs ∧ H a = some (.ins C dx []) ∧ SAll S (wo a H) ∧ Dqs K (hid S (wo a H)) xs ds ∧ ds.length = 6 ∧
  ∀ (H' : Hp) (t : Addr) (y0 y1 y2 y3 y4 y5 : V), Ex (wo a H) (wo a H') → H' a = some (.ins C dx (funF y0 y1 y2 y3 y4 y5 t)) → hid S (wo a H') t = some (.tup [y0, y1, y2, y3, y4, y5]) → Dqs K (hid S (wo a H')) [y0, y1, y2, y3, y4, y5] (gF ds) → Q .non H'
section
variable {P : Program} {w : World} {K : PySem.W.Frag} {mg : Str → Option Value} {base : Heap}
theorem q_fun {σ : L2.St} {H : Hp} {D : Ends} {tz : TS} {i : Nat} {a C dx : Addr} {S : Addr → Bool} {fs : List (Str × V)} {v : V} {d : PyData} {f : Str} (h0 : σ[0]? = some (some (.ref a))) (hi : σ[i]? = some (some v)) (ha : H a = some (.ins C dx fs)) (hp : SAll S (wo a H)) (hd : Dq K (hid S (wo a H)) v d) (c : Cls K C) (na : NoAttr K C f) (hz : fs.length < 1000)
    (k : ∀ y H2, Ex (wo a H) (wo a H2) → H2 a = some (.ins C dx (putF f y fs)) → Dq K (hid S (wo a H2)) y (listed d) → tz D σ H2) : tSeq (sFld K (tVar 0) (tCall (spTup K) [] E0 (tCons (tVar i) tNil)) f) tz D σ H := by
  refine rd_tup hi (hid_ex.trans wo_ex) hd fun y H1 e1 hy => ⟨_, h0, a, C, dx, fs, rfl, e1 _ _ ha, c, na, hz, ?_⟩
  refine k y _ ?_ upd_same ?_
  · rw [wo_upd]
    exact wo_mono e1
  · rw [wo_upd]
    exact hy _ (hid_mono (wo_mono e1)) fun b u z1 z2 => fresh_in ha hp b u z1 z2
theorem dqs6 {H : Hp} {xs : List V} {ds : List PyData} (h : Dqs K H xs ds) (hl : ds.length = 6) : ∃ x0 x1 x2 x3 x4 x5 d0 d1 d2 d3 d4 d5, xs = [x0, x1, x2, x3, x4, x5] ∧ ds = [d0, d1, d2, d3, d4, d5] ∧ Dq K H x0 d0 ∧ Dq K H x1 d1 ∧ Dq K H x2 d2 ∧ Dq K H x3 d3 ∧ Dq K H x4 d4 ∧ Dq K H x5 d5 := by
  match ds, hl with
  | [d0, d1, d2, d3, d4, d5], _ =>
    cases h with
    | cons h0 h =>
    cases h with
    | cons h1 h =>
    cases h with
    | cons h2 h =>
    cases h with
    | cons h3 h =>
    cases h with
    | cons h4 h =>
    cases h with
    | cons h5 h =>
    cases h
    exact ⟨_, _, _, _, _, _, _, _, _, _, _, _, rfl, rfl, h0, h1, h2, h3, h4, h5⟩
abbrev sFun : Stmt := inClass (top 9) 0
theorem scFun : FnScope ["self", "name", "parameters", "things", "numbers", "functions", "body"] ["self", "name", "parameters", "things", "numbers", "functions", "body"] (defScope sFun) := ⟨rfl, rfl, rfl, by decide +kernel, rfl, by decide +kernel, by decide +kernel⟩
theorem okFun {f ft : Addr} {fd td : FuncData} {dvs : List V} {kws : List (Str × V)} (F : FunD K "__init__" "Function.__init__" (defArgs sFun) (defBody sFun) (defScope sFun) dvs kws f fd) (T : FnC K mg) (Gt : FnOk P w K mg base CX0 1 ft td ["value"] (spTup K)) (mt : mg "tupled" = some (.ref ft)) (kt : PySem.W.keepIn K (.ref ft) = true) (bt : Binds K td ["value"] []) :
    FnOk P w K mg base CX0 2 f fd ["self", "name", "parameters", "things", "numbers", "functions", "body"] (spFun K (cF K)) := by
  refine F.ok scFun (fun vs H Q E h => ?_) (fun cdv A outer s H vs Q E hr h => ?_)
  · obtain ⟨a, dx, xs, S, ds, rfl, _, _, hd, hl, _⟩ := h
    show xs.length + 1 = _
    rw [hd.length, hl]
    rfl
  · obtain ⟨a, dx, xs, S, ds, rfl, ha, hp, hd, hl, k⟩ := h
    obtain ⟨x0, x1, x2, x3, x4, x5, d0, d1, d2, d3, d4, d5, rfl, rfl, h0, h1, h2, h3, h4, h5⟩ := dqs6 hd hl
    have c := T.ob.cls
    refine ⟨_, PSs.nox (pss_cons (ps_fld (pv 0) (pv 1) rfl) (pss_cons (ps_fld (pv 0) (pe_call Gt (hr.mono (by decide)) rfl mt kt bt .nil pass0 (pa_cons (pv 2) pa_nil)) rfl) (pss_cons (ps_fld (pv 0) (pe_call Gt (hr.mono (by decide)) rfl mt kt bt .nil pass0 (pa_cons (pv 3) pa_nil)) rfl) (pss_cons (ps_fld (pv 0) (pe_call Gt (hr.mono (by decide)) rfl mt kt bt .nil pass0 (pa_cons (pv 4) pa_nil)) rfl) (pss_cons (ps_fld (pv 0) (pe_call Gt (hr.mono (by decide)) rfl mt kt bt .nil pass0 (pa_cons (pv 5) pa_nil)) rfl) (pss_cons (ps_fld (pv 0) (pe_call Gt (hr.mono (by decide)) rfl mt kt bt .nil pass0 (pa_cons (pv 6) pa_nil)) rfl) (pss_one (ps_fld (pv 0) (pe_tup (pa_cons (pv 1) (pa_cons (pe_fld (pv 0) rfl) (pa_cons (pe_fld (pv 0) rfl) (pa_cons (pe_fld (pv 0) rfl) (pa_cons (pe_fld (pv 0) rfl) (pa_cons (pe_fld (pv 0) rfl) pa_nil))))))) rfl)))))))), ?_⟩
    refine ⟨_, rfl, _, rfl, a, _, dx, [], rfl, ha, c, T.no _ (by simp [fns]), by decide, ?_⟩
    have e0 : Ex (wo a H) (wo a (upd H a (.ins (cF K) dx [("own_name", x0)]))) := by
      rw [wo_upd]
      exact Ex.refl _
    refine q_fun (S := S) (d := d1) rfl rfl upd_same (hp.mono e0) (Dq.mono (hid_mono e0) h1) c (T.no _ (by simp [fns])) (by show 1 < 1000; decide) fun y1 H1 f1 a1 g1 => ?_
    have e1 := e0.trans f1
    refine q_fun (S := S) (d := d2) rfl rfl a1 (hp.mono e1) (Dq.mono (hid_mono e1) h2) c (T.no _ (by simp [fns])) (by show 2 < 1000; decide) fun y2 H2 f2 a2 g2 => ?_
    have e2 := e1.trans f2
    refine q_fun (S := S) (d := d3) rfl rfl a2 (hp.mono e2) (Dq.mono (hid_mono e2) h3) c (T.no _ (by simp [fns])) (by show 3 < 1000; decide) fun y3 H3 f3 a3 g3 => ?_
    have e3 := e2.trans f3
    refine q_fun (S := S) (d := d4) rfl rfl a3 (hp.mono e3) (Dq.mono (hid_mono e3) h4) c (T.no _ (by simp [fns])) (by show 4 < 1000; decide) fun y4 H4 f4 a4 g4 => ?_
    have e4 := e3.trans f4
    refine q_fun (S := S) (d := d5) rfl rfl a4 (hp.mono e4) (Dq.mono (hid_mono e4) h5) c (T.no _ (by simp [fns])) (by show 5 < 1000; decide) fun y5 H5 f5 a5 g5 => ?_
    have e5 := e4.trans f5
    refine ⟨_, rfl, _, rfl, a, _, _, _, _, rfl, a5, c, T.no _ (by simp [fns]), rfl, _, rfl, a, _, _, _, _, rfl, a5, c, T.no _ (by simp [fns]), rfl, _, rfl, a, _, _, _, _, rfl, a5, c, T.no _ (by simp [fns]), rfl, _, rfl, a, _, _, _, _, rfl, a5, c, T.no _ (by simp [fns]), rfl, _, rfl, a, _, _, _, _, rfl, a5, c, T.no _ (by simp [fns]), rfl, by show 6 ≤ _; decide, fun t ht => ?_⟩
    refine ⟨_, rfl, a, _, dx, _, rfl, by rw [upd_ne (ne_of_none a5 ht)]; exact a5, c, T.no _ (by simp [fns]), by show 6 < 1000; decide, ?_⟩
    have nt : t ≠ a := fun z => by
      rw [z, a5] at ht
      cases ht
    have np : S t = false := (hp.mono e5).fresh (by rw [wo_ne nt, ht])
    have e6 : Ex (wo a H5) (wo a (upd (upd H5 t (.tup [x0, y1, y2, y3, y4, y5])) a (.ins (cF K) dx (funF x0 y1 y2 y3 y4 y5 t)))) := by
      rw [wo_upd]
      exact wo_mono (Ex.new ht)
    have g1' := Dq.mono (hid_mono ((((f2.trans f3).trans f4).trans f5).trans e6)) g1
    have g2' := Dq.mono (hid_mono (((f3.trans f4).trans f5).trans e6)) g2
    have g3' := Dq.mono (hid_mono ((f4.trans f5).trans e6)) g3
    have g4' := Dq.mono (hid_mono (f5.trans e6)) g4
    have g5' := Dq.mono (hid_mono e6) g5
    refine k _ t x0 y1 y2 y3 y4 y5 (e5.trans e6) upd_same ?_ (.cons (Dq.mono (hid_mono (e5.trans e6)) h0) (.cons g1' (.cons g2' (.cons g3' (.cons g4' (.cons g5' .nil))))))
    rw [hid_ne np, wo_ne nt, upd_ne nt, upd_same]
/-! ### its properties -/
def spFd (K : PySem.W.Frag) (f : Str) : Sp := fun vs H Q _ => ∃ (a C dx : Addr) (fs : List (Str × V)) (v : V), vs = [.ref a] ∧ H a = some (.ins C dx fs) ∧ Cls K C ∧ NoAttr K C f ∧ fs.lookup f = some v ∧ Q v H
abbrev sFun_name : Stmt := inClass (top 9) 2
theorem scFun_name : FnScope ["self"] ["self"] (defScope sFun_name) := ⟨rfl, rfl, rfl, by decide +kernel, rfl, by decide +kernel, by decide +kernel⟩
theorem okFun_name {f : Addr} {fd : FuncData} (F : FunD K "name" "Function.name" (defArgs sFun_name) (defBody sFun_name) (defScope sFun_name) [] [] f fd) : FnOk P w K mg base CX0 1 f fd ["self"] (spFd K "own_name") := by
  refine F.ok scFun_name (fun vs H Q E h => ?_) (fun cdv A outer s H vs Q E hr h => ?_)
  · obtain ⟨a, C, dx, fs, v, rfl, _⟩ := h
    rfl
  · obtain ⟨a, C, dx, fs, v, rfl, ha, c, na, hf, k⟩ := h
    refine ⟨_, PSs.nox (pss_one (ps_ret (pe_fld (pv 0) rfl))), ?_⟩
    exact ⟨_, rfl, a, C, dx, fs, _, rfl, ha, c, na, hf, k⟩
abbrev sFun_parameters : Stmt := inClass (top 9) 3
theorem scFun_parameters : FnScope ["self"] ["self"] (defScope sFun_parameters) := ⟨rfl, rfl, rfl, by decide +kernel, rfl, by decide +kernel, by decide +kernel⟩
theorem okFun_parameters {f : Addr} {fd : FuncData} (F : FunD K "parameters" "Function.parameters" (defArgs sFun_parameters) (defBody sFun_parameters) (defScope sFun_parameters) [] [] f fd) : FnOk P w K mg base CX0 1 f fd ["self"] (spFd K "own_parameters") := by
  refine F.ok scFun_parameters (fun vs H Q E h => ?_) (fun cdv A outer s H vs Q E hr h => ?_)
  · obtain ⟨a, C, dx, fs, v, rfl, _⟩ := h
    rfl
  · obtain ⟨a, C, dx, fs, v, rfl, ha, c, na, hf, k⟩ := h
    refine ⟨_, PSs.nox (pss_one (ps_ret (pe_fld (pv 0) rfl))), ?_⟩
    exact ⟨_, rfl, a, C, dx, fs, _, rfl, ha, c, na, hf, k⟩
abbrev sFun_things : Stmt := inClass (top 9) 4
theorem scFun_things : FnScope ["self"] ["self"] (defScope sFun_things) := ⟨rfl, rfl, rfl, by decide +kernel, rfl, by decide +kernel, by decide +kernel⟩
theorem okFun_things {f : Addr} {fd : FuncData} (F : FunD K "things" "Function.things" (defArgs sFun_things) (defBody sFun_things) (defScope sFun_things) [] [] f fd) : FnOk P w K mg base CX0 1 f fd ["self"] (spFd K "own_things") := by
  refine F.ok scFun_things (fun vs H Q E h => ?_) (fun cdv A outer s H vs Q E hr h => ?_)
  · obtain ⟨a, C, dx, fs, v, rfl, _⟩ := h
    rfl
  · obtain ⟨a, C, dx, fs, v, rfl, ha, c, na, hf, k⟩ := h
    refine ⟨_, PSs.nox (pss_one (ps_ret (pe_fld (pv 0) rfl))), ?_⟩
    exact ⟨_, rfl, a, C, dx, fs, _, rfl, ha, c, na, hf, k⟩
abbrev sFun_numbers : Stmt := inClass (top 9) 5
theorem scFun_numbers : FnScope ["self"] ["self"] (defScope sFun_numbers) := ⟨rfl, rfl, rfl, by decide +kernel, rfl, by decide +kernel, by decide +kernel⟩
theorem okFun_numbers {f : Addr} {fd : FuncData} (F : FunD K "numbers" "Function.numbers" (defArgs sFun_numbers) (defBody sFun_numbers) (defScope sFun_numbers) [] [] f fd) : FnOk P w K mg base CX0 1 f fd ["self"] (spFd K "own_numbers") := by
  refine F.ok scFun_numbers (fun vs H Q E h => ?_) (fun cdv A outer s H vs Q E hr h => ?_)
  · obtain ⟨a, C, dx, fs, v, rfl, _⟩ := h
    rfl
  · obtain ⟨a, C, dx, fs, v, rfl, ha, c, na, hf, k⟩ := h
    refine ⟨_, PSs.nox (pss_one (ps_ret (pe_fld (pv 0) rfl))), ?_⟩
    exact ⟨_, rfl, a, C, dx, fs, _, rfl, ha, c, na, hf, k⟩
abbrev sFun_functions : Stmt := inClass (top 9) 6
theorem scFun_functions : FnScope ["self"] ["self"] (defScope sFun_functions) := ⟨rfl, rfl, rfl, by decide +kernel, rfl, by decide +kernel, by decide +kernel⟩
theorem okFun_functions {f : Addr} {fd : FuncData} (F : FunD K "functions" "Function.functions" (defArgs sFun_functions) (defBody sFun_functions) (defScope sFun_functions) [] [] f fd) : FnOk P w K mg base CX0 1 f fd ["self"] (spFd K "own_functions") := by
  refine F.ok scFun_functions (fun vs H Q E h => ?_) (fun cdv A outer s H vs Q E hr h => ?_)
  · obtain ⟨a, C, dx, fs, v, rfl, _⟩ := h
    rfl
  · obtain ⟨a, C, dx, fs, v, rfl, ha, c, na, hf, k⟩ := h
    refine ⟨_, PSs.nox (pss_one (ps_ret (pe_fld (pv 0) rfl))), ?_⟩
    exact ⟨_, rfl, a, C, dx, fs, _, rfl, ha, c, na, hf, k⟩
abbrev sFun_body : Stmt := inClass (top 9) 7
theorem scFun_body : FnScope ["self"] ["self"] (defScope sFun_body) := ⟨rfl, rfl, rfl, by decide +kernel, rfl, by decide +kernel, by decide +kernel⟩
theorem okFun_body {f : Addr} {fd : FuncData} (F : FunD K "body" "Function.body" (defArgs sFun_body) (defBody sFun_body) (defScope sFun_body) [] [] f fd) : FnOk P w K mg base CX0 1 f fd ["self"] (spFd K "own_body") := by
  refine F.ok scFun_body (fun vs H Q E h => ?_) (fun cdv A outer s H vs Q E hr h => ?_)
  · obtain ⟨a, C, dx, fs, v, rfl, _⟩ := h
    rfl
  · obtain ⟨a, C, dx, fs, v, rfl, ha, c, na, hf, k⟩ := h
    refine ⟨_, PSs.nox (pss_one (ps_ret (pe_fld (pv 0) rfl))), ?_⟩
    exact ⟨_, rfl, a, C, dx, fs, _, rfl, ha, c, na, hf, k⟩
/-! ### Function.__eq__ -/
def spEqF (K : PySem.W.Frag) : Sp := fun vs H Q _ => ∃ (a : Addr) (y : V) (S : Addr → Bool) (ds : List PyData), vs = [.ref a, y] ∧ IsFn K S ds (.ref a) H ∧ okDs ds = true ∧ PyData.depthAll ds ≤ 50 ∧
  ((∃ t, TyX K H y t ∧ PySem.W.kitOne K t (.ref (cF K)) = some false ∧ Q (.bl false) H) ∨ ∃ es, IsFn K S es y H ∧ okDs es = true ∧ Q (.bl (eqDs ds es)) H)
abbrev sEqF : Stmt := inClass (top 9) 1
theorem scEqF : FnScope ["self", "other"] ["self", "other"] (defScope sEqF) := ⟨rfl, rfl, rfl, by decide +kernel, rfl, by decide +kernel, by decide +kernel⟩
theorem okEqF {f : Addr} {fd : FuncData} (F : FunD K "__eq__" "Function.__eq__" (defArgs sEqF) (defBody sEqF) (defScope sEqF) [] [] f fd) (T : FnC K mg) (m1 : mg "isinstance" = none) : FnOk P w K mg base CX0 1 f fd ["self", "other"] (spEqF K) := by
  refine F.ok scEqF (fun vs H Q E h => ?_) (fun cdv A outer s H vs Q E hr h => ?_)
  · obtain ⟨a, y, S, ds, rfl, _⟩ := h
    rfl
  · obtain ⟨a, y, S, ds, rfl, ⟨a', dx, t, y0, y1, y2, y3, y4, y5, z, ha, ht, hd⟩, od, dd, h⟩ := h
    cases z
    have ha' := hid_ex _ _ ha
    refine ⟨_, PSs.nox (pss_one (ps_ret (pe_and (pe_callB call_isi (by rfl) m1 (by decide +kernel) (pa_cons (pv 1) (pa_cons (pe_glob (by rfl) T.mgC (v := .ref (cF K)) rfl) pa_nil))) (pe_one (pe_cmpR (op_eqQ hr.units) (pe_fld (pv 0) rfl) (pe_fld (pv 1) rfl) (nomark _)))))), ?_⟩
    rcases h with ⟨ty, hy, hk, q⟩ | ⟨es, ⟨b, dx2, t2, z0, z1, z2, z3, z4, z5, z, hb, ht2, hd2⟩, oe, q⟩
    · exact ⟨_, rfl, y, .ref (cF K), ty, .ref (cF K), false, rfl, .own _, hy, hk, _, rfl, q⟩
    · cases z
      have hb' := hid_ex _ _ hb
      refine ⟨_, rfl, _, .ref (cF K), _, .ref (cF K), true, rfl, .own _, T.ob.ty hb', T.kit, _, rfl, ?_⟩
      refine ⟨_, rfl, a, _, _, _, _, rfl, ha', T.ob.cls, T.no _ (by simp [fns]), rfl, _, rfl, b, _, _, _, _, rfl, hb', T.ob.cls, T.no _ (by simp [fns]), rfl, .tuple ds, .tuple es, ?_, ?_, ?_, ?_, ?_, ?_⟩
      · exact .tup (st_of (hid_ex _ _ ht)) (Dqs.mono hid_ex hd)
      · exact .tup (st_of (hid_ex _ _ ht2)) (Dqs.mono hid_ex hd2)
      · rw [okD]
        exact od
      · rw [okD]
        exact oe
      · show PyData.depthAll ds + 1 ≤ 60
        omega
      · rw [eqD]
        exact q
end
end HB
namespace HB
open PySem PySem.Spec PyProof.Rows L2 Evl
/-! ### calls of defs that ask repr -/
section
variable {X : Cx} {CX : CXT} {k : Nat} {f : Addr} {fd : FuncData} {ps : List Str} {sp : Sp} {E : XK} {x : Str} {p pos : Pos} {e : Expr} {es : List Expr} {t : TA}
theorem pe_callG (F : FnG X.prog X.w X.K X.mg X.base CX k f fd ps sp) (gd : X.A.guards = some []) (hr : Room k X.A) (hg : Gl X x) (hm : X.mg x = some (.ref f)) (hk : PySem.W.keepIn X.K (.ref f) = true) (hb : Binds X.K fd ps []) (hx : Passes CX X E) (ha : PA X (e :: es) t)
    (hdb : (x == ("__debug__" : Str)) = false := by decide) (he : starEach (e :: es) X.env = (false, eval e X.env) :: starEach es X.env := by rfl) (hpl : (backTo pos (starEach es X.env)).any (·.1) = false := by rfl) : PE X (.Call (.Name x p) (e :: es) [] pos) (tCall sp [] E t) := by
  refine ⟨fun pins s σ H Q I h => ?_⟩
  refine wpAny_Call_Name_kw (ld_glob I hg hm ?_ hdb)
  refine PySem.W.callWith_K (h₀ := X.base) I.ok.mod.kin hk (thn (ha.run pos pins s σ H _ I h) fun us s1 ⟨vs, H1, I1, r, q⟩ => ⟨I1.kIn, ?_⟩) he hpl
  have q' : sp vs H1 Q E := by simpa using q
  have hl : us.length = ps.length := by rw [← r.length]; exact F.len _ _ _ _ q'
  refine wpAny_call (codeAny_mono (F.run X.A X.stack s1 H1 ⟨us, []⟩ us vs Q E gd hr I1.env0 (by
    have z := hb s1 us I1.kIn (by simpa using hl)
    simpa using z) r q') fun r s' hq => ?_)
  cases r with
  | error e => exact hx pins σ H1 s1 e s' I1 hq
  | ok fl =>
    cases fl with
    | ret u => exact I1.after hq
    | next => exact False.elim hq
    | brk => exact False.elim hq
    | cont => exact False.elim hq
end
/-! ### readings -/
section
variable {K : PySem.W.Frag} {S : Addr → Bool} {p c : Addr} {ns : List Int} {σ : L2.St} {H : Hp} {n n1 n2 : Nat} {te : TE} {tl : TA} {i j : Nat}
/-- listed(e) -/
theorem eq_listed {d : PyData} (h : EQ S p c ns te σ H n n1 (IsD K S d)) : EQ S p c ns (tCall (spTup K) [] E0 (tCons te tNil)) σ H n n1 (IsD K S (listed d)) := fun H1 e hp hS Q q =>
  h H1 e hp hS _ fun v H2 e2 hp2 z => by
    have hS2 := hS.of_wx e2 hp2
    refine ⟨v, d, hid S H2, rfl, hid_ex, z, fun y => q v H2 e2 hp2 (by rw [y]; exact z), fun ds a xs z1 z2 h1 h2 r hr => ?_⟩
    subst z1
    exact q (.ref r) _ (e2.trans (.of (Ex.new hr) hS2)) (hp2.mono (Ex.new hr) (Nat.le_refl _)) (.tup (st_of (by rw [hid_ne (hS2.fresh hr), upd_same])) (Dqs.mono (hid_mono (Ex.new hr)) h2))
def more (S : Addr → Bool) (D : Addr) : Addr → Bool := fun a => S a || decide (a = D)
theorem more_self {D : Addr} : more S D D = true := by simp [more]
theorem more_of {D a : Addr} (h : S a = true) : more S D a = true := by simp [more, h]
theorem more_ne {D a : Addr} (h : a ≠ D) : more S D a = S a := by simp [more, h]
theorem hid_more {D : Addr} {H : Hp} : Ex (hid (more S D) H) (hid S H) := fun a o e => by
  unfold hid at e ⊢
  split at e
  · cases e
  · rename_i h
    rw [if_neg (fun z => h (more_of z))]
    exact e
theorem hid_more_of {D : Addr} {H : Hp} (h : H D = none) : Ex (hid S H) (hid (more S D) H) := fun a o e => by
  have na : a ≠ D := fun z => by
    rw [z] at e
    have := hid_ex _ _ e
    rw [h] at this
    cases this
  unfold hid at e ⊢
  rw [more_ne na]
  exact e
theorem penUpdD {H : Hp} {D : Addr} {o : HO} (h : Pen H p c ns n) (h1 : D ≠ p) (h2 : D ≠ c) : Pen (upd H D o) p c ns n := by
  obtain ⟨b, r, e1, z⟩ := h.at_
  exact ⟨⟨b, r, by rw [upd_ne h1.symm]; exact e1, z⟩, by rw [upd_ne h2.symm]; exact h.cells, h.few⟩
/-- [e for k in range(m)], e drawing k times -/
theorem eq_lcQ {m k : Nat} {vs : List Nat} {P : (Addr → Bool) → V → Hp → Prop} (hSp : S p = true) (hm : m ≤ 1000) (hn : n + m * k < 2 ^ 39) (hw : ∀ x, wipe ((wipe σ vs).set j (some x)) vs = wipe σ vs)
    (w : ∀ S1 S2 v H H', Ex (hid S1 H) (hid S2 H') → P S1 v H → P S2 v H') (he : ∀ (S' : Addr → Bool) (i n' : Nat) (H' : Hp), S' p = true → n' ≤ n + m * k → EQ S' p c ns te ((wipe σ vs).set j (some (.int (i : Int)))) H' n' (n' + k) (P S')) :
    EQ S p c ns (tLc (iRng1 (tCons (tC (.int (m : Int))) tNil)) (gName j) tYes te vs) σ H n (n + m * k) (NewW S (AllP (P S) m)) := fun H1 e hp hS Q q => by
  refine ⟨(m : Int), rfl, by omega, by omega, fun D hD => ?_⟩
  have nDp : D ≠ p := pen_ne hp hD
  have nDc : D ≠ c := fun z => by
    rw [z, hp.cells] at hD
    cases hD
  have sD : S D = false := hS.fresh hD
  refine lc_range (lo := 0) (n := (m : Int).toNat) (fun i H' => Ex (hid S H1) (hid (more S D) H') ∧ (∀ a, S a = true → a ≠ p → H' a = H1 a) ∧ Pen H' p c ns (n + i * k) ∧ ∃ acc, H' D = some (.lst acc) ∧ acc.length = i ∧ ∀ v ∈ acc, P (more S D) v H') ?_ (fun i H' hi hI => ?_) (fun H' hI => ?_)
  · refine ⟨?_, fun a sa na => ?_, ?_, [], upd_same, rfl, fun v hv => by simp at hv⟩
    · rw [hid_upd more_self]
      exact hid_more_of hD
    · rw [upd_ne (fun z => by rw [z, sD] at sa; cases sa)]
    · rw [Nat.zero_mul, Nat.add_zero]
      exact penUpdD hp nDp nDc
  · obtain ⟨x1, x2, x3, acc, x4, x5, x6⟩ := hI
    have hi' : i < m := by omega
    have hk : i * k ≤ m * k := Nat.mul_le_mul_right k (Nat.le_of_lt hi')
    refine ⟨hw _, ?_⟩
    show te _ H' _
    have all : SAll (more S D) H' := fun a z => by
      by_cases ea : a = D
      · exact ⟨_, by rw [ea]; exact x4⟩
      · rw [more_ne ea] at z
        by_cases ep : a = p
        · obtain ⟨b, r, e1, _⟩ := x3.at_
          exact ⟨_, by rw [ep]; exact e1⟩
        · obtain ⟨o, e1⟩ := hS a z
          exact ⟨o, (x2 a z ep).trans e1⟩
    have e0 : (0 : Int) + (i : Int) = (i : Int) := Int.zero_add _
    rw [e0]
    refine he (more S D) i (n + i * k) H' (more_of hSp) (Nat.add_le_add_left hk n) H' (.refl _ _ _) x3 all _ fun v H4 w4 p4 v4 => ?_
    have hD4 : H4 D = some (.lst acc) := (w4.2 D more_self nDp).trans x4
    refine ⟨acc, hD4, sz_lt (by omega), ?_, fun a sa na => ?_, ?_, acc ++ [v], upd_same, by rw [List.length_append, x5]; rfl, fun u hu => ?_⟩
    · rw [hid_upd more_self]
      exact x1.trans w4.1
    · rw [upd_ne (fun z => by rw [z, sD] at sa; cases sa)]
      exact (w4.2 a (more_of sa) na).trans (x2 a sa na)
    · have e5 : n + (i + 1) * k = n + i * k + k := by rw [Nat.succ_mul]; omega
      rw [e5]
      exact penUpdD p4 nDp nDc
    · have eq : hid (more S D) (upd H4 D (.lst (acc ++ [v]))) = hid (more S D) H4 := hid_upd more_self
      rcases List.mem_append.mp hu with hu | hu
      · exact w _ _ _ _ _ (by rw [eq]; exact w4.1) (x6 u hu)
      · obtain rfl : u = v := by simpa using hu
        exact w _ _ _ _ _ (by rw [eq]; exact Ex.refl _) v4
  · obtain ⟨x1, x2, x3, acc, x4, x5, x6⟩ := hI
    have em : (m : Int).toNat = m := Int.toNat_natCast m
    rw [em] at x3 x5
    refine q (.ref D) H' ⟨x1.trans hid_more, x2⟩ x3 ⟨D, acc, rfl, by rw [hid_ne sD]; exact x4, x5, fun v hv => w _ _ _ _ _ hid_more (x6 v hv)⟩
end
end HB
namespace HB
open PySem PySem.Spec PyProof.Rows L2 Evl
section
variable {K : PySem.W.Frag} {S : Addr → Bool} {p c : Addr} {ns : List Int} {σ : L2.St} {H : Hp} {n n1 n2 : Nat} {te : TE} {tl : TA} {i j : Nat}
/-- item by item, what is told of the i-th -/
def EachP (P : Nat → V → Hp → Prop) (m : Nat) : List V → Hp → Prop := fun xs H => xs.length = m ∧ ∀ i v, xs[i]? = some v → P i v H
/-- [e for x in xs], xs a list that stands; e draws k times -/
theorem eq_lcL {k s : Nat} {a : Addr} {ys : List V} {vs : List Nat} {P : (Addr → Bool) → Nat → V → Hp → Prop} (hSp : S p = true) (hm : ys.length ≤ 1000) (hn : n + ys.length * k < 2 ^ 39) (hs : σ[s]? = some (some (.ref a))) (hw : ∀ x, wipe ((wipe σ vs).set j (some x)) vs = wipe σ vs)
    (ha : ∀ H1, Wx S p H H1 → hid S H1 a = some (.lst ys)) (w : ∀ S1 S2 i v H H', Ex (hid S1 H) (hid S2 H') → P S1 i v H → P S2 i v H')
    (he : ∀ (D : Addr) (i n' : Nat) (x : V) (H1 H' : Hp), Wx S p H H1 → H1 D = none → Ex (hid S H1) (hid (more S D) H') → ys[i]? = some x → n' ≤ n + ys.length * k → EQ (more S D) p c ns te ((wipe σ vs).set j (some x)) H' n' (n' + k) (P (more S D) i)) :
    EQ S p c ns (tLc (iList K (tVar s)) (gName j) tYes te vs) σ H n (n + ys.length * k) (NewW S (EachP (P S) ys.length)) := fun H1 e hp hS Q q => by
  have ha1 := ha H1 e
  refine ⟨_, hs, a, rfl, ⟨ys, sq_of (hid_ex _ _ ha1)⟩, fun D hD => ?_⟩
  have nDp : D ≠ p := pen_ne hp hD
  have nDc : D ≠ c := fun z => by
    rw [z, hp.cells] at hD
    cases hD
  have sD : S D = false := hS.fresh hD
  refine lc_list (xs := ys) (fun i H' => Ex (hid S H1) (hid (more S D) H') ∧ (∀ a, S a = true → a ≠ p → H' a = H1 a) ∧ Pen H' p c ns (n + i * k) ∧ ∃ acc, H' D = some (.lst acc) ∧ acc.length = i ∧ ∀ l v, acc[l]? = some v → P (more S D) l v H') ?_ (fun i H' _ hI => ?_) (fun i x H' hi hI => ?_) (fun H' hI => ?_)
  · refine ⟨?_, fun a sa na => ?_, ?_, [], upd_same, rfl, fun l v hv => by simp at hv⟩
    · rw [hid_upd more_self]
      exact hid_more_of hD
    · rw [upd_ne (fun z => by rw [z, sD] at sa; cases sa)]
    · rw [Nat.zero_mul, Nat.add_zero]
      exact penUpdD hp nDp nDc
  · exact sq_of (hid_ex _ _ (hI.1 _ _ ha1))
  · obtain ⟨x1, x2, x3, acc, x4, x5, x6⟩ := hI
    have hi' : i < ys.length := (List.getElem?_eq_some_iff.mp hi).1
    have hk : i * k ≤ ys.length * k := Nat.mul_le_mul_right k (Nat.le_of_lt hi')
    refine ⟨hw _, ?_⟩
    show te _ H' _
    have all : SAll (more S D) H' := fun b z => by
      by_cases ea : b = D
      · exact ⟨_, by rw [ea]; exact x4⟩
      · rw [more_ne ea] at z
        by_cases ep : b = p
        · obtain ⟨b', r, e1, _⟩ := x3.at_
          exact ⟨_, by rw [ep]; exact e1⟩
        · obtain ⟨o, e1⟩ := hS b z
          exact ⟨o, (x2 b z ep).trans e1⟩
    refine he D i (n + i * k) x H1 H' e hD x1 hi (Nat.add_le_add_left hk n) H' (.refl _ _ _) x3 all _ fun v H4 w4 p4 v4 => ?_
    have hD4 : H4 D = some (.lst acc) := (w4.2 D more_self nDp).trans x4
    refine ⟨acc, hD4, sz_lt (by omega), ?_, fun b sa na => ?_, ?_, acc ++ [v], upd_same, by rw [List.length_append, x5]; rfl, fun l u hu => ?_⟩
    · rw [hid_upd more_self]
      exact x1.trans w4.1
    · rw [upd_ne (fun z => by rw [z, sD] at sa; cases sa)]
      exact (w4.2 b (more_of sa) na).trans (x2 b sa na)
    · have e5 : n + (i + 1) * k = n + i * k + k := by rw [Nat.succ_mul]; omega
      rw [e5]
      exact penUpdD p4 nDp nDc
    · have eq : hid (more S D) (upd H4 D (.lst (acc ++ [v]))) = hid (more S D) H4 := hid_upd more_self
      by_cases hl : l < acc.length
      · rw [List.getElem?_append_left hl] at hu
        exact w _ _ _ _ _ _ (by rw [eq]; exact w4.1) (x6 l u hu)
      · rw [List.getElem?_append_right (by omega)] at hu
        have hl0 : l - acc.length = 0 := by
          cases z : l - acc.length with
          | zero => rfl
          | succ m =>
            rw [z] at hu
            simp at hu
        rw [hl0] at hu
        obtain rfl : v = u := by simpa using hu
        have el : l = i := by omega
        rw [el]
        exact w _ _ _ _ _ _ (by rw [eq]; exact Ex.refl _) v4
  · obtain ⟨x1, x2, x3, acc, x4, x5, x6⟩ := hI
    exact q (.ref D) H' ⟨x1.trans hid_more, x2⟩ x3 ⟨D, acc, rfl, by rw [hid_ne sD]; exact x4, x5, fun l v hv => w _ _ _ _ _ _ hid_more (x6 l v hv)⟩
end
end HB
namespace HB
open PySem PySem.Spec PyProof.Rows L2 Evl
section
variable {K : PySem.W.Frag} {S : Addr → Bool} {p c : Addr} {ns : List Int} {σ : L2.St} {H : Hp} {n n1 n2 : Nat} {te ta tb : TE} {tl : TA} {t u : TT} {D : Ends} {tz tu : TS}
/-- what a test tells, drawing from the pen -/
def TQ (S : Addr → Bool) (p c : Addr) (ns : List Int) (t : TT) (σ : L2.St) (H : Hp) (n n' : Nat) (b : Bool) : Prop :=
  ∀ H1, Wx S p H H1 → Pen H1 p c ns n → SAll S H1 → ∀ Q : Bool → Hp → Prop, (∀ H2, Wx S p H1 H2 → Pen H2 p c ns n' → Q b H2) → t σ H1 Q
theorem tq_test {b : Bool} (h : EQ S p c ns te σ H n n1 (fun v _ => v = .bl b)) : TQ S p c ns (tTest te) σ H n n1 b := fun H1 e hp hS Q q => h H1 e hp hS _ fun v H2 e2 hp2 z => ⟨b, z, q H2 e2 hp2⟩
theorem tq_B {b : Bool} (h : EQ S p c ns te σ H n n1 (fun v _ => v = .bl b)) : TQ S p c ns (tB te) σ H n n1 b := fun H1 e hp hS Q q => h H1 e hp hS _ fun v H2 e2 hp2 z => ⟨b, z, q H2 e2 hp2⟩
theorem tq_or {b : Bool} (h : TQ S p c ns t σ H n n1 false) (h2 : TQ S p c ns u σ H n1 n2 b) : TQ S p c ns (tOr t u) σ H n n2 b := fun H1 e hp hS Q q => h H1 e hp hS _ fun H2 e2 hp2 => by
  show u σ H2 Q
  exact h2 H2 (e.trans e2) hp2 (hS.of_wx e2 hp2) Q fun H3 e3 hp3 => q H3 (e2.trans e3) hp3
theorem tq_orT (h : TQ S p c ns t σ H n n1 true) : TQ S p c ns (tOr t u) σ H n n1 true := fun H1 e hp hS Q q => h H1 e hp hS _ fun H2 e2 hp2 => q H2 e2 hp2
theorem tq_andF (h : TQ S p c ns t σ H n n1 false) : TQ S p c ns (tAnd t u) σ H n n1 false := fun H1 e hp hS Q q => h H1 e hp hS _ fun H2 e2 hp2 => q H2 e2 hp2
theorem tq_and {b : Bool} (h : TQ S p c ns t σ H n n1 true) (h2 : TQ S p c ns u σ H n1 n2 b) : TQ S p c ns (tAnd t u) σ H n n2 b := fun H1 e hp hS Q q => h H1 e hp hS _ fun H2 e2 hp2 => by
  show u σ H2 Q
  exact h2 H2 (e.trans e2) hp2 (hS.of_wx e2 hp2) Q fun H3 e3 hp3 => q H3 (e2.trans e3) hp3
theorem tq_not {b : Bool} (h : TQ S p c ns t σ H n n1 b) : TQ S p c ns (tNot t) σ H n n1 (!b) := fun H1 e hp hS Q q => h H1 e hp hS _ fun H2 e2 hp2 => q H2 e2 hp2
theorem tq_at {H' : Hp} {b : Bool} (h : TQ S p c ns t σ H n n1 b) (e : Wx S p H H') : TQ S p c ns t σ H' n n1 b := fun H1 e1 => h H1 (e.trans e1)
theorem q_whenQ (h : TQ S p c ns t σ H n n1 false) (hp : Pen H p c ns n) (hS : SAll S H) (k : ∀ H1, Wx S p H H1 → Pen H1 p c ns n1 → SAll S H1 → tz D σ H1) : tSeq (tIfS t tu tNext) tz D σ H := h H (.refl S p H) hp hS _ fun H1 e hp1 => k H1 e hp1 (hS.of_wx e hp1)
theorem s_whenQ (h : TQ S p c ns t σ H n n1 false) (hp : Pen H p c ns n) (hS : SAll S H) (k : ∀ H1, Wx S p H H1 → Pen H1 p c ns n1 → SAll S H1 → D.nx σ H1) : tIfS t tu tNext D σ H := h H (.refl S p H) hp hS _ fun H1 e hp1 => k H1 e hp1 (hS.of_wx e hp1)
theorem eq_opV {r : R2} {x y z : V} (ha : EQ S p c ns ta σ H n n1 (fun v _ => v = x)) (hb : EQ S p c ns tb σ H n1 n2 (fun v _ => v = y)) (hr : ∀ H', RV r x y H' z) : EQ S p c ns (tOp r ta tb) σ H n n2 (fun v _ => v = z) := fun H1 e hp hS Q q =>
  ha H1 e hp hS _ fun v H2 e2 hp2 z1 => hb H2 (e.trans e2) hp2 (hS.of_wx e2 hp2) _ fun v' H3 e3 hp3 z2 => by
    subst z1
    subst z2
    exact hr H3 H3 (Ex.refl H3) _ fun H4 e4 => q _ H4 ((e2.trans e3).trans (.of e4 (hS.of_wx (e2.trans e3) hp3))) (hp3.mono e4 (Nat.le_refl _)) rfl
theorem eq_repr {d : PyData} (h : EQ S p c ns te σ H n n1 (IsD K S d)) (h1 : d.showable = true) (h2 : d.depth < 60) (h3 : d.shown.length ≤ 100000) : EQ S p c ns (tCB (rRepr K) (tCons te tNil)) σ H n n1 (fun v _ => v = .str d.shown) := fun H1 e hp hS Q q =>
  h H1 e hp hS _ fun v H2 e2 hp2 z => ⟨v, d, rfl, Dq.mono hid_ex z, h1, h2, sz_of h3, q _ H2 e2 hp2 rfl⟩
/-- x and y, two data, compared -/
theorem eq_eqQ {d e' : PyData} (ha : EQ S p c ns ta σ H n n1 (IsD K S d)) (hb : EQ S p c ns tb σ H n1 n2 (IsD K S e')) (h1 : okD d = true) (h2 : okD e' = true) (h3 : d.depth ≤ 60) : EQ S p c ns (tOp (rEqQ K) ta tb) σ H n n2 (fun v _ => v = .bl (eqD d e')) := fun H1 e hp hS Q q =>
  ha H1 e hp hS _ fun v H2 e2 hp2 z1 => hb H2 (e.trans e2) hp2 (hS.of_wx e2 hp2) _ fun v' H3 e3 hp3 z2 =>
    ⟨d, e', Dq.mono (e3.1.trans hid_ex) z1, Dq.mono hid_ex z2, h1, h2, h3, q _ H3 (e2.trans e3) hp3 rfl⟩
/-- a list that was not there before -/
theorem eq_lstF {PA_ : List V → Hp → Prop} (h : AQ S p c ns tl σ H n n1 PA_) (m : MonoW S PA_) (hz : ∀ xs H2, PA_ xs H2 → xs.length ≤ 100000) : EQ S p c ns (tLst tl) σ H n n1 (fun v H2 => NewW S PA_ v H2 ∧ ∃ a, v = .ref a ∧ hid S H a = none) := fun H1 e hp hS Q q =>
  h H1 e hp hS _ fun xs H2 e2 hp2 z => ⟨sz_of (hz xs H2 z), fun a ha => q (.ref a) _ (e2.trans (.of (Ex.new ha) (hS.of_wx e2 hp2))) (hp2.mono (Ex.new ha) (Nat.le_refl _)) ⟨⟨a, xs, rfl, by rw [hid_ne ((hS.of_wx e2 hp2).fresh ha), upd_same], m _ _ _ (hid_mono (Ex.new ha)) z⟩, a, rfl, by
    cases w : hid S H a with
    | none => rfl
    | some o =>
      have := hid_ex _ _ ((e.trans e2).1 _ _ w)
      rw [ha] at this
      cases this⟩⟩
theorem each_dqs {H : Hp} : ∀ {ds : List PyData} {xs : List V}, xs.length = ds.length → (∀ (i : Nat) (v : V), xs[i]? = some v → ∃ d, ds[i]? = some d ∧ Dq K H v d) → Dqs K H xs ds
  | [], [], _, _ => .nil
  | d :: ds, x :: xs, hl, h => by
    obtain ⟨d', e1, e2⟩ := h 0 x rfl
    obtain rfl : d = d' := by simpa using e1
    exact .cons e2 (each_dqs (xs := xs) (by simpa using hl) fun i v hv => h (i + 1) v (by simpa using hv))
  | [], _ :: _, hl, _ => by simp at hl
  | _ :: _, [], hl, _ => by simp at hl
end
end HB
namespace HB
open PySem PySem.Spec PyProof.Rows L2 Evl
def OddR (K : PySem.W.Frag) : (Addr → Bool) → V → Hp → Prop := fun S v H => ∃ d, d ∈ oddD ∧ IsD K S d v H
def partD : List PyData := [.list [.str "a", .str "b"], .tuple [.str "a", .str "b"], .list [], .tuple [], .list [.str "a"]] ++ oddD ++ [.str "a"]
def labelD : List PyData := [.str "a", .str "b"] ++ oddD
def countD : List PyData := [.int 1, .int 2, .int 1000, .none, .str "a"]
def InR (K : PySem.W.Frag) (U : List PyData) : (Addr → Bool) → V → Hp → Prop := fun S v H => ∃ d, d ∈ U ∧ IsD K S d v H
theorem inR_w {K : PySem.W.Frag} {U : List PyData} {S : Addr → Bool} : MonoW S (InR K U S) := fun _ _ _ e ⟨d, h, q⟩ => ⟨d, h, Dq.mono e q⟩
theorem inR_ww {K : PySem.W.Frag} {U : List PyData} : ∀ S1 S2 v H H', Ex (hid S1 H) (hid S2 H') → InR K U S1 v H → InR K U S2 v H' := fun _ _ _ _ _ e ⟨d, h, q⟩ => ⟨d, h, Dq.mono e q⟩
section
variable {P : Program} {w : World} {K : PySem.W.Frag} {mg : Str → Option Value} {base : Heap}
theorem in_of {S : Addr → Bool} {p c : Addr} {ns : List Int} {te : TE} {σ : L2.St} {H : Hp} {n n1 : Nat} {d : PyData} {U : List PyData} (h : EQ S p c ns te σ H n n1 (IsD K S d)) (hm : d ∈ U) : EQ S p c ns te σ H n n1 (InR K U S) := eq_imp h fun _ _ _ z => ⟨d, hm, z⟩
theorem in_sub {S : Addr → Bool} {p c : Addr} {ns : List Int} {te : TE} {σ : L2.St} {H : Hp} {n n1 : Nat} {U U' : List PyData} (h : EQ S p c ns te σ H n n1 (InR K U S)) (hm : ∀ d ∈ U, d ∈ U') : EQ S p c ns te σ H n n1 (InR K U' S) := eq_imp h fun _ _ _ ⟨d, z, q⟩ => ⟨d, hm d z, q⟩
theorem d_str {S : Addr → Bool} {p c : Addr} {ns : List Int} {σ : L2.St} {H : Hp} {n : Nat} {x : Str} : EQ S p c ns (tC (.str x)) σ H n n (IsD K S (.str x)) := eq_c fun _ _ => .str _
theorem d_int {S : Addr → Bool} {p c : Addr} {ns : List Int} {σ : L2.St} {H : Hp} {n : Nat} {x : Int} : EQ S p c ns (tC (.int x)) σ H n n (IsD K S (.int x)) := eq_c fun _ _ => .int _
theorem d_none {S : Addr → Bool} {p c : Addr} {ns : List Int} {σ : L2.St} {H : Hp} {n : Nat} : EQ S p c ns (tC .non) σ H n n (IsD K S .none) := eq_c fun _ _ => .non
/-- the law's defs of drawing -/
structure Drw (P : Program) (w : World) (K : PySem.W.Frag) (mg : Str → Option Value) (base : Heap) : Prop where
  odd : ∃ f fd, FnOk P w K mg base CX0 3 f fd ["_law_pen_here"] (spW (InR K oddD) 1 (2 ^ 39)) ∧ mg "_law_odd" = some (.ref f) ∧ PySem.W.keepIn K (.ref f) = true ∧ Binds K fd ["_law_pen_here"] []
  pick : ∃ f fd, FnOk P w K mg base CX0 2 f fd ["_law_pen_here", "_law_options"] (spPick K) ∧ mg "_law_pick" = some (.ref f) ∧ PySem.W.keepIn K (.ref f) = true ∧ Binds K fd ["_law_pen_here", "_law_options"] []
  draw : ∃ f fd, FnOk P w K mg base CX0 1 f fd ["_law_pen_here", "_law_many"] spDraw ∧ mg "_law_draw" = some (.ref f) ∧ PySem.W.keepIn K (.ref f) = true ∧ Binds K fd ["_law_pen_here", "_law_many"] []
theorem sc_part : FnScope ["_law_dice"] ["_law_dice"] (defScope (top 16)) := ⟨rfl, rfl, rfl, by decide +kernel, rfl, by decide +kernel, by decide +kernel⟩
theorem mem_part {d : PyData} (h : d ∈ oddD) : d ∈ partD := List.mem_append_left _ (List.mem_append_right _ h)
theorem ok_part {f : Addr} {fd : FuncData} (F : FnP K "_law_part" (top 16) f fd) (D : Drw P w K mg base) : FnOk P w K mg base CX0 4 f fd ["_law_dice"] (spW (InR K partD) 2 (2 ^ 38)) := by
  obtain ⟨fo, od, Go, mo, ko, bo⟩ := D.odd
  obtain ⟨fp, pd, Gp, mp, kp, bp⟩ := D.pick
  refine F.ok sc_part (fun vs H Q E h => ?_) (fun cdv A outer s H vs Q E hr h => ?_)
  · obtain ⟨p, c, ns, n, S, rfl, _⟩ := h
    rfl
  · obtain ⟨p, c, ns, n, S, rfl, hSp, hS, hp, hn, k⟩ := h
    refine ⟨_, PSs.nox (pss_one (ps_ret (pe_call Gp (hr.mono (by decide)) rfl mp kp bp .nil pass0 (pa_cons (pv 0) (pa_cons (pe_lst (pa_cons (pe_lst (pa_cons pe_str (pa_cons pe_str pa_nil))) (pa_cons (pe_tup (pa_cons pe_str (pa_cons pe_str pa_nil))) (pa_cons (pe_lst pa_nil) (pa_cons (pe_tup pa_nil) (pa_cons (pe_lst (pa_cons pe_str pa_nil))
      (pa_cons (pe_call Go (hr.mono (by decide)) rfl mo ko bo .nil pass0 (pa_cons (pv 0) pa_nil)) (pa_cons pe_str pa_nil)))))))) pa_nil))))), ?_⟩
    refine s_retQ (P := InR K partD S) (eq_pick (S := S) (c := c) (ns := ns) (n1 := n + 1) (m := 7) rfl hSp (by omega) (eq_lst (aq_acons (in_of (d := .list [.str "a", .str "b"]) (eq_dlst (aq_dcons d_str (aq_dcons d_str aq_dnil)) (by decide)) (by simp [partD])) inR_w (aq_acons (in_of (d := .tuple [.str "a", .str "b"]) (eq_dtup (aq_dcons d_str (aq_dcons d_str aq_dnil)) (by decide)) (by simp [partD])) inR_w
      (aq_acons (in_of (d := .list []) (eq_dlst aq_dnil (by decide)) (by simp [partD])) inR_w (aq_acons (in_of (d := .tuple []) (eq_dtup aq_dnil (by decide)) (by simp [partD])) inR_w (aq_acons (in_of (d := .list [.str "a"]) (eq_dlst (aq_dcons d_str aq_dnil) (by decide)) (by simp [partD])) inR_w
      (aq_acons (n1 := n + 1) (in_sub (eq_w rfl hSp (by omega)) fun d hd => mem_part hd) inR_w (aq_acons (in_of (d := .str "a") d_str (by simp [partD])) inR_w aq_anil))))))) (allP_w inR_w) fun xs H2 z => by rw [z.1]; decide) (by decide) (by decide) inR_w) hp hS fun v H1 e1 hp1 z => k v H1 e1 hp1 z
/-! ### one statement drawn -/
def ar (i : Nat) : Nat := ([1, 2, 2, 1, 2] : List Nat).getD i 0
def univD : List PyData := labelD ++ countD ++ partD.map listed
/-- what may be the parts of such a statement -/
def PcD (i : Nat) (ds : List PyData) : Prop := ds.length = ar i ∧ ∀ d ∈ ds, d ∈ univD
/-- a statement, its word, its parts in a list -/
def OneR (K : PySem.W.Frag) : (Addr → Bool) → V → Hp → Prop := fun S v H => ∃ (i : Nat) (ds : List PyData), i < 5 ∧ PcD i ds ∧ NewTW S (fun xs H => ∃ u l, xs = [u, .str (kw i), l] ∧ IsPc K S i ds u H ∧ IsD K S (.list ds) l H) v H
structure Mks (P : Program) (w : World) (K : PySem.W.Frag) (mg : Str → Option Value) (base : Heap) : Prop where
  m0 : ∃ fd, FnOk P w K mg base CX0 3 (fI K 0) fd ["self", "name"] (spIns K (cS K 0) (kw 0) 1 gShow) ∧ Binds K fd ["self", "name"] []
  m1 : ∃ fd, FnOk P w K mg base CX0 3 (fI K 1) fd ["self", "name", "many"] (spIns K (cS K 1) (kw 1) 2 gAdd) ∧ Binds K fd ["self", "name", "many"] []
  m2 : ∃ fd, FnOk P w K mg base CX0 3 (fI K 2) fd ["self", "name", "things"] (spIns K (cS K 2) (kw 2) 2 gCall) ∧ Binds K fd ["self", "name", "things"] []
  m3 : ∃ fd, FnOk P w K mg base CX0 3 (fI K 3) fd ["self", "name"] (spIns K (cS K 3) (kw 3) 1 gGive) ∧ Binds K fd ["self", "name"] []
  m4 : ∃ fd, FnOk P w K mg base CX0 3 (fI K 4) fd ["self", "one", "other"] (spIns K (cS K 4) (kw 4) 2 gEither) ∧ Binds K fd ["self", "one", "other"] []
abbrev Nd : List Str := ["_law_dice", "_law_label", "_law_part_here", "_law_more", "_law_count", "_law_draw_here"]
theorem sc_one : FnScope Nd ["_law_dice"] (defScope (top 17)) := ⟨rfl, rfl, rfl, by decide +kernel, rfl, by decide +kernel, by decide +kernel⟩
theorem ret_one {S : Addr → Bool} {p c : Addr} {ns : List Int} {t1 t3 : TE} {σ : L2.St} {H : Hp} {n : Nat} {i : Nat} {ds : List PyData} (hi : i < 5) (hd : PcD i ds) (h1 : EQ S p c ns t1 σ H n n (IsPc K S i ds)) (h2 : EQ S p c ns t3 σ H n n (IsD K S (.list ds))) :
    EQ S p c ns (tTup (tCons t1 (tCons (tC (.str (kw i))) (tCons t3 tNil)))) σ H n n (OneR K S) :=
  eq_imp (eq_tup (PA_ := fun xs H => ∃ u l, xs = [u, .str (kw i), l] ∧ IsPc K S i ds u H ∧ IsD K S (.list ds) l H) (aq_cons h1 isPc_w (aq_cons (P := fun v _ => v = .str (kw i)) (PA_ := fun xs H => ∃ l, xs = [l] ∧ IsD K S (.list ds) l H) (RA_ := fun xs H => ∃ l, xs = [.str (kw i), l] ∧ IsD K S (.list ds) l H)
    (eq_c fun _ _ => rfl) (fun _ _ _ _ z => z) (aq_cons (PA_ := fun xs _ => xs = []) h2 isD_w (aq_nil fun _ _ => rfl) (fun v vs H2 _ a b => ⟨v, by rw [b], a⟩)) (fun v vs H2 _ a ⟨l, b, q⟩ => ⟨l, by rw [a, b], q⟩)) (fun v vs H2 _ a ⟨l, b, q⟩ => ⟨v, l, by rw [b], a, q⟩))
    (fun _ _ _ e ⟨u, l, z, a, b⟩ => ⟨u, l, z, isPc_w _ _ _ e a, isD_w _ _ _ e b⟩) (fun xs H2 ⟨u, l, z, _⟩ => by rw [z]; show 3 ≤ 100000; decide)) fun v H2 _ z => ⟨i, ds, hi, hd, z⟩
end
end HB
namespace HB
open PySem PySem.Spec PyProof.Rows L2 Evl
section
variable {P : Program} {w : World} {K : PySem.W.Frag} {mg : Str → Option Value} {base : Heap}
theorem mem_label {d : PyData} (h : d ∈ oddD) : d ∈ labelD := List.mem_append_right _ h
theorem u_label {d : PyData} (h : d ∈ labelD) : d ∈ univD := List.mem_append_left _ (List.mem_append_left _ h)
theorem u_count {d : PyData} (h : d ∈ countD) : d ∈ univD := List.mem_append_left _ (List.mem_append_right _ h)
theorem u_part {d : PyData} (h : d ∈ partD) : listed d ∈ univD := List.mem_append_right _ (List.mem_map_of_mem h)
theorem two_mem {d e : PyData} (h1 : d ∈ univD) (h2 : e ∈ univD) : ∀ x ∈ [d, e], x ∈ univD := fun x hx => by
  rcases List.mem_cons.mp hx with rfl | hx
  · exact h1
  · obtain rfl : x = e := by simpa using hx
    exact h2
theorem one_mem {d : PyData} (h1 : d ∈ univD) : ∀ x ∈ [d], x ∈ univD := fun x hx => by
  obtain rfl : x = d := by simpa using hx
  exact h1
theorem ok_one {f : Addr} {fd : FuncData} (F : FnP K "_law_draw_one" (top 17) f fd) (D : Drw P w K mg base) (T : ∀ i, i < 5 → StC K mg i) (M : Mks P w K mg base) (Pt : ∃ f fd, FnOk P w K mg base CX0 4 f fd ["_law_dice"] (spW (InR K partD) 2 (2 ^ 38)) ∧ mg "_law_part" = some (.ref f) ∧ PySem.W.keepIn K (.ref f) = true ∧ Binds K fd ["_law_dice"] [])
    (Ls : ∃ f fd, FnOk P w K mg base CX0 1 f fd ["_law_value"] (spTup K) ∧ mg "_law_listed" = some (.ref f) ∧ PySem.W.keepIn K (.ref f) = true ∧ Binds K fd ["_law_value"] []) : FnOk P w K mg base CX0 5 f fd ["_law_dice"] (spW (OneR K) 8 (2 ^ 37)) := by
  obtain ⟨fo, od, Go, mo, ko, bo⟩ := D.odd
  obtain ⟨fp, pd, Gp, mp, kp, bp⟩ := D.pick
  obtain ⟨fr, rd, Gr, mr, kr, br⟩ := D.draw
  obtain ⟨ft, td, Gt, mt, kt, bt⟩ := Pt
  obtain ⟨fl, ld, Gl', ml, kl, bl'⟩ := Ls
  obtain ⟨d0, F0, b0⟩ := M.m0
  obtain ⟨d1, F1, b1⟩ := M.m1
  obtain ⟨d2, F2, b2⟩ := M.m2
  obtain ⟨d3, F3, b3⟩ := M.m3
  obtain ⟨d4, F4, b4⟩ := M.m4
  refine F.ok sc_one (fun vs H Q E h => ?_) (fun cdv A outer s H vs Q E hr h => ?_)
  · obtain ⟨p, c, ns, n, S, rfl, _⟩ := h
    rfl
  · obtain ⟨p, c, ns, n, S, rfl, hSp, hS, hp, hn, k⟩ := h
    refine ⟨_, PSs.nox (pss_cons (ps_par3 (i := 1) (j := 2) (l := 3) (by rfl) sc_one.nd rfl rfl rfl (by decide) (by decide) (by decide) rfl rfl rfl (pa_cons (pe_call Gp (hr.mono (by decide)) rfl mp kp bp .nil pass0 (pa_cons (pv 0) (pa_cons (pe_lst (pa_cons pe_str (pa_cons pe_str (pa_cons (pe_call Go (hr.mono (by decide)) rfl mo ko bo .nil pass0 (pa_cons (pv 0) pa_nil)) pa_nil)))) pa_nil)))
        (pa_cons (pe_call Gt (hr.mono (by decide)) rfl mt kt bt .nil pass0 (pa_cons (pv 0) pa_nil)) (pa_cons (pe_call Gt (hr.mono (by decide)) rfl mt kt bt .nil pass0 (pa_cons (pv 0) pa_nil)) pa_nil))) (by rfl))
      (pss_cons (ps_par (i := 4) (j := 5) (by rfl) sc_one.nd rfl rfl (by decide) rfl rfl (pa_cons (pe_call Gp (hr.mono (by decide)) rfl mp kp bp .nil pass0 (pa_cons (pv 0) (pa_cons (pe_lst (pa_cons pe_int (pa_cons pe_int (pa_cons pe_int (pa_cons pe_non (pa_cons pe_str pa_nil)))))) pa_nil)))
        (pa_cons (pe_call Gr (hr.mono (by decide)) rfl mr kr br .nil pass0 (pa_cons (pv 0) (pa_cons pe_int pa_nil))) pa_nil)) (by rfl))
      (pss_cons (ps_if (pt_cmpR op_eq (pv 5) pe_int (nomark _)) (pss_one (ps_ret (pe_tup (pa_cons (pe_make (T 0 (by decide)).mkr F0 (hr.mono (by decide)) rfl (T 0 (by decide)).mgC b0 .nil pass0 (pa_cons (pv 1) pa_nil)) (pa_cons pe_str (pa_cons (pe_lst (pa_cons (pv 1) pa_nil)) pa_nil)))))) pss_nil)
      (pss_cons (ps_if (pt_cmpR op_eq (pv 5) pe_int (nomark _)) (pss_one (ps_ret (pe_tup (pa_cons (pe_make (T 1 (by decide)).mkr F1 (hr.mono (by decide)) rfl (T 1 (by decide)).mgC b1 .nil pass0 (pa_cons (pv 1) (pa_cons (pv 4) pa_nil))) (pa_cons pe_str (pa_cons (pe_lst (pa_cons (pv 1) (pa_cons (pv 4) pa_nil))) pa_nil)))))) pss_nil)
      (pss_cons (ps_if (pt_cmpR op_eq (pv 5) pe_int (nomark _)) (pss_one (ps_ret (pe_tup (pa_cons (pe_make (T 2 (by decide)).mkr F2 (hr.mono (by decide)) rfl (T 2 (by decide)).mgC b2 .nil pass0 (pa_cons (pv 1) (pa_cons (pv 2) pa_nil))) (pa_cons pe_str (pa_cons (pe_lst (pa_cons (pv 1) (pa_cons (pe_call Gl' (hr.mono (by decide)) rfl ml kl bl' .nil pass0 (pa_cons (pv 2) pa_nil)) pa_nil))) pa_nil)))))) pss_nil)
      (pss_cons (ps_if (pt_cmpR op_eq (pv 5) pe_int (nomark _)) (pss_one (ps_ret (pe_tup (pa_cons (pe_make (T 3 (by decide)).mkr F3 (hr.mono (by decide)) rfl (T 3 (by decide)).mgC b3 .nil pass0 (pa_cons (pv 1) pa_nil)) (pa_cons pe_str (pa_cons (pe_lst (pa_cons (pv 1) pa_nil)) pa_nil)))))) pss_nil)
      (pss_one (ps_ret (pe_tup (pa_cons (pe_make (T 4 (by decide)).mkr F4 (hr.mono (by decide)) rfl (T 4 (by decide)).mgC b4 .nil pass0 (pa_cons (pv 2) (pa_cons (pv 3) pa_nil))) (pa_cons pe_str (pa_cons (pe_lst (pa_cons (pe_call Gl' (hr.mono (by decide)) rfl ml kl bl' .nil pass0 (pa_cons (pv 2) pa_nil)) (pa_cons (pe_call Gl' (hr.mono (by decide)) rfl ml kl bl' .nil pass0 (pa_cons (pv 3) pa_nil)) pa_nil))) pa_nil)))))))))))), ?_⟩
    refine q_par3Q (S := S) (c := c) (ns := ns) (n := n) (n1 := n + 2) (n2 := n + 4) (n3 := n + 6) (P := InR K labelD S) (P2 := InR K partD S) (P3 := InR K partD S)
      (eq_pick (n1 := n + 1) (m := 3) rfl hSp (by omega) (eq_lst (aq_acons (in_of (d := .str "a") d_str (by simp [labelD])) inR_w (aq_acons (in_of (d := .str "b") d_str (by simp [labelD])) inR_w (aq_acons (n1 := n + 1) (in_sub (eq_w rfl hSp (by omega)) fun d hd => mem_label hd) inR_w aq_anil))) (allP_w inR_w) fun xs H2 z => by rw [z.1]; decide) (by decide) (by decide) inR_w) inR_w
      (eq_w rfl hSp (by omega)) inR_w (eq_w rfl hSp (by omega)) hp hS fun v1 v2 v3 H1 e1 hp1 hS1 z1 z2 z3 => ?_
    refine q_parQ (S := S) (c := c) (ns := ns) (n1 := n + 7) (n2 := n + 8) (P := InR K countD S) (P2 := fun v _ => ∃ r : Int, v = .int r ∧ 0 ≤ r ∧ r < 5)
      (eq_pick (n1 := n + 6) (m := 5) rfl hSp (by omega) (eq_lst (aq_acons (in_of (d := .int 1) d_int (by simp [countD])) inR_w (aq_acons (in_of (d := .int 2) d_int (by simp [countD])) inR_w (aq_acons (in_of (d := .int 1000) d_int (by simp [countD])) inR_w (aq_acons (in_of (d := .none) d_none (by simp [countD])) inR_w (aq_acons (in_of (d := .str "a") d_str (by simp [countD])) inR_w aq_anil))))) (allP_w inR_w) fun xs H2 z => by rw [z.1]; decide) (by decide) (by decide) inR_w) inR_w
      (eq_draw rfl hSp (by omega) (by decide) (by decide)) hp1 hS1 fun v4 v5 H2 e2 hp2 hS2 z4 z5 => ?_
    obtain ⟨r, rfl, r0, r1⟩ := z5
    have e12 := e1.trans e2
    obtain ⟨x1, m1, q1⟩ := inR_w _ _ _ e2.1 z1
    obtain ⟨x2, m2, q2⟩ := inR_w _ _ _ e2.1 z2
    obtain ⟨x3, m3, q3⟩ := inR_w _ _ _ e2.1 z3
    obtain ⟨x4, m4, q4⟩ := z4
    have go : ∀ (x : Int) (H3 : Hp), EvT (tTest (tOp rEq (tVar 5) (tC (.int x)))) [some (.ref p), some v1, some v2, some v3, some v4, some (.int r)] H3 (decide (V.int r = V.int x)) := fun x H3 => et_test (ev_op (ev_var rfl) ev_c (rv_eq rfl))
    have w1 : ∀ H', Wx S p H2 H' → IsD K S x1 v1 H' := fun H' w => Dq.mono w.1 q1
    have w2 : ∀ H', Wx S p H2 H' → IsD K S x2 v2 H' := fun H' w => Dq.mono w.1 q2
    have w3 : ∀ H', Wx S p H2 H' → IsD K S x3 v3 H' := fun H' w => Dq.mono w.1 q3
    have w4 : ∀ H', Wx S p H2 H' → IsD K S x4 v4 H' := fun H' w => Dq.mono w.1 q4
    have fin : ∀ {te : TE} {D' : Ends} {H3 : Hp}, D'.rt = Q → EQ S p c ns te [some (.ref p), some v1, some v2, some v3, some v4, some (.int r)] H2 (n + 8) (n + 8) (OneR K S) → Ex H2 H3 → tRet te D' [some (.ref p), some v1, some v2, some v3, some v4, some (.int r)] H3 := fun {te D' H3} hD h e3 =>
      s_retQ (eq_at h (.of e3 hS2)) (hp2.mono e3 (Nat.le_refl _)) (hS2.mono e3) fun v H4 e4 hp4 z => by
        rw [hD]
        exact k v H4 ((e12.trans (.of e3 hS2)).trans e4) hp4 z
    refine q_when (go 0 H2) (fun hb H3 e3 => ?_) (fun hb H3 e3 => ?_)
    · exact fin rfl (ret_one (i := 0) (ds := [x1]) (by decide) ⟨rfl, one_mem (u_label m1)⟩ (er_piece (g := gShow) (aq_dcons (eq_var rfl w1) aq_dnil) rfl) (eq_dlst (aq_dcons (eq_var rfl w1) aq_dnil) (by show 1 ≤ 1000; decide))) e3
    refine q_when (go 1 H3) (fun hb H4 e4 => ?_) (fun hb H4 e4 => ?_)
    · exact fin rfl (ret_one (i := 1) (ds := [x1, x4]) (by decide) ⟨rfl, two_mem (u_label m1) (u_count m4)⟩ (er_piece (g := gAdd) (aq_dcons (eq_var rfl w1) (aq_dcons (eq_var rfl w4) aq_dnil)) rfl) (eq_dlst (aq_dcons (eq_var rfl w1) (aq_dcons (eq_var rfl w4) aq_dnil)) (by show 2 ≤ 1000; decide))) (e3.trans e4)
    refine q_when (go 2 H4) (fun hb H5 e5 => ?_) (fun hb H5 e5 => ?_)
    · exact fin rfl (ret_one (i := 2) (ds := [x1, listed x2]) (by decide) ⟨rfl, two_mem (u_label m1) (u_part m2)⟩ (er_piece (g := gCall) (aq_dcons (eq_var rfl w1) (aq_dcons (eq_var rfl w2) aq_dnil)) rfl) (eq_dlst (aq_dcons (eq_var rfl w1) (aq_dcons (eq_listed (eq_var rfl w2)) aq_dnil)) (by show 2 ≤ 1000; decide))) ((e3.trans e4).trans e5)
    refine q_when (go 3 H5) (fun hb H6 e6 => ?_) (fun hb H6 e6 => ?_)
    · exact fin rfl (ret_one (i := 3) (ds := [x1]) (by decide) ⟨rfl, one_mem (u_label m1)⟩ (er_piece (g := gGive) (aq_dcons (eq_var rfl w1) aq_dnil) rfl) (eq_dlst (aq_dcons (eq_var rfl w1) aq_dnil) (by show 1 ≤ 1000; decide))) (((e3.trans e4).trans e5).trans e6)
    · exact fin rfl (ret_one (i := 4) (ds := [listed x2, listed x3]) (by decide) ⟨rfl, two_mem (u_part m2) (u_part m3)⟩ (er_piece (g := gEither) (aq_dcons (eq_var rfl w2) (aq_dcons (eq_var rfl w3) aq_dnil)) rfl) (eq_dlst (aq_dcons (eq_listed (eq_var rfl w2)) (aq_dcons (eq_listed (eq_var rfl w3)) aq_dnil)) (by show 2 ≤ 1000; decide))) (((e3.trans e4).trans e5).trans e6)
end
end HB
namespace HB
open PySem PySem.Spec PyProof.Rows L2 Evl
/-! ### what is true of the data that may come -/
theorem univ_ok : ∀ d ∈ univD, okD d = true ∧ d.showable = true ∧ d.depth ≤ 6 ∧ d.shown.length ≤ 200 := by decide +kernel
section
variable {P : Program} {w : World} {K : PySem.W.Frag} {mg : Str → Option Value} {base : Heap}
theorem dqs_get {H : Hp} : ∀ {vs : List V} {ds : List PyData} {j : Nat} {d : PyData}, Dqs K H vs ds → ds[j]? = some d → ∃ v, vs[j]? = some v ∧ Dq K H v d
  | _, _, _, _, .nil, h => by simp at h
  | _, _, 0, _, .cons a _, h => by
    simp at h
    subst h
    exact ⟨_, rfl, a⟩
  | _, _, j + 1, d, .cons _ r, h => by
    obtain ⟨v, h1, h2⟩ := dqs_get (j := j) (d := d) r (by simpa using h)
    exact ⟨v, by simpa using h1, h2⟩
/-- a property that can be read -/
def Prp (P : Program) (w : World) (K : PySem.W.Frag) (mg : Str → Option Value) (base : Heap) (C : Addr) (f : Str) (sp : Sp) : Prop := ∃ pa g fd, PropOf K C f pa g ∧ FnOk P w K mg base CX0 1 g fd ["self"] sp ∧ Binds K fd ["self"] []
theorem ev_part {S : Addr → Bool} {i j k : Nat} {ds : List PyData} {d : PyData} {u : V} {σ : L2.St} {H : Hp} (T : StC K mg i) (h : IsPc K S i ds u H) (hs : σ[k]? = some (some u)) (hj : ds[j]? = some d) : ∃ v, Dq K H v d ∧ Ev (tProp (cS K i) (spPart K j) [] E0 (tVar k)) σ H v := by
  obtain ⟨a, dx, t, ys, rfl, ha, ht, hd⟩ := h
  obtain ⟨v, hv, q⟩ := dqs_get hd hj
  exact ⟨v, Dq.mono hid_ex q, fun H1 e Q k => ⟨_, hs, a, dx, _, rfl, e _ _ (hid_ex _ _ ha), a, _, dx, t, _, ys, v, rfl, e _ _ (hid_ex _ _ ha), T.ob.cls, T.np, rfl, st_of (e _ _ (hid_ex _ _ ht)), hv, k H1 (Ex.refl H1)⟩⟩
theorem rc_isi {x : V} {t : Value} {C : Addr} {b : Bool} {H : Hp} (ty : ∀ H1, Ex H H1 → TyX K H1 x t) (hk : PySem.W.kitOne K t (.ref C) = some b) : RC (rIsi K) [x, .ref C] H (.bl b) := fun H1 e Q q => ⟨x, .ref C, t, .ref C, b, rfl, .own C, ty H1 e, hk, q H1 (Ex.refl H1)⟩
theorem rc_rep {v : V} {d : PyData} {H : Hp} (h : Dq K H v d) (h1 : d.showable = true) (h2 : d.depth < 60) (h3 : d.shown.length ≤ 100000) : RC (rRepr K) [v] H (.str d.shown) := fun H1 e Q q => ⟨v, d, rfl, Dq.mono e h, h1, h2, sz_of h3, q H1 (Ex.refl H1)⟩
/-- repr of a list that was just made -/
theorem ev_repL {te : TE} {σ : L2.St} {H : Hp} {xs : List V} {ds : List PyData} (h : EvL te σ H xs) (hd : Dqs K H xs ds) (h1 : (PyData.list ds).showable = true) (h2 : (PyData.list ds).depth < 60) (h3 : (PyData.list ds).shown.length ≤ 100000) : Ev (tCB (rRepr K) (tCons te tNil)) σ H (.str (PyData.list ds).shown) := fun H1 e Q q =>
  h H1 e _ fun a H2 _ e2 ha => ⟨_, _, rfl, .lst (sq_of ha) (Dqs.mono (e.trans e2) hd), h1, h2, sz_of h3, q H2 e2⟩
def bools (bs : List Bool) : List PyData := bs.map PyData.bool
theorem ok_bools : ∀ bs : List Bool, okDs (bools bs) = true
  | [] => rfl
  | b :: r => by
    show (okD (.bool b) && okDs (bools r)) = true
    rw [ok_bools r]
    rfl
theorem dep_bools : ∀ bs : List Bool, PyData.depthAll (bools bs) ≤ 1
  | [] => by decide
  | b :: r => by
    have h := dep_bools r
    show max 0 (PyData.depthAll (bools r)) ≤ 1
    omega
theorem dq_bools {H : Hp} : ∀ bs : List Bool, Dqs K H (bs.map V.bl) (bools bs)
  | [] => .nil
  | b :: r => .cons (.bl b) (dq_bools r)
/-- two lists of bools, the same: they do not differ -/
theorem ev_neB {ta tb : TE} {σ : L2.St} {H : Hp} {a : Addr} {bs : List Bool} (ha : Ev ta σ H (.ref a)) (hl : H a = some (.lst (bs.map V.bl))) (hb : EvL tb σ H (bs.map V.bl)) : Ev (tOp (rNeQ K) ta tb) σ H (.bl false) := fun H1 e Q q =>
  ha H1 e _ fun H2 e2 => hb H2 (e.trans e2) _ fun b H3 _ e3 hb3 => by
    refine ⟨bools bs, bools bs, .lst (sq_of (e3 _ _ (e2 _ _ (e _ _ hl)))) (dq_bools bs), .lst (sq_of hb3) (dq_bools bs), ok_bools bs, ok_bools bs, by have := dep_bools bs; omega, ?_⟩
    rw [eqDs_refl _ (ok_bools bs)]
    exact q H3 (e2.trans e3)
theorem textFrom_le : ∀ (ts : List Str) (k : Nat) (acc : Str) (b : Nat), (∀ t ∈ ts, t.length ≤ b) → (textFrom k acc ts).length ≤ acc.length + ts.length * (b + 2)
  | [], k, acc, b, _ => by
    show acc.length ≤ _
    omega
  | t :: r, k, acc, b, h => by
    have h1 := textFrom_le r (k + 1) (acc ++ (if k > 0 then ", " else "" : String) ++ t) b fun x hx => h x (List.mem_cons_of_mem _ hx)
    have h2 := h t List.mem_cons_self
    have h3 : (acc ++ (if k > 0 then ", " else "" : String) ++ t : Str).length ≤ acc.length + 2 + t.length := by
      rw [Str.length_append, Str.length_append]
      split
      · have : (Str.ofString ", ").length = 2 := by decide +kernel
        omega
      · have : (Str.ofString "").length = 0 := by decide +kernel
        omega
    show (textFrom (k + 1) (acc ++ (if k > 0 then ", " else "" : String) ++ t) r).length ≤ _
    rw [List.length_cons, Nat.succ_mul]
    omega
theorem shownAll_le : ∀ {ds : List PyData} {b : Nat}, (∀ d ∈ ds, d.shown.length ≤ b) → (∀ t ∈ PyData.shownAll ds, t.length ≤ b) ∧ (PyData.shownAll ds).length = ds.length
  | [], _, _ => ⟨fun t ht => by simp [PyData.shownAll] at ht, rfl⟩
  | d :: ds, b, h => by
    obtain ⟨h1, h2⟩ := shownAll_le (ds := ds) (b := b) fun x hx => h x (List.mem_cons_of_mem _ hx)
    refine ⟨fun t ht => ?_, by rw [PyData.shownAll, List.length_cons, List.length_cons, h2]⟩
    rw [PyData.shownAll] at ht
    rcases List.mem_cons.mp ht with rfl | ht
    · exact h d List.mem_cons_self
    · exact h1 t ht
theorem all_ok : ∀ {ds : List PyData}, (∀ d ∈ ds, d ∈ univD) → okDs ds = true ∧ PyData.depthAll ds ≤ 6 ∧ PyData.showableAll ds = true
  | [], _ => ⟨rfl, by decide, rfl⟩
  | d :: ds, h => by
    obtain ⟨h1, h2, h3⟩ := all_ok (ds := ds) fun x hx => h x (List.mem_cons_of_mem _ hx)
    obtain ⟨u1, u2, u3, u4⟩ := univ_ok d (h d List.mem_cons_self)
    refine ⟨by rw [okDs, u1, h1]; rfl, ?_, by rw [PyData.showableAll, u2, h3]; rfl⟩
    show max d.depth (PyData.depthAll ds) ≤ 6
    omega
theorem list_ok {ds : List PyData} (h : ∀ d ∈ ds, d ∈ univD) (hl : ds.length ≤ 10) : okDs ds = true ∧ PyData.depthAll ds ≤ 6 ∧ (PyData.list ds).showable = true ∧ (PyData.list ds).shown.length ≤ 3000 := by
  obtain ⟨h1, h2, h3⟩ := all_ok h
  refine ⟨h1, h2, h3, ?_⟩
  obtain ⟨q1, q2⟩ := shownAll_le (ds := ds) (b := 200) fun d hd => (univ_ok d (h d hd)).2.2.2
  have q3 := textFrom_le (PyData.shownAll ds) 0 "[" 200 q1
  rw [q2] at q3
  show (listText (PyData.shownAll ds)).length ≤ 3000
  unfold listText
  rw [Str.length_append]
  have e1 : (Str.ofString "[").length = 1 := by decide +kernel
  have e2 : (Str.ofString "]").length = 1 := by decide +kernel
  have e3 : ds.length * (200 + 2) ≤ 10 * 202 := Nat.mul_le_mul_right 202 hl
  omega
end
end HB
namespace HB
open PySem PySem.Spec PyProof.Rows L2 Evl
section
variable {P : Program} {w : World} {K : PySem.W.Frag} {mg : Str → Option Value} {base : Heap}
def spRight (K : PySem.W.Frag) : Sp := fun vs H Q _ => ∃ (u l : V) (i : Nat) (ds : List PyData) (S : Addr → Bool), vs = [u, .str (kw i), l] ∧ i < 5 ∧ PcD i ds ∧ IsPc K S i ds u H ∧ IsD K S (.list ds) l H ∧ ∀ H', Ex H H' → Q (.bl true) H'
structure Prps (P : Program) (w : World) (K : PySem.W.Frag) (mg : Str → Option Value) (base : Heap) : Prop where
  name : ∀ i, i < 4 → Prp P w K mg base (cS K i) "name" (spPart K 0)
  many : Prp P w K mg base (cS K 1) "many" (spPart K 1)
  things : Prp P w K mg base (cS K 2) "things" (spPart K 1)
  one : Prp P w K mg base (cS K 4) "one" (spPart K 0)
  other : Prp P w K mg base (cS K 4) "other" (spPart K 1)
abbrev Nr : List Str := ["_law_piece", "_law_word", "_law_due", "_law_kinds", "_law_told"]
theorem sc_right : FnScope Nr ["_law_piece", "_law_word", "_law_due"] (defScope (top 18)) := ⟨rfl, rfl, rfl, by decide +kernel, rfl, by decide +kernel, by decide +kernel⟩
theorem ar_le : ∀ i, i < 5 → ar i ≤ 10 := by decide
theorem len2 {ds : List PyData} (h : ds.length = 2) : ∃ x y, ds = [x, y] := match ds, h with | [x, y], _ => ⟨x, y, rfl⟩
theorem kinds_eq : ∀ i, i < 5 → ([0, 1, 2, 3, 4].map fun j => decide (V.str (kw i) = V.str (kw j))) = [0, 1, 2, 3, 4].map fun j => decide (i = j) := by decide +kernel
theorem ok_right {f : Addr} {fd : FuncData} (F : FnP K "_law_is_right" (top 18) f fd) (Sy : Sys K) (T : ∀ i, i < 5 → StC K mg i) (R : Prps P w K mg base) (m1 : mg "isinstance" = none) (m2 : mg "repr" = none) (mS : mg "Statement" = some (.ref (cB K))) : FnG P w K mg base CX0 3 f fd ["_law_piece", "_law_word", "_law_due"] (spRight K) := by
  refine fun_okG F sc_right (fun vs H Q E h => ?_) (fun cdv A outer s H vs Q E hg hr h => ?_)
  · obtain ⟨u, l, i, ds, S, rfl, _⟩ := h
    rfl
  · obtain ⟨u, l, i, ds, S, rfl, hi, hd, hp, hl, k⟩ := h
    have hg0 : (A.deeper (envOfC "_law_is_right" (defScope (top 18)) s.heap.objs.size f cdv)).guards = some [] := hg
    have hu0 := hr.units
    obtain ⟨ni, hni, hni2⟩ : ∃ ni, ni < 4 ∧ (i < 4 → ni = i) := by
      by_cases z : i < 4
      · exact ⟨i, z, fun _ => rfl⟩
      · exact ⟨0, by decide, fun y => absurd y z⟩
    obtain ⟨pa1, g1, d1, po1, F1, b1⟩ := R.name ni hni
    obtain ⟨pa2, g2, d2, po2, F2, b2⟩ := R.many
    obtain ⟨pa3, g3, d3, po3, F3, b3⟩ := R.things
    obtain ⟨pa4, g4, d4, po4, F4, b4⟩ := R.one
    obtain ⟨pa5, g5, d5, po5, F5, b5⟩ := R.other
    refine ⟨_, PSs.nox (pss_cons (ps_set (i := 3) sc_right.nd rfl (Or.inl rfl) (pe_lst (pa_cons (pe_callB call_isi (by rfl) m1 (by decide +kernel) (pa_cons (pv 0) (pa_cons (pe_glob (by rfl) (T 0 (by decide)).mgC (v := .ref (cS K 0)) rfl) pa_nil))) (pa_cons (pe_callB call_isi (by rfl) m1 (by decide +kernel) (pa_cons (pv 0) (pa_cons (pe_glob (by rfl) (T 1 (by decide)).mgC (v := .ref (cS K 1)) rfl) pa_nil))) (pa_cons (pe_callB call_isi (by rfl) m1 (by decide +kernel) (pa_cons (pv 0) (pa_cons (pe_glob (by rfl) (T 2 (by decide)).mgC (v := .ref (cS K 2)) rfl) pa_nil))) (pa_cons (pe_callB call_isi (by rfl) m1 (by decide +kernel) (pa_cons (pv 0) (pa_cons (pe_glob (by rfl) (T 3 (by decide)).mgC (v := .ref (cS K 3)) rfl) pa_nil))) pa_nil))))))
      (pss_cons (ps_expr (pe_bm PySem.F.plainAttrs_list PySem.F.slot_list_append PySem.F.type_list_append mt_append (pv 3) (pa_cons (pe_callB call_isi (by rfl) m1 (by decide +kernel) (pa_cons (pv 0) (pa_cons (pe_glob (by rfl) (T 4 (by decide)).mgC (v := .ref (cS K 4)) rfl) pa_nil))) pa_nil)))
      (pss_cons (ps_if (pt_cmpR (op_neQ hu0) (pv 3) (pe_lst (pa_cons (pe_cmpR op_eq (pv 1) pe_str (nomark _)) (pa_cons (pe_cmpR op_eq (pv 1) pe_str (nomark _)) (pa_cons (pe_cmpR op_eq (pv 1) pe_str (nomark _)) (pa_cons (pe_cmpR op_eq (pv 1) pe_str (nomark _)) (pa_cons (pe_cmpR op_eq (pv 1) pe_str (nomark _)) pa_nil)))))) (nomark _)) (pss_one (ps_ret pe_bl)) pss_nil)
      (pss_cons (ps_if (pt_not (pt_val (pe_callB call_isi (by rfl) m1 (by decide +kernel) (pa_cons (pv 0) (pa_cons (pe_glob (by rfl) mS (v := .ref (cB K)) rfl) pa_nil))))) (pss_one (ps_ret pe_bl)) pss_nil)
      (pss_cons (ps_if (pt_cmpR op_eq (pv 1) pe_str (nomark _)) (pss_one (ps_ret (pe_cmpR op_eq (pe_callB (call_repr Sy hg0 hu0) (by rfl) m2 (by decide +kernel) (pa_cons (pe_lst (pa_cons (pe_prop (pv 0) (T 4 (by decide)).ob.cls po4 F4 (hr.mono (by decide)) b4 .nil pass0 rfl) (pa_cons (pe_prop (pv 0) (T 4 (by decide)).ob.cls po5 F5 (hr.mono (by decide)) b5 .nil pass0 rfl) pa_nil))) pa_nil)) (pe_callB (call_repr Sy hg0 hu0) (by rfl) m2 (by decide +kernel) (pa_cons (pv 2) pa_nil)) (nomark _)))) pss_nil)
      (pss_cons (ps_set (i := 4) sc_right.nd rfl (Or.inl rfl) (pe_lst (pa_cons (pe_prop (pv 0) (T ni (by omega)).ob.cls po1 F1 (hr.mono (by decide)) b1 .nil pass0 rfl) pa_nil)))
      (pss_cons (ps_if (pt_cmpR op_eq (pv 1) pe_str (nomark _)) (pss_one (ps_expr (pe_bm PySem.F.plainAttrs_list PySem.F.slot_list_append PySem.F.type_list_append mt_append (pv 4) (pa_cons (pe_prop (pv 0) (T 1 (by decide)).ob.cls po2 F2 (hr.mono (by decide)) b2 .nil pass0 rfl) pa_nil)))) pss_nil)
      (pss_cons (ps_if (pt_cmpR op_eq (pv 1) pe_str (nomark _)) (pss_one (ps_expr (pe_bm PySem.F.plainAttrs_list PySem.F.slot_list_append PySem.F.type_list_append mt_append (pv 4) (pa_cons (pe_prop (pv 0) (T 2 (by decide)).ob.cls po3 F3 (hr.mono (by decide)) b3 .nil pass0 rfl) pa_nil)))) pss_nil)
      (pss_one (ps_ret (pe_cmpR op_eq (pe_callB (call_repr Sy hg0 hu0) (by rfl) m2 (by decide +kernel) (pa_cons (pv 4) pa_nil)) (pe_callB (call_repr Sy hg0 hu0) (by rfl) m2 (by decide +kernel) (pa_cons (pv 2) pa_nil)) (nomark _)))))))))))), ?_⟩
    obtain ⟨ok1, ok2, ok3, ok4⟩ := list_ok hd.2 (by rw [hd.1]; exact ar_le i hi)
    have ty : ∀ H1, Ex H H1 → TyX K H1 u (.ref (cS K i)) := fun H1 e => by
      obtain ⟨a, dx, t, ys, rfl, ha, _⟩ := hp
      exact (T i hi).ob.ty (e _ _ (hid_ex _ _ ha))
    have pc : ∀ H1, Ex H H1 → IsPc K S i ds u H1 := fun H1 e => isPc_w _ _ _ (hid_mono e) hp
    have dl : ∀ H1, Ex H H1 → Dq K H1 l (.list ds) := fun H1 e => Dq.mono (hid_ex.trans e) hl
    have dep : (PyData.list ds).depth < 60 := by
      show PyData.depthAll ds + 1 < 60
      omega
    refine q_asgL (xs := [0, 1, 2, 3].map fun j => V.bl (decide (i = j))) (el_lst (ea_cons (ev_cb (ea_cons (ev_var rfl) (ea_cons ev_c ea_nil)) (rc_isi ty ((T i hi).kit 0 (by decide)))) (ea_cons (ev_cb (ea_cons (ev_var rfl) (ea_cons ev_c ea_nil)) (rc_isi ty ((T i hi).kit 1 (by decide)))) (ea_cons (ev_cb (ea_cons (ev_var rfl) (ea_cons ev_c ea_nil)) (rc_isi ty ((T i hi).kit 2 (by decide)))) (ea_cons (ev_cb (ea_cons (ev_var rfl) (ea_cons ev_c ea_nil)) (rc_isi ty ((T i hi).kit 3 (by decide)))) ea_nil)))) (by show 4 ≤ 100000; decide)) fun q1 H1 hq1 e1 h1 => ?_
    refine q_app (v := .bl (decide (i = 4))) h1 (ev_var rfl) (ev_cb (ea_cons (ev_var rfl) (ea_cons ev_c ea_nil)) (rc_isi (fun H2 e2 => ty H2 (e1.trans e2)) ((T i hi).kit 4 (by decide)))) (by show 4 < 100000; decide) fun H2 e2 => ?_
    have e3 : Ex H (upd H2 q1 (.lst (([0, 1, 2, 3].map fun j => V.bl (decide (i = j))) ++ [.bl (decide (i = 4))]))) := Ex.mut (e1.trans e2) hq1
    generalize hH3 : upd H2 q1 (.lst (([0, 1, 2, 3].map fun j => V.bl (decide (i = j))) ++ [.bl (decide (i = 4))])) = H3 at e3
    have h3 : H3 q1 = some (.lst (([0, 1, 2, 3, 4].map fun j => decide (i = j)).map V.bl)) := by
      rw [← hH3]
      exact upd_same
    have kl : EvL (tLst (tCons (tOp rEq (tVar 1) (tC (.str "show"))) (tCons (tOp rEq (tVar 1) (tC (.str "add"))) (tCons (tOp rEq (tVar 1) (tC (.str "call"))) (tCons (tOp rEq (tVar 1) (tC (.str "give"))) (tCons (tOp rEq (tVar 1) (tC (.str "either"))) tNil)))))) [some u, some (.str (kw i)), some l, some (.ref q1), none] H3 (([0, 1, 2, 3, 4].map fun j => decide (i = j)).map V.bl) := by
      rw [← kinds_eq i hi]
      exact el_lst (ea_cons (ev_op (ev_var rfl) ev_c (rv_eq rfl)) (ea_cons (ev_op (ev_var rfl) ev_c (rv_eq rfl)) (ea_cons (ev_op (ev_var rfl) ev_c (rv_eq rfl)) (ea_cons (ev_op (ev_var rfl) ev_c (rv_eq rfl)) (ea_cons (ev_op (ev_var rfl) ev_c (rv_eq rfl)) ea_nil))))) (by show 5 ≤ 100000; decide)
    refine q_when (b := false) (et_test (ev_neB (ev_var rfl) h3 kl)) (fun z => nomatch z) fun _ H4 e4 => ?_
    have e04 := e3.trans e4
    refine q_when (b := false) (et_is (et_not (et_B (ev_cb (ea_cons (ev_var rfl) (ea_cons ev_c ea_nil)) (rc_isi (fun H5 e5 => ty H5 (e04.trans e5)) (T i hi).kitS)))) rfl) (fun z => nomatch z) fun _ H5 e5 => ?_
    have e05 := e04.trans e5
    have word : ∀ (x : Str) (σ : L2.St) (H' : Hp), σ[1]? = some (some (.str (kw i))) → EvT (tTest (tOp rEq (tVar 1) (tC (.str x)))) σ H' (decide (V.str (kw i) = V.str x)) := fun x σ H' hs => et_test (ev_op (ev_var hs) ev_c (rv_eq rfl))
    have cmp : ∀ {te : TE} {σ : L2.St} {H' : Hp} {D : Ends}, D.rt = Q → Ex H H' → σ[2]? = some (some l) → Ev te σ H' (.str (PyData.list ds).shown) → tRet (tOp rEq te (tCB (rRepr K) (tCons (tVar 2) tNil))) D σ H' := fun {te σ H' D} hD eH hs hv =>
      s_ret (v := .bl true) (ev_is (ev_op hv (ev_cb (ea_cons (ev_var hs) ea_nil) (rc_rep (dl H' eH) ok3 dep (by omega))) (rv_eq rfl)) (by simp)) fun H'' e'' => by
        rw [hD]
        exact k H'' (eH.trans e'')
    have told : ∀ {q : Addr} {σ : L2.St} {H' : Hp} {vs : List V}, σ[4]? = some (some (.ref q)) → H' q = some (.lst vs) → Dqs K H' vs ds → Ev (tCB (rRepr K) (tCons (tVar 4) tNil)) σ H' (.str (PyData.list ds).shown) := fun {q σ H' vs} hs hv hd' =>
      ev_cb (ea_cons (ev_var hs) ea_nil) (rc_rep (.lst (sq_of hv) hd') ok3 dep (by omega))
    have hlen := hd.1
    have cases5 : i = 0 ∨ i = 1 ∨ i = 2 ∨ i = 3 ∨ i = 4 := by omega
    rcases cases5 with rfl | rfl | rfl | rfl | rfl
    · obtain rfl := hni2 (by decide)
      obtain ⟨x, rfl⟩ : ∃ x, ds = [x] := List.length_eq_one_iff.mp hlen
      refine q_when (b := false) (word "either" _ _ rfl) (fun z => nomatch z) fun _ H6 e6 => ?_
      obtain ⟨v0, dv0, ev0⟩ := ev_part (k := 0) (j := 0) (σ := [some u, some (.str (kw 0)), some l, some (.ref q1), none]) (T 0 hi) (pc H6 (e05.trans e6)) rfl rfl
      refine q_asgL (xs := [v0]) (el_lst (ea_cons ev0 ea_nil) (by show 1 ≤ 100000; decide)) fun q2 H7 hq2 e7 h7 => ?_
      refine q_when (b := false) (word "add" _ _ rfl) (fun z => nomatch z) fun _ H8 e8 => ?_
      refine q_when (b := false) (word "call" _ _ rfl) (fun z => nomatch z) fun _ H9 e9 => ?_
      exact cmp rfl ((((e05.trans e6).trans e7).trans e8).trans e9) rfl (told rfl (e9 _ _ (e8 _ _ h7)) (.cons (Dq.mono ((e7.trans e8).trans e9) dv0) .nil))
    · obtain rfl := hni2 (by decide)
      obtain ⟨x, y, rfl⟩ := len2 hlen
      refine q_when (b := false) (word "either" _ _ rfl) (fun z => nomatch z) fun _ H6 e6 => ?_
      obtain ⟨v0, dv0, ev0⟩ := ev_part (k := 0) (j := 0) (σ := [some u, some (.str (kw 1)), some l, some (.ref q1), none]) (T 1 hi) (pc H6 (e05.trans e6)) rfl rfl
      refine q_asgL (xs := [v0]) (el_lst (ea_cons ev0 ea_nil) (by show 1 ≤ 100000; decide)) fun q2 H7 hq2 e7 h7 => ?_
      obtain ⟨v1, dv1, ev1⟩ := ev_part (k := 0) (j := 1) (σ := [some u, some (.str (kw 1)), some l, some (.ref q1), some (.ref q2)]) (T 1 hi) (pc H6 (e05.trans e6)) rfl rfl
      refine q_when (b := true) (word "add" _ _ rfl) (fun _ H8 e8 => ?_) (fun z => nomatch z)
      refine s_app (D := { nx := _, rt := _, bk := _, ct := _ }) (e8 _ _ h7) (ev_var rfl) (ev1.mono (e7.trans e8)) (by show 1 < 100000; decide) fun H9 e9 => ?_
      have e69 : Ex H6 (upd H9 q2 (.lst ([v0] ++ [v1]))) := Ex.mut ((e7.trans e8).trans e9) hq2
      refine q_when (b := false) (word "call" _ _ rfl) (fun z => nomatch z) fun _ H10 e10 => ?_
      exact cmp rfl ((e05.trans e6).trans (e69.trans e10)) rfl (told rfl (e10 _ _ upd_same) (.cons (Dq.mono (e69.trans e10) dv0) (.cons (Dq.mono (e69.trans e10) dv1) .nil)))
    · obtain rfl := hni2 (by decide)
      obtain ⟨x, y, rfl⟩ := len2 hlen
      refine q_when (b := false) (word "either" _ _ rfl) (fun z => nomatch z) fun _ H6 e6 => ?_
      obtain ⟨v0, dv0, ev0⟩ := ev_part (k := 0) (j := 0) (σ := [some u, some (.str (kw 2)), some l, some (.ref q1), none]) (T 2 hi) (pc H6 (e05.trans e6)) rfl rfl
      refine q_asgL (xs := [v0]) (el_lst (ea_cons ev0 ea_nil) (by show 1 ≤ 100000; decide)) fun q2 H7 hq2 e7 h7 => ?_
      obtain ⟨v1, dv1, ev1⟩ := ev_part (k := 0) (j := 1) (σ := [some u, some (.str (kw 2)), some l, some (.ref q1), some (.ref q2)]) (T 2 hi) (pc H6 (e05.trans e6)) rfl rfl
      refine q_when (b := false) (word "add" _ _ rfl) (fun z => nomatch z) fun _ H8a e8a => ?_
      refine q_when (b := true) (word "call" _ _ rfl) (fun _ H8 e8 => ?_) (fun z => nomatch z)
      refine s_app (D := { nx := _, rt := _, bk := _, ct := _ }) (e8 _ _ (e8a _ _ h7)) (ev_var rfl) (ev1.mono ((e7.trans e8a).trans e8)) (by show 1 < 100000; decide) fun H9 e9 => ?_
      have e69 : Ex H6 (upd H9 q2 (.lst ([v0] ++ [v1]))) := Ex.mut (((e7.trans e8a).trans e8).trans e9) hq2
      have e10 := Ex.refl (upd H9 q2 (.lst ([v0] ++ [v1])))
      exact cmp rfl ((e05.trans e6).trans (e69.trans e10)) rfl (told rfl (e10 _ _ upd_same) (.cons (Dq.mono (e69.trans e10) dv0) (.cons (Dq.mono (e69.trans e10) dv1) .nil)))
    · obtain rfl := hni2 (by decide)
      obtain ⟨x, rfl⟩ : ∃ x, ds = [x] := List.length_eq_one_iff.mp hlen
      refine q_when (b := false) (word "either" _ _ rfl) (fun z => nomatch z) fun _ H6 e6 => ?_
      obtain ⟨v0, dv0, ev0⟩ := ev_part (k := 0) (j := 0) (σ := [some u, some (.str (kw 3)), some l, some (.ref q1), none]) (T 3 hi) (pc H6 (e05.trans e6)) rfl rfl
      refine q_asgL (xs := [v0]) (el_lst (ea_cons ev0 ea_nil) (by show 1 ≤ 100000; decide)) fun q2 H7 hq2 e7 h7 => ?_
      refine q_when (b := false) (word "add" _ _ rfl) (fun z => nomatch z) fun _ H8 e8 => ?_
      refine q_when (b := false) (word "call" _ _ rfl) (fun z => nomatch z) fun _ H9 e9 => ?_
      exact cmp rfl ((((e05.trans e6).trans e7).trans e8).trans e9) rfl (told rfl (e9 _ _ (e8 _ _ h7)) (.cons (Dq.mono ((e7.trans e8).trans e9) dv0) .nil))
    · obtain ⟨x, y, rfl⟩ := len2 hlen
      refine q_when (b := true) (word "either" _ _ rfl) (fun _ H6 e6 => ?_) (fun z => nomatch z)
      obtain ⟨v0, dv0, ev0⟩ := ev_part (k := 0) (j := 0) (σ := [some u, some (.str (kw 4)), some l, some (.ref q1), none]) (T 4 hi) (pc H6 (e05.trans e6)) rfl rfl
      obtain ⟨v1, dv1, ev1⟩ := ev_part (k := 0) (j := 1) (σ := [some u, some (.str (kw 4)), some l, some (.ref q1), none]) (T 4 hi) (pc H6 (e05.trans e6)) rfl rfl
      exact cmp rfl (e05.trans e6) rfl (ev_repL (el_lst (ea_cons ev0 (ea_cons ev1 ea_nil)) (by show 2 ≤ 100000; decide)) (.cons dv0 (.cons dv1 .nil)) ok3 dep (by omega))

end
end HB
namespace HB
open PySem PySem.Spec PyProof.Rows L2 Evl
/-! ### the four ways in which Function is called -/
abbrev psF : List Str := ["self", "name", "parameters", "things", "numbers", "functions", "body"]
def kwF (t1 t2 t3 t4 : V) : List (Str × V) := [("things", t1), ("numbers", t2), ("functions", t3), ("body", t4)]
section
variable {K : PySem.W.Frag} {f : Addr} {fd : FuncData} {e0 t1 t2 t3 t4 : V}
theorem bindA (F : FunD K "__init__" "Function.__init__" (defArgs sFun) (defBody sFun) (defScope sFun) [e0] (kwF t1 t2 t3 t4) f fd) : ∃ its mv : List Value, KBn K fd psF 3 ["things", "numbers", "functions", "body"] (fun us ws => us ++ ws) (fun vs zs => vs ++ zs) :=
  F.kbinds 3 ["things", "numbers", "functions", "body"] [] (fun us _ _ ws => us ++ ws) (by simp) (by simp [kwF]) (by simp) (fun r1 _ _ r4 => r1.append r4)
    fun T D doc pm an cdv ct us its mv ws l1 l2 l3 l4 => match us, its, mv, ws, l1, l2, l3, l4 with
      | [_, _, _], [_], [], [_, _, _, _], _, _, _, _ => ⟨_, rfl, rfl⟩
theorem bindB (F : FunD K "__init__" "Function.__init__" (defArgs sFun) (defBody sFun) (defScope sFun) [e0] (kwF t1 t2 t3 t4) f fd) : ∃ its mv : List Value, KBn K fd psF 3 ["things", "numbers"] (fun us ws => us ++ ws ++ mv) (fun vs zs => vs ++ zs ++ [t3, t4]) :=
  F.kbinds 3 ["things", "numbers"] [("functions", t3), ("body", t4)] (fun us _ mv ws => us ++ ws ++ mv) (by simp) (by simp [kwF]) (by simp [kwF]) (fun r1 _ r3 r4 => (r1.append r4).append r3)
    fun T D doc pm an cdv ct us its mv ws l1 l2 l3 l4 => match us, its, mv, ws, l1, l2, l3, l4 with
      | [_, _, _], [_], [_, _], [_, _], _, _, _, _ => ⟨_, rfl, ⟨_, _, _, _, _, _, rfl, rfl, ⟨_, _, _, _, _, _, rfl, rfl, rfl⟩⟩⟩
theorem bindC (F : FunD K "__init__" "Function.__init__" (defArgs sFun) (defBody sFun) (defScope sFun) [e0] (kwF t1 t2 t3 t4) f fd) : ∃ ds, Vals [e0, t1, t2, t3, t4] ds ∧ Binds K fd psF ds :=
  F.binds 2 0 (by simp) rfl (fun T D doc pm an cdv ct us its ks l1 l2 l3 => match us, its, ks, l1, l2, l3 with
      | [_, _], [_], [_, _, _, _], _, _, _ => ⟨_, rfl, ⟨_, _, _, _, _, _, rfl, rfl, ⟨_, _, _, _, _, _, rfl, rfl, ⟨_, _, _, _, _, _, rfl, rfl, ⟨_, _, _, _, _, _, rfl, rfl, rfl⟩⟩⟩⟩⟩) (by simp [kwF])
theorem bindD (F : FunD K "__init__" "Function.__init__" (defArgs sFun) (defBody sFun) (defScope sFun) [e0] (kwF t1 t2 t3 t4) f fd) : ∃ ds, Vals [t1, t2, t3, t4] ds ∧ Binds K fd psF ds :=
  F.binds 3 1 (by simp) rfl (fun T D doc pm an cdv ct us its ks l1 l2 l3 => match us, its, ks, l1, l2, l3 with
      | [_, _, _], [_], [_, _, _, _], _, _, _ => ⟨_, rfl, ⟨_, _, _, _, _, _, rfl, rfl, ⟨_, _, _, _, _, _, rfl, rfl, ⟨_, _, _, _, _, _, rfl, rfl, ⟨_, _, _, _, _, _, rfl, rfl, rfl⟩⟩⟩⟩⟩) (by simp [kwF])
end
end HB
namespace HB
open PySem PySem.Spec PyProof.Rows L2 Evl
section
variable {P : Program} {w : World} {K : PySem.W.Frag} {mg : Str → Option Value} {base : Heap}
variable {S : Addr → Bool} {p c : Addr} {ns : List Int} {σ : L2.St} {H : Hp} {n n1 n2 : Nat}
theorem fun_core {xs : List V} {ds : List PyData} {H1 H2 : Hp} {Q : VK} {x dx : Addr} (hx : AreD K S ds xs H2) (hl : ds.length = 6) (hS2 : SAll S H2) (e2 : Wx S p H1 H2) (hp2 : Pen H2 p c ns n) (hx0 : H2 x = none) (hdx : H2 dx = none)
    (q : ∀ v H', Wx S p H1 H' → Pen H' p c ns n → IsFn K S (gF ds) v H' → Q v H') : spFun K (cF K) (.ref x :: xs) (upd (upd H2 dx (.own x)) x (.ins (cF K) dx [])) (fun v H3 => v = .non ∧ Q (.ref x) H3) E0 := by
  have ex : Ex H2 (wo x (upd (upd H2 dx (.own x)) x (.ins (cF K) dx []))) := by
    rw [wo_upd]
    intro b o hb
    rw [wo_ne (ne_of_none hb hx0), upd_ne (ne_of_none hb hdx)]
    exact hb
  refine ⟨x, dx, xs, S, ds, rfl, upd_same, hS2.mono ex, Dqs.mono (hid_mono ex) hx, hl, fun H' t y0 y1 y2 y3 y4 y5 e' ha ht' hd' => ⟨rfl, ?_⟩⟩
  have eH : Ex H2 H' := (ex.trans e').trans wo_ex
  have em : Ex (hid S (wo x H')) (hid S H') := hid_mono wo_ex
  exact q (.ref x) H' (e2.trans (.of eH hS2)) (hp2.mono eH (Nat.le_refl _)) ⟨x, dx, t, y0, y1, y2, y3, y4, y5, rfl, by rw [hid_ne (hS2.fresh hx0)]; exact ha, em _ _ ht', Dqs.mono em hd'⟩
/-- Function(.., k = ..) -/
theorem eq_funK {t tk : TA} {nn mm : Nat} {gV : List V → List V → List V} {ex : List V} {ds1 ds2 dse : List PyData} (hgV : ∀ x vs zs, gV (x :: vs) zs = x :: (vs ++ zs ++ ex)) (hex : ∀ G, Dqs K G ex dse) (ht : AQ S p c ns t σ H n n (AreD K S ds1)) (htk : AQ S p c ns tk σ H n n (AreD K S ds2))
    (hl : (ds1 ++ ds2 ++ dse).length = 6) (l1 : ds1.length = nn) (l2 : ds2.length = mm) : EQ S p c ns (tMakeK (cF K) nn mm (spFun K (cF K)) gV E0 t tk) σ H n n (IsFn K S (gF (ds1 ++ ds2 ++ dse))) := fun H1 e1 hp hS Q q =>
  ht H1 e1 hp hS _ fun vs H2 e2 hp2 hv => htk H2 (e1.trans e2) hp2 (hS.of_wx e2 hp2) _ fun zs H3 e3 hp3 hz => ⟨(areD_len hv).trans l1, (areD_len hz).trans l2, fun x dx hx0 hdx ne => by
    rw [hgV]
    exact fun_core (dqs_append (dqs_append (areD_w _ _ _ e3.1 hv) hz) (hex _)) hl (hS.of_wx (e2.trans e3) hp3) (e2.trans e3) hp3 hx0 hdx q⟩
/-- Function(..) -/
theorem eq_fun {t : TA} {ex : List V} {ds1 dse : List PyData} (hex : ∀ G, Dqs K G ex dse) (ht : AQ S p c ns t σ H n n (AreD K S ds1)) (hl : (ds1 ++ dse).length = 6) : EQ S p c ns (tMake (cF K) (spFun K (cF K)) ex E0 t) σ H n n (IsFn K S (gF (ds1 ++ dse))) := fun H1 e1 hp hS Q q =>
  ht H1 e1 hp hS _ fun vs H2 e2 hp2 hv => fun x dx hx0 hdx ne => fun_core (dqs_append hv (hex _)) hl (hS.of_wx e2 hp2) e2 hp2 hx0 hdx q
/-- a field of a function, by its property -/
theorem ev_ffld {ds : List PyData} {u : V} {k j : Nat} {f : Str} {d : PyData} (T : FnC K mg) (h : IsFn K S ds u H) (hs : σ[k]? = some (some u)) (hj : ds[j]? = some d) (hf : (["own_name", "own_parameters", "own_things", "own_numbers", "own_functions", "own_body"] : List Str)[j]? = some f) :
    ∃ v, Dq K (hid S H) v d ∧ Ev (tProp (cF K) (spFd K f) [] E0 (tVar k)) σ H v := by
  obtain ⟨a, dx, t, y0, y1, y2, y3, y4, y5, rfl, ha, ht, hd⟩ := h
  obtain ⟨v, hv, q⟩ := dqs_get hd hj
  have hfn : f ∈ fns := by
    have := List.mem_of_getElem? hf
    simp only [fns]
    simp only [List.mem_cons, List.not_mem_nil, or_false] at this ⊢
    rcases this with z | z | z | z | z | z <;> simp [z]
  refine ⟨v, q, fun H1 e Q k => ⟨_, hs, a, dx, _, rfl, e _ _ (hid_ex _ _ ha), a, _, dx, _, v, rfl, e _ _ (hid_ex _ _ ha), T.ob.cls, T.no f hfn, ?_, k H1 (Ex.refl H1)⟩⟩
  match j, hf, hv with
  | 0, hf, hv => cases hf; cases hv; rfl
  | 1, hf, hv => cases hf; cases hv; rfl
  | 2, hf, hv => cases hf; cases hv; rfl
  | 3, hf, hv => cases hf; cases hv; rfl
  | 4, hf, hv => cases hf; cases hv; rfl
  | 5, hf, hv => cases hf; cases hv; rfl
  | n + 6, hf, hv => simp at hf
theorem eq_ffld {ds : List PyData} {u : V} {k j : Nat} {f : Str} {d : PyData} (T : FnC K mg) (h : IsFn K S ds u H) (hs : σ[k]? = some (some u)) (hj : ds[j]? = some d) (hf : (["own_name", "own_parameters", "own_things", "own_numbers", "own_functions", "own_body"] : List Str)[j]? = some f) :
    EQ S p c ns (tProp (cF K) (spFd K f) [] E0 (tVar k)) σ H n n (IsD K S d) := eq_er fun H' w' _ => by
  obtain ⟨v, q, ev⟩ := ev_ffld T (isFn_w _ _ _ w'.1 h) hs hj hf
  exact ER.evP ev q isD_mono
/-- f == g, two functions -/
theorem eq_ownF {g : Bool → Bool} {ta tb : TE} {ds es : List PyData} {u : V} (T : FnC K mg) (ha : EQ S p c ns ta σ H n n1 (IsFn K S ds)) (hb : EQ S p c ns tb σ H n1 n2 (IsFn K S es)) (o1 : okDs ds = true) (o2 : okDs es = true) (dd : PyData.depthAll ds ≤ 50) : EQ S p c ns (tOp (rOwn K g (fFE K) (spEqF K)) ta tb) σ H n n2 (fun v _ => v = .bl (g (eqDs ds es))) := fun H1 e hp hS Q q =>
  ha H1 e hp hS _ fun v H2 e2 hp2 z1 => hb H2 (e.trans e2) hp2 (hS.of_wx e2 hp2) _ fun v' H3 e3 hp3 z2 => by
    have z1' := isFn_w _ _ _ e3.1 z1
    obtain ⟨a, dx, t, y0, y1, y2, y3, y4, y5, rfl, h1, h2, h3⟩ := id z1'
    obtain ⟨b, dy, t', w0, w1, w2, w3, w4, w5, rfl, k1, k2, k3⟩ := id z2
    exact ⟨a, _, dx, _, _, rfl, hid_ex _ _ h1, T.own, .ins (hid_ex _ _ k1), T.nf, a, _, S, ds, rfl, z1', o1, dd, .inr ⟨es, z2, o2, _, rfl, q _ H3 (e2.trans e3) hp3 rfl⟩⟩
theorem eq_ownS {g : Bool → Bool} {ta : TE} {ds : List PyData} {x : Str} (T : FnC K mg) (ha : EQ S p c ns ta σ H n n1 (IsFn K S ds)) (o1 : okDs ds = true) (dd : PyData.depthAll ds ≤ 50) : EQ S p c ns (tOp (rOwn K g (fFE K) (spEqF K)) ta (tC (.str x))) σ H n n1 (fun v _ => v = .bl (g false)) := fun H1 e hp hS Q q =>
  ha H1 e hp hS _ fun v H2 e2 hp2 z1 => by
    obtain ⟨a, dx, t, y0, y1, y2, y3, y4, y5, rfl, h1, h2, h3⟩ := id z1
    exact ⟨a, _, dx, _, _, rfl, hid_ex _ _ h1, T.own, .str x, nf_str, a, _, S, ds, rfl, z1, o1, dd, .inl ⟨_, .base (.str x), T.kst, _, rfl, q _ H2 e2 hp2 rfl⟩⟩
end
end HB
namespace HB
open PySem PySem.Spec PyProof.Rows L2 Evl
/-! ### data without lists, when a list is left aside too -/
mutual
def noL : PyData → Bool
  | .list _ => false
  | .dict _ => false
  | .tuple xs => noLs xs
  | _ => true
def noLs : List PyData → Bool
  | [] => true
  | x :: xs => noL x && noLs xs
end
section
variable {K : PySem.W.Frag} {S : Addr → Bool} {H : Hp} {ag : Addr} {gs : List V}
theorem hid_keep {a : Addr} {o : HO} (ha : H ag = some (.lst gs)) (h : hid S H a = some o) (n : ∀ l, o ≠ .lst l) : hid (more S ag) H a = some o := by
  have ne : a ≠ ag := fun z => by
    have q := hid_ex _ _ h
    rw [z, ha] at q
    exact n gs (Option.some.inj q).symm
  unfold hid at h ⊢
  rw [more_ne ne]
  exact h
theorem sqT_more {a : Addr} {xs : List V} (ha : H ag = some (.lst gs)) (h : SqT K (hid S H) a xs) : SqT K (hid (more S ag) H) a xs := by
  rcases h with (h | ⟨o, h⟩) | h
  · exact .inl (.inl (hid_keep ha h (fun _ z => nomatch z)))
  · exact .inl (.inr ⟨o, hid_keep ha h (fun _ z => nomatch z)⟩)
  · exact .inr h
mutual
theorem dq_more (ha : H ag = some (.lst gs)) : ∀ {v : V} {d : PyData}, Dq K (hid S H) v d → noL d = true → Dq K (hid (more S ag) H) v d
  | _, _, .non, _ => .non
  | _, _, .bl b, _ => .bl b
  | _, _, .int i, _ => .int i
  | _, _, .str x, _ => .str x
  | _, _, .tup h hs, z => .tup (sqT_more ha h) (dqs_more ha hs (by rw [noL] at z; exact z))
  | _, _, .lst h hs, z => by rw [noL] at z; cases z
  | _, _, .dic h hs, z => by rw [noL] at z; cases z
theorem dqs_more (ha : H ag = some (.lst gs)) : ∀ {vs : List V} {ds : List PyData}, Dqs K (hid S H) vs ds → noLs ds = true → Dqs K (hid (more S ag) H) vs ds
  | _, _, .nil, _ => .nil
  | _, _, .cons h hs, z => by
    rw [noLs, Bool.and_eq_true] at z
    exact .cons (dq_more ha h z.1) (dqs_more ha hs z.2)
end
theorem isFn_more {ds : List PyData} {u : V} {o : HO} (ha : H ag = some (.lst gs)) (h : IsFn K S ds u H) (z : noLs ds = true) : IsFn K (more S ag) ds u (upd H ag o) := by
  obtain ⟨a, dx, t, y0, y1, y2, y3, y4, y5, rfl, h1, h2, h3⟩ := h
  have e : hid (more S ag) (upd H ag o) = hid (more S ag) H := hid_upd more_self
  refine ⟨a, dx, t, y0, y1, y2, y3, y4, y5, rfl, ?_, ?_, ?_⟩
  · rw [e]
    exact hid_keep ha h1 (fun _ z => nomatch z)
  · rw [e]
    exact hid_keep ha h2 (fun _ z => nomatch z)
  · rw [e]
    exact dqs_more ha h3 z
end
end HB
namespace HB
open PySem PySem.Spec PyProof.Rows L2 Evl
section
variable {P : Program} {w : World} {K : PySem.W.Frag} {mg : Str → Option Value} {base : Heap}
structure PrpF (P : Program) (w : World) (K : PySem.W.Frag) (mg : Str → Option Value) (base : Heap) : Prop where
  name : Prp P w K mg base (cF K) "name" (spFd K "own_name")
  parameters : Prp P w K mg base (cF K) "parameters" (spFd K "own_parameters")
  things : Prp P w K mg base (cF K) "things" (spFd K "own_things")
  numbers : Prp P w K mg base (cF K) "numbers" (spFd K "own_numbers")
  functions : Prp P w K mg base (cF K) "functions" (spFd K "own_functions")
  body : Prp P w K mg base (cF K) "body" (spFd K "own_body")
abbrev Nf : List Str := ["_law_dice", "_law_row", "_law_made", "_law_told", "_law_again", "_law_bare", "_law_given", "_law_filled", "_law_k", "_law_part_here"]
theorem sc_fr : FnScope Nf ["_law_dice"] (defScope (top 19)) := ⟨rfl, rfl, rfl, by decide +kernel, rfl, by decide +kernel, by decide +kernel⟩
theorem len5 {α : Type} {xs : List α} (h : xs.length = 5) : ∃ a b c d e, xs = [a, b, c, d, e] := match xs, h with | [a, b, c, d, e], _ => ⟨a, b, c, d, e, rfl⟩
theorem ok_fr {f : Addr} {fd : FuncData} (F : FnP K "_law_function_right" (top 19) f fd) (Sy : Sys K) (T : FnC K mg) (R : PrpF P w K mg base) (m2 : mg "repr" = none) (m3 : mg "range" = none)
    (Pt : ∃ f fd, FnOk P w K mg base CX0 4 f fd ["_law_dice"] (spW (InR K partD) 2 (2 ^ 38)) ∧ mg "_law_part" = some (.ref f) ∧ PySem.W.keepIn K (.ref f) = true ∧ Binds K fd ["_law_dice"] []) (Ls : ∃ f fd, FnOk P w K mg base CX0 1 f fd ["_law_value"] (spTup K) ∧ mg "_law_listed" = some (.ref f) ∧ PySem.W.keepIn K (.ref f) = true ∧ Binds K fd ["_law_value"] [])
    {e0 t1 t2 t3 t4 : V} {fi : FuncData} (FI : FunD K "__init__" "Function.__init__" (defArgs sFun) (defBody sFun) (defScope sFun) [e0] (kwF t1 t2 t3 t4) (He.ma K (cF K) "__init__") fi) (FF : FnOk P w K mg base CX0 2 (He.ma K (cF K) "__init__") fi psF (spFun K (cF K))) (hex : ∀ G, Dqs K G [e0, t1, t2, t3, t4] [.tuple [], .tuple [], .tuple [], .tuple [], .tuple []])
    {ef : FuncData} (FE : FnOk P w K mg base CX0 1 (fFE K) ef ["self", "other"] (spEqF K)) (bE : Binds K ef ["self", "other"] []) : FnG P w K mg base CX0 6 f fd ["_law_dice"] (spW (fun _ v _ => v = .bl true) 10 (2 ^ 37)) := by
  obtain ⟨ft, td, Gt, mt, kt, bt⟩ := Pt
  obtain ⟨fl, ld, Gl', ml, kl, bl'⟩ := Ls
  obtain ⟨_, _, kA⟩ := bindA FI
  obtain ⟨_, _, kB⟩ := bindB FI
  obtain ⟨dC, vC, bC⟩ := bindC FI
  obtain ⟨dD, vD, bD⟩ := bindD FI
  obtain ⟨pa0, g0, d0, po0, F0, b0⟩ := R.name
  obtain ⟨pa1, g1, d1, po1, F1, b1⟩ := R.parameters
  obtain ⟨pa2, g2, d2, po2, F2, b2⟩ := R.things
  obtain ⟨pa3, g3, d3, po3, F3, b3⟩ := R.numbers
  obtain ⟨pa4, g4, d4, po4, F4, b4⟩ := R.functions
  obtain ⟨pa5, g5, d5, po5, F5, b5⟩ := R.body
  refine fun_okG F sc_fr (fun vs H Q E h => ?_) (fun cdv A outer s H vs Q E hg hr h => ?_)
  · obtain ⟨p, c, ns, n, S, rfl, _⟩ := h
    rfl
  · obtain ⟨p, c, ns, n, S, rfl, hSp, hS, hp, hn, k⟩ := h
    have hg0 : (A.deeper (envOfC "_law_function_right" (defScope (top 19)) s.heap.objs.size f cdv)).guards = some [] := hg
    have hu0 := hr.units
    refine ⟨_, PSs.nox (pss_cons (ps_setLc (i := 1) (own := [("_law_k", 8)]) (g := gName 8) (tt := tYes) (te := tCall (spW (InR K partD) 2 (2 ^ 38)) [] E0 (tCons (tVar 0) tNil)) (by rfl) sc_fr.nd rfl rfl (sw_true rfl rfl rfl (by decide +kernel)) (pi_range1 (by rfl) m3 (pa_cons pe_int pa_nil)) (blkOk_by (own := [("_law_k", 8)]) (N := Nf) (sc := defScope (top 19)) (by decide +kernel)) (fun _ _ _ _ _ => pg_name (i := 8) sc_fr.nd rfl (Or.inl rfl)) (fun _ _ _ _ _ => pts_nil) (fun _ _ _ _ _ => pe_call Gt (hr.mono (by decide)) rfl mt kt bt .nil pass0 (pa_cons (pv 0) pa_nil)))
      (pss_cons (ps_set (i := 2) sc_fr.nd rfl (Or.inl rfl) (pe_makeK (n := 2) T.mkr FF (hr.mono (by decide)) rfl T.mgC kA pass0 (pa_cons pe_str (pa_cons (pe_ix ix_list (pv 1) pe_int (fun _ _ => rfl)) pa_nil)) (pk_cons (pe_ix ix_list (pv 1) pe_int (fun _ _ => rfl)) (pk_cons (pe_ix ix_list (pv 1) pe_int (fun _ _ => rfl)) (pk_cons (pe_ix ix_list (pv 1) pe_int (fun _ _ => rfl)) (pk_cons (pe_ix ix_list (pv 1) pe_int (fun _ _ => rfl)) pk_nil))))))
      (pss_cons (ps_set (i := 3) sc_fr.nd rfl (Or.inl rfl) (pe_lst (pa_cons (pe_prop (pv 2) T.ob.cls po1 F1 (hr.mono (by decide)) b1 .nil pass0 rfl) (pa_cons (pe_prop (pv 2) T.ob.cls po2 F2 (hr.mono (by decide)) b2 .nil pass0 rfl) (pa_cons (pe_prop (pv 2) T.ob.cls po3 F3 (hr.mono (by decide)) b3 .nil pass0 rfl) (pa_cons (pe_prop (pv 2) T.ob.cls po4 F4 (hr.mono (by decide)) b4 .nil pass0 rfl) (pa_cons (pe_prop (pv 2) T.ob.cls po5 F5 (hr.mono (by decide)) b5 .nil pass0 rfl) pa_nil)))))))
      (pss_cons (ps_if (PW.pt (pw_or (pt_cmpR op_ne (pe_prop (pv 2) T.ob.cls po0 F0 (hr.mono (by decide)) b0 .nil pass0 rfl) pe_str (nomark _)) (pw_or1 (pt_cmpR op_ne (pe_callB (call_repr Sy hg0 hu0) (by rfl) m2 (by decide +kernel) (pa_cons (pv 3) pa_nil)) (pe_callB (call_repr Sy hg0 hu0) (by rfl) m2 (by decide +kernel) (pa_cons (pe_lc (own := [("_law_part_here", 9)]) (g := gName 9) (tt := tYes) (te := tCall (spTup K) [] E0 (tCons (tVar 9) tNil)) (by rfl) sc_fr.nd (pi_list (pv 1)) (blkOk_by (own := [("_law_part_here", 9)]) (N := Nf) (sc := defScope (top 19)) (by decide +kernel)) (fun _ _ _ _ _ => pg_name (i := 9) sc_fr.nd rfl (Or.inl rfl)) (fun _ _ _ _ _ => pts_nil) (fun _ _ _ _ _ => pe_call Gl' (hr.mono (by decide)) rfl ml kl bl' .nil pass0 (pa_cons (pv 9) pa_nil))) pa_nil)) (nomark _))))) (pss_one (ps_ret pe_bl)) pss_nil)
      (pss_cons (ps_set (i := 4) sc_fr.nd rfl (Or.inl rfl) (pe_makeK (n := 2) T.mkr FF (hr.mono (by decide)) rfl T.mgC kA pass0 (pa_cons pe_str (pa_cons (pe_ix ix_list (pv 1) pe_int (fun _ _ => rfl)) pa_nil)) (pk_cons (pe_ix ix_list (pv 1) pe_int (fun _ _ => rfl)) (pk_cons (pe_ix ix_list (pv 1) pe_int (fun _ _ => rfl)) (pk_cons (pe_ix ix_list (pv 1) pe_int (fun _ _ => rfl)) (pk_cons (pe_ix ix_list (pv 1) pe_int (fun _ _ => rfl)) pk_nil))))))
      (pss_cons (ps_if (PW.pt (pw_or (pt_cmpR (op_ownNe FE bE (hr.mono (by decide))) (pv 2) (pv 4) (nomark _)) (pw_or (pt_cmpR (op_ownEq FE bE (hr.mono (by decide))) (pv 2) (pe_makeK (n := 2) T.mkr FF (hr.mono (by decide)) rfl T.mgC kB pass0 (pa_cons pe_str (pa_cons (pe_ix ix_list (pv 1) pe_int (fun _ _ => rfl)) pa_nil)) (pk_cons (pe_ix ix_list (pv 1) pe_int (fun _ _ => rfl)) (pk_cons (pe_ix ix_list (pv 1) pe_int (fun _ _ => rfl)) pk_nil))) (nomark _)) (pw_or1 (pt_cmpR (op_ownEq FE bE (hr.mono (by decide))) (pv 2) pe_str (nomark _)))))) (pss_one (ps_ret pe_bl)) pss_nil)
      (pss_cons (ps_par (i := 5) (j := 6) (by rfl) sc_fr.nd rfl rfl (by decide) rfl rfl (pa_cons (pe_make T.mkr FF (hr.mono (by decide)) rfl T.mgC bC vC pass0 (pa_cons pe_str pa_nil)) (pa_cons (pe_lst (pa_cons pe_str pa_nil)) pa_nil)) (by rfl))
      (pss_cons (ps_set (i := 7) sc_fr.nd rfl (Or.inl rfl) (pe_make T.mkr FF (hr.mono (by decide)) rfl T.mgC bD vD pass0 (pa_cons pe_str (pa_cons (pv 6) pa_nil))))
      (pss_cons (ps_expr (pe_bm PySem.F.plainAttrs_list PySem.F.slot_list_append PySem.F.type_list_append mt_append (pv 6) (pa_cons pe_str pa_nil)))
      (pss_cons (ps_set (i := 3) sc_fr.nd rfl (Or.inl rfl) (pe_lst (pa_cons (pe_prop (pv 5) T.ob.cls po1 F1 (hr.mono (by decide)) b1 .nil pass0 rfl) (pa_cons (pe_prop (pv 5) T.ob.cls po2 F2 (hr.mono (by decide)) b2 .nil pass0 rfl) (pa_cons (pe_prop (pv 5) T.ob.cls po3 F3 (hr.mono (by decide)) b3 .nil pass0 rfl) (pa_cons (pe_prop (pv 5) T.ob.cls po4 F4 (hr.mono (by decide)) b4 .nil pass0 rfl) (pa_cons (pe_prop (pv 5) T.ob.cls po5 F5 (hr.mono (by decide)) b5 .nil pass0 rfl) (pa_cons (pe_prop (pv 7) T.ob.cls po1 F1 (hr.mono (by decide)) b1 .nil pass0 rfl) pa_nil))))))))
      (pss_one (ps_ret (pe_cmpR (op_eqQ hu0) (pv 3) (pe_lst (pa_cons (pe_tup pa_nil) (pa_cons (pe_tup pa_nil) (pa_cons (pe_tup pa_nil) (pa_cons (pe_tup pa_nil) (pa_cons (pe_tup pa_nil) (pa_cons (pe_tup (pa_cons pe_str pa_nil)) pa_nil))))))) (nomark _)))))))))))))), ?_⟩
    refine q_asgQ (S := S) (c := c) (ns := ns) (n := n) (n1 := n + 5 * 2) (P := NewW S (AllP (InR K partD S) 5)) (eq_lcQ (m := 5) (k := 2) (P := InR K partD) hSp (by decide) (by omega) (fun _ => rfl) inR_ww (fun S' i n' H' hs' hn' => eq_w rfl hs' (by omega))) hp hS fun u1 H1 e1 hp1 hS1 z1 => ?_
    obtain ⟨a1, ys, rfl, ha1, l5, hy⟩ := z1
    obtain ⟨v0, v1, v2, v3, v4, rfl⟩ := len5 l5
    obtain ⟨d0, m0, q0⟩ := hy v0 (by simp)
    obtain ⟨d1, m1, q1⟩ := hy v1 (by simp)
    obtain ⟨d2, m2', q2⟩ := hy v2 (by simp)
    obtain ⟨d3, m3', q3⟩ := hy v3 (by simp)
    obtain ⟨d4, m4, q4⟩ := hy v4 (by simp)
    have rx : ∀ {σ : L2.St} {j : Nat} {v : V} {d : PyData}, σ[1]? = some (some (.ref a1)) → [v0, v1, v2, v3, v4][j]? = some v → IsD K S d v H1 → EQ S p c ns (tOp (rIxL K) (tVar 1) (tC (.int (j : Int)))) σ H1 (n + 5 * 2) (n + 5 * 2) (IsD K S d) := fun {σ j v d} hs hj hd =>
      eq_er fun H' w' _ => ER.evP (ev_op (ev_var hs) ev_c (rv_ixL (sq_of (hid_ex _ _ (w'.1 _ _ ha1))) (atI_nat hj))) (Dq.mono w'.1 hd) isD_mono
    refine q_asgQ (S := S) (c := c) (ns := ns) (n1 := n + 5 * 2) (P := IsFn K S [.str "f", listed d0, listed d1, listed d2, listed d3, listed d4]) (eq_funK (ds1 := [.str "f", d0]) (ds2 := [d1, d2, d3, d4]) (dse := []) (ex := []) (fun x vs zs => by simp) (fun _ => .nil)
      (aq_dcons d_str (aq_dcons (rx (j := 0) rfl rfl q0) aq_dnil)) (aq_dcons (rx (j := 1) rfl rfl q1) (aq_dcons (rx (j := 2) rfl rfl q2) (aq_dcons (rx (j := 3) rfl rfl q3) (aq_dcons (rx (j := 4) rfl rfl q4) aq_dnil)))) rfl rfl rfl) hp1 hS1 fun u2 H2 e2 hp2 hS2 z2 => ?_
    have u0 := u_part m0
    have u1' := u_part m1
    have u2' := u_part m2'
    have u3' := u_part m3'
    have u4' := u_part m4
    have dsl : ∀ d ∈ [listed d0, listed d1, listed d2, listed d3, listed d4], d ∈ univD := fun d hd => by
      simp only [List.mem_cons, List.not_mem_nil, or_false] at hd
      rcases hd with rfl | rfl | rfl | rfl | rfl <;> assumption
    obtain ⟨ok1, ok2, ok3, ok4⟩ := list_ok dsl (by show 5 ≤ 10; decide)
    have dep : (PyData.list [listed d0, listed d1, listed d2, listed d3, listed d4]).depth < 60 := by
      show PyData.depthAll _ + 1 < 60
      omega
    have okf : okDs [.str "f", listed d0, listed d1, listed d2, listed d3, listed d4] = true := by
      rw [okDs, ok1]
      rfl
    have depf : PyData.depthAll [.str "f", listed d0, listed d1, listed d2, listed d3, listed d4] ≤ 50 := by
      show max 0 (PyData.depthAll _) ≤ 50
      omega
    refine q_asgQ (S := S) (c := c) (ns := ns) (n1 := n + 5 * 2) (P := IsD K S (.list [listed d0, listed d1, listed d2, listed d3, listed d4])) (eq_dlst (aq_dcons (eq_ffld (j := 1) T z2 rfl rfl rfl) (aq_dcons (eq_ffld (j := 2) T z2 rfl rfl rfl) (aq_dcons (eq_ffld (j := 3) T z2 rfl rfl rfl) (aq_dcons (eq_ffld (j := 4) T z2 rfl rfl rfl) (aq_dcons (eq_ffld (j := 5) T z2 rfl rfl rfl) aq_dnil))))) (by show 5 ≤ 1000; decide)) hp2 hS2 fun u3 H3 e3 hp3 hS3 z3 => ?_
    have z2a := isFn_w _ _ _ e3.1 z2
    have e13 := e2.trans e3
    have ha13 : ∀ H', Wx S p H3 H' → hid S H' a1 = some (.lst [v0, v1, v2, v3, v4]) := fun H' w' => w'.1 _ _ (e13.1 _ _ ha1)
    refine q_whenQ (S := S) (c := c) (ns := ns) (n1 := n + 5 * 2) (tq_or (tq_test (eq_opV (x := .str "f") (y := .str "f") (z := .bl false) (eq_imp (eq_ffld (j := 0) T z2a rfl rfl rfl) (fun v _ _ z => by cases z; rfl)) (eq_c fun _ _ => rfl) (fun _ => rv_ne rfl)))
      (tq_test (eq_opV (z := .bl false) (eq_repr (eq_var rfl (fun H' w' => Dq.mono w'.1 z3)) ok3 dep (by omega)) (eq_repr (d := .list [listed d0, listed d1, listed d2, listed d3, listed d4]) (eq_imp (eq_lcL (k := 0) (P := fun S i v H => ∃ d, [listed d0, listed d1, listed d2, listed d3, listed d4][i]? = some d ∧ IsD K S d v H) hSp (by show 5 ≤ 1000; decide) (by show n + 5 * 2 + 5 * 0 < 2 ^ 39; omega) rfl (fun _ => rfl) ha13
        (fun S1 S2 i v H H' e ⟨d, h1, h2⟩ => ⟨d, h1, Dq.mono e h2⟩) (fun D i n' x H5 H' w5 hD5 ex5 hx hn' => ?_)) (fun v H' _ z => ?_)) ok3 dep (by omega)) (fun _ => ?_)))) hp3 hS3 fun H4 e4 hp4 hS4 => ?_
    · obtain ⟨d, hd1, hd2⟩ : ∃ d, [d0, d1, d2, d3, d4][i]? = some d ∧ Dq K (hid S H1) x d := by
        match i, hx with
        | 0, hx => cases hx; exact ⟨_, rfl, q0⟩
        | 1, hx => cases hx; exact ⟨_, rfl, q1⟩
        | 2, hx => cases hx; exact ⟨_, rfl, q2⟩
        | 3, hx => cases hx; exact ⟨_, rfl, q3⟩
        | 4, hx => cases hx; exact ⟨_, rfl, q4⟩
        | j + 5, hx => simp at hx
      have hk : [listed d0, listed d1, listed d2, listed d3, listed d4][i]? = some (listed d) := by
        show ([d0, d1, d2, d3, d4].map listed)[i]? = _
        rw [List.getElem?_map, hd1]
        rfl
      exact eq_imp (eq_listed (eq_var rfl (fun H'' w'' => Dq.mono (((e13.1.trans w5.1).trans ex5).trans w''.1) hd2))) (fun v _ _ z => ⟨listed d, hk, z⟩)
    · obtain ⟨D, acc, rfl, h1, h2, h3⟩ := z
      exact .lst (sq_of h1) (each_dqs h2 h3)
    · rw [show (V.bl false) = V.bl (!decide (V.str (PyData.list [listed d0, listed d1, listed d2, listed d3, listed d4]).shown = V.str (PyData.list [listed d0, listed d1, listed d2, listed d3, listed d4]).shown)) from by simp]
      exact rv_ne rfl
    have e14 := e13.trans e4
    have rx4 : ∀ {σ : L2.St} {j : Nat} {v : V} {d : PyData}, σ[1]? = some (some (.ref a1)) → [v0, v1, v2, v3, v4][j]? = some v → IsD K S d v H1 → EQ S p c ns (tOp (rIxL K) (tVar 1) (tC (.int (j : Int)))) σ H4 (n + 5 * 2) (n + 5 * 2) (IsD K S d) := fun hs hj hd => eq_at (rx hs hj hd) e14
    refine q_asgQ (S := S) (c := c) (ns := ns) (n1 := n + 5 * 2) (P := IsFn K S [.str "f", listed d0, listed d1, listed d2, listed d3, listed d4]) (eq_funK (ds1 := [.str "f", d0]) (ds2 := [d1, d2, d3, d4]) (dse := []) (ex := []) (fun x vs zs => by simp) (fun _ => .nil)
      (aq_dcons d_str (aq_dcons (rx4 (j := 0) rfl rfl q0) aq_dnil)) (aq_dcons (rx4 (j := 1) rfl rfl q1) (aq_dcons (rx4 (j := 2) rfl rfl q2) (aq_dcons (rx4 (j := 3) rfl rfl q3) (aq_dcons (rx4 (j := 4) rfl rfl q4) aq_dnil)))) rfl rfl rfl) hp4 hS4 fun u5 H5 e5 hp5 hS5 z5 => ?_
    have z2b := isFn_w _ _ _ (e4.trans e5).1 z2a
    have o0 := (univ_ok _ u0).1
    have o1 := (univ_ok _ u1').1
    have o2 := (univ_ok _ u2').1
    have hex2 : ∀ G, Dqs K G [t3, t4] [.tuple [], .tuple []] := fun G => by
      cases hex G with
      | cons _ r =>
      cases r with
      | cons _ r =>
      cases r with
      | cons _ r => exact r
    have rx5 : ∀ {σ : L2.St} {j : Nat} {v : V} {d : PyData}, σ[1]? = some (some (.ref a1)) → [v0, v1, v2, v3, v4][j]? = some v → IsD K S d v H1 → EQ S p c ns (tOp (rIxL K) (tVar 1) (tC (.int (j : Int)))) σ H5 (n + 5 * 2) (n + 5 * 2) (IsD K S d) := fun hs hj hd => eq_at (rx hs hj hd) (e14.trans e5)
    have okg : okDs [.str "g", listed d0, listed d1, listed d2, .tuple [], .tuple []] = true := by simp [okDs, okD, o0, o1, o2]
    refine q_whenQ (S := S) (c := c) (ns := ns) (n1 := n + 5 * 2) (tq_or (tq_test (eq_imp (eq_ownF (u := u2) T (eq_var rfl (fun H' w' => isFn_w _ _ _ w'.1 z2b)) (eq_var rfl (fun H' w' => isFn_w _ _ _ w'.1 z5)) okf okf depf) (fun v _ _ z => by rw [z, eqDs_refl _ okf]; rfl)))
      (tq_or (tq_test (eq_imp (eq_ownF (u := u2) (es := [.str "g", listed d0, listed d1, listed d2, .tuple [], .tuple []]) T (eq_var rfl (fun H' w' => isFn_w _ _ _ w'.1 z2b)) (eq_funK (ds1 := [.str "g", d0]) (ds2 := [d1, d2]) (dse := [.tuple [], .tuple []]) (ex := [t3, t4]) (fun x vs zs => by simp) hex2
          (aq_dcons d_str (aq_dcons (rx5 (j := 0) rfl rfl q0) aq_dnil)) (aq_dcons (rx5 (j := 1) rfl rfl q1) (aq_dcons (rx5 (j := 2) rfl rfl q2) aq_dnil)) rfl rfl rfl) okf okg depf) (fun v _ _ z => by rw [z, eqDs]; rfl)))
        (tq_test (eq_ownS T (eq_var rfl (fun H' w' => isFn_w _ _ _ w'.1 z2b)) okf depf)))) hp5 hS5 fun H6 e6 hp6 hS6 => ?_
    have hex4 : ∀ G, Dqs K G [t1, t2, t3, t4] [.tuple [], .tuple [], .tuple [], .tuple []] := fun G => by
      cases hex G with
      | cons _ r => exact r
    refine q_parQ (S := S) (c := c) (ns := ns) (n1 := n + 5 * 2) (n2 := n + 5 * 2) (P := IsFn K S [.str "f", .tuple [], .tuple [], .tuple [], .tuple [], .tuple []]) (P2 := fun v H2 => NewW S (AreD K S [.str "a"]) v H2 ∧ ∃ a, v = .ref a ∧ hid S H6 a = none) (eq_fun (ds1 := [.str "f"]) (dse := [.tuple [], .tuple [], .tuple [], .tuple [], .tuple []]) hex (aq_dcons d_str aq_dnil) rfl) isFn_w
      (eq_lstF (aq_dcons d_str aq_dnil) areD_w fun xs H2 z => by rw [areD_len z]; show 1 ≤ 100000; decide) hp6 hS6 fun u7 u8 H7 e7 hp7 hS7 z7 z8 => ?_
    obtain ⟨⟨ag, gs, rfl, hag, hgs⟩, ag', zz, hfr⟩ := z8
    cases zz
    refine q_asgQ (S := S) (c := c) (ns := ns) (n1 := n + 5 * 2) (P := IsFn K S [.str "f", .tuple [.str "a"], .tuple [], .tuple [], .tuple [], .tuple []]) (eq_fun (ds1 := [.str "f", .list [.str "a"]]) (dse := [.tuple [], .tuple [], .tuple [], .tuple []]) hex4 (aq_dcons d_str (aq_dcons (eq_var rfl (fun H' w' => .lst (sq_of (w'.1 _ _ hag)) (Dqs.mono w'.1 hgs))) aq_dnil)) rfl) hp7 hS7 fun u9 H8 e8 hp8 hS8 z9 => ?_
    have hag8 : H8 ag = some (.lst gs) := hid_ex _ _ (e8.1 _ _ hag)
    have hgl : gs.length = 1 := Dqs.length hgs
    refine q_app hag8 (ev_var rfl) ev_c (by omega) fun H9 e9 => ?_
    have hag9 := e9 _ _ hag8
    have hp9 := hp8.mono e9 (Nat.le_refl _)
    have np : ag ≠ p := fun z => by
      obtain ⟨b, r, q, _⟩ := hp9.at_
      rw [z, q] at hag9
      cases hag9
    have sag : S ag = false := by
      cases z : S ag with
      | false => rfl
      | true =>
        unfold hid at hag
        rw [if_pos z] at hag
        cases hag
    have nc : ag ≠ c := fun z => by
      have q := hp9.cells
      rw [← z, hag9] at q
      have q' : gs = ns.map V.int := by
        injection Option.some.inj q
      cases hgs with
      | cons h1 _ =>
        cases h1
        cases ns with
        | nil => cases q'
        | cons x xs => cases q'
    have hp10 : Pen (upd H9 ag (.lst (gs ++ [.str "b"]))) p c ns (n + 5 * 2) := penUpdD hp9 np nc
    have e08 := (((((e1.trans e14).trans e5).trans e6).trans e7).trans e8)
    have hS9 := hS8.mono e9
    have hS10 : SAll (more S ag) (upd H9 ag (.lst (gs ++ [.str "b"]))) := fun b z => by
      by_cases eb : b = ag
      · exact ⟨_, by rw [eb, upd_same]⟩
      · rw [more_ne eb] at z
        obtain ⟨o, q⟩ := hS9 b z
        exact ⟨o, by rw [upd_ne eb]; exact q⟩
    have x10 : Ex (hid S H) (hid (more S ag) (upd H9 ag (.lst (gs ++ [.str "b"])))) := fun b o hb => by
      have nb : b ≠ ag := fun z => by
        have q := (((e1.trans e14).trans e5).trans e6).1 _ _ hb
        rw [z, hfr] at q
        cases q
      have q := hid_mono e9 _ _ (e08.1 _ _ hb)
      rw [hid_upd more_self]
      unfold hid at q ⊢
      rw [more_ne nb]
      exact q
    have y10 : ∀ b, S b = true → b ≠ p → (upd H9 ag (.lst (gs ++ [.str "b"]))) b = H b := fun b sb nb => by
      have nag : b ≠ ag := fun z => by
        rw [z, sag] at sb
        cases sb
      rw [upd_ne nag]
      exact ((Wx.of e9 hS8 (p := p)).2 b sb nb).trans (e08.2 b sb nb)
    have z7b := isFn_more (o := .lst (gs ++ [.str "b"])) hag9 (isFn_w _ _ _ (e8.1.trans (hid_mono e9)) z7) rfl
    have z9b := isFn_more (o := .lst (gs ++ [.str "b"])) hag9 (isFn_w _ _ _ (hid_mono e9) z9) rfl
    refine q_asgQ (S := more S ag) (c := c) (ns := ns) (n1 := n + 5 * 2) (P := IsD K (more S ag) (.list [.tuple [], .tuple [], .tuple [], .tuple [], .tuple [], .tuple [.str "a"]])) (eq_dlst (aq_dcons (eq_ffld (j := 1) T z7b rfl rfl rfl) (aq_dcons (eq_ffld (j := 2) T z7b rfl rfl rfl) (aq_dcons (eq_ffld (j := 3) T z7b rfl rfl rfl) (aq_dcons (eq_ffld (j := 4) T z7b rfl rfl rfl) (aq_dcons (eq_ffld (j := 5) T z7b rfl rfl rfl) (aq_dcons (eq_ffld (j := 1) T z9b rfl rfl rfl) aq_dnil)))))) (by show 6 ≤ 1000; decide)) hp10 hS10 fun u11 H11 e11 hp11 hS11 z11 => ?_
    refine s_retQ (S := more S ag) (c := c) (ns := ns) (n1 := n + 5 * 2) (eq_eqQ (d := .list [.tuple [], .tuple [], .tuple [], .tuple [], .tuple [], .tuple [.str "a"]]) (e' := .list [.tuple [], .tuple [], .tuple [], .tuple [], .tuple [], .tuple [.str "a"]]) (eq_var rfl (fun H' w' => Dq.mono w'.1 z11))
      (eq_dlst (aq_dcons (eq_dtup aq_dnil (by decide)) (aq_dcons (eq_dtup aq_dnil (by decide)) (aq_dcons (eq_dtup aq_dnil (by decide)) (aq_dcons (eq_dtup aq_dnil (by decide)) (aq_dcons (eq_dtup aq_dnil (by decide)) (aq_dcons (eq_dtup (aq_dcons d_str aq_dnil) (by decide)) aq_dnil)))))) (by decide)) (by decide +kernel) (by decide +kernel) (by decide +kernel)) hp11 hS11 fun v H12 e12 hp12 z12 => ?_
    exact k v H12 ⟨(x10.trans (e11.trans e12).1).trans hid_more, fun b sb nb => ((e11.trans e12).2 b (more_of sb) nb).trans (y10 b sb nb)⟩ hp12 (z12.trans (by decide +kernel))

end
end HB
namespace HB
open PySem PySem.Spec PyProof.Rows L2 Evl
/-- the text of a datum and the comma behind it -/
def tx (d : PyData) : List Nat := (d.shown ++ ", ").cps.toList
theorem univ_pre : ∀ d ∈ univD, ∀ e ∈ univD, (tx d).isPrefixOf (tx e) = true → eqD d e = true ∧ tx d = tx e := by decide +kernel
theorem tx_eq {d e : PyData} (h1 : d ∈ univD) (h2 : e ∈ univD) (h : tx d = tx e) : eqD d e = true := (univ_pre d h1 e h2 (by rw [h]; exact List.isPrefixOf_iff_prefix.mpr (List.prefix_refl _))).1
theorem tx_cut {d e : PyData} {xs ys : List Nat} (h1 : d ∈ univD) (h2 : e ∈ univD) (h : tx d ++ xs = tx e ++ ys) : eqD d e = true ∧ xs = ys := by
  have q : tx d = tx e := by
    rcases List.prefix_or_prefix_of_prefix (List.prefix_append (tx d) xs) (by rw [h]; exact List.prefix_append (tx e) ys) with z | z
    · exact (univ_pre d h1 e h2 (List.isPrefixOf_iff_prefix.mpr z)).2
    · exact (univ_pre e h2 d h1 (List.isPrefixOf_iff_prefix.mpr z)).2.symm
  refine ⟨tx_eq h1 h2 q, ?_⟩
  rw [q] at h
  exact List.append_cancel_left h
theorem tx_of (d : PyData) : tx d = d.shown.cps.toList ++ [44, 32] := by
  unfold tx
  rw [Str.cps_append]
  simp
  rfl
theorem shown1 (a : PyData) : (PyData.list [a]).shown.cps.toList = 91 :: (a.shown.cps.toList ++ [93]) := by
  show (listText [a.shown]).cps.toList = _
  rw [listText_eq_join]
  simp [Str.cps_append, Str.join]
  rfl
theorem shown2 (a b : PyData) : (PyData.list [a, b]).shown.cps.toList = 91 :: (tx a ++ (b.shown.cps.toList ++ [93])) := by
  show (listText [a.shown, b.shown]).cps.toList = _
  rw [listText_eq_join, tx_of]
  simp [Str.cps_append, Str.join]
  rfl
theorem inj1 {a c : PyData} (h1 : a ∈ univD) (h2 : c ∈ univD) (h : (PyData.list [a]).shown = (PyData.list [c]).shown) : eqDs [a] [c] = true := by
  have q := congrArg (fun z : Str => z.cps.toList) h
  simp only [shown1] at q
  have q2 := List.append_cancel_right (List.cons.inj q).2
  have q3 : tx a = tx c := by rw [tx_of, tx_of, q2]
  rw [eqDs, tx_eq h1 h2 q3]
  rfl
theorem inj2 {a b c d : PyData} (h1 : a ∈ univD) (h2 : b ∈ univD) (h3 : c ∈ univD) (h4 : d ∈ univD) (h : (PyData.list [a, b]).shown = (PyData.list [c, d]).shown) : eqDs [a, b] [c, d] = true := by
  have q := congrArg (fun z : Str => z.cps.toList) h
  simp only [shown2] at q
  obtain ⟨e1, e2⟩ := tx_cut h1 h3 (List.cons.inj q).2
  have q2 := List.append_cancel_right e2
  have q3 : tx b = tx d := by rw [tx_of, tx_of, q2]
  rw [eqDs, e1, eqDs, tx_eq h2 h4 q3]
  rfl
end HB
namespace HB
open PySem PySem.Spec PyProof.Rows L2 Evl NdefX
/-! ### the same objects in two tuples -/
section
variable {X : Cx}
def DOne : Eqv := fun x y _ => ∃ a, x = .ref a ∧ y = .ref a
theorem eqG_one : EqG X 0 DOne := by
  intro A pins s σ H x y u v sb I rx ry d
  obtain ⟨a, rfl, rfl⟩ := d
  cases rx
  cases ry
  exact SeqAt.EqAt.same (A := A) (s := s) (.ref a) X.prog X.w X.xe _ ⟨rfl, H, I, Ext.rfl'⟩
def rTupId (K : PySem.W.Frag) : R2 := fun x y H Q => ∃ (a b c : Addr), x = .ref a ∧ y = .ref b ∧ SqT K H a [.ref c] ∧ SqT K H b [.ref c] ∧ ∀ H', Ex H H' → Q (.bl true) H'
theorem op_tupId (hr : Room 1 X.A) : OpR X (compareOp .Eq) (rTupId X.K) := by
  intro pins s σ H x y v u Q I rx ry h
  obtain ⟨a, b, c, rfl, rfl, ha, hb, q⟩ := h
  show wpAny (model X.prog X.w) X.A (richCompare .Eq v u) _ _ s
  refine wpAny_mono (rcG_tup (n := 0) (fun _ _ _ _ _ d => d) eqG_one X.A pins s σ H (.ref a) (.ref b) v u ⟨hr, rfl⟩ I rx ry ⟨a, b, _, _, rfl, rfl, ha, hb, Prs.cons ⟨c, rfl, rfl⟩ Prs.nil⟩) (fun r s' z => ?_) fun _ _ z => z
  obtain ⟨rfl, H', I', e⟩ := z
  exact ⟨.bl true, H', I', rfl, q H' e⟩
end
/-! ### tupled and Either with a list of any values -/
section
variable {P : Program} {w : World} {K : PySem.W.Frag} {mg : Str → Option Value} {base : Heap}
def spTupL (K : PySem.W.Frag) : Sp := fun vs H Q _ => ∃ (a : Addr) (xs : List V), vs = [.ref a] ∧ SqL K H a xs ∧ ∀ q, H q = none → Q (.ref q) (upd H q (.tup xs))
theorem ok_tupledL {f : Addr} {fd : FuncData} (F : FnP K "tupled" (top 1) f fd) (m1 : mg "isinstance" = none) (m2 : mg "tuple" = none) (m3 : mg "list" = none) : FnOk P w K mg base CX0 1 f fd ["value"] (spTupL K) := by
  refine F.ok sc_tupled (fun vs H Q E h => ?_) (fun cdv A outer s H vs Q E hr h => ?_)
  · obtain ⟨a, xs, rfl, _⟩ := h
    rfl
  · obtain ⟨a, xs, rfl, hs, k⟩ := h
    refine ⟨_, PSs.nox (pss_one (ps_ret (pe_ifExp (pt_val (pe_callB call_isi (by rfl) m1 (by decide +kernel) (pa_cons (pv 0) (pa_cons (pe_bltn (by rfl) m3 (by decide +kernel) (v := .ty "list") rfl) pa_nil)))) (pe_tupleOf (by rfl) m2 (pv 0)) (pv 0)))), ?_⟩
    refine ⟨_, rfl, .ref a, .ty "list", .type "list", .type "list", true, rfl, .ty "list", sqL_ty hs, kit_ty (a := "list") (r := true) (by decide +kernel), _, rfl, ?_⟩
    exact ⟨_, rfl, .inl ⟨a, xs, rfl, hs, fun q hq => k q hq⟩⟩
def spEi2 (K : PySem.W.Frag) (C : Addr) : Sp := fun vs H Q _ => ∃ (a dx l : Addr) (xs : List V) (y : V), vs = [.ref a, .ref l, y] ∧ H a = some (.ins C dx []) ∧ SqL K H l xs ∧ Dq K H y (.tuple []) ∧
  ∀ (H' : Hp) (t q : Addr) (z : V), Ex (wo a H) (wo a H') → H' a = some (.ins C dx [("own_kind", .str "either"), ("own_parts", .ref t)]) → H' t = some (.tup [.ref q, z]) → H' q = some (.tup xs) → Q .non H'
theorem okEither2 {f D g : Addr} {fd gd : FuncData} {cl : List (Str × Addr)} {c : Addr} {file : Str} {ft : Addr} {td : FuncData} (Y : SupF K f (nfEither cl c) file D g) (hfd : ∃ (oc : Value) (od : Option Addr) (sl : Array (Option Value)), K.lookup f = some ⟨oc, od, .func fd, sl⟩) (hfile : ((P.main.file : Str) == file) = true) (htop : (P.main.scope.names.lookup ("super" : Str)).isSome = false) (mgS : mg "super" = none)
    (G : FnOk P w K mg base CX0 2 g gd ["self", "kind", "parts"] (spStat K)) (gb : Binds K gd ["self", "kind", "parts"] []) (cD : Cls K D) (n1 : NoAttr K D "own_kind") (n2 : NoAttr K D "own_parts") (Gt : FnOk P w K mg base CX0 1 ft td ["value"] (spTup K)) (GL : FnOk P w K mg base CX0 1 ft td ["value"] (spTupL K)) (mt : mg "tupled" = some (.ref ft)) (kt : PySem.W.keepIn K (.ref ft) = true) (bt : Binds K td ["value"] []) : FnOk P w K mg base CX0 3 f fd ["self", "one", "other"] (spEi2 K D) := by
  refine sup_ok Y hfd scEither rfl rfl rfl rfl rfl hfile htop mgS G gb (fun _ => rfl) (fun _ => rfl) (fun _ => ⟨_, rfl⟩) (fun _ => rfl) (fun _ => rfl) (fun vs H Q E h => ?_) (fun B out s H vs Q E hr h => ?_)
  · obtain ⟨a, dx, l, xs, y, rfl, _⟩ := h
    rfl
  · obtain ⟨a, dx, l, xs, y, rfl, ha, hl, hy, k⟩ := h
    refine ⟨a, dx, [], [.ref l, y], _, rfl, ha, pa_cons pe_str (pa_cons (pe_tup (pa_cons (pe_call GL (hr.mono (by decide)) rfl mt kt bt .nil pass0 (pa_cons (pv 1) pa_nil)) (pa_cons (pe_call Gt (hr.mono (by decide)) rfl mt kt bt .nil pass0 (pa_cons (pv 2) pa_nil)) pa_nil))) pa_nil), ?_⟩
    refine ⟨_, rfl, l, xs, rfl, hl, fun q hq => ?_⟩
    have e1 : Ex H (upd H q (.tup xs)) := Ex.new hq
    refine rd_tup (G := upd H q (.tup xs)) rfl (Ex.refl _) (Dq.mono e1 hy) fun y1 H2 e2 _ => ⟨by show 2 ≤ _; decide, fun t ht => ⟨a, D, dx, _, _, rfl, ?_, cD, n1, n2, rfl, ?_⟩⟩
    · rw [upd_ne (ne_of_none (e2 _ _ (e1 _ _ ha)) ht)]
      exact e2 _ _ (e1 _ _ ha)
    · have ha2 := e2 _ _ (e1 _ _ ha)
      have hq2 : H2 q = some (.tup xs) := e2 _ _ upd_same
      have nt : t ≠ a := fun z => by rw [z, ha2] at ht; cases ht
      have nq : q ≠ a := fun z => by rw [z, ha] at hq; cases hq
      have nqt : q ≠ t := fun z => by rw [← z, hq2] at ht; cases ht
      refine k _ t q y1 ?_ upd_same (by rw [upd_ne nt, upd_same]) (by rw [upd_ne nq, upd_ne nqt]; exact hq2)
      rw [wo_upd]
      exact (wo_mono (e1.trans e2)).trans (wo_mono (Ex.new ht))
end
end HB
namespace HB
open PySem PySem.Spec PyProof.Rows L2 Evl
section
variable {P : Program} {w : World} {K : PySem.W.Frag} {mg : Str → Option Value} {base : Heap}
variable {S : Addr → Bool} {p c : Addr} {ns : List Int} {σ : L2.St} {H : Hp} {n n1 n2 : Nat}
theorem eq_right {i a b d : Nat} {ds : List PyData} {u l : V} (hi : i < 5) (hd : PcD i ds) (hu : IsPc K S i ds u H) (hl : IsD K S (.list ds) l H) (h1 : σ[a]? = some (some u)) (h2 : σ[b]? = some (some (.str (kw i)))) (h3 : σ[d]? = some (some l)) :
    EQ S p c ns (tCall (spRight K) [] E0 (tCons (tVar a) (tCons (tVar b) (tCons (tVar d) tNil)))) σ H n n (fun v _ => v = .bl true) := fun H1 e hp hS Q q =>
  ⟨_, h1, _, h2, _, h3, u, l, i, ds, S, rfl, hi, hd, isPc_w _ _ _ e.1 hu, isD_w _ _ _ e.1 hl, fun H' e' => q _ H' (.of e' hS) (hp.mono e' (Nat.le_refl _)) rfl⟩
/-- two statements compared -/
theorem eq_ownP {g : Bool → Bool} {ta tb : TE} {i j : Nat} {ds es : List PyData} (T : ∀ i, i < 5 → StC K mg i) (hi : i < 5) (hj : j < 5) (ha : EQ S p c ns ta σ H n n1 (IsPc K S i ds)) (hb : EQ S p c ns tb σ H n1 n2 (IsPc K S j es)) (o1 : okDs ds = true) (o2 : okDs es = true) (dd : PyData.depthAll ds ≤ 50) :
    EQ S p c ns (tOp (rOwn K g (fE K) (spEqS K)) ta tb) σ H n n2 (fun v _ => v = .bl (g (eqPc i j ds es))) := fun H1 e hp hS Q q =>
  ha H1 e hp hS _ fun v H2 e2 hp2 z1 => hb H2 (e.trans e2) hp2 (hS.of_wx e2 hp2) _ fun v' H3 e3 hp3 z2 => by
    have z1' := isPc_w _ _ _ e3.1 z1
    obtain ⟨a, dx, t, ys, rfl, h1, h2, h3⟩ := id z1'
    obtain ⟨b, dy, t', zs, rfl, k1, k2, k3⟩ := id z2
    exact ⟨a, _, dx, _, _, rfl, hid_ex _ _ h1, (T i hi).own, .ins (hid_ex _ _ k1), (T i hi).nf j hj, a, _, S, i, ds, rfl, hi, z1', o1, dd, .inr ⟨j, es, hj, z2, o2, fun H' e' => ⟨_, rfl, q _ H' ((e2.trans e3).trans (.of e' (hS.of_wx (e2.trans e3) hp3))) (hp3.mono e' (Nat.le_refl _)) rfl⟩⟩⟩
/-- a statement and a list -/
theorem eq_ownL {g : Bool → Bool} {ta tb : TE} {i : Nat} {ds es : List PyData} (T : ∀ i, i < 5 → StC K mg i) (hi : i < 5) (kl : PySem.W.kitOne K (.type "list") (.ref (cB K)) = some false) (ha : EQ S p c ns ta σ H n n1 (IsPc K S i ds)) (hb : EQ S p c ns tb σ H n1 n2 (IsD K S (.list es))) (o1 : okDs ds = true) (dd : PyData.depthAll ds ≤ 50) :
    EQ S p c ns (tOp (rOwn K g (fE K) (spEqS K)) ta tb) σ H n n2 (fun v _ => v = .bl (g false)) := fun H1 e hp hS Q q =>
  ha H1 e hp hS _ fun v H2 e2 hp2 z1 => hb H2 (e.trans e2) hp2 (hS.of_wx e2 hp2) _ fun v' H3 e3 hp3 z2 => by
    have z1' := isPc_w _ _ _ e3.1 z1
    obtain ⟨a, dx, t, ys, rfl, h1, h2, h3⟩ := id z1'
    cases z2 with
    | lst k1 k2 =>
      have k1' := ex_l hid_ex k1
      exact ⟨a, _, dx, _, _, rfl, hid_ex _ _ h1, (T i hi).own, .lst k1', nf_list, a, _, S, i, ds, rfl, hi, z1', o1, dd, .inl ⟨_, sqL_ty k1', kl, _, rfl, q _ H3 (e2.trans e3) hp3 rfl⟩⟩
theorem eq_neQ {ta tb : TE} {ds es : List PyData} (ha : EQ S p c ns ta σ H n n1 (IsD K S (.list ds))) (hb : EQ S p c ns tb σ H n1 n2 (IsD K S (.list es))) (h1 : okDs ds = true) (h2 : okDs es = true) (h3 : PyData.depthAll ds ≤ 60) : EQ S p c ns (tOp (rNeQ K) ta tb) σ H n n2 (fun v _ => v = .bl (!eqDs ds es)) := fun H1 e hp hS Q q =>
  ha H1 e hp hS _ fun v H2 e2 hp2 z1 => hb H2 (e.trans e2) hp2 (hS.of_wx e2 hp2) _ fun v' H3 e3 hp3 z2 =>
    ⟨ds, es, Dq.mono (e3.1.trans hid_ex) z1, Dq.mono hid_ex z2, h1, h2, h3, q _ H3 (e2.trans e3) hp3 rfl⟩
/-! ### the plain law -/
theorem kw_inj : ∀ i, i < 5 → ∀ j, j < 5 → i ≠ j → kw i ≠ kw j := by decide +kernel
theorem ar_cases : ∀ i, i < 5 → ar i = 1 ∨ ar i = 2 := by decide
theorem len1' {ds : List PyData} (h : ds.length = 1) : ∃ x, ds = [x] := match ds, h with | [x], _ => ⟨x, rfl⟩
theorem shown_inj {i : Nat} {ds es : List PyData} (hi : i < 5) (h1 : PcD i ds) (h2 : PcD i es) (h : (PyData.list ds).shown = (PyData.list es).shown) : eqDs ds es = true := by
  rcases ar_cases i hi with z | z
  · obtain ⟨x, rfl⟩ := len1' (h1.1.trans z)
    obtain ⟨y, rfl⟩ := len1' (h2.1.trans z)
    exact inj1 (h1.2 x (by simp)) (h2.2 y (by simp)) h
  · obtain ⟨x, x', rfl⟩ := len2 (h1.1.trans z)
    obtain ⟨y, y', rfl⟩ := len2 (h2.1.trans z)
    exact inj2 (h1.2 x (by simp)) (h1.2 x' (by simp)) (h2.2 y (by simp)) (h2.2 y' (by simp)) h
abbrev oEq (K : PySem.W.Frag) (g : Bool → Bool) (a b : Nat) : TT := tTest (tOp (rOwn K g (fE K) (spEqS K)) (tVar a) (tVar b))
abbrev oRp (K : PySem.W.Frag) (a : Nat) : TE := tCB (rRepr K) (tCons (tVar a) tNil)
/-- the two tests over what was seen -/
abbrev tSee1 (K : PySem.W.Frag) : TT := tOr (tAnd (tTest (tOp rNe (tVar 8) (tVar 5))) (oEq K id 4 7)) (tAnd (tTest (tOp rEq (tVar 8) (tVar 5))) (tAnd (tTest (tOp rEq (oRp K 6) (oRp K 9))) (oEq K not 4 7)))
abbrev tSee2 (K : PySem.W.Frag) : TT := tAnd (tTest (tOp rEq (tVar 8) (tVar 5))) (tAnd (tTest (tOp (rNeQ K) (tVar 6) (tVar 9))) (oEq K id 4 7))
variable {i j : Nat} {ds es : List PyData} {u l u' l' : V}
theorem self_eq {i : Nat} {ds es : List PyData} : eqPc i i ds es = eqDs ds es := by
  unfold eqPc
  rw [beq_self_eq_true, Bool.true_and]
theorem other_eq {i j : Nat} {ds es : List PyData} (h : kw i ≠ kw j) : eqPc i j ds es = false := by
  unfold eqPc
  rw [beq_eq_false_iff_ne.mpr h, Bool.false_and]
structure Two (K : PySem.W.Frag) (S : Addr → Bool) (i : Nat) (ds : List PyData) (u l : V) (H : Hp) : Prop where
  lt : i < 5
  pc : PcD i ds
  u : IsPc K S i ds u H
  l : IsD K S (.list ds) l H
  ok : okDs ds = true
  dd : PyData.depthAll ds ≤ 50
  sh : (PyData.list ds).showable = true
  dp : (PyData.list ds).depth < 60
  ln : (PyData.list ds).shown.length ≤ 100000
theorem two_of (lt : i < 5) (pc : PcD i ds) (hu : IsPc K S i ds u H) (hl : IsD K S (.list ds) l H) : Two K S i ds u l H := by
  obtain ⟨ok1, ok2, ok3, ok4⟩ := list_ok pc.2 (by rw [pc.1]; exact ar_le i lt)
  refine ⟨lt, pc, hu, hl, ok1, by omega, ok3, ?_, by omega⟩
  show PyData.depthAll ds + 1 < 60
  omega
theorem Two.mono {H' : Hp} (h : Two K S i ds u l H) (e : Ex (hid S H) (hid S H')) : Two K S i ds u l H' := { h with u := isPc_w _ _ _ e h.u, l := isD_w _ _ _ e h.l }
theorem v_eq {a b : Str} (h1 : σ[8]? = some (some (.str a))) (h2 : σ[5]? = some (some (.str b))) : EQ S p c ns (tOp rEq (tVar 8) (tVar 5)) σ H n n (fun v _ => v = .bl (decide (V.str a = V.str b))) := eq_opV (x := .str a) (y := .str b) (eq_var h1 fun _ _ => rfl) (eq_var h2 fun _ _ => rfl) fun _ => rv_eq rfl
theorem v_ne {a b : Str} (h1 : σ[8]? = some (some (.str a))) (h2 : σ[5]? = some (some (.str b))) : EQ S p c ns (tOp rNe (tVar 8) (tVar 5)) σ H n n (fun v _ => v = .bl (!decide (V.str a = V.str b))) := eq_opV (x := .str a) (y := .str b) (eq_var h1 fun _ _ => rfl) (eq_var h2 fun _ _ => rfl) fun _ => rv_ne rfl
theorem tq_is {t : TT} {a b : Bool} (h : TQ S p c ns t σ H n n1 a) (e : a = b) : TQ S p c ns t σ H n n1 b := e ▸ h
section
variable (T : ∀ i, i < 5 → StC K mg i) (A : Two K S i ds u l H) (B : Two K S j es u' l' H) (h4 : σ[4]? = some (some u)) (h5 : σ[5]? = some (some (.str (kw i)))) (h6 : σ[6]? = some (some l)) (h7 : σ[7]? = some (some u')) (h8 : σ[8]? = some (some (.str (kw j)))) (h9 : σ[9]? = some (some l'))
include T A B h4 h7 in
theorem oEq_tq (g : Bool → Bool) : TQ S p c ns (oEq K g 4 7) σ H n n (g (eqPc i j ds es)) := tq_test (eq_ownP T A.lt B.lt (eq_var h4 fun H' w' => isPc_w _ _ _ w'.1 A.u) (eq_var h7 fun H' w' => isPc_w _ _ _ w'.1 B.u) A.ok B.ok A.dd)
include A B h6 h9 in
theorem rp_tq : TQ S p c ns (tTest (tOp rEq (oRp K 6) (oRp K 9))) σ H n n (decide (V.str (PyData.list ds).shown = V.str (PyData.list es).shown)) := tq_test (eq_opV (eq_repr (eq_var h6 fun H' w' => isD_w _ _ _ w'.1 A.l) A.sh A.dp A.ln) (eq_repr (eq_var h9 fun H' w' => isD_w _ _ _ w'.1 B.l) B.sh B.dp B.ln) fun _ => rv_eq rfl)
include T A B h4 h5 h6 h7 h8 h9 in
theorem see1 : TQ S p c ns (tSee1 K) σ H n n false := by
  by_cases z : i = j
  · subst z
    refine tq_or (tq_andF (tq_is (tq_test (v_ne h8 h5)) (by simp))) (tq_and (tq_is (tq_test (v_eq h8 h5)) (by simp)) ?_)
    by_cases y : (PyData.list ds).shown = (PyData.list es).shown
    · refine tq_and (tq_is (rp_tq A B h6 h9) (by rw [y]; simp)) (tq_is (oEq_tq T A B h4 h7 not) ?_)
      rw [self_eq, shown_inj A.lt A.pc B.pc y]
      rfl
    · refine tq_andF (tq_is (rp_tq A B h6 h9) ?_)
      exact decide_eq_false fun q => y (V.str.inj q)
  · have nk := kw_inj i A.lt j B.lt z
    refine tq_or (tq_and (tq_is (tq_test (v_ne h8 h5)) ?_) (tq_is (oEq_tq T A B h4 h7 id) ?_)) (tq_andF (tq_is (tq_test (v_eq h8 h5)) ?_))
    · rw [decide_eq_false fun q => nk (V.str.inj q).symm]
      rfl
    · rw [other_eq nk]
      rfl
    · exact decide_eq_false fun q => nk (V.str.inj q).symm
include T A B h4 h5 h6 h7 h8 h9 in
theorem see2 : TQ S p c ns (tSee2 K) σ H n n false := by
  by_cases z : i = j
  · subst z
    refine tq_and (tq_is (tq_test (v_eq h8 h5)) (by simp)) ?_
    have q := tq_test (eq_neQ (n := n) (eq_var h6 fun H' w' => isD_w _ _ _ w'.1 A.l) (eq_var h9 fun H' w' => isD_w _ _ _ w'.1 B.l) A.ok B.ok (by have := A.dd; omega) : EQ S p c ns (tOp (rNeQ K) (tVar 6) (tVar 9)) σ H n n _)
    cases y : eqDs ds es with
    | true => exact tq_andF (tq_is q (by rw [y]; rfl))
    | false => exact tq_and (tq_is q (by rw [y]; rfl)) (tq_is (oEq_tq T A B h4 h7 id) (by rw [self_eq, y]; rfl))
  · have nk := kw_inj i A.lt j B.lt z
    exact tq_andF (tq_is (tq_test (v_eq h8 h5)) (decide_eq_false fun q => nk (V.str.inj q).symm))
end
/-- the first test: right, not its list, and equal to itself -/
abbrev tMain (K : PySem.W.Frag) : TT := tOr (tNot (tB (tCall (spRight K) [] E0 (tCons (tVar 4) (tCons (tVar 5) (tCons (tVar 6) tNil)))))) (tOr (oEq K id 4 6) (tNot (oEq K id 4 4)))
theorem main_tq (T : ∀ i, i < 5 → StC K mg i) (kl : PySem.W.kitOne K (.type "list") (.ref (cB K)) = some false) (A : Two K S i ds u l H) (h4 : σ[4]? = some (some u)) (h5 : σ[5]? = some (some (.str (kw i)))) (h6 : σ[6]? = some (some l)) : TQ S p c ns (tMain K) σ H n n false := by
  have vu : EQ S p c ns (tVar 4) σ H n n (IsPc K S i ds) := eq_var h4 fun H' w' => isPc_w _ _ _ w'.1 A.u
  refine tq_or (tq_is (tq_not (tq_B (eq_right A.lt A.pc A.u A.l h4 h5 h6))) rfl) (tq_or (tq_is (tq_test (eq_ownL (g := id) T A.lt kl vu (eq_var h6 fun H' w' => isD_w _ _ _ w'.1 A.l) A.ok A.dd)) rfl) (tq_is (tq_not (tq_test (eq_ownP (g := id) T A.lt A.lt vu vu A.ok A.ok A.dd))) ?_))
  rw [self_eq, shown_inj A.lt A.pc A.pc rfl]
  rfl
end
end HB
namespace HB
open PySem PySem.Spec PyProof.Rows L2 Evl
section
variable {P : Program} {w : World} {K : PySem.W.Frag} {mg : Str → Option Value} {base : Heap}
abbrev Nl : List Str := ["_law_script", "_law_dice", "_law_seen", "_law_turn", "_law_piece", "_law_word", "_law_due", "_law_former", "_law_kind", "_law_rest", "_law_given"]
theorem sc_law : FnScope Nl ["_law_script"] (defScope (top 20)) := ⟨rfl, rfl, rfl, by decide +kernel, rfl, by decide +kernel, by decide +kernel⟩
def spLaw (K : PySem.W.Frag) : Sp := fun vs H Q _ => ∃ (a : Addr) (ns : List Int), vs = [.ref a] ∧ SqL K H a (ns.map V.int) ∧ ns.length ≤ 63 ∧ ∀ H', Q (.bl true) H'
structure Calls (P : Program) (w : World) (K : PySem.W.Frag) (mg : Str → Option Value) (base : Heap) : Prop where
  pen : ∃ f fd, FnOk P w K mg base CX0 1 f fd ["_law_script"] (spPen K) ∧ mg "_law_pen" = some (.ref f) ∧ PySem.W.keepIn K (.ref f) = true ∧ Binds K fd ["_law_script"] []
  one : ∃ f fd, FnOk P w K mg base CX0 5 f fd ["_law_dice"] (spW (OneR K) 8 (2 ^ 37)) ∧ mg "_law_draw_one" = some (.ref f) ∧ PySem.W.keepIn K (.ref f) = true ∧ Binds K fd ["_law_dice"] []
  rgt : ∃ f fd, FnG P w K mg base CX0 3 f fd ["_law_piece", "_law_word", "_law_due"] (spRight K) ∧ mg "_law_is_right" = some (.ref f) ∧ PySem.W.keepIn K (.ref f) = true ∧ Binds K fd ["_law_piece", "_law_word", "_law_due"] []
  fr : ∃ f fd, FnG P w K mg base CX0 6 f fd ["_law_dice"] (spW (fun _ v _ => v = .bl true) 10 (2 ^ 37)) ∧ mg "_law_function_right" = some (.ref f) ∧ PySem.W.keepIn K (.ref f) = true ∧ Binds K fd ["_law_dice"] []
  eqs : ∃ fd, FnOk P w K mg base CX0 1 (fE K) fd ["self", "other"] (spEqS K) ∧ Binds K fd ["self", "other"] []
  ei2 : ∃ fd, FnOk P w K mg base CX0 3 (fI K 4) fd ["self", "one", "other"] (spEi2 K (cS K 4)) ∧ Binds K fd ["self", "one", "other"] []
theorem oneR_w {S : Addr → Bool} : MonoW S (OneR K S) := fun _ _ _ e ⟨i, ds, h1, h2, z⟩ => ⟨i, ds, h1, h2, newTW_w (fun _ _ _ e ⟨u, l, z, a, b⟩ => ⟨u, l, z, isPc_w _ _ _ e a, isD_w _ _ _ e b⟩) _ _ _ e z⟩
theorem isPc_more {S : Addr → Bool} {H : Hp} {ag : Addr} {gs : List V} {i : Nat} {ds : List PyData} {u : V} {o : HO} (ha : H ag = some (.lst gs)) (h : IsPc K S i ds u H) (z : noLs ds = true) : IsPc K (more S ag) i ds u (upd H ag o) := by
  obtain ⟨a, dx, t, ys, rfl, h1, h2, h3⟩ := h
  have e : hid (more S ag) (upd H ag o) = hid (more S ag) H := hid_upd more_self
  refine ⟨a, dx, t, ys, rfl, ?_, ?_, ?_⟩
  · rw [e]
    exact hid_keep ha h1 (fun _ z => nomatch z)
  · rw [e]
    exact hid_keep ha h2 (fun _ z => nomatch z)
  · rw [e]
    exact dqs_more ha h3 z
theorem ev_tail1 {S : Addr → Bool} {σ : L2.St} {H : Hp} {u : V} (T : ∀ i, i < 5 → StC K mg i) (h : IsPc K S 2 [.str "f", .tuple [.str "a"]] u H) (h4 : σ[4]? = some (some u)) : Ev (tOp (rEqQ K) (tProp (cS K 2) (spPart K 1) [] E0 (tVar 4)) (tTup (tCons (tC (.str "a")) tNil))) σ H (.bl true) := by
  obtain ⟨v, q, ev⟩ := ev_part (j := 1) (T 2 (by decide)) h h4 rfl
  refine ev_opV ev (eu_tup (ea_cons ev_c ea_nil) (by decide)) fun b H1 hb e1 => fun H2 e2 Q k => ?_
  refine ⟨.tuple [.str "a"], .tuple [.str "a"], Dq.mono (e1.trans e2) q, .tup (st_of (e2 _ _ hb)) (.cons (.str _) .nil), by decide +kernel, by decide +kernel, by decide +kernel, ?_⟩
  rw [show eqD (.tuple [.str "a"]) (.tuple [.str "a"]) = true from by decide +kernel]
  exact k H2 (Ex.refl H2)
theorem ev_tail2 {σ : L2.St} {H : Hp} {au : Addr} (T : ∀ i, i < 5 → StC K mg i) (h4 : σ[4]? = some (some (.ref au))) : Ev (tOp (rTupId K) (tProp (cS K 4) (spPart K 0) [] E0 (tMake (cS K 4) (spEi2 K (cS K 4)) [] E0 (tCons (tLst (tCons (tVar 4) tNil)) (tCons (tTup tNil) tNil)))) (tTup (tCons (tVar 4) tNil))) σ H (.bl true) := fun H1 e Q q => by
  refine ⟨.ref au, h4, sz_of (by show 1 ≤ 100000; decide), fun l hl => ⟨sz_of (by decide), fun y hy => fun x dx hx hdx ne => ?_⟩⟩
  have e1 : Ex H1 (upd H1 l (.lst [.ref au])) := Ex.new hl
  have e2 : Ex (upd H1 l (.lst [.ref au])) (upd (upd H1 l (.lst [.ref au])) y (.tup [])) := Ex.new hy
  have hl2 := e2 _ _ (upd_same (H := H1) (a := l) (o := .lst [.ref au]))
  have ex : Ex (upd (upd H1 l (.lst [.ref au])) y (.tup [])) (wo x (upd (upd (upd (upd H1 l (.lst [.ref au])) y (.tup [])) dx (.own x)) x (.ins (cS K 4) dx []))) := by
    rw [wo_upd]
    intro b o hb
    rw [wo_ne (ne_of_none hb hx), upd_ne (ne_of_none hb hdx)]
    exact hb
  refine ⟨x, dx, l, [.ref au], .ref y, rfl, upd_same, sq_of (wo_ex _ _ (ex _ _ hl2)), .tup (st_of (wo_ex _ _ (ex _ _ upd_same))) .nil, fun H' t qa z e' ha ht hq => ⟨rfl, x, dx, _, rfl, ha, x, cS K 4, dx, t, _, [.ref qa, z], .ref qa, rfl, ha, (T 4 (by decide)).ob.cls, (T 4 (by decide)).np, rfl, st_of ht, rfl, .ref au, h4, sz_of (by show 1 ≤ 100000; decide), fun b hb => ⟨qa, b, au, rfl, rfl, st_of (Ex.new hb _ _ hq), st_of upd_same, fun H'' e'' => ?_⟩⟩⟩
  exact q H'' (((((e1.trans e2).trans ex).trans e').trans wo_ex).trans ((Ex.new hb).trans e''))
theorem ev_tail3 {σ : L2.St} {H : Hp} (T : ∀ i, i < 5 → StC K mg i) : Ev (tOp rEq (tProp (cS K 1) (spPart K 1) [] E0 (tMake (cS K 1) (spIns K (cS K 1) (kw 1) 2 gAdd) [] E0 (tCons (tC (.str "n")) (tCons (tC (.int 1)) tNil)))) (tC (.int 1))) σ H (.bl true) := fun H1 e Q q => by
  refine fun x dx hx hdx ne => ?_
  have ex : Ex H1 (wo x (upd (upd H1 dx (.own x)) x (.ins (cS K 1) dx []))) := by
    rw [wo_upd]
    intro b o hb
    rw [wo_ne (ne_of_none hb hx), upd_ne (ne_of_none hb hdx)]
    exact hb
  refine ⟨x, dx, [.str "n", .int 1], fun _ => false, [.str "n", .int 1], rfl, upd_same, (fun a z => by cases z), .cons (.str _) (.cons (.int _) .nil), rfl, fun H' t ys e' ha ht hd => ⟨rfl, ?_⟩⟩
  obtain ⟨v, hv, hz⟩ := dqs_get (j := 1) hd rfl
  cases hz
  refine ⟨x, dx, _, rfl, ha, x, cS K 1, dx, t, _, ys, .int 1, rfl, ha, (T 1 (by decide)).ob.cls, (T 1 (by decide)).np, rfl, st_of (wo_ex _ _ (hid_ex _ _ ht)), hv, rfl, ?_⟩
  exact q H' ((ex.trans e').trans wo_ex)

theorem ok_law {f : Addr} {fd : FuncData} (F : FnP K "law" (top 20) f fd) (Sy : Sys K) (T : ∀ i, i < 5 → StC K mg i) (M : Mks P w K mg base) (R : Prps P w K mg base) (Cs : Calls P w K mg base) (m2 : mg "repr" = none) (m3 : mg "range" = none) (kl : PySem.W.kitOne K (.type "list") (.ref (cB K)) = some false) : FnG P w K mg base CX0 7 f fd ["_law_script"] (spLaw K) := by
  obtain ⟨fp, pd, Gp, mp, kp, bp⟩ := Cs.pen
  obtain ⟨fo, od, Go, mo, ko, bo⟩ := Cs.one
  obtain ⟨fr, rd, Gr, mr, kr, br⟩ := Cs.rgt
  obtain ⟨ff, ffd, Gf, mf, kf, bf⟩ := Cs.fr
  obtain ⟨ed, Ge, be⟩ := Cs.eqs
  obtain ⟨ei, Gi, bi⟩ := Cs.ei2
  obtain ⟨e1d, M1, c1⟩ := M.m1
  obtain ⟨e2d, M2, c2⟩ := M.m2
  obtain ⟨pa2, g2, d2, po2, F2, b2⟩ := R.many
  obtain ⟨pa3, g3, d3, po3, F3, b3⟩ := R.things
  obtain ⟨pa4, g4, d4, po4, F4, b4⟩ := R.one
  refine fun_okG F sc_law (fun vs H Q E h => ?_) (fun cdv A outer s H vs Q E hg hr h => ?_)
  · obtain ⟨a, ns, rfl, _⟩ := h
    rfl
  · obtain ⟨a, ns, rfl, hS0, hn0, k⟩ := h
    have hg0 : (A.deeper (envOfC "law" (defScope (top 20)) s.heap.objs.size f cdv)).guards = some [] := hg
    have hu0 := hr.units
    refine ⟨_, PSs.nox (pss_cons (ps_par (i := 1) (j := 2) (by rfl) sc_law.nd rfl rfl (by decide) rfl rfl (pa_cons (pe_call Gp (hr.mono (by decide)) rfl mp kp bp .nil pass0 (pa_cons (pv 0) pa_nil)) (pa_cons (pe_lst pa_nil) pa_nil)) (by rfl))
      (pss_cons (ps_for PassesOwn.never rfl (pi_range1 (by rfl) m3 (pa_cons pe_int pa_nil)) (pg_name (i := 3) sc_law.nd rfl (Or.inl rfl)) (pss_cons (ps_asg (pe_call Go (hr.mono (by decide)) rfl mo ko bo .nil pass0 (pa_cons (pv 1) pa_nil)) (pg_tup (by rfl) (pgs_cons (pg_name (i := 4) sc_law.nd rfl (Or.inl rfl)) (pgs_cons (pg_name (i := 5) sc_law.nd rfl (Or.inl rfl)) (pgs_cons (pg_name (i := 6) sc_law.nd rfl (Or.inl rfl)) pgs_nil)))))
      (pss_cons (ps_if (PW.pt (pw_or (pt_not (pt_val (pe_callG Gr hg0 (hr.mono (by decide)) rfl mr kr br pass0 (pa_cons (pv 4) (pa_cons (pv 5) (pa_cons (pv 6) pa_nil)))))) (pw_or (pt_cmpR (op_ownEq Ge be (hr.mono (by decide))) (pv 4) (pv 6) (nomark _)) (pw_or1 (pt_not (pt_cmpR (op_ownEq Ge be (hr.mono (by decide))) (pv 4) (pv 4) (nomark _))))))) (pss_one (ps_ret pe_bl)) pss_nil)
      (pss_cons (ps_for PassesOwn.never rfl (pi_list (pv 2)) (pg_tup (by rfl) (pgs_cons (pg_name (i := 7) sc_law.nd rfl (Or.inl rfl)) (pgs_cons (pg_name (i := 8) sc_law.nd rfl (Or.inl rfl)) (pgs_cons (pg_name (i := 9) sc_law.nd rfl (Or.inl rfl)) pgs_nil)))) (pss_cons (ps_if (PW.pt (pw_or (PW.pt (pw_and (pt_cmpR op_ne (pv 8) (pv 5) (nomark _)) (pw_and1 (pt_cmpR (op_ownEq Ge be (hr.mono (by decide))) (pv 4) (pv 7) (nomark _))))) (pw_or1 (PW.pt (pw_and (pt_cmpR op_eq (pv 8) (pv 5) (nomark _)) (pw_and (pt_cmpR op_eq (pe_callB (call_repr Sy hg0 hu0) (by rfl) m2 (by decide +kernel) (pa_cons (pv 6) pa_nil)) (pe_callB (call_repr Sy hg0 hu0) (by rfl) m2 (by decide +kernel) (pa_cons (pv 9) pa_nil)) (nomark _)) (pw_and1 (pt_cmpR (op_ownNe Ge be (hr.mono (by decide))) (pv 4) (pv 7) (nomark _))))))))) (pss_one (ps_ret pe_bl)) pss_nil)
      (pss_one (ps_if (PW.pt (pw_and (pt_cmpR op_eq (pv 8) (pv 5) (nomark _)) (pw_and (pt_cmpR (op_neQ hu0) (pv 6) (pv 9) (nomark _)) (pw_and1 (pt_cmpR (op_ownEq Ge be (hr.mono (by decide))) (pv 4) (pv 7) (nomark _)))))) (pss_one (ps_ret pe_bl)) pss_nil))))
      (pss_cons (ps_expr (pe_bm PySem.F.plainAttrs_list PySem.F.slot_list_append PySem.F.type_list_append mt_append (pv 2) (pa_cons (pe_tup (pa_cons (pv 4) (pa_cons (pv 5) (pa_cons (pv 6) pa_nil)))) pa_nil)))
      (pss_one (ps_if (pt_not (pt_val (pe_callG Gf hg0 (hr.mono (by decide)) rfl mf kf bf pass0 (pa_cons (pv 1) pa_nil)))) (pss_one (ps_ret pe_bl)) pss_nil)))))))
      (pss_cons (ps_set (i := 10) sc_law.nd rfl (Or.inl rfl) (pe_lst (pa_cons pe_str pa_nil)))
      (pss_cons (ps_set (i := 4) sc_law.nd rfl (Or.inl rfl) (pe_make (T 2 (by decide)).mkr M2 (hr.mono (by decide)) rfl (T 2 (by decide)).mgC c2 .nil pass0 (pa_cons pe_str (pa_cons (pv 10) pa_nil))))
      (pss_cons (ps_expr (pe_bm PySem.F.plainAttrs_list PySem.F.slot_list_append PySem.F.type_list_append mt_append (pv 10) (pa_cons pe_str pa_nil)))
      (pss_one (ps_ret (pe_and (pe_cmpR (op_eqQ hu0) (pe_prop (pv 4) (T 2 (by decide)).ob.cls po3 F3 (hr.mono (by decide)) b3 .nil pass0 rfl) (pe_tup (pa_cons pe_str pa_nil)) (nomark _)) (pe_and (pe_cmpR (op_tupId (hr.mono (by decide))) (pe_prop (pe_make (T 4 (by decide)).mkr Gi (hr.mono (by decide)) rfl (T 4 (by decide)).mgC bi .nil pass0 (pa_cons (pe_lst (pa_cons (pv 4) pa_nil)) (pa_cons (pe_tup pa_nil) pa_nil))) (T 4 (by decide)).ob.cls po4 F4 (hr.mono (by decide)) b4 .nil pass0 rfl) (pe_tup (pa_cons (pv 4) pa_nil)) (nomark _)) (pe_one (pe_cmpR op_eq (pe_prop (pe_make (T 1 (by decide)).mkr M1 (hr.mono (by decide)) rfl (T 1 (by decide)).mgC c1 .nil pass0 (pa_cons pe_str (pa_cons pe_int pa_nil))) (T 1 (by decide)).ob.cls po2 F2 (hr.mono (by decide)) b2 .nil pass0 rfl) pe_int (nomark _)))))))))))), ?_⟩
    refine ⟨_, rfl, a, ns, rfl, hS0, hn0, fun p c ms H0 e0 hp0 => ⟨sz_of (by decide), fun sn hsn => ⟨_, _, rfl, ?_⟩⟩⟩
    have nsp : sn ≠ p := pen_ne hp0 hsn
    have nsc : sn ≠ c := fun z => by
      rw [z, hp0.cells] at hsn
      cases hsn
    have hp1 : Pen (upd H0 sn (.lst [])) p c ms 0 := hp0.mono (Ex.new hsn) (Nat.le_refl _)
    obtain ⟨S, hSp, hSn, hSa⟩ : ∃ S : Addr → Bool, S p = true ∧ S sn = true ∧ ∀ x, S x = true → x = p ∨ x = sn := ⟨fun x => decide (x = p) || decide (x = sn), by simp, by simp, fun x h => by simpa using h⟩
    have hS1 : SAll S (upd H0 sn (.lst [])) := fun x hx => by
      rcases hSa x hx with rfl | rfl
      · obtain ⟨b, r, e1, _⟩ := hp1.at_
        exact ⟨_, e1⟩
      · exact ⟨_, upd_same⟩
    refine ⟨24, rfl, by decide, by decide, for_range (lo := 0) (n := (24 : Int).toNat) (fun i σ H => (∃ x3 x4 x5 x6 x7 x8 x9 x10 : Option V, σ = [some (.ref a), some (.ref p), some (.ref sn), x3, x4, x5, x6, x7, x8, x9, x10]) ∧ Pen H p c ms (18 * i) ∧ SAll S H ∧ ∃ xs, H sn = some (.lst xs) ∧ xs.length = i ∧ ∀ v ∈ xs, OneR K S v H) ⟨⟨_, _, _, _, _, _, _, _, rfl⟩, hp1, hS1, [], upd_same, rfl, fun v hv => by simp at hv⟩ (fun i σ H1 hi hI => ?_) (fun σ H1 hI => ?_)⟩
    · obtain ⟨⟨x3, x4, x5, x6, x7, x8, x9, x10, rfl⟩, hp, hS, xs, hx, hxl, hxs⟩ := hI
      have hi' : i < 24 := hi
      refine eq_w (n := 18 * i) (R := OneR K) (k := 8) (B := 2 ^ 37) rfl hSp (by omega) H1 (.refl S p H1) hp hS _ fun v H2 w2 hp2 z2 => ?_
      have hS2 := hS.of_wx w2 hp2
      obtain ⟨ii, ds, lt, pc, ta, ys, rfl, hta, u, l, rfl, hu, hl⟩ := z2
      have A2 := two_of lt pc hu hl
      refine ⟨ta, _, rfl, st_of (hid_ex _ _ hta), rfl, u, _, rfl, _, _, rfl, _, _, rfl, rfl, ?_⟩
      have hx2 : H2 sn = some (.lst xs) := (w2.2 sn hSn nsp).trans hx
      refine q_whenQ (S := S) (c := c) (ns := ms) (main_tq T kl A2 rfl rfl rfl) hp2 hS2 fun H3 w3 hp3 hS3 => ?_
      have A3 := A2.mono w3.1
      have hx3 : H3 sn = some (.lst xs) := (w3.2 sn hSn nsp).trans hx2
      have hxs3 : ∀ v ∈ xs, OneR K S v H3 := fun v hv => oneR_w _ _ _ (w2.trans w3).1 (hxs v hv)
      refine ⟨_, rfl, sn, rfl, ⟨xs, sq_of hx3⟩, for_list (xs := xs) (fun _ σ H => (∃ x7 x8 x9 : Option V, σ = [some (.ref a), some (.ref p), some (.ref sn), some (.int (0 + (i : Int))), some u, some (.str (kw ii)), some l, x7, x8, x9, x10]) ∧ Wx S p H3 H ∧ Pen H p c ms (18 * i + 8) ∧ SAll S H) ⟨⟨_, _, _, rfl⟩, .refl _ _ _, hp3, hS3⟩ (fun _ σ H _ hI => ?_) (fun kk x σ H hxk hI => ?_) (fun σ H hI => ?_)⟩
      · exact sq_of ((hI.2.1.2 sn hSn nsp).trans hx3)
      · obtain ⟨⟨y7, y8, y9, rfl⟩, w4, hp4, hS4⟩ := hI
        obtain ⟨jj, es, lt', pc', tb, zs, rfl, htb, u', l', rfl, hu', hl'⟩ := oneR_w _ _ _ w4.1 (hxs3 x (List.mem_of_getElem? hxk))
        have A4 := A3.mono w4.1
        have B4 := two_of lt' pc' hu' hl'
        refine ⟨tb, _, rfl, st_of (hid_ex _ _ htb), rfl, u', _, rfl, _, _, rfl, _, _, rfl, rfl, ?_⟩
        refine q_whenQ (S := S) (c := c) (ns := ms) (see1 T A4 B4 rfl rfl rfl rfl rfl rfl) hp4 hS4 fun H5 w5 hp5 hS5 => ?_
        refine s_whenQ (S := S) (c := c) (ns := ms) (see2 T (A4.mono w5.1) (B4.mono w5.1) rfl rfl rfl rfl rfl rfl) hp5 hS5 fun H6 w6 hp6 hS6 => ?_
        exact ⟨⟨_, _, _, rfl⟩, (w4.trans w5).trans w6, hp6, hS6⟩
      · obtain ⟨⟨y7, y8, y9, rfl⟩, w4, hp4, hS4⟩ := hI
        have A4 := A3.mono w4.1
        have hx4 : H sn = some (.lst xs) := (w4.2 sn hSn nsp).trans hx3
        refine q_appU hx4 (ev_var rfl) (eu_tup (ea_cons (ev_var rfl) (ea_cons (ev_var rfl) (ea_cons (ev_var rfl) ea_nil))) (by show 3 ≤ 100000; decide)) (by omega) fun tq H5 htq e5 h5 => ?_
        have hp5 := hp4.mono e5 (Nat.le_refl _)
        have hS5 := hS4.mono e5
        have eh : hid S (upd H5 sn (.lst (xs ++ [.ref tq]))) = hid S H5 := hid_upd hSn
        have w45 : Ex (hid S H) (hid S (upd H5 sn (.lst (xs ++ [.ref tq])))) := by
          rw [eh]
          exact hid_mono e5
        have A6 := A4.mono w45
        have hp6 : Pen (upd H5 sn (.lst (xs ++ [.ref tq]))) p c ms (18 * i + 8) := penUpdD hp5 nsp nsc
        have hS6 : SAll S (upd H5 sn (.lst (xs ++ [.ref tq]))) := hS5.upd
        have new : OneR K S (.ref tq) (upd H5 sn (.lst (xs ++ [.ref tq]))) := ⟨ii, ds, lt, pc, tq, _, rfl, by rw [eh, hid_ne (hS4.fresh htq)]; exact h5, u, l, rfl, A6.u, A6.l⟩
        refine s_whenQ (S := S) (c := c) (ns := ms) (tq_is (b := false) (tq_not (tq_B (eq_w (n := 18 * i + 8) (R := fun _ v _ => v = .bl true) (k := 10) (B := 2 ^ 37) rfl hSp (by omega)))) rfl) hp6 hS6 fun H7 w7 hp7 hS7 => ?_
        refine ⟨⟨_, _, _, _, _, _, _, _, rfl⟩, by rw [Nat.mul_succ]; exact hp7, hS7, xs ++ [.ref tq], (w7.2 sn hSn nsp).trans upd_same, by rw [List.length_append, hxl]; rfl, fun v hv => ?_⟩
        rcases List.mem_append.mp hv with hv | hv
        · exact oneR_w _ _ _ ((w4.1.trans w45).trans w7.1) (hxs3 v hv)
        · obtain rfl : v = .ref tq := by simpa using hv
          exact oneR_w _ _ _ w7.1 new
    · obtain ⟨⟨x3, x4, x5, x6, x7, x8, x9, x10, rfl⟩, hp, hS, xs, hx, hxl, hxs⟩ := hI
      refine q_asgL (xs := [.str "a"]) (el_lst (ea_cons ev_c ea_nil) (by decide)) fun ga H2 hga e2 h2 => ?_
      have hp2 := hp.mono e2 (Nat.le_refl _)
      have hS2 := hS.mono e2
      have hga2 : hid S H2 ga = some (.lst [.str "a"]) := by
        rw [hid_ne (hS.fresh hga)]
        exact h2
      refine q_asgQ (S := S) (c := c) (ns := ms) (P := IsPc K S 2 [.str "f", .tuple [.str "a"]]) (er_piece (g := gCall) (ds := [.str "f", .list [.str "a"]]) (aq_dcons d_str (aq_dcons (eq_var rfl (fun H' w' => .lst (sq_of (w'.1 _ _ hga2)) (.cons (.str _) .nil))) aq_dnil)) rfl) hp2 hS2 fun u H3 w3 hp3 hS3 z3 => ?_
      have hga3 : H3 ga = some (.lst [.str "a"]) := hid_ex _ _ (w3.1 _ _ hga2)
      refine q_app (v := .str "b") hga3 (ev_var rfl) ev_c (by decide) fun H4 e4 => ?_
      have z4 := isPc_more (o := .lst ([.str "a"] ++ [.str "b"])) (e4 _ _ hga3) (isPc_w _ _ _ (hid_mono e4) z3) rfl
      obtain ⟨au, dx, t, ys, rfl, _⟩ := id z4
      exact s_ret (ev_andV (ev_tail1 T z4 rfl) fun _ => ev_andV (ev_tail2 T rfl) fun _ => ev_tail3 T) fun H5 _ => k H5
end
end HB
namespace HB
open PySem PySem.Spec PyProof.Rows L2 NdefX
/-! ### the head: defs by any path, one Bool, and the facts that are read off -/
structure ZD where
  adr : PySem.W.Frag → Addr
  name : Str
  qual : Str
  params : Arguments
  body : List Stmt
  scope : Scope
  cl : List Str := []
abbrev ZW : Type := Option (Str × Str × Arguments × FuncBody × Scope × Addr × List Str × Addr)
def zW (K : PySem.W.Frag) (a : Addr) : ZW := match K.lookup a with
  | some ⟨_, _, .func fd, _⟩ => some (fd.name, fd.qualname, fd.params, fd.body, fd.scope, fd.globals, fd.closure.map (·.1), fd.builtins)
  | _ => none
def ZD.val (d : ZD) : ZW := some (d.name, d.qual, d.params, .stmts d.body, d.scope, mainGlobals, d.cl, builtinsNs)
abbrev AlZ : Type := He.AlX × List ZW
def asZ (g : Addr → Option Obj) (n : Nat) : List Addr := cStatics :: sysModules :: He.asD g n
def obsZ (n : Nat) (fa : List He.Fa) (fn : List He.DefD) (zs : List ZD) (ex : PySem.W.Frag → Bool) (g : Addr → Option Obj) : AlZ := ((He.obsT fa fn [] (He.frT g (asZ g n)), ex (He.frT g (asZ g n))), zs.map fun z => zW (He.frT g (asZ g n)) (z.adr (He.frT g (asZ g n))))
def valZ (fn : List He.DefD) (zs : List ZD) (w : World) : AlZ := ((He.valT fn [] w, true), zs.map ZD.val)
def hookZ (n : Nat) (fa : List He.Fa) (fn : List He.DefD) (zs : List ZD) (ex : PySem.W.Frag → Bool) : PySem.W.Hook where
  α := AlZ
  obs := fun s => obsZ n fa fn zs ex s.heap.get?
  val := fun w => valZ fn zs w
  says := fun w h => ∃ K : PySem.W.Frag, K.In h ∧ He.SaysT fa fn [] w K ∧ ex K = true ∧ (zs.map fun z => zW K (z.adr K)) = zs.map ZD.val
  of := fun _ _ e => ⟨_, He.frT_in, congrArg (fun z : AlZ => z.1.1) e, congrArg (fun z : AlZ => z.1.2) e, congrArg (fun z : AlZ => z.2) e⟩
  keeps := fun _ _ _ ⟨K, hK, c⟩ k => ⟨K, PySem.W.Frag.In.keeps hK k, c⟩
theorem obsZ_eq {n : Nat} {fa : List He.Fa} {fn : List He.DefD} {zs : List ZD} {ex : PySem.W.Frag → Bool} {g : Addr → Option Obj} {s : Shared} (h : ∀ a, g a = s.heap.get? a) : obsZ n fa fn zs ex g = (hookZ n fa fn zs ex).obs s := by
  have e : g = s.heap.get? := funext h
  rw [e] <;> rfl
section
variable {K : PySem.W.Frag}
theorem zAt {zs : List ZD} (c : (zs.map fun z => zW K (z.adr K)) = zs.map ZD.val) (i : Nat) {z : ZD} (h : zs[i]? = some z := by rfl) : zW K (z.adr K) = z.val := by
  have e2 : (zs.map fun z => zW K (z.adr K))[i]? = (zs.map ZD.val)[i]? := by rw [c]
  rw [List.getElem?_map, List.getElem?_map, h] at e2
  exact Option.some.inj e2
def vNon : Value → Bool
  | .none => true
  | _ => false
theorem vNon_ok {v : Value} (h : vNon v = true) : v = .none := by
  cases v <;> first | rfl | cases h
/-- no defaults -/
def zB (K : PySem.W.Frag) (a : Addr) (q : Str) : Bool := PySem.W.keepIn K (.ref a) && (match K.lookup a with
  | some ⟨_, _, .func fd, _⟩ => PySem.W.codeIn K fd.code q && (He.dflB K fd.defaults [] && He.kwdB K fd.kwdefaults [])
  | _ => false)
theorem zFun {z : ZD} (e : zW K (z.adr K) = z.val) (hc : z.cl = []) (c : zB K (z.adr K) z.qual = true) : ∃ fd, FunD K z.name z.qual z.params z.body z.scope [] [] (z.adr K) fd := by
  obtain ⟨z1, n, q, ps, b, sc, cl⟩ := z
  simp only at hc c e
  subst hc
  unfold zB at c
  rw [Bool.and_eq_true] at c
  obtain ⟨kp, c2⟩ := c
  unfold zW at e
  cases l : K.lookup (z1 K) with
  | none =>
    rw [l] at c2
    cases c2
  | some o =>
    obtain ⟨oc, od, dt, osl⟩ := o
    rw [l] at c2 e
    cases dt with
    | func fd =>
      obtain ⟨n1, n2, n3, n4, n5, n6, n7, n8, n9, n10, n11, n12, n13, n14, n15⟩ := fd
      have e2 : (some (n1, n2, n3, n4, n5, n6, n7.map (·.1), n15) : ZW) = some (n, q, ps, .stmts b, sc, mainGlobals, [], builtinsNs) := e
      simp only [Option.some.injEq, Prod.mk.injEq, List.map_eq_nil_iff] at e2
      obtain ⟨h1, h2, h3, h4, h5, h6, h7, h8⟩ := e2
      subst h1 h2 h3 h4 h5 h6 h7 h8
      have c3 : (PySem.W.codeIn K n13 n2 && (He.dflB K n8 [] && He.kwdB K n9 [])) = true := c2
      simp only [Bool.and_eq_true] at c3
      obtain ⟨k1, k3, k4⟩ := c3
      exact ⟨_, ⟨oc, od, n8, n9, n10, n11, n12, n13, n14, osl, rfl, l, k1, He.dflB_ok k3, He.kwdB_ok k4⟩, kp⟩
    | _ => cases c2
/-! properties -/
def pgA (K : PySem.W.Frag) (C : Addr) (f : Str) : Addr := match PySem.W.recIn K (He.ma K C f) "property" with
  | some (.ref g :: _) => g
  | _ => 0
def prB (K : PySem.W.Frag) (C : Addr) (f : Str) : Bool := He.eqO (PySem.W.findIn K (.ref C) f) (some (some (.ref (He.ma K C f)))) && (He.eqO (PySem.W.specialIn K (.ref (He.ma K C f)) "__get__") (some (some (.builtin "property.__get__"))) && (decide (PySem.W.takesIn K (.ref (He.ma K C f)) = some true) &&
  (match PySem.W.recIn K (He.ma K C f) "property" with
    | some (.ref g :: _) => true
    | _ => false)))
theorem prB_ok {C : Addr} {f : Str} (h : prB K C f = true) : PropOf K C f (He.ma K C f) (pgA K C f) := by
  unfold prB at h
  simp only [Bool.and_eq_true, decide_eq_true_eq] at h
  obtain ⟨h1, h2, h3, h4⟩ := h
  refine ⟨He.eqO_ok h1, He.eqO_ok h2, h3, ?_⟩
  unfold pgA
  split at h4
  · rename_i g r e
    rw [e]
    exact ⟨r, rfl⟩
  · cases h4
/-! an __init__ by super -/
def fileB (vs : Array Value) (file : Str) : Bool := match (vs[2]? : Option Value) with
  | some (.str x _) => decide (x = file)
  | _ => false
theorem fileB_ok {vs : Array Value} {file : Str} (h : fileB vs file = true) : ∃ t, vs[2]? = some (.str file t) := by
  unfold fileB at h
  split at h
  · rename_i x t e
    rw [of_decide_eq_true h] at e
    exact ⟨t, e⟩
  · cases h
def supB (K : PySem.W.Frag) (f D g : Addr) (q file : Str) : Bool := (match K.lookup f with
  | some ⟨_, _, .func fd, _⟩ => vNon fd.defaults && (vNon fd.kwdefaults && (fd.annotations.isNone && ((match fd.code with
    | .ref c => PySem.W.codeIn K (.ref c) q && (match K.lookup c with
      | some ⟨_, _, .fields vs, _⟩ => fileB vs file
      | _ => false)
    | _ => false) && (match fd.closure with
      | [(_, cc)] => (match K.lookup cc with
        | some ⟨_, _, .cell (some (.ref d)), _⟩ => decide (d = D)
        | _ => false)
      | _ => false))))
  | _ => false) && ((PySem.W.clsIn K D).isSome && (decide (PySem.W.mroIn K D (.ref D) = some true) && (He.eqO (PySem.W.ks_superIn K D D "__init__") (some (some (.ref g))) && (decide (PySem.W.typeIn K (.ref g) = some (.type "function")) && (PySem.W.fnIn K g && He.eqO (PySem.W.nsIn K cStatics "thirdparty.any") (some none))))))
theorem supB_ok {z : ZD} {D g : Addr} {file : Str} (e : zW K (z.adr K) = z.val) (hc : z.cl = [("__class__" : Str)]) (c : supB K (z.adr K) D g z.qual file = true) :
    ∃ (cl : List (Str × Addr)) (cA : Addr) (doc pm ctv : Value), SupF K (z.adr K) ⟨z.name, z.qual, z.params, z.body, z.scope, cl, cA⟩ file D g ∧ ∃ (oc : Value) (od : Option Addr) (sl : Array (Option Value)), K.lookup (z.adr K) = some ⟨oc, od, .func (NF.fd ⟨z.name, z.qual, z.params, z.body, z.scope, cl, cA⟩ doc pm ctv), sl⟩ := by
  obtain ⟨z1, n, q, ps, b, sc, cl⟩ := z
  simp only at hc c e ⊢
  subst hc
  unfold supB at c
  simp only [Bool.and_eq_true, decide_eq_true_eq] at c
  obtain ⟨c1, c2, c3, c4, c5, c6, c7⟩ := c
  unfold zW at e
  cases l : K.lookup (z1 K) with
  | none =>
    rw [l] at c1
    cases c1
  | some o =>
    obtain ⟨oc, od, dt, osl⟩ := o
    rw [l] at c1 e
    cases dt with
    | func fd =>
      obtain ⟨n1, n2, n3, n4, n5, n6, n7, n8, n9, n10, n11, n12, n13, n14, n15⟩ := fd
      have e2 : (some (n1, n2, n3, n4, n5, n6, n7.map (·.1), n15) : ZW) = some (n, q, ps, .stmts b, sc, mainGlobals, [("__class__" : Str)], builtinsNs) := e
      simp only [Option.some.injEq, Prod.mk.injEq] at e2
      obtain ⟨h1, h2, h3, h4, h5, h6, h7, h8⟩ := e2
      subst h1 h2 h3 h4 h5 h6 h8
      simp only [Bool.and_eq_true] at c1
      obtain ⟨k1, k2, k3, k4, k5⟩ := c1
      have k1' := vNon_ok k1
      have k2' := vNon_ok k2
      subst k1' k2'
      have k3' : n12 = none := Option.isNone_iff_eq_none.mp k3
      subst k3'
      match n13, k4 with
      | .ref cA, k4 =>
        simp only [Bool.and_eq_true] at k4
        obtain ⟨k6, k7⟩ := k4
        match n7, h7, k5 with
        | [(x, cc)], h7, k5 =>
          have hx : x = "__class__" := by simpa using h7
          subst hx
          refine ⟨[("__class__", cc)], cA, n10, n11, n14, ⟨⟨oc, od, osl, n10, n11, n14, l⟩, ?_, k6, ?_, ?_, c3, He.eqO_ok c4, c5, c6, He.eqO_ok c7⟩, oc, od, osl, rfl⟩
          · simp only at k5
            split at k5
            · rename_i o1 o2 d o4 e1
              rw [of_decide_eq_true k5] at e1
              exact ⟨cc, o1, o2, o4, rfl, e1⟩
            · cases k5
          · split at k7
            · rename_i o1 o2 vs o4 e1
              obtain ⟨t, e3⟩ := fileB_ok k7
              exact ⟨o1, o2, vs, o4, t, e1, e3⟩
            · cases k7
          · exact Option.isSome_iff_exists.mp c2
    | _ => cases c1
/-! an empty tuple that stands -/
def etB (K : PySem.W.Frag) (a : Addr) : Bool := match K.lookup a with
  | some ⟨.type c, none, .seq its _, _⟩ => decide (c = "tuple") && its.isEmpty
  | _ => false
theorem etB_ok {a : Addr} (h : etB K a = true) (H : Hp) : SqT K H a [] := by
  unfold etB at h
  split at h
  · rename_i c its n sl e
    simp only [Bool.and_eq_true, decide_eq_true_eq] at h
    obtain ⟨h1, h2⟩ := h
    have h3 := Array.isEmpty_iff.mp h2
    subst h3
    exact .inr ⟨_, #[], n, e, congrArg Value.type h1, rfl, by decide, .nil⟩
  · cases h
/-! classes -/
def obB (K : PySem.W.Frag) (C : Addr) : Bool := He.eqO (PySem.W.findIn K (.ref C) "__class__") (some (some (.builtin "object.__class__"))) && (He.eqO (PySem.W.specialIn K (.builtin "object.__class__") "__get__") (some (some (.builtin "getset_descriptor.__get__"))) && (decide (PySem.W.takesIn K (.builtin "object.__class__") = some true) && decide (PySem.W.mroIn K C (.type "object") = some true)))
theorem obB_ok {C : Addr} (c : Cls K C) (h : obB K C = true) : ObjC K C := by
  unfold obB at h
  simp only [Bool.and_eq_true, decide_eq_true_eq] at h
  obtain ⟨h1, h2, h3, h4⟩ := h
  exact ⟨c, He.eqO_ok h1, He.eqO_ok h2, h3, h4⟩
def owB (K : PySem.W.Frag) (C f : Addr) : Bool := He.eqO (PySem.W.findIn K (.ref C) "__eq__") (some (some (.ref f))) && (PySem.W.isFn K (.ref f) && (He.eqO (PySem.W.findIn K (.ref C) "__ne__") (some (some (.builtin "object.__ne__"))) && decide (PySem.W.mroIn K C (.type "object") = some true)))
theorem owB_ok {C f : Addr} (h : owB K C f = true) : OwnEqC K C f := by
  unfold owB at h
  simp only [Bool.and_eq_true, decide_eq_true_eq] at h
  obtain ⟨h1, h2, h3, h4⟩ := h
  exact ⟨He.eqO_ok h1, h2, He.eqO_ok h3, h4⟩
def syB (K : PySem.W.Frag) : Bool := match K.lookup sysModules with
  | some ⟨_, _, .dict _ _, _⟩ => true
  | _ => false
theorem syB_ok (h : syB K = true) : Sys K := by
  unfold syB at h
  split at h
  · rename_i o
    exact ⟨_, _, _, o, rfl⟩
  · cases h
/-! the five statements -/
def stB (K : PySem.W.Frag) (i : Nat) : Bool := (He.Fa.cls (kn i)).ok K && ((He.Fa.mkr (kn i)).ok K && ((He.Fa.noat (kn i) "own_kind").ok K && ((He.Fa.noat (kn i) "own_parts").ok K && ((He.Fa.glo (kn i)).ok K && (obB K (cS K i) && (owB K (cS K i) (fE K) && (decide (PySem.W.kitOne K (.ref (cS K i)) (.ref (cB K)) = some true) &&
  ((List.range 5).all fun j => decide (PySem.W.kitOne K (.ref (cS K i)) (.ref (cS K j)) = some (decide (i = j))) && PySem.W.notFirst K (cS K i) (.ref (cS K j))))))))))
theorem stB_ok {h : Heap} {mg : Str → Option Value} {i : Nat} (inK : K.In h) (G : h.Ns mainGlobals mg) (e : stB K i = true) : StC K mg i := by
  unfold stB at e
  simp only [Bool.and_eq_true, List.all_eq_true, List.mem_range, decide_eq_true_eq] at e
  obtain ⟨h1, h2, h3, h4, h5, h6, h7, h8, h9⟩ := e
  exact ⟨obB_ok (He.cls_ok h1) h6, He.mkr_ok h2, owB_ok h7, He.noat_ok h3, He.noat_ok h4, He.glo_ok inK G h5, h8, fun j hj => (h9 j hj).1, fun j hj => (h9 j hj).2⟩
end
end HB
namespace HB
open PySem PySem.Spec PyProof.Rows L2
/-! ### the head of this law -/
def qn (i : Nat) : Str := (["Show.__init__", "Add.__init__", "Call.__init__", "Give.__init__", "Either.__init__"] : List Str).getD i ""
def fileY : Str := "/claim/cut.py"
def gS (K : PySem.W.Frag) : Addr := He.ma K (cB K) "__init__"
def fnD (K : PySem.W.Frag) : Option FuncData := match K.lookup (He.ma K (cF K) "__init__") with
  | some ⟨_, _, .func fd, _⟩ => some fd
  | _ => none
def refA : Option (Option Value) → Addr
  | some (some (.ref a)) => a
  | _ => 0
def dA0 (K : PySem.W.Frag) : Addr := match fnD K with
  | some fd => (match fd.defaults with
    | .ref T => (match K.lookup T with
      | some ⟨_, _, .seq its _, _⟩ => refA (some its[0]?)
      | _ => 0)
    | _ => 0)
  | none => 0
def kA (x : Str) (K : PySem.W.Frag) : Addr := match fnD K with
  | some fd => (match fd.kwdefaults with
    | .ref D => refA (PySem.W.nsIn K D x)
    | _ => 0)
  | none => 0
def prsY : List (Addr × Str × Str) → PySem.W.Frag → Bool := fun l K => l.all fun q => prB K q.1 q.2.1 && zB K (pgA K q.1 q.2.1) q.2.2
def fnB (K : PySem.W.Frag) : Bool := (He.Fa.cls "Function").ok K && ((He.Fa.mkr "Function").ok K && ((fns.all fun f => (He.Fa.noat "Function" f).ok K) && ((He.Fa.glo "Function").ok K && (obB K (cF K) && (owB K (cF K) (fFE K) && (decide (PySem.W.kitOne K (.ref (cF K)) (.ref (cF K)) = some true) && (PySem.W.notFirst K (cF K) (.ref (cF K)) && decide (PySem.W.kitOne K (.type "str") (.ref (cF K)) = some false))))))))
theorem fnB_ok {K : PySem.W.Frag} {h : Heap} {mg : Str → Option Value} (inK : K.In h) (G : h.Ns mainGlobals mg) (e : fnB K = true) : FnC K mg := by
  unfold fnB at e
  simp only [Bool.and_eq_true, List.all_eq_true, decide_eq_true_eq] at e
  obtain ⟨h1, h2, h3, h4, h5, h6, h7, h8, h9⟩ := e
  exact ⟨obB_ok (He.cls_ok h1) h5, He.mkr_ok h2, owB_ok h6, fun f hf => He.noat_ok (h3 f hf), He.glo_ok inK G h4, h7, h8, h9⟩
def prL (K : PySem.W.Frag) : List (Addr × Str × Str) := [(cS K 0, "name", "Show.name"), (cS K 1, "name", "Add.name"), (cS K 1, "many", "Add.many"), (cS K 2, "name", "Call.name"), (cS K 2, "things", "Call.things"), (cS K 3, "name", "Give.name"), (cS K 4, "one", "Either.one"), (cS K 4, "other", "Either.other"), (cF K, "name", "Function.name"), (cF K, "parameters", "Function.parameters"), (cF K, "things", "Function.things"), (cF K, "numbers", "Function.numbers"), (cF K, "functions", "Function.functions"), (cF K, "body", "Function.body")]
def exB (K : PySem.W.Frag) : Bool := syB K && (((List.range 5).all fun i => stB K i) && (fnB K && (decide (PySem.W.kitOne K (.type "list") (.ref (cB K)) = some false) && (prsY (prL K) K && (((List.range 5).all fun i => supB K (fI K i) (cS K i) (gS K) (qn i) fileY) &&
  (etB K (dA0 K) && (etB K (kA "things" K) && (etB K (kA "numbers" K) && (etB K (kA "functions" K) && etB K (kA "body" K))))))))))
def dSI : He.DefD := ⟨("Statement", some "__init__"), "__init__", "Statement.__init__", defArgs sStat, defBody sStat, defScope sStat, [], []⟩
def dSE : He.DefD := ⟨("Statement", some "__eq__"), "__eq__", "Statement.__eq__", defArgs sEqS, defBody sEqS, defScope sEqS, [], []⟩
def dFI : He.DefD := ⟨("Function", some "__init__"), "__init__", "Function.__init__", defArgs sFun, defBody sFun, defScope sFun, [.adr dA0], [("things", .adr (kA "things")), ("numbers", .adr (kA "numbers")), ("functions", .adr (kA "functions")), ("body", .adr (kA "body"))]⟩
def dFE : He.DefD := ⟨("Function", some "__eq__"), "__eq__", "Function.__eq__", defArgs sEqF, defBody sEqF, defScope sEqF, [], []⟩
def d_tupled : He.DefD := ⟨("tupled", none), "tupled", "tupled", defArgs (top 1), defBody (top 1), defScope (top 1), [], []⟩
def d__law_pen : He.DefD := ⟨("_law_pen", none), "_law_pen", "_law_pen", defArgs (top 11), defBody (top 11), defScope (top 11), [], []⟩
def d__law_draw : He.DefD := ⟨("_law_draw", none), "_law_draw", "_law_draw", defArgs (top 12), defBody (top 12), defScope (top 12), [], []⟩
def d__law_pick : He.DefD := ⟨("_law_pick", none), "_law_pick", "_law_pick", defArgs (top 13), defBody (top 13), defScope (top 13), [], []⟩
def d__law_odd : He.DefD := ⟨("_law_odd", none), "_law_odd", "_law_odd", defArgs (top 14), defBody (top 14), defScope (top 14), [], []⟩
def d__law_listed : He.DefD := ⟨("_law_listed", none), "_law_listed", "_law_listed", defArgs (top 15), defBody (top 15), defScope (top 15), [], []⟩
def d__law_part : He.DefD := ⟨("_law_part", none), "_law_part", "_law_part", defArgs (top 16), defBody (top 16), defScope (top 16), [], []⟩
def d__law_draw_one : He.DefD := ⟨("_law_draw_one", none), "_law_draw_one", "_law_draw_one", defArgs (top 17), defBody (top 17), defScope (top 17), [], []⟩
def d__law_is_right : He.DefD := ⟨("_law_is_right", none), "_law_is_right", "_law_is_right", defArgs (top 18), defBody (top 18), defScope (top 18), [], []⟩
def d__law_function_right : He.DefD := ⟨("_law_function_right", none), "_law_function_right", "_law_function_right", defArgs (top 19), defBody (top 19), defScope (top 19), [], []⟩
def d_law : He.DefD := ⟨("law", none), "law", "law", defArgs (top 20), defBody (top 20), defScope (top 20), [], []⟩
def fnY0 : List He.DefD := [dSI, dSE, dFI, dFE, d_tupled, d__law_pen, d__law_draw, d__law_pick, d__law_odd, d__law_listed, d__law_part, d__law_draw_one, d__law_is_right, d__law_function_right]
def fnY1 : List He.DefD := [d_law]
def fnY : List He.DefD := fnY0 ++ fnY1
def zI0 : ZD := ⟨fun K => fI K 0, "__init__", "Show.__init__", defArgs sShow, defBody sShow, defScope sShow, ["__class__"]⟩
def zI1 : ZD := ⟨fun K => fI K 1, "__init__", "Add.__init__", defArgs sAdd, defBody sAdd, defScope sAdd, ["__class__"]⟩
def zI2 : ZD := ⟨fun K => fI K 2, "__init__", "Call.__init__", defArgs sCall, defBody sCall, defScope sCall, ["__class__"]⟩
def zI3 : ZD := ⟨fun K => fI K 3, "__init__", "Give.__init__", defArgs sGive, defBody sGive, defScope sGive, ["__class__"]⟩
def zI4 : ZD := ⟨fun K => fI K 4, "__init__", "Either.__init__", defArgs sEither, defBody sEither, defScope sEither, ["__class__"]⟩
def zShow_name : ZD := ⟨fun K => pgA K (cS K 0) "name", "name", "Show.name", defArgs sShow_name, defBody sShow_name, defScope sShow_name, []⟩
def zAdd_name : ZD := ⟨fun K => pgA K (cS K 1) "name", "name", "Add.name", defArgs sAdd_name, defBody sAdd_name, defScope sAdd_name, []⟩
def zAdd_many : ZD := ⟨fun K => pgA K (cS K 1) "many", "many", "Add.many", defArgs sAdd_many, defBody sAdd_many, defScope sAdd_many, []⟩
def zCall_name : ZD := ⟨fun K => pgA K (cS K 2) "name", "name", "Call.name", defArgs sCall_name, defBody sCall_name, defScope sCall_name, []⟩
def zCall_things : ZD := ⟨fun K => pgA K (cS K 2) "things", "things", "Call.things", defArgs sCall_things, defBody sCall_things, defScope sCall_things, []⟩
def zGive_name : ZD := ⟨fun K => pgA K (cS K 3) "name", "name", "Give.name", defArgs sGive_name, defBody sGive_name, defScope sGive_name, []⟩
def zEither_one : ZD := ⟨fun K => pgA K (cS K 4) "one", "one", "Either.one", defArgs sEither_one, defBody sEither_one, defScope sEither_one, []⟩
def zEither_other : ZD := ⟨fun K => pgA K (cS K 4) "other", "other", "Either.other", defArgs sEither_other, defBody sEither_other, defScope sEither_other, []⟩
def zFun_name : ZD := ⟨fun K => pgA K (cF K) "name", "name", "Function.name", defArgs sFun_name, defBody sFun_name, defScope sFun_name, []⟩
def zFun_parameters : ZD := ⟨fun K => pgA K (cF K) "parameters", "parameters", "Function.parameters", defArgs sFun_parameters, defBody sFun_parameters, defScope sFun_parameters, []⟩
def zFun_things : ZD := ⟨fun K => pgA K (cF K) "things", "things", "Function.things", defArgs sFun_things, defBody sFun_things, defScope sFun_things, []⟩
def zFun_numbers : ZD := ⟨fun K => pgA K (cF K) "numbers", "numbers", "Function.numbers", defArgs sFun_numbers, defBody sFun_numbers, defScope sFun_numbers, []⟩
def zFun_functions : ZD := ⟨fun K => pgA K (cF K) "functions", "functions", "Function.functions", defArgs sFun_functions, defBody sFun_functions, defScope sFun_functions, []⟩
def zFun_body : ZD := ⟨fun K => pgA K (cF K) "body", "body", "Function.body", defArgs sFun_body, defBody sFun_body, defScope sFun_body, []⟩
def zsY0 : List ZD := [zI0, zI1, zI2, zI3, zI4, zShow_name, zAdd_name, zAdd_many, zCall_name, zCall_things, zGive_name, zEither_one, zEither_other, zFun_name, zFun_parameters, zFun_things, zFun_numbers, zFun_functions, zFun_body]
def zsY : List ZD := zsY0
def faY : List He.Fa := [.glo "Statement", .glo "tupled", .glo "_law_pen", .glo "_law_draw", .glo "_law_pick", .glo "_law_odd", .glo "_law_listed", .glo "_law_part", .glo "_law_draw_one", .glo "_law_is_right", .glo "_law_function_right", .glo "law", .free "len", .free "int", .free "abs", .free "list", .free "isinstance", .free "tuple", .free "repr", .free "range", .free "super"]
def namesY0 : List Str := ["tupled", "Statement", "Show", "Add", "Call", "Give", "Either", "Function", "_law_pen", "_law_draw", "_law_pick", "_law_odd", "_law_listed", "_law_part", "_law_draw_one", "_law_is_right", "_law_function_right"]
def namesY : List Str := namesY0
abbrev RY : PySem.W.OpenRow := PySem.W.OpenLaw.row PySem.Challenge.rw_heldby_k01_statements_and_functions_as_v
abbrev hkY : PySem.W.Hook := hookZ 6 faY fnY zsY exB
def obY (s : PySem.W.SharedT) : AlZ := obsZ 6 faY fnY zsY exB (HandSHeadRun.getT s)
theorem obY_eq (s : PySem.W.SharedT) : obY s = hkY.obs s.abs := obsZ_eq (HandSHeadRun.getT_eq s)
theorem runY (w : World) : HandSHeadRun.RunEq RY (PySem.W.view RY.prog [20]) hkY obY 8000 namesY w := by
  intro os
  kernel_rfl
end HB
namespace HB
open PySem PySem.Spec PyProof.Rows L2 NdefX
theorem facts {P : Program} {w : World} {K : PySem.W.Frag} {h : Heap} {mg : Str → Option Value} {f : Addr} (hfile : ((P.main.file : Str) == fileY) = true) (htop : (P.main.scope.names.lookup ("super" : Str)).isSome = false) (X : K.In h) (G : h.Ns mainGlobals mg) (hfa : mg ("law" : Str) = some (.ref f)) (c : He.SaysD faY fnY K) (ex : exB K = true) (zs : (zsY.map fun z => zW K (z.adr K)) = zsY.map ZD.val) :
    ∃ fd : FuncData, (∀ (s : Shared) (v : Value), BindsTo s fd ⟨[v], []⟩ [("_law_script", v)]) ∧ ∀ base : Heap, K.In base → base.Ns mainGlobals mg → FnG P w K mg base CX0 7 f fd ["_law_script"] (spLaw K) := by
  unfold exB at ex
  simp only [Bool.and_eq_true, List.all_eq_true, List.mem_range, decide_eq_true_eq] at ex
  obtain ⟨x1, x2, x3, x4, x5, x6, t0, t1, t2, t3, t4⟩ := ex
  have Sy := syB_ok x1
  have T : ∀ i, i < 5 → StC K mg i := fun i hi => stB_ok X G (x2 i hi)
  have TF : FnC K mg := fnB_ok X G x3
  have pr : ∀ q ∈ prL K, prB K q.1 q.2.1 = true ∧ zB K (pgA K q.1 q.2.1) q.2.2 = true := fun q hq => by
    have z := List.all_eq_true.mp x5 q hq
    rwa [Bool.and_eq_true] at z
  have f_len := He.free_ok X G (c.fact 12 (f := .free "len") rfl)
  have f_int := He.free_ok X G (c.fact 13 (f := .free "int") rfl)
  have f_abs := He.free_ok X G (c.fact 14 (f := .free "abs") rfl)
  have f_list := He.free_ok X G (c.fact 15 (f := .free "list") rfl)
  have f_isinstance := He.free_ok X G (c.fact 16 (f := .free "isinstance") rfl)
  have f_tuple := He.free_ok X G (c.fact 17 (f := .free "tuple") rfl)
  have f_repr := He.free_ok X G (c.fact 18 (f := .free "repr") rfl)
  have f_range := He.free_ok X G (c.fact 19 (f := .free "range") rfl)
  have f_super := He.free_ok X G (c.fact 20 (f := .free "super") rfl)
  have B : Blt mg := { len := f_len, int := f_int, abs := f_abs, list := f_list }
  have mS := He.glo_ok X G (c.fact 0 (f := .glo "Statement") rfl)
  obtain ⟨dtupled, Ftupled⟩ := c.def_ 4 (d := d_tupled) rfl
  have mtupled := He.glo_ok X G (c.fact 1 (f := .glo "tupled") rfl)
  have btupled : Binds K dtupled ["value"] [] := Ftupled.bindsN fun _ _ _ _ _ _ us hl => match us, hl with | [_], _ => rfl
  obtain ⟨dpen, Fpen⟩ := c.def_ 5 (d := d__law_pen) rfl
  have mpen := He.glo_ok X G (c.fact 2 (f := .glo "_law_pen") rfl)
  have bpen : Binds K dpen ["_law_script"] [] := Fpen.bindsN fun _ _ _ _ _ _ us hl => match us, hl with | [_], _ => rfl
  obtain ⟨ddraw, Fdraw⟩ := c.def_ 6 (d := d__law_draw) rfl
  have mdraw := He.glo_ok X G (c.fact 3 (f := .glo "_law_draw") rfl)
  have bdraw : Binds K ddraw ["_law_pen_here", "_law_many"] [] := Fdraw.bindsN fun _ _ _ _ _ _ us hl => match us, hl with | [_, _], _ => rfl
  obtain ⟨dpick, Fpick⟩ := c.def_ 7 (d := d__law_pick) rfl
  have mpick := He.glo_ok X G (c.fact 4 (f := .glo "_law_pick") rfl)
  have bpick : Binds K dpick ["_law_pen_here", "_law_options"] [] := Fpick.bindsN fun _ _ _ _ _ _ us hl => match us, hl with | [_, _], _ => rfl
  obtain ⟨dodd, Fodd⟩ := c.def_ 8 (d := d__law_odd) rfl
  have modd := He.glo_ok X G (c.fact 5 (f := .glo "_law_odd") rfl)
  have bodd : Binds K dodd ["_law_pen_here"] [] := Fodd.bindsN fun _ _ _ _ _ _ us hl => match us, hl with | [_], _ => rfl
  obtain ⟨dlisted, Flisted⟩ := c.def_ 9 (d := d__law_listed) rfl
  have mlisted := He.glo_ok X G (c.fact 6 (f := .glo "_law_listed") rfl)
  have blisted : Binds K dlisted ["_law_value"] [] := Flisted.bindsN fun _ _ _ _ _ _ us hl => match us, hl with | [_], _ => rfl
  obtain ⟨dpart, Fpart⟩ := c.def_ 10 (d := d__law_part) rfl
  have mpart := He.glo_ok X G (c.fact 7 (f := .glo "_law_part") rfl)
  have bpart : Binds K dpart ["_law_dice"] [] := Fpart.bindsN fun _ _ _ _ _ _ us hl => match us, hl with | [_], _ => rfl
  obtain ⟨ddraw_one, Fdraw_one⟩ := c.def_ 11 (d := d__law_draw_one) rfl
  have mdraw_one := He.glo_ok X G (c.fact 8 (f := .glo "_law_draw_one") rfl)
  have bdraw_one : Binds K ddraw_one ["_law_dice"] [] := Fdraw_one.bindsN fun _ _ _ _ _ _ us hl => match us, hl with | [_], _ => rfl
  obtain ⟨dis_right, Fis_right⟩ := c.def_ 12 (d := d__law_is_right) rfl
  have mis_right := He.glo_ok X G (c.fact 9 (f := .glo "_law_is_right") rfl)
  have bis_right : Binds K dis_right ["_law_piece", "_law_word", "_law_due"] [] := Fis_right.bindsN fun _ _ _ _ _ _ us hl => match us, hl with | [_, _, _], _ => rfl
  obtain ⟨dfunction_right, Ffunction_right⟩ := c.def_ 13 (d := d__law_function_right) rfl
  have mfunction_right := He.glo_ok X G (c.fact 10 (f := .glo "_law_function_right") rfl)
  have bfunction_right : Binds K dfunction_right ["_law_dice"] [] := Ffunction_right.bindsN fun _ _ _ _ _ _ us hl => match us, hl with | [_], _ => rfl
  obtain ⟨dsi, Fsi⟩ := c.def_ 0 (d := dSI) rfl
  have bsi : Binds K dsi ["self", "kind", "parts"] [] := Fsi.bindsN fun _ _ _ _ _ _ us hl => match us, hl with | [_, _, _], _ => rfl
  obtain ⟨dse, Fse⟩ := c.def_ 1 (d := dSE) rfl
  have bse : Binds K dse ["self", "other"] [] := Fse.bindsN fun _ _ _ _ _ _ us hl => match us, hl with | [_, _], _ => rfl
  obtain ⟨dfi, Ffi⟩ := c.def_ 2 (d := dFI) rfl
  obtain ⟨dfe, Ffe⟩ := c.def_ 3 (d := dFE) rfl
  have bfe : Binds K dfe ["self", "other"] [] := Ffe.bindsN fun _ _ _ _ _ _ us hl => match us, hl with | [_, _], _ => rfl
  obtain ⟨fd, F⟩ := c.def_ 14 (d := d_law) rfl
  have e := hfa.symm.trans (He.glo_ok X G (c.fact 11 (f := .glo "law") rfl))
  cases e
  have b := FunD.bindsA (ps := ["_law_script"]) F fun _ _ _ _ _ _ us hl => match us, hl with | [_], _ => rfl
  refine ⟨fd, fun s v => b s [v] rfl, fun base _ _ => ?_⟩
  have oktup : FnOk P w K mg base CX0 1 _ dtupled ["value"] (spTup K) := ok_tupled Ftupled f_isinstance f_tuple f_list
  have oktupL : FnOk P w K mg base CX0 1 _ dtupled ["value"] (spTupL K) := ok_tupledL Ftupled f_isinstance f_tuple f_list
  have oklst : FnOk P w K mg base CX0 1 _ dlisted ["_law_value"] (spTup K) := ok__law_listed Flisted f_isinstance f_tuple f_list
  have okst : FnOk P w K mg base CX0 2 _ dsi ["self", "kind", "parts"] (spStat K) := (okStat Fsi).mono (by decide)
  have okdrw : FnOk P w K mg base CX0 1 _ ddraw ["_law_pen_here", "_law_many"] spDraw := ok_draw Fdraw B
  have okpck : FnOk P w K mg base CX0 2 _ dpick ["_law_pen_here", "_law_options"] (spPick K) := ok_pick Fpick B okdrw mdraw Fdraw.kp bdraw
  obtain ⟨cl0, cA0, do0, pm0, ct0, Y0, lk0⟩ := supB_ok (z := zI0) (zAt zs 0 (z := zI0) rfl) rfl (x6 0 (by decide))
  have ok0 := okShow (P := P) (w := w) (mg := mg) (base := base) Y0 lk0 hfile htop f_super okst bsi (T 0 (by decide)).ob.cls (T 0 (by decide)).nk (T 0 (by decide)).np
  have bi0 : Binds K (NF.fd (nfShow cl0 cA0) do0 pm0 ct0) ["self", "name"] [] := Binds.all fun us hl => match us, hl with | [_, _], _ => rfl
  obtain ⟨cl1, cA1, do1, pm1, ct1, Y1, lk1⟩ := supB_ok (z := zI1) (zAt zs 1 (z := zI1) rfl) rfl (x6 1 (by decide))
  have ok1 := okAdd (P := P) (w := w) (mg := mg) (base := base) Y1 lk1 hfile htop f_super okst bsi (T 1 (by decide)).ob.cls (T 1 (by decide)).nk (T 1 (by decide)).np
  have bi1 : Binds K (NF.fd (nfAdd cl1 cA1) do1 pm1 ct1) ["self", "name", "many"] [] := Binds.all fun us hl => match us, hl with | [_, _, _], _ => rfl
  obtain ⟨cl2, cA2, do2, pm2, ct2, Y2, lk2⟩ := supB_ok (z := zI2) (zAt zs 2 (z := zI2) rfl) rfl (x6 2 (by decide))
  have ok2 := okCall (P := P) (w := w) (mg := mg) (base := base) Y2 lk2 hfile htop f_super okst bsi (T 2 (by decide)).ob.cls (T 2 (by decide)).nk (T 2 (by decide)).np oktup mtupled Ftupled.kp btupled
  have bi2 : Binds K (NF.fd (nfCall cl2 cA2) do2 pm2 ct2) ["self", "name", "things"] [] := Binds.all fun us hl => match us, hl with | [_, _, _], _ => rfl
  obtain ⟨cl3, cA3, do3, pm3, ct3, Y3, lk3⟩ := supB_ok (z := zI3) (zAt zs 3 (z := zI3) rfl) rfl (x6 3 (by decide))
  have ok3 := okGive (P := P) (w := w) (mg := mg) (base := base) Y3 lk3 hfile htop f_super okst bsi (T 3 (by decide)).ob.cls (T 3 (by decide)).nk (T 3 (by decide)).np
  have bi3 : Binds K (NF.fd (nfGive cl3 cA3) do3 pm3 ct3) ["self", "name"] [] := Binds.all fun us hl => match us, hl with | [_, _], _ => rfl
  obtain ⟨cl4, cA4, do4, pm4, ct4, Y4, lk4⟩ := supB_ok (z := zI4) (zAt zs 4 (z := zI4) rfl) rfl (x6 4 (by decide))
  have ok4 := okEither (P := P) (w := w) (mg := mg) (base := base) Y4 lk4 hfile htop f_super okst bsi (T 4 (by decide)).ob.cls (T 4 (by decide)).nk (T 4 (by decide)).np oktup mtupled Ftupled.kp btupled
  have bi4 : Binds K (NF.fd (nfEither cl4 cA4) do4 pm4 ct4) ["self", "one", "other"] [] := Binds.all fun us hl => match us, hl with | [_, _, _], _ => rfl
  have ok4b := okEither2 (P := P) (w := w) (mg := mg) (base := base) Y4 lk4 hfile htop f_super okst bsi (T 4 (by decide)).ob.cls (T 4 (by decide)).nk (T 4 (by decide)).np oktup oktupL mtupled Ftupled.kp btupled
  have M : Mks P w K mg base := ⟨⟨_, ok0, bi0⟩, ⟨_, ok1, bi1⟩, ⟨_, ok2, bi2⟩, ⟨_, ok3, bi3⟩, ⟨_, ok4, bi4⟩⟩
  have pShow_name : Prp P w K mg base (cS K 0) "name" (spPart K 0) := by
    have q := pr (cS K 0, "name", "Show.name") (by unfold prL; simp)
    obtain ⟨gd, GF⟩ := zFun (z := zShow_name) (zAt zs 5 (z := zShow_name) rfl) rfl q.2
    exact ⟨_, _, gd, prB_ok q.1, okShow_name GF, GF.bindsN fun _ _ _ _ _ _ us hl => match us, hl with | [_], _ => rfl⟩
  have pAdd_name : Prp P w K mg base (cS K 1) "name" (spPart K 0) := by
    have q := pr (cS K 1, "name", "Add.name") (by unfold prL; simp)
    obtain ⟨gd, GF⟩ := zFun (z := zAdd_name) (zAt zs 6 (z := zAdd_name) rfl) rfl q.2
    exact ⟨_, _, gd, prB_ok q.1, okAdd_name GF, GF.bindsN fun _ _ _ _ _ _ us hl => match us, hl with | [_], _ => rfl⟩
  have pAdd_many : Prp P w K mg base (cS K 1) "many" (spPart K 1) := by
    have q := pr (cS K 1, "many", "Add.many") (by unfold prL; simp)
    obtain ⟨gd, GF⟩ := zFun (z := zAdd_many) (zAt zs 7 (z := zAdd_many) rfl) rfl q.2
    exact ⟨_, _, gd, prB_ok q.1, okAdd_many GF, GF.bindsN fun _ _ _ _ _ _ us hl => match us, hl with | [_], _ => rfl⟩
  have pCall_name : Prp P w K mg base (cS K 2) "name" (spPart K 0) := by
    have q := pr (cS K 2, "name", "Call.name") (by unfold prL; simp)
    obtain ⟨gd, GF⟩ := zFun (z := zCall_name) (zAt zs 8 (z := zCall_name) rfl) rfl q.2
    exact ⟨_, _, gd, prB_ok q.1, okCall_name GF, GF.bindsN fun _ _ _ _ _ _ us hl => match us, hl with | [_], _ => rfl⟩
  have pCall_things : Prp P w K mg base (cS K 2) "things" (spPart K 1) := by
    have q := pr (cS K 2, "things", "Call.things") (by unfold prL; simp)
    obtain ⟨gd, GF⟩ := zFun (z := zCall_things) (zAt zs 9 (z := zCall_things) rfl) rfl q.2
    exact ⟨_, _, gd, prB_ok q.1, okCall_things GF, GF.bindsN fun _ _ _ _ _ _ us hl => match us, hl with | [_], _ => rfl⟩
  have pGive_name : Prp P w K mg base (cS K 3) "name" (spPart K 0) := by
    have q := pr (cS K 3, "name", "Give.name") (by unfold prL; simp)
    obtain ⟨gd, GF⟩ := zFun (z := zGive_name) (zAt zs 10 (z := zGive_name) rfl) rfl q.2
    exact ⟨_, _, gd, prB_ok q.1, okGive_name GF, GF.bindsN fun _ _ _ _ _ _ us hl => match us, hl with | [_], _ => rfl⟩
  have pEither_one : Prp P w K mg base (cS K 4) "one" (spPart K 0) := by
    have q := pr (cS K 4, "one", "Either.one") (by unfold prL; simp)
    obtain ⟨gd, GF⟩ := zFun (z := zEither_one) (zAt zs 11 (z := zEither_one) rfl) rfl q.2
    exact ⟨_, _, gd, prB_ok q.1, okEither_one GF, GF.bindsN fun _ _ _ _ _ _ us hl => match us, hl with | [_], _ => rfl⟩
  have pEither_other : Prp P w K mg base (cS K 4) "other" (spPart K 1) := by
    have q := pr (cS K 4, "other", "Either.other") (by unfold prL; simp)
    obtain ⟨gd, GF⟩ := zFun (z := zEither_other) (zAt zs 12 (z := zEither_other) rfl) rfl q.2
    exact ⟨_, _, gd, prB_ok q.1, okEither_other GF, GF.bindsN fun _ _ _ _ _ _ us hl => match us, hl with | [_], _ => rfl⟩
  have pFun_name : Prp P w K mg base (cF K) "name" (spFd K "own_name") := by
    have q := pr (cF K, "name", "Function.name") (by unfold prL; simp)
    obtain ⟨gd, GF⟩ := zFun (z := zFun_name) (zAt zs 13 (z := zFun_name) rfl) rfl q.2
    exact ⟨_, _, gd, prB_ok q.1, okFun_name GF, GF.bindsN fun _ _ _ _ _ _ us hl => match us, hl with | [_], _ => rfl⟩
  have pFun_parameters : Prp P w K mg base (cF K) "parameters" (spFd K "own_parameters") := by
    have q := pr (cF K, "parameters", "Function.parameters") (by unfold prL; simp)
    obtain ⟨gd, GF⟩ := zFun (z := zFun_parameters) (zAt zs 14 (z := zFun_parameters) rfl) rfl q.2
    exact ⟨_, _, gd, prB_ok q.1, okFun_parameters GF, GF.bindsN fun _ _ _ _ _ _ us hl => match us, hl with | [_], _ => rfl⟩
  have pFun_things : Prp P w K mg base (cF K) "things" (spFd K "own_things") := by
    have q := pr (cF K, "things", "Function.things") (by unfold prL; simp)
    obtain ⟨gd, GF⟩ := zFun (z := zFun_things) (zAt zs 15 (z := zFun_things) rfl) rfl q.2
    exact ⟨_, _, gd, prB_ok q.1, okFun_things GF, GF.bindsN fun _ _ _ _ _ _ us hl => match us, hl with | [_], _ => rfl⟩
  have pFun_numbers : Prp P w K mg base (cF K) "numbers" (spFd K "own_numbers") := by
    have q := pr (cF K, "numbers", "Function.numbers") (by unfold prL; simp)
    obtain ⟨gd, GF⟩ := zFun (z := zFun_numbers) (zAt zs 16 (z := zFun_numbers) rfl) rfl q.2
    exact ⟨_, _, gd, prB_ok q.1, okFun_numbers GF, GF.bindsN fun _ _ _ _ _ _ us hl => match us, hl with | [_], _ => rfl⟩
  have pFun_functions : Prp P w K mg base (cF K) "functions" (spFd K "own_functions") := by
    have q := pr (cF K, "functions", "Function.functions") (by unfold prL; simp)
    obtain ⟨gd, GF⟩ := zFun (z := zFun_functions) (zAt zs 17 (z := zFun_functions) rfl) rfl q.2
    exact ⟨_, _, gd, prB_ok q.1, okFun_functions GF, GF.bindsN fun _ _ _ _ _ _ us hl => match us, hl with | [_], _ => rfl⟩
  have pFun_body : Prp P w K mg base (cF K) "body" (spFd K "own_body") := by
    have q := pr (cF K, "body", "Function.body") (by unfold prL; simp)
    obtain ⟨gd, GF⟩ := zFun (z := zFun_body) (zAt zs 18 (z := zFun_body) rfl) rfl q.2
    exact ⟨_, _, gd, prB_ok q.1, okFun_body GF, GF.bindsN fun _ _ _ _ _ _ us hl => match us, hl with | [_], _ => rfl⟩
  have R : Prps P w K mg base := ⟨fun i hi => match i, hi with | 0, _ => pShow_name | 1, _ => pAdd_name | 2, _ => pCall_name | 3, _ => pGive_name | n + 4, h => absurd h (by omega), pAdd_many, pCall_things, pEither_one, pEither_other⟩
  have RF : PrpF P w K mg base := ⟨pFun_name, pFun_parameters, pFun_things, pFun_numbers, pFun_functions, pFun_body⟩
  have D : Drw P w K mg base := ⟨⟨_, _, ok_odd Fodd okpck mpick Fpick.kp bpick, modd, Fodd.kp, bodd⟩, ⟨_, _, okpck, mpick, Fpick.kp, bpick⟩, ⟨_, _, okdrw, mdraw, Fdraw.kp, bdraw⟩⟩
  have Pt : ∃ f fd, FnOk P w K mg base CX0 4 f fd ["_law_dice"] (spW (InR K partD) 2 (2 ^ 38)) ∧ mg "_law_part" = some (.ref f) ∧ PySem.W.keepIn K (.ref f) = true ∧ Binds K fd ["_law_dice"] [] := ⟨_, _, ok_part Fpart D, mpart, Fpart.kp, bpart⟩
  have Ls : ∃ f fd, FnOk P w K mg base CX0 1 f fd ["_law_value"] (spTup K) ∧ mg "_law_listed" = some (.ref f) ∧ PySem.W.keepIn K (.ref f) = true ∧ Binds K fd ["_law_value"] [] := ⟨_, _, oklst, mlisted, Flisted.kp, blisted⟩
  have hex : ∀ G, Dqs K G [V.ref (dA0 K), .ref (kA "things" K), .ref (kA "numbers" K), .ref (kA "functions" K), .ref (kA "body" K)] [.tuple [], .tuple [], .tuple [], .tuple [], .tuple []] := fun G => .cons (.tup (etB_ok t0 G) .nil) (.cons (.tup (etB_ok t1 G) .nil) (.cons (.tup (etB_ok t2 G) .nil) (.cons (.tup (etB_ok t3 G) .nil) (.cons (.tup (etB_ok t4 G) .nil) .nil))))
  have okfi : FnOk P w K mg base CX0 2 (He.ma K (cF K) "__init__") dfi psF (spFun K (cF K)) := okFun Ffi TF oktup mtupled Ftupled.kp btupled
  have okfe : FnOk P w K mg base CX0 1 (fFE K) dfe ["self", "other"] (spEqF K) := okEqF Ffe TF f_isinstance
  have okse : FnOk P w K mg base CX0 1 (fE K) dse ["self", "other"] (spEqS K) := okEqS Fse T f_isinstance mS
  refine ok_law F Sy T M R ⟨⟨_, _, ok_pen Fpen B, mpen, Fpen.kp, bpen⟩, ⟨_, _, ok_one Fdraw_one D T M Pt Ls, mdraw_one, Fdraw_one.kp, bdraw_one⟩, ⟨_, _, ok_right Fis_right Sy T R f_isinstance f_repr mS, mis_right, Fis_right.kp, bis_right⟩, ⟨_, _, ok_fr Ffunction_right Sy TF RF f_repr f_range Pt Ls Ffi okfi hex okfe bfe, mfunction_right, Ffunction_right.kp, bfunction_right⟩, ⟨_, okse, bse⟩, ⟨_, ok4b, bi4⟩⟩ f_repr f_range x4
end HB
open PySem PySem.W PySem.Calls PyProof.Rows
theorem PySem.Challenge.cw_heldby_k01_statements_and_functions_as_v_holds : PySem.Challenge.rw_heldby_k01_statements_and_functions_as_v.Holds := by
  w_on; o_law
  refine HandSHeadRun.head_any (r := OpenLaw.row PySem.Challenge.rw_heldby_k01_statements_and_functions_as_v) (q := view (OpenLaw.row PySem.Challenge.rw_heldby_k01_statements_and_functions_as_v).prog [20]) (H := HB.hkY) (ob := HB.obY) (M := 8000) (loose := HB.namesY) (d := HandSHeadRun.topDef (OpenLaw.row PySem.Challenge.rw_heldby_k01_statements_and_functions_as_v).prog 20) (kwd := []) HB.obY_eq
    (by kernel_rfl) (fun s => by kernel_rfl) HB.runY (by kernel_rfl) (by kernel_rfl) (by kernel_rfl) (by rfl) (by first | assumption | decide +kernel) (by decide +kernel) ⟨rfl, rfl, rfl, rfl, rfl, by decide +kernel⟩ ?hw ?hc
  case hw => w_witness2
  case hc =>
    refine HB.walkG (l := PySem.Challenge.rw_heldby_k01_statements_and_functions_as_v) (n := 63) (k := 7) (x := "_law_script") rfl (by decide) (by kernel_rfl) ⟨rfl, by decide, by decide⟩ ?F
    intro w mg fa h Y G hmg0
    obtain ⟨K, KX, c, ex, zs⟩ := Y
    have hmg : mg ("law" : PySem.Str) = some (.ref fa) := by
      have e : (HandSHeadRun.topDef (OpenLaw.row PySem.Challenge.rw_heldby_k01_statements_and_functions_as_v).prog 20).name = ("law" : PySem.Str) := by kernel_rfl
      rw [← e]
      exact hmg0
    obtain ⟨fd, hb, hF⟩ := HB.facts (P := (PySem.Challenge.rw_heldby_k01_statements_and_functions_as_v).prog) (w := w) (by kernel_rfl) (by kernel_rfl) KX G hmg c.d ex zs
    exact ⟨K, fd, HB.spLaw K, KX, hb, fun H a ns hl _ hS => ⟨a, ns, rfl, hS, hl, fun _ => rfl⟩, hF⟩
