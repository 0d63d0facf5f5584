import PyProof.Rows.All
import Wide.All
import OpenK.AllK
import Wide.FinOn
import HandS.ForMost
import HandS.Defaults
import HandS.Evl
import PySem.Challenge.RW_heldby_k00_errors_made_from_their_fields
import HandS.HeadEnd
import HandS.ExcInit
import HandS.IsInst
import HandS.ExcIs
import HandS.ExcField
import HandS.HeadHook1
import HandS.HeadHook2
import HandS.HeadHook3
import HandS.HeadHook4
import KE.KStateDown
import HandS.Head0
import HandS.Head1
import HandS.Head2
import HandS.Words
set_option Elab.async false
set_option linter.all false
set_option maxRecDepth 100000
set_option maxHeartbeats 0
namespace HB
open PySem PySem.Spec PyProof.Rows L2 Evl
def top (i : Nat) : Stmt := PySem.Challenge.pw_heldby_k00_errors_made_from_their_fields.main.body.getD i (.Pass ⟨0, 0, 0, 0⟩)
abbrev FnP (K : PySem.W.Frag) (x : Str) (st : Stmt) (f : Addr) (fd : FuncData) : Prop := FunD K x x (defArgs st) (defBody st) (defScope st) [] [] f fd
abbrev s_pen : Stmt := top 35
abbrev s_draw : Stmt := top 36
abbrev s_pick : Stmt := top 37
/-! ### the pen -/
abbrev kC : Key := Sum.inr "cells"
abbrev kB : Key := Sum.inr "begun"
abbrev kR : Key := Sum.inr "rest"
/-- the pen's dict -/
def penD (c : Addr) (b r : Int) : HO := .dK [(kC, .ref c), (kB, .int b), (kR, .int r)]
def penL (c : Addr) (b r : Int) : List (Key × V) := [(kC, .ref c), (kB, .int b), (kR, .int r)]
theorem scb : ¬ ((Str.ofString "cells") = Str.ofString "begun") := by decide +kernel
theorem scr : ¬ ((Str.ofString "cells") = Str.ofString "rest") := by decide +kernel
theorem sbr : ¬ ((Str.ofString "begun") = Str.ofString "rest") := by decide +kernel
theorem srb : ¬ ((Str.ofString "rest") = Str.ofString "begun") := by decide +kernel
theorem ncb : ¬ (kC = kB) := by decide +kernel
theorem ncr : ¬ (kC = kR) := by decide +kernel
theorem nbr : ¬ (kB = kR) := by decide +kernel
theorem nrb : ¬ (kR = kB) := by decide +kernel
theorem val_c (c : Addr) (b r : Int) : valV (penL c b r) kC = some (.ref c) := valV_pos rfl
theorem val_b (c : Addr) (b r : Int) : valV (penL c b r) kB = some (.int b) := (valV_neg ncb).trans (valV_pos rfl)
theorem val_r (c : Addr) (b r : Int) : valV (penL c b r) kR = some (.int r) := (valV_neg ncr).trans ((valV_neg nbr).trans (valV_pos rfl))
theorem put_b (c : Addr) (b r z : Int) : putK (penL c b r) kB (.int z) = penL c z r := by
  unfold putK penL
  simp [scb, srb]
theorem put_r (c : Addr) (b r z : Int) : putK (penL c b r) kR (.int z) = penL c b z := by
  unfold putK penL
  simp [scr, sbr]
/-- a pen at p: its cells at c (the ints ns), fewer than n cells begun -/
structure Pen (H : Hp) (p c : Addr) (ns : List Int) (n : Nat) : Prop where
  at_ : ∃ b r : Int, H p = some (penD c b r) ∧ 0 ≤ b ∧ b ≤ n ∧ 0 ≤ r
  cells : H c = some (.lst (ns.map V.int))
  few : ns.length ≤ 63
theorem Pen.ne {H : Hp} {p c : Addr} {ns : List Int} {n : Nat} (h : Pen H p c ns n) : p ≠ c := by
  obtain ⟨b, r, e, _⟩ := h.at_
  exact ne_of e h.cells (by intro z; cases z)
theorem Pen.upd {H : Hp} {p c : Addr} {ns : List Int} {n m : Nat} (h : Pen H p c ns n) {b r : Int} (h0 : 0 ≤ b) (h1 : b ≤ m) (h2 : 0 ≤ r) : Pen (upd H p (penD c b r)) p c ns m :=
  ⟨⟨b, r, upd_same, h0, h1, h2⟩, by rw [upd_ne h.ne.symm]; exact h.cells, h.few⟩
theorem Pen.mono {H H' : Hp} {p c : Addr} {ns : List Int} {n m : Nat} (h : Pen H p c ns n) (e : Ex H H') (l : n ≤ m) : Pen H' p c ns m := by
  obtain ⟨b, r, e1, h0, h1, h2⟩ := h.at_
  exact ⟨⟨b, r, e _ _ e1, h0, by omega, h2⟩, e _ _ h.cells, h.few⟩
/-- a heap that differs from H in the pen alone, and has more -/
def ExP (p : Addr) (H H' : Hp) : Prop := ∀ a o, a ≠ p → H a = some o → H' a = some o
theorem ExP.refl (p : Addr) (H : Hp) : ExP p H H := fun _ _ _ h => h
theorem ExP.trans {p : Addr} {H H1 H2 : Hp} (a : ExP p H H1) (b : ExP p H1 H2) : ExP p H H2 := fun x o n h => b x o n (a x o n h)
theorem ExP.of {p : Addr} {H H' : Hp} (e : Ex H H') : ExP p H H' := fun a o _ h => e a o h
theorem ExP.pen {p : Addr} {H : Hp} {o : HO} : ExP p H (upd H p o) := fun a u n h => by rw [upd_ne n]; exact h
def spDraw : Sp := fun vs H Q _ => ∃ (p c : Addr) (ns : List Int) (n : Nat) (m : Int), vs = [.ref p, .int m] ∧ Pen H p c ns n ∧ n < 2 ^ 40 ∧ 0 < m ∧ m < 1073741824 ∧
  ∀ (r b r' : Int), 0 ≤ r → r < m → 0 ≤ b → b ≤ ((n + 1 : Nat) : Int) → 0 ≤ r' → Q (.int r) (upd H p (penD c b r'))
/-- the names that are built-in here -/
structure Blt (mg : Str → Option Value) : Prop where
  len : mg "len" = none
  int : mg "int" = none
  abs : mg "abs" = none
  list : mg "list" = none
section
variable {P : Program} {w : World} {K : PySem.W.Frag} {mg : Str → Option Value} {base : Heap}
theorem sc_draw : FnScope ["_law_pen_here", "_law_many", "_law_digit", "_law_spot", "_law_size", "_law_cell", "_law_mixed"] ["_law_pen_here", "_law_many"] (defScope s_draw) := ⟨rfl, rfl, rfl, by decide +kernel, rfl, by decide +kernel, by decide +kernel⟩
theorem ok_draw {f : Addr} {fd : FuncData} (F : FnP K "_law_draw" s_draw f fd) (T : Blt mg) : FnOk P w K mg base CX0 1 f fd ["_law_pen_here", "_law_many"] spDraw := by
  refine F.ok sc_draw (fun vs H Q E h => ?_) (fun cdv A outer s H vs Q E hr h => ?_)
  · obtain ⟨p, c, ns, n, m, rfl, _⟩ := h
    rfl
  · obtain ⟨p, c, ns, n, m, rfl, hp, hn, hm0, hm1, k⟩ := h
    have hu := hu_of hr
    have nd := sc_draw.nd
    obtain ⟨b, r, e1, hb0, hb1, hr0⟩ := hp.at_
    have ec := hp.cells
    have few := hp.few
    refine ⟨_, PSs.nox (pss_cons (ps_if (pt_cmpR op_gt (pe_dget hu (pv 0) pe_str (fun _ _ => rfl)) pe_int (nomark _))
        (pss_cons (ps_set (i := 2) nd rfl (Or.inl rfl) (pe_op op_mod (pe_callTy call_int1 (by rfl) T.int (by decide +kernel) (pa_cons (pe_dget hu (pv 0) pe_str (fun _ _ => rfl)) pa_nil)) (pv 1)))
        (pss_cons (ps_dput hu (pv 0) pe_str (pe_op op_fdiv (pe_dget hu (pv 0) pe_str (fun _ _ => rfl)) (pv 1)) rfl)
        (pss_one (ps_ret (pv 2))))) pss_nil)
      (pss_cons (ps_par (i := 3) (j := 4) (by rfl) nd rfl rfl (by decide) rfl rfl (pa_cons (pe_dget hu (pv 0) pe_str (fun _ _ => rfl)) (pa_cons (pe_callB call_len_seq (by rfl) T.len PySem.boot_len (pa_cons (pe_dget hu (pv 0) pe_str (fun _ _ => rfl)) pa_nil)) pa_nil)) (by rfl))
      (pss_cons (ps_dput hu (pv 0) pe_str (pe_op op_add (pv 3) pe_int) rfl)
      (pss_cons (ps_set (i := 5) nd rfl (Or.inl rfl) (pe_op op_add (pe_op op_mul pe_int (pv 3)) pe_int))
      (pss_cut (ps_if (pt_cmpR op_gt (pv 4) pe_int (nomark _))
        (pss_one (ps_set (i := 5) nd rfl (Or.inl rfl) (pe_ix ix_list (pe_dget hu (pv 0) pe_str (fun _ _ => rfl)) (pe_op op_mod (pe_callTy call_int1 (by rfl) T.int (by decide +kernel) (pa_cons (pv 3) pa_nil)) (pv 4)) (fun _ _ => rfl)))) pss_nil)
      (pss_cut (ps_if (PW.pt (pw_and (pt_cmpR op_lt (pv 3) (pv 4) (nomark _)) (pw_and1 (pt_cmpR op_ge (pe_callB call_abs (by rfl) T.abs (by decide +kernel) (pa_cons (pv 5) pa_nil)) (pe_op op_pow pe_int pe_int) (nomark _)))))
        (pss_cons (ps_dput hu (pv 0) pe_str (pe_op op_fdiv (pe_op op_sub (pe_callB call_abs (by rfl) T.abs (by decide +kernel) (pa_cons (pv 5) pa_nil)) (pe_op op_pow pe_int pe_int)) (pv 1)) rfl)
        (pss_one (ps_ret (pe_op op_mod (pe_op op_sub (pe_callB call_abs (by rfl) T.abs (by decide +kernel) (pa_cons (pv 5) pa_nil)) (pe_op op_pow pe_int pe_int)) (pv 1))))) pss_nil)
      (pss_cons (ps_set (i := 6) nd rfl (Or.inl rfl) (pe_op op_mod (pe_callTy call_int1 (by rfl) T.int (by decide +kernel) (pa_cons (pe_op op_add (pe_op op_add (pe_op op_mul (pe_op op_mod (pe_callTy call_int1 (by rfl) T.int (by decide +kernel) (pa_cons (pv 5) pa_nil)) pe_int) pe_int) (pe_op op_mul (pe_op op_mul pe_int (pv 3)) (pv 3))) pe_int) pa_nil)) pe_int))
      (pss_cons (ps_set (i := 6) nd rfl (Or.inl rfl) (pe_op op_mod (pe_callTy call_int1 (by rfl) T.int (by decide +kernel) (pa_cons (pe_op op_add (pe_op op_add (pe_op op_add (pe_op op_mul (pv 6) (pv 6)) (pe_op op_mul pe_int (pv 6))) (pe_op op_mul pe_int (pv 3))) pe_int) pa_nil)) pe_int))
      (pss_cons (ps_set (i := 6) nd rfl (Or.inl rfl) (pe_op op_fdiv (pe_op op_mod (pe_callTy call_int1 (by rfl) T.int (by decide +kernel) (pa_cons (pe_op op_mul (pv 6) (pe_op op_add (pv 6) pe_int)) pa_nil)) pe_int) pe_int))
      (pss_one (ps_ret (pe_op op_mod (pe_callTy call_int1 (by rfl) T.int (by decide +kernel) (pa_cons (pv 6) pa_nil)) (pv 1))))))))))))), ?_⟩
    have gR : ∀ (H' : Hp) (b r : Int), H' p = some (penD c b r) → DGet H' p (.str "rest") (some (.int r)) := fun H' b r e => by
      have z := DGet.k (k := kR) (show H' p = some (.dK (penL c b r)) from e)
      rw [val_r] at z
      exact z
    have gB : ∀ (H' : Hp) (b r : Int), H' p = some (penD c b r) → DGet H' p (.str "begun") (some (.int b)) := fun H' b r e => by
      have z := DGet.k (k := kB) (show H' p = some (.dK (penL c b r)) from e)
      rw [val_b] at z
      exact z
    have gC : ∀ (H' : Hp) (b r : Int), H' p = some (penD c b r) → DGet H' p (.str "cells") (some (.ref c)) := fun H' b r e => by
      have z := DGet.k (k := kC) (show H' p = some (.dK (penL c b r)) from e)
      rw [val_c] at z
      exact z
    have pR : ∀ (H' : Hp) (b r z : Int), H' p = some (penD c b r) → DPut H' p (.str "rest") (.int z) (upd H' p (penD c b z)) := fun H' b r z e => by
      have q := DPut.k (k := kR) (v := V.int z) (show H' p = some (.dK (penL c b r)) from e) (by show 3 < sizeLine; decide)
      rw [put_r] at q
      exact q
    have pB : ∀ (H' : Hp) (b r z : Int), H' p = some (penD c b r) → DPut H' p (.str "begun") (.int z) (upd H' p (penD c z r)) := fun H' b r z e => by
      have q := DPut.k (k := kB) (v := V.int z) (show H' p = some (.dK (penL c b r)) from e) (by show 3 < sizeLine; decide)
      rw [put_b] at q
      exact q
    have hb2 : b < 2 ^ 40 := by omega
    refine ⟨_, rfl, p, _, rfl, gR _ _ _ e1, _, _, rfl, rfl, _, rfl, ?_⟩
    refine ite2 (fun hc => ?_) (fun hc => ?_)
    · refine ⟨_, rfl, p, _, rfl, gR _ _ _ e1, .inl ⟨_, rfl, _, rfl, _, _, rfl, rfl, hm0, ?_⟩⟩
      refine ⟨_, rfl, p, _, rfl, gR _ _ _ e1, _, rfl, _, _, rfl, rfl, ⟨hm0, hm1⟩, _, rfl, p, _, rfl, pR _ _ _ _ e1, _, rfl, ?_⟩
      exact k _ _ _ (Int.emod_nonneg _ (by omega)) (Int.emod_lt_of_pos _ hm0) hb0 (by omega) (Int.ediv_nonneg hr0 (by omega))
    · refine ⟨_, rfl, p, _, rfl, gB _ _ _ e1, _, rfl, p, _, rfl, gC _ _ _ e1, c, _, rfl, .inl (SqL.of ec), _, _, rfl, ?_⟩
      refine ⟨_, rfl, _, _, rfl, rfl, _, rfl, p, _, rfl, pB _ _ _ _ e1, ?_⟩
      have e2 : upd H p (penD c (b + 1) r) p = some (penD c (b + 1) r) := upd_same
      have ec2 : upd H p (penD c (b + 1) r) c = some (.lst (ns.map V.int)) := by
        rw [upd_ne hp.ne.symm]
        exact ec
      refine ⟨_, rfl, _, _, rfl, rfl, .inl ⟨by decide, by decide⟩, _, _, rfl, rfl, ?_⟩
      have hL : ((ns.map V.int).length : Int) = (ns.length : Int) := by rw [List.length_map]
      refine ⟨fun σ' H' => ∃ z : Int, σ' = [some (.ref p), some (.int m), none, some (.int b), some (.int ((ns.map V.int).length : Int)), some (.int z), none] ∧ H' = upd H p (penD c (b + 1) r), ?_, ?_⟩
      · refine ⟨_, rfl, _, _, rfl, rfl, _, rfl, ?_⟩
        refine ite2 (fun hs => ?_) (fun hs => ⟨_, rfl, rfl⟩)
        have hs' : (0 : Int) < ((ns.map V.int).length : Int) := of_decide_eq_true hs
        have h0 : 0 ≤ b % ((ns.map V.int).length : Int) := Int.emod_nonneg _ (by omega)
        have h1 : b % ((ns.map V.int).length : Int) < ((ns.map V.int).length : Int) := Int.emod_lt_of_pos _ hs'
        obtain ⟨j, hj⟩ := Int.eq_ofNat_of_zero_le h0
        have hj1 : j < ns.length := by
          rw [hj, hL] at h1
          omega
        refine ⟨_, rfl, p, _, rfl, gC _ _ _ e2, _, rfl, .inl ⟨_, rfl, _, rfl, _, _, rfl, rfl, hs', c, _, _, .int ns[j], rfl, rfl, SqL.of ec2, ?_, ?_⟩⟩
        · rw [hj]
          exact atI_nat (by rw [List.getElem?_map, List.getElem?_eq_getElem hj1]; rfl)
        · exact ⟨_, rfl, rfl⟩
      · rintro σ' H' ⟨z, rfl, rfl⟩
        have hp18 : (0 : Int) ≤ 18 ∧ (18 : Int) ≤ 1000000 ∧ (10 : Int).natAbs < 2 ^ 64 := ⟨by decide, by decide, by decide⟩
        refine ⟨fun σ' H' => σ' = [some (.ref p), some (.int m), none, some (.int b), some (.int ((ns.map V.int).length : Int)), some (.int z), none] ∧ H' = upd H p (penD c (b + 1) r), ?_, ?_⟩
        · refine ⟨_, rfl, _, rfl, _, _, rfl, rfl, _, rfl, ?_⟩
          refine ite2 (fun h1 => ?_) (fun h1 => ?_)
          · refine ⟨_, rfl, _, rfl, _, _, rfl, rfl, hp18, _, _, rfl, rfl, _, rfl, ?_⟩
            refine ite2 (fun h2 => ?_) (fun h2 => ⟨rfl, rfl⟩)
            have h3 : (10 : Int) ^ (18 : Int).toNat ≤ (if z < 0 then -z else z) := of_decide_eq_true h2
            refine ⟨_, rfl, _, rfl, _, _, rfl, rfl, hp18, _, _, rfl, rfl, _, rfl, _, _, rfl, rfl, ⟨hm0, hm1⟩, _, rfl, p, _, rfl, pR _ _ _ _ e2, ?_⟩
            refine ⟨_, rfl, _, rfl, _, _, rfl, rfl, hp18, _, _, rfl, rfl, _, rfl, _, _, rfl, rfl, hm0, ?_⟩
            show Q _ (upd (upd H p _) p _)
            rw [upd_upd]
            exact k _ _ _ (Int.emod_nonneg _ (by omega)) (Int.emod_lt_of_pos _ hm0) (by omega) (by omega) (Int.ediv_nonneg (by omega) (by omega))
          · refine iteF ⟨rfl, rfl⟩
        · rintro σ' H' ⟨rfl, rfl⟩
          have m1 : 0 ≤ z % 4294967231 ∧ z % 4294967231 < 4294967231 := ⟨Int.emod_nonneg _ (by decide), Int.emod_lt_of_pos _ (by decide)⟩
          refine ⟨_, rfl, .inl ⟨_, rfl, _, _, rfl, rfl, (show (0 : Int) < 4294967231 by decide), _, _, rfl, rfl, .inr ⟨by decide, by decide⟩, _, rfl, _, _, rfl, rfl, .inl ⟨by decide, by decide⟩, _, rfl, _, _, rfl, rfl, .inr ⟨by omega, by omega⟩, _, _, rfl, rfl, _, _, rfl, rfl, .inl ⟨_, rfl, _, _, rfl, rfl, (show (0 : Int) < 4294967279 by decide), ?_⟩⟩⟩
          generalize hx : (z % 4294967231 * 48271 + 30269 * b * b + 211) % 4294967279 = x
          have m2 : 0 ≤ x ∧ x < 4294967279 := by
            rw [← hx]
            exact ⟨Int.emod_nonneg _ (by decide), Int.emod_lt_of_pos _ (by decide)⟩
          refine ⟨_, rfl, _, rfl, _, _, rfl, rfl, .inl ⟨by omega, by omega⟩, _, rfl, _, _, rfl, rfl, .inl ⟨by decide, by decide⟩, _, _, rfl, rfl, _, rfl, _, _, rfl, rfl, .inl ⟨by decide, by decide⟩, _, _, rfl, rfl, _, _, rfl, rfl, .inl ⟨_, rfl, _, _, rfl, rfl, (show (0 : Int) < 4294967291 by decide), ?_⟩⟩
          generalize hy : (x * x + 69069 * x + 23 * b + 7) % 4294967291 = y
          have m3 : 0 ≤ y ∧ y < 4294967291 := by
            rw [← hy]
            exact ⟨Int.emod_nonneg _ (by decide), Int.emod_lt_of_pos _ (by decide)⟩
          refine ⟨_, rfl, _, rfl, _, _, rfl, rfl, _, _, rfl, rfl, .inl ⟨by omega, by omega⟩, .inl ⟨_, rfl, _, _, rfl, rfl, (show (0 : Int) < 4294967197 by decide), _, _, rfl, rfl, ⟨by decide, by decide⟩, ?_⟩⟩
          refine ⟨_, rfl, .inl ⟨_, rfl, _, rfl, _, _, rfl, rfl, hm0, ?_⟩⟩
          exact k _ _ _ (Int.emod_nonneg _ (by omega)) (Int.emod_lt_of_pos _ hm0) (by omega) (by omega) hr0

/-- a new pen: its cells the script's first 63 -/
def spPen (K : PySem.W.Frag) : Sp := fun vs H Q _ => ∃ (a : Addr) (ns : List Int), vs = [.ref a] ∧ SqL K H a (ns.map V.int) ∧ ns.length ≤ 63 ∧ ∀ (p c : Addr) (ms : List Int) (H' : Hp), Ex H H' → Pen H' p c ms 0 → Q (.ref p) H'
theorem sc_pen : FnScope ["_law_script"] ["_law_script"] (defScope s_pen) := ⟨rfl, rfl, rfl, by decide +kernel, rfl, by decide +kernel, by decide +kernel⟩
theorem ok_pen {f : Addr} {fd : FuncData} (F : FnP K "_law_pen" s_pen f fd) (T : Blt mg) : FnOk P w K mg base CX0 1 f fd ["_law_script"] (spPen K) := by
  refine F.ok sc_pen (fun vs H Q E h => ?_) (fun cdv A outer s H vs Q E hr h => ?_)
  · obtain ⟨a, ns, rfl, _⟩ := h
    rfl
  · obtain ⟨a, ns, rfl, hS, hn, k⟩ := h
    refine ⟨_, PSs.nox (pss_one (ps_ret (pe_disp (pps_cons pe_str (pe_callTy call_list_of (by rfl) T.list (by decide +kernel) (pa_cons (pe_slice sl_list (pv 0) po_none (po_some pe_int)) pa_nil)) (pps_cons pe_str pe_int (pps_cons pe_str pe_int pps_nil))) (by rfl) (by rfl) (fun z => by cases z) (by decide)))), ?_⟩
    intro p hp
    refine ⟨_, rfl, 63, rfl, a, _, rfl, ex_l (Ex.new hp) hS, fun q hq => ⟨q, _, rfl, .inl (SqL.of upd_same), fun l hl => ?_⟩⟩
    have npq : p ≠ q := ne_of_none upd_same hq
    have npl : p ≠ l := ne_of_none (show upd (upd H p _) q _ p = some _ by rw [upd_ne npq, upd_same]) hl
    refine ⟨by rw [upd_ne npl, upd_ne npq, upd_same], penL l 0 0, rfl, (by show 3 ≤ 15; decide), ?_⟩
    have em : mergeK [] (penL l 0 0) = penL l 0 0 := by
      unfold mergeK penL
      simp [putK, scb, scr, sbr]
    show Q (.ref p) (upd _ p (.dK (mergeK [] (penL l 0 0))))
    rw [em]
    have hqH : H q = none := fresh_back (Ex.new hp) hq
    have hlH : H l = none := fresh_back ((Ex.new hp).trans (Ex.new hq)) hl
    obtain ⟨ms, hms⟩ : ∃ ms : List Int, cutV (ns.map V.int) none (some 63) = ms.map V.int := by
      unfold cutV
      exact ⟨_, by rw [← List.map_drop, ← List.map_take]⟩
    have hz : ms.length ≤ 63 := by
      have z := cutV_length (ns.map V.int) none (some 63)
      rw [hms, List.length_map, List.length_map] at z
      omega
    refine k p l ms _ ?_ ⟨⟨0, 0, upd_same, by decide, by decide, by decide⟩, ?_, hz⟩
    · exact Ex.mut (((Ex.new hp).trans (Ex.new hq)).trans (Ex.new hl)) hp
    · rw [upd_ne npl.symm, upd_same, hms]

/-- one of a list's items, or of a text's signs -/
def spPick (K : PySem.W.Frag) : Sp := fun vs H Q _ => ∃ (p c : Addr) (ns : List Int) (n : Nat) (o : V), vs = [.ref p, o] ∧ Pen H p c ns n ∧ n < 2 ^ 40 ∧
  ((∃ (a : Addr) (xs : List V), o = .ref a ∧ H a = some (.lst xs) ∧ 0 < xs.length ∧ xs.length < 1073741824 ∧ ∀ (v : V) (b r : Int), v ∈ xs → 0 ≤ b → b ≤ ((n + 1 : Nat) : Int) → 0 ≤ r → Q v (upd H p (penD c b r))) ∨
   (∃ z : Str, o = .str z ∧ 0 < z.length ∧ z.length ≤ 100000 ∧ ∀ (x : Nat) (b r : Int), x ∈ z.cps.toList → 0 ≤ b → b ≤ ((n + 1 : Nat) : Int) → 0 ≤ r → Q (.str ⟨#[x]⟩) (upd H p (penD c b r))))
theorem sc_pick : FnScope ["_law_pen_here", "_law_options"] ["_law_pen_here", "_law_options"] (defScope s_pick) := ⟨rfl, rfl, rfl, by decide +kernel, rfl, by decide +kernel, by decide +kernel⟩
theorem ok_pick {f g : Addr} {fd gd : FuncData} (F : FnP K "_law_pick" s_pick f fd) (T : Blt mg) (G : FnOk P w K mg base CX0 1 g gd ["_law_pen_here", "_law_many"] spDraw) (mgD : mg "_law_draw" = some (.ref g)) (kp : PySem.W.keepIn K (.ref g) = true) (bD : Binds K gd ["_law_pen_here", "_law_many"] []) :
    FnOk P w K mg base CX0 2 f fd ["_law_pen_here", "_law_options"] (spPick K) := by
  refine F.ok sc_pick (fun vs H Q E h => ?_) (fun cdv A outer s H vs Q E hr h => ?_)
  · obtain ⟨p, c, ns, n, o, rfl, _⟩ := h
    rfl
  · obtain ⟨p, c, ns, n, o, rfl, hp, hn, h⟩ := h
    refine ⟨_, PSs.nox (pss_one (ps_ret (pe_ix ix_seq (pv 1) (pe_call G hr rfl mgD kp bD .nil pass0 (pa_cons (pv 0) (pa_cons (pe_callB call_len (by rfl) T.len PySem.boot_len (pa_cons (pv 1) pa_nil)) pa_nil))) (fun _ _ => rfl)))), ?_⟩
    rcases h with ⟨a, xs, rfl, ha, hl0, hl1, k⟩ | ⟨z, rfl, hl0, hl1, k⟩
    · have nap : a ≠ p := by
        obtain ⟨b, r, e, _⟩ := hp.at_
        exact ne_of ha e (by intro z; cases z)
      refine ⟨_, rfl, _, rfl, _, rfl, _, xs.length, rfl, .inl ⟨_, SqL.of ha, rfl⟩, p, c, ns, n, (xs.length : Int), rfl, hp, hn, by omega, by omega, fun r b r' h0 h1 h2 h3 h4 => ?_⟩
      obtain ⟨j, rfl⟩ := Int.eq_ofNat_of_zero_le h0
      have hj : j < xs.length := by omega
      refine .inl ⟨a, xs, _, xs[j], rfl, rfl, SqL.of (by rw [upd_ne nap]; exact ha), atI_nat (List.getElem?_eq_getElem hj), ?_⟩
      exact k _ _ _ (List.getElem_mem hj) h2 h3 h4
    · refine ⟨_, rfl, _, rfl, _, rfl, _, z.length, rfl, ⟨sz_of hl1, rfl⟩, p, c, ns, n, (z.length : Int), rfl, hp, hn, by omega, by omega, fun r b r' h0 h1 h2 h3 h4 => ?_⟩
      obtain ⟨j, rfl⟩ := Int.eq_ofNat_of_zero_le h0
      have hj : j < z.cps.toList.length := by
        have e : z.cps.toList.length = z.length := rfl
        omega
      refine .inr (.inr ⟨z, _, z.cps.toList[j], rfl, rfl, sz_of hl1, atI_nat (List.getElem?_eq_getElem hj), ?_⟩)
      exact k _ _ _ (List.getElem_mem hj) h2 h3 h4
end
end HB
namespace HB
open PySem PySem.Spec PyProof.Rows L2 Evl
/-! ### defs that may ask repr: where no repr is on its way -/
structure FnG (P : Program) (w : World) (K : PySem.W.Frag) (mg : Str → Option Value) (base : Heap) (CX : CXT) (k : Nat) (f : Addr) (fd : FuncData) (ps : List Str) (sp : Sp) : Prop where
  len : ∀ vs H Q E, sp vs H Q E → vs.length = ps.length
  run : ∀ (B : Around) (out : List Env) (s : Shared) (H : Hp) (as : Args) (us : List Value) (vs : List V) (Q : VK) (E : XK), B.guards = some [] → Room k B → Env0 P w K mg base B out s H → BindsTo s fd as (ps.zip us) → Vals vs us →
    sp vs H Q E → codeAny (model P w) B (.call (.ref f) as) (CR CX out P w H s Q E) s
theorem FnG.of {P : Program} {w : World} {K : PySem.W.Frag} {mg : Str → Option Value} {base : Heap} {CX : CXT} {k : Nat} {f : Addr} {fd : FuncData} {ps : List Str} {sp : Sp} (F : FnOk P w K mg base CX k f fd ps sp) : FnG P w K mg base CX k f fd ps sp :=
  ⟨F.len, fun B out s H as us vs Q E _ hr e0 hb r h => F.run B out s H as us vs Q E hr e0 hb r h⟩
section
variable {P : Program} {w : World} {K : PySem.W.Frag} {mg : Str → Option Value} {base : Heap} {x qual : Str} {params : Arguments} {body : List Stmt} {scope : Scope} {dvs : List V} {kws : List (Str × V)} {f : Addr} {fd : FuncData}
theorem fun_okG {CX : CXT} {N ps : List Str} {k : Nat} {sp : Sp} (F : FunD K x qual params body scope dvs kws f fd) (S : FnScope N ps scope) (len : ∀ vs H Q E, sp vs H Q E → vs.length = ps.length)
    (hbody : ∀ (cdv : Value) (B : Around) (out : List Env) (s : Shared) (H : Hp) (vs : List V) (Q : VK) (E : XK), B.guards = some [] → Room k (B.deeper (envOfC qual scope s.heap.objs.size f cdv)) → sp vs H Q E →
      ∃ t, PSs (cxOf CX P w K mg base N qual scope f cdv B out s H E) body t ∧ t { nx := fun _ H' => Q .non H', rt := Q } (start N vs) H) : FnG P w K mg base CX (k + 1) f fd ps sp := by
  obtain ⟨oc, od, dV, kV, doc, pm, an, cdv, ct, osl, rfl, lk, hcd, _, _⟩ := F.ex
  refine ⟨len, fun B out s H as us vs Q E hgd hr e0 hb r hsp => ?_⟩
  have inS : K.In s.heap := e0.mod.kin.keeps fun b o e => (e0.bs b o e).1
  have lim : s.heap.NoLimit := e0.mod.nolimit.keeps fun b o e => (e0.bs b o e).1
  have kinds : ∀ y ∈ ps.zip us, scope.names.lookup y.1 = some .local ∨
      (scope.names.lookup y.1 = some .cell ∧ ((cellsFrom (s.heap.objs.size + 1) scope.names []).lookup y.1).isSome = true) := by
    rintro ⟨n, v⟩ hy
    rcases S.par n (List.of_mem_zip hy).1 with q | q
    · exact Or.inl q
    · exact Or.inr ⟨q, PySem.W.cellsFrom_some _ _ _ (.inl q)⟩
  refine codeAny_call_function hr.depth (inS _ _ lk) rfl S.co S.gen rfl (PySem.W.codeRec_of inS hcd) (hb _ _ _ _ ?_)
  refine wpAny_newFunctionEnv_cells S.kind kinds fun env he s1 z => ?_
  subst he
  refine ⟨lim.keeps z.toInCall.keep, codeAny_func ?_⟩
  obtain ⟨t, ht, hq⟩ := hbody cdv B out s H vs Q E hgd (hr.deeper _) hsp
  have J : Inv (cxOf CX P w K mg base N qual scope f cdv B out s H E) [] (start N vs) H s1 := inv_start S hr.hd e0 (len _ _ _ _ hsp) r z
  refine wpAny_mono (ht.run [] s1 (start N vs) H _ J hq) (fun fl s' hs => ?_) fun e s' hs => hs
  cases fl with
  | ret u =>
    obtain ⟨v, σ', H', J', rv, q⟩ := hs
    exact ⟨v, H', J'.os, J'.bare, J'.base, J'.hok, rv, q⟩
  | next =>
    obtain ⟨σ', H', J', q⟩ := hs
    exact ⟨V.non, H', J'.os, J'.bare, J'.base, J'.hok, rfl, q⟩
  | brk =>
    obtain ⟨_, _, _, q⟩ := hs
    exact False.elim q
  | cont =>
    obtain ⟨_, _, _, q⟩ := hs
    exact False.elim q
end
/-! ### the law's own end over FnG -/
section
variable {P : Program} {w : World} {K : PySem.W.Frag} {mg mb : Str → Option Value} {k : Nat} {fa a : Addr} {fd : FuncData} {x : Str} {sp : Sp} {t : Shared} {vs : List Value} {ns : List Int}
/-- what is wanted of the law's call -/
def LawEnd (t : Shared) (r : Result) (s' : Shared) : Prop := r = .ok (.ret (.bool true)) ∧ OldK t.heap s'.heap ∧ s'.os = t.os ∧ AllBare s'.gens
theorem callG_core (inT : K.In t.heap) (hns : t.heap.Ns mainGlobals mg) (hb : t.heap.Ns builtinsNs mb) (hbb : ∀ x : Str, x ≠ "__name__" → mb x = bootBuiltins x) (hlim : t.heap.NoLimit) (hg : t.gens = #[])
    (ha : t.heap.get? a = some { cls := .type "list", data := .seq vs.toArray }) (hr : Room k callerA)
    (F : ∀ base : Heap, K.In base → base.Ns mainGlobals mg → FnG P w K mg base CX0 k fa fd [x] sp) (hbind : ∀ (s : Shared) (u : Value), BindsTo s fd ⟨[u], []⟩ [(x, u)])
    (H : Hp) (only : Only H) (hsp : sp [.ref a] H (fun v _ => v = .bl true) fun _ _ _ => False) (hok : HOk P w H t.heap) (hA : ∀ b, H b ≠ none → b = a) (hK : H a ≠ none → K.lookup a = none) :
    codeAny (model P w) callerA (.call (.ref fa) ⟨[.ref a], []⟩) (LawEnd t) t := by
  have none_of : ∀ {b : Addr} {o : Obj} {es : Array DictEntry} {ep : Nat}, t.heap.get? b = some o → o.data = .dict es ep → H b = none := by
    intro b o es ep e d
    cases q : H b with
    | none => rfl
    | some u =>
      obtain rfl := hA b (by rw [q]; simp)
      rw [ha] at e
      cases e
      exact nomatch (show Data.seq vs.toArray _ = Data.dict es ep from d)
  have nsB : ∀ {b : Addr} {m : Str → Option Value}, t.heap.Ns b m → (hidT t.heap H).Ns b m := by
    rintro b m ⟨o, es, ep, e, d, r⟩
    exact ⟨o, es, ep, hidT_get e (none_of e d), d, r⟩
  have inB : K.In (hidT t.heap H) := fun b o e => hidT_get (inT b o e) (by
    cases q : H b with
    | none => rfl
    | some u =>
      obtain rfl := hA b (by rw [q]; simp)
      rw [hK (by rw [q]; simp)] at e
      cases e)
  have md : Mod K mg (hidT t.heap H) := by
    refine ⟨inB, nsB hns, ⟨mb, nsB hb, hbb⟩, ?_⟩
    obtain ⟨mc, h1, h2⟩ := hlim
    exact ⟨mc, nsB h1, h2⟩
  have e0 : Env0 P w K mg (hidT t.heap H) callerA [] t H :=
    { frames := rfl, mod := md, bs := fun b o e => of_hidT e, bsz := Nat.le_of_eq (hidT_size _ _), funs := trivial, frf := fun b hb => absurd (show b ∈ ([] : List Addr) from hb) (by simp), hok := hok, bare := .of_eq hg }
  have go := (F _ inB (nsB hns)).run callerA [] t H ⟨[.ref a], []⟩ [.ref a] [.ref a] _ _ rfl hr e0 (hbind t (.ref a)) (.cons rfl .nil) hsp
  refine codeAny_mono go fun r s' h => ?_
  cases r with
  | error e => exact False.elim h
  | ok fl =>
    cases fl with
    | next => exact False.elim h
    | brk => exact False.elim h
    | cont => exact False.elim h
    | ret u =>
      obtain ⟨v, H', os, bare, un, hok', r', q⟩ := h
      obtain rfl : v = .bl true := q
      obtain rfl : u = Value.bool true := r'
      refine ⟨rfl, OldK.of_keep fun b o e => ?_, os, bare⟩
      cases q : H b with
      | none => exact un.keep b o e q (fun z => absurd (show b ∈ ([] : List Addr) from z) (by simp)) (by simp)
      | some u =>
        rcases only b with z | ⟨ob, ys, z⟩
        · rw [q] at z
          cases z
        · obtain ⟨e1, _⟩ := hok b _ z
          obtain ⟨e2, _⟩ := hok' b _ (un.frzs b ob _ z)
          rw [e] at e1
          cases e1
          exact e2
theorem callG (inT : K.In t.heap) (hns : t.heap.Ns mainGlobals mg) (hb : t.heap.Ns builtinsNs mb) (hbb : ∀ x : Str, x ≠ "__name__" → mb x = bootBuiltins x) (hlim : t.heap.NoLimit) (hg : t.gens = #[])
    (ha : t.heap.get? a = some { cls := .type "list", data := .seq vs.toArray }) (hi : IntsAre vs ns) (hl : ns.length ≤ sizeLine) (hr : Room k callerA)
    (F : ∀ base : Heap, K.In base → base.Ns mainGlobals mg → FnG P w K mg base CX0 k fa fd [x] sp) (hbind : ∀ (s : Shared) (u : Value), BindsTo s fd ⟨[u], []⟩ [(x, u)])
    (hsp : ∀ H : Hp, Only H → SqL K H a (ns.map V.int) → sp [.ref a] H (fun v _ => v = .bl true) fun _ _ _ => False) :
    codeAny (model P w) callerA (.call (.ref fa) ⟨[.ref a], []⟩) (LawEnd t) t := by
  have rv := vals_ints hi
  cases hk : K.lookup a with
  | some o =>
    have e := inT a o hk
    rw [ha] at e
    cases e
    have none0 : Only (fun _ : Addr => (none : Option HO)) := fun _ => .inl rfl
    have sq : SqL K (fun _ : Addr => (none : Option HO)) a (ns.map V.int) := .inr ⟨_, vs.toArray, _, hk, rfl, rfl, rfl, (by rw [List.size_toArray, hi.length]; exact hl), (by simpa using rv)⟩
    exact callG_core inT hns hb hbb hlim hg ha hr F hbind (fun _ => none) none0 (hsp _ none0 sq) (fun b u z => nomatch (show (none : Option HO) = some u from z)) (fun b z => absurd rfl z) fun z => absurd rfl z
  | none =>
    let Ha : Hp := fun b => if b = a then some (.frz { cls := .type "list", data := .seq vs.toArray } (.lst (ns.map V.int))) else none
    have only : Only Ha := fun b => by
      by_cases hb : b = a
      · exact .inr ⟨_, _, if_pos hb⟩
      · exact .inl (if_neg hb)
    refine callG_core inT hns hb hbb hlim hg ha hr F hbind Ha only (hsp _ only (.inl (.inr ⟨_, if_pos rfl⟩))) (fun b u z => ?_) (fun b z => ?_) fun _ => hk
    · by_cases hb : b = a
      · have z' := (if_pos hb).symm.trans z
        cases z'
        subst hb
        exact ⟨ha, (by rw [List.length_map]; exact hl), vs, _, rv, ha⟩
      · have z' := (if_neg hb).symm.trans z
        cases z'
    · by_cases hb : b = a
      · exact hb
      · exact absurd (if_neg hb) z
end
theorem walkG {l : PySem.W.OpenLaw} {n k : Nat} {q : Program} {loose : List Str} {XP : (Str → Option Value) → Heap → Prop} {YP : World → Heap → Prop} {d : DefRec} {x : Str} (hn : l.most = some n) (hn2 : n ≤ sizeLine) (hdf : d.params.defaults = []) (hr : Room k callerA)
    (F : ∀ (w : World) (mg : Str → Option Value) (fa : Addr) (h : Heap), YP w h → h.Ns mainGlobals mg → mg d.name = some (.ref fa) →
      ∃ (K : PySem.W.Frag) (fd : FuncData) (sp : Sp), K.In h ∧ (∀ (s : Shared) (u : Value), BindsTo s fd ⟨[u], []⟩ [(x, u)]) ∧
        (∀ (H : Hp) (a : Addr) (ns : List Int), ns.length ≤ n → Only H → SqL K H a (ns.map V.int) → sp [.ref a] H (fun v _ => v = .bl true) fun _ _ _ => False) ∧ ∀ base : Heap, K.In base → base.Ns mainGlobals mg → FnG l.prog w K mg base CX0 k fa fd [x] sp) :
    PySem.W.WalkO q loose XP YP l.row.toRowW d [] (fun f vs => PySem.call f vs) := by
  refine Att.attach_call hn hdf fun w s₀ s₁ mg mb fa o pm cd doc a vs ns G Y ho hd hcd hmg hobj hints hlen hg => ?_
  obtain ⟨K, fd, sp, inT, hb, hsp, hF⟩ := F w mg fa _ Y G.T.g hmg
  exact callG inT G.T.g G.T.b G.T.builtins G.T.nolimit hg hobj hints (Nat.le_trans hlen hn2) hr hF hb (fun H hO hS => hsp H a ns hlen hO hS)
end HB
namespace HB
open PySem PySem.Spec PyProof.Rows L2 Evl
/-! ### data of any kind, dicts too -/
def keyD : Key → PyData
  | .inl i => .int i
  | .inr x => .str x
mutual
inductive Dq (K : PySem.W.Frag) (H : Hp) : V → PyData → Prop
  | non : Dq K H .non .none
  | bl (b : Bool) : Dq K H (.bl b) (.bool b)
  | int (i : Int) : Dq K H (.int i) (.int i)
  | str (x : Str) : Dq K H (.str x) (.str x)
  | lst {a : Addr} {xs : List V} {ds : List PyData} : SqL K H a xs → Dqs K H xs ds → Dq K H (.ref a) (.list ds)
  | tup {a : Addr} {xs : List V} {ds : List PyData} : SqT K H a xs → Dqs K H xs ds → Dq K H (.ref a) (.tuple ds)
  | dic {a : Addr} {kvs : List (Key × V)} {ds : List PyData} : H a = some (.dK kvs) → Dqs K H (kvs.map (·.2)) ds → Dq K H (.ref a) (.dict ((kvs.map fun kv => keyD kv.1).zip ds))
inductive Dqs (K : PySem.W.Frag) (H : Hp) : List V → List PyData → Prop
  | nil : Dqs K H [] []
  | cons {v : V} {vs : List V} {d : PyData} {ds : List PyData} : Dq K H v d → Dqs K H vs ds → Dqs K H (v :: vs) (d :: ds)
end
section
variable {K : PySem.W.Frag} {H H' : Hp}
theorem Dqs.length : ∀ {vs : List V} {ds : List PyData}, Dqs K H vs ds → vs.length = ds.length
  | _, _, .nil => rfl
  | _, _, .cons _ h => congrArg (· + 1) (Dqs.length h)
mutual
theorem Dq.mono (e : Ex H H') : ∀ {v : V} {d : PyData}, Dq K H v d → Dq K H' v d
  | _, _, .non => .non
  | _, _, .bl b => .bl b
  | _, _, .int i => .int i
  | _, _, .str x => .str x
  | _, _, .lst h hs => .lst (ex_l e h) (Dqs.mono e hs)
  | _, _, .tup h hs => .tup (ex_t e h) (Dqs.mono e hs)
  | _, _, .dic h hs => .dic (e _ _ h) (Dqs.mono e hs)
theorem Dqs.mono (e : Ex H H') : ∀ {vs : List V} {ds : List PyData}, Dqs K H vs ds → Dqs K H' vs ds
  | _, _, .nil => .nil
  | _, _, .cons h hs => .cons (Dq.mono e h) (Dqs.mono e hs)
end
end
/-- the module table's own object stands in the written part: no tracked thing stands there -/
def Sys (K : PySem.W.Frag) : Prop := ∃ o es ep, K.lookup sysModules = some o ∧ o.data = .dict es ep
section
variable {X : Cx} {pins : List (Addr × Obj)} {σ : L2.St} {H : Hp} {s : Shared}
theorem sys_free (I : Inv X pins σ H s) (S : Sys X.K) : H sysModules = none := by
  obtain ⟨o, es, ep, e, _⟩ := S
  exact (I.bs _ _ (I.ok.mod.kin _ _ e)).2
theorem list_ne_sys (I : Inv X pins σ H s) (S : Sys X.K) {a : Addr} {xs : List V} (h : SqL X.K H a xs) : a ≠ sysModules := by
  obtain ⟨its, rv, ⟨o, n, ho, hc, _, hd⟩, _⟩ := I.list h
  obtain ⟨o', es, ep, e, d'⟩ := S
  rintro rfl
  have := I.kIn _ _ e
  rw [ho] at this
  cases this
  rw [hd] at d'
  cases d'

theorem keys_read {h : Heap} {prog : Program} {w : World} : ∀ {es : List DictEntry} {kvs : List (Key × Value)}, Pairs (mixKind prog w) es kvs → ReadsAll h (es.map (·.key)) (kvs.map fun kv => keyD kv.1) []
  | _, _, .nil => .nil
  | _, _, .cons (e := e) (kv := kv) hk _ r => by
    have h1 : Reads h e.key (keyD kv.1) [] := by
      obtain ⟨k, v⟩ := kv
      rcases keyIs_shape hk with ⟨i, t, rfl, z⟩ | ⟨x, t, rfl, z⟩
      · rw [z]
        exact .int i t
      · rw [z]
        exact .str x t
    exact .cons (as := []) (bs := []) h1 (keys_read r)
theorem vals_of_pairs {prog : Program} {w : World} : ∀ {es : List DictEntry} {kvs : List (Key × Value)}, Pairs (mixKind prog w) es kvs → es.map (·.val) = kvs.map (·.2)
  | _, _, .nil => rfl
  | _, _, .cons _ hv r => by
    rw [List.map_cons, List.map_cons, hv, vals_of_pairs r]
theorem kv_keys : ∀ {kvs : List (Key × V)} {us : List (Key × Value)}, KV kvs us → (us.map fun kv => keyD kv.1) = kvs.map fun kv => keyD kv.1
  | _, _, .nil => rfl
  | _, _, .cons h r => by
    rw [List.map_cons, List.map_cons, kv_keys r, h.1]
theorem kv_vals : ∀ {kvs : List (Key × V)} {us : List (Key × Value)}, KV kvs us → Vals (kvs.map (·.2)) (us.map (·.2))
  | _, _, .nil => .nil
  | _, _, .cons h r => .cons h.2 (kv_vals r)
theorem zip_fst {α β : Type} : ∀ (xs : List α) (ys : List β), xs.length = ys.length → (xs.zip ys).map (·.1) = xs
  | [], _, _ => by simp
  | x :: xs, [], h => by simp at h
  | x :: xs, y :: ys, h => by simp [zip_fst xs ys (by simpa using h)]
theorem zip_snd {α β : Type} : ∀ (xs : List α) (ys : List β), xs.length = ys.length → (xs.zip ys).map (·.2) = ys
  | [], [], _ => rfl
  | [], y :: ys, h => by simp at h
  | x :: xs, [], h => by simp at h
  | x :: xs, y :: ys, h => by simp [zip_snd xs ys (by simpa using h)]
mutual
theorem Dq.reads (I : Inv X pins σ H s) (S : Sys X.K) : ∀ {v : V} {d : PyData} (u : Value), Dq X.K H v d → RelV v u → ∃ as, Reads s.heap u d as ∧ sysModules ∉ as
  | _, _, u, .non, r => by
    cases r
    exact ⟨[], .none, by simp⟩
  | _, _, u, .bl b, r => by
    cases r
    exact ⟨[], .bool b, by simp⟩
  | _, _, u, .int i, r => by
    obtain ⟨t, rfl⟩ := r
    exact ⟨[], .int i t, by simp⟩
  | _, _, u, .str x, r => by
    obtain ⟨t, rfl⟩ := r
    exact ⟨[], .str x t, by simp⟩
  | _, _, u, .lst hs ha, r => by
    cases r
    have ne := list_ne_sys I S hs
    obtain ⟨its, rv, ⟨o, n, ho, hc, _, hd⟩, _⟩ := I.list hs
    obtain ⟨as, hr, hn⟩ := Dqs.reads I S its ha rv
    exact ⟨_, .list ho hc hd hr, by
      intro hm
      rcases List.mem_cons.mp hm with z | z
      · exact ne z.symm
      · exact hn z⟩
  | _, _, u, .tup hs ha, r => by
    cases r
    obtain ⟨its, rv, ⟨o, ho, hc, n, hd⟩, _⟩ := I.tuple hs
    obtain ⟨as, hr, hn⟩ := Dqs.reads I S its ha rv
    exact ⟨_, .tuple ho hc hd hr, hn⟩
  | _, _, u, .dic (kvs := kvs) (ds := ds) hx ha, r => by
    cases r
    obtain ⟨_, ne, us, rel, o, es, ep, ho, hc, hd, _, pr, _⟩ := dk_of I.hok hx
    have hl := ha.length
    rw [List.length_map] at hl
    obtain ⟨as, hr, hn⟩ := Dqs.reads I S (us.map (·.2)) ha (kv_vals rel)
    refine ⟨_ :: [] ++ as, Reads.dict (as := []) (bs := as) ho hc.1 hd ?_ ?_, ?_⟩
    · rw [zip_fst _ _ (by rw [List.length_map]; exact hl), ← kv_keys rel]
      exact keys_read pr
    · rw [zip_snd _ _ (by rw [List.length_map]; exact hl), vals_of_pairs pr]
      exact hr
    · intro hm
      rcases List.mem_cons.mp hm with z | z
      · rw [← z] at ne
        exact absurd ne (by decide)
      · exact hn z
theorem Dqs.reads (I : Inv X pins σ H s) (S : Sys X.K) : ∀ {vs : List V} {ds : List PyData} (us : List Value), Dqs X.K H vs ds → Vals vs us → ∃ as, ReadsAll s.heap us ds as ∧ sysModules ∉ as
  | _, _, us, .nil, r => by
    cases r
    exact ⟨[], .nil, by simp⟩
  | _, _, us, .cons h hs, r => by
    cases r with
    | cons r1 r2 =>
      obtain ⟨as, q1, n1⟩ := Dq.reads I S _ h r1
      obtain ⟨bs, q2, n2⟩ := Dqs.reads I S _ hs r2
      exact ⟨_, .cons q1 q2, by
        intro hm
        rcases List.mem_append.mp hm with z | z
        · exact n1 z
        · exact n2 z⟩
end
/-- repr(x): the text of the data -/
def rRepr (K : PySem.W.Frag) : List V → Hp → VK → Prop := fun xs H Q => ∃ (v : V) (d : PyData), xs = [v] ∧ Dq K H v d ∧ d.showable = true ∧ d.depth < 60 ∧ d.shown.length ≤ sizeLine ∧ Q (.str d.shown) H
theorem call_repr (S : Sys X.K) (hg : X.A.guards = some []) (hu : X.A.units + 64 < cLine) : CallR X (.builtin "repr") (rRepr X.K) := by
  intro pins s σ H xs us Q I r h
  obtain ⟨v, d, rfl, hd, hs, hdep, hz, q⟩ := h
  obtain ⟨u, rfl, ru⟩ := vals1 r
  obtain ⟨as, hr, hn⟩ := Dq.reads I S u hd ru
  cases hd with
  | non =>
    cases ru
    exact PySem.P.repr_of_none ⟨.str _, H, I.tok _, ⟨_, rfl⟩, q⟩
  | bl b =>
    cases ru
    exact PySem.P.repr_of_bool ⟨.str _, H, I.tok _, ⟨_, by cases b <;> rfl⟩, q⟩
  | int i =>
    obtain ⟨t, rfl⟩ := ru
    exact PySem.P.repr_of_int (of_decide_eq_true hs) ⟨.str _, H, I.tok _, ⟨_, rfl⟩, q⟩
  | str x =>
    obtain ⟨t, rfl⟩ := ru
    exact PySem.P.repr_of_str ⟨.str _, H, I.tok _, ⟨_, rfl⟩, q⟩ hz
  | lst h1 h2 =>
    cases ru
    exact PySem.repr_of_reads' hr hs (fun _ => hn) hg (by omega) (fun _ _ z => z) (fun h' t tk keep => ⟨.str _, H, I.kept keep, ⟨_, rfl⟩, q⟩) hz
  | tup h1 h2 =>
    cases ru
    exact PySem.repr_of_reads' hr hs (fun _ => hn) hg (by omega) (fun _ _ z => z) (fun h' t tk keep => ⟨.str _, H, I.kept keep, ⟨_, rfl⟩, q⟩) hz
  | dic h1 h2 =>
    cases ru
    exact PySem.repr_of_reads' hr hs (fun _ => hn) hg (by omega) (fun _ _ z => z) (fun h' t tk keep => ⟨.str _, H, I.kept keep, ⟨_, rfl⟩, q⟩) hz
end
end HB
namespace PySem
namespace HBX
open PySem.W PySem.Calls PyProof.Rows PySem.HandSPX
open Builtin Builtin.ObjectAttr
section
variable {prog : Program} {w : World} {A : Around} {E : Value → Shared → Prop} {R : Result → Shared → Prop} {h : Heap} {g : Array GenState} {d : Drawn} {t : Nat} {os : OsState}
variable {nm q : Str} {C N : Addr} {bs bm : List Value} {hdct : Bool} {sn : List Str} {sub : List Value} {ab : Bool} {col : Option Bool} {dd : Option Addr} {k0 k1 k2 k3 k5 : Option Value} {B newId initId : String}
/-- the class as the written part has it, its mro C and the base's -/
abbrev XCls (h : Heap) (nm q : Str) (C N : Addr) (bs bm : List Value) (hdct : Bool) (sn : List Str) (sub : List Value) (ab : Bool) (col : Option Bool) (dd : Option Addr) (k0 k1 k2 k3 k5 : Option Value) (newId : String) : Prop :=
  h.get? C = some (excClassObj nm q C N bs bm hdct sn sub ab col dd k0 k1 k2 k3 k5 newId)
theorem check_newKw (F : ExcBaseFacts B newId initId bm) {rest : List Value} {kw : List (Str × Value)} {M : Model} {Q : Unit → Shared → Prop} (hC : XCls h nm q C N bs bm hdct sn sub ab col dd k0 k1 k2 k3 k5 newId) (hq : Q () ⟨h, g, d, t, os⟩) :
    wpAny M A (checkBuiltinCall newId ⟨.ref C :: rest, kw⟩) Q E ⟨h, g, d, t, os⟩ := by
  have hc : (Value.ref C :: bm).contains (.type B) = true := by rw [List.contains_cons, F.hasB, Bool.or_true]
  have hstar := F.noStar
  simp only [checkBuiltinCall, F.newKind, F.newSplit, F.newRow]
  repeat (first | refine wpAny_loadPart_at hC ?_ | (refine wpAny_isSubtype_exc hC ?_; rw [hc]) | refine wpAny_staticBase_exc hC ?_ | refine wpAny_madeBy_exc hC ?_ | simp only [bne_self_eq_false, Bool.false_eq_true, if_false] | wp_step)
  exact hq
theorem newKw (F : ExcBaseFacts B newId initId bm) {rest : List Value} {kw : List (Str × Value)} (hC : XCls h nm q C N bs bm hdct sn sub ab col dd k0 k1 k2 k3 k5 newId)
    (hq : R (.ok (.ret (.ref (h.objs.size + 1)))) ⟨(h.push (W.kdv_tup rest)).push (excO C h.objs.size), g, d, t, os⟩) (hrest : rest.length ≤ sizeLine) :
    codeAny (model prog w) A (.builtin newId ⟨.ref C :: rest, kw⟩) R ⟨h, g, d, t, os⟩ := by
  have hends := F.ends
  have cB : (Value.ref C :: bm).contains (.type B) = true := by rw [List.contains_cons, F.hasB, Bool.or_true]
  have cA : (Value.ref C :: bm).contains (.type "AttributeError") = false := by rw [List.contains_cons, F.noAttr]; rfl
  have cN : (Value.ref C :: bm).contains (.type "NameError") = false := by rw [List.contains_cons, F.noName]; rfl
  refine codeAny_builtinAt F.entry ?_
  unfold Builtin.«BaseException.__new__»
  refine wpAt_bind ?_
  show wpAt _ _ _ (stack >>= _) _ _ _
  refine wpAt_bind (wpAt_stack fun p below => wpAt_of_wpAny ?_)
  wp_walk
  refine wpAt_of_wpAny ?_
  rw [F.owner]
  repeat (first | with_reducible refine wpAny_madeHere_exc F.canon hC ?_ | with_reducible refine wpAny_loadPart_at hC ?_ | (with_reducible refine wpAny_isSubtype_exc hC ?_; first | rw [cB] | rw [cA] | rw [cN]) | wp_step)
  show R _ _
  rw [Heap.size_push]
  exact hq
theorem typeCallKw (F : ExcBaseFacts B newId initId bm) {rest : List Value} {kw : List (Str × Value)} {fI : Addr} {Q : Fin → Shared → Prop} (hC : XCls h nm q C N bs bm hdct sn sub ab col dd k0 k1 k2 k3 k5 newId)
    (hi : W.Looks (model prog w) h (typeLookup (.ref C) "__init__") (some (.ref fI))) (hb : ∀ self, W.Looks (model prog w) h (bindSpecial (.ref fI) self) (.ref fI, [self])) (hrest : rest.length ≤ sizeLine)
    (hq : codeAny (model prog w) A (.call (.ref fI) ⟨.ref (h.objs.size + 1) :: rest, kw⟩)
      (fun r s' => match r with | .ok (.ret v) => v = .none ∧ Q (.done (.ret (.ref (h.objs.size + 1)))) s' | .ok _ => False | .error e => E e s') ⟨(h.push (W.kdv_tup rest)).push (excO C h.objs.size), g, d, t, os⟩) :
    wpAny (model prog w) A (Builtin.«type.__call__» ⟨.ref C :: rest, kw⟩) Q E ⟨h, g, d, t, os⟩ := by
  repeat (first | with_reducible refine wpAny_loadPart_at hC ?_ | with_reducible refine wpAny_madeBy_exc hC ?_ | wp_step)
  refine codeAny_call_builtin_code (Code.quiet_builtin _ F.quiet) (check_newKw F hC (newKw F hC ?_ hrest))
  show wpAny _ _ _ _ _ _
  have kp : ∀ b o, h.get? b = some o → ((h.push (W.kdv_tup rest)).push (excO C h.objs.size)).get? b = some o := fun b o e => Heap.get?_push_of_some _ (Heap.get?_push_of_some _ e)
  have hC1 := kp _ _ hC
  have hnew : ((h.push (W.kdv_tup rest)).push (excO C h.objs.size)).get? (h.objs.size + 1) = some (excO C h.objs.size) := by heap_get
  have cC : (Value.ref C :: bm).contains (.ref C) = true := by simp
  have i1 := hi.keeps kp
  have b1 := (hb (.ref (h.objs.size + 1))).keeps kp
  unfold isInstance
  repeat (first | with_reducible refine wpAny_loadPart_at hnew ?_ | (with_reducible refine wpAny_isSubtype_exc hC1 ?_; rw [cC]) | wp_step)
  show wpAny _ _ (typeLookup (.ref C) _) _ _ _
  refine i1.at (wpAny_holding (wpAny_bind (b1.at ?_)))
  refine wpAny_bind (wpAny_call (codeAny_mono hq fun r s' z => ?_))
  rcases r with e | (v | _ | _ | _) <;> first | exact z | exact z.elim | skip
  obtain ⟨rfl, z⟩ := z
  first
    | exact wpAny_pure (wpAny_pure z)
    | (wp_walk; exact z)
theorem callKw (F : ExcBaseFacts B newId initId bm) {rest : List Value} {kw : List (Str × Value)} {fI : Addr} (hC : XCls h nm q C N bs bm hdct sn sub ab col dd k0 k1 k2 k3 k5 newId)
    (hi : W.Looks (model prog w) h (typeLookup (.ref C) "__init__") (some (.ref fI))) (hb : ∀ self, W.Looks (model prog w) h (bindSpecial (.ref fI) self) (.ref fI, [self])) (hrest : rest.length ≤ sizeLine)
    (hq : codeAny (model prog w) (A.under (.builtin "type.__call__" ⟨.ref C :: rest, kw⟩)) (.call (.ref fI) ⟨.ref (h.objs.size + 1) :: rest, kw⟩) (W.InitBack (h.objs.size + 1) R) ⟨(h.push (W.kdv_tup rest)).push (excO C h.objs.size), g, d, t, os⟩) :
    codeAny (model prog w) A (.call (.ref C) ⟨rest, kw⟩) R ⟨h, g, d, t, os⟩ := by
  have f1 := tc_lookup
  have f2 := tc_bind (.ref C)
  have hTy : (⟨h, g, d, t, os⟩ : Shared).TypeIs (.ref C) "type" := ⟨_, hC, rfl⟩
  refine codeAny_of_tree ?_
  show wpAny _ _ (callAny (.ref C) _) _ _ _
  repeat (any_goals (first | assumption | with_reducible refine wpAny_loadPart_at hC ?_ | wp_step))
  refine ⟨rfl, ?_⟩
  refine codeAny_call_builtin_at (Code.quiet_builtin _ (by decide +kernel)) entry_typeCall (wpAny_check_type_call_sub hC (typeCallKw F hC hi hb hrest ?_))
  refine codeAny_mono hq fun r s' z => ?_
  rcases r with e | (v | _ | _ | _) <;> exact z
end
end HBX
end PySem
namespace PySem
namespace HBX
open PySem.W PySem.Calls PyProof.Rows PySem.HandSPX
open Builtin Builtin.ObjectAttr
section
variable {prog : Program} {w : World} {A : Around} {E : Value → Shared → Prop} {R : Result → Shared → Prop} {hp : Heap} {g : Array GenState} {d : Drawn} {t : Nat} {os : OsState}
/-- self.name = v on an exception without a dict, its class's mro C and bm -/
theorem osaB {K : W.Frag} {name : Str} {tk : Tok} {v : Value} {x C : Addr} {fv : Array Value} {cd : ClassData} {bm : List Value} (inK : K.In hp) (hx : hp.get? x = some { cls := .ref C, data := .fields fv }) (hcd : W.clsIn K C = some cd) (hm : cd.mro = .ref C :: bm)
    (pass : ∀ self, refuseLoop self "__setattr__" bm = pure ()) (hob : bm.contains (.type "object") = true) (hh : cd.hasDict = true) (ha : W.findIn K (.ref C) name = some none)
    (hq : ∀ h' tk' dx, (∀ b o, b ≠ x → hp.get? b = some o → h'.get? b = some o) → hp.objs.size ≤ dx → dx ≠ x → h'.get? x = some { cls := .ref C, dict := some dx, data := .fields fv } →
      h'.Ns1 dx (fun y => if y = name then some v else none) → R (.ok (.ret .none)) ⟨h', g, d, tk', os⟩) :
    codeAny (model prog w) A (.call (.builtin "object.__setattr__") ⟨[.ref x, .str name tk, v], []⟩) R ⟨hp, g, d, t, os⟩ := by
  have J : W.InstAt hp x { cls := .ref C, data := .fields fv } C none := ⟨hx, rfl, rfl, trivial⟩
  have SF := F.store_object
  have ne : cd.mro.isEmpty = false := by rw [hm]; rfl
  have hob' : cd.mro.contains (.type "object") = true := by rw [hm, List.contains_cons, hob, Bool.or_true]
  have hxs : x ≠ hp.objs.size := Nat.ne_of_lt (Heap.lt_size hx)
  have isob : W.Looks (model prog w) hp (isInstance (.ref x) (.type "object")) true :=
    J.type.andThen (W.looks_mroIn inK (by unfold W.mroIn; rw [hcd, Option.bind_some, if_neg (by rw [ne]; decide), hob']))
  refine codeAny_call_builtin SF.slot.plain SF.entry (@W.check_slot (model prog w) _ _ ⟨hp, g, d, t, os⟩ "object.__setattr__" "object" "__setattr__" (.ref x) [.str name tk, v] [] _ SF.kind SF.split isob (SF.args (.ref x) (.str name tk) v) ?_)
  have hmr : W.Looks (model prog w) hp (mroOf (.ref C)) cd.mro := (W.looks_clsIn inK hcd).andThen .now
  have l3 : W.Looks (model prog w) hp (storeTaker? none) none := .now
  have hcls : W.Looks (model prog w) hp (classData C) cd := W.looks_clsIn inK hcd
  rw [W.osa_eq, refuse_eq]
  refine wpAny_bind (wpAny_bind (J.type.at (wpAny_bind (hmr.at ?_))))
  rw [show refuseLoop (.ref x) "__setattr__" cd.mro = pure () by rw [hm, refuseLoop_ref]; exact pass _]
  refine wpAny_pure (wpAny_bind (J.type.at (wpAny_bind ((W.looks_findIn inK ha).at (wpAny_bind (l3.at ?_))))))
  show wpAny _ _ (storeInOwnDict (.ref x) (.ref C) (.str name tk) name v false) _ _ _
  obtain ⟨nm, bs, mro, ns, qn, hd, sn, sb, ab, col, del⟩ := cd
  dsimp only at hh
  subst hh
  unfold storeInOwnDict ownDictForStores
  repeat (first | with_reducible refine store_in_new ?_ ?_ | with_reducible refine wpAny_loadPart_at hx ?_ | with_reducible refine hcls.at ?_ | wp_step)
  · exact ⟨_, #[], _, (Heap.get?_update_ne _ _ _ _ hxs.symm).trans (Heap.get?_push_at rfl rfl), rfl, fun e he => absurd he (by simp), fun _ => rfl⟩
  · intro h' tk' hn' hs
    have hx1 : (hp.push { cls := .type "dict", data := .dict #[] }).get? x = some { cls := .ref C, data := .fields fv } := Heap.get?_push_of_some _ hx
    refine hq h' tk' hp.objs.size (fun b o hb ho => ?_) (Nat.le_refl _) hxs.symm ?_ hn'
    · exact (hs.2 b (Nat.ne_of_lt (Heap.lt_size ho))).trans ((Heap.get?_update_ne _ _ _ _ hb).trans (Heap.get?_push_of_some _ ho))
    · exact (hs.2 x hxs).trans (Heap.get?_update_self _ hx1 rfl)
end
end HBX
end PySem
namespace HB
open PySem PySem.Spec PyProof.Rows L2 Evl
/-- an error class of the text over the built-in error B, as the written part has it -/
structure XB (K : PySem.W.Frag) (C : Addr) (B newId initId : String) (bm : List Value) : Prop where
  bf : ExcBaseFacts B newId initId bm
  pass : ∀ self, PySem.refuseLoop self "__setattr__" bm = pure ()
  ob : bm.contains (.type "object") = true
  cls : ∃ nm q N bs sn sub ab col dd k0 k1 k2 k3 k5, K.lookup C = some (excClassObj nm q C N bs bm true sn sub ab col dd k0 k1 k2 k3 k5 newId)
  sa : PySem.W.findIn K (.ref C) "__setattr__" = some (some (.builtin "object.__setattr__"))
  kC : PySem.W.keepIn K (.ref C) = true
section
variable {X : Cx} {pins : List (Addr × Obj)} {σ : L2.St} {H : Hp} {s : Shared} {a C dx : Addr} {f : Str} {y : V} {u : Value} {Q : Unit → Shared → Prop} {E : Value → Shared → Prop} {A : Around} {B newId initId : String} {bm : List Value}
theorem bst_new (T : XB X.K C B newId initId bm) (I : Inv X pins σ H s) (e : H a = some (exo a C none)) (hno : PySem.W.findIn X.K (.ref C) f = some none) (ry : RelV y u)
    (h : ∀ dx s', H dx = none → dx ≠ a → Inv X pins σ (upd (upd H dx (exd dx [(f, y)])) a (exo a C (some dx))) s' → Q () s') : wpAny (model X.prog X.w) A (setAttr (.ref a) f u) Q E s := by
  obtain ⟨nm, q, N, bs, sn, sub, ab, col, dd, k0, k1, k2, k3, k5, hC⟩ := T.cls
  have hcl : PySem.W.clsIn X.K C = some { name := nm, bases := bs, mro := .ref C :: bm, ns := N, qualname := q, hasDict := true, slotNames := sn, subclasses := sub, abstract := ab, collection := col, hasDel := false } := by
    unfold PySem.W.clsIn
    rw [hC]
  obtain ⟨t1, ho⟩ := exo_at I.hok e
  obtain ⟨hp, g, d, t, os⟩ := s
  refine PySem.W.set_plain I.kIn (ox := { cls := .ref C, dict := none, data := .fields #[.ref t1, .none, .none, .none, .bool false, .none] }) (od := none) ⟨ho, rfl, rfl, trivial⟩ T.sa ?_
  refine PySem.HBX.osaB I.kIn ho hcl rfl T.pass T.ob rfl hno (fun h' tk' dx k dn dne hx hn => ?_)
  have hnd : H dx = none := I.hok.fresh dn
  have nd : ∀ {b : Addr} {o : Obj}, hp.get? b = some o → b ≠ dx := fun {b o} q => Nat.ne_of_lt (Nat.lt_of_lt_of_le (Heap.lt_size q) dn)
  have na : ∀ {b : Addr}, H b = none → b ≠ a := fun {b} n z => by
    rw [z, e] at n
    cases n
  have U : Un X.fs [] H (upd (upd H dx (exd dx [(f, y)])) a (exo a C (some dx))) hp h' :=
    ⟨fun b o q n _ _ => k b o (na n) q, fun b o q n _ _ => ⟨o.slots, k b o (na n) q⟩, fun b o q n _ => by rw [upd_ne (na n), upd_ne (nd q)]; exact n,
      fun b o q _ => by
        by_cases hb : b = a
        · exact ⟨_, by rw [hb]; exact hx⟩
        · exact ⟨o, k b o hb q⟩,
      fun b xs q => by rw [upd_ne (at_ne e q exo_tup), upd_ne (ne_of_none q hnd)]; exact q,
      fun b o v q => by rw [upd_ne (at_ne e q exo_frz), upd_ne (ne_of_none q hnd)]; exact q,
      fun b ps q => ⟨#[], by rw [upd_ne (at_ne e q exo_tbl), upd_ne (ne_of_none q hnd), q]; simp⟩⟩
  refine h dx _ hnd dne (I.un (t' := tk') U fun b o q => ?_)
  by_cases hb : b = a
  · subst hb
    rw [upd_same] at q
    cases q
    exact exo_ok hx
  · rw [upd_ne hb] at q
    by_cases hd : b = dx
    · subst hd
      rw [upd_same] at q
      cases q
      exact exd_ok hn (relO_put (fs := []) ry fun g => True.intro)
    · rw [upd_ne hd] at q
      exact (I.hok b o q).stay (fun c v hc z => k c v (by
          rcases hc with hc | hc
          · rw [hc]
            exact hb
          · exact at_ne e hc exo_own) z)
        (fun c hc => by rw [upd_ne (at_ne e hc exo_own), upd_ne (ne_of_none hc hnd)]; exact hc) (fun c xs hc => by rw [upd_ne (at_ne e hc exo_tup), upd_ne (ne_of_none hc hnd)]; exact hc)
theorem binit_ok {us : List Value} {Q : Value → Shared → Prop} (T : XB X.K C B newId initId bm) (I : Inv X pins σ H s) (e : H a = some (exo a C none)) (hl : us.length ≤ sizeLine) (h : ∀ s', Inv X pins σ H s' → Q .none s') :
    wpAny (model X.prog X.w) A (call (.builtin initId) (.ref a :: us)) Q E s := by
  obtain ⟨nm, q, N, bs, sn, sub, ab, col, dd, k0, k1, k2, k3, k5, hC⟩ := T.cls
  obtain ⟨t1, ho⟩ := exo_at I.hok e
  obtain ⟨hp, g, d, t, os⟩ := s
  refine wpAny_call (PySem.HandSPX.init_base T.bf (fun Y => rfl) (I.kIn _ _ hC) ho hl fun h' t2 k hx => ?_)
  have J := I.write (t' := t) (x := a) (e := a) (o := exo a C none) (by rw [e]; exact True.intro) (.inl rfl) k ⟨_, hx⟩ (exo_ok hx)
  have eu : upd H a (exo a C none) = H := by
    funext b
    by_cases hb : b = a
    · rw [hb, upd_same, e]
    · rw [upd_ne hb]
  rw [eu] at J
  exact h _ J
end
/-! ### readings and rules -/
/-- B.__init__(self, ..) -/
def tBI (K : PySem.W.Frag) (B newId initId : String) (bm : List Value) (ta : TA) : TE := fun σ H Q => ta σ H fun vs H1 => ∃ (a C : Addr) (ws : List V), vs = .ref a :: ws ∧ ws.length ≤ 1000 ∧ XB K C B newId initId bm ∧ H1 a = some (exo a C none) ∧ Q .non H1
/-- self.f = e, the first field -/
def tBst (K : PySem.W.Frag) (B newId initId : String) (bm : List Value) (f : Str) (to te : TE) : TS := fun D σ H => te σ H fun y H1 => to σ H1 fun x H2 => ∃ a C : Addr, x = .ref a ∧ XB K C B newId initId bm ∧ PySem.W.findIn K (.ref C) f = some none ∧
  H2 a = some (exo a C none) ∧ ∀ dx, H2 dx = none → dx ≠ a → D.nx σ (upd (upd H2 dx (exd dx [(f, y)])) a (exo a C (some dx)))
/-- C(e, ..), C's own __init__ keeping sp: the error as a value -/
def tMkx (C : Addr) (sp : Sp) (dvs : List V) (ta : TA) : TE := fun σ H Q => ta σ H fun vs H1 => vs.length ≤ 1000 ∧ ∀ a, H1 a = none → sp (.ref a :: (vs ++ dvs)) (upd H1 a (exo a C none)) (fun v H2 => v = .non ∧ Q (.ref a) H2) E0
section
variable {X : Cx} {o e : Expr} {es : List Expr} {to te : TE} {ta : TA} {f : Str} {p p' p1 p2 pos : Pos} {B newId initId : String} {bm : List Value}
theorem pe_binit {xB : Str} {pl : Sem Bool} (hg : Gl X xB) (hm : X.mg xB = none) (hbt : bootBuiltins xB = some (.type B)) (hty : typeOf (.type B) = pure (.type "type")) (hst : Manifest.isStub B = false) (hhi : PySem.W.handedIn (.builtin initId) = true)
    (vV : PySem.W.findCls X.K (.type B) (.type "type") "__init__" = some (.val (.builtin initId))) (ha : PA X (e :: es) ta) (hn : xB ≠ "__name__" := by decide) (hdb : (xB == ("__debug__" : Str)) = false := by decide)
    (hc : eval (.Call (.Attribute (.Name xB p1) "__init__" p2) (e :: es) [] pos) X.env = (do
      let ov ← eval (.Name xB p1) X.env
      standAt p2.atName
      let (f, first) ← holding [ov] (getMethod ov "__init__" pl)
      callWith pos f first (backTo pos (starEach (e :: es) X.env)) (backToKw pos (keywordEach [] X.env))) := by rfl)
    (he : starEach (e :: es) X.env = (false, eval e X.env) :: starEach es X.env := by rfl) (hpl : (backTo pos (starEach es X.env)).any (·.1) = false := by rfl) :
    PE X (.Call (.Attribute (.Name xB p1) "__init__" p2) (e :: es) [] pos) (tBI X.K B newId initId bm ta) := by
  refine ⟨fun pins s σ H Q I h => ?_⟩
  refine PySem.W.methodCall_KW (ld_blt I hg hm hbt ?_ hn hdb) hc
  obtain ⟨m, fr⟩ := I.fr
  refine PySem.W.method_type fr I.ok.mod.kin hty hst vV hhi ?_
  show wpAny _ _ (callWith pos (Value.builtin initId) [] (backTo pos (starEach (e :: es) X.env)) []) _ _ _
  refine PyProof.Rows.callWith_method1 (thn (ha.run pos pins _ σ H _ (I.tok _) h) fun us s1 ⟨vs, H1, I1, r1, a, C, ws, ev, hl, T, ea, q⟩ => ?_) he hpl
  subst ev
  cases r1 with
  | @cons _ u0 _ ur ra rest =>
    obtain rfl : u0 = Value.ref a := ra
    have hlen : ur.length ≤ sizeLine := by
      rw [← Paired.length rest, sizeLine_eq]
      omega
    exact binit_ok T I1 ea hlen fun s' J => ⟨.non, H1, J, rfl, q⟩
theorem ps_bst (ho : PE X o to) (he : PE X e te) (hs : swapsWith e (some (.Attribute o f p')) pos.line X.env = pure false := by rfl) : PS X (.Assign [.Attribute o f p'] e pos) (tBst X.K B newId initId bm f to te) := by
  refine ⟨fun pins s σ H D I h => ?_⟩
  refine plainObj_wpAny_Assign_Attribute (thn (he.run pins s σ H _ I h) fun v s1 ⟨y, H1, I1, r1, q1⟩ => thn (ho.run pins s1 σ H1 _ I1 q1) fun u s2 ⟨x, H2, I2, r2, a, C, ex, T, hno, ea, q⟩ => ?_) hs
  subst ex
  obtain rfl : u = Value.ref a := r2
  exact bst_new T I2 ea hno r1 fun dx s' n ne J => ⟨σ, _, J, q dx n ne⟩
/-- the class's call: a new exception, then __init__ -/
theorem mkx_run {CX : CXT} {pins : List (Addr × Obj)} {σ : L2.St} {H1 : Hp} {s1 : Shared} {C fI : Addr} {k : Nat} {fd : FuncData} {ps : List Str} {sp : Sp} {us zs : List Value} {vs : List V} {kw : List (Str × Value)} {Q : VK} (T : XB X.K C B newId initId bm)
    (iC : PySem.W.findIn X.K (.ref C) "__init__" = some (some (.ref fI))) (tI : PySem.W.typeIn X.K (.ref fI) = some (.type "function")) (F1 : FnOk X.prog X.w X.K X.mg X.base CX k fI fd ps sp) (hr : Room (k + 1) X.A) (hx : Passes CX X E0) (I1 : Inv X pins σ H1 s1)
    (hb : ∀ (s : Shared) (x : Value), X.K.In s.heap → BindsTo s fd ⟨x :: us, kw⟩ (ps.zip (x :: zs))) (r1 : Vals vs zs) (hus : us.length ≤ sizeLine)
    (q1 : ∀ a, H1 a = none → sp (.ref a :: vs) (upd H1 a (exo a C none)) (fun v H2 => v = .non ∧ Q (.ref a) H2) E0) :
    codeAny (model X.prog X.w) X.A (.call (.ref C) ⟨us, kw⟩) (fun r s' => match r with | .ok (.ret v) => EP X pins σ Q v s' | .ok _ => False | .error er => X.xe er s') s1 := by
  obtain ⟨nm, q, N, bs, sn, sub, ab, col, dd, k0, k1, k2, k3, k5, hC⟩ := T.cls
  obtain ⟨hp, g, dr, tk, os⟩ := s1
  have hsz : hp.objs.size ≤ hp.objs.size + 1 := Nat.le_succ _
  have hn : H1 (hp.objs.size + 1) = none := I1.hok.fresh hsz
  have kk : ∀ b o, hp.get? b = some o → ((hp.push (PySem.W.kdv_tup us)).push (PySem.HandSPX.excO C hp.objs.size)).get? b = some o := fun b o e => Heap.get?_push_of_some _ (Heap.get?_push_of_some _ e)
  have hget : ((hp.push (PySem.W.kdv_tup us)).push (PySem.HandSPX.excO C hp.objs.size)).get? (hp.objs.size + 1) = some (PySem.HandSPX.excO C hp.objs.size) := by heap_get
  have I2 : Inv X pins σ (upd H1 (hp.objs.size + 1) (exo (hp.objs.size + 1) C none)) ⟨(hp.push (PySem.W.kdv_tup us)).push (PySem.HandSPX.excO C hp.objs.size), g, dr, tk, os⟩ :=
    I1.laid (t' := tk) (a := hp.objs.size + 1) (o := exo (hp.objs.size + 1) C none) (h' := (hp.push (PySem.W.kdv_tup us)).push (PySem.HandSPX.excO C hp.objs.size)) kk hsz (exo_ok hget)
  refine PySem.HBX.callKw T.bf (I1.kIn _ _ hC) (PySem.W.looks_findIn I1.kIn iC) (fun self => PySem.W.bind_fn I1.kIn self tI) hus ?_
  refine codeAny_mono (F1.run _ X.stack _ _ ⟨Value.ref (hp.objs.size + 1) :: us, kw⟩ (Value.ref (hp.objs.size + 1) :: zs) (V.ref (hp.objs.size + 1) :: vs) _ E0 (hr.make C us kw) (I2.env0.make C us kw) (hb _ _ I2.kIn) (.cons rfl r1) (q1 _ hn)) fun r s' hq' => ?_
  cases r with
  | error er => exact hx pins σ _ _ er s' I2 hq'
  | ok fl =>
    cases fl with
    | ret u =>
      obtain ⟨v, H2, os2, bare2, un2, hok2, rv, ev, q2⟩ := hq'
      subst ev
      exact ⟨rv, .ref _, H2, I2.call' (ch := []) os2 un2 hok2 bare2 (fun b z => absurd z (by simp)), rfl, q2⟩
    | next => exact False.elim hq'
    | brk => exact False.elim hq'
    | cont => exact False.elim hq'

/-- C(e, ..) -/
theorem pe_mkx {CX : CXT} {x : Str} {C fI : Addr} {k : Nat} {fd : FuncData} {ps : List Str} {sp : Sp} (T : XB X.K C B newId initId bm) (iC : PySem.W.findIn X.K (.ref C) "__init__" = some (some (.ref fI))) (tI : PySem.W.typeIn X.K (.ref fI) = some (.type "function"))
    (F1 : FnOk X.prog X.w X.K X.mg X.base CX k fI fd ps sp) (hr : Room (k + 1) X.A) (hb : Binds X.K fd ps []) (hx : Passes CX X E0) (hg : Gl X x) (hm : X.mg x = some (.ref C)) (ha : PA X (e :: es) ta)
    (hdb : (x == ("__debug__" : Str)) = false := by decide) (he : starEach (e :: es) X.env = (false, eval e X.env) :: starEach es X.env := by rfl) (hpl : (backTo pos (starEach es X.env)).any (·.1) = false := by rfl) :
    PE X (.Call (.Name x p) (e :: es) [] pos) (tMkx C sp [] ta) := by
  refine ⟨fun pins s σ H Q I h => ?_⟩
  refine wpAny_Call_Name_kw (ld_glob I hg hm ?_ hdb)
  refine PySem.W.callWith_K (h₀ := X.base) I.ok.mod.kin T.kC (thn (ha.run pos pins s σ H _ I h) fun us s1 ⟨vs, H1, I1, r1, hz, q1⟩ => ⟨I1.kIn, ?_⟩) he hpl
  rw [List.append_nil] at q1
  have hl : us.length + 1 = ps.length := by
    have z := F1.len _ _ _ _ (q1 _ (I1.hok.fresh (Nat.le_refl _)))
    rw [List.length_cons, r1.length] at z
    exact z
  show wpAny _ _ (call (.ref C) us) _ _ _
  refine wpAny_call (mkx_run T iC tI F1 hr hx I1 (fun s' y inK => ?_) r1 (by rw [← r1.length, sizeLine_eq]; omega) q1)
  have z := hb s' (y :: us) inK (by rw [List.append_nil, List.length_cons]; exact hl)
  rw [List.append_nil] at z
  exact z
/-- C() -/
theorem pe_mkx0 {CX : CXT} {x : Str} {C fI : Addr} {k : Nat} {fd : FuncData} {ps : List Str} {sp : Sp} (T : XB X.K C B newId initId bm) (iC : PySem.W.findIn X.K (.ref C) "__init__" = some (some (.ref fI))) (tI : PySem.W.typeIn X.K (.ref fI) = some (.type "function"))
    (F1 : FnOk X.prog X.w X.K X.mg X.base CX k fI fd ps sp) (hr : Room (k + 1) X.A) (hb : Binds X.K fd ps []) (hx : Passes CX X E0) (hg : Gl X x) (hm : X.mg x = some (.ref C)) (hdb : (x == ("__debug__" : Str)) = false := by decide) :
    PE X (.Call (.Name x p) [] [] pos) (tMkx C sp [] tNil) := by
  refine ⟨fun pins s σ H Q I h => ?_⟩
  refine wpAny_Call_Name_kw (ld_glob I hg hm ?_ hdb)
  obtain ⟨_, q1⟩ := h
  rw [List.append_nil] at q1
  have hl : 1 = ps.length := F1.len _ _ _ _ (q1 _ (I.hok.fresh (Nat.le_refl _)))
  refine PySem.W.callWith_K0 I.kIn T.kC (wpAny_call (mkx_run (us := []) (zs := []) (vs := []) T iC tI F1 hr hx I (fun s' y inK => ?_) .nil (by decide) q1))
  exact hb s' [y] inK hl
/-- C(k = e), one keyword for the one parameter -/
theorem pe_mkxK {CX : CXT} {x f : Str} {C fI : Addr} {k : Nat} {fd : FuncData} {sp : Sp} {kws : List Keyword} {tk : TA} (T : XB X.K C B newId initId bm) (iC : PySem.W.findIn X.K (.ref C) "__init__" = some (some (.ref fI))) (tI : PySem.W.typeIn X.K (.ref fI) = some (.type "function"))
    (F1 : FnOk X.prog X.w X.K X.mg X.base CX k fI fd ["self", f] sp) (hr : Room (k + 1) X.A) (hb : ∀ (s : Shared) (y z : Value), X.K.In s.heap → BindsTo s fd ⟨[y], [(f, z)]⟩ [("self", y), (f, z)]) (hx : Passes CX X E0) (hg : Gl X x) (hm : X.mg x = some (.ref C)) (hkw : PK X kws tk)
    (hall : (backToKw pos (keywordEach kws X.env)).all (·.1.isSome) = true := by rfl) (hks : (backToKw pos (keywordEach kws X.env)).filterMap (·.1) = [f] := by rfl) (hdb : (x == ("__debug__" : Str)) = false := by decide)
    (hpl : ((backTo pos (starEach [] X.env)).any (·.1) || (backToKw pos (keywordEach kws X.env)).any (·.1.isNone)) = false := by rfl) :
    PE X (.Call (.Name x p) [] kws pos) (tMkx C sp [] tk) := by
  refine ⟨fun pins s σ H Q I h => ?_⟩
  refine wpAny_Call_Name_kw (ld_glob I hg hm ?_ hdb)
  refine PySem.W.callWith_KW0 (h₀ := X.base) I.ok.mod.kin T.kC hall ?_ hpl
  refine thn (hkw.run pos pins s σ H _ I h) fun ws s2 ⟨zs, H2, I2, rz, _, q2⟩ => ⟨I2.kIn, ?_⟩
  rw [hks]
  rw [List.append_nil] at q2
  have hl : zs.length + 1 = 2 := F1.len _ _ _ _ (q2 _ (I2.hok.fresh (Nat.le_refl _)))
  obtain ⟨v, rfl⟩ : ∃ v, zs = [v] := by
    cases zs with
    | nil => simp at hl
    | cons v r =>
      cases r with
      | nil => exact ⟨v, rfl⟩
      | cons _ _ => simp at hl
  obtain ⟨z, rfl, r1⟩ := vals1 rz
  have go := mkx_run (us := []) (kw := [(f, z)]) (zs := [z]) (vs := [v]) T iC tI F1 hr hx I2 (fun s' y inK => hb s' y z inK) (.cons r1 .nil) (by decide) q2
  exact wpAny_call go
end
end HB
namespace PySem.W
section
variable {prog : Program} {w : World} {A : Around} {E : Value → Shared → Prop} {s : Shared} {K : Frag} {x D : Addr} {ox : Obj} {od : Option Obj}
theorem hb_find {C : Addr} {name : Str} {a g : Value} (hc : (clsIn K C).isSome = true) (ha : findIn K (.ref C) name = some (some a)) (hg : specialIn K a "__get__" = some (some g)) (ht : takesIn K a = some true) : findObj K C od name = some (.bind g a) := by
  obtain ⟨cd, hc⟩ := Option.isSome_iff_exists.mp hc
  unfold findObj
  rw [hc, Option.bind_some, ha, Option.bind_some]
  simp [hg, ht]
theorem hb_class {Q : Option Value → Shared → Prop} (C : L2.ExcC K D) (inK : K.In s.heap) (I : InstAt s.heap x ox D od) (h : Q (some (.ref D)) { s with toks := s.toks + 1 }) : wpAny (model prog w) A (getAttr? (.ref x) "__class__") Q E s := by
  have hf : findObj K D od "__class__" = some (.bind (.builtin "getset_descriptor.__get__") (.builtin "object.__class__")) :=
    hb_find (by obtain ⟨cd, hc, _⟩ := any_some C.hd; rw [hc]; rfl) C.ha C.hn C.ht
  obtain ⟨hp, g, d, t, os⟩ := s
  have l0 := I.type (M := model prog w)
  have l1 := looks_findIn (M := model prog w) inK C.hg
  have l2 := looks_findIn (M := model prog w) inK C.hk
  have l3 := looks_find (M := model prog w) inK I hf
  have isE : Looks (model prog w) hp (isInstance (.ref x) (.type "BaseException")) true := l0.andThen (looks_subIn inK C.hs)
  have x2 : (Value.builtin "BaseException.__getattribute__" == Value.builtin "object.__getattribute__") = false := by decide +kernel
  have x1 : (onTheHeap (Value.ref D) && Value.builtin "BaseException.__getattribute__" == Value.builtin "object.__getattribute__") = false := by rw [x2]; rfl
  unfold getAttr? getAttrBy? getAttrBy
  refine wpAny_bind (wpAny_mkText (wpAny_bind (wpAny_attempt (wpAny_holding (wpAny_bind (l0.at (wpAny_bind (l1.at ?_))))))))
  show wpAny _ _ (if (onTheHeap (Value.ref D) && Value.builtin "BaseException.__getattribute__" == Value.builtin "object.__getattribute__") = true then _ else _) _ _ _
  rw [x1, if_neg Bool.false_ne_true]
  unfold getAttrByItsOwn hookBefore
  refine wpAny_bind ?_
  rw [if_pos (show onTheHeap (Value.ref D) = true from rfl)]
  refine l2.at (wpAny_bind (wpAny_attempt (wpAny_holding ?_)))
  unfold callGetattribute
  rw [show (false && onTheHeap (Value.builtin "BaseException.__getattribute__")) = false from rfl, if_neg Bool.false_ne_true]
  unfold boundAndCalled
  rw [PySem.F.excAttr_ValueError.ga.bind (.ref x)]
  refine wpAny_bind (wpAny_pure ?_)
  show wpAny _ _ (call (.builtin "BaseException.__getattribute__") [.ref x, .str "__class__" t]) _ _ _
  refine wpAny_call (codeAny_call_builtin PySem.F.excAttr_ValueError.ga.plain PySem.F.entry_bexc_ga ?_)
  refine @check_slot (model prog w) _ _ ⟨hp, g, d, t + 1, os⟩ "BaseException.__getattribute__" "BaseException" "__getattribute__" (.ref x) [.str "__class__" t] [] _ (by decide +kernel) (by decide +kernel) isE (PySem.F.args_bexc_ga (.ref x) (.str "__class__" t)) ?_
  unfold Builtin.«object.__getattribute__»
  refine wpAny_bind (wpAny_of_eq (a := ((Value.ref x : Value), [Value.str "__class__" t])) (by first | rfl | (simp only [slotArgs]; rfl)) ?_)
  refine wpAny_bind (wpAny_pure (wpAny_bind (l0.at (wpAny_bind (l3.at ?_)))))
  show wpAny _ _ (holding [Value.builtin "object.__class__"] (call (.builtin "getset_descriptor.__get__") [.builtin "object.__class__", .ref x, .ref D]) >>= ret) _ _ _
  refine wpAny_bind (wpAny_holding (wpAny_call (class_get (s := ⟨hp, g, d, t + 1, os⟩) (ox := ox) (od := od) inK I C.hm ?_)))
  refine wpAny_pure ?_
  show wpAny _ _ (handedOut (.ref D)) _ _ _
  rw [handedOut_of (v := .ref D) rfl]
  first
    | exact wpAny_pure (wpAny_pure h)
    | exact wpAny_pure h
    | exact wpAny_pure (wpAny_bind (wpAny_pure (wpAny_pure h)))
theorem hb_kit (C : L2.ExcC K D) : KitX K (.ref x) (.ref D) (fun h => InstAt h x ox D od) where
  ty := fun _ _ _ I => I.type
  it := fun _ _ inK _ => by
    obtain ⟨cdD, hcD, _⟩ := any_some C.hd
    unfold clsIn at hcD
    split at hcD
    · rename_i c' d' cd' sl' ho
      intro A' Q' E' s' k q
      unfold isType loadHead
      exact wpAny_bind (wpAny_loadPart (k _ _ (inK _ _ ho)) (wpAny_pure q))
    · cases hcD
  ne := fun h tp dd its n sl inK htp => by
    obtain ⟨cdD, hcD, _⟩ := any_some C.hd
    refine Bool.eq_false_iff.mpr fun q => ?_
    obtain rfl : D = tp := Value.ref.inj (beq_iff_eq.mp q)
    unfold clsIn at hcD
    split at hcD
    · rename_i c' d' cd' sl' ho
      exact nomatch (inK _ _ ho).symm.trans htp
    · cases hcD
  ca := fun inK I k => hb_class C inK I k
end
end PySem.W
namespace HB
open PySem PySem.Spec PyProof.Rows L2 Evl
/-- an error that was made, of the class at C, with these fields -/
def Er (H : Hp) (a C : Addr) : List (Str × V) → Prop
  | [] => H a = some (exo a C none)
  | fs => ∃ dx, H a = some (exo a C (some dx)) ∧ H dx = some (exd dx fs)
theorem Er.mono {H H' : Hp} (e : Ex H H') {a C : Addr} : ∀ {fs : List (Str × V)}, Er H a C fs → Er H' a C fs
  | [], h => e _ _ h
  | _ :: _, ⟨dx, h1, h2⟩ => ⟨dx, e _ _ h1, e _ _ h2⟩
section
variable {X : Cx} {pins : List (Addr × Obj)} {σ : L2.St} {H : Hp} {s : Shared}
theorem er_inst (I : Inv X pins σ H s) {a C : Addr} {fs : List (Str × V)} (h : Er H a C fs) : ∃ ox od, PySem.W.InstAt s.heap a ox C od := by
  cases fs with
  | nil =>
    obtain ⟨t1, ho⟩ := exo_at I.hok h
    exact ⟨_, none, ho, rfl, rfl, trivial⟩
  | cons p r =>
    obtain ⟨dx, h1, h2⟩ := h
    obtain ⟨t1, ho⟩ := exo_at I.hok h1
    obtain ⟨mA, ⟨od, es, ep, hd, _⟩, _⟩ := exd_at I.hok h2
    exact ⟨_, some od, ho, rfl, rfl, hd⟩
/-- isinstance(e, c) -/
def rIsx (K : PySem.W.Frag) : List V → Hp → VK → Prop := fun xs H Q => ∃ (a C : Addr) (fs : List (Str × V)) (c : V) (cv : Value) (b : Bool), xs = [.ref a, c] ∧ Er H a C fs ∧ ExcC K C ∧ ClsV c cv ∧ PySem.W.kitOne K (.ref C) cv = some b ∧ Q (.bl b) H
theorem call_isx : CallR X (.builtin "isinstance") (rIsx X.K) := by
  intro pins s σ H xs us Q I r h
  obtain ⟨a, C, fs, c, cv, b, rfl, he, hC, k, e, q⟩ := h
  obtain ⟨u1, u2, rfl, r1, r2⟩ := vals2 r
  obtain rfl := k.eq r2
  cases r1
  obtain ⟨ox, od, J⟩ := er_inst I he
  exact PySem.W.kia_one (PySem.W.hb_kit hC) I.kIn J e (fun z => nomatch z) fun tk => ⟨.bl b, H, I.kept (t' := tk) fun _ _ z => z, rfl, q⟩
/-- e.f -/
def tEf (K : PySem.W.Frag) (f : Str) (te : TE) : TE := fun σ H Q => te σ H fun x H1 => ∃ (a C : Addr) (p : Str × V) (fs : List (Str × V)) (v : V), x = .ref a ∧ Er H1 a C (p :: fs) ∧ ExcC K C ∧ PySem.W.findIn K (.ref C) f = some none ∧ (p :: fs).lookup f = some v ∧ Q v H1
theorem pe_ef {e : Expr} {te : TE} {pos : Pos} {f : Str} (he : PE X e te) (hb : attributeBase e f X.env (eval e X.env) = eval e X.env := by rfl) : PE X (.Attribute e f pos) (tEf X.K f te) := by
  refine ⟨fun pins s σ H Q I h => ?_⟩
  refine attr_of hb (thn (he.run pins s σ H _ I h) fun u s1 hh => ?_)
  obtain ⟨x, H1, I1, rx, a, C, p, fs, v, rfl, ⟨dx, ea, ed⟩, hC, hno, l, q⟩ := hh
  obtain rfl : u = Value.ref a := rx
  obtain ⟨t1, ho⟩ := exo_at I1.hok ea
  obtain ⟨mA, hns, hr⟩ := exd_at I1.hok ed
  obtain ⟨od, hd, hl⟩ := lookIn_ns hns
  obtain ⟨u, hu, ru⟩ := RelO.some_of (v := v) (o := mA f) (by rw [← l]; exact hr f)
  have J : PySem.W.InstAt s1.heap a _ C (some od) := ⟨ho, rfl, rfl, hd⟩
  exact HandSPX.exc_get I1.kIn J hC.hg hC.hk hC.hs (PySem.W.findObj_own hC.hd hno rfl (by rw [hl, hu])) (handed_of ru) ⟨v, H1, I1.tok _, ru, q⟩
end
end HB
namespace HB
open PySem PySem.Spec PyProof.Rows L2 Evl
/-! ### readings by what is told of the value -/
def ER (te : TE) (σ : L2.St) (H : Hp) (P : V → Hp → Prop) : Prop := ∀ H1, Ex H H1 → ∀ Q : VK, (∀ v H2, Ex H1 H2 → P v H2 → Q v H2) → te σ H1 Q
def EA (ta : TA) (σ : L2.St) (H : Hp) (P : List V → Hp → Prop) : Prop := ∀ H1, Ex H H1 → ∀ Q : List V → Hp → Prop, (∀ vs H2, Ex H1 H2 → P vs H2 → Q vs H2) → ta σ H1 Q
def Mono {α : Type} (P : α → Hp → Prop) : Prop := ∀ v H H', Ex H H' → P v H → P v H'
/-- a list that was just made, P of its items -/
def NewL (P : List V → Hp → Prop) : V → Hp → Prop := fun v H => ∃ p xs, v = .ref p ∧ H p = some (.lst xs) ∧ P xs H
def NewT (P : List V → Hp → Prop) : V → Hp → Prop := fun v H => ∃ p xs, v = .ref p ∧ H p = some (.tup xs) ∧ P xs H
section
variable {K : PySem.W.Frag} {σ : L2.St} {H H' : Hp} {te ta tb : TE} {tl tr : TA} {v x y : V} {P R : V → Hp → Prop} {PA_ RA_ : List V → Hp → Prop} {D : Ends} {tz tu tw : TS} {t : TT}
theorem ER.mono (h : ER te σ H P) (e : Ex H H') : ER te σ H' P := fun H1 e1 => h H1 (e.trans e1)
theorem ER.imp (h : ER te σ H P) (k : ∀ v H2, Ex H H2 → P v H2 → R v H2) : ER te σ H R := fun H1 e Q q => h H1 e Q fun v H2 e2 p => q v H2 e2 (k v H2 (e.trans e2) p)
theorem EA.imp (h : EA tl σ H PA_) (k : ∀ v H2, Ex H H2 → PA_ v H2 → RA_ v H2) : EA tl σ H RA_ := fun H1 e Q q => h H1 e Q fun v H2 e2 p => q v H2 e2 (k v H2 (e.trans e2) p)
theorem ER.ev (h : Ev te σ H v) : ER te σ H (fun x _ => x = v) := fun H1 e Q q => h H1 e Q fun H2 e2 => q v H2 e2 rfl
theorem Ev.er (h : ER te σ H (fun x _ => x = v)) : Ev te σ H v := fun H1 e Q q => h H1 e Q fun x H2 e2 z => z ▸ q H2 e2
theorem EA.ev {vs : List V} (h : EvA tl σ H vs) : EA tl σ H (fun x _ => x = vs) := fun H1 e Q q => h H1 e Q fun H2 e2 => q vs H2 e2 rfl
theorem ER.evP (h : Ev te σ H v) (p : P v H) (m : Mono P) : ER te σ H P := fun H1 e Q q => h H1 e Q fun H2 e2 => q v H2 e2 (m _ _ _ (e.trans e2) p)
theorem ea_nil' (p : PA_ [] H) (m : Mono PA_) : EA tNil σ H PA_ := fun H1 e _ q => q [] H1 (Ex.refl H1) (m _ _ _ e p)
theorem ea_cons' (h : ER te σ H P) (hr : EA tr σ H PA_) (m : Mono P) (k : ∀ v vs H2, Ex H H2 → P v H2 → PA_ vs H2 → RA_ (v :: vs) H2) : EA (tCons te tr) σ H RA_ := fun H1 e _ q =>
  h H1 e _ fun v H2 e2 p => hr H2 (e.trans e2) _ fun vs H3 e3 r => q (v :: vs) H3 (e2.trans e3) (k v vs H3 ((e.trans e2).trans e3) (m _ _ _ e3 p) r)
theorem er_lst (h : EA tl σ H PA_) (m : Mono PA_) (hz : ∀ xs H2, PA_ xs H2 → xs.length ≤ 100000) : ER (tLst tl) σ H (NewL PA_) := fun H1 e _ q =>
  h H1 e _ fun xs H2 e2 p => ⟨sz_of (hz xs H2 p), fun a ha => q (.ref a) _ (e2.trans (Ex.new ha)) ⟨a, xs, rfl, upd_same, m _ _ _ (Ex.new ha) p⟩⟩
theorem er_tup (h : EA tl σ H PA_) (m : Mono PA_) (hz : ∀ xs H2, PA_ xs H2 → xs.length ≤ 100000) : ER (tTup tl) σ H (NewT PA_) := fun H1 e _ q =>
  h H1 e _ fun xs H2 e2 p => ⟨sz_of (hz xs H2 p), fun a ha => q (.ref a) _ (e2.trans (Ex.new ha)) ⟨a, xs, rfl, upd_same, m _ _ _ (Ex.new ha) p⟩⟩
theorem newL_mono (m : Mono PA_) : Mono (NewL PA_) := fun _ _ _ e ⟨p, xs, z, h, q⟩ => ⟨p, xs, z, e _ _ h, m _ _ _ e q⟩
theorem newT_mono (m : Mono PA_) : Mono (NewT PA_) := fun _ _ _ e ⟨p, xs, z, h, q⟩ => ⟨p, xs, z, e _ _ h, m _ _ _ e q⟩
/-- xs + ys -/
theorem er_cat {PB RB : List V → Hp → Prop} (ha : ER ta σ H (NewL PA_)) (hb : ER tb σ H (NewL PB)) (m1 : Mono PA_) (m2 : Mono PB) (hz : ∀ xs ys H2, PA_ xs H2 → PB ys H2 → xs.length + ys.length ≤ 100000)
    (k : ∀ xs ys H2, Ex H H2 → PA_ xs H2 → PB ys H2 → RB (xs ++ ys) H2) : ER (tOp rCat ta tb) σ H (NewL RB) := fun H1 e _ q =>
  ha H1 e _ fun v H2 e2 p => hb H2 (e.trans e2) _ fun u H3 e3 r => by
    obtain ⟨a, xs, rfl, h1, p1⟩ := newL_mono m1 _ _ _ e3 p
    obtain ⟨b, ys, rfl, h2, p2⟩ := r
    refine ⟨a, b, xs, ys, rfl, rfl, h1, h2, sz_of (hz xs ys H3 p1 p2), fun c hc => ?_⟩
    have en := Ex.new (o := HO.lst (xs ++ ys)) hc
    exact q (.ref c) _ ((e2.trans e3).trans en) ⟨c, _, rfl, upd_same, k xs ys _ (((e.trans e2).trans e3).trans en) (m1 _ _ _ en p1) (m2 _ _ _ en p2)⟩
/-- a list that stands -/
theorem er_at {i : Nat} {p : Addr} {xs : List V} (hs : σ[i]? = some (some (.ref p))) (h : H p = some (.lst xs)) (q : PA_ xs H) (m : Mono PA_) : ER (tVar i) σ H (NewL PA_) := ER.evP (ev_var hs) ⟨p, xs, rfl, h, q⟩ (newL_mono m)
theorem s_asgR {i : Nat} (h : ER te σ H P) (k : ∀ v H1, Ex H H1 → P v H1 → D.nx (σ.set i (some v)) H1) : tAsg te (gName i) D σ H := h H (Ex.refl H) _ fun v H1 e p => k v H1 e p
theorem q_asgR {i : Nat} (h : ER te σ H P) (k : ∀ v H1, Ex H H1 → P v H1 → tz D (σ.set i (some v)) H1) : tSeq (tAsg te (gName i)) tz D σ H := s_asgR (D := { D with nx := tz D }) h k
theorem s_retR (h : ER te σ H P) (k : ∀ v H1, Ex H H1 → P v H1 → D.rt v H1) : tRet te D σ H := h H (Ex.refl H) _ fun v H1 e p => k v H1 e p
theorem er_cb {r : List V → Hp → VK → Prop} (h : EA tl σ H PA_) (k : ∀ vs H1, Ex H H1 → PA_ vs H1 → ∀ Q : VK, (∀ v H2, Ex H1 H2 → P v H2 → Q v H2) → r vs H1 Q) : ER (tCB r tl) σ H P := fun H1 e Q q =>
  h H1 e _ fun vs H2 e2 p => k vs H2 (e.trans e2) p Q fun v H3 e3 z => q v H3 (e2.trans e3) z
theorem er_call {sp : Sp} {dvs : List V} {E : XK} (h : EA tl σ H PA_) (k : ∀ vs H1, Ex H H1 → PA_ vs H1 → ∀ Q : VK, (∀ v H2, Ex H1 H2 → P v H2 → Q v H2) → sp (vs ++ dvs) H1 Q E) : ER (tCall sp dvs E tl) σ H P := fun H1 e Q q =>
  h H1 e _ fun vs H2 e2 p => k vs H2 (e.trans e2) p Q fun v H3 e3 z => q v H3 (e2.trans e3) z
theorem er_op {r : R2} (ha : ER ta σ H P) (hb : ER tb σ H R) (m : Mono P) {S : V → Hp → Prop} (k : ∀ x y H1, Ex H H1 → P x H1 → R y H1 → ∀ Q : VK, (∀ v H2, Ex H1 H2 → S v H2 → Q v H2) → r x y H1 Q) : ER (tOp r ta tb) σ H S := fun H1 e Q q =>
  ha H1 e _ fun x H2 e2 p => hb H2 (e.trans e2) _ fun y H3 e3 p2 => k x y H3 ((e.trans e2).trans e3) (m _ _ _ e3 p) p2 Q fun v H4 e4 z => q v H4 ((e2.trans e3).trans e4) z
theorem et_testR {b : Bool} (h : ER te σ H (fun v _ => v = .bl b)) : EvT (tTest te) σ H b := et_test (Ev.er h)
end
end HB
namespace HB
open PySem PySem.Spec PyProof.Rows L2 Evl
/-! ### the table of the errors -/
def nms0 : List Str := ["DuplicateName", "WrongKind", "WrongCount", "Endless", "InvalidList", "InvalidWeights", "InvalidNumber", "InvalidName", "InUse", "GivenAway", "NotSame"]
def nms1 : List Str := ["CommandError", "UnknownName", "UnknownPoint", "UnknownUnit", "UnknownMoment", "InvalidIndex", "OutOfRange", "NotHeld", "NotFlag", "TooDear", "Leaks"]
def nms2 : List Str := ["TooMany", "TooLong", "InvalidBundle", "InvalidWorld", "InvalidProgram", "Unreadable", "OtherProgram", "NotJoined", "NothingToUndo", "NothingToRedo", "InTrial"]
def nms : List Str := nms0 ++ nms1 ++ nms2
def fls0 : List Str := ["value", "value", "value", "value", "value", "value", "value", "value", "value", "value", "value"]
def fls1 : List Str := ["value", "value", "value", "value", "value", "value", "value", "value", "value", "value", "value"]
def fls2 : List Str := ["limit", "limit", "index", "index", "place", "line", "none", "none", "none", "none", "none"]
def fls : List Str := fls0 ++ fls1 ++ fls2
def bas0 : List Nat := [0, 0, 0, 0, 0, 0, 0, 0, 0, 0, 0]
def bas1 : List Nat := [0, 1, 1, 1, 1, 1, 1, 1, 2, 3, 4]
def bas2 : List Nat := [3, 3, 0, 0, 0, 0, 0, 0, 1, 1, 4]
def bas : List Nat := bas0 ++ bas1 ++ bas2
def nm (i : Nat) : Str := nms.getD i ""
def fl (i : Nat) : Str := fls.getD i ""
def bs (i : Nat) : Nat := bas.getD i 0
def bN (k : Nat) : String := (["ValueError", "LookupError", "TypeError", "OverflowError", "RuntimeError"] : List String).getD k ""
def bS (k : Nat) : Str := (["ValueError", "LookupError", "TypeError", "OverflowError", "RuntimeError"] : List Str).getD k ""
def nI (k : Nat) : String := (["ValueError.__new__", "LookupError.__new__", "TypeError.__new__", "OverflowError.__new__", "RuntimeError.__new__"] : List String).getD k ""
def iI (k : Nat) : String := (["ValueError.__init__", "LookupError.__init__", "TypeError.__init__", "OverflowError.__init__", "RuntimeError.__init__"] : List String).getD k ""
def bM (k : Nat) : List Value := (if k = 3 then [.type "OverflowError", .type "ArithmeticError"] else [.type (bN k)]) ++ [.type "Exception", .type "BaseException", .type "object"]
theorem b_facts : ∀ k, k < 5 → ExcBaseFacts (bN k) (nI k) (iI k) (bM k)
  | 0, _ => F.excBase_ValueError
  | 1, _ => F.excBase_LookupError
  | 2, _ => F.excBase_TypeError
  | 3, _ => F.excBase_OverflowError
  | 4, _ => F.excBase_RuntimeError
  | n + 5, h => absurd h (by omega)
theorem b_pass : ∀ k, k < 5 → ∀ self, PySem.refuseLoop self "__setattr__" (bM k) = pure ()
  | 0, _ => fun self => by kernel_rfl
  | 1, _ => fun self => by kernel_rfl
  | 2, _ => fun self => by kernel_rfl
  | 3, _ => fun self => by kernel_rfl
  | 4, _ => fun self => by kernel_rfl
  | n + 5, h => absurd h (by omega)
theorem b_ob : ∀ k, k < 5 → (bM k).contains (.type "object") = true
  | 0, _ => by decide +kernel
  | 1, _ => by decide +kernel
  | 2, _ => by decide +kernel
  | 3, _ => by decide +kernel
  | 4, _ => by decide +kernel
  | n + 5, h => absurd h (by omega)
theorem bs_lt : ∀ i, i < 33 → bs i < 5 := by decide +kernel
/-! ### the classes as the written part has them -/
def cA (K : PySem.W.Frag) (i : Nat) : Addr := He.ga K (nm i)
def fA (K : PySem.W.Frag) (i : Nat) : Addr := He.ma K (cA K i) "__init__"
def xcB (K : PySem.W.Frag) (C : Addr) (bm : List Value) (newId : String) : Bool := match K.lookup C with
  | some ⟨.type c, _, .cls cd, sl⟩ => decide (c = "type") && (decide (cd.mro = .ref C :: bm) && (cd.hasDict && (!cd.hasDel && (match sl.toList with
    | [_, _, _, _, some (.builtin n), _] => decide (n = newId)
    | _ => false))))
  | _ => false
theorem xcB_ok {K : PySem.W.Frag} {C : Addr} {bm : List Value} {newId : String} (h : xcB K C bm newId = true) : ∃ nm q N bs sn sub ab col dd k0 k1 k2 k3 k5, K.lookup C = some (excClassObj nm q C N bs bm true sn sub ab col dd k0 k1 k2 k3 k5 newId) := by
  unfold xcB at h
  split at h
  · rename_i c dd cd sl ho
    simp only [Bool.and_eq_true, decide_eq_true_eq, Bool.not_eq_true'] at h
    obtain ⟨rfl, hm, hd, hl, hs⟩ := h
    split at hs
    · rename_i k0 k1 k2 k3 n k5 e
      obtain rfl := of_decide_eq_true hs
      obtain ⟨nm, bs, mro, ns, qn, hdc, sn, sub, ab, col, del⟩ := cd
      dsimp only at hm hd hl
      subst hm hd hl
      have hsl : sl = #[k0, k1, k2, k3, some (.builtin n), k5] := by
        obtain ⟨l⟩ := sl
        simp only at e
        rw [e]
      subst hsl
      exact ⟨nm, qn, ns, bs, sn, sub, ab, col, dd, k0, k1, k2, k3, k5, ho⟩
    · cases hs
  · cases h
/-- all that is asked of one class -/
def oneB (K : PySem.W.Frag) (i : Nat) : Bool :=
  xcB K (cA K i) (bM (bs i)) (nI (bs i)) && (decide (PySem.W.nsIn K mainGlobals (nm i) = some (some (.ref (cA K i)))) && (decide (PySem.W.findIn K (.ref (cA K i)) "__setattr__" = some (some (.builtin "object.__setattr__"))) &&
  (PySem.W.keepIn K (.ref (cA K i)) && (decide (PySem.W.findIn K (.ref (cA K i)) "__init__" = some (some (.ref (fA K i)))) && (decide (PySem.W.typeIn K (.ref (fA K i)) = some (.type "function")) &&
  (decide (PySem.W.findIn K (.ref (cA K i)) (fl i) = some none) && (decide (PySem.W.findIn K (.ref (cA K i)) "__getattribute__" = some (some (.builtin "BaseException.__getattribute__"))) &&
  (decide (PySem.W.findIn K (.ref (cA K i)) "__getattr__" = some none) && (decide (PySem.W.subIn K (.ref (cA K i)) (.type "BaseException") = some true) && (PySem.W.hasDictIn K (cA K i) &&
  (decide (PySem.W.findIn K (.ref (cA K i)) "__class__" = some (some (.builtin "object.__class__"))) && (decide (PySem.W.mroIn K (cA K i) (.type "object") = some true) &&
  (((List.range 33).all fun j => decide (PySem.W.kitOne K (.ref (cA K i)) (.ref (cA K j)) = some (decide (i = j)))) && ((List.range 5).all fun k => decide (PySem.W.kitOne K (.ref (cA K i)) (.type (bN k)) = some (decide (bs i = k)))))))))))))))))
def fcB (K : PySem.W.Frag) (k : Nat) : Bool := match PySem.W.findCls K (.type (bN k)) (.type "type") "__init__" with
  | some (.val v) => decide (v = .builtin (iI k))
  | _ => false
theorem fcB_ok {K : PySem.W.Frag} {k : Nat} (h : fcB K k = true) : PySem.W.findCls K (.type (bN k)) (.type "type") "__init__" = some (.val (.builtin (iI k))) := by
  unfold fcB at h
  split at h
  · rename_i v e
    rw [e, of_decide_eq_true h]
  · cases h
def exB (K : PySem.W.Frag) : Bool := ((List.range 33).all fun i => oneB K i) && (((List.range 5).all fun k => fcB K k && decide (PySem.W.nsIn K mainGlobals (bS k) = some none)) &&
  (decide (PySem.W.specialIn K (.builtin "object.__class__") "__get__" = some (some (.builtin "getset_descriptor.__get__"))) && (decide (PySem.W.takesIn K (.builtin "object.__class__") = some true) &&
  (match K.lookup sysModules with
    | some ⟨_, _, .dict _ _, _⟩ => true
    | _ => false))))
structure OneF (K : PySem.W.Frag) (mg : Str → Option Value) (i : Nat) : Prop where
  xb : XB K (cA K i) (bN (bs i)) (nI (bs i)) (iI (bs i)) (bM (bs i))
  mgC : mg (nm i) = some (.ref (cA K i))
  iC : PySem.W.findIn K (.ref (cA K i)) "__init__" = some (some (.ref (fA K i)))
  tI : PySem.W.typeIn K (.ref (fA K i)) = some (.type "function")
  no : PySem.W.findIn K (.ref (cA K i)) (fl i) = some none
  xc : ExcC K (cA K i)
  kit : ∀ j, j < 33 → PySem.W.kitOne K (.ref (cA K i)) (.ref (cA K j)) = some (decide (i = j))
  kd : ∀ k, k < 5 → PySem.W.kitOne K (.ref (cA K i)) (.type (bN k)) = some (decide (bs i = k))
structure AllF (K : PySem.W.Frag) (mg : Str → Option Value) : Prop where
  one : ∀ i, i < 33 → OneF K mg i
  vV : ∀ k, k < 5 → PySem.W.findCls K (.type (bN k)) (.type "type") "__init__" = some (.val (.builtin (iI k)))
  mgB : ∀ k, k < 5 → mg (bS k) = none
  sys : Sys K
theorem allF {K : PySem.W.Frag} {h : Heap} {mg : Str → Option Value} (inK : K.In h) (G : h.Ns mainGlobals mg) (e : exB K = true) : AllF K mg := by
  unfold exB at e
  simp only [Bool.and_eq_true, List.all_eq_true, List.mem_range, decide_eq_true_eq] at e
  obtain ⟨h1, h2, h3, h4, h5⟩ := e
  refine ⟨fun i hi => ?_, fun k hk => fcB_ok (h2 k hk).1, fun k hk => PySem.W.mg_none_of inK G (h2 k hk).2, ?_⟩
  · have z := h1 i hi
    unfold oneB at z
    simp only [Bool.and_eq_true, List.all_eq_true, List.mem_range, decide_eq_true_eq] at z
    obtain ⟨z1, z2, z3, z4, z5, z6, z7, z8, z9, z10, z11, z12, z13, z14, z15⟩ := z
    have hb := bs_lt i hi
    exact ⟨⟨b_facts _ hb, b_pass _ hb, b_ob _ hb, xcB_ok z1, z3, z4⟩, PySem.W.mg_of inK G z2, z5, z6, z7, ⟨z8, z9, z10, z11, z12, h3, h4, z13⟩, z14, z15⟩
  · split at h5
    · rename_i o
      exact ⟨_, _, _, o, rfl⟩
    · cases h5
end HB
namespace HB
open PySem PySem.Spec PyProof.Rows L2 Evl
/-! ### each error's __init__ -/
def spErr1 (C : Addr) (f : Str) : Sp := fun vs H Q _ => ∃ (a : Addr) (v : V), vs = [.ref a, v] ∧ H a = some (exo a C none) ∧ ∀ dx, H dx = none → dx ≠ a → Q .non (upd (upd H dx (exd dx [(f, v)])) a (exo a C (some dx)))
def spErr0 (C : Addr) : Sp := fun vs H Q _ => ∃ a : Addr, vs = [.ref a] ∧ H a = some (exo a C none) ∧ Q .non H
theorem bt0 : bootBuiltins "ValueError" = some (.type (bN 0)) := by decide +kernel
theorem ty0 : typeOf (.type (bN 0)) = pure (.type "type") := by kernel_rfl
theorem st0 : Manifest.isStub (bN 0) = false := by decide +kernel
theorem hi0 : PySem.W.handedIn (.builtin (iI 0)) = true := by decide +kernel
theorem bt1 : bootBuiltins "LookupError" = some (.type (bN 1)) := by decide +kernel
theorem ty1 : typeOf (.type (bN 1)) = pure (.type "type") := by kernel_rfl
theorem st1 : Manifest.isStub (bN 1) = false := by decide +kernel
theorem hi1 : PySem.W.handedIn (.builtin (iI 1)) = true := by decide +kernel
theorem bt2 : bootBuiltins "TypeError" = some (.type (bN 2)) := by decide +kernel
theorem ty2 : typeOf (.type (bN 2)) = pure (.type "type") := by kernel_rfl
theorem st2 : Manifest.isStub (bN 2) = false := by decide +kernel
theorem hi2 : PySem.W.handedIn (.builtin (iI 2)) = true := by decide +kernel
theorem bt3 : bootBuiltins "OverflowError" = some (.type (bN 3)) := by decide +kernel
theorem ty3 : typeOf (.type (bN 3)) = pure (.type "type") := by kernel_rfl
theorem st3 : Manifest.isStub (bN 3) = false := by decide +kernel
theorem hi3 : PySem.W.handedIn (.builtin (iI 3)) = true := by decide +kernel
theorem bt4 : bootBuiltins "RuntimeError" = some (.type (bN 4)) := by decide +kernel
theorem ty4 : typeOf (.type (bN 4)) = pure (.type "type") := by kernel_rfl
theorem st4 : Manifest.isStub (bN 4) = false := by decide +kernel
theorem hi4 : PySem.W.handedIn (.builtin (iI 4)) = true := by decide +kernel
section
variable {P : Program} {w : World} {K : PySem.W.Frag} {mg : Str → Option Value} {base : Heap}
/-- an error with one field can be made -/
def Mk1 (P : Program) (w : World) (K : PySem.W.Frag) (mg : Str → Option Value) (base : Heap) (i : Nat) : Prop := ∃ fd : FuncData, FnOk P w K mg base CX0 1 (fA K i) fd ["self", fl i] (spErr1 (cA K i) (fl i)) ∧ Binds K fd ["self", fl i] [] ∧
  ∀ (s : Shared) (y z : Value), K.In s.heap → BindsTo s fd ⟨[y], [(fl i, z)]⟩ [("self", y), (fl i, z)]
def Mk0 (P : Program) (w : World) (K : PySem.W.Frag) (mg : Str → Option Value) (base : Heap) (i : Nat) : Prop := ∃ fd : FuncData, FnOk P w K mg base CX0 1 (fA K i) fd ["self"] (spErr0 (cA K i)) ∧ Binds K fd ["self"] []
abbrev sI0 : Stmt := inClass (top 2) 0
theorem scI0 : FnScope ["self", "value"] ["self", "value"] (defScope sI0) := ⟨rfl, rfl, rfl, by decide +kernel, rfl, by decide +kernel, by decide +kernel⟩
theorem okI0 {fd : FuncData} (F : FunD K "__init__" "DuplicateName.__init__" (defArgs sI0) (defBody sI0) (defScope sI0) [] [] (fA K 0) fd) (T : AllF K mg) : Mk1 P w K mg base 0 := by
  have O := T.one 0 (by decide)
  refine ⟨fd, F.ok scI0 (fun vs H Q E h => ?_) (fun cdv A outer s H vs Q E hr h => ?_), F.bindsN fun _ _ _ _ _ _ us hl => (match us, hl with | [_, _], _ => rfl), fun s y z _ => ?_⟩
  · obtain ⟨a, v, rfl, _⟩ := h
    rfl
  · obtain ⟨a, v, rfl, ha, k⟩ := h
    refine ⟨_, PSs.nox (pss_cons (ps_expr (pe_binit (newId := nI 0) (bm := bM 0) (by rfl) (T.mgB 0 (by decide)) bt0 ty0 st0 hi0 (T.vV 0 (by decide)) (pa_cons (pv 0) (pa_cons pe_str pa_nil)))) (pss_one (ps_bst (B := bN 0) (newId := nI 0) (initId := iI 0) (bm := bM 0) (pv 0) (pv 1)))), ?_⟩
    exact ⟨_, rfl, a, cA K 0, _, rfl, (by show 1 ≤ 1000; decide), O.xb, ha, _, rfl, _, rfl, a, cA K 0, rfl, O.xb, O.no, ha, k⟩
  · obtain ⟨oc, od, dV, kV, doc, pm, an, cd, ct, osl, rfl, lk, hcd, hD, hK⟩ := F.ex
    rcases hD with ⟨_, rfl⟩ | ⟨e, _⟩
    · exact .of_eq (by kernel_rfl)
    · exact absurd rfl e
abbrev sI1 : Stmt := inClass (top 3) 0
theorem scI1 : FnScope ["self", "value"] ["self", "value"] (defScope sI1) := ⟨rfl, rfl, rfl, by decide +kernel, rfl, by decide +kernel, by decide +kernel⟩
theorem okI1 {fd : FuncData} (F : FunD K "__init__" "WrongKind.__init__" (defArgs sI1) (defBody sI1) (defScope sI1) [] [] (fA K 1) fd) (T : AllF K mg) : Mk1 P w K mg base 1 := by
  have O := T.one 1 (by decide)
  refine ⟨fd, F.ok scI1 (fun vs H Q E h => ?_) (fun cdv A outer s H vs Q E hr h => ?_), F.bindsN fun _ _ _ _ _ _ us hl => (match us, hl with | [_, _], _ => rfl), fun s y z _ => ?_⟩
  · obtain ⟨a, v, rfl, _⟩ := h
    rfl
  · obtain ⟨a, v, rfl, ha, k⟩ := h
    refine ⟨_, PSs.nox (pss_cons (ps_expr (pe_binit (newId := nI 0) (bm := bM 0) (by rfl) (T.mgB 0 (by decide)) bt0 ty0 st0 hi0 (T.vV 0 (by decide)) (pa_cons (pv 0) (pa_cons pe_str pa_nil)))) (pss_one (ps_bst (B := bN 0) (newId := nI 0) (initId := iI 0) (bm := bM 0) (pv 0) (pv 1)))), ?_⟩
    exact ⟨_, rfl, a, cA K 1, _, rfl, (by show 1 ≤ 1000; decide), O.xb, ha, _, rfl, _, rfl, a, cA K 1, rfl, O.xb, O.no, ha, k⟩
  · obtain ⟨oc, od, dV, kV, doc, pm, an, cd, ct, osl, rfl, lk, hcd, hD, hK⟩ := F.ex
    rcases hD with ⟨_, rfl⟩ | ⟨e, _⟩
    · exact .of_eq (by kernel_rfl)
    · exact absurd rfl e
abbrev sI2 : Stmt := inClass (top 4) 0
theorem scI2 : FnScope ["self", "value"] ["self", "value"] (defScope sI2) := ⟨rfl, rfl, rfl, by decide +kernel, rfl, by decide +kernel, by decide +kernel⟩
theorem okI2 {fd : FuncData} (F : FunD K "__init__" "WrongCount.__init__" (defArgs sI2) (defBody sI2) (defScope sI2) [] [] (fA K 2) fd) (T : AllF K mg) : Mk1 P w K mg base 2 := by
  have O := T.one 2 (by decide)
  refine ⟨fd, F.ok scI2 (fun vs H Q E h => ?_) (fun cdv A outer s H vs Q E hr h => ?_), F.bindsN fun _ _ _ _ _ _ us hl => (match us, hl with | [_, _], _ => rfl), fun s y z _ => ?_⟩
  · obtain ⟨a, v, rfl, _⟩ := h
    rfl
  · obtain ⟨a, v, rfl, ha, k⟩ := h
    refine ⟨_, PSs.nox (pss_cons (ps_expr (pe_binit (newId := nI 0) (bm := bM 0) (by rfl) (T.mgB 0 (by decide)) bt0 ty0 st0 hi0 (T.vV 0 (by decide)) (pa_cons (pv 0) (pa_cons pe_str pa_nil)))) (pss_one (ps_bst (B := bN 0) (newId := nI 0) (initId := iI 0) (bm := bM 0) (pv 0) (pv 1)))), ?_⟩
    exact ⟨_, rfl, a, cA K 2, _, rfl, (by show 1 ≤ 1000; decide), O.xb, ha, _, rfl, _, rfl, a, cA K 2, rfl, O.xb, O.no, ha, k⟩
  · obtain ⟨oc, od, dV, kV, doc, pm, an, cd, ct, osl, rfl, lk, hcd, hD, hK⟩ := F.ex
    rcases hD with ⟨_, rfl⟩ | ⟨e, _⟩
    · exact .of_eq (by kernel_rfl)
    · exact absurd rfl e
abbrev sI3 : Stmt := inClass (top 5) 0
theorem scI3 : FnScope ["self", "value"] ["self", "value"] (defScope sI3) := ⟨rfl, rfl, rfl, by decide +kernel, rfl, by decide +kernel, by decide +kernel⟩
theorem okI3 {fd : FuncData} (F : FunD K "__init__" "Endless.__init__" (defArgs sI3) (defBody sI3) (defScope sI3) [] [] (fA K 3) fd) (T : AllF K mg) : Mk1 P w K mg base 3 := by
  have O := T.one 3 (by decide)
  refine ⟨fd, F.ok scI3 (fun vs H Q E h => ?_) (fun cdv A outer s H vs Q E hr h => ?_), F.bindsN fun _ _ _ _ _ _ us hl => (match us, hl with | [_, _], _ => rfl), fun s y z _ => ?_⟩
  · obtain ⟨a, v, rfl, _⟩ := h
    rfl
  · obtain ⟨a, v, rfl, ha, k⟩ := h
    refine ⟨_, PSs.nox (pss_cons (ps_expr (pe_binit (newId := nI 0) (bm := bM 0) (by rfl) (T.mgB 0 (by decide)) bt0 ty0 st0 hi0 (T.vV 0 (by decide)) (pa_cons (pv 0) (pa_cons pe_str pa_nil)))) (pss_one (ps_bst (B := bN 0) (newId := nI 0) (initId := iI 0) (bm := bM 0) (pv 0) (pv 1)))), ?_⟩
    exact ⟨_, rfl, a, cA K 3, _, rfl, (by show 1 ≤ 1000; decide), O.xb, ha, _, rfl, _, rfl, a, cA K 3, rfl, O.xb, O.no, ha, k⟩
  · obtain ⟨oc, od, dV, kV, doc, pm, an, cd, ct, osl, rfl, lk, hcd, hD, hK⟩ := F.ex
    rcases hD with ⟨_, rfl⟩ | ⟨e, _⟩
    · exact .of_eq (by kernel_rfl)
    · exact absurd rfl e
abbrev sI4 : Stmt := inClass (top 7) 0
theorem scI4 : FnScope ["self", "value"] ["self", "value"] (defScope sI4) := ⟨rfl, rfl, rfl, by decide +kernel, rfl, by decide +kernel, by decide +kernel⟩
theorem okI4 {fd : FuncData} (F : FunD K "__init__" "InvalidList.__init__" (defArgs sI4) (defBody sI4) (defScope sI4) [] [] (fA K 4) fd) (T : AllF K mg) : Mk1 P w K mg base 4 := by
  have O := T.one 4 (by decide)
  refine ⟨fd, F.ok scI4 (fun vs H Q E h => ?_) (fun cdv A outer s H vs Q E hr h => ?_), F.bindsN fun _ _ _ _ _ _ us hl => (match us, hl with | [_, _], _ => rfl), fun s y z _ => ?_⟩
  · obtain ⟨a, v, rfl, _⟩ := h
    rfl
  · obtain ⟨a, v, rfl, ha, k⟩ := h
    refine ⟨_, PSs.nox (pss_cons (ps_expr (pe_binit (newId := nI 0) (bm := bM 0) (by rfl) (T.mgB 0 (by decide)) bt0 ty0 st0 hi0 (T.vV 0 (by decide)) (pa_cons (pv 0) (pa_cons pe_str pa_nil)))) (pss_one (ps_bst (B := bN 0) (newId := nI 0) (initId := iI 0) (bm := bM 0) (pv 0) (pv 1)))), ?_⟩
    exact ⟨_, rfl, a, cA K 4, _, rfl, (by show 1 ≤ 1000; decide), O.xb, ha, _, rfl, _, rfl, a, cA K 4, rfl, O.xb, O.no, ha, k⟩
  · obtain ⟨oc, od, dV, kV, doc, pm, an, cd, ct, osl, rfl, lk, hcd, hD, hK⟩ := F.ex
    rcases hD with ⟨_, rfl⟩ | ⟨e, _⟩
    · exact .of_eq (by kernel_rfl)
    · exact absurd rfl e
abbrev sI5 : Stmt := inClass (top 8) 0
theorem scI5 : FnScope ["self", "value"] ["self", "value"] (defScope sI5) := ⟨rfl, rfl, rfl, by decide +kernel, rfl, by decide +kernel, by decide +kernel⟩
theorem okI5 {fd : FuncData} (F : FunD K "__init__" "InvalidWeights.__init__" (defArgs sI5) (defBody sI5) (defScope sI5) [] [] (fA K 5) fd) (T : AllF K mg) : Mk1 P w K mg base 5 := by
  have O := T.one 5 (by decide)
  refine ⟨fd, F.ok scI5 (fun vs H Q E h => ?_) (fun cdv A outer s H vs Q E hr h => ?_), F.bindsN fun _ _ _ _ _ _ us hl => (match us, hl with | [_, _], _ => rfl), fun s y z _ => ?_⟩
  · obtain ⟨a, v, rfl, _⟩ := h
    rfl
  · obtain ⟨a, v, rfl, ha, k⟩ := h
    refine ⟨_, PSs.nox (pss_cons (ps_expr (pe_binit (newId := nI 0) (bm := bM 0) (by rfl) (T.mgB 0 (by decide)) bt0 ty0 st0 hi0 (T.vV 0 (by decide)) (pa_cons (pv 0) (pa_cons pe_str pa_nil)))) (pss_one (ps_bst (B := bN 0) (newId := nI 0) (initId := iI 0) (bm := bM 0) (pv 0) (pv 1)))), ?_⟩
    exact ⟨_, rfl, a, cA K 5, _, rfl, (by show 1 ≤ 1000; decide), O.xb, ha, _, rfl, _, rfl, a, cA K 5, rfl, O.xb, O.no, ha, k⟩
  · obtain ⟨oc, od, dV, kV, doc, pm, an, cd, ct, osl, rfl, lk, hcd, hD, hK⟩ := F.ex
    rcases hD with ⟨_, rfl⟩ | ⟨e, _⟩
    · exact .of_eq (by kernel_rfl)
    · exact absurd rfl e
abbrev sI6 : Stmt := inClass (top 9) 0
theorem scI6 : FnScope ["self", "value"] ["self", "value"] (defScope sI6) := ⟨rfl, rfl, rfl, by decide +kernel, rfl, by decide +kernel, by decide +kernel⟩
theorem okI6 {fd : FuncData} (F : FunD K "__init__" "InvalidNumber.__init__" (defArgs sI6) (defBody sI6) (defScope sI6) [] [] (fA K 6) fd) (T : AllF K mg) : Mk1 P w K mg base 6 := by
  have O := T.one 6 (by decide)
  refine ⟨fd, F.ok scI6 (fun vs H Q E h => ?_) (fun cdv A outer s H vs Q E hr h => ?_), F.bindsN fun _ _ _ _ _ _ us hl => (match us, hl with | [_, _], _ => rfl), fun s y z _ => ?_⟩
  · obtain ⟨a, v, rfl, _⟩ := h
    rfl
  · obtain ⟨a, v, rfl, ha, k⟩ := h
    refine ⟨_, PSs.nox (pss_cons (ps_expr (pe_binit (newId := nI 0) (bm := bM 0) (by rfl) (T.mgB 0 (by decide)) bt0 ty0 st0 hi0 (T.vV 0 (by decide)) (pa_cons (pv 0) (pa_cons pe_str pa_nil)))) (pss_one (ps_bst (B := bN 0) (newId := nI 0) (initId := iI 0) (bm := bM 0) (pv 0) (pv 1)))), ?_⟩
    exact ⟨_, rfl, a, cA K 6, _, rfl, (by show 1 ≤ 1000; decide), O.xb, ha, _, rfl, _, rfl, a, cA K 6, rfl, O.xb, O.no, ha, k⟩
  · obtain ⟨oc, od, dV, kV, doc, pm, an, cd, ct, osl, rfl, lk, hcd, hD, hK⟩ := F.ex
    rcases hD with ⟨_, rfl⟩ | ⟨e, _⟩
    · exact .of_eq (by kernel_rfl)
    · exact absurd rfl e
abbrev sI7 : Stmt := inClass (top 22) 0
theorem scI7 : FnScope ["self", "value"] ["self", "value"] (defScope sI7) := ⟨rfl, rfl, rfl, by decide +kernel, rfl, by decide +kernel, by decide +kernel⟩
theorem okI7 {fd : FuncData} (F : FunD K "__init__" "InvalidName.__init__" (defArgs sI7) (defBody sI7) (defScope sI7) [] [] (fA K 7) fd) (T : AllF K mg) : Mk1 P w K mg base 7 := by
  have O := T.one 7 (by decide)
  refine ⟨fd, F.ok scI7 (fun vs H Q E h => ?_) (fun cdv A outer s H vs Q E hr h => ?_), F.bindsN fun _ _ _ _ _ _ us hl => (match us, hl with | [_, _], _ => rfl), fun s y z _ => ?_⟩
  · obtain ⟨a, v, rfl, _⟩ := h
    rfl
  · obtain ⟨a, v, rfl, ha, k⟩ := h
    refine ⟨_, PSs.nox (pss_cons (ps_expr (pe_binit (newId := nI 0) (bm := bM 0) (by rfl) (T.mgB 0 (by decide)) bt0 ty0 st0 hi0 (T.vV 0 (by decide)) (pa_cons (pv 0) (pa_cons pe_str pa_nil)))) (pss_one (ps_bst (B := bN 0) (newId := nI 0) (initId := iI 0) (bm := bM 0) (pv 0) (pv 1)))), ?_⟩
    exact ⟨_, rfl, a, cA K 7, _, rfl, (by show 1 ≤ 1000; decide), O.xb, ha, _, rfl, _, rfl, a, cA K 7, rfl, O.xb, O.no, ha, k⟩
  · obtain ⟨oc, od, dV, kV, doc, pm, an, cd, ct, osl, rfl, lk, hcd, hD, hK⟩ := F.ex
    rcases hD with ⟨_, rfl⟩ | ⟨e, _⟩
    · exact .of_eq (by kernel_rfl)
    · exact absurd rfl e
abbrev sI8 : Stmt := inClass (top 23) 0
theorem scI8 : FnScope ["self", "value"] ["self", "value"] (defScope sI8) := ⟨rfl, rfl, rfl, by decide +kernel, rfl, by decide +kernel, by decide +kernel⟩
theorem okI8 {fd : FuncData} (F : FunD K "__init__" "InUse.__init__" (defArgs sI8) (defBody sI8) (defScope sI8) [] [] (fA K 8) fd) (T : AllF K mg) : Mk1 P w K mg base 8 := by
  have O := T.one 8 (by decide)
  refine ⟨fd, F.ok scI8 (fun vs H Q E h => ?_) (fun cdv A outer s H vs Q E hr h => ?_), F.bindsN fun _ _ _ _ _ _ us hl => (match us, hl with | [_, _], _ => rfl), fun s y z _ => ?_⟩
  · obtain ⟨a, v, rfl, _⟩ := h
    rfl
  · obtain ⟨a, v, rfl, ha, k⟩ := h
    refine ⟨_, PSs.nox (pss_cons (ps_expr (pe_binit (newId := nI 0) (bm := bM 0) (by rfl) (T.mgB 0 (by decide)) bt0 ty0 st0 hi0 (T.vV 0 (by decide)) (pa_cons (pv 0) (pa_cons pe_str pa_nil)))) (pss_one (ps_bst (B := bN 0) (newId := nI 0) (initId := iI 0) (bm := bM 0) (pv 0) (pv 1)))), ?_⟩
    exact ⟨_, rfl, a, cA K 8, _, rfl, (by show 1 ≤ 1000; decide), O.xb, ha, _, rfl, _, rfl, a, cA K 8, rfl, O.xb, O.no, ha, k⟩
  · obtain ⟨oc, od, dV, kV, doc, pm, an, cd, ct, osl, rfl, lk, hcd, hD, hK⟩ := F.ex
    rcases hD with ⟨_, rfl⟩ | ⟨e, _⟩
    · exact .of_eq (by kernel_rfl)
    · exact absurd rfl e
abbrev sI9 : Stmt := inClass (top 24) 0
theorem scI9 : FnScope ["self", "value"] ["self", "value"] (defScope sI9) := ⟨rfl, rfl, rfl, by decide +kernel, rfl, by decide +kernel, by decide +kernel⟩
theorem okI9 {fd : FuncData} (F : FunD K "__init__" "GivenAway.__init__" (defArgs sI9) (defBody sI9) (defScope sI9) [] [] (fA K 9) fd) (T : AllF K mg) : Mk1 P w K mg base 9 := by
  have O := T.one 9 (by decide)
  refine ⟨fd, F.ok scI9 (fun vs H Q E h => ?_) (fun cdv A outer s H vs Q E hr h => ?_), F.bindsN fun _ _ _ _ _ _ us hl => (match us, hl with | [_, _], _ => rfl), fun s y z _ => ?_⟩
  · obtain ⟨a, v, rfl, _⟩ := h
    rfl
  · obtain ⟨a, v, rfl, ha, k⟩ := h
    refine ⟨_, PSs.nox (pss_cons (ps_expr (pe_binit (newId := nI 0) (bm := bM 0) (by rfl) (T.mgB 0 (by decide)) bt0 ty0 st0 hi0 (T.vV 0 (by decide)) (pa_cons (pv 0) (pa_cons pe_str pa_nil)))) (pss_one (ps_bst (B := bN 0) (newId := nI 0) (initId := iI 0) (bm := bM 0) (pv 0) (pv 1)))), ?_⟩
    exact ⟨_, rfl, a, cA K 9, _, rfl, (by show 1 ≤ 1000; decide), O.xb, ha, _, rfl, _, rfl, a, cA K 9, rfl, O.xb, O.no, ha, k⟩
  · obtain ⟨oc, od, dV, kV, doc, pm, an, cd, ct, osl, rfl, lk, hcd, hD, hK⟩ := F.ex
    rcases hD with ⟨_, rfl⟩ | ⟨e, _⟩
    · exact .of_eq (by kernel_rfl)
    · exact absurd rfl e
abbrev sI10 : Stmt := inClass (top 25) 0
theorem scI10 : FnScope ["self", "value"] ["self", "value"] (defScope sI10) := ⟨rfl, rfl, rfl, by decide +kernel, rfl, by decide +kernel, by decide +kernel⟩
theorem okI10 {fd : FuncData} (F : FunD K "__init__" "NotSame.__init__" (defArgs sI10) (defBody sI10) (defScope sI10) [] [] (fA K 10) fd) (T : AllF K mg) : Mk1 P w K mg base 10 := by
  have O := T.one 10 (by decide)
  refine ⟨fd, F.ok scI10 (fun vs H Q E h => ?_) (fun cdv A outer s H vs Q E hr h => ?_), F.bindsN fun _ _ _ _ _ _ us hl => (match us, hl with | [_, _], _ => rfl), fun s y z _ => ?_⟩
  · obtain ⟨a, v, rfl, _⟩ := h
    rfl
  · obtain ⟨a, v, rfl, ha, k⟩ := h
    refine ⟨_, PSs.nox (pss_cons (ps_expr (pe_binit (newId := nI 0) (bm := bM 0) (by rfl) (T.mgB 0 (by decide)) bt0 ty0 st0 hi0 (T.vV 0 (by decide)) (pa_cons (pv 0) (pa_cons pe_str pa_nil)))) (pss_one (ps_bst (B := bN 0) (newId := nI 0) (initId := iI 0) (bm := bM 0) (pv 0) (pv 1)))), ?_⟩
    exact ⟨_, rfl, a, cA K 10, _, rfl, (by show 1 ≤ 1000; decide), O.xb, ha, _, rfl, _, rfl, a, cA K 10, rfl, O.xb, O.no, ha, k⟩
  · obtain ⟨oc, od, dV, kV, doc, pm, an, cd, ct, osl, rfl, lk, hcd, hD, hK⟩ := F.ex
    rcases hD with ⟨_, rfl⟩ | ⟨e, _⟩
    · exact .of_eq (by kernel_rfl)
    · exact absurd rfl e
abbrev sI11 : Stmt := inClass (top 27) 0
theorem scI11 : FnScope ["self", "value"] ["self", "value"] (defScope sI11) := ⟨rfl, rfl, rfl, by decide +kernel, rfl, by decide +kernel, by decide +kernel⟩
theorem okI11 {fd : FuncData} (F : FunD K "__init__" "CommandError.__init__" (defArgs sI11) (defBody sI11) (defScope sI11) [] [] (fA K 11) fd) (T : AllF K mg) : Mk1 P w K mg base 11 := by
  have O := T.one 11 (by decide)
  refine ⟨fd, F.ok scI11 (fun vs H Q E h => ?_) (fun cdv A outer s H vs Q E hr h => ?_), F.bindsN fun _ _ _ _ _ _ us hl => (match us, hl with | [_, _], _ => rfl), fun s y z _ => ?_⟩
  · obtain ⟨a, v, rfl, _⟩ := h
    rfl
  · obtain ⟨a, v, rfl, ha, k⟩ := h
    refine ⟨_, PSs.nox (pss_cons (ps_expr (pe_binit (newId := nI 0) (bm := bM 0) (by rfl) (T.mgB 0 (by decide)) bt0 ty0 st0 hi0 (T.vV 0 (by decide)) (pa_cons (pv 0) (pa_cons pe_str pa_nil)))) (pss_one (ps_bst (B := bN 0) (newId := nI 0) (initId := iI 0) (bm := bM 0) (pv 0) (pv 1)))), ?_⟩
    exact ⟨_, rfl, a, cA K 11, _, rfl, (by show 1 ≤ 1000; decide), O.xb, ha, _, rfl, _, rfl, a, cA K 11, rfl, O.xb, O.no, ha, k⟩
  · obtain ⟨oc, od, dV, kV, doc, pm, an, cd, ct, osl, rfl, lk, hcd, hD, hK⟩ := F.ex
    rcases hD with ⟨_, rfl⟩ | ⟨e, _⟩
    · exact .of_eq (by kernel_rfl)
    · exact absurd rfl e
abbrev sI12 : Stmt := inClass (top 13) 0
theorem scI12 : FnScope ["self", "value"] ["self", "value"] (defScope sI12) := ⟨rfl, rfl, rfl, by decide +kernel, rfl, by decide +kernel, by decide +kernel⟩
theorem okI12 {fd : FuncData} (F : FunD K "__init__" "UnknownName.__init__" (defArgs sI12) (defBody sI12) (defScope sI12) [] [] (fA K 12) fd) (T : AllF K mg) : Mk1 P w K mg base 12 := by
  have O := T.one 12 (by decide)
  refine ⟨fd, F.ok scI12 (fun vs H Q E h => ?_) (fun cdv A outer s H vs Q E hr h => ?_), F.bindsN fun _ _ _ _ _ _ us hl => (match us, hl with | [_, _], _ => rfl), fun s y z _ => ?_⟩
  · obtain ⟨a, v, rfl, _⟩ := h
    rfl
  · obtain ⟨a, v, rfl, ha, k⟩ := h
    refine ⟨_, PSs.nox (pss_cons (ps_expr (pe_binit (newId := nI 1) (bm := bM 1) (by rfl) (T.mgB 1 (by decide)) bt1 ty1 st1 hi1 (T.vV 1 (by decide)) (pa_cons (pv 0) (pa_cons pe_str pa_nil)))) (pss_one (ps_bst (B := bN 1) (newId := nI 1) (initId := iI 1) (bm := bM 1) (pv 0) (pv 1)))), ?_⟩
    exact ⟨_, rfl, a, cA K 12, _, rfl, (by show 1 ≤ 1000; decide), O.xb, ha, _, rfl, _, rfl, a, cA K 12, rfl, O.xb, O.no, ha, k⟩
  · obtain ⟨oc, od, dV, kV, doc, pm, an, cd, ct, osl, rfl, lk, hcd, hD, hK⟩ := F.ex
    rcases hD with ⟨_, rfl⟩ | ⟨e, _⟩
    · exact .of_eq (by kernel_rfl)
    · exact absurd rfl e
abbrev sI13 : Stmt := inClass (top 14) 0
theorem scI13 : FnScope ["self", "value"] ["self", "value"] (defScope sI13) := ⟨rfl, rfl, rfl, by decide +kernel, rfl, by decide +kernel, by decide +kernel⟩
theorem okI13 {fd : FuncData} (F : FunD K "__init__" "UnknownPoint.__init__" (defArgs sI13) (defBody sI13) (defScope sI13) [] [] (fA K 13) fd) (T : AllF K mg) : Mk1 P w K mg base 13 := by
  have O := T.one 13 (by decide)
  refine ⟨fd, F.ok scI13 (fun vs H Q E h => ?_) (fun cdv A outer s H vs Q E hr h => ?_), F.bindsN fun _ _ _ _ _ _ us hl => (match us, hl with | [_, _], _ => rfl), fun s y z _ => ?_⟩
  · obtain ⟨a, v, rfl, _⟩ := h
    rfl
  · obtain ⟨a, v, rfl, ha, k⟩ := h
    refine ⟨_, PSs.nox (pss_cons (ps_expr (pe_binit (newId := nI 1) (bm := bM 1) (by rfl) (T.mgB 1 (by decide)) bt1 ty1 st1 hi1 (T.vV 1 (by decide)) (pa_cons (pv 0) (pa_cons pe_str pa_nil)))) (pss_one (ps_bst (B := bN 1) (newId := nI 1) (initId := iI 1) (bm := bM 1) (pv 0) (pv 1)))), ?_⟩
    exact ⟨_, rfl, a, cA K 13, _, rfl, (by show 1 ≤ 1000; decide), O.xb, ha, _, rfl, _, rfl, a, cA K 13, rfl, O.xb, O.no, ha, k⟩
  · obtain ⟨oc, od, dV, kV, doc, pm, an, cd, ct, osl, rfl, lk, hcd, hD, hK⟩ := F.ex
    rcases hD with ⟨_, rfl⟩ | ⟨e, _⟩
    · exact .of_eq (by kernel_rfl)
    · exact absurd rfl e
abbrev sI14 : Stmt := inClass (top 15) 0
theorem scI14 : FnScope ["self", "value"] ["self", "value"] (defScope sI14) := ⟨rfl, rfl, rfl, by decide +kernel, rfl, by decide +kernel, by decide +kernel⟩
theorem okI14 {fd : FuncData} (F : FunD K "__init__" "UnknownUnit.__init__" (defArgs sI14) (defBody sI14) (defScope sI14) [] [] (fA K 14) fd) (T : AllF K mg) : Mk1 P w K mg base 14 := by
  have O := T.one 14 (by decide)
  refine ⟨fd, F.ok scI14 (fun vs H Q E h => ?_) (fun cdv A outer s H vs Q E hr h => ?_), F.bindsN fun _ _ _ _ _ _ us hl => (match us, hl with | [_, _], _ => rfl), fun s y z _ => ?_⟩
  · obtain ⟨a, v, rfl, _⟩ := h
    rfl
  · obtain ⟨a, v, rfl, ha, k⟩ := h
    refine ⟨_, PSs.nox (pss_cons (ps_expr (pe_binit (newId := nI 1) (bm := bM 1) (by rfl) (T.mgB 1 (by decide)) bt1 ty1 st1 hi1 (T.vV 1 (by decide)) (pa_cons (pv 0) (pa_cons pe_str pa_nil)))) (pss_one (ps_bst (B := bN 1) (newId := nI 1) (initId := iI 1) (bm := bM 1) (pv 0) (pv 1)))), ?_⟩
    exact ⟨_, rfl, a, cA K 14, _, rfl, (by show 1 ≤ 1000; decide), O.xb, ha, _, rfl, _, rfl, a, cA K 14, rfl, O.xb, O.no, ha, k⟩
  · obtain ⟨oc, od, dV, kV, doc, pm, an, cd, ct, osl, rfl, lk, hcd, hD, hK⟩ := F.ex
    rcases hD with ⟨_, rfl⟩ | ⟨e, _⟩
    · exact .of_eq (by kernel_rfl)
    · exact absurd rfl e
abbrev sI15 : Stmt := inClass (top 16) 0
theorem scI15 : FnScope ["self", "value"] ["self", "value"] (defScope sI15) := ⟨rfl, rfl, rfl, by decide +kernel, rfl, by decide +kernel, by decide +kernel⟩
theorem okI15 {fd : FuncData} (F : FunD K "__init__" "UnknownMoment.__init__" (defArgs sI15) (defBody sI15) (defScope sI15) [] [] (fA K 15) fd) (T : AllF K mg) : Mk1 P w K mg base 15 := by
  have O := T.one 15 (by decide)
  refine ⟨fd, F.ok scI15 (fun vs H Q E h => ?_) (fun cdv A outer s H vs Q E hr h => ?_), F.bindsN fun _ _ _ _ _ _ us hl => (match us, hl with | [_, _], _ => rfl), fun s y z _ => ?_⟩
  · obtain ⟨a, v, rfl, _⟩ := h
    rfl
  · obtain ⟨a, v, rfl, ha, k⟩ := h
    refine ⟨_, PSs.nox (pss_cons (ps_expr (pe_binit (newId := nI 1) (bm := bM 1) (by rfl) (T.mgB 1 (by decide)) bt1 ty1 st1 hi1 (T.vV 1 (by decide)) (pa_cons (pv 0) (pa_cons pe_str pa_nil)))) (pss_one (ps_bst (B := bN 1) (newId := nI 1) (initId := iI 1) (bm := bM 1) (pv 0) (pv 1)))), ?_⟩
    exact ⟨_, rfl, a, cA K 15, _, rfl, (by show 1 ≤ 1000; decide), O.xb, ha, _, rfl, _, rfl, a, cA K 15, rfl, O.xb, O.no, ha, k⟩
  · obtain ⟨oc, od, dV, kV, doc, pm, an, cd, ct, osl, rfl, lk, hcd, hD, hK⟩ := F.ex
    rcases hD with ⟨_, rfl⟩ | ⟨e, _⟩
    · exact .of_eq (by kernel_rfl)
    · exact absurd rfl e
abbrev sI16 : Stmt := inClass (top 17) 0
theorem scI16 : FnScope ["self", "value"] ["self", "value"] (defScope sI16) := ⟨rfl, rfl, rfl, by decide +kernel, rfl, by decide +kernel, by decide +kernel⟩
theorem okI16 {fd : FuncData} (F : FunD K "__init__" "InvalidIndex.__init__" (defArgs sI16) (defBody sI16) (defScope sI16) [] [] (fA K 16) fd) (T : AllF K mg) : Mk1 P w K mg base 16 := by
  have O := T.one 16 (by decide)
  refine ⟨fd, F.ok scI16 (fun vs H Q E h => ?_) (fun cdv A outer s H vs Q E hr h => ?_), F.bindsN fun _ _ _ _ _ _ us hl => (match us, hl with | [_, _], _ => rfl), fun s y z _ => ?_⟩
  · obtain ⟨a, v, rfl, _⟩ := h
    rfl
  · obtain ⟨a, v, rfl, ha, k⟩ := h
    refine ⟨_, PSs.nox (pss_cons (ps_expr (pe_binit (newId := nI 1) (bm := bM 1) (by rfl) (T.mgB 1 (by decide)) bt1 ty1 st1 hi1 (T.vV 1 (by decide)) (pa_cons (pv 0) (pa_cons pe_str pa_nil)))) (pss_one (ps_bst (B := bN 1) (newId := nI 1) (initId := iI 1) (bm := bM 1) (pv 0) (pv 1)))), ?_⟩
    exact ⟨_, rfl, a, cA K 16, _, rfl, (by show 1 ≤ 1000; decide), O.xb, ha, _, rfl, _, rfl, a, cA K 16, rfl, O.xb, O.no, ha, k⟩
  · obtain ⟨oc, od, dV, kV, doc, pm, an, cd, ct, osl, rfl, lk, hcd, hD, hK⟩ := F.ex
    rcases hD with ⟨_, rfl⟩ | ⟨e, _⟩
    · exact .of_eq (by kernel_rfl)
    · exact absurd rfl e
abbrev sI17 : Stmt := inClass (top 28) 0
theorem scI17 : FnScope ["self", "value"] ["self", "value"] (defScope sI17) := ⟨rfl, rfl, rfl, by decide +kernel, rfl, by decide +kernel, by decide +kernel⟩
theorem okI17 {fd : FuncData} (F : FunD K "__init__" "OutOfRange.__init__" (defArgs sI17) (defBody sI17) (defScope sI17) [] [] (fA K 17) fd) (T : AllF K mg) : Mk1 P w K mg base 17 := by
  have O := T.one 17 (by decide)
  refine ⟨fd, F.ok scI17 (fun vs H Q E h => ?_) (fun cdv A outer s H vs Q E hr h => ?_), F.bindsN fun _ _ _ _ _ _ us hl => (match us, hl with | [_, _], _ => rfl), fun s y z _ => ?_⟩
  · obtain ⟨a, v, rfl, _⟩ := h
    rfl
  · obtain ⟨a, v, rfl, ha, k⟩ := h
    refine ⟨_, PSs.nox (pss_cons (ps_expr (pe_binit (newId := nI 1) (bm := bM 1) (by rfl) (T.mgB 1 (by decide)) bt1 ty1 st1 hi1 (T.vV 1 (by decide)) (pa_cons (pv 0) (pa_cons pe_str pa_nil)))) (pss_one (ps_bst (B := bN 1) (newId := nI 1) (initId := iI 1) (bm := bM 1) (pv 0) (pv 1)))), ?_⟩
    exact ⟨_, rfl, a, cA K 17, _, rfl, (by show 1 ≤ 1000; decide), O.xb, ha, _, rfl, _, rfl, a, cA K 17, rfl, O.xb, O.no, ha, k⟩
  · obtain ⟨oc, od, dV, kV, doc, pm, an, cd, ct, osl, rfl, lk, hcd, hD, hK⟩ := F.ex
    rcases hD with ⟨_, rfl⟩ | ⟨e, _⟩
    · exact .of_eq (by kernel_rfl)
    · exact absurd rfl e
abbrev sI18 : Stmt := inClass (top 18) 0
theorem scI18 : FnScope ["self", "value"] ["self", "value"] (defScope sI18) := ⟨rfl, rfl, rfl, by decide +kernel, rfl, by decide +kernel, by decide +kernel⟩
theorem okI18 {fd : FuncData} (F : FunD K "__init__" "NotHeld.__init__" (defArgs sI18) (defBody sI18) (defScope sI18) [] [] (fA K 18) fd) (T : AllF K mg) : Mk1 P w K mg base 18 := by
  have O := T.one 18 (by decide)
  refine ⟨fd, F.ok scI18 (fun vs H Q E h => ?_) (fun cdv A outer s H vs Q E hr h => ?_), F.bindsN fun _ _ _ _ _ _ us hl => (match us, hl with | [_, _], _ => rfl), fun s y z _ => ?_⟩
  · obtain ⟨a, v, rfl, _⟩ := h
    rfl
  · obtain ⟨a, v, rfl, ha, k⟩ := h
    refine ⟨_, PSs.nox (pss_cons (ps_expr (pe_binit (newId := nI 1) (bm := bM 1) (by rfl) (T.mgB 1 (by decide)) bt1 ty1 st1 hi1 (T.vV 1 (by decide)) (pa_cons (pv 0) (pa_cons pe_str pa_nil)))) (pss_one (ps_bst (B := bN 1) (newId := nI 1) (initId := iI 1) (bm := bM 1) (pv 0) (pv 1)))), ?_⟩
    exact ⟨_, rfl, a, cA K 18, _, rfl, (by show 1 ≤ 1000; decide), O.xb, ha, _, rfl, _, rfl, a, cA K 18, rfl, O.xb, O.no, ha, k⟩
  · obtain ⟨oc, od, dV, kV, doc, pm, an, cd, ct, osl, rfl, lk, hcd, hD, hK⟩ := F.ex
    rcases hD with ⟨_, rfl⟩ | ⟨e, _⟩
    · exact .of_eq (by kernel_rfl)
    · exact absurd rfl e
abbrev sI19 : Stmt := inClass (top 19) 0
theorem scI19 : FnScope ["self", "value"] ["self", "value"] (defScope sI19) := ⟨rfl, rfl, rfl, by decide +kernel, rfl, by decide +kernel, by decide +kernel⟩
theorem okI19 {fd : FuncData} (F : FunD K "__init__" "NotFlag.__init__" (defArgs sI19) (defBody sI19) (defScope sI19) [] [] (fA K 19) fd) (T : AllF K mg) : Mk1 P w K mg base 19 := by
  have O := T.one 19 (by decide)
  refine ⟨fd, F.ok scI19 (fun vs H Q E h => ?_) (fun cdv A outer s H vs Q E hr h => ?_), F.bindsN fun _ _ _ _ _ _ us hl => (match us, hl with | [_, _], _ => rfl), fun s y z _ => ?_⟩
  · obtain ⟨a, v, rfl, _⟩ := h
    rfl
  · obtain ⟨a, v, rfl, ha, k⟩ := h
    refine ⟨_, PSs.nox (pss_cons (ps_expr (pe_binit (newId := nI 2) (bm := bM 2) (by rfl) (T.mgB 2 (by decide)) bt2 ty2 st2 hi2 (T.vV 2 (by decide)) (pa_cons (pv 0) (pa_cons pe_str pa_nil)))) (pss_one (ps_bst (B := bN 2) (newId := nI 2) (initId := iI 2) (bm := bM 2) (pv 0) (pv 1)))), ?_⟩
    exact ⟨_, rfl, a, cA K 19, _, rfl, (by show 1 ≤ 1000; decide), O.xb, ha, _, rfl, _, rfl, a, cA K 19, rfl, O.xb, O.no, ha, k⟩
  · obtain ⟨oc, od, dV, kV, doc, pm, an, cd, ct, osl, rfl, lk, hcd, hD, hK⟩ := F.ex
    rcases hD with ⟨_, rfl⟩ | ⟨e, _⟩
    · exact .of_eq (by kernel_rfl)
    · exact absurd rfl e
abbrev sI20 : Stmt := inClass (top 31) 0
theorem scI20 : FnScope ["self", "value"] ["self", "value"] (defScope sI20) := ⟨rfl, rfl, rfl, by decide +kernel, rfl, by decide +kernel, by decide +kernel⟩
theorem okI20 {fd : FuncData} (F : FunD K "__init__" "TooDear.__init__" (defArgs sI20) (defBody sI20) (defScope sI20) [] [] (fA K 20) fd) (T : AllF K mg) : Mk1 P w K mg base 20 := by
  have O := T.one 20 (by decide)
  refine ⟨fd, F.ok scI20 (fun vs H Q E h => ?_) (fun cdv A outer s H vs Q E hr h => ?_), F.bindsN fun _ _ _ _ _ _ us hl => (match us, hl with | [_, _], _ => rfl), fun s y z _ => ?_⟩
  · obtain ⟨a, v, rfl, _⟩ := h
    rfl
  · obtain ⟨a, v, rfl, ha, k⟩ := h
    refine ⟨_, PSs.nox (pss_cons (ps_expr (pe_binit (newId := nI 3) (bm := bM 3) (by rfl) (T.mgB 3 (by decide)) bt3 ty3 st3 hi3 (T.vV 3 (by decide)) (pa_cons (pv 0) (pa_cons pe_str pa_nil)))) (pss_one (ps_bst (B := bN 3) (newId := nI 3) (initId := iI 3) (bm := bM 3) (pv 0) (pv 1)))), ?_⟩
    exact ⟨_, rfl, a, cA K 20, _, rfl, (by show 1 ≤ 1000; decide), O.xb, ha, _, rfl, _, rfl, a, cA K 20, rfl, O.xb, O.no, ha, k⟩
  · obtain ⟨oc, od, dV, kV, doc, pm, an, cd, ct, osl, rfl, lk, hcd, hD, hK⟩ := F.ex
    rcases hD with ⟨_, rfl⟩ | ⟨e, _⟩
    · exact .of_eq (by kernel_rfl)
    · exact absurd rfl e
abbrev sI21 : Stmt := inClass (top 33) 0
theorem scI21 : FnScope ["self", "value"] ["self", "value"] (defScope sI21) := ⟨rfl, rfl, rfl, by decide +kernel, rfl, by decide +kernel, by decide +kernel⟩
theorem okI21 {fd : FuncData} (F : FunD K "__init__" "Leaks.__init__" (defArgs sI21) (defBody sI21) (defScope sI21) [] [] (fA K 21) fd) (T : AllF K mg) : Mk1 P w K mg base 21 := by
  have O := T.one 21 (by decide)
  refine ⟨fd, F.ok scI21 (fun vs H Q E h => ?_) (fun cdv A outer s H vs Q E hr h => ?_), F.bindsN fun _ _ _ _ _ _ us hl => (match us, hl with | [_, _], _ => rfl), fun s y z _ => ?_⟩
  · obtain ⟨a, v, rfl, _⟩ := h
    rfl
  · obtain ⟨a, v, rfl, ha, k⟩ := h
    refine ⟨_, PSs.nox (pss_cons (ps_expr (pe_binit (newId := nI 4) (bm := bM 4) (by rfl) (T.mgB 4 (by decide)) bt4 ty4 st4 hi4 (T.vV 4 (by decide)) (pa_cons (pv 0) (pa_cons pe_str pa_nil)))) (pss_one (ps_bst (B := bN 4) (newId := nI 4) (initId := iI 4) (bm := bM 4) (pv 0) (pv 1)))), ?_⟩
    exact ⟨_, rfl, a, cA K 21, _, rfl, (by show 1 ≤ 1000; decide), O.xb, ha, _, rfl, _, rfl, a, cA K 21, rfl, O.xb, O.no, ha, k⟩
  · obtain ⟨oc, od, dV, kV, doc, pm, an, cd, ct, osl, rfl, lk, hcd, hD, hK⟩ := F.ex
    rcases hD with ⟨_, rfl⟩ | ⟨e, _⟩
    · exact .of_eq (by kernel_rfl)
    · exact absurd rfl e
abbrev sI22 : Stmt := inClass (top 20) 0
theorem scI22 : FnScope ["self", "limit"] ["self", "limit"] (defScope sI22) := ⟨rfl, rfl, rfl, by decide +kernel, rfl, by decide +kernel, by decide +kernel⟩
theorem okI22 {fd : FuncData} (F : FunD K "__init__" "TooMany.__init__" (defArgs sI22) (defBody sI22) (defScope sI22) [] [] (fA K 22) fd) (T : AllF K mg) : Mk1 P w K mg base 22 := by
  have O := T.one 22 (by decide)
  refine ⟨fd, F.ok scI22 (fun vs H Q E h => ?_) (fun cdv A outer s H vs Q E hr h => ?_), F.bindsN fun _ _ _ _ _ _ us hl => (match us, hl with | [_, _], _ => rfl), fun s y z _ => ?_⟩
  · obtain ⟨a, v, rfl, _⟩ := h
    rfl
  · obtain ⟨a, v, rfl, ha, k⟩ := h
    refine ⟨_, PSs.nox (pss_cons (ps_expr (pe_binit (newId := nI 3) (bm := bM 3) (by rfl) (T.mgB 3 (by decide)) bt3 ty3 st3 hi3 (T.vV 3 (by decide)) (pa_cons (pv 0) (pa_cons pe_str pa_nil)))) (pss_one (ps_bst (B := bN 3) (newId := nI 3) (initId := iI 3) (bm := bM 3) (pv 0) (pv 1)))), ?_⟩
    exact ⟨_, rfl, a, cA K 22, _, rfl, (by show 1 ≤ 1000; decide), O.xb, ha, _, rfl, _, rfl, a, cA K 22, rfl, O.xb, O.no, ha, k⟩
  · obtain ⟨oc, od, dV, kV, doc, pm, an, cd, ct, osl, rfl, lk, hcd, hD, hK⟩ := F.ex
    rcases hD with ⟨_, rfl⟩ | ⟨e, _⟩
    · exact .of_eq (by kernel_rfl)
    · exact absurd rfl e
abbrev sI23 : Stmt := inClass (top 21) 0
theorem scI23 : FnScope ["self", "limit"] ["self", "limit"] (defScope sI23) := ⟨rfl, rfl, rfl, by decide +kernel, rfl, by decide +kernel, by decide +kernel⟩
theorem okI23 {fd : FuncData} (F : FunD K "__init__" "TooLong.__init__" (defArgs sI23) (defBody sI23) (defScope sI23) [] [] (fA K 23) fd) (T : AllF K mg) : Mk1 P w K mg base 23 := by
  have O := T.one 23 (by decide)
  refine ⟨fd, F.ok scI23 (fun vs H Q E h => ?_) (fun cdv A outer s H vs Q E hr h => ?_), F.bindsN fun _ _ _ _ _ _ us hl => (match us, hl with | [_, _], _ => rfl), fun s y z _ => ?_⟩
  · obtain ⟨a, v, rfl, _⟩ := h
    rfl
  · obtain ⟨a, v, rfl, ha, k⟩ := h
    refine ⟨_, PSs.nox (pss_cons (ps_expr (pe_binit (newId := nI 3) (bm := bM 3) (by rfl) (T.mgB 3 (by decide)) bt3 ty3 st3 hi3 (T.vV 3 (by decide)) (pa_cons (pv 0) (pa_cons pe_str pa_nil)))) (pss_one (ps_bst (B := bN 3) (newId := nI 3) (initId := iI 3) (bm := bM 3) (pv 0) (pv 1)))), ?_⟩
    exact ⟨_, rfl, a, cA K 23, _, rfl, (by show 1 ≤ 1000; decide), O.xb, ha, _, rfl, _, rfl, a, cA K 23, rfl, O.xb, O.no, ha, k⟩
  · obtain ⟨oc, od, dV, kV, doc, pm, an, cd, ct, osl, rfl, lk, hcd, hD, hK⟩ := F.ex
    rcases hD with ⟨_, rfl⟩ | ⟨e, _⟩
    · exact .of_eq (by kernel_rfl)
    · exact absurd rfl e
abbrev sI24 : Stmt := inClass (top 6) 0
theorem scI24 : FnScope ["self", "index"] ["self", "index"] (defScope sI24) := ⟨rfl, rfl, rfl, by decide +kernel, rfl, by decide +kernel, by decide +kernel⟩
theorem okI24 {fd : FuncData} (F : FunD K "__init__" "InvalidBundle.__init__" (defArgs sI24) (defBody sI24) (defScope sI24) [] [] (fA K 24) fd) (T : AllF K mg) : Mk1 P w K mg base 24 := by
  have O := T.one 24 (by decide)
  refine ⟨fd, F.ok scI24 (fun vs H Q E h => ?_) (fun cdv A outer s H vs Q E hr h => ?_), F.bindsN fun _ _ _ _ _ _ us hl => (match us, hl with | [_, _], _ => rfl), fun s y z _ => ?_⟩
  · obtain ⟨a, v, rfl, _⟩ := h
    rfl
  · obtain ⟨a, v, rfl, ha, k⟩ := h
    refine ⟨_, PSs.nox (pss_cons (ps_expr (pe_binit (newId := nI 0) (bm := bM 0) (by rfl) (T.mgB 0 (by decide)) bt0 ty0 st0 hi0 (T.vV 0 (by decide)) (pa_cons (pv 0) (pa_cons pe_str pa_nil)))) (pss_one (ps_bst (B := bN 0) (newId := nI 0) (initId := iI 0) (bm := bM 0) (pv 0) (pv 1)))), ?_⟩
    exact ⟨_, rfl, a, cA K 24, _, rfl, (by show 1 ≤ 1000; decide), O.xb, ha, _, rfl, _, rfl, a, cA K 24, rfl, O.xb, O.no, ha, k⟩
  · obtain ⟨oc, od, dV, kV, doc, pm, an, cd, ct, osl, rfl, lk, hcd, hD, hK⟩ := F.ex
    rcases hD with ⟨_, rfl⟩ | ⟨e, _⟩
    · exact .of_eq (by kernel_rfl)
    · exact absurd rfl e
abbrev sI25 : Stmt := inClass (top 10) 0
theorem scI25 : FnScope ["self", "index"] ["self", "index"] (defScope sI25) := ⟨rfl, rfl, rfl, by decide +kernel, rfl, by decide +kernel, by decide +kernel⟩
theorem okI25 {fd : FuncData} (F : FunD K "__init__" "InvalidWorld.__init__" (defArgs sI25) (defBody sI25) (defScope sI25) [] [] (fA K 25) fd) (T : AllF K mg) : Mk1 P w K mg base 25 := by
  have O := T.one 25 (by decide)
  refine ⟨fd, F.ok scI25 (fun vs H Q E h => ?_) (fun cdv A outer s H vs Q E hr h => ?_), F.bindsN fun _ _ _ _ _ _ us hl => (match us, hl with | [_, _], _ => rfl), fun s y z _ => ?_⟩
  · obtain ⟨a, v, rfl, _⟩ := h
    rfl
  · obtain ⟨a, v, rfl, ha, k⟩ := h
    refine ⟨_, PSs.nox (pss_cons (ps_expr (pe_binit (newId := nI 0) (bm := bM 0) (by rfl) (T.mgB 0 (by decide)) bt0 ty0 st0 hi0 (T.vV 0 (by decide)) (pa_cons (pv 0) (pa_cons pe_str pa_nil)))) (pss_one (ps_bst (B := bN 0) (newId := nI 0) (initId := iI 0) (bm := bM 0) (pv 0) (pv 1)))), ?_⟩
    exact ⟨_, rfl, a, cA K 25, _, rfl, (by show 1 ≤ 1000; decide), O.xb, ha, _, rfl, _, rfl, a, cA K 25, rfl, O.xb, O.no, ha, k⟩
  · obtain ⟨oc, od, dV, kV, doc, pm, an, cd, ct, osl, rfl, lk, hcd, hD, hK⟩ := F.ex
    rcases hD with ⟨_, rfl⟩ | ⟨e, _⟩
    · exact .of_eq (by kernel_rfl)
    · exact absurd rfl e
abbrev sI26 : Stmt := inClass (top 1) 0
theorem scI26 : FnScope ["self", "place"] ["self", "place"] (defScope sI26) := ⟨rfl, rfl, rfl, by decide +kernel, rfl, by decide +kernel, by decide +kernel⟩
theorem okI26 {fd : FuncData} (F : FunD K "__init__" "InvalidProgram.__init__" (defArgs sI26) (defBody sI26) (defScope sI26) [] [] (fA K 26) fd) (T : AllF K mg) : Mk1 P w K mg base 26 := by
  have O := T.one 26 (by decide)
  refine ⟨fd, F.ok scI26 (fun vs H Q E h => ?_) (fun cdv A outer s H vs Q E hr h => ?_), F.bindsN fun _ _ _ _ _ _ us hl => (match us, hl with | [_, _], _ => rfl), fun s y z _ => ?_⟩
  · obtain ⟨a, v, rfl, _⟩ := h
    rfl
  · obtain ⟨a, v, rfl, ha, k⟩ := h
    refine ⟨_, PSs.nox (pss_cons (ps_expr (pe_binit (newId := nI 0) (bm := bM 0) (by rfl) (T.mgB 0 (by decide)) bt0 ty0 st0 hi0 (T.vV 0 (by decide)) (pa_cons (pv 0) (pa_cons pe_str pa_nil)))) (pss_one (ps_bst (B := bN 0) (newId := nI 0) (initId := iI 0) (bm := bM 0) (pv 0) (pv 1)))), ?_⟩
    exact ⟨_, rfl, a, cA K 26, _, rfl, (by show 1 ≤ 1000; decide), O.xb, ha, _, rfl, _, rfl, a, cA K 26, rfl, O.xb, O.no, ha, k⟩
  · obtain ⟨oc, od, dV, kV, doc, pm, an, cd, ct, osl, rfl, lk, hcd, hD, hK⟩ := F.ex
    rcases hD with ⟨_, rfl⟩ | ⟨e, _⟩
    · exact .of_eq (by kernel_rfl)
    · exact absurd rfl e
abbrev sI27 : Stmt := inClass (top 26) 0
theorem scI27 : FnScope ["self", "line"] ["self", "line"] (defScope sI27) := ⟨rfl, rfl, rfl, by decide +kernel, rfl, by decide +kernel, by decide +kernel⟩
theorem okI27 {fd : FuncData} (F : FunD K "__init__" "Unreadable.__init__" (defArgs sI27) (defBody sI27) (defScope sI27) [] [] (fA K 27) fd) (T : AllF K mg) : Mk1 P w K mg base 27 := by
  have O := T.one 27 (by decide)
  refine ⟨fd, F.ok scI27 (fun vs H Q E h => ?_) (fun cdv A outer s H vs Q E hr h => ?_), F.bindsN fun _ _ _ _ _ _ us hl => (match us, hl with | [_, _], _ => rfl), fun s y z _ => ?_⟩
  · obtain ⟨a, v, rfl, _⟩ := h
    rfl
  · obtain ⟨a, v, rfl, ha, k⟩ := h
    refine ⟨_, PSs.nox (pss_cons (ps_expr (pe_binit (newId := nI 0) (bm := bM 0) (by rfl) (T.mgB 0 (by decide)) bt0 ty0 st0 hi0 (T.vV 0 (by decide)) (pa_cons (pv 0) (pa_cons pe_str pa_nil)))) (pss_one (ps_bst (B := bN 0) (newId := nI 0) (initId := iI 0) (bm := bM 0) (pv 0) (pv 1)))), ?_⟩
    exact ⟨_, rfl, a, cA K 27, _, rfl, (by show 1 ≤ 1000; decide), O.xb, ha, _, rfl, _, rfl, a, cA K 27, rfl, O.xb, O.no, ha, k⟩
  · obtain ⟨oc, od, dV, kV, doc, pm, an, cd, ct, osl, rfl, lk, hcd, hD, hK⟩ := F.ex
    rcases hD with ⟨_, rfl⟩ | ⟨e, _⟩
    · exact .of_eq (by kernel_rfl)
    · exact absurd rfl e
abbrev sI28 : Stmt := inClass (top 11) 0
theorem scI28 : FnScope ["self"] ["self"] (defScope sI28) := ⟨rfl, rfl, rfl, by decide +kernel, rfl, by decide +kernel, by decide +kernel⟩
theorem okI28 {fd : FuncData} (F : FunD K "__init__" "OtherProgram.__init__" (defArgs sI28) (defBody sI28) (defScope sI28) [] [] (fA K 28) fd) (T : AllF K mg) : Mk0 P w K mg base 28 := by
  have O := T.one 28 (by decide)
  refine ⟨fd, F.ok scI28 (fun vs H Q E h => ?_) (fun cdv A outer s H vs Q E hr h => ?_), F.bindsN fun _ _ _ _ _ _ us hl => (match us, hl with | [_], _ => rfl)⟩
  · obtain ⟨a, rfl, _⟩ := h
    rfl
  · obtain ⟨a, rfl, ha, k⟩ := h
    refine ⟨_, PSs.nox (pss_one (ps_expr (pe_binit (newId := nI 0) (bm := bM 0) (by rfl) (T.mgB 0 (by decide)) bt0 ty0 st0 hi0 (T.vV 0 (by decide)) (pa_cons (pv 0) (pa_cons pe_str pa_nil))))), ?_⟩
    exact ⟨_, rfl, a, cA K 28, _, rfl, (by show 1 ≤ 1000; decide), O.xb, ha, k⟩
abbrev sI29 : Stmt := inClass (top 12) 0
theorem scI29 : FnScope ["self"] ["self"] (defScope sI29) := ⟨rfl, rfl, rfl, by decide +kernel, rfl, by decide +kernel, by decide +kernel⟩
theorem okI29 {fd : FuncData} (F : FunD K "__init__" "NotJoined.__init__" (defArgs sI29) (defBody sI29) (defScope sI29) [] [] (fA K 29) fd) (T : AllF K mg) : Mk0 P w K mg base 29 := by
  have O := T.one 29 (by decide)
  refine ⟨fd, F.ok scI29 (fun vs H Q E h => ?_) (fun cdv A outer s H vs Q E hr h => ?_), F.bindsN fun _ _ _ _ _ _ us hl => (match us, hl with | [_], _ => rfl)⟩
  · obtain ⟨a, rfl, _⟩ := h
    rfl
  · obtain ⟨a, rfl, ha, k⟩ := h
    refine ⟨_, PSs.nox (pss_one (ps_expr (pe_binit (newId := nI 0) (bm := bM 0) (by rfl) (T.mgB 0 (by decide)) bt0 ty0 st0 hi0 (T.vV 0 (by decide)) (pa_cons (pv 0) (pa_cons pe_str pa_nil))))), ?_⟩
    exact ⟨_, rfl, a, cA K 29, _, rfl, (by show 1 ≤ 1000; decide), O.xb, ha, k⟩
abbrev sI30 : Stmt := inClass (top 29) 0
theorem scI30 : FnScope ["self"] ["self"] (defScope sI30) := ⟨rfl, rfl, rfl, by decide +kernel, rfl, by decide +kernel, by decide +kernel⟩
theorem okI30 {fd : FuncData} (F : FunD K "__init__" "NothingToUndo.__init__" (defArgs sI30) (defBody sI30) (defScope sI30) [] [] (fA K 30) fd) (T : AllF K mg) : Mk0 P w K mg base 30 := by
  have O := T.one 30 (by decide)
  refine ⟨fd, F.ok scI30 (fun vs H Q E h => ?_) (fun cdv A outer s H vs Q E hr h => ?_), F.bindsN fun _ _ _ _ _ _ us hl => (match us, hl with | [_], _ => rfl)⟩
  · obtain ⟨a, rfl, _⟩ := h
    rfl
  · obtain ⟨a, rfl, ha, k⟩ := h
    refine ⟨_, PSs.nox (pss_one (ps_expr (pe_binit (newId := nI 1) (bm := bM 1) (by rfl) (T.mgB 1 (by decide)) bt1 ty1 st1 hi1 (T.vV 1 (by decide)) (pa_cons (pv 0) (pa_cons pe_str pa_nil))))), ?_⟩
    exact ⟨_, rfl, a, cA K 30, _, rfl, (by show 1 ≤ 1000; decide), O.xb, ha, k⟩
abbrev sI31 : Stmt := inClass (top 30) 0
theorem scI31 : FnScope ["self"] ["self"] (defScope sI31) := ⟨rfl, rfl, rfl, by decide +kernel, rfl, by decide +kernel, by decide +kernel⟩
theorem okI31 {fd : FuncData} (F : FunD K "__init__" "NothingToRedo.__init__" (defArgs sI31) (defBody sI31) (defScope sI31) [] [] (fA K 31) fd) (T : AllF K mg) : Mk0 P w K mg base 31 := by
  have O := T.one 31 (by decide)
  refine ⟨fd, F.ok scI31 (fun vs H Q E h => ?_) (fun cdv A outer s H vs Q E hr h => ?_), F.bindsN fun _ _ _ _ _ _ us hl => (match us, hl with | [_], _ => rfl)⟩
  · obtain ⟨a, rfl, _⟩ := h
    rfl
  · obtain ⟨a, rfl, ha, k⟩ := h
    refine ⟨_, PSs.nox (pss_one (ps_expr (pe_binit (newId := nI 1) (bm := bM 1) (by rfl) (T.mgB 1 (by decide)) bt1 ty1 st1 hi1 (T.vV 1 (by decide)) (pa_cons (pv 0) (pa_cons pe_str pa_nil))))), ?_⟩
    exact ⟨_, rfl, a, cA K 31, _, rfl, (by show 1 ≤ 1000; decide), O.xb, ha, k⟩
abbrev sI32 : Stmt := inClass (top 32) 0
theorem scI32 : FnScope ["self"] ["self"] (defScope sI32) := ⟨rfl, rfl, rfl, by decide +kernel, rfl, by decide +kernel, by decide +kernel⟩
theorem okI32 {fd : FuncData} (F : FunD K "__init__" "InTrial.__init__" (defArgs sI32) (defBody sI32) (defScope sI32) [] [] (fA K 32) fd) (T : AllF K mg) : Mk0 P w K mg base 32 := by
  have O := T.one 32 (by decide)
  refine ⟨fd, F.ok scI32 (fun vs H Q E h => ?_) (fun cdv A outer s H vs Q E hr h => ?_), F.bindsN fun _ _ _ _ _ _ us hl => (match us, hl with | [_], _ => rfl)⟩
  · obtain ⟨a, rfl, _⟩ := h
    rfl
  · obtain ⟨a, rfl, ha, k⟩ := h
    refine ⟨_, PSs.nox (pss_one (ps_expr (pe_binit (newId := nI 4) (bm := bM 4) (by rfl) (T.mgB 4 (by decide)) bt4 ty4 st4 hi4 (T.vV 4 (by decide)) (pa_cons (pv 0) (pa_cons pe_str pa_nil))))), ?_⟩
    exact ⟨_, rfl, a, cA K 32, _, rfl, (by show 1 ≤ 1000; decide), O.xb, ha, k⟩
end
end HB
namespace HB
open PySem PySem.Spec PyProof.Rows L2 Evl
/-- an error of the i-th class with these fields -/
def IsEr (K : PySem.W.Frag) (i : Nat) (fs : List (Str × V)) : V → Hp → Prop := fun x H => ∃ a, x = .ref a ∧ Er H a (cA K i) fs
theorem isEr_mono {K : PySem.W.Frag} {i : Nat} {fs : List (Str × V)} : Mono (IsEr K i fs) := fun _ _ _ e ⟨a, z, h⟩ => ⟨a, z, h.mono e⟩
/-- errors of these classes, one by one, each with the value v in its field -/
def Ers (K : PySem.W.Frag) (v : V) (is : List Nat) : List V → Hp → Prop := fun xs H => Paired (fun x i => IsEr K i [(fl i, v)] x H) xs is
theorem ers_mono {K : PySem.W.Frag} {v : V} {is : List Nat} : Mono (Ers K v is) := fun _ _ _ e h => L2.Paired.mapP h fun _ _ z => isEr_mono _ _ _ e z
theorem ers_len {K : PySem.W.Frag} {v : V} {is : List Nat} {xs : List V} {H : Hp} (h : Ers K v is xs H) : xs.length = is.length := Paired.length h
theorem paired_append {α β : Type} {F : α → β → Prop} : ∀ {a c : List α} {b d : List β}, Paired F a b → Paired F c d → Paired F (a ++ c) (b ++ d)
  | _, _, _, _, .nil, h => h
  | _, _, _, _, .cons x r, h => .cons x (paired_append r h)
section
variable {K : PySem.W.Frag} {σ : L2.St} {H : Hp} {tl : TA} {v : V} {i : Nat}
theorem er_mk1 (h : EA tl σ H (fun vs _ => vs = [v])) : ER (tMkx (cA K i) (spErr1 (cA K i) (fl i)) [] tl) σ H (IsEr K i [(fl i, v)]) := fun H1 e Q q =>
  h H1 e _ fun vs H2 e2 z => by
    subst z
    refine ⟨by show 1 ≤ 1000; decide, fun a ha => ⟨a, v, rfl, upd_same, fun dx hd ne => ⟨rfl, ?_⟩⟩⟩
    have hd' : H2 dx = none := by
      rw [upd_ne ne] at hd
      exact hd
    have ex3 : Ex H2 (upd (upd (upd H2 a (exo a (cA K i) none)) dx (exd dx [(fl i, v)])) a (exo a (cA K i) (some dx))) := Ex.mut (((Ex.new ha).trans (Ex.new hd))) ha
    exact q (.ref a) _ (e2.trans ex3) ⟨a, rfl, dx, upd_same, by rw [upd_ne ne, upd_same]⟩
theorem er_mk0 : ER (tMkx (cA K i) (spErr0 (cA K i)) [] tNil) σ H (IsEr K i []) := fun H1 e Q q =>
  ⟨by show 0 ≤ 1000; decide, fun a ha => ⟨a, rfl, upd_same, rfl, q (.ref a) _ (Ex.new ha) ⟨a, rfl, upd_same⟩⟩⟩
theorem ers_nil : EA tNil σ H (Ers K v []) := ea_nil' .nil ers_mono
theorem ers_cons {te : TE} {is : List Nat} (h : ER te σ H (IsEr K i [(fl i, v)])) (hr : EA tl σ H (Ers K v is)) : EA (tCons te tl) σ H (Ers K v (i :: is)) := ea_cons' h hr isEr_mono fun _ _ _ _ a b => .cons a b
theorem ers_lst {is : List Nat} (h : EA tl σ H (Ers K v is)) (hz : is.length ≤ 100) : ER (tLst tl) σ H (NewL (Ers K v is)) := er_lst h ers_mono fun xs H2 p => by
  rw [ers_len p]
  omega
theorem ers_cat {ta tb : TE} {is js : List Nat} (ha : ER ta σ H (NewL (Ers K v is))) (hb : ER tb σ H (NewL (Ers K v js))) (hz : is.length + js.length ≤ 100) : ER (tOp rCat ta tb) σ H (NewL (Ers K v (is ++ js))) :=
  er_cat ha hb ers_mono ers_mono (fun xs ys H2 p q => by rw [ers_len p, ers_len q]; omega) fun xs ys H2 _ p q => paired_append p q
theorem ers_at {is : List Nat} {j : Nat} {u : V} (hs : σ[j]? = some (some u)) (h : NewL (Ers K v is) u H) : ER (tVar j) σ H (NewL (Ers K v is)) := ER.evP (ev_var hs) h (newL_mono ers_mono)
end
section
variable {P : Program} {w : World} {K : PySem.W.Frag} {mg : Str → Option Value} {base : Heap}
/-- all the values' errors, in order -/
def spAll (K : PySem.W.Frag) : Sp := fun vs H Q _ => ∃ v : V, vs = [v] ∧ ∀ (u : V) (H' : Hp), Ex H H' → NewL (Ers K v (List.range 22)) u H' → Q u H' 
abbrev s_law_with_value : Stmt := top 41
theorem sc_law_with_value : FnScope ["_law_a", "_law_some"] ["_law_a"] (defScope s_law_with_value) := ⟨rfl, rfl, rfl, by decide +kernel, rfl, by decide +kernel, by decide +kernel⟩
theorem ok_law_with_value {f : Addr} {fd : FuncData} (F : FnP K "_law_with_value" s_law_with_value f fd) (T : AllF K mg) (M : ∀ i, i < 22 → Mk1 P w K mg base i) : FnOk P w K mg base CX0 3 f fd ["_law_a"] (spAll K) := by
  obtain ⟨fd0, F0, b0, k0⟩ := M 0 (by decide)
  obtain ⟨fd1, F1, b1, k1⟩ := M 1 (by decide)
  obtain ⟨fd2, F2, b2, k2⟩ := M 2 (by decide)
  obtain ⟨fd3, F3, b3, k3⟩ := M 3 (by decide)
  obtain ⟨fd4, F4, b4, k4⟩ := M 4 (by decide)
  obtain ⟨fd5, F5, b5, k5⟩ := M 5 (by decide)
  obtain ⟨fd6, F6, b6, k6⟩ := M 6 (by decide)
  obtain ⟨fd7, F7, b7, k7⟩ := M 7 (by decide)
  obtain ⟨fd8, F8, b8, k8⟩ := M 8 (by decide)
  obtain ⟨fd9, F9, b9, k9⟩ := M 9 (by decide)
  obtain ⟨fd10, F10, b10, k10⟩ := M 10 (by decide)
  obtain ⟨fd11, F11, b11, k11⟩ := M 11 (by decide)
  obtain ⟨fd12, F12, b12, k12⟩ := M 12 (by decide)
  obtain ⟨fd13, F13, b13, k13⟩ := M 13 (by decide)
  obtain ⟨fd14, F14, b14, k14⟩ := M 14 (by decide)
  obtain ⟨fd15, F15, b15, k15⟩ := M 15 (by decide)
  obtain ⟨fd16, F16, b16, k16⟩ := M 16 (by decide)
  obtain ⟨fd17, F17, b17, k17⟩ := M 17 (by decide)
  obtain ⟨fd18, F18, b18, k18⟩ := M 18 (by decide)
  obtain ⟨fd19, F19, b19, k19⟩ := M 19 (by decide)
  obtain ⟨fd20, F20, b20, k20⟩ := M 20 (by decide)
  obtain ⟨fd21, F21, b21, k21⟩ := M 21 (by decide)
  refine F.ok sc_law_with_value (fun vs H Q E h => ?_) (fun cdv A outer s H vs Q E hr h => ?_)
  · obtain ⟨v, rfl, _⟩ := h
    rfl
  · obtain ⟨v, rfl, k⟩ := h
    refine ⟨_, PSs.nox (pss_cons (ps_set (i := 1) sc_law_with_value.nd rfl (Or.inl rfl) (pe_lst (pa_cons (pe_mkx (T.one 0 (by decide)).xb (T.one 0 (by decide)).iC (T.one 0 (by decide)).tI F0 hr b0 pass0 (by rfl) (T.one 0 (by decide)).mgC (pa_cons (pv 0) pa_nil)) (pa_cons (pe_mkx (T.one 1 (by decide)).xb (T.one 1 (by decide)).iC (T.one 1 (by decide)).tI F1 hr b1 pass0 (by rfl) (T.one 1 (by decide)).mgC (pa_cons (pv 0) pa_nil)) (pa_cons (pe_mkx (T.one 2 (by decide)).xb (T.one 2 (by decide)).iC (T.one 2 (by decide)).tI F2 hr b2 pass0 (by rfl) (T.one 2 (by decide)).mgC (pa_cons (pv 0) pa_nil)) (pa_cons (pe_mkx (T.one 3 (by decide)).xb (T.one 3 (by decide)).iC (T.one 3 (by decide)).tI F3 hr b3 pass0 (by rfl) (T.one 3 (by decide)).mgC (pa_cons (pv 0) pa_nil)) (pa_cons (pe_mkx (T.one 4 (by decide)).xb (T.one 4 (by decide)).iC (T.one 4 (by decide)).tI F4 hr b4 pass0 (by rfl) (T.one 4 (by decide)).mgC (pa_cons (pv 0) pa_nil)) (pa_cons (pe_mkx (T.one 5 (by decide)).xb (T.one 5 (by decide)).iC (T.one 5 (by decide)).tI F5 hr b5 pass0 (by rfl) (T.one 5 (by decide)).mgC (pa_cons (pv 0) pa_nil)) pa_nil))))))))
      (pss_cons (ps_set (i := 1) sc_law_with_value.nd rfl (Or.inl rfl) (pe_op op_cat (pv 1) (pe_lst (pa_cons (pe_mkx (T.one 6 (by decide)).xb (T.one 6 (by decide)).iC (T.one 6 (by decide)).tI F6 hr b6 pass0 (by rfl) (T.one 6 (by decide)).mgC (pa_cons (pv 0) pa_nil)) (pa_cons (pe_mkx (T.one 7 (by decide)).xb (T.one 7 (by decide)).iC (T.one 7 (by decide)).tI F7 hr b7 pass0 (by rfl) (T.one 7 (by decide)).mgC (pa_cons (pv 0) pa_nil)) (pa_cons (pe_mkx (T.one 8 (by decide)).xb (T.one 8 (by decide)).iC (T.one 8 (by decide)).tI F8 hr b8 pass0 (by rfl) (T.one 8 (by decide)).mgC (pa_cons (pv 0) pa_nil)) (pa_cons (pe_mkx (T.one 9 (by decide)).xb (T.one 9 (by decide)).iC (T.one 9 (by decide)).tI F9 hr b9 pass0 (by rfl) (T.one 9 (by decide)).mgC (pa_cons (pv 0) pa_nil)) (pa_cons (pe_mkx (T.one 10 (by decide)).xb (T.one 10 (by decide)).iC (T.one 10 (by decide)).tI F10 hr b10 pass0 (by rfl) (T.one 10 (by decide)).mgC (pa_cons (pv 0) pa_nil)) (pa_cons (pe_mkx (T.one 11 (by decide)).xb (T.one 11 (by decide)).iC (T.one 11 (by decide)).tI F11 hr b11 pass0 (by rfl) (T.one 11 (by decide)).mgC (pa_cons (pv 0) pa_nil)) pa_nil)))))))))
      (pss_cons (ps_set (i := 1) sc_law_with_value.nd rfl (Or.inl rfl) (pe_op op_cat (pv 1) (pe_lst (pa_cons (pe_mkx (T.one 12 (by decide)).xb (T.one 12 (by decide)).iC (T.one 12 (by decide)).tI F12 hr b12 pass0 (by rfl) (T.one 12 (by decide)).mgC (pa_cons (pv 0) pa_nil)) (pa_cons (pe_mkx (T.one 13 (by decide)).xb (T.one 13 (by decide)).iC (T.one 13 (by decide)).tI F13 hr b13 pass0 (by rfl) (T.one 13 (by decide)).mgC (pa_cons (pv 0) pa_nil)) (pa_cons (pe_mkx (T.one 14 (by decide)).xb (T.one 14 (by decide)).iC (T.one 14 (by decide)).tI F14 hr b14 pass0 (by rfl) (T.one 14 (by decide)).mgC (pa_cons (pv 0) pa_nil)) (pa_cons (pe_mkx (T.one 15 (by decide)).xb (T.one 15 (by decide)).iC (T.one 15 (by decide)).tI F15 hr b15 pass0 (by rfl) (T.one 15 (by decide)).mgC (pa_cons (pv 0) pa_nil)) (pa_cons (pe_mkx (T.one 16 (by decide)).xb (T.one 16 (by decide)).iC (T.one 16 (by decide)).tI F16 hr b16 pass0 (by rfl) (T.one 16 (by decide)).mgC (pa_cons (pv 0) pa_nil)) (pa_cons (pe_mkx (T.one 17 (by decide)).xb (T.one 17 (by decide)).iC (T.one 17 (by decide)).tI F17 hr b17 pass0 (by rfl) (T.one 17 (by decide)).mgC (pa_cons (pv 0) pa_nil)) pa_nil)))))))))
      (pss_one (ps_ret (pe_op op_cat (pv 1) (pe_lst (pa_cons (pe_mkx (T.one 18 (by decide)).xb (T.one 18 (by decide)).iC (T.one 18 (by decide)).tI F18 hr b18 pass0 (by rfl) (T.one 18 (by decide)).mgC (pa_cons (pv 0) pa_nil)) (pa_cons (pe_mkx (T.one 19 (by decide)).xb (T.one 19 (by decide)).iC (T.one 19 (by decide)).tI F19 hr b19 pass0 (by rfl) (T.one 19 (by decide)).mgC (pa_cons (pv 0) pa_nil)) (pa_cons (pe_mkx (T.one 20 (by decide)).xb (T.one 20 (by decide)).iC (T.one 20 (by decide)).tI F20 hr b20 pass0 (by rfl) (T.one 20 (by decide)).mgC (pa_cons (pv 0) pa_nil)) (pa_cons (pe_mkx (T.one 21 (by decide)).xb (T.one 21 (by decide)).iC (T.one 21 (by decide)).tI F21 hr b21 pass0 (by rfl) (T.one 21 (by decide)).mgC (pa_cons (pv 0) pa_nil)) pa_nil))))))))))), ?_⟩
    have hA : ∀ {σ : L2.St} {H' : Hp}, σ[0]? = some (some v) → EA (tCons (tVar 0) tNil) σ H' (fun vs _ => vs = [v]) := fun hs => ea_cons' (ER.ev (ev_var hs)) (EA.ev ea_nil) (fun _ _ _ _ z => z) (fun a b H2 _ ea eb => by rw [ea, eb])
    refine q_asgR (ers_lst (ers_cons (er_mk1 (hA rfl)) (ers_cons (er_mk1 (hA rfl)) (ers_cons (er_mk1 (hA rfl)) (ers_cons (er_mk1 (hA rfl)) (ers_cons (er_mk1 (hA rfl)) (ers_cons (er_mk1 (hA rfl)) ers_nil)))))) (by decide)) fun u0 H0 e0 hu0 => ?_
    refine q_asgR (ers_cat (ers_at rfl hu0) (ers_lst (ers_cons (er_mk1 (hA rfl)) (ers_cons (er_mk1 (hA rfl)) (ers_cons (er_mk1 (hA rfl)) (ers_cons (er_mk1 (hA rfl)) (ers_cons (er_mk1 (hA rfl)) (ers_cons (er_mk1 (hA rfl)) ers_nil)))))) (by decide)) (by decide)) fun u1 H1 e1 hu1 => ?_
    refine q_asgR (ers_cat (ers_at rfl hu1) (ers_lst (ers_cons (er_mk1 (hA rfl)) (ers_cons (er_mk1 (hA rfl)) (ers_cons (er_mk1 (hA rfl)) (ers_cons (er_mk1 (hA rfl)) (ers_cons (er_mk1 (hA rfl)) (ers_cons (er_mk1 (hA rfl)) ers_nil)))))) (by decide)) (by decide)) fun u2 H2 e2 hu2 => ?_
    refine s_retR (ers_cat (ers_at rfl hu2) (ers_lst (ers_cons (er_mk1 (hA rfl)) (ers_cons (er_mk1 (hA rfl)) (ers_cons (er_mk1 (hA rfl)) (ers_cons (er_mk1 (hA rfl)) ers_nil)))) (by decide)) (by decide)) fun u3 H3 e3 hu3 => ?_
    exact k u3 H3 (((e0.trans e1).trans e2).trans e3) hu3
abbrev s_law_by_keyword : Stmt := top 42
theorem sc_law_by_keyword : FnScope ["_law_a", "_law_some"] ["_law_a"] (defScope s_law_by_keyword) := ⟨rfl, rfl, rfl, by decide +kernel, rfl, by decide +kernel, by decide +kernel⟩
theorem ok_law_by_keyword {f : Addr} {fd : FuncData} (F : FnP K "_law_by_keyword" s_law_by_keyword f fd) (T : AllF K mg) (M : ∀ i, i < 22 → Mk1 P w K mg base i) : FnOk P w K mg base CX0 3 f fd ["_law_a"] (spAll K) := by
  obtain ⟨fd0, F0, b0, k0⟩ := M 0 (by decide)
  obtain ⟨fd1, F1, b1, k1⟩ := M 1 (by decide)
  obtain ⟨fd2, F2, b2, k2⟩ := M 2 (by decide)
  obtain ⟨fd3, F3, b3, k3⟩ := M 3 (by decide)
  obtain ⟨fd4, F4, b4, k4⟩ := M 4 (by decide)
  obtain ⟨fd5, F5, b5, k5⟩ := M 5 (by decide)
  obtain ⟨fd6, F6, b6, k6⟩ := M 6 (by decide)
  obtain ⟨fd7, F7, b7, k7⟩ := M 7 (by decide)
  obtain ⟨fd8, F8, b8, k8⟩ := M 8 (by decide)
  obtain ⟨fd9, F9, b9, k9⟩ := M 9 (by decide)
  obtain ⟨fd10, F10, b10, k10⟩ := M 10 (by decide)
  obtain ⟨fd11, F11, b11, k11⟩ := M 11 (by decide)
  obtain ⟨fd12, F12, b12, k12⟩ := M 12 (by decide)
  obtain ⟨fd13, F13, b13, k13⟩ := M 13 (by decide)
  obtain ⟨fd14, F14, b14, k14⟩ := M 14 (by decide)
  obtain ⟨fd15, F15, b15, k15⟩ := M 15 (by decide)
  obtain ⟨fd16, F16, b16, k16⟩ := M 16 (by decide)
  obtain ⟨fd17, F17, b17, k17⟩ := M 17 (by decide)
  obtain ⟨fd18, F18, b18, k18⟩ := M 18 (by decide)
  obtain ⟨fd19, F19, b19, k19⟩ := M 19 (by decide)
  obtain ⟨fd20, F20, b20, k20⟩ := M 20 (by decide)
  obtain ⟨fd21, F21, b21, k21⟩ := M 21 (by decide)
  refine F.ok sc_law_by_keyword (fun vs H Q E h => ?_) (fun cdv A outer s H vs Q E hr h => ?_)
  · obtain ⟨v, rfl, _⟩ := h
    rfl
  · obtain ⟨v, rfl, k⟩ := h
    refine ⟨_, PSs.nox (pss_cons (ps_set (i := 1) sc_law_by_keyword.nd rfl (Or.inl rfl) (pe_lst (pa_cons (pe_mkxK (f := fl 0) (T.one 0 (by decide)).xb (T.one 0 (by decide)).iC (T.one 0 (by decide)).tI F0 hr k0 pass0 (by rfl) (T.one 0 (by decide)).mgC (pk_cons (pv 0) pk_nil)) (pa_cons (pe_mkxK (f := fl 1) (T.one 1 (by decide)).xb (T.one 1 (by decide)).iC (T.one 1 (by decide)).tI F1 hr k1 pass0 (by rfl) (T.one 1 (by decide)).mgC (pk_cons (pv 0) pk_nil)) (pa_cons (pe_mkxK (f := fl 2) (T.one 2 (by decide)).xb (T.one 2 (by decide)).iC (T.one 2 (by decide)).tI F2 hr k2 pass0 (by rfl) (T.one 2 (by decide)).mgC (pk_cons (pv 0) pk_nil)) (pa_cons (pe_mkxK (f := fl 3) (T.one 3 (by decide)).xb (T.one 3 (by decide)).iC (T.one 3 (by decide)).tI F3 hr k3 pass0 (by rfl) (T.one 3 (by decide)).mgC (pk_cons (pv 0) pk_nil)) (pa_cons (pe_mkxK (f := fl 4) (T.one 4 (by decide)).xb (T.one 4 (by decide)).iC (T.one 4 (by decide)).tI F4 hr k4 pass0 (by rfl) (T.one 4 (by decide)).mgC (pk_cons (pv 0) pk_nil)) pa_nil)))))))
      (pss_cons (ps_set (i := 1) sc_law_by_keyword.nd rfl (Or.inl rfl) (pe_op op_cat (pv 1) (pe_lst (pa_cons (pe_mkxK (f := fl 5) (T.one 5 (by decide)).xb (T.one 5 (by decide)).iC (T.one 5 (by decide)).tI F5 hr k5 pass0 (by rfl) (T.one 5 (by decide)).mgC (pk_cons (pv 0) pk_nil)) (pa_cons (pe_mkxK (f := fl 6) (T.one 6 (by decide)).xb (T.one 6 (by decide)).iC (T.one 6 (by decide)).tI F6 hr k6 pass0 (by rfl) (T.one 6 (by decide)).mgC (pk_cons (pv 0) pk_nil)) (pa_cons (pe_mkxK (f := fl 7) (T.one 7 (by decide)).xb (T.one 7 (by decide)).iC (T.one 7 (by decide)).tI F7 hr k7 pass0 (by rfl) (T.one 7 (by decide)).mgC (pk_cons (pv 0) pk_nil)) (pa_cons (pe_mkxK (f := fl 8) (T.one 8 (by decide)).xb (T.one 8 (by decide)).iC (T.one 8 (by decide)).tI F8 hr k8 pass0 (by rfl) (T.one 8 (by decide)).mgC (pk_cons (pv 0) pk_nil)) pa_nil)))))))
      (pss_cons (ps_set (i := 1) sc_law_by_keyword.nd rfl (Or.inl rfl) (pe_op op_cat (pv 1) (pe_lst (pa_cons (pe_mkxK (f := fl 9) (T.one 9 (by decide)).xb (T.one 9 (by decide)).iC (T.one 9 (by decide)).tI F9 hr k9 pass0 (by rfl) (T.one 9 (by decide)).mgC (pk_cons (pv 0) pk_nil)) (pa_cons (pe_mkxK (f := fl 10) (T.one 10 (by decide)).xb (T.one 10 (by decide)).iC (T.one 10 (by decide)).tI F10 hr k10 pass0 (by rfl) (T.one 10 (by decide)).mgC (pk_cons (pv 0) pk_nil)) (pa_cons (pe_mkxK (f := fl 11) (T.one 11 (by decide)).xb (T.one 11 (by decide)).iC (T.one 11 (by decide)).tI F11 hr k11 pass0 (by rfl) (T.one 11 (by decide)).mgC (pk_cons (pv 0) pk_nil)) (pa_cons (pe_mkxK (f := fl 12) (T.one 12 (by decide)).xb (T.one 12 (by decide)).iC (T.one 12 (by decide)).tI F12 hr k12 pass0 (by rfl) (T.one 12 (by decide)).mgC (pk_cons (pv 0) pk_nil)) pa_nil)))))))
      (pss_cons (ps_set (i := 1) sc_law_by_keyword.nd rfl (Or.inl rfl) (pe_op op_cat (pv 1) (pe_lst (pa_cons (pe_mkxK (f := fl 13) (T.one 13 (by decide)).xb (T.one 13 (by decide)).iC (T.one 13 (by decide)).tI F13 hr k13 pass0 (by rfl) (T.one 13 (by decide)).mgC (pk_cons (pv 0) pk_nil)) (pa_cons (pe_mkxK (f := fl 14) (T.one 14 (by decide)).xb (T.one 14 (by decide)).iC (T.one 14 (by decide)).tI F14 hr k14 pass0 (by rfl) (T.one 14 (by decide)).mgC (pk_cons (pv 0) pk_nil)) (pa_cons (pe_mkxK (f := fl 15) (T.one 15 (by decide)).xb (T.one 15 (by decide)).iC (T.one 15 (by decide)).tI F15 hr k15 pass0 (by rfl) (T.one 15 (by decide)).mgC (pk_cons (pv 0) pk_nil)) (pa_cons (pe_mkxK (f := fl 16) (T.one 16 (by decide)).xb (T.one 16 (by decide)).iC (T.one 16 (by decide)).tI F16 hr k16 pass0 (by rfl) (T.one 16 (by decide)).mgC (pk_cons (pv 0) pk_nil)) pa_nil)))))))
      (pss_one (ps_ret (pe_op op_cat (pv 1) (pe_lst (pa_cons (pe_mkxK (f := fl 17) (T.one 17 (by decide)).xb (T.one 17 (by decide)).iC (T.one 17 (by decide)).tI F17 hr k17 pass0 (by rfl) (T.one 17 (by decide)).mgC (pk_cons (pv 0) pk_nil)) (pa_cons (pe_mkxK (f := fl 18) (T.one 18 (by decide)).xb (T.one 18 (by decide)).iC (T.one 18 (by decide)).tI F18 hr k18 pass0 (by rfl) (T.one 18 (by decide)).mgC (pk_cons (pv 0) pk_nil)) (pa_cons (pe_mkxK (f := fl 19) (T.one 19 (by decide)).xb (T.one 19 (by decide)).iC (T.one 19 (by decide)).tI F19 hr k19 pass0 (by rfl) (T.one 19 (by decide)).mgC (pk_cons (pv 0) pk_nil)) (pa_cons (pe_mkxK (f := fl 20) (T.one 20 (by decide)).xb (T.one 20 (by decide)).iC (T.one 20 (by decide)).tI F20 hr k20 pass0 (by rfl) (T.one 20 (by decide)).mgC (pk_cons (pv 0) pk_nil)) (pa_cons (pe_mkxK (f := fl 21) (T.one 21 (by decide)).xb (T.one 21 (by decide)).iC (T.one 21 (by decide)).tI F21 hr k21 pass0 (by rfl) (T.one 21 (by decide)).mgC (pk_cons (pv 0) pk_nil)) pa_nil))))))))))))), ?_⟩
    have hA : ∀ {σ : L2.St} {H' : Hp}, σ[0]? = some (some v) → EA (tCons (tVar 0) tNil) σ H' (fun vs _ => vs = [v]) := fun hs => ea_cons' (ER.ev (ev_var hs)) (EA.ev ea_nil) (fun _ _ _ _ z => z) (fun a b H2 _ ea eb => by rw [ea, eb])
    refine q_asgR (ers_lst (ers_cons (er_mk1 (hA rfl)) (ers_cons (er_mk1 (hA rfl)) (ers_cons (er_mk1 (hA rfl)) (ers_cons (er_mk1 (hA rfl)) (ers_cons (er_mk1 (hA rfl)) ers_nil))))) (by decide)) fun u0 H0 e0 hu0 => ?_
    refine q_asgR (ers_cat (ers_at rfl hu0) (ers_lst (ers_cons (er_mk1 (hA rfl)) (ers_cons (er_mk1 (hA rfl)) (ers_cons (er_mk1 (hA rfl)) (ers_cons (er_mk1 (hA rfl)) ers_nil)))) (by decide)) (by decide)) fun u1 H1 e1 hu1 => ?_
    refine q_asgR (ers_cat (ers_at rfl hu1) (ers_lst (ers_cons (er_mk1 (hA rfl)) (ers_cons (er_mk1 (hA rfl)) (ers_cons (er_mk1 (hA rfl)) (ers_cons (er_mk1 (hA rfl)) ers_nil)))) (by decide)) (by decide)) fun u2 H2 e2 hu2 => ?_
    refine q_asgR (ers_cat (ers_at rfl hu2) (ers_lst (ers_cons (er_mk1 (hA rfl)) (ers_cons (er_mk1 (hA rfl)) (ers_cons (er_mk1 (hA rfl)) (ers_cons (er_mk1 (hA rfl)) ers_nil)))) (by decide)) (by decide)) fun u3 H3 e3 hu3 => ?_
    refine s_retR (ers_cat (ers_at rfl hu3) (ers_lst (ers_cons (er_mk1 (hA rfl)) (ers_cons (er_mk1 (hA rfl)) (ers_cons (er_mk1 (hA rfl)) (ers_cons (er_mk1 (hA rfl)) (ers_cons (er_mk1 (hA rfl)) ers_nil))))) (by decide)) (by decide)) fun u4 H4 e4 hu4 => ?_
    exact k u4 H4 ((((e0.trans e1).trans e2).trans e3).trans e4) hu4
end
end HB
namespace HB
open PySem PySem.Spec PyProof.Rows L2 Evl
structure Blt2 (mg : Str → Option Value) : Prop extends Blt mg where
  isi : mg "isinstance" = none
  repr : mg "repr" = none
  range : mg "range" = none
def rowC (i : Nat) : List V := (List.range 33).map fun j => V.bl (decide (i = j))
def rowK (i : Nat) : List V := (List.range 5).map fun k => V.bl (decide (bs i = k))
/-- just this list -/
def Just (row : List V) : List V → Hp → Prop := fun xs _ => xs = row
theorem just_mono {row : List V} : Mono (Just row) := fun _ _ _ _ z => z
section
variable {K : PySem.W.Frag} {mg : Str → Option Value} {σ : L2.St} {H : Hp} {tl : TA} {i : Nat}
theorem rc_isx {a : Addr} {fs : List (Str × V)} {c : V} {cv : Value} {b : Bool} (he : Er H a (cA K i) fs) (O : OneF K mg i) (hc : ClsV c cv) (hk : PySem.W.kitOne K (.ref (cA K i)) cv = some b) : RC (rIsx K) [.ref a, c] H (.bl b) :=
  fun H1 e Q q => ⟨a, _, fs, c, cv, b, rfl, he.mono e, O.xc, hc, hk, q H1 (Ex.refl H1)⟩
theorem just_lst {vs : List V} (h : EvA tl σ H vs) (hz : vs.length ≤ 1000) : ER (tLst tl) σ H (NewL (Just vs)) := er_lst (EA.ev h) just_mono fun xs H2 p => by
  obtain rfl : xs = vs := p
  omega
theorem just_cat {ta tb : TE} {xs ys : List V} (ha : ER ta σ H (NewL (Just xs))) (hb : ER tb σ H (NewL (Just ys))) (hz : xs.length + ys.length ≤ 1000) : ER (tOp rCat ta tb) σ H (NewL (Just (xs ++ ys))) :=
  er_cat ha hb just_mono just_mono (fun as bs H2 p q => by
    obtain rfl : as = xs := p
    obtain rfl : bs = ys := q
    omega) fun as bs H2 _ p q => by
    obtain rfl : as = xs := p
    obtain rfl : bs = ys := q
    rfl
theorem just_at {row : List V} {j : Nat} {u : V} (hs : σ[j]? = some (some u)) (h : NewL (Just row) u H) : ER (tVar j) σ H (NewL (Just row)) := ER.evP (ev_var hs) h (newL_mono just_mono)
end
section
variable {P : Program} {w : World} {K : PySem.W.Frag} {mg : Str → Option Value} {base : Heap}
def spRow (K : PySem.W.Frag) (row : Nat → List V) : Sp := fun vs H Q _ => ∃ (a : Addr) (i : Nat) (fs : List (Str × V)), vs = [.ref a] ∧ i < 33 ∧ Er H a (cA K i) fs ∧ ∀ (u : V) (H' : Hp), Ex H H' → NewL (Just (row i)) u H' → Q u H' 
abbrev s_law_kinds : Stmt := top 39
theorem sc_law_kinds : FnScope ["_law_one", "_law_some"] ["_law_one"] (defScope s_law_kinds) := ⟨rfl, rfl, rfl, by decide +kernel, rfl, by decide +kernel, by decide +kernel⟩
theorem ok_law_kinds {f : Addr} {fd : FuncData} (F : FnP K "_law_kinds" s_law_kinds f fd) (T : AllF K mg) (B : Blt2 mg) : FnOk P w K mg base CX0 1 f fd ["_law_one"] (spRow K rowK) := by
  refine F.ok sc_law_kinds (fun vs H Q E h => ?_) (fun cdv A outer s H vs Q E hr h => ?_)
  · obtain ⟨a, i, fs, rfl, _⟩ := h
    rfl
  · obtain ⟨a, i, fs, rfl, hi, he, k⟩ := h
    have O := T.one i hi
    refine ⟨_, PSs.nox (pss_cons (ps_set (i := 1) sc_law_kinds.nd rfl (Or.inl rfl) (pe_lst (pa_cons (pe_callB call_isx (by rfl) B.isi (by decide +kernel) (pa_cons (pv 0) (pa_cons (pe_bltn (v := .ty (bN 0)) (by rfl) (T.mgB 0 (by decide)) bt0 rfl) pa_nil))) (pa_cons (pe_callB call_isx (by rfl) B.isi (by decide +kernel) (pa_cons (pv 0) (pa_cons (pe_bltn (v := .ty (bN 1)) (by rfl) (T.mgB 1 (by decide)) bt1 rfl) pa_nil))) (pa_cons (pe_callB call_isx (by rfl) B.isi (by decide +kernel) (pa_cons (pv 0) (pa_cons (pe_bltn (v := .ty (bN 2)) (by rfl) (T.mgB 2 (by decide)) bt2 rfl) pa_nil))) pa_nil)))))
      (pss_one (ps_ret (pe_op op_cat (pv 1) (pe_lst (pa_cons (pe_callB call_isx (by rfl) B.isi (by decide +kernel) (pa_cons (pv 0) (pa_cons (pe_bltn (v := .ty (bN 3)) (by rfl) (T.mgB 3 (by decide)) bt3 rfl) pa_nil))) (pa_cons (pe_callB call_isx (by rfl) B.isi (by decide +kernel) (pa_cons (pv 0) (pa_cons (pe_bltn (v := .ty (bN 4)) (by rfl) (T.mgB 4 (by decide)) bt4 rfl) pa_nil))) pa_nil))))))), ?_⟩
    refine q_asgR (just_lst (ea_cons (ev_cb (ea_cons (ev_var rfl) (ea_cons ev_c ea_nil)) (rc_isx he O (.ty _) (O.kd 0 (by decide)))) (ea_cons (ev_cb (ea_cons (ev_var rfl) (ea_cons ev_c ea_nil)) (rc_isx he O (.ty _) (O.kd 1 (by decide)))) (ea_cons (ev_cb (ea_cons (ev_var rfl) (ea_cons ev_c ea_nil)) (rc_isx he O (.ty _) (O.kd 2 (by decide)))) ea_nil))) (by simp)) fun u0 H0 e0 hu0 => ?_
    have he1 := he.mono e0
    refine s_retR (just_cat (just_at rfl hu0) (just_lst (ea_cons (ev_cb (ea_cons (ev_var rfl) (ea_cons ev_c ea_nil)) (rc_isx he1 O (.ty _) (O.kd 3 (by decide)))) (ea_cons (ev_cb (ea_cons (ev_var rfl) (ea_cons ev_c ea_nil)) (rc_isx he1 O (.ty _) (O.kd 4 (by decide)))) ea_nil)) (by simp)) (by simp)) fun u1 H1 e1 hu1 => ?_
    exact k u1 H1 (e0.trans e1) hu1
abbrev s_law_classes : Stmt := top 40
theorem sc_law_classes : FnScope ["_law_one", "_law_some"] ["_law_one"] (defScope s_law_classes) := ⟨rfl, rfl, rfl, by decide +kernel, rfl, by decide +kernel, by decide +kernel⟩
theorem ok_law_classes {f : Addr} {fd : FuncData} (F : FnP K "_law_classes" s_law_classes f fd) (T : AllF K mg) (B : Blt2 mg) : FnOk P w K mg base CX0 1 f fd ["_law_one"] (spRow K rowC) := by
  refine F.ok sc_law_classes (fun vs H Q E h => ?_) (fun cdv A outer s H vs Q E hr h => ?_)
  · obtain ⟨a, i, fs, rfl, _⟩ := h
    rfl
  · obtain ⟨a, i, fs, rfl, hi, he, k⟩ := h
    have O := T.one i hi
    refine ⟨_, PSs.nox (pss_cons (ps_set (i := 1) sc_law_classes.nd rfl (Or.inl rfl) (pe_lst (pa_cons (pe_callB call_isx (by rfl) B.isi (by decide +kernel) (pa_cons (pv 0) (pa_cons (pe_glob (v := .ref (cA K 0)) (by rfl) (T.one 0 (by decide)).mgC rfl) pa_nil))) (pa_cons (pe_callB call_isx (by rfl) B.isi (by decide +kernel) (pa_cons (pv 0) (pa_cons (pe_glob (v := .ref (cA K 1)) (by rfl) (T.one 1 (by decide)).mgC rfl) pa_nil))) (pa_cons (pe_callB call_isx (by rfl) B.isi (by decide +kernel) (pa_cons (pv 0) (pa_cons (pe_glob (v := .ref (cA K 2)) (by rfl) (T.one 2 (by decide)).mgC rfl) pa_nil))) pa_nil)))))
      (pss_cons (ps_set (i := 1) sc_law_classes.nd rfl (Or.inl rfl) (pe_op op_cat (pv 1) (pe_lst (pa_cons (pe_callB call_isx (by rfl) B.isi (by decide +kernel) (pa_cons (pv 0) (pa_cons (pe_glob (v := .ref (cA K 3)) (by rfl) (T.one 3 (by decide)).mgC rfl) pa_nil))) (pa_cons (pe_callB call_isx (by rfl) B.isi (by decide +kernel) (pa_cons (pv 0) (pa_cons (pe_glob (v := .ref (cA K 4)) (by rfl) (T.one 4 (by decide)).mgC rfl) pa_nil))) (pa_cons (pe_callB call_isx (by rfl) B.isi (by decide +kernel) (pa_cons (pv 0) (pa_cons (pe_glob (v := .ref (cA K 5)) (by rfl) (T.one 5 (by decide)).mgC rfl) pa_nil))) pa_nil))))))
      (pss_cons (ps_set (i := 1) sc_law_classes.nd rfl (Or.inl rfl) (pe_op op_cat (pv 1) (pe_lst (pa_cons (pe_callB call_isx (by rfl) B.isi (by decide +kernel) (pa_cons (pv 0) (pa_cons (pe_glob (v := .ref (cA K 6)) (by rfl) (T.one 6 (by decide)).mgC rfl) pa_nil))) (pa_cons (pe_callB call_isx (by rfl) B.isi (by decide +kernel) (pa_cons (pv 0) (pa_cons (pe_glob (v := .ref (cA K 7)) (by rfl) (T.one 7 (by decide)).mgC rfl) pa_nil))) (pa_cons (pe_callB call_isx (by rfl) B.isi (by decide +kernel) (pa_cons (pv 0) (pa_cons (pe_glob (v := .ref (cA K 8)) (by rfl) (T.one 8 (by decide)).mgC rfl) pa_nil))) pa_nil))))))
      (pss_cons (ps_set (i := 1) sc_law_classes.nd rfl (Or.inl rfl) (pe_op op_cat (pv 1) (pe_lst (pa_cons (pe_callB call_isx (by rfl) B.isi (by decide +kernel) (pa_cons (pv 0) (pa_cons (pe_glob (v := .ref (cA K 9)) (by rfl) (T.one 9 (by decide)).mgC rfl) pa_nil))) (pa_cons (pe_callB call_isx (by rfl) B.isi (by decide +kernel) (pa_cons (pv 0) (pa_cons (pe_glob (v := .ref (cA K 10)) (by rfl) (T.one 10 (by decide)).mgC rfl) pa_nil))) (pa_cons (pe_callB call_isx (by rfl) B.isi (by decide +kernel) (pa_cons (pv 0) (pa_cons (pe_glob (v := .ref (cA K 11)) (by rfl) (T.one 11 (by decide)).mgC rfl) pa_nil))) pa_nil))))))
      (pss_cons (ps_set (i := 1) sc_law_classes.nd rfl (Or.inl rfl) (pe_op op_cat (pv 1) (pe_lst (pa_cons (pe_callB call_isx (by rfl) B.isi (by decide +kernel) (pa_cons (pv 0) (pa_cons (pe_glob (v := .ref (cA K 12)) (by rfl) (T.one 12 (by decide)).mgC rfl) pa_nil))) (pa_cons (pe_callB call_isx (by rfl) B.isi (by decide +kernel) (pa_cons (pv 0) (pa_cons (pe_glob (v := .ref (cA K 13)) (by rfl) (T.one 13 (by decide)).mgC rfl) pa_nil))) (pa_cons (pe_callB call_isx (by rfl) B.isi (by decide +kernel) (pa_cons (pv 0) (pa_cons (pe_glob (v := .ref (cA K 14)) (by rfl) (T.one 14 (by decide)).mgC rfl) pa_nil))) pa_nil))))))
      (pss_cons (ps_set (i := 1) sc_law_classes.nd rfl (Or.inl rfl) (pe_op op_cat (pv 1) (pe_lst (pa_cons (pe_callB call_isx (by rfl) B.isi (by decide +kernel) (pa_cons (pv 0) (pa_cons (pe_glob (v := .ref (cA K 15)) (by rfl) (T.one 15 (by decide)).mgC rfl) pa_nil))) (pa_cons (pe_callB call_isx (by rfl) B.isi (by decide +kernel) (pa_cons (pv 0) (pa_cons (pe_glob (v := .ref (cA K 16)) (by rfl) (T.one 16 (by decide)).mgC rfl) pa_nil))) (pa_cons (pe_callB call_isx (by rfl) B.isi (by decide +kernel) (pa_cons (pv 0) (pa_cons (pe_glob (v := .ref (cA K 17)) (by rfl) (T.one 17 (by decide)).mgC rfl) pa_nil))) pa_nil))))))
      (pss_cons (ps_set (i := 1) sc_law_classes.nd rfl (Or.inl rfl) (pe_op op_cat (pv 1) (pe_lst (pa_cons (pe_callB call_isx (by rfl) B.isi (by decide +kernel) (pa_cons (pv 0) (pa_cons (pe_glob (v := .ref (cA K 18)) (by rfl) (T.one 18 (by decide)).mgC rfl) pa_nil))) (pa_cons (pe_callB call_isx (by rfl) B.isi (by decide +kernel) (pa_cons (pv 0) (pa_cons (pe_glob (v := .ref (cA K 19)) (by rfl) (T.one 19 (by decide)).mgC rfl) pa_nil))) (pa_cons (pe_callB call_isx (by rfl) B.isi (by decide +kernel) (pa_cons (pv 0) (pa_cons (pe_glob (v := .ref (cA K 20)) (by rfl) (T.one 20 (by decide)).mgC rfl) pa_nil))) pa_nil))))))
      (pss_cons (ps_set (i := 1) sc_law_classes.nd rfl (Or.inl rfl) (pe_op op_cat (pv 1) (pe_lst (pa_cons (pe_callB call_isx (by rfl) B.isi (by decide +kernel) (pa_cons (pv 0) (pa_cons (pe_glob (v := .ref (cA K 21)) (by rfl) (T.one 21 (by decide)).mgC rfl) pa_nil))) pa_nil))))
      (pss_cons (ps_set (i := 1) sc_law_classes.nd rfl (Or.inl rfl) (pe_op op_cat (pv 1) (pe_lst (pa_cons (pe_callB call_isx (by rfl) B.isi (by decide +kernel) (pa_cons (pv 0) (pa_cons (pe_glob (v := .ref (cA K 22)) (by rfl) (T.one 22 (by decide)).mgC rfl) pa_nil))) (pa_cons (pe_callB call_isx (by rfl) B.isi (by decide +kernel) (pa_cons (pv 0) (pa_cons (pe_glob (v := .ref (cA K 23)) (by rfl) (T.one 23 (by decide)).mgC rfl) pa_nil))) (pa_cons (pe_callB call_isx (by rfl) B.isi (by decide +kernel) (pa_cons (pv 0) (pa_cons (pe_glob (v := .ref (cA K 24)) (by rfl) (T.one 24 (by decide)).mgC rfl) pa_nil))) pa_nil))))))
      (pss_cons (ps_set (i := 1) sc_law_classes.nd rfl (Or.inl rfl) (pe_op op_cat (pv 1) (pe_lst (pa_cons (pe_callB call_isx (by rfl) B.isi (by decide +kernel) (pa_cons (pv 0) (pa_cons (pe_glob (v := .ref (cA K 25)) (by rfl) (T.one 25 (by decide)).mgC rfl) pa_nil))) (pa_cons (pe_callB call_isx (by rfl) B.isi (by decide +kernel) (pa_cons (pv 0) (pa_cons (pe_glob (v := .ref (cA K 26)) (by rfl) (T.one 26 (by decide)).mgC rfl) pa_nil))) (pa_cons (pe_callB call_isx (by rfl) B.isi (by decide +kernel) (pa_cons (pv 0) (pa_cons (pe_glob (v := .ref (cA K 27)) (by rfl) (T.one 27 (by decide)).mgC rfl) pa_nil))) pa_nil))))))
      (pss_cons (ps_set (i := 1) sc_law_classes.nd rfl (Or.inl rfl) (pe_op op_cat (pv 1) (pe_lst (pa_cons (pe_callB call_isx (by rfl) B.isi (by decide +kernel) (pa_cons (pv 0) (pa_cons (pe_glob (v := .ref (cA K 28)) (by rfl) (T.one 28 (by decide)).mgC rfl) pa_nil))) (pa_cons (pe_callB call_isx (by rfl) B.isi (by decide +kernel) (pa_cons (pv 0) (pa_cons (pe_glob (v := .ref (cA K 29)) (by rfl) (T.one 29 (by decide)).mgC rfl) pa_nil))) (pa_cons (pe_callB call_isx (by rfl) B.isi (by decide +kernel) (pa_cons (pv 0) (pa_cons (pe_glob (v := .ref (cA K 30)) (by rfl) (T.one 30 (by decide)).mgC rfl) pa_nil))) pa_nil))))))
      (pss_one (ps_ret (pe_op op_cat (pv 1) (pe_lst (pa_cons (pe_callB call_isx (by rfl) B.isi (by decide +kernel) (pa_cons (pv 0) (pa_cons (pe_glob (v := .ref (cA K 31)) (by rfl) (T.one 31 (by decide)).mgC rfl) pa_nil))) (pa_cons (pe_callB call_isx (by rfl) B.isi (by decide +kernel) (pa_cons (pv 0) (pa_cons (pe_glob (v := .ref (cA K 32)) (by rfl) (T.one 32 (by decide)).mgC rfl) pa_nil))) pa_nil))))))))))))))))), ?_⟩
    refine q_asgR (just_lst (ea_cons (ev_cb (ea_cons (ev_var rfl) (ea_cons ev_c ea_nil)) (rc_isx he O (.own _) (O.kit 0 (by decide)))) (ea_cons (ev_cb (ea_cons (ev_var rfl) (ea_cons ev_c ea_nil)) (rc_isx he O (.own _) (O.kit 1 (by decide)))) (ea_cons (ev_cb (ea_cons (ev_var rfl) (ea_cons ev_c ea_nil)) (rc_isx he O (.own _) (O.kit 2 (by decide)))) ea_nil))) (by simp)) fun u0 H0 e0 hu0 => ?_
    have he1 := he.mono e0
    refine q_asgR (just_cat (just_at rfl hu0) (just_lst (ea_cons (ev_cb (ea_cons (ev_var rfl) (ea_cons ev_c ea_nil)) (rc_isx he1 O (.own _) (O.kit 3 (by decide)))) (ea_cons (ev_cb (ea_cons (ev_var rfl) (ea_cons ev_c ea_nil)) (rc_isx he1 O (.own _) (O.kit 4 (by decide)))) (ea_cons (ev_cb (ea_cons (ev_var rfl) (ea_cons ev_c ea_nil)) (rc_isx he1 O (.own _) (O.kit 5 (by decide)))) ea_nil))) (by simp)) (by simp)) fun u1 H1 e1 hu1 => ?_
    have he2 := he1.mono e1
    refine q_asgR (just_cat (just_at rfl hu1) (just_lst (ea_cons (ev_cb (ea_cons (ev_var rfl) (ea_cons ev_c ea_nil)) (rc_isx he2 O (.own _) (O.kit 6 (by decide)))) (ea_cons (ev_cb (ea_cons (ev_var rfl) (ea_cons ev_c ea_nil)) (rc_isx he2 O (.own _) (O.kit 7 (by decide)))) (ea_cons (ev_cb (ea_cons (ev_var rfl) (ea_cons ev_c ea_nil)) (rc_isx he2 O (.own _) (O.kit 8 (by decide)))) ea_nil))) (by simp)) (by simp)) fun u2 H2 e2 hu2 => ?_
    have he3 := he2.mono e2
    refine q_asgR (just_cat (just_at rfl hu2) (just_lst (ea_cons (ev_cb (ea_cons (ev_var rfl) (ea_cons ev_c ea_nil)) (rc_isx he3 O (.own _) (O.kit 9 (by decide)))) (ea_cons (ev_cb (ea_cons (ev_var rfl) (ea_cons ev_c ea_nil)) (rc_isx he3 O (.own _) (O.kit 10 (by decide)))) (ea_cons (ev_cb (ea_cons (ev_var rfl) (ea_cons ev_c ea_nil)) (rc_isx he3 O (.own _) (O.kit 11 (by decide)))) ea_nil))) (by simp)) (by simp)) fun u3 H3 e3 hu3 => ?_
    have he4 := he3.mono e3
    refine q_asgR (just_cat (just_at rfl hu3) (just_lst (ea_cons (ev_cb (ea_cons (ev_var rfl) (ea_cons ev_c ea_nil)) (rc_isx he4 O (.own _) (O.kit 12 (by decide)))) (ea_cons (ev_cb (ea_cons (ev_var rfl) (ea_cons ev_c ea_nil)) (rc_isx he4 O (.own _) (O.kit 13 (by decide)))) (ea_cons (ev_cb (ea_cons (ev_var rfl) (ea_cons ev_c ea_nil)) (rc_isx he4 O (.own _) (O.kit 14 (by decide)))) ea_nil))) (by simp)) (by simp)) fun u4 H4 e4 hu4 => ?_
    have he5 := he4.mono e4
    refine q_asgR (just_cat (just_at rfl hu4) (just_lst (ea_cons (ev_cb (ea_cons (ev_var rfl) (ea_cons ev_c ea_nil)) (rc_isx he5 O (.own _) (O.kit 15 (by decide)))) (ea_cons (ev_cb (ea_cons (ev_var rfl) (ea_cons ev_c ea_nil)) (rc_isx he5 O (.own _) (O.kit 16 (by decide)))) (ea_cons (ev_cb (ea_cons (ev_var rfl) (ea_cons ev_c ea_nil)) (rc_isx he5 O (.own _) (O.kit 17 (by decide)))) ea_nil))) (by simp)) (by simp)) fun u5 H5 e5 hu5 => ?_
    have he6 := he5.mono e5
    refine q_asgR (just_cat (just_at rfl hu5) (just_lst (ea_cons (ev_cb (ea_cons (ev_var rfl) (ea_cons ev_c ea_nil)) (rc_isx he6 O (.own _) (O.kit 18 (by decide)))) (ea_cons (ev_cb (ea_cons (ev_var rfl) (ea_cons ev_c ea_nil)) (rc_isx he6 O (.own _) (O.kit 19 (by decide)))) (ea_cons (ev_cb (ea_cons (ev_var rfl) (ea_cons ev_c ea_nil)) (rc_isx he6 O (.own _) (O.kit 20 (by decide)))) ea_nil))) (by simp)) (by simp)) fun u6 H6 e6 hu6 => ?_
    have he7 := he6.mono e6
    refine q_asgR (just_cat (just_at rfl hu6) (just_lst (ea_cons (ev_cb (ea_cons (ev_var rfl) (ea_cons ev_c ea_nil)) (rc_isx he7 O (.own _) (O.kit 21 (by decide)))) ea_nil) (by simp)) (by simp)) fun u7 H7 e7 hu7 => ?_
    have he8 := he7.mono e7
    refine q_asgR (just_cat (just_at rfl hu7) (just_lst (ea_cons (ev_cb (ea_cons (ev_var rfl) (ea_cons ev_c ea_nil)) (rc_isx he8 O (.own _) (O.kit 22 (by decide)))) (ea_cons (ev_cb (ea_cons (ev_var rfl) (ea_cons ev_c ea_nil)) (rc_isx he8 O (.own _) (O.kit 23 (by decide)))) (ea_cons (ev_cb (ea_cons (ev_var rfl) (ea_cons ev_c ea_nil)) (rc_isx he8 O (.own _) (O.kit 24 (by decide)))) ea_nil))) (by simp)) (by simp)) fun u8 H8 e8 hu8 => ?_
    have he9 := he8.mono e8
    refine q_asgR (just_cat (just_at rfl hu8) (just_lst (ea_cons (ev_cb (ea_cons (ev_var rfl) (ea_cons ev_c ea_nil)) (rc_isx he9 O (.own _) (O.kit 25 (by decide)))) (ea_cons (ev_cb (ea_cons (ev_var rfl) (ea_cons ev_c ea_nil)) (rc_isx he9 O (.own _) (O.kit 26 (by decide)))) (ea_cons (ev_cb (ea_cons (ev_var rfl) (ea_cons ev_c ea_nil)) (rc_isx he9 O (.own _) (O.kit 27 (by decide)))) ea_nil))) (by simp)) (by simp)) fun u9 H9 e9 hu9 => ?_
    have he10 := he9.mono e9
    refine q_asgR (just_cat (just_at rfl hu9) (just_lst (ea_cons (ev_cb (ea_cons (ev_var rfl) (ea_cons ev_c ea_nil)) (rc_isx he10 O (.own _) (O.kit 28 (by decide)))) (ea_cons (ev_cb (ea_cons (ev_var rfl) (ea_cons ev_c ea_nil)) (rc_isx he10 O (.own _) (O.kit 29 (by decide)))) (ea_cons (ev_cb (ea_cons (ev_var rfl) (ea_cons ev_c ea_nil)) (rc_isx he10 O (.own _) (O.kit 30 (by decide)))) ea_nil))) (by simp)) (by simp)) fun u10 H10 e10 hu10 => ?_
    have he11 := he10.mono e10
    refine s_retR (just_cat (just_at rfl hu10) (just_lst (ea_cons (ev_cb (ea_cons (ev_var rfl) (ea_cons ev_c ea_nil)) (rc_isx he11 O (.own _) (O.kit 31 (by decide)))) (ea_cons (ev_cb (ea_cons (ev_var rfl) (ea_cons ev_c ea_nil)) (rc_isx he11 O (.own _) (O.kit 32 (by decide)))) ea_nil)) (by simp)) (by simp)) fun u11 H11 e11 hu11 => ?_
    exact k u11 H11 (((((((((((e0.trans e1).trans e2).trans e3).trans e4).trans e5).trans e6).trans e7).trans e8).trans e9).trans e10).trans e11) hu11
end
end HB
namespace HB
open PySem PySem.Spec PyProof.Rows L2 Evl
/-! ### values of any kind, apart from the pen at p -/
/-- the heap without what stands at p -/
def wo (p : Addr) (H : Hp) : Hp := fun a => if a = p then none else H a
theorem wo_ne {p a : Addr} {H : Hp} (h : a ≠ p) : wo p H a = H a := if_neg h
theorem wo_upd {p : Addr} {H : Hp} {o : HO} : wo p (upd H p o) = wo p H := by
  funext a
  unfold wo
  split
  · rfl
  · rw [upd_ne (by assumption)]
theorem wo_ex {p : Addr} {H : Hp} : Ex (wo p H) H := fun a o e => by
  unfold wo at e
  split at e
  · cases e
  · exact e
theorem wo_mono {p : Addr} {H H' : Hp} (x : Ex H H') : Ex (wo p H) (wo p H') := fun a o e => by
  unfold wo at e ⊢
  split at e
  · cases e
  · rename_i h
    rw [if_neg h]
    exact x a o e
def IsD (K : PySem.W.Frag) (p : Addr) (d : PyData) : V → Hp → Prop := fun v H => Dq K (wo p H) v d
def AreD (K : PySem.W.Frag) (p : Addr) (ds : List PyData) : List V → Hp → Prop := fun vs H => Dqs K (wo p H) vs ds
theorem isD_mono {K : PySem.W.Frag} {p : Addr} {d : PyData} : Mono (IsD K p d) := fun _ _ _ e h => Dq.mono (wo_mono e) h
theorem areD_mono {K : PySem.W.Frag} {p : Addr} {ds : List PyData} : Mono (AreD K p ds) := fun _ _ _ e h => Dqs.mono (wo_mono e) h
theorem dqs_append {K : PySem.W.Frag} {H : Hp} : ∀ {xs ys : List V} {ds es : List PyData}, Dqs K H xs ds → Dqs K H ys es → Dqs K H (xs ++ ys) (ds ++ es)
  | _, _, _, _, .nil, h => h
  | _, _, _, _, .cons a r, h => .cons a (dqs_append r h)
theorem dqs_mem {K : PySem.W.Frag} {H : Hp} : ∀ {xs : List V} {ds : List PyData} {v : V}, Dqs K H xs ds → v ∈ xs → ∃ d, d ∈ ds ∧ Dq K H v d
  | _, _, v, .nil, h => by simp at h
  | _, _, v, .cons a r, h => by
    rcases List.mem_cons.mp h with rfl | h
    · exact ⟨_, List.mem_cons_self, a⟩
    · obtain ⟨d, h1, h2⟩ := dqs_mem r h
      exact ⟨d, List.mem_cons_of_mem _ h1, h2⟩
section
variable {K : PySem.W.Frag} {σ : L2.St} {H : Hp} {tl : TA} {te : TE} {p : Addr} {o : HO} {d : PyData} {ds : List PyData} {v : V}
theorem d_ev (h : Ev te σ H v) (hd : ∀ H', Dq K H' v d) : ER te σ H (IsD K p d) := ER.evP h (hd _) isD_mono
theorem d_nil : EA tNil σ H (AreD K p []) := ea_nil' .nil areD_mono
theorem d_cons (h : ER te σ H (IsD K p d)) (hr : EA tl σ H (AreD K p ds)) : EA (tCons te tl) σ H (AreD K p (d :: ds)) := ea_cons' h hr isD_mono fun _ _ _ _ a b => .cons a b
theorem d_lst (hp : H p = some o) (h : EA tl σ H (AreD K p ds)) (hz : ds.length ≤ 1000) : ER (tLst tl) σ H (IsD K p (.list ds)) := fun H1 e _ q =>
  h H1 e _ fun xs H2 e2 z => ⟨sz_of (by rw [Dqs.length z]; omega), fun a ha => by
    have nap : a ≠ p := (ne_of_none ((e.trans e2) _ _ hp) ha).symm
    exact q (.ref a) _ (e2.trans (Ex.new ha)) (.lst (sq_of (by rw [wo_ne nap, upd_same])) (areD_mono _ _ _ (Ex.new ha) z))⟩
theorem d_tup (hp : H p = some o) (h : EA tl σ H (AreD K p ds)) (hz : ds.length ≤ 1000) : ER (tTup tl) σ H (IsD K p (.tuple ds)) := fun H1 e _ q =>
  h H1 e _ fun xs H2 e2 z => ⟨sz_of (by rw [Dqs.length z]; omega), fun a ha => by
    have nap : a ≠ p := (ne_of_none ((e.trans e2) _ _ hp) ha).symm
    exact q (.ref a) _ (e2.trans (Ex.new ha)) (.tup (st_of (by rw [wo_ne nap, upd_same])) (areD_mono _ _ _ (Ex.new ha) z))⟩
theorem d_dnew (hp : H p = some o) : ER tDNewK σ H (IsD K p (.dict [])) := fun H1 e _ q => fun a ha => by
  have nap : a ≠ p := (ne_of_none (e _ _ hp) ha).symm
  exact q (.ref a) _ (Ex.new ha) (.dic (kvs := []) (by rw [wo_ne nap, upd_same]) .nil)
theorem d_one {z : Str} {i : Int} (hp : H p = some o) : ER (tDisp [(tC (.str z), tC (.int i))]) σ H (IsD K p (.dict [(.str z, .int i)])) := fun H1 e _ q => fun a ha => by
  have nap : a ≠ p := (ne_of_none (e _ _ hp) ha).symm
  refine ⟨upd_same, [(Sum.inr z, .int i)], rfl, by show 1 ≤ 15; decide, ?_⟩
  rw [upd_upd]
  exact q (.ref a) _ (Ex.new ha) (.dic (kvs := [(Sum.inr z, .int i)]) (by rw [wo_ne nap, upd_same]; rfl) (.cons (.int i) .nil))
theorem d_list (h : EA tl σ H (AreD K p ds)) (hz : ds.length ≤ 1000) : ER (tLst tl) σ H (NewL (AreD K p ds)) := er_lst h areD_mono fun xs H2 z => by
  rw [Dqs.length z]
  omega
theorem d_cat {ta tb : TE} {es : List PyData} (ha : ER ta σ H (NewL (AreD K p ds))) (hb : ER tb σ H (NewL (AreD K p es))) (hz : ds.length + es.length ≤ 1000) : ER (tOp rCat ta tb) σ H (NewL (AreD K p (ds ++ es))) :=
  er_cat ha hb areD_mono areD_mono (fun xs ys H2 a b => by rw [Dqs.length a, Dqs.length b]; omega) fun xs ys H2 _ a b => dqs_append a b
theorem d_at {j : Nat} {u : V} (hs : σ[j]? = some (some u)) (h : NewL (AreD K p ds) u H) : ER (tVar j) σ H (NewL (AreD K p ds)) := ER.evP (ev_var hs) h (newL_mono areD_mono)
end
def odd0_0 : List PyData := [.none, .bool true, .bool false, .int 0, .int 1, .int (-1), .int 2, .int 7, .int (10 ^ 30)]
def odd0_1 : List PyData := [.int (10 ^ 60), .str "", .str "a", .str "A", .str "ab cd", .str "abcdefghi", .str "a1", .tuple [], .list []]
def odd0 : List PyData := odd0_0 ++ odd0_1
def odd1_0 : List PyData := [.dict [], .tuple [.str "a"], .list [.str "a"], .tuple [.int 0], .tuple [.int 0, .int 1], .tuple [.int 0, .int 0, .int 0], .dict [(.str "a", .int 1)], .list [.none], .tuple [.none, .str "a"]]
def odd1_1 : List PyData := [.tuple [.str "a", .tuple []], .int (-5)]
def odd1 : List PyData := odd1_0 ++ odd1_1
def odd2_0 : List PyData := [.tuple [.str "alone", .str "a"], .tuple [.str "record", .str "a"], .tuple [.str "bundle", .tuple [.str "a", .str "b"]], .list [.list []], .tuple [.bool true]]
def odd2 : List PyData := odd2_0
def oddD : List PyData := odd0 ++ odd1 ++ odd2
section
variable {P : Program} {w : World} {K : PySem.W.Frag} {mg : Str → Option Value} {base : Heap}
abbrev s_law_odd : Stmt := top 38
def spOdd (K : PySem.W.Frag) : Sp := fun vs H Q _ => ∃ (p c : Addr) (ns : List Int) (n : Nat), vs = [.ref p] ∧ Pen H p c ns n ∧ n < 2 ^ 40 ∧ ∀ (v : V) (d : PyData) (H' : Hp), d ∈ oddD → IsD K p d v H' → Ex (wo p H) (wo p H') → Pen H' p c ns (n + 1) → Q v H'
theorem sc_law_odd : FnScope ["_law_pen_here", "_law_some"] ["_law_pen_here"] (defScope s_law_odd) := ⟨rfl, rfl, rfl, by decide +kernel, rfl, by decide +kernel, by decide +kernel⟩
theorem ok_odd {f g : Addr} {fd gd : FuncData} (F : FnP K "_law_odd" s_law_odd f fd) (G : FnOk P w K mg base CX0 2 g gd ["_law_pen_here", "_law_options"] (spPick K)) (mgP : mg "_law_pick" = some (.ref g)) (kp : PySem.W.keepIn K (.ref g) = true)
    (bP : Binds K gd ["_law_pen_here", "_law_options"] []) : FnOk P w K mg base CX0 3 f fd ["_law_pen_here"] (spOdd K) := by
  refine F.ok sc_law_odd (fun vs H Q E h => ?_) (fun cdv A outer s H vs Q E hr h => ?_)
  · obtain ⟨p, c, ns, n, rfl, _⟩ := h
    rfl
  · obtain ⟨p, c, ns, n, rfl, hp, hn, k⟩ := h
    refine ⟨_, PSs.nox (pss_cons (ps_set (i := 1) sc_law_odd.nd rfl (Or.inl rfl) (pe_lst (pa_cons pe_non (pa_cons pe_bl (pa_cons pe_bl (pa_cons pe_int (pa_cons pe_int (pa_cons (pe_un un_neg pe_int) (pa_cons pe_int (pa_cons pe_int (pa_cons (pe_op op_pow pe_int pe_int) (pa_cons (pe_op op_pow pe_int pe_int) (pa_cons pe_str (pa_cons pe_str (pa_cons pe_str (pa_cons pe_str (pa_cons pe_str (pa_cons pe_str (pa_cons (pe_tup pa_nil) (pa_cons (pe_lst pa_nil) pa_nil))))))))))))))))))))
      (pss_cons (ps_set (i := 1) sc_law_odd.nd rfl (Or.inl rfl) (pe_op op_cat (pv 1) (pe_lst (pa_cons pe_dnewK (pa_cons (pe_tup (pa_cons pe_str pa_nil)) (pa_cons (pe_lst (pa_cons pe_str pa_nil)) (pa_cons (pe_tup (pa_cons pe_int pa_nil)) (pa_cons (pe_tup (pa_cons pe_int (pa_cons pe_int pa_nil))) (pa_cons (pe_tup (pa_cons pe_int (pa_cons pe_int (pa_cons pe_int pa_nil)))) (pa_cons (pe_disp (pps_cons pe_str pe_int pps_nil) (by rfl) (by rfl) (fun z => by cases z) (by decide)) (pa_cons (pe_lst (pa_cons pe_non pa_nil)) (pa_cons (pe_tup (pa_cons pe_non (pa_cons pe_str pa_nil))) (pa_cons (pe_tup (pa_cons pe_str (pa_cons (pe_tup pa_nil) pa_nil))) (pa_cons (pe_un un_neg pe_int) pa_nil))))))))))))))
      (pss_one (ps_ret (pe_call G hr rfl mgP kp bP .nil pass0 (pa_cons (pv 0) (pa_cons (pe_op op_cat (pv 1) (pe_lst (pa_cons (pe_tup (pa_cons pe_str (pa_cons pe_str pa_nil))) (pa_cons (pe_tup (pa_cons pe_str (pa_cons pe_str pa_nil))) (pa_cons (pe_tup (pa_cons pe_str (pa_cons (pe_tup (pa_cons pe_str (pa_cons pe_str pa_nil))) pa_nil))) (pa_cons (pe_lst (pa_cons (pe_lst pa_nil) pa_nil)) (pa_cons (pe_tup (pa_cons pe_bl pa_nil)) pa_nil))))))) pa_nil))))))), ?_⟩
    obtain ⟨b, r, hpd, _⟩ := hp.at_
    refine q_asgR (P := NewL (AreD K p odd0)) (d_list (d_cons (d_ev ev_c fun _ => .non) (d_cons (d_ev ev_c fun _ => .bl _) (d_cons (d_ev ev_c fun _ => .bl _) (d_cons (d_ev ev_c fun _ => .int _) (d_cons (d_ev ev_c fun _ => .int _) (d_cons (d_ev (ev_un ev_c ru_neg) fun _ => .int _) (d_cons (d_ev ev_c fun _ => .int _) (d_cons (d_ev ev_c fun _ => .int _) (d_cons (d_ev (ev_op ev_c ev_c (rv_I ⟨by decide, by decide, by decide⟩)) fun _ => .int _) (d_cons (d_ev (ev_op ev_c ev_c (rv_I ⟨by decide, by decide, by decide⟩)) fun _ => .int _) (d_cons (d_ev ev_c fun _ => .str _) (d_cons (d_ev ev_c fun _ => .str _) (d_cons (d_ev ev_c fun _ => .str _) (d_cons (d_ev ev_c fun _ => .str _) (d_cons (d_ev ev_c fun _ => .str _) (d_cons (d_ev ev_c fun _ => .str _) (d_cons (d_tup hpd d_nil (by decide)) (d_cons (d_lst hpd d_nil (by decide)) d_nil)))))))))))))))))) (by decide)) fun u1 H1 e1 h1 => ?_
    refine q_asgR (P := NewL (AreD K p (odd0 ++ odd1))) (d_cat (d_at rfl h1) (d_list (d_cons (d_dnew (e1 _ _ hpd)) (d_cons (d_tup (e1 _ _ hpd) (d_cons (d_ev ev_c fun _ => .str _) d_nil) (by decide)) (d_cons (d_lst (e1 _ _ hpd) (d_cons (d_ev ev_c fun _ => .str _) d_nil) (by decide)) (d_cons (d_tup (e1 _ _ hpd) (d_cons (d_ev ev_c fun _ => .int _) d_nil) (by decide)) (d_cons (d_tup (e1 _ _ hpd) (d_cons (d_ev ev_c fun _ => .int _) (d_cons (d_ev ev_c fun _ => .int _) d_nil)) (by decide)) (d_cons (d_tup (e1 _ _ hpd) (d_cons (d_ev ev_c fun _ => .int _) (d_cons (d_ev ev_c fun _ => .int _) (d_cons (d_ev ev_c fun _ => .int _) d_nil))) (by decide)) (d_cons (d_one (e1 _ _ hpd)) (d_cons (d_lst (e1 _ _ hpd) (d_cons (d_ev ev_c fun _ => .non) d_nil) (by decide)) (d_cons (d_tup (e1 _ _ hpd) (d_cons (d_ev ev_c fun _ => .non) (d_cons (d_ev ev_c fun _ => .str _) d_nil)) (by decide)) (d_cons (d_tup (e1 _ _ hpd) (d_cons (d_ev ev_c fun _ => .str _) (d_cons (d_tup (e1 _ _ hpd) d_nil (by decide)) d_nil)) (by decide)) (d_cons (d_ev (ev_un ev_c ru_neg) fun _ => .int _) d_nil))))))))))) (by decide)) (by decide)) fun u2 H2 e2 h2 => ?_
    have e12 := e1.trans e2
    refine ⟨_, rfl, ?_⟩
    have hcat : ER _ _ H2 (NewL (AreD K p oddD)) := d_cat (d_at (σ := [some (.ref p), some u2]) (j := 1) rfl h2) (d_list (d_cons (d_tup (e12 _ _ hpd) (d_cons (d_ev ev_c fun _ => .str _) (d_cons (d_ev ev_c fun _ => .str _) d_nil)) (by decide)) (d_cons (d_tup (e12 _ _ hpd) (d_cons (d_ev ev_c fun _ => .str _) (d_cons (d_ev ev_c fun _ => .str _) d_nil)) (by decide)) (d_cons (d_tup (e12 _ _ hpd) (d_cons (d_ev ev_c fun _ => .str _) (d_cons (d_tup (e12 _ _ hpd) (d_cons (d_ev ev_c fun _ => .str _) (d_cons (d_ev ev_c fun _ => .str _) d_nil)) (by decide)) d_nil)) (by decide)) (d_cons (d_lst (e12 _ _ hpd) (d_cons (d_lst (e12 _ _ hpd) d_nil (by decide)) d_nil) (by decide)) (d_cons (d_tup (e12 _ _ hpd) (d_cons (d_ev ev_c fun _ => .bl _) d_nil) (by decide)) d_nil))))) (by decide)) (by decide)
    refine hcat H2 (Ex.refl H2) _ fun u3 H3 e3 h3 => ?_
    obtain ⟨a, xs, rfl, ha, hx⟩ := h3
    have e13 := e12.trans e3
    have hp3 := hp.mono e13 (Nat.le_refl n)
    have hlen : xs.length = oddD.length := Dqs.length hx
    refine ⟨p, c, ns, n, _, rfl, hp3, hn, .inl ⟨a, xs, rfl, ha, ?_, ?_, fun v b r hv h0 h1 h2 => ?_⟩⟩
    · rw [hlen]
      decide
    · rw [hlen]
      decide
    · obtain ⟨d, hd, hq⟩ := dqs_mem hx hv
      refine k v d _ hd ?_ ?_ (hp3.upd h0 h1 h2)
      · show Dq K (wo p (upd H3 p _)) v d
        rw [wo_upd]
        exact hq
      · rw [wo_upd]
        exact wo_mono e13
end
end HB
namespace HB
open PySem PySem.Spec PyProof.Rows L2 Evl
/-! ### helpers of the law's own walk -/
theorem odd_small : ∀ d ∈ oddD, d.showable = true ∧ d.depth < 50 ∧ d.shown.length ≤ 1000 ∧ (PyData.list (List.replicate 12 d)).showable = true ∧ (PyData.list (List.replicate 12 d)).depth < 60 ∧ (PyData.list (List.replicate 12 d)).shown.length ≤ 20000 := by decide +kernel
theorem fl_value : ∀ i, i < 22 → fl i = "value" := by decide +kernel
/-- errors of these classes, whatever their fields -/
def ErX (K : PySem.W.Frag) (is : List Nat) : List V → Hp → Prop := fun xs H => Paired (fun x i => ∃ fs, IsEr K i fs x H) xs is
theorem erX_mono {K : PySem.W.Frag} {is : List Nat} : Mono (ErX K is) := fun _ _ _ e h => L2.Paired.mapP h fun _ _ ⟨fs, z⟩ => ⟨fs, isEr_mono _ _ _ e z⟩
theorem erX_len {K : PySem.W.Frag} {is : List Nat} {xs : List V} {H : Hp} (h : ErX K is xs H) : xs.length = is.length := Paired.length h
theorem Ers.any {K : PySem.W.Frag} {v : V} {is : List Nat} {xs : List V} {H : Hp} (h : Ers K v is xs H) : ErX K is xs H := L2.Paired.mapP h fun _ _ z => ⟨_, z⟩
theorem paired_at {α β : Type} {F : α → β → Prop} : ∀ {l : List α} {m : List β} {i : Nat} {x : α}, Paired F l m → l[i]? = some x → ∃ y, m[i]? = some y ∧ F x y
  | _, _, _, _, .nil, h => by simp at h
  | _, _, 0, _, .cons a _, h => by
    simp at h
    subst h
    exact ⟨_, rfl, a⟩
  | _, _, i + 1, x, .cons _ r, h => by
    obtain ⟨y, h1, h2⟩ := paired_at (i := i) (x := x) r (by simpa using h)
    exact ⟨y, by simpa using h1, h2⟩
section
variable {K : PySem.W.Frag} {mg : Str → Option Value} {σ : L2.St} {H : Hp} {te ta tb : TE} {tl : TA} {v : V} {xs ys : List V}
theorem ER.evL (h : EvL te σ H xs) : ER te σ H (NewL (Just xs)) := fun H1 e Q q => h H1 e Q fun p H2 _ e2 hp => q (.ref p) H2 e2 ⟨p, xs, rfl, hp, rfl⟩
theorem el_cat {i j : Nat} {a b : Addr} (ha : σ[i]? = some (some (.ref a))) (hb : σ[j]? = some (some (.ref b))) (h1 : H a = some (.lst xs)) (h2 : H b = some (.lst ys)) (hz : xs.length + ys.length ≤ 100000) : EvL (tOp rCat (tVar i) (tVar j)) σ H (xs ++ ys) := fun H1 e Q q =>
  ⟨_, ha, _, hb, a, b, xs, ys, rfl, rfl, e _ _ h1, e _ _ h2, sz_of hz, fun p hp => q p _ hp (Ex.new hp) upd_same⟩
theorem just_rep {k : Int} (h : ER ta σ H (NewL (Just xs))) (h0 : 0 ≤ k) (h1 : k ≤ 1000) (hz : xs.length * k.toNat ≤ 1000) : ER (tOp rRep ta (tC (.int k))) σ H (NewL (Just (List.replicate k.toNat xs).flatten)) := fun H1 e Q q =>
  h H1 e _ fun u H2 e2 z => by
    obtain ⟨p, zs, rfl, hp, rfl⟩ := z
    exact ⟨p, k, zs, rfl, rfl, hp, by omega, by omega, sz_of (by omega), fun a ha => q (.ref a) _ (e2.trans (Ex.new ha)) ⟨a, _, rfl, upd_same, rfl⟩⟩
/-- a field of an error -/
theorem ev_ef {j i : Nat} {x : V} {f : Str} (hs : σ[j]? = some (some x)) (h : IsEr K i [(f, v)] x H) (O : OneF K mg i) (hf : fl i = f) : Ev (tEf K f (tVar j)) σ H v := fun H1 e Q q => by
  obtain ⟨a, rfl, he⟩ := isEr_mono _ _ _ e h
  exact ⟨_, hs, a, cA K i, (f, v), [], v, rfl, he, O.xc, by rw [← hf]; exact O.no, by simp [List.lookup], q H1 (Ex.refl H1)⟩
theorem rc_repr {d : PyData} (h : Dq K H v d) (h1 : d.showable = true) (h2 : d.depth < 60) (h3 : d.shown.length ≤ 100000) : RC (rRepr K) [v] H (.str d.shown) := fun H1 e Q q => ⟨v, d, rfl, Dq.mono e h, h1, h2, sz_of h3, q H1 (Ex.refl H1)⟩
theorem dqs_rep {d : PyData} (h : Dq K H v d) : ∀ n, Dqs K H (List.replicate n v) (List.replicate n d)
  | 0 => .nil
  | n + 1 => .cons h (dqs_rep h n)
/-- repr of a list that was just made, of one value again and again -/
theorem ev_reprL {d : PyData} {n : Nat} (h : ER te σ H (NewL (Just (List.replicate n v)))) (hd : Dq K H v d) (h1 : (PyData.list (List.replicate n d)).showable = true) (h2 : (PyData.list (List.replicate n d)).depth < 60) (h3 : (PyData.list (List.replicate n d)).shown.length ≤ 100000) :
    Ev (tCB (rRepr K) (tCons te tNil)) σ H (.str (PyData.list (List.replicate n d)).shown) := fun H1 e Q q =>
  h H1 e _ fun u H2 e2 z => by
    obtain ⟨p, zs, rfl, hp, rfl⟩ := z
    exact ⟨_, _, rfl, .lst (sq_of hp) (dqs_rep (Dq.mono (e.trans e2) hd) n), h1, h2, sz_of h3, q H2 e2⟩
/-- a slice of a list of errors -/
theorem er_cut {i : Nat} {a : Addr} {lo hi : TO} {l h : Option Int} {is : List Nat} (hs : σ[i]? = some (some (.ref a))) (ha : H a = some (.lst xs)) (h1 : EvO lo σ H l) (h2 : EvO hi σ H h) (hx : ErX K is (cutV xs l h) H) : ER (tSl (rSlL K) (tVar i) lo hi) σ H (NewL (ErX K is)) :=
  (ER.evL (el_sl (ev_var hs) h1 h2 (sq_of ha))).imp fun v H2 e z => by
    obtain ⟨p, zs, rfl, hp, rfl⟩ := z
    exact ⟨p, _, rfl, hp, erX_mono _ _ _ e hx⟩
theorem erX_at {i : Nat} {u : V} {is : List Nat} (hs : σ[i]? = some (some u)) (h : NewL (ErX K is) u H) : ER (tVar i) σ H (NewL (ErX K is)) := ER.evP (ev_var hs) h (newL_mono erX_mono)
theorem erX_cat {is js : List Nat} (ha : ER ta σ H (NewL (ErX K is))) (hb : ER tb σ H (NewL (ErX K js))) (hz : is.length + js.length ≤ 100) : ER (tOp rCat ta tb) σ H (NewL (ErX K (is ++ js))) :=
  er_cat ha hb erX_mono erX_mono (fun xs ys H2 a b => by rw [erX_len a, erX_len b]; omega) fun xs ys H2 _ a b => paired_append a b
theorem erX_nil : EA tNil σ H (ErX K []) := ea_nil' .nil erX_mono
theorem erX_cons {i : Nat} {fs : List (Str × V)} {is : List Nat} (h : ER te σ H (IsEr K i fs)) (hr : EA tl σ H (ErX K is)) : EA (tCons te tl) σ H (ErX K (i :: is)) := ea_cons' h hr isEr_mono fun _ _ _ _ a b => .cons ⟨_, a⟩ b
theorem erX_lst {is : List Nat} (h : EA tl σ H (ErX K is)) (hz : is.length ≤ 100) : ER (tLst tl) σ H (NewL (ErX K is)) := er_lst h erX_mono fun xs H2 p => by
  rw [erX_len p]
  omega
/-- two lists of bools that were just made, asked whether they differ: they do not -/
def bls (bs : List Bool) : List V := bs.map V.bl
theorem dp_bls : ∀ bs : List Bool, DpAll K H (bls bs) (bs.map PyData.bool)
  | [] => .nil
  | b :: r => .cons (.bl b) (dp_bls r)
theorem can_bls : ∀ bs : List Bool, PyData.canLayAll0 (bs.map PyData.bool) = true
  | [] => rfl
  | b :: r => by
    show (PyData.canLay0 (.bool b) && PyData.canLayAll0 (r.map PyData.bool)) = true
    rw [can_bls r]
    rfl
theorem dep_bls : ∀ bs : List Bool, PyData.depthAll (bs.map PyData.bool) ≤ 1
  | [] => by decide
  | b :: r => by
    have h := dep_bls r
    show max (PyData.depth (.bool b)) (PyData.depthAll (r.map PyData.bool)) ≤ 1
    have h0 : PyData.depth (.bool b) = 0 := rfl
    omega
theorem sh_bls (bs : List Bool) : SeqAt.shaped (.list (bs.map PyData.bool)) = true := by
  unfold SeqAt.shaped
  rw [Bool.and_eq_true]
  refine ⟨can_bls bs, decide_eq_true ?_⟩
  have h := dep_bls bs
  show PyData.depthAll (bs.map PyData.bool) + 1 ≤ 64
  omega
theorem ev_ne_bls {bs : List Bool} (ha : ER ta σ H (NewL (Just (bls bs)))) (hb : ER tb σ H (NewL (Just (bls bs)))) : ER (tOp (rNeD K) ta tb) σ H (fun v _ => v = .bl false) :=
  er_op ha hb (newL_mono just_mono) fun x y H1 _ hx hy Q q => by
    obtain ⟨p, zs, rfl, hp, rfl⟩ := hx
    obtain ⟨p', zs, rfl, hp', rfl⟩ := hy
    refine ⟨_, _, .lst (sq_of hp) (dp_bls bs), .lst (sq_of hp') (dp_bls bs), sh_bls bs, sh_bls bs, q _ H1 (Ex.refl H1) ?_⟩
    rw [SeqAt.eqv_refl _ (SeqAt.canLay_of_shaped (sh_bls bs))]
    rfl
end
end HB
namespace HB
open PySem PySem.Spec PyProof.Rows L2 Evl
section
variable {K : PySem.W.Frag} {mg : Str → Option Value} {σ : L2.St} {H : Hp} {te ta tb : TE} {v : V} {xs : List V}
theorem q_par {i j : Nat} {tl : TA} {tz : TS} {D : Ends} (h : tl σ H fun vs H1 => ∃ v w, vs = [v, w] ∧ tz D ((σ.set i (some v)).set j (some w)) H1) : tSeq (tPar i j tl) tz D σ H := h
theorem q_asgX {i : Nat} {tz : TS} {D : Ends} (h : te σ H fun v H1 => tz D (σ.set i (some v)) H1) : tSeq (tAsg te (gName i)) tz D σ H := h
theorem et_yes : EvT tYes σ H true := fun H1 _ _ q => q H1 (Ex.refl H1)
theorem given_all {n : Nat} {f : Nat → V} : given n (fun _ => true) f = (List.range n).map f := by
  unfold given
  rw [List.filter_eq_self.mpr (fun _ _ => rfl)]
/-- [one.f for one in list] over errors that all hold v there -/
theorem field_comp {is : List Nat} {a : Addr} {s : Nat} {f : Str} (T : AllF K mg) (h1 : Ers K v is xs H) (ha : H a = some (.lst xs)) (hs : σ[s]? = some (some (.ref a))) (hf : ∀ j ∈ is, j < 33 ∧ fl j = f) (hz : is.length ≤ 100)
    (hw : ∀ x, wipe ((wipe σ [17]).set 17 (some x)) [17] = wipe σ [17]) (s17 : ∀ x, ((wipe σ [17]).set 17 (some x))[17]? = some (some x)) :
    ER (tLc (iList K (tVar s)) (gName 17) tYes (tEf K f (tVar 17)) [17]) σ H (NewL (Just (List.replicate is.length v))) := by
  have l1 := ers_len h1
  have e := el_lcL (K := K) (te := tEf K f (tVar 17)) (t := tYes) (f := fun _ => true) (v := fun _ => v) (vs := [17]) (j := 17) (ev_var hs) (sq_of (K := K) ha) (by omega) hw (fun _ _ _ _ _ => et_yes) (fun i x H1 e1 hi _ => ?_)
  · have g0 : given xs.length (fun _ => true) (fun _ => v) = List.replicate is.length v := by
      rw [given_all, l1, List.map_const', List.length_range]
    rw [g0] at e
    exact ER.evL e
  · obtain ⟨j, hj, hE⟩ := paired_at h1 hi
    obtain ⟨j1, j2⟩ := hf j (List.mem_of_getElem? hj)
    rw [j2] at hE
    exact ev_ef (s17 x) (isEr_mono _ _ _ e1 hE) (T.one j j1) j2
theorem cut4 {i1 i2 i3 i4 : Nat} (h : Ers K v [i1, i2, i3, i4] xs H) : ErX K [i1, i2] (cutV xs none (some 2)) H ∧ ErX K [i3, i4] (cutV xs (some 2) none) H :=
  match xs, h with
  | _, .cons a (.cons b (.cons c (.cons d .nil))) => ⟨.cons ⟨_, a⟩ (.cons ⟨_, b⟩ .nil), .cons ⟨_, c⟩ (.cons ⟨_, d⟩ .nil)⟩
theorem cut2 {i1 i2 : Nat} (h : Ers K v [i1, i2] xs H) : ErX K [i1] (cutV xs none (some 1)) H ∧ ErX K [i2] (cutV xs (some 1) none) H :=
  match xs, h with
  | _, .cons a (.cons b .nil) => ⟨.cons ⟨_, a⟩ .nil, .cons ⟨_, b⟩ .nil⟩
theorem rowC_bls (i : Nat) : rowC i = bls ((List.range 33).map fun j => decide (i = j)) := by
  unfold rowC bls
  rw [List.map_map]
  rfl
theorem rowK_bls (i : Nat) : rowK i = bls ((List.range 5).map fun k => decide (bs i = k)) := by
  unfold rowK bls
  rw [List.map_map]
  rfl
theorem at_comp {i : Nat} (s15 : ∀ x, ((wipe σ [18]).set 18 (some x))[15]? = some (some (.int (i : Int)))) (hw : ∀ x, wipe ((wipe σ [18]).set 18 (some x)) [18] = wipe σ [18]) (s18 : ∀ x, ((wipe σ [18]).set 18 (some x))[18]? = some (some x)) :
    ER (tLc (iRng1 (tCons (tC (.int 33)) tNil)) (gName 18) tYes (tOp rEq (tVar 15) (tVar 18)) [18]) σ H (NewL (Just (rowC i))) := by
  have e := el_lcR1 (te := tOp rEq (tVar 15) (tVar 18)) (t := tYes) (f := fun _ => true) (v := fun k => V.bl (decide (i = k))) (vs := [18]) (j := 18) (n := 33) (ta := tCons (tC (.int 33)) tNil) (σ := σ) (H := H) (ea_cons ev_c ea_nil) (by omega) hw (fun _ _ _ _ => et_yes) (fun k H1 e1 hk _ => ?_)
  · rw [given_all] at e
    exact ER.evL e
  · refine ev_is (ev_op (ev_var (s15 _)) (ev_var (s18 _)) (rv_eq rfl)) ?_
    congr 1
    simp only [V.int.injEq]
    exact decide_eq_decide.mpr (by omega)
theorem due_comp {i : Nat} {kd : Addr} {ks : List V} (hk : H kd = some (.lst ks)) (hi : ks[i]? = some (.int (bs i : Int))) (s15 : ∀ x, ((wipe σ [18]).set 18 (some x))[15]? = some (some (.int (i : Int)))) (s2 : ∀ x, ((wipe σ [18]).set 18 (some x))[2]? = some (some (.ref kd))) (hw : ∀ x, wipe ((wipe σ [18]).set 18 (some x)) [18] = wipe σ [18]) (s18 : ∀ x, ((wipe σ [18]).set 18 (some x))[18]? = some (some x)) :
    ER (tLc (iRng1 (tCons (tC (.int 5)) tNil)) (gName 18) tYes (tOp rEq (tOp (rIxL K) (tVar 2) (tVar 15)) (tVar 18)) [18]) σ H (NewL (Just (rowK i))) := by
  have e := el_lcR1 (te := tOp rEq (tOp (rIxL K) (tVar 2) (tVar 15)) (tVar 18)) (t := tYes) (f := fun _ => true) (v := fun k => V.bl (decide (bs i = k))) (vs := [18]) (j := 18) (n := 5) (ta := tCons (tC (.int 5)) tNil) (σ := σ) (H := H) (ea_cons ev_c ea_nil) (by omega) hw (fun _ _ _ _ => et_yes) (fun k H1 e1 hk1 _ => ?_)
  · rw [given_all] at e
    exact ER.evL e
  · refine ev_is (ev_op (ev_op (ev_var (s2 _)) (ev_var (s15 _)) (rv_ixL (sq_of (e1 _ _ hk)) (atI_nat hi))) (ev_var (s18 _)) (rv_eq rfl)) ?_
    congr 1
    simp only [V.int.injEq]
    exact decide_eq_decide.mpr (by omega)
theorem row_call {row : Nat → List V} {i s : Nat} {a : Addr} (hi : i < 33) (hs : σ[s]? = some (some (.ref a))) (ha : H a = some (.lst xs)) (hx : ErX K (List.range 33) xs H) (s15 : σ[15]? = some (some (.int (i : Int)))) :
    ER (tCall (spRow K row) [] E0 (tCons (tOp (rIxL K) (tVar s) (tVar 15)) tNil)) σ H (NewL (Just (row i))) := by
  have l := erX_len hx
  rw [List.length_range] at l
  obtain ⟨x, hxi⟩ : ∃ x, xs[i]? = some x := ⟨_, List.getElem?_eq_getElem (by omega)⟩
  obtain ⟨j, hj, fs, a', rfl, hE⟩ := paired_at hx hxi
  have hji : j = i := by
    rw [List.getElem?_range hi] at hj
    exact (Option.some.inj hj).symm
  subst hji
  refine er_call (EA.ev (ea_cons (ev_op (ev_var hs) (ev_var s15) (rv_ixL (sq_of ha) (atI_nat hxi))) ea_nil)) fun vs H1 e1 z Q q => ?_
  subst z
  exact ⟨a', j, fs, rfl, hi, hE.mono e1, fun u H' e' h' => q u H' e' h'⟩
end
end HB
namespace HB
open PySem PySem.Spec PyProof.Rows L2 Evl
abbrev s_law : Stmt := top 43
abbrev Nl : List Str := ["_law_script", "_law_pen_here", "_law_kinds_here", "_law_turn", "_law_a", "_law_some", "_law_others", "_law_limits", "_law_indexes", "_law_places", "_law_lines", "_law_found", "_law_bare", "_law_every", "_law_again", "_law_at", "_law_due", "_law_one", "_law_k"]
theorem sc_law : FnScope Nl ["_law_script"] (defScope s_law) := ⟨rfl, rfl, rfl, by decide +kernel, rfl, by decide +kernel, by decide +kernel⟩
theorem nd_law : Nl.Nodup := by decide +kernel
/-- the law's defs, by name -/
structure Defs (P : Program) (w : World) (K : PySem.W.Frag) (mg : Str → Option Value) (base : Heap) : Prop where
  pen : ∃ f fd, FnOk P w K mg base CX0 1 f fd ["_law_script"] (spPen K) ∧ mg "_law_pen" = some (.ref f) ∧ PySem.W.keepIn K (.ref f) = true ∧ Binds K fd ["_law_script"] []
  odd : ∃ f fd, FnOk P w K mg base CX0 3 f fd ["_law_pen_here"] (spOdd K) ∧ mg "_law_odd" = some (.ref f) ∧ PySem.W.keepIn K (.ref f) = true ∧ Binds K fd ["_law_pen_here"] []
  wv : ∃ f fd, FnOk P w K mg base CX0 3 f fd ["_law_a"] (spAll K) ∧ mg "_law_with_value" = some (.ref f) ∧ PySem.W.keepIn K (.ref f) = true ∧ Binds K fd ["_law_a"] []
  bk : ∃ f fd, FnOk P w K mg base CX0 3 f fd ["_law_a"] (spAll K) ∧ mg "_law_by_keyword" = some (.ref f) ∧ PySem.W.keepIn K (.ref f) = true ∧ Binds K fd ["_law_a"] []
  cl : ∃ f fd, FnOk P w K mg base CX0 1 f fd ["_law_one"] (spRow K rowC) ∧ mg "_law_classes" = some (.ref f) ∧ PySem.W.keepIn K (.ref f) = true ∧ Binds K fd ["_law_one"] []
  kd : ∃ f fd, FnOk P w K mg base CX0 1 f fd ["_law_one"] (spRow K rowK) ∧ mg "_law_kinds" = some (.ref f) ∧ PySem.W.keepIn K (.ref f) = true ∧ Binds K fd ["_law_one"] []
def kindsV : List V := (List.range 33).map fun i => .int (bs i)
/-- between two turns -/
def Inv1 (a p c kd : Addr) (ms : List Int) (i : Nat) (σ : L2.St) (H : Hp) : Prop := ∃ x3 x4 x5 x6 x7 x8 x9 x10 x11 x12 x13 x14 x15 x16 x17 x18 : Option V,
  σ = [some (.ref a), some (.ref p), some (.ref kd), x3, x4, x5, x6, x7, x8, x9, x10, x11, x12, x13, x14, x15, x16, x17, x18] ∧ Pen H p c ms i ∧ wo p H kd = some (.lst kindsV)
theorem kinds_ev {σ : L2.St} {H : Hp} : ER (tOp rCat (tOp rCat (tOp rCat (tOp rCat (tOp rCat (tOp rRep (tLst (tCons (tC (.int 0)) tNil)) (tC (.int 12))) (tOp rRep (tLst (tCons (tC (.int 1)) tNil)) (tC (.int 7)))) (tLst (tCons (tC (.int 2)) (tCons (tC (.int 3)) (tCons (tC (.int 4)) tNil)))))
    (tLst (tCons (tC (.int 3)) (tCons (tC (.int 3)) tNil)))) (tOp rRep (tLst (tCons (tC (.int 0)) tNil)) (tC (.int 6)))) (tLst (tCons (tC (.int 1)) (tCons (tC (.int 1)) (tCons (tC (.int 4)) tNil))))) σ H (NewL (Just kindsV)) :=
  just_cat (xs := (List.range 30).map fun i => .int (bs i)) (ys := [.int 1, .int 1, .int 4]) (just_cat (xs := (List.range 24).map fun i => .int (bs i)) (ys := List.replicate 6 (.int 0)) (just_cat (xs := (List.range 22).map fun i => .int (bs i)) (ys := [.int 3, .int 3]) (just_cat (xs := (List.range 19).map fun i => .int (bs i)) (ys := [.int 2, .int 3, .int 4])
    (just_cat (xs := List.replicate 12 (.int 0)) (ys := List.replicate 7 (.int 1)) (just_rep (just_lst (ea_cons ev_c ea_nil) (by simp)) (by decide) (by decide) (by simp)) (just_rep (just_lst (ea_cons ev_c ea_nil) (by simp)) (by decide) (by decide) (by simp)) (by simp))
    (just_lst (ea_cons ev_c (ea_cons ev_c (ea_cons ev_c ea_nil))) (by simp)) (by simp)) (just_lst (ea_cons ev_c (ea_cons ev_c ea_nil)) (by simp)) (by simp)) (just_rep (just_lst (ea_cons ev_c ea_nil) (by simp)) (by decide) (by decide) (by simp)) (by simp)) (just_lst (ea_cons ev_c (ea_cons ev_c (ea_cons ev_c ea_nil))) (by simp)) (by simp)
theorem kindsV_at {i : Nat} (h : i < 33) : kindsV[i]? = some (.int (bs i : Int)) := by
  unfold kindsV
  rw [List.getElem?_map, List.getElem?_range h]
  rfl
section
variable {K : PySem.W.Frag} {mg : Str → Option Value} {σ : L2.St} {H : Hp} {ta : TE}
theorem ne_nil (h : ER ta σ H (NewL (Just []))) : ER (tOp (rNeD K) ta (tLst tNil)) σ H (fun v _ => v = .bl false) := ev_ne_bls (bs := []) h (just_lst ea_nil (Nat.zero_le _))
theorem value_comp {v : V} {d : PyData} {xs ys : List V} {a b : Addr} (T : AllF K mg) (h1 : Ers K v (List.range 22) xs H) (h2 : Ers K v (List.range 22) ys H) (ha : H a = some (.lst xs)) (hb : H b = some (.lst ys)) (s5 : σ[5]? = some (some (.ref a))) (s6 : σ[6]? = some (some (.ref b))) (s4 : ∀ x, ((wipe σ [17]).set 17 (some x))[4]? = some (some v))
    (hd : Dq K H v d) (sh1 : d.showable = true) (sh2 : d.depth < 60) (sh3 : d.shown.length ≤ 100000) (hw : ∀ x, wipe ((wipe σ [17]).set 17 (some x)) [17] = wipe σ [17]) (s17 : ∀ x, ((wipe σ [17]).set 17 (some x))[17]? = some (some x)) :
    ER (tLc (iList K (tOp rCat (tVar 5) (tVar 6))) (gName 17) (tTest (tOp rNe (tCB (rRepr K) (tCons (tEf K "value" (tVar 17)) tNil)) (tCB (rRepr K) (tCons (tVar 4) tNil)))) (tVar 17) [17]) σ H (NewL (Just [])) := by
  have l1 := ers_len h1
  have l2 := ers_len h2
  rw [List.length_range] at l1 l2
  have e := el_lcNL (K := K) (te := tVar 17) (f := fun _ => false) (v := fun _ => V.non) (vs := [17]) (el_cat s5 s6 ha hb (by omega)) (by rw [List.length_append]; omega) hw (t := tTest (tOp rNe (tCB (rRepr K) (tCons (tEf K "value" (tVar 17)) tNil)) (tCB (rRepr K) (tCons (tVar 4) tNil))))
    (fun i x H1 e1 hi => ?_) (fun i x H1 _ _ z => nomatch z)
  · have g0 : given (xs ++ ys).length (fun _ => false) (fun _ => V.non) = [] := by
      unfold given
      simp
    rw [g0] at e
    exact ER.evL e
  · obtain ⟨j, hj, hE⟩ := paired_at (paired_append h1 h2) hi
    have hj2 : j < 22 := by
      have hm := List.mem_of_getElem? hj
      simp at hm
      exact hm
    rw [fl_value j hj2] at hE
    have r1 : Ev (tCB (rRepr K) (tCons (tEf K "value" (tVar 17)) tNil)) ((wipe σ [17]).set 17 (some x)) H1 (.str d.shown) :=
      ev_cb (ea_cons (ev_ef (s17 x) (isEr_mono _ _ _ e1 hE) (T.one j (by omega)) (fl_value j hj2)) ea_nil) (rc_repr (Dq.mono e1 hd) sh1 sh2 sh3)
    have r2 : Ev (tCB (rRepr K) (tCons (tVar 4) tNil)) ((wipe σ [17]).set 17 (some x)) H1 (.str d.shown) := ev_cb (ea_cons (ev_var (s4 x)) ea_nil) (rc_repr (Dq.mono e1 hd) sh1 sh2 sh3)
    refine et_is (et_test (ev_op r1 r2 (rv_ne rfl))) ?_
    simp
end
def spLaw (K : PySem.W.Frag) : Sp := fun vs H Q _ => ∃ (a : Addr) (ns : List Int), vs = [.ref a] ∧ SqL K H a (ns.map V.int) ∧ ns.length ≤ 63 ∧ ∀ H', Q (.bl true) H'
section
variable {P : Program} {w : World} {K : PySem.W.Frag} {mg : Str → Option Value} {base : Heap}
theorem ok_law {f : Addr} {fd : FuncData} (F : FnP K "law" s_law f fd) (T : AllF K mg) (B : Blt2 mg) (Df : Defs P w K mg base) (M1 : ∀ i, i < 28 → Mk1 P w K mg base i) (M0 : ∀ i, 28 ≤ i → i < 33 → Mk0 P w K mg base i) : FnG P w K mg base CX0 6 f fd ["_law_script"] (spLaw K) := by
  obtain ⟨fpen, dpen, Gpen, mpen, qpen, bpen⟩ := Df.pen
  obtain ⟨fodd, dodd, Godd, modd, qodd, bodd⟩ := Df.odd
  obtain ⟨fwv, dwv, Gwv, mwv, qwv, bwv⟩ := Df.wv
  obtain ⟨fbk, dbk, Gbk, mbk, qbk, bbk⟩ := Df.bk
  obtain ⟨fcl, dcl, Gcl, mcl, qcl, bcl⟩ := Df.cl
  obtain ⟨fkd, dkd, Gkd, mkd, qkd, bkd⟩ := Df.kd
  obtain ⟨fd22, F22, b22, k22⟩ := M1 22 (by decide)
  obtain ⟨fd23, F23, b23, k23⟩ := M1 23 (by decide)
  obtain ⟨fd24, F24, b24, k24⟩ := M1 24 (by decide)
  obtain ⟨fd25, F25, b25, k25⟩ := M1 25 (by decide)
  obtain ⟨fd26, F26, b26, k26⟩ := M1 26 (by decide)
  obtain ⟨fd27, F27, b27, k27⟩ := M1 27 (by decide)
  obtain ⟨fd28, F28, b28⟩ := M0 28 (by decide) (by decide)
  obtain ⟨fd29, F29, b29⟩ := M0 29 (by decide) (by decide)
  obtain ⟨fd30, F30, b30⟩ := M0 30 (by decide) (by decide)
  obtain ⟨fd31, F31, b31⟩ := M0 31 (by decide) (by decide)
  obtain ⟨fd32, F32, b32⟩ := M0 32 (by decide) (by decide)
  refine fun_okG F sc_law (fun vs H Q E h => ?_) (fun cdv A outer s H vs Q E hg hr h => ?_)
  · obtain ⟨a, ns, rfl, _⟩ := h
    rfl
  · obtain ⟨a, ns, rfl, hS, hn, k⟩ := h
    have hg0 : (A.deeper (envOfC "law" (defScope s_law) s.heap.objs.size f cdv)).guards = some [] := hg
    have hu0 := hr.units
    refine ⟨_, PSs.nox (pss_cons (ps_set (i := 1) nd_law rfl (Or.inl rfl) (pe_call Gpen (hr.mono (by decide)) rfl mpen qpen bpen .nil pass0 (pa_cons (pv 0) pa_nil)))
      (pss_cons (ps_set (i := 2) nd_law rfl (Or.inr rfl) (pe_op op_cat (pe_op op_cat (pe_op op_cat (pe_op op_cat (pe_op op_cat (pe_op op_rep (pe_lst (pa_cons pe_int pa_nil)) pe_int) (pe_op op_rep (pe_lst (pa_cons pe_int pa_nil)) pe_int)) (pe_lst (pa_cons pe_int (pa_cons pe_int (pa_cons pe_int pa_nil))))) (pe_lst (pa_cons pe_int (pa_cons pe_int pa_nil)))) (pe_op op_rep (pe_lst (pa_cons pe_int pa_nil)) pe_int)) (pe_lst (pa_cons pe_int (pa_cons pe_int (pa_cons pe_int pa_nil))))))
      (pss_cons (ps_for PassesOwn.never rfl (pi_range1 (by rfl) B.range (pa_cons pe_int pa_nil)) (pg_name (i := 3) nd_law rfl (Or.inl rfl)) (pss_cons (ps_set (i := 4) nd_law rfl (Or.inr rfl) (pe_call Godd (hr.mono (by decide)) rfl modd qodd bodd .nil pass0 (pa_cons (pv 1) pa_nil)))
      (pss_cons (ps_par (i := 5) (j := 6) (by rfl) nd_law rfl rfl (by decide) rfl rfl (pa_cons (pe_call Gwv (hr.mono (by decide)) rfl mwv qwv bwv .nil pass0 (pa_cons (pv 4) pa_nil)) (pa_cons (pe_call Gbk (hr.mono (by decide)) rfl mbk qbk bbk .nil pass0 (pa_cons (pv 4) pa_nil)) pa_nil)) (by rfl))
      (pss_cons (ps_if (pt_cmpR (op_neD hr.units) (pe_lc (own := [("_law_one", 17)]) (g := gName 17) (tt := tTest (tOp rNe (tCB (rRepr K) (tCons (tEf K "value" (tVar 17)) tNil)) (tCB (rRepr K) (tCons (tVar 4) tNil)))) (te := tVar 17) (by rfl) nd_law (pi_list (pe_op op_cat (pv 5) (pv 6))) (blkOk_by (own := [("_law_one", 17)]) (N := Nl) (sc := defScope s_law) (by decide +kernel)) (fun _ _ _ _ _ => pg_name (i := 17) nd_law rfl (Or.inl rfl)) (fun _ _ _ _ _ => pts_one (pt_cmpR op_ne (pe_callB (call_repr T.sys hg0 hu0) (by rfl) B.repr (by decide +kernel) (pa_cons (pe_ef (pv 17)) pa_nil)) (pe_callB (call_repr T.sys hg0 hu0) (by rfl) B.repr (by decide +kernel) (pa_cons (pv 4) pa_nil)) (nomark _))) (fun _ _ _ _ _ => pv 17)) (pe_lst pa_nil) (nomark _)) (pss_one (ps_ret pe_bl)) pss_nil)
      (pss_cons (ps_set (i := 7) nd_law rfl (Or.inl rfl) (pe_lst (pa_cons (pe_mkx (T.one 22 (by decide)).xb (T.one 22 (by decide)).iC (T.one 22 (by decide)).tI F22 (hr.mono (by decide)) b22 pass0 (by rfl) (T.one 22 (by decide)).mgC (pa_cons (pv 4) pa_nil)) (pa_cons (pe_mkx (T.one 23 (by decide)).xb (T.one 23 (by decide)).iC (T.one 23 (by decide)).tI F23 (hr.mono (by decide)) b23 pass0 (by rfl) (T.one 23 (by decide)).mgC (pa_cons (pv 4) pa_nil)) (pa_cons (pe_mkxK (f := fl 22) (T.one 22 (by decide)).xb (T.one 22 (by decide)).iC (T.one 22 (by decide)).tI F22 (hr.mono (by decide)) k22 pass0 (by rfl) (T.one 22 (by decide)).mgC (pk_cons (pv 4) pk_nil)) (pa_cons (pe_mkxK (f := fl 23) (T.one 23 (by decide)).xb (T.one 23 (by decide)).iC (T.one 23 (by decide)).tI F23 (hr.mono (by decide)) k23 pass0 (by rfl) (T.one 23 (by decide)).mgC (pk_cons (pv 4) pk_nil)) pa_nil))))))
      (pss_cons (ps_set (i := 8) nd_law rfl (Or.inl rfl) (pe_lst (pa_cons (pe_mkx (T.one 24 (by decide)).xb (T.one 24 (by decide)).iC (T.one 24 (by decide)).tI F24 (hr.mono (by decide)) b24 pass0 (by rfl) (T.one 24 (by decide)).mgC (pa_cons (pv 4) pa_nil)) (pa_cons (pe_mkx (T.one 25 (by decide)).xb (T.one 25 (by decide)).iC (T.one 25 (by decide)).tI F25 (hr.mono (by decide)) b25 pass0 (by rfl) (T.one 25 (by decide)).mgC (pa_cons (pv 4) pa_nil)) (pa_cons (pe_mkxK (f := fl 24) (T.one 24 (by decide)).xb (T.one 24 (by decide)).iC (T.one 24 (by decide)).tI F24 (hr.mono (by decide)) k24 pass0 (by rfl) (T.one 24 (by decide)).mgC (pk_cons (pv 4) pk_nil)) (pa_cons (pe_mkxK (f := fl 25) (T.one 25 (by decide)).xb (T.one 25 (by decide)).iC (T.one 25 (by decide)).tI F25 (hr.mono (by decide)) k25 pass0 (by rfl) (T.one 25 (by decide)).mgC (pk_cons (pv 4) pk_nil)) pa_nil))))))
      (pss_cons (ps_set (i := 9) nd_law rfl (Or.inl rfl) (pe_lst (pa_cons (pe_mkx (T.one 26 (by decide)).xb (T.one 26 (by decide)).iC (T.one 26 (by decide)).tI F26 (hr.mono (by decide)) b26 pass0 (by rfl) (T.one 26 (by decide)).mgC (pa_cons (pv 4) pa_nil)) (pa_cons (pe_mkxK (f := fl 26) (T.one 26 (by decide)).xb (T.one 26 (by decide)).iC (T.one 26 (by decide)).tI F26 (hr.mono (by decide)) k26 pass0 (by rfl) (T.one 26 (by decide)).mgC (pk_cons (pv 4) pk_nil)) pa_nil))))
      (pss_cons (ps_set (i := 10) nd_law rfl (Or.inl rfl) (pe_lst (pa_cons (pe_mkx (T.one 27 (by decide)).xb (T.one 27 (by decide)).iC (T.one 27 (by decide)).tI F27 (hr.mono (by decide)) b27 pass0 (by rfl) (T.one 27 (by decide)).mgC (pa_cons (pv 4) pa_nil)) (pa_cons (pe_mkxK (f := fl 27) (T.one 27 (by decide)).xb (T.one 27 (by decide)).iC (T.one 27 (by decide)).tI F27 (hr.mono (by decide)) k27 pass0 (by rfl) (T.one 27 (by decide)).mgC (pk_cons (pv 4) pk_nil)) pa_nil))))
      (pss_cons (ps_set (i := 11) nd_law rfl (Or.inl rfl) (pe_op op_cat (pe_op op_cat (pe_lc (own := [("_law_one", 17)]) (g := gName 17) (tt := tYes) (te := tEf K "limit" (tVar 17)) (by rfl) nd_law (pi_list (pv 7)) (blkOk_by (own := [("_law_one", 17)]) (N := Nl) (sc := defScope s_law) (by decide +kernel)) (fun _ _ _ _ _ => pg_name (i := 17) nd_law rfl (Or.inl rfl)) (fun _ _ _ _ _ => pts_nil) (fun _ _ _ _ _ => pe_ef (pv 17))) (pe_lc (own := [("_law_one", 17)]) (g := gName 17) (tt := tYes) (te := tEf K "index" (tVar 17)) (by rfl) nd_law (pi_list (pv 8)) (blkOk_by (own := [("_law_one", 17)]) (N := Nl) (sc := defScope s_law) (by decide +kernel)) (fun _ _ _ _ _ => pg_name (i := 17) nd_law rfl (Or.inl rfl)) (fun _ _ _ _ _ => pts_nil) (fun _ _ _ _ _ => pe_ef (pv 17)))) (pe_lc (own := [("_law_one", 17)]) (g := gName 17) (tt := tYes) (te := tEf K "place" (tVar 17)) (by rfl) nd_law (pi_list (pv 9)) (blkOk_by (own := [("_law_one", 17)]) (N := Nl) (sc := defScope s_law) (by decide +kernel)) (fun _ _ _ _ _ => pg_name (i := 17) nd_law rfl (Or.inl rfl)) (fun _ _ _ _ _ => pts_nil) (fun _ _ _ _ _ => pe_ef (pv 17)))))
      (pss_cons (ps_if (pt_cmpR op_ne (pe_callB (call_repr T.sys hg0 hu0) (by rfl) B.repr (by decide +kernel) (pa_cons (pe_op op_cat (pv 11) (pe_lc (own := [("_law_one", 17)]) (g := gName 17) (tt := tYes) (te := tEf K "line" (tVar 17)) (by rfl) nd_law (pi_list (pv 10)) (blkOk_by (own := [("_law_one", 17)]) (N := Nl) (sc := defScope s_law) (by decide +kernel)) (fun _ _ _ _ _ => pg_name (i := 17) nd_law rfl (Or.inl rfl)) (fun _ _ _ _ _ => pts_nil) (fun _ _ _ _ _ => pe_ef (pv 17)))) pa_nil)) (pe_callB (call_repr T.sys hg0 hu0) (by rfl) B.repr (by decide +kernel) (pa_cons (pe_op op_rep (pe_lst (pa_cons (pv 4) pa_nil)) pe_int) pa_nil)) (nomark _)) (pss_one (ps_ret pe_bl)) pss_nil)
      (pss_cons (ps_set (i := 12) nd_law rfl (Or.inl rfl) (pe_lst (pa_cons (pe_mkx0 (T.one 28 (by decide)).xb (T.one 28 (by decide)).iC (T.one 28 (by decide)).tI F28 (hr.mono (by decide)) b28 pass0 (by rfl) (T.one 28 (by decide)).mgC) (pa_cons (pe_mkx0 (T.one 29 (by decide)).xb (T.one 29 (by decide)).iC (T.one 29 (by decide)).tI F29 (hr.mono (by decide)) b29 pass0 (by rfl) (T.one 29 (by decide)).mgC) (pa_cons (pe_mkx0 (T.one 30 (by decide)).xb (T.one 30 (by decide)).iC (T.one 30 (by decide)).tI F30 (hr.mono (by decide)) b30 pass0 (by rfl) (T.one 30 (by decide)).mgC) (pa_cons (pe_mkx0 (T.one 31 (by decide)).xb (T.one 31 (by decide)).iC (T.one 31 (by decide)).tI F31 (hr.mono (by decide)) b31 pass0 (by rfl) (T.one 31 (by decide)).mgC) (pa_cons (pe_mkx0 (T.one 32 (by decide)).xb (T.one 32 (by decide)).iC (T.one 32 (by decide)).tI F32 (hr.mono (by decide)) b32 pass0 (by rfl) (T.one 32 (by decide)).mgC) pa_nil)))))))
      (pss_cons (ps_set (i := 13) nd_law rfl (Or.inl rfl) (pe_op op_cat (pe_op op_cat (pe_op op_cat (pe_op op_cat (pe_op op_cat (pv 5) (pe_slice sl_list (pv 7) po_none (po_some pe_int))) (pe_slice sl_list (pv 8) po_none (po_some pe_int))) (pe_slice sl_list (pv 9) po_none (po_some pe_int))) (pe_slice sl_list (pv 10) po_none (po_some pe_int))) (pv 12)))
      (pss_cons (ps_set (i := 14) nd_law rfl (Or.inl rfl) (pe_op op_cat (pe_op op_cat (pe_op op_cat (pe_op op_cat (pe_op op_cat (pv 6) (pe_slice sl_list (pv 7) (po_some pe_int) po_none)) (pe_slice sl_list (pv 8) (po_some pe_int) po_none)) (pe_slice sl_list (pv 9) (po_some pe_int) po_none)) (pe_slice sl_list (pv 10) (po_some pe_int) po_none)) (pv 12)))
      (pss_one (ps_for PassesOwn.never rfl (pi_range1 (by rfl) B.range (pa_cons pe_int pa_nil)) (pg_name (i := 15) nd_law rfl (Or.inr rfl)) (pss_cons (ps_if (pt_cmpR (op_neD hr.units) (pe_call Gcl (hr.mono (by decide)) rfl mcl qcl bcl .nil pass0 (pa_cons (pe_ix ix_list (pv 13) (pv 15) (fun _ _ => rfl)) pa_nil)) (pe_lc (own := [("_law_k", 18)]) (g := gName 18) (tt := tYes) (te := tOp rEq (tVar 15) (tVar 18)) (by rfl) nd_law (pi_range1 (by rfl) B.range (pa_cons pe_int pa_nil)) (blkOk_by (own := [("_law_k", 18)]) (N := Nl) (sc := defScope s_law) (by decide +kernel)) (fun _ _ _ _ _ => pg_name (i := 18) nd_law rfl (Or.inl rfl)) (fun _ _ _ _ _ => pts_nil) (fun _ _ _ _ _ => pe_cmpR op_eq (pv 15) (pv 18) (nomark _))) (nomark _)) (pss_one (ps_ret pe_bl)) pss_nil)
      (pss_cons (ps_if (pt_cmpR (op_neD hr.units) (pe_call Gcl (hr.mono (by decide)) rfl mcl qcl bcl .nil pass0 (pa_cons (pe_ix ix_list (pv 14) (pv 15) (fun _ _ => rfl)) pa_nil)) (pe_lc (own := [("_law_k", 18)]) (g := gName 18) (tt := tYes) (te := tOp rEq (tVar 15) (tVar 18)) (by rfl) nd_law (pi_range1 (by rfl) B.range (pa_cons pe_int pa_nil)) (blkOk_by (own := [("_law_k", 18)]) (N := Nl) (sc := defScope s_law) (by decide +kernel)) (fun _ _ _ _ _ => pg_name (i := 18) nd_law rfl (Or.inl rfl)) (fun _ _ _ _ _ => pts_nil) (fun _ _ _ _ _ => pe_cmpR op_eq (pv 15) (pv 18) (nomark _))) (nomark _)) (pss_one (ps_ret pe_bl)) pss_nil)
      (pss_cons (ps_setLc (i := 16) (own := [("_law_k", 18)]) (g := gName 18) (tt := tYes) (te := tOp rEq (tOp (rIxL K) (tVar 2) (tVar 15)) (tVar 18)) (by rfl) nd_law rfl rfl (sw_true rfl rfl rfl (by decide +kernel)) (pi_range1 (by rfl) B.range (pa_cons pe_int pa_nil)) (blkOk_by (own := [("_law_k", 18)]) (N := Nl) (sc := defScope s_law) (by decide +kernel)) (fun _ _ _ _ _ => pg_name (i := 18) nd_law rfl (Or.inl rfl)) (fun _ _ _ _ _ => pts_nil) (fun _ _ _ _ _ => pe_cmpR op_eq (pe_ix ix_list (pv 2) (pv 15) (fun _ _ => rfl)) (pv 18) (nomark _)))
      (pss_one (ps_if (PW.pt (pw_or (pt_cmpR (op_neD hr.units) (pe_call Gkd (hr.mono (by decide)) rfl mkd qkd bkd .nil pass0 (pa_cons (pe_ix ix_list (pv 13) (pv 15) (fun _ _ => rfl)) pa_nil)) (pv 16) (nomark _)) (pw_or1 (pt_cmpR (op_neD hr.units) (pe_call Gkd (hr.mono (by decide)) rfl mkd qkd bkd .nil pass0 (pa_cons (pe_ix ix_list (pv 14) (pv 15) (fun _ _ => rfl)) pa_nil)) (pv 16) (nomark _))))) (pss_one (ps_ret pe_bl)) pss_nil))))))))))))))))))))
      (pss_one (ps_ret pe_bl))))), ?_⟩
    refine ⟨_, rfl, a, ns, rfl, hS, hn, fun p c ms H1 e1 hp1 => ?_⟩
    refine q_asgR (P := NewL (Just kindsV)) (kinds_ev) fun u2 H2 e2 h2 => ?_
    obtain ⟨kd, zs, rfl, hkd, rfl⟩ := h2
    have hp2 := hp1.mono e2 (Nat.le_refl 0)
    have nkp : kd ≠ p := by
      obtain ⟨b, r, e, _⟩ := hp2.at_
      exact ne_of hkd e (by intro z; cases z)
    refine q_forR1 (n := 10) (ea_cons ev_c ea_nil) ⟨by decide, by decide⟩ (Inv1 a p c kd ms) (fun H3 e3 => ?_) (fun i σ' H3 hi hI => ?_) (fun σ' H3 hI => k H3)
    · exact ⟨_, _, _, _, _, _, _, _, _, _, _, _, _, _, _, _, rfl, hp2.mono e3 (Nat.le_refl 0), by rw [wo_ne nkp]; exact e3 _ _ hkd⟩
    obtain ⟨x3, x4, x5, x6, x7, x8, x9, x10, x11, x12, x13, x14, x15, x16, x17, x18, rfl, hp3, hk3⟩ := hI
    refine q_asgX ⟨_, rfl, p, c, ms, i, rfl, hp3, by omega, fun v d H4 hd hv e4 hp4 => ?_⟩
    have hk4 := e4 _ _ hk3
    have hkd4 : H4 kd = some (.lst kindsV) := wo_ex _ _ hk4
    have hv4 : Dq K H4 v d := Dq.mono wo_ex hv
    obtain ⟨sh1, sh2, sh3, sh4, sh5, sh6⟩ := odd_small d hd
    refine q_par ⟨_, rfl, v, rfl, fun u5 H5 e5 h5 => ⟨_, rfl, v, rfl, fun u6 H6 e6 h6 => ⟨_, _, rfl, ?_⟩⟩⟩
    have h5' := newL_mono ers_mono _ _ _ e6 h5
    obtain ⟨p5, xs5, rfl, hp5, hE5⟩ := h5'
    obtain ⟨p6, xs6, rfl, hp6, hE6⟩ := h6
    have hv6 : Dq K H6 v d := Dq.mono (e5.trans e6) hv4
    have l5 : xs5.length = 22 := ers_len hE5
    have l6 : xs6.length = 22 := ers_len hE6
    refine q_when (b := false) (et_testR (ne_nil ?_)) (fun z => nomatch z) fun _ H7 e7 => ?_
    · refine value_comp T hE5 hE6 hp5 hp6 rfl rfl (fun _ => rfl) hv6 sh1 (by omega) (by omega) (fun _ => rfl) (fun _ => rfl)
    refine q_asgR (P := NewL (Ers K v [22, 23, 22, 23])) (ers_lst (ers_cons (er_mk1 (EA.ev (ea_cons (ev_var rfl) ea_nil))) (ers_cons (er_mk1 (EA.ev (ea_cons (ev_var rfl) ea_nil))) (ers_cons (er_mk1 (EA.ev (ea_cons (ev_var rfl) ea_nil))) (ers_cons (er_mk1 (EA.ev (ea_cons (ev_var rfl) ea_nil))) ers_nil)))) (by decide)) fun u8 H8 e8 h8 => ?_
    refine q_asgR (P := NewL (Ers K v [24, 25, 24, 25])) (ers_lst (ers_cons (er_mk1 (EA.ev (ea_cons (ev_var rfl) ea_nil))) (ers_cons (er_mk1 (EA.ev (ea_cons (ev_var rfl) ea_nil))) (ers_cons (er_mk1 (EA.ev (ea_cons (ev_var rfl) ea_nil))) (ers_cons (er_mk1 (EA.ev (ea_cons (ev_var rfl) ea_nil))) ers_nil)))) (by decide)) fun u9 H9 e9 h9 => ?_
    refine q_asgR (P := NewL (Ers K v [26, 26])) (ers_lst (ers_cons (er_mk1 (EA.ev (ea_cons (ev_var rfl) ea_nil))) (ers_cons (er_mk1 (EA.ev (ea_cons (ev_var rfl) ea_nil))) ers_nil)) (by decide)) fun u10 H10 e10 h10 => ?_
    refine q_asgR (P := NewL (Ers K v [27, 27])) (ers_lst (ers_cons (er_mk1 (EA.ev (ea_cons (ev_var rfl) ea_nil))) (ers_cons (er_mk1 (EA.ev (ea_cons (ev_var rfl) ea_nil))) ers_nil)) (by decide)) fun u11 H11 e11 h11 => ?_
    obtain ⟨p7, xs7, rfl, hp7, hE7⟩ := newL_mono ers_mono _ _ _ ((e9.trans e10).trans e11) h8
    obtain ⟨p8, xs8, rfl, hp8, hE8⟩ := newL_mono ers_mono _ _ _ (e10.trans e11) h9
    obtain ⟨p9, xs9, rfl, hp9, hE9⟩ := newL_mono ers_mono _ _ _ e11 h10
    obtain ⟨p10, xs10, rfl, hp10, hE10⟩ := h11
    have e7_11 : Ex H6 H11 := (((e7.trans e8).trans e9).trans e10).trans e11
    have hv11 : Dq K H11 v d := Dq.mono e7_11 hv6
    refine q_asgR (P := NewL (Just (List.replicate 10 v))) (just_cat (xs := List.replicate 8 v) (ys := List.replicate 2 v) (just_cat (xs := List.replicate 4 v) (ys := List.replicate 4 v) (field_comp T hE7 hp7 rfl (by decide +kernel) (by decide) (fun _ => rfl) (fun _ => rfl)) (field_comp T hE8 hp8 rfl (by decide +kernel) (by decide) (fun _ => rfl) (fun _ => rfl)) (by simp)) (field_comp T hE9 hp9 rfl (by decide +kernel) (by decide) (fun _ => rfl) (fun _ => rfl)) (by simp)) fun u12 H12 e12 h12 => ?_
    refine q_when (b := false) (et_is (et_test (ev_op (ev_reprL (n := 12) (just_cat (xs := List.replicate 10 v) (ys := List.replicate 2 v) (just_at rfl h12) (field_comp T (ers_mono _ _ _ e12 hE10) (e12 _ _ hp10) rfl (by decide +kernel) (by decide) (fun _ => rfl) (fun _ => rfl)) (by simp)) (Dq.mono e12 hv11) sh4 sh5 (by omega)) (ev_reprL (n := 12) (just_rep (xs := [v]) (k := 12) (just_lst (ea_cons (ev_var rfl) ea_nil) (by simp)) (by decide) (by decide) (by simp)) (Dq.mono e12 hv11) sh4 sh5 (by omega)) (rv_ne rfl))) (by simp)) (fun z => nomatch z) fun _ H13 e13 => ?_
    refine q_asgR (P := NewL (ErX K [28, 29, 30, 31, 32])) (erX_lst (erX_cons er_mk0 (erX_cons er_mk0 (erX_cons er_mk0 (erX_cons er_mk0 (erX_cons er_mk0 erX_nil))))) (by decide)) fun u14 H14 e14 h14 => ?_
    have e14' : Ex H11 H14 := (e12.trans e13).trans e14
    have e14a : Ex H6 H14 := e7_11.trans e14'
    obtain ⟨c7a, c7b⟩ := cut4 (ers_mono _ _ _ e14' hE7)
    obtain ⟨c8a, c8b⟩ := cut4 (ers_mono _ _ _ e14' hE8)
    obtain ⟨c9a, c9b⟩ := cut2 (ers_mono _ _ _ e14' hE9)
    obtain ⟨c10a, c10b⟩ := cut2 (ers_mono _ _ _ e14' hE10)
    have some1 : ∀ {σ : L2.St}, EvO (tPart (tC (.int 1))) σ H14 (some 1) := eo_some ev_c
    refine q_asgR (P := NewL (ErX K (List.range 33))) (erX_cat (is := List.range 28) (js := [28, 29, 30, 31, 32]) (erX_cat (is := List.range 27) (js := [27]) (erX_cat (is := List.range 26) (js := [26]) (erX_cat (is := List.range 24) (js := [24, 25]) (erX_cat (is := List.range 22) (js := [22, 23])
      (erX_at rfl ⟨p5, xs5, rfl, e14a _ _ hp5, (ers_mono _ _ _ e14a hE5).any⟩) (er_cut rfl (e14' _ _ hp7) eo_none (eo_some ev_c) c7a) (by decide)) (er_cut rfl (e14' _ _ hp8) eo_none (eo_some ev_c) c8a) (by decide)) (er_cut rfl (e14' _ _ hp9) eo_none (eo_some ev_c) c9a) (by decide)) (er_cut rfl (e14' _ _ hp10) eo_none (eo_some ev_c) c10a) (by decide)) (erX_at rfl h14) (by decide)) fun u15 H15 e15 h15 => ?_
    have h14' := newL_mono erX_mono _ _ _ e15 h14
    refine q_asgR (P := NewL (ErX K (List.range 33))) (erX_cat (is := List.range 28) (js := [28, 29, 30, 31, 32]) (erX_cat (is := List.range 27) (js := [27]) (erX_cat (is := List.range 26) (js := [26]) (erX_cat (is := List.range 24) (js := [24, 25]) (erX_cat (is := List.range 22) (js := [22, 23])
      (erX_at rfl ⟨p6, xs6, rfl, e15 _ _ (e14a _ _ hp6), (ers_mono _ _ _ (e14a.trans e15) hE6).any⟩) (er_cut rfl (e15 _ _ (e14' _ _ hp7)) (eo_some ev_c) eo_none (erX_mono _ _ _ e15 c7b)) (by decide)) (er_cut rfl (e15 _ _ (e14' _ _ hp8)) (eo_some ev_c) eo_none (erX_mono _ _ _ e15 c8b)) (by decide)) (er_cut rfl (e15 _ _ (e14' _ _ hp9)) (eo_some ev_c) eo_none (erX_mono _ _ _ e15 c9b)) (by decide)) (er_cut rfl (e15 _ _ (e14' _ _ hp10)) (eo_some ev_c) eo_none (erX_mono _ _ _ e15 c10b)) (by decide)) (erX_at rfl h14') (by decide)) fun u16 H16 e16 h16 => ?_
    obtain ⟨p13, xs13, rfl, hp13, hE13⟩ := newL_mono erX_mono _ _ _ e16 h15
    obtain ⟨p14, xs14, rfl, hp14, hE14⟩ := h16
    have e4_16 : Ex H4 H16 := (((e5.trans e6).trans e14a).trans e15).trans e16
    have hk16 : H16 kd = some (.lst kindsV) := e4_16 _ _ hkd4
    refine s_forR1 (n := 33) (ea_cons ev_c ea_nil) ⟨by decide, by decide⟩ (fun _ σ' H' => Ex H16 H' ∧ ∃ y15 y16 y17 y18 : Option V, σ' = [some (.ref a), some (.ref p), some (.ref kd), some (.int (i : Int)), some v, some (.ref p5), some (.ref p6), some (.ref p7), some (.ref p8), some (.ref p9), some (.ref p10), some u12, some u14, some (.ref p13), some (.ref p14), y15, y16, y17, y18]) (fun H17 e17 => ⟨e17, _, _, _, _, rfl⟩) (fun k σ' H17 hk hI => ?_) (fun σ' H17 hI => ?_)
    · obtain ⟨e17, y15, y16, y17, y18, rfl⟩ := hI
      have hk33 : k < 33 := by omega
      refine q_when (b := false) (et_testR (ev_ne_bls (bs := (List.range 33).map fun j => decide (k = j)) ?_ ?_)) (fun z => nomatch z) fun _ H18 e18 => ?_
      · rw [← rowC_bls]
        exact row_call hk33 rfl (e17 _ _ hp13) (erX_mono _ _ _ e17 hE13) rfl
      · rw [← rowC_bls]
        exact at_comp (fun _ => rfl) (fun _ => rfl) (fun _ => rfl)
      have e18' := e17.trans e18
      refine q_when (b := false) (et_testR (ev_ne_bls (bs := (List.range 33).map fun j => decide (k = j)) ?_ ?_)) (fun z => nomatch z) fun _ H19 e19 => ?_
      · rw [← rowC_bls]
        exact row_call hk33 rfl (e18' _ _ hp14) (erX_mono _ _ _ e18' hE14) rfl
      · rw [← rowC_bls]
        exact at_comp (fun _ => rfl) (fun _ => rfl) (fun _ => rfl)
      have e19' := e18'.trans e19
      refine q_asgR (P := NewL (Just (rowK k))) (due_comp (e19' _ _ hk16) (kindsV_at hk33) (fun _ => rfl) (fun _ => rfl) (fun _ => rfl) (fun _ => rfl)) fun u20 H20 e20 h20 => ?_
      have e20' := e19'.trans e20
      refine s_when (b := false) (et_is (et_or (a := false) (b := false) (et_testR (ev_ne_bls (bs := (List.range 5).map fun j => decide (bs k = j)) ?_ ?_)) (fun _ => et_testR (ev_ne_bls (bs := (List.range 5).map fun j => decide (bs k = j)) ?_ ?_))) rfl) (fun z => nomatch z) fun _ H21 e21 => ?_
      · rw [← rowK_bls]
        exact row_call hk33 rfl (e20' _ _ hp13) (erX_mono _ _ _ e20' hE13) rfl
      · rw [← rowK_bls]
        exact just_at rfl h20
      · rw [← rowK_bls]
        exact row_call hk33 rfl (e20' _ _ hp14) (erX_mono _ _ _ e20' hE14) rfl
      · rw [← rowK_bls]
        exact just_at rfl h20
      exact ⟨e20'.trans e21, _, _, _, _, rfl⟩
    · obtain ⟨e17, y15, y16, y17, y18, rfl⟩ := hI
      exact ⟨_, _, _, _, _, _, _, _, _, _, _, _, _, _, _, _, rfl, hp4.mono (e4_16.trans e17) (Nat.le_refl _), wo_mono (e4_16.trans e17) _ _ hk4⟩

end
end HB
namespace HB
open PySem PySem.Spec PyProof.Rows L2
/-! ### the head: what is read off the heap -/
def asY (g : Addr → Option Obj) (n : Nat) : List Addr := sysModules :: He.asD g n
def obsY (n : Nat) (fa : List He.Fa) (fn : List He.DefD) (ex : PySem.W.Frag → Bool) (g : Addr → Option Obj) : He.AlX := (He.obsT fa fn [] (He.frT g (asY g n)), ex (He.frT g (asY g n)))
def valY (fn : List He.DefD) (w : World) : He.AlX := (He.valT fn [] w, true)
def hookY (n : Nat) (fa : List He.Fa) (fn : List He.DefD) (ex : PySem.W.Frag → Bool) : PySem.W.Hook where
  α := He.AlX
  obs := fun s => obsY n fa fn ex s.heap.get?
  val := fun w => valY fn w
  says := fun w h => ∃ K : PySem.W.Frag, K.In h ∧ He.SaysT fa fn [] w K ∧ ex K = true
  of := fun _ _ e => ⟨_, He.frT_in, congrArg (fun z : He.AlX => z.1) e, congrArg (fun z : He.AlX => z.2) e⟩
  keeps := fun _ _ _ ⟨K, hK, c⟩ k => ⟨K, PySem.W.Frag.In.keeps hK k, c⟩
theorem obsY_eq {n : Nat} {fa : List He.Fa} {fn : List He.DefD} {ex : PySem.W.Frag → Bool} {g : Addr → Option Obj} {s : Shared} (h : ∀ a, g a = s.heap.get? a) : obsY n fa fn ex g = (hookY n fa fn ex).obs s := by
  have e : g = s.heap.get? := funext h
  rw [e] <;> rfl
def dI0 : He.DefD := ⟨("DuplicateName", some "__init__"), "__init__", "DuplicateName.__init__", defArgs sI0, defBody sI0, defScope sI0, [], []⟩
def dI1 : He.DefD := ⟨("WrongKind", some "__init__"), "__init__", "WrongKind.__init__", defArgs sI1, defBody sI1, defScope sI1, [], []⟩
def dI2 : He.DefD := ⟨("WrongCount", some "__init__"), "__init__", "WrongCount.__init__", defArgs sI2, defBody sI2, defScope sI2, [], []⟩
def dI3 : He.DefD := ⟨("Endless", some "__init__"), "__init__", "Endless.__init__", defArgs sI3, defBody sI3, defScope sI3, [], []⟩
def dI4 : He.DefD := ⟨("InvalidList", some "__init__"), "__init__", "InvalidList.__init__", defArgs sI4, defBody sI4, defScope sI4, [], []⟩
def dI5 : He.DefD := ⟨("InvalidWeights", some "__init__"), "__init__", "InvalidWeights.__init__", defArgs sI5, defBody sI5, defScope sI5, [], []⟩
def dI6 : He.DefD := ⟨("InvalidNumber", some "__init__"), "__init__", "InvalidNumber.__init__", defArgs sI6, defBody sI6, defScope sI6, [], []⟩
def dI7 : He.DefD := ⟨("InvalidName", some "__init__"), "__init__", "InvalidName.__init__", defArgs sI7, defBody sI7, defScope sI7, [], []⟩
def dI8 : He.DefD := ⟨("InUse", some "__init__"), "__init__", "InUse.__init__", defArgs sI8, defBody sI8, defScope sI8, [], []⟩
def dI9 : He.DefD := ⟨("GivenAway", some "__init__"), "__init__", "GivenAway.__init__", defArgs sI9, defBody sI9, defScope sI9, [], []⟩
def dI10 : He.DefD := ⟨("NotSame", some "__init__"), "__init__", "NotSame.__init__", defArgs sI10, defBody sI10, defScope sI10, [], []⟩
def dI11 : He.DefD := ⟨("CommandError", some "__init__"), "__init__", "CommandError.__init__", defArgs sI11, defBody sI11, defScope sI11, [], []⟩
def dI12 : He.DefD := ⟨("UnknownName", some "__init__"), "__init__", "UnknownName.__init__", defArgs sI12, defBody sI12, defScope sI12, [], []⟩
def dI13 : He.DefD := ⟨("UnknownPoint", some "__init__"), "__init__", "UnknownPoint.__init__", defArgs sI13, defBody sI13, defScope sI13, [], []⟩
def dI14 : He.DefD := ⟨("UnknownUnit", some "__init__"), "__init__", "UnknownUnit.__init__", defArgs sI14, defBody sI14, defScope sI14, [], []⟩
def dI15 : He.DefD := ⟨("UnknownMoment", some "__init__"), "__init__", "UnknownMoment.__init__", defArgs sI15, defBody sI15, defScope sI15, [], []⟩
def dI16 : He.DefD := ⟨("InvalidIndex", some "__init__"), "__init__", "InvalidIndex.__init__", defArgs sI16, defBody sI16, defScope sI16, [], []⟩
def dI17 : He.DefD := ⟨("OutOfRange", some "__init__"), "__init__", "OutOfRange.__init__", defArgs sI17, defBody sI17, defScope sI17, [], []⟩
def dI18 : He.DefD := ⟨("NotHeld", some "__init__"), "__init__", "NotHeld.__init__", defArgs sI18, defBody sI18, defScope sI18, [], []⟩
def dI19 : He.DefD := ⟨("NotFlag", some "__init__"), "__init__", "NotFlag.__init__", defArgs sI19, defBody sI19, defScope sI19, [], []⟩
def dI20 : He.DefD := ⟨("TooDear", some "__init__"), "__init__", "TooDear.__init__", defArgs sI20, defBody sI20, defScope sI20, [], []⟩
def dI21 : He.DefD := ⟨("Leaks", some "__init__"), "__init__", "Leaks.__init__", defArgs sI21, defBody sI21, defScope sI21, [], []⟩
def dI22 : He.DefD := ⟨("TooMany", some "__init__"), "__init__", "TooMany.__init__", defArgs sI22, defBody sI22, defScope sI22, [], []⟩
def dI23 : He.DefD := ⟨("TooLong", some "__init__"), "__init__", "TooLong.__init__", defArgs sI23, defBody sI23, defScope sI23, [], []⟩
def dI24 : He.DefD := ⟨("InvalidBundle", some "__init__"), "__init__", "InvalidBundle.__init__", defArgs sI24, defBody sI24, defScope sI24, [], []⟩
def dI25 : He.DefD := ⟨("InvalidWorld", some "__init__"), "__init__", "InvalidWorld.__init__", defArgs sI25, defBody sI25, defScope sI25, [], []⟩
def dI26 : He.DefD := ⟨("InvalidProgram", some "__init__"), "__init__", "InvalidProgram.__init__", defArgs sI26, defBody sI26, defScope sI26, [], []⟩
def dI27 : He.DefD := ⟨("Unreadable", some "__init__"), "__init__", "Unreadable.__init__", defArgs sI27, defBody sI27, defScope sI27, [], []⟩
def dI28 : He.DefD := ⟨("OtherProgram", some "__init__"), "__init__", "OtherProgram.__init__", defArgs sI28, defBody sI28, defScope sI28, [], []⟩
def dI29 : He.DefD := ⟨("NotJoined", some "__init__"), "__init__", "NotJoined.__init__", defArgs sI29, defBody sI29, defScope sI29, [], []⟩
def dI30 : He.DefD := ⟨("NothingToUndo", some "__init__"), "__init__", "NothingToUndo.__init__", defArgs sI30, defBody sI30, defScope sI30, [], []⟩
def dI31 : He.DefD := ⟨("NothingToRedo", some "__init__"), "__init__", "NothingToRedo.__init__", defArgs sI31, defBody sI31, defScope sI31, [], []⟩
def dI32 : He.DefD := ⟨("InTrial", some "__init__"), "__init__", "InTrial.__init__", defArgs sI32, defBody sI32, defScope sI32, [], []⟩
def d__law_pen : He.DefD := ⟨("_law_pen", none), "_law_pen", "_law_pen", defArgs (top 35), defBody (top 35), defScope (top 35), [], []⟩
def d__law_draw : He.DefD := ⟨("_law_draw", none), "_law_draw", "_law_draw", defArgs (top 36), defBody (top 36), defScope (top 36), [], []⟩
def d__law_pick : He.DefD := ⟨("_law_pick", none), "_law_pick", "_law_pick", defArgs (top 37), defBody (top 37), defScope (top 37), [], []⟩
def d__law_odd : He.DefD := ⟨("_law_odd", none), "_law_odd", "_law_odd", defArgs (top 38), defBody (top 38), defScope (top 38), [], []⟩
def d__law_kinds : He.DefD := ⟨("_law_kinds", none), "_law_kinds", "_law_kinds", defArgs (top 39), defBody (top 39), defScope (top 39), [], []⟩
def d__law_classes : He.DefD := ⟨("_law_classes", none), "_law_classes", "_law_classes", defArgs (top 40), defBody (top 40), defScope (top 40), [], []⟩
def d__law_with_value : He.DefD := ⟨("_law_with_value", none), "_law_with_value", "_law_with_value", defArgs (top 41), defBody (top 41), defScope (top 41), [], []⟩
def d__law_by_keyword : He.DefD := ⟨("_law_by_keyword", none), "_law_by_keyword", "_law_by_keyword", defArgs (top 42), defBody (top 42), defScope (top 42), [], []⟩
def d_law : He.DefD := ⟨("law", none), "law", "law", defArgs (top 43), defBody (top 43), defScope (top 43), [], []⟩
def fnY0 : List He.DefD := [dI0, dI1, dI2, dI3, dI4, dI5, dI6, dI7, dI8, dI9, dI10, dI11, dI12, dI13]
def fnY1 : List He.DefD := [dI14, dI15, dI16, dI17, dI18, dI19, dI20, dI21, dI22, dI23, dI24, dI25, dI26, dI27]
def fnY2 : List He.DefD := [dI28, dI29, dI30, dI31, dI32, d__law_pen, d__law_draw, d__law_pick, d__law_odd, d__law_kinds, d__law_classes, d__law_with_value, d__law_by_keyword, d_law]
def fnY : List He.DefD := fnY0 ++ fnY1 ++ fnY2
def faY : List He.Fa := [.glo "_law_pen", .glo "_law_draw", .glo "_law_pick", .glo "_law_odd", .glo "_law_kinds", .glo "_law_classes", .glo "_law_with_value", .glo "_law_by_keyword", .glo "law", .free "len", .free "int", .free "abs", .free "list", .free "isinstance", .free "repr", .free "range"]
def namesY0 : List Str := ["InvalidProgram", "DuplicateName", "WrongKind", "WrongCount", "Endless", "InvalidBundle", "InvalidList", "InvalidWeights", "InvalidNumber", "InvalidWorld", "OtherProgram", "NotJoined", "UnknownName", "UnknownPoint", "UnknownUnit", "UnknownMoment", "InvalidIndex", "NotHeld", "NotFlag", "TooMany"]
def namesY1 : List Str := ["TooLong", "InvalidName", "InUse", "GivenAway", "NotSame", "Unreadable", "CommandError", "OutOfRange", "NothingToUndo", "NothingToRedo", "TooDear", "InTrial", "Leaks", "_law_pen", "_law_draw", "_law_pick", "_law_odd", "_law_kinds", "_law_classes", "_law_with_value"]
def namesY2 : List Str := ["_law_by_keyword"]
def namesY : List Str := namesY0 ++ namesY1 ++ namesY2
abbrev RY : PySem.W.OpenRow := PySem.W.OpenLaw.row PySem.Challenge.rw_heldby_k00_errors_made_from_their_fields
abbrev hkY : PySem.W.Hook := hookY 6 faY fnY exB
def obY (s : PySem.W.SharedT) : He.AlX := obsY 6 faY fnY exB (HandSHeadRun.getT s)
theorem obY_eq (s : PySem.W.SharedT) : obY s = hkY.obs s.abs := obsY_eq (HandSHeadRun.getT_eq s)
theorem runY (w : World) : HandSHeadRun.RunEq RY (PySem.W.view RY.prog [43]) hkY obY 8000 namesY w := by
  intro os
  kernel_rfl
end HB
namespace HB
open PySem PySem.Spec PyProof.Rows L2
section
variable {P : Program} {w : World} {K : PySem.W.Frag} {mg : Str → Option Value} {base : Heap}
theorem inits1 (c : He.SaysD faY fnY K) (T : AllF K mg) (i : Nat) (hi : i < 28) : Mk1 P w K mg base i := by
  match i, hi with
  | 0, _ =>
    obtain ⟨fd, F⟩ := c.def_ 0 (d := dI0) rfl
    exact okI0 F T
  | 1, _ =>
    obtain ⟨fd, F⟩ := c.def_ 1 (d := dI1) rfl
    exact okI1 F T
  | 2, _ =>
    obtain ⟨fd, F⟩ := c.def_ 2 (d := dI2) rfl
    exact okI2 F T
  | 3, _ =>
    obtain ⟨fd, F⟩ := c.def_ 3 (d := dI3) rfl
    exact okI3 F T
  | 4, _ =>
    obtain ⟨fd, F⟩ := c.def_ 4 (d := dI4) rfl
    exact okI4 F T
  | 5, _ =>
    obtain ⟨fd, F⟩ := c.def_ 5 (d := dI5) rfl
    exact okI5 F T
  | 6, _ =>
    obtain ⟨fd, F⟩ := c.def_ 6 (d := dI6) rfl
    exact okI6 F T
  | 7, _ =>
    obtain ⟨fd, F⟩ := c.def_ 7 (d := dI7) rfl
    exact okI7 F T
  | 8, _ =>
    obtain ⟨fd, F⟩ := c.def_ 8 (d := dI8) rfl
    exact okI8 F T
  | 9, _ =>
    obtain ⟨fd, F⟩ := c.def_ 9 (d := dI9) rfl
    exact okI9 F T
  | 10, _ =>
    obtain ⟨fd, F⟩ := c.def_ 10 (d := dI10) rfl
    exact okI10 F T
  | 11, _ =>
    obtain ⟨fd, F⟩ := c.def_ 11 (d := dI11) rfl
    exact okI11 F T
  | 12, _ =>
    obtain ⟨fd, F⟩ := c.def_ 12 (d := dI12) rfl
    exact okI12 F T
  | 13, _ =>
    obtain ⟨fd, F⟩ := c.def_ 13 (d := dI13) rfl
    exact okI13 F T
  | 14, _ =>
    obtain ⟨fd, F⟩ := c.def_ 14 (d := dI14) rfl
    exact okI14 F T
  | 15, _ =>
    obtain ⟨fd, F⟩ := c.def_ 15 (d := dI15) rfl
    exact okI15 F T
  | 16, _ =>
    obtain ⟨fd, F⟩ := c.def_ 16 (d := dI16) rfl
    exact okI16 F T
  | 17, _ =>
    obtain ⟨fd, F⟩ := c.def_ 17 (d := dI17) rfl
    exact okI17 F T
  | 18, _ =>
    obtain ⟨fd, F⟩ := c.def_ 18 (d := dI18) rfl
    exact okI18 F T
  | 19, _ =>
    obtain ⟨fd, F⟩ := c.def_ 19 (d := dI19) rfl
    exact okI19 F T
  | 20, _ =>
    obtain ⟨fd, F⟩ := c.def_ 20 (d := dI20) rfl
    exact okI20 F T
  | 21, _ =>
    obtain ⟨fd, F⟩ := c.def_ 21 (d := dI21) rfl
    exact okI21 F T
  | 22, _ =>
    obtain ⟨fd, F⟩ := c.def_ 22 (d := dI22) rfl
    exact okI22 F T
  | 23, _ =>
    obtain ⟨fd, F⟩ := c.def_ 23 (d := dI23) rfl
    exact okI23 F T
  | 24, _ =>
    obtain ⟨fd, F⟩ := c.def_ 24 (d := dI24) rfl
    exact okI24 F T
  | 25, _ =>
    obtain ⟨fd, F⟩ := c.def_ 25 (d := dI25) rfl
    exact okI25 F T
  | 26, _ =>
    obtain ⟨fd, F⟩ := c.def_ 26 (d := dI26) rfl
    exact okI26 F T
  | 27, _ =>
    obtain ⟨fd, F⟩ := c.def_ 27 (d := dI27) rfl
    exact okI27 F T
  | n + 28, h => exact absurd h (by omega)
theorem inits0 (c : He.SaysD faY fnY K) (T : AllF K mg) (i : Nat) (lo : 28 ≤ i) (hi : i < 33) : Mk0 P w K mg base i := by
  obtain ⟨j, rfl⟩ : ∃ j, i = 28 + j := ⟨i - 28, by omega⟩
  match j, hi with
  | 0, _ =>
    obtain ⟨fd, F⟩ := c.def_ 28 (d := dI28) rfl
    exact okI28 F T
  | 1, _ =>
    obtain ⟨fd, F⟩ := c.def_ 29 (d := dI29) rfl
    exact okI29 F T
  | 2, _ =>
    obtain ⟨fd, F⟩ := c.def_ 30 (d := dI30) rfl
    exact okI30 F T
  | 3, _ =>
    obtain ⟨fd, F⟩ := c.def_ 31 (d := dI31) rfl
    exact okI31 F T
  | 4, _ =>
    obtain ⟨fd, F⟩ := c.def_ 32 (d := dI32) rfl
    exact okI32 F T
  | n + 5, h => exact absurd h (by omega)
end
theorem facts {P : Program} {w : World} {K : PySem.W.Frag} {h : Heap} {mg : Str → Option Value} {f : Addr} (X : K.In h) (G : h.Ns mainGlobals mg) (hfa : mg ("law" : Str) = some (.ref f)) (c : He.SaysD faY fnY K) (ex : exB K = true) :
    ∃ fd : FuncData, (∀ (s : Shared) (v : Value), BindsTo s fd ⟨[v], []⟩ [("_law_script", v)]) ∧ ∀ base : Heap, K.In base → base.Ns mainGlobals mg → FnG P w K mg base CX0 6 f fd ["_law_script"] (spLaw K) := by
  have T : AllF K mg := allF X G ex
  have f_len := He.free_ok X G (c.fact 9 (f := .free "len") rfl)
  have f_int := He.free_ok X G (c.fact 10 (f := .free "int") rfl)
  have f_abs := He.free_ok X G (c.fact 11 (f := .free "abs") rfl)
  have f_list := He.free_ok X G (c.fact 12 (f := .free "list") rfl)
  have f_isinstance := He.free_ok X G (c.fact 13 (f := .free "isinstance") rfl)
  have f_repr := He.free_ok X G (c.fact 14 (f := .free "repr") rfl)
  have f_range := He.free_ok X G (c.fact 15 (f := .free "range") rfl)
  have B : Blt2 mg := { len := f_len, int := f_int, abs := f_abs, list := f_list, isi := f_isinstance, repr := f_repr, range := f_range }
  obtain ⟨dpen, Fpen⟩ := c.def_ 33 (d := d__law_pen) rfl
  have mpen := He.glo_ok X G (c.fact 0 (f := .glo "_law_pen") rfl)
  have bpen : Binds K dpen ["_law_script"] [] := Fpen.bindsN fun _ _ _ _ _ _ us hl => match us, hl with | [_], _ => rfl
  obtain ⟨ddrw, Fdrw⟩ := c.def_ 34 (d := d__law_draw) rfl
  have mdrw := He.glo_ok X G (c.fact 1 (f := .glo "_law_draw") rfl)
  have bdrw : Binds K ddrw ["_law_pen_here", "_law_many"] [] := Fdrw.bindsN fun _ _ _ _ _ _ us hl => match us, hl with | [_, _], _ => rfl
  obtain ⟨dpck, Fpck⟩ := c.def_ 35 (d := d__law_pick) rfl
  have mpck := He.glo_ok X G (c.fact 2 (f := .glo "_law_pick") rfl)
  have bpck : Binds K dpck ["_law_pen_here", "_law_options"] [] := Fpck.bindsN fun _ _ _ _ _ _ us hl => match us, hl with | [_, _], _ => rfl
  obtain ⟨dodd, Fodd⟩ := c.def_ 36 (d := d__law_odd) rfl
  have modd := He.glo_ok X G (c.fact 3 (f := .glo "_law_odd") rfl)
  have bodd : Binds K dodd ["_law_pen_here"] [] := Fodd.bindsN fun _ _ _ _ _ _ us hl => match us, hl with | [_], _ => rfl
  obtain ⟨dkd, Fkd⟩ := c.def_ 37 (d := d__law_kinds) rfl
  have mkd := He.glo_ok X G (c.fact 4 (f := .glo "_law_kinds") rfl)
  have bkd : Binds K dkd ["_law_one"] [] := Fkd.bindsN fun _ _ _ _ _ _ us hl => match us, hl with | [_], _ => rfl
  obtain ⟨dcl, Fcl⟩ := c.def_ 38 (d := d__law_classes) rfl
  have mcl := He.glo_ok X G (c.fact 5 (f := .glo "_law_classes") rfl)
  have bcl : Binds K dcl ["_law_one"] [] := Fcl.bindsN fun _ _ _ _ _ _ us hl => match us, hl with | [_], _ => rfl
  obtain ⟨dwv, Fwv⟩ := c.def_ 39 (d := d__law_with_value) rfl
  have mwv := He.glo_ok X G (c.fact 6 (f := .glo "_law_with_value") rfl)
  have bwv : Binds K dwv ["_law_a"] [] := Fwv.bindsN fun _ _ _ _ _ _ us hl => match us, hl with | [_], _ => rfl
  obtain ⟨dbk, Fbk⟩ := c.def_ 40 (d := d__law_by_keyword) rfl
  have mbk := He.glo_ok X G (c.fact 7 (f := .glo "_law_by_keyword") rfl)
  have bbk : Binds K dbk ["_law_a"] [] := Fbk.bindsN fun _ _ _ _ _ _ us hl => match us, hl with | [_], _ => rfl
  obtain ⟨fd, F⟩ := c.def_ 41 (d := d_law) rfl
  have e := hfa.symm.trans (He.glo_ok X G (c.fact 8 (f := .glo "law") rfl))
  cases e
  have b := FunD.bindsA (ps := ["_law_script"]) F fun _ _ _ _ _ _ us hl => match us, hl with | [_], _ => rfl
  refine ⟨fd, fun s v => b s [v] rfl, fun base _ _ => ?_⟩
  have M1 : ∀ i, i < 28 → Mk1 P w K mg base i := inits1 c T
  have M0 : ∀ i, 28 ≤ i → i < 33 → Mk0 P w K mg base i := inits0 c T
  have okdrw : FnOk P w K mg base CX0 1 _ ddrw ["_law_pen_here", "_law_many"] spDraw := ok_draw Fdrw B.toBlt
  have okpck : FnOk P w K mg base CX0 2 _ dpck ["_law_pen_here", "_law_options"] (spPick K) := ok_pick Fpck B.toBlt okdrw mdrw Fdrw.kp bdrw
  refine ok_law F T B ⟨⟨_, _, ok_pen Fpen B.toBlt, mpen, Fpen.kp, bpen⟩, ⟨_, _, ok_odd Fodd okpck mpck Fpck.kp bpck, modd, Fodd.kp, bodd⟩, ⟨_, _, ok_law_with_value Fwv T (fun i hi => M1 i (by omega)), mwv, Fwv.kp, bwv⟩,
    ⟨_, _, ok_law_by_keyword Fbk T (fun i hi => M1 i (by omega)), mbk, Fbk.kp, bbk⟩, ⟨_, _, ok_law_classes Fcl T B, mcl, Fcl.kp, bcl⟩, ⟨_, _, ok_law_kinds Fkd T B, mkd, Fkd.kp, bkd⟩⟩ M1 M0
end HB
open PySem PySem.W PySem.Calls PyProof.Rows
theorem PySem.Challenge.cw_heldby_k00_errors_made_from_their_fields_holds : PySem.Challenge.rw_heldby_k00_errors_made_from_their_fields.Holds := by
  w_on; o_law
  refine HandSHeadRun.head_any (r := OpenLaw.row PySem.Challenge.rw_heldby_k00_errors_made_from_their_fields) (q := view (OpenLaw.row PySem.Challenge.rw_heldby_k00_errors_made_from_their_fields).prog [43]) (H := HB.hkY) (ob := HB.obY) (M := 8000) (loose := HB.namesY) (d := HandSHeadRun.topDef (OpenLaw.row PySem.Challenge.rw_heldby_k00_errors_made_from_their_fields).prog 43) (kwd := []) HB.obY_eq
    (by kernel_rfl) (fun s => by kernel_rfl) HB.runY (by kernel_rfl) (by kernel_rfl) (by kernel_rfl) (by rfl) (by first | assumption | decide +kernel) (by decide +kernel) ⟨rfl, rfl, rfl, rfl, rfl, by decide +kernel⟩ ?hw ?hc
  case hw => w_witness2
  case hc =>
    refine HB.walkG (l := PySem.Challenge.rw_heldby_k00_errors_made_from_their_fields) (n := 63) (k := 6) (x := "_law_script") rfl (by decide) (by kernel_rfl) ⟨rfl, by decide, by decide⟩ ?F
    intro w mg fa h Y G hmg0
    obtain ⟨K, KX, c, ex⟩ := Y
    have hmg : mg ("law" : PySem.Str) = some (.ref fa) := by
      have e : (HandSHeadRun.topDef (OpenLaw.row PySem.Challenge.rw_heldby_k00_errors_made_from_their_fields).prog 43).name = ("law" : PySem.Str) := by kernel_rfl
      rw [← e]
      exact hmg0
    obtain ⟨fd, hb, hF⟩ := HB.facts (P := (PySem.Challenge.rw_heldby_k00_errors_made_from_their_fields).prog) (w := w) KX G hmg c.d ex
    exact ⟨K, fd, HB.spLaw K, KX, hb, fun H a ns hl _ hS => ⟨a, ns, rfl, hS, hl, fun _ => rfl⟩, hF⟩
