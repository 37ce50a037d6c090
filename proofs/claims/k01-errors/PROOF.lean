import PyProof.Rows.All
import Wide.All
import OpenK.AllK
import Wide.FinOn
import HandS.ForMost
import HandS.Codes
import HandS.Exc
import HandS.ExcOwn
import HandS.ExcInit
import HandS.ExcIs
import HandS.ExcValue
import HandS.IsInst
import PyProof.ReprRoads
import HandS.Evl
import HandS.TryOnly
import HandS.WordsExc
import PySem.Challenge.RW_kepthours_k01_errors
set_option Elab.async false
set_option linter.all false
set_option maxRecDepth 100000
set_option maxHeartbeats 4000000
/-! The pen of the law: draws. -/
namespace KH
open PySem L2
def top (i : Nat) : Stmt := PySem.Challenge.pw_kepthours_k01_errors.main.body.getD i (.Pass ⟨0, 0, 0, 0⟩)
abbrev sPen : Stmt := top 17
abbrev sDraw : Stmt := top 18
abbrev sPick : Stmt := top 19
abbrev sValue : Stmt := top 20
abbrev sFields : Stmt := top 21
abbrev sMade : Stmt := top 22
abbrev sKinds : Stmt := top 23
abbrev sLaw : Stmt := top 24
/-- all that is tracked but p is as it was -/
def But (p : Addr) (H H' : Hp) : Prop := ∀ b o, b ≠ p → H b = some o → H' b = some o
theorem But.refl (p : Addr) (H : Hp) : But p H H := fun _ _ _ e => e
theorem But.trans {p : Addr} {H H1 H2 : Hp} (a : But p H H1) (b : But p H1 H2) : But p H H2 := fun c o hc e => b c o hc (a c o hc e)
theorem But.of {p : Addr} {H H' : Hp} (e : Same H H') : But p H H' := fun c o _ h => e c o h
/-- the pen's dict -/
def penK (l : Addr) (i d k f : Int) : List (Key × V) :=
  [(.inr "cells", .ref l), (.inr "at", .int i), (.inr "digits", .int d), (.inr "count", .int k), (.inr "fold", .int f)]
theorem pen_merge (l : Addr) (i d k f : Int) : mergeK [] (penK l i d k f) = penK l i d k f := by
  with_unfolding_all rfl
theorem pen_cells (l : Addr) (i d k f : Int) : valV (penK l i d k f) (Sum.inr "cells" : Key) = some (.ref l) := by with_unfolding_all rfl
theorem pen_at (l : Addr) (i d k f : Int) : valV (penK l i d k f) (Sum.inr "at" : Key) = some (.int i) := by with_unfolding_all rfl
theorem pen_digits (l : Addr) (i d k f : Int) : valV (penK l i d k f) (Sum.inr "digits" : Key) = some (.int d) := by with_unfolding_all rfl
theorem pen_count (l : Addr) (i d k f : Int) : valV (penK l i d k f) (Sum.inr "count" : Key) = some (.int k) := by with_unfolding_all rfl
theorem pen_fold (l : Addr) (i d k f : Int) : valV (penK l i d k f) (Sum.inr "fold" : Key) = some (.int f) := by with_unfolding_all rfl
theorem pen_putAt (l : Addr) (i d k f z : Int) : putK (penK l i d k f) (Sum.inr "at" : Key) (.int z) = penK l z d k f := by with_unfolding_all rfl
theorem pen_putDigits (l : Addr) (i d k f z : Int) : putK (penK l i d k f) (Sum.inr "digits" : Key) (.int z) = penK l i z k f := by with_unfolding_all rfl
theorem pen_putCount (l : Addr) (i d k f z : Int) : putK (penK l i d k f) (Sum.inr "count" : Key) (.int z) = penK l i d z f := by with_unfolding_all rfl
theorem pen_putFold (l : Addr) (i d k f z : Int) : putK (penK l i d k f) (Sum.inr "fold" : Key) (.int z) = penK l i d k z := by with_unfolding_all rfl
/-- the pen at p, k draws behind it -/
def Pen (H : Hp) (p : Addr) (k : Nat) : Prop := ∃ (l : Addr) (cs : List Int) (i : Nat) (d f : Int), H p = some (.dK (penK l i d k f)) ∧ H l = some (.lst (cs.map V.int)) ∧ 0 ≤ d ∧ 0 ≤ f ∧ f < 2147483648
theorem Pen.mono {H H' : Hp} {p : Addr} {k : Nat} (h : Pen H p k) (e : Same H H') : Pen H' p k := by
  obtain ⟨l, cs, i, d, f, h1, h2, h3⟩ := h
  exact ⟨l, cs, i, d, f, e _ _ h1, e _ _ h2, h3⟩
/-- what stands of the top's names -/
structure TxtP (K : PySem.W.Frag) (mg : Str → Option Value) : Prop where
  int : mg "int" = none
  list : mg "list" = none
  len : mg "len" = none
def spPen (K : PySem.W.Frag) : Sp := fun vs H Q _ => ∃ (a : Addr) (ns : List Int), vs = [.ref a] ∧ SqL K H a (ns.map V.int) ∧
  ∀ (H' : Hp) (p : Addr), Same H H' → H p = none → Pen H' p 0 → Q (.ref p) H'
def spDraw : Sp := fun vs H Q _ => ∃ (p : Addr) (k : Nat) (m : Int), vs = [.ref p, .int m] ∧ Pen H p k ∧ k < 1000000 ∧ 0 < m ∧ m < 1000000000 ∧
  ∀ (H' : Hp) (r : Int), But p H H' → Pen H' p (k + 1) → 0 ≤ r → r < m → Q (.int r) H'
section
variable {P : Program} {w : World} {K : PySem.W.Frag} {mg : Str → Option Value} {base : Heap}
theorem scPen : FnScope ["script", "fold", "cell"] ["script"] (defScope sPen) := ⟨rfl, rfl, rfl, by decide +kernel, rfl, by decide +kernel, by decide +kernel⟩
theorem ok_pen {f : Addr} {fd : FuncData} (F : Fun K "_law_pen" "_law_pen" sPen f fd) (T : TxtP K mg) : FnOk P w K mg base CX0 1 f fd ["script"] (spPen K) := by
  refine F.ok scPen (fun vs H Q E h => ?_) (fun cdv A outer s H vs Q E hr h => ?_)
  · obtain ⟨a, ns, rfl, _⟩ := h
    rfl
  · obtain ⟨a, ns, rfl, hS, k⟩ := h
    refine ⟨_, pss_cons (ps_set (i := 1) scPen.nd rfl (Or.inl rfl) pe_int)
      (pss_cons (ps_for PassesOwn.never rfl (pi_list (pv 0)) (pg_name (i := 2) scPen.nd rfl (Or.inl rfl))
        (pss_one (ps_set (i := 1) scPen.nd rfl (Or.inl rfl) (pe_op op_mod (pe_callTy call_int1 (by rfl) T.int (by decide +kernel) (pa_cons (pe_op op_add (pe_op op_mul (pv 1) pe_int) (pv 2)) pa_nil)) pe_int))))
      (pss_one (ps_ret (pe_disp (pps_cons pe_str (pe_callTy call_list_of (by rfl) T.list (by decide +kernel) (pa_cons (pv 0) pa_nil)) (pps_cons pe_str pe_int (pps_cons pe_str pe_int (pps_cons pe_str pe_int (pps_cons pe_str (pv 1) pps_nil))))) (by rfl) (by rfl) (fun z => by cases z) (by decide))))), ?_⟩
    refine ⟨_, rfl, a, rfl, ⟨_, hS⟩, for_list (K := K) (a := a) (xs := ns.map V.int) (fun i σ H2 => ∃ (z : Int) (v : Option V), σ = [some (.ref a), some (.int z), v] ∧ H2 = H ∧ 0 ≤ z ∧ z < 1000000513)
      ⟨59, none, rfl, rfl, by decide, by decide⟩ (fun i σ H2 _ ⟨_, _, _, s2, _⟩ => s2 ▸ hS) ?_ ?_⟩
    · rintro i y σ H2 hi ⟨z, v, rfl, rfl, h0, h1⟩
      obtain ⟨c, rfl⟩ : ∃ c, y = V.int c := by
        rw [List.getElem?_map] at hi
        cases e : ns[i]? with
        | none => rw [e] at hi; cases hi
        | some c => rw [e] at hi; exact ⟨c, (Option.some.inj hi).symm⟩
      refine ⟨_, rfl, _, _, rfl, rfl, .inl ⟨by omega, by omega⟩, _, rfl, _, _, rfl, rfl, .inl ⟨_, rfl, _, _, rfl, rfl, (by show (0 : Int) < 1000000513; decide), _, _, rfl, rfl, ?_, ?_⟩⟩
      · exact Int.emod_nonneg _ (by decide)
      · exact Int.emod_lt_of_pos _ (by decide)
    · rintro σ H2 ⟨z, v, rfl, rfl, h0, h1⟩
      intro p hp
      refine ⟨_, rfl, a, ns.map V.int, rfl, .inl ?_, fun l hl => ?_⟩
      · exact Same.seq (fun b o e => by rw [upd_ne (ne_of_none e hp)]; exact e) hS
      have npl : l ≠ p := fun e => by rw [e, upd_same] at hl; cases hl
      have hl0 : H2 l = none := by rw [upd_ne npl] at hl; exact hl
      refine ⟨_, rfl, by rw [upd_ne npl.symm, upd_same], penK l 0 0 0 z, rfl, (by show 5 ≤ 15; decide), ?_⟩
      rw [pen_merge]
      refine k _ p (fun b o e => ?_) hp ⟨l, ns, 0, 0, z, upd_same, ?_, by decide, h0, by omega⟩
      · rw [upd_ne (ne_of_none e hp), upd_ne (ne_of_none e hl0), upd_ne (ne_of_none e hp)]; exact e
      · rw [upd_ne npl, upd_same]
theorem scDraw : FnScope ["pen", "many", "cell", "digit", "blend"] ["pen", "many"] (defScope sDraw) := ⟨rfl, rfl, rfl, by decide +kernel, rfl, by decide +kernel, by decide +kernel⟩
theorem len_pen {l : Addr} {i d k f : Int} : (penK l i d k f).length < sizeLine := small1000 (by show 5 ≤ 1000; decide)
section
variable {H : Hp} {p l : Addr} {i d k f z : Int} (hp : H p = some (.dK (penK l i d k f)))
include hp
theorem gCells : DGet H p (.str "cells") (some (.ref l)) := by
  have e := DGet.k (k := Sum.inr "cells") hp
  rw [pen_cells] at e
  exact e
theorem gAt : DGet H p (.str "at") (some (.int i)) := by
  have e := DGet.k (k := Sum.inr "at") hp
  rw [pen_at] at e
  exact e
theorem gDigits : DGet H p (.str "digits") (some (.int d)) := by
  have e := DGet.k (k := Sum.inr "digits") hp
  rw [pen_digits] at e
  exact e
theorem gCount : DGet H p (.str "count") (some (.int k)) := by
  have e := DGet.k (k := Sum.inr "count") hp
  rw [pen_count] at e
  exact e
theorem gFold : DGet H p (.str "fold") (some (.int f)) := by
  have e := DGet.k (k := Sum.inr "fold") hp
  rw [pen_fold] at e
  exact e
theorem sAt : DPut H p (.str "at") (.int z) (upd H p (.dK (penK l z d k f))) := by
  have e := DPut.k (k := Sum.inr "at") (v := .int z) hp len_pen
  rw [pen_putAt] at e
  exact e
theorem sDigits : DPut H p (.str "digits") (.int z) (upd H p (.dK (penK l i z k f))) := by
  have e := DPut.k (k := Sum.inr "digits") (v := .int z) hp len_pen
  rw [pen_putDigits] at e
  exact e
theorem sCount : DPut H p (.str "count") (.int z) (upd H p (.dK (penK l i d z f))) := by
  have e := DPut.k (k := Sum.inr "count") (v := .int z) hp len_pen
  rw [pen_putCount] at e
  exact e
theorem sFold : DPut H p (.str "fold") (.int z) (upd H p (.dK (penK l i d k z))) := by
  have e := DPut.k (k := Sum.inr "fold") (v := .int z) hp len_pen
  rw [pen_putFold] at e
  exact e
end
theorem But.put {p : Addr} {H : Hp} {o : HO} : But p H (upd H p o) := fun c u hc e => by rw [upd_ne hc]; exact e
theorem pow18 : ((10 : Int) ^ (18 : Int).toNat) = 1000000000000000000 := by decide
theorem ok_draw {f : Addr} {fd : FuncData} (F : Fun K "_law_draw" "_law_draw" sDraw f fd) (T : TxtP K mg) : FnOk P w K mg base CX0 1 f fd ["pen", "many"] spDraw := by
  refine F.ok scDraw (fun vs H Q E h => ?_) (fun cdv A outer s H vs Q E hr h => ?_)
  · obtain ⟨p, k, m, rfl, _⟩ := h
    rfl
  · obtain ⟨p, k, m, rfl, ⟨l, cs, i, d, f, hp, hl, hd0, hf0, hf1⟩, hk, hm0, hm1, hQ⟩ := h
    have hu := hu_of hr
    have nd := scDraw.nd
    have npl : l ≠ p := ne_of hl hp (by intro z; cases z)
    refine ⟨_, pss_cons (ps_dput hu (pv 0) pe_str (pe_op op_add (pe_dget hu (pv 0) pe_str (fun _ _ => rfl)) pe_int) rfl)
      (C8.pss_cut (ps_if (PW.pt (pw_and (pt_cmpR op_eq (pe_dget hu (pv 0) pe_str (fun _ _ => rfl)) pe_int (nomark _)) (pw_and1 (pt_cmpR op_lt (pe_dget hu (pv 0) pe_str (fun _ _ => rfl)) (pe_callB call_len_seq (by rfl) T.len (by decide +kernel) (pa_cons (pe_dget hu (pv 0) pe_str (fun _ _ => rfl)) pa_nil)) (nomark _)))))
        (pss_cons (ps_set (i := 2) nd rfl (Or.inl rfl) (pe_ix ix_list (pe_dget hu (pv 0) pe_str (fun _ _ => rfl)) (pe_dget hu (pv 0) pe_str (fun _ _ => rfl)) (fun _ _ => rfl)))
        (pss_cons (ps_dput hu (pv 0) pe_str (pe_op op_add (pe_dget hu (pv 0) pe_str (fun _ _ => rfl)) pe_int) rfl)
        (pss_one (ps_if (pt_cmpR op_ge (pv 2) (pe_op op_pow pe_int pe_int) (nomark _))
          (pss_one (ps_dput hu (pv 0) pe_str (pe_op op_sub (pv 2) (pe_op op_pow pe_int pe_int)) rfl))
          (pss_one (ps_dput hu (pv 0) pe_str (pe_op op_mod (pe_callTy call_int1 (by rfl) T.int (by decide +kernel) (pa_cons (pe_op op_add (pe_op op_mul (pe_dget hu (pv 0) pe_str (fun _ _ => rfl)) pe_int) (pv 2)) pa_nil)) pe_int) rfl))))))
        pss_nil)
      (pss_cons (ps_if (pt_cmpR op_gt (pe_dget hu (pv 0) pe_str (fun _ _ => rfl)) pe_int (nomark _))
        (pss_cons (ps_set (i := 3) nd rfl (Or.inl rfl) (pe_op op_mod (pe_callTy call_int1 (by rfl) T.int (by decide +kernel) (pa_cons (pe_dget hu (pv 0) pe_str (fun _ _ => rfl)) pa_nil)) (pv 1)))
        (pss_cons (ps_dput hu (pv 0) pe_str (pe_op op_fdiv (pe_dget hu (pv 0) pe_str (fun _ _ => rfl)) (pv 1)) rfl)
        (pss_one (ps_ret (pv 3)))))
        pss_nil)
      (pss_cons (ps_set (i := 4) nd rfl (Or.inl rfl) (pe_op op_add (pe_op op_add (pe_dget hu (pv 0) pe_str (fun _ _ => rfl)) (pe_op op_mul (pe_dget hu (pv 0) pe_str (fun _ _ => rfl)) pe_int)) pe_int))
      (pss_one (ps_ret (pe_op op_mod (pe_op op_fdiv (pe_callTy call_int1 (by rfl) T.int (by decide +kernel) (pa_cons (pe_op op_mod (pe_op op_pow (pv 4) pe_int) pe_int) pa_nil)) pe_int) (pv 1))))))), ?_⟩
    -- count
    refine ⟨_, rfl, p, _, rfl, gCount hp, _, _, rfl, rfl, _, rfl, p, _, rfl, sCount hp, ?_⟩
    -- behind the first if
    refine ⟨fun σ H2 => ∃ (c : Option V) (i : Nat) (d f : Int), σ = [some (.ref p), some (.int m), c, none, none] ∧ But p H H2 ∧ H2 p = some (.dK (penK l i d ((k : Int) + 1) f)) ∧ 0 ≤ d ∧ 0 ≤ f ∧ f < 2147483648, ?_, ?_⟩
    · have b1 : But p H (upd H p (.dK (penK l i d ((k : Int) + 1) f))) := But.put
      generalize hH1 : upd H p (.dK (penK l i d ((k : Int) + 1) f)) = H1 at b1
      have h1 : H1 p = some (.dK (penK l i d ((k : Int) + 1) f)) := by rw [← hH1]; exact upd_same
      have h1l : H1 l = some (.lst (cs.map V.int)) := b1 _ _ npl hl
      have out : ∃ (c : Option V) (i' : Nat) (d' f' : Int), start ["pen", "many", "cell", "digit", "blend"] [V.ref p, V.int m] = [some (.ref p), some (.int m), c, none, none] ∧ But p H H1 ∧ H1 p = some (.dK (penK l i' d' ((k : Int) + 1) f')) ∧ 0 ≤ d' ∧ 0 ≤ f' ∧ f' < 2147483648 :=
        ⟨none, i, d, f, rfl, b1, h1, hd0, hf0, hf1⟩
      refine ⟨_, rfl, p, _, rfl, gDigits h1, rfl, _, rfl, ?_⟩
      refine ite2 (fun hd => ?_) (fun _ => ?_)
      · refine ⟨_, rfl, p, _, rfl, gAt h1, _, rfl, p, _, rfl, gCells h1, l, _, rfl, .inl (.inl (.inl h1l)), _, _, rfl, rfl, _, rfl, ?_⟩
        refine ite2 (fun hlt => ?_) (fun _ => ?_)
        · have hlt' : i < cs.length := by
            have q := of_decide_eq_true hlt
            rw [List.length_map] at q
            omega
          refine ⟨_, rfl, p, _, rfl, gCells h1, _, rfl, p, _, rfl, gAt h1, l, _, i, V.int cs[i], rfl, rfl, .inl (.inl h1l), atI_nat (by rw [List.getElem?_map, List.getElem?_eq_getElem hlt']; rfl), ?_⟩
          refine ⟨_, rfl, p, _, rfl, gAt h1, _, _, rfl, rfl, _, rfl, p, _, rfl, sAt h1, ?_⟩
          have b2 : But p H (upd H1 p (.dK (penK l ((i : Int) + 1) d ((k : Int) + 1) f))) := b1.trans But.put
          generalize hH2 : upd H1 p (.dK (penK l ((i : Int) + 1) d ((k : Int) + 1) f)) = H2 at b2
          have h2 : H2 p = some (.dK (penK l ((i : Int) + 1) d ((k : Int) + 1) f)) := by rw [← hH2]; exact upd_same
          refine ⟨_, rfl, _, _, rfl, rfl, ⟨by decide, by decide, by decide⟩, _, _, rfl, rfl, _, rfl, ?_⟩
          refine ite2 (fun hge => ?_) (fun _ => ?_)
          · have hge' := of_decide_eq_true hge
            rw [pow18] at hge'
            refine ⟨_, rfl, _, _, rfl, rfl, ⟨by decide, by decide, by decide⟩, _, _, rfl, rfl, _, rfl, p, _, rfl, sDigits h2, ?_⟩
            refine ⟨_, i + 1, _, f, rfl, b2.trans But.put, upd_same, ?_, hf0, hf1⟩
            rw [pow18]
            omega
          · refine ⟨_, rfl, p, _, rfl, gFold h2, _, _, rfl, rfl, .inr ⟨by decide, by decide⟩, _, rfl, _, _, rfl, rfl, .inl ⟨_, rfl, _, _, rfl, rfl, (by show (0 : Int) < 2147482951; decide), _, rfl, p, _, rfl, sFold h2, ?_⟩⟩
            refine ⟨_, i + 1, d, _, rfl, b2.trans But.put, upd_same, hd0, Int.emod_nonneg _ (by decide), ?_⟩
            have q := Int.emod_lt_of_pos (f * 70157 + cs[i]) (show (0 : Int) < 2147482951 by decide)
            omega
        · exact out
      · exact iteF out
    · rintro σ H2 ⟨c, i, d, f, rfl, b2, h2, hd0, hf0, hf1⟩
      refine ⟨_, rfl, p, _, rfl, gDigits h2, _, _, rfl, rfl, _, rfl, ?_⟩
      refine ite2 (fun hd => ?_) (fun _ => ?_)
      · refine ⟨_, rfl, p, _, rfl, gDigits h2, .inl ⟨_, rfl, _, rfl, _, _, rfl, rfl, hm0, ?_⟩⟩
        refine ⟨_, rfl, p, _, rfl, gDigits h2, _, rfl, _, _, rfl, rfl, ⟨hm0, by omega⟩, _, rfl, p, _, rfl, sDigits h2, _, rfl, ?_⟩
        refine hQ _ _ (b2.trans But.put) ⟨l, cs, i, _, f, upd_same, ?_, Int.ediv_nonneg hd0 (by omega), hf0, hf1⟩ (Int.emod_nonneg _ (by omega)) (Int.emod_lt_of_pos _ hm0)
        rw [upd_ne npl]
        exact b2 _ _ npl hl
      · refine ⟨_, rfl, p, _, rfl, gFold h2, _, rfl, p, _, rfl, gCount h2, _, _, rfl, rfl, .inr ⟨by decide, by decide⟩, _, _, rfl, rfl, _, _, rfl, rfl, ?_⟩
        refine ⟨_, rfl, _, _, rfl, rfl, ⟨by decide, by decide, by omega⟩, _, _, rfl, rfl, (by show (0 : Int) < 2305843009213693951; decide), .inl ⟨_, rfl, _, _, rfl, rfl, ⟨by decide, by decide⟩, _, rfl, _, _, rfl, rfl, hm0, ?_⟩⟩
        exact hQ _ _ b2 ⟨l, cs, i, d, f, h2, b2 _ _ npl hl, hd0, hf0, hf1⟩ (Int.emod_nonneg _ (by omega)) (Int.emod_lt_of_pos _ hm0)
end
end KH
set_option Elab.async false
set_option linter.all false
set_option maxRecDepth 100000
set_option maxHeartbeats 4000000
/-! Own exceptions as values: made, asked for their class, their fields read. -/
namespace KX
open PySem PySem.W PySem.Calls PyProof.Rows
section
variable {prog : Program} {w : World} {A : Around} {E : Value → Shared → Prop} {s : Shared} {K : Frag} {x D : Addr} {ox : Obj} {od : Option Obj}
/-- what the class must say -/
structure XCls (K : Frag) (D : Addr) : Prop where
  ga : findIn K (.ref D) "__getattribute__" = some (some (.builtin "BaseException.__getattribute__"))
  gt : findIn K (.ref D) "__getattr__" = some none
  sub : subIn K (.ref D) (.type "BaseException") = some true
  hd : hasDictIn K D = true
  cl : findIn K (.ref D) "__class__" = some (some (.builtin "object.__class__"))
  gs : specialIn K (.builtin "object.__class__") "__get__" = some (some (.builtin "getset_descriptor.__get__"))
  tk : takesIn K (.builtin "object.__class__") = some true
  mr : mroIn K D (.type "object") = some true
theorem fd_data {nm : Str} {a g : Value} (hc : (clsIn K D).isSome = true) (ha : findIn K (.ref D) nm = some (some a)) (hg : specialIn K a "__get__" = some (some g)) (ht : takesIn K a = some true) : findObj K D od nm = some (.bind g a) := by
  obtain ⟨cd, e⟩ := Option.isSome_iff_exists.mp hc
  unfold findObj
  rw [e]
  rw [Option.bind_some, ha]
  rw [Option.bind_some]
  simp [hg, ht]
theorem cls_get {Q : Option Value → Shared → Prop} (T : XCls K D) (X : K.In s.heap) (I : InstAt s.heap x ox D od) (h : Q (some (.ref D)) { s with toks := s.toks + 1 }) : wpAny (model prog w) A (getAttr? (.ref x) "__class__") Q E s := by
  have hf : findObj K D od "__class__" = some (.bind (.builtin "getset_descriptor.__get__") (.builtin "object.__class__")) := fd_data (by obtain ⟨cd, hc, _⟩ := any_some T.hd; rw [hc]; rfl) T.cl T.gs T.tk
  obtain ⟨hp, g, d, t, os⟩ := s
  have t0 := I.type (M := model prog w)
  have t1 := looks_findIn (M := model prog w) X T.ga
  have t2 := looks_findIn (M := model prog w) X T.gt
  have t3 := looks_find (M := model prog w) X I hf
  have sub : Looks (model prog w) hp (isInstance (.ref x) (.type "BaseException")) true := t0.andThen (looks_subIn X T.sub)
  have n2 : (Value.builtin "BaseException.__getattribute__" == Value.builtin "object.__getattribute__") = false := by decide +kernel
  have n1 : (onTheHeap (Value.ref D) && Value.builtin "BaseException.__getattribute__" == Value.builtin "object.__getattribute__") = false := by rw [n2]; rfl
  unfold getAttr? getAttrBy? getAttrBy
  refine wpAny_bind (wpAny_mkText (wpAny_bind (wpAny_attempt (wpAny_holding (wpAny_bind (t0.at (wpAny_bind (t1.at ?_))))))))
  show wpAny _ _ (if (onTheHeap (Value.ref D) && Value.builtin "BaseException.__getattribute__" == Value.builtin "object.__getattribute__") = true then _ else _) _ _ _
  rw [n1, if_neg Bool.false_ne_true]
  unfold getAttrByItsOwn hookBefore
  refine wpAny_bind ?_
  rw [if_pos (show onTheHeap (Value.ref D) = true from rfl)]
  refine t2.at ?_
  refine wpAny_bind (wpAny_attempt (wpAny_holding ?_))
  unfold callGetattribute
  rw [show (false && onTheHeap (Value.builtin "BaseException.__getattribute__")) = false from rfl, if_neg Bool.false_ne_true]
  unfold boundAndCalled
  rw [PySem.F.excAttr_ValueError.ga.bind (.ref x)]
  refine wpAny_bind (wpAny_pure ?_)
  show wpAny _ _ (call (.builtin "BaseException.__getattribute__") [.ref x, .str "__class__" t]) _ _ _
  refine wpAny_call (codeAny_call_builtin PySem.F.excAttr_ValueError.ga.plain PySem.F.entry_bexc_ga ?_)
  refine @check_slot (model prog w) _ _ ⟨hp, g, d, t + 1, os⟩ "BaseException.__getattribute__" "BaseException" "__getattribute__" (.ref x) [.str "__class__" t] [] _ (by decide +kernel) (by decide +kernel) sub (PySem.F.args_bexc_ga (.ref x) (.str "__class__" t)) ?_
  unfold Builtin.«object.__getattribute__»
  refine wpAny_bind (wpAny_of_eq (a := ((Value.ref x : Value), [Value.str "__class__" t])) (by first | rfl | (simp only [slotArgs]; rfl)) ?_)
  refine wpAny_bind (wpAny_pure (wpAny_bind (t0.at (wpAny_bind (t3.at ?_)))))
  show wpAny _ _ (holding [Value.builtin "object.__class__"] (call (.builtin "getset_descriptor.__get__") [.builtin "object.__class__", .ref x, .ref D]) >>= ret) _ _ _
  refine wpAny_bind (wpAny_holding (wpAny_call (class_get (s := ⟨hp, g, d, t + 1, os⟩) (ox := ox) (od := od) X I T.mr ?_)))
  refine wpAny_pure ?_
  show wpAny _ _ (handedOut (.ref D)) _ _ _
  rw [handedOut_of (v := .ref D) rfl]
  first
    | exact wpAny_pure (wpAny_pure h)
    | exact wpAny_pure h
    | exact wpAny_pure (wpAny_bind (wpAny_pure (wpAny_pure h)))
theorem kit_x (T : XCls K D) : KitX K (.ref x) (.ref D) (fun h => InstAt h x ox D od) where
  ty := fun _ _ _ I => I.type
  it := fun _ _ X _ => by
    obtain ⟨cdD, hcD, _⟩ := any_some T.hd
    unfold clsIn at hcD
    split at hcD
    · rename_i c' d' cd' sl' ho
      intro A' Q' E' s' k q
      unfold isType loadHead
      exact wpAny_bind (wpAny_loadPart (k _ _ (X _ _ ho)) (wpAny_pure q))
    · cases hcD
  ne := fun h tp dd its n sl X htp => by
    obtain ⟨cdD, hcD, _⟩ := any_some T.hd
    refine Bool.eq_false_iff.mpr fun q => ?_
    have e : D = tp := Value.ref.inj (beq_iff_eq.mp q)
    subst e
    unfold clsIn at hcD
    split at hcD
    · rename_i c' d' cd' sl' ho
      have z := (X _ _ ho).symm.trans htp
      cases z
    · cases hcD
  ca := fun X I k => cls_get T X I k
end
end KX
namespace L2
open PySem PySem.Spec PyProof.Rows KX
/-- an error of the class at C stands at a, its fields fs (the last one first) -/
def ErrAt (H : Hp) (a C : Addr) (fs : List (Str × V)) : Prop := (H a = some (exo a C none) ∧ fs = []) ∨ ∃ d, H a = some (exo a C (some d)) ∧ H d = some (exd d fs)
theorem ErrAt.mono {H H' : Hp} {a C : Addr} {fs : List (Str × V)} (h : ErrAt H a C fs) (e : Same H H') : ErrAt H' a C fs := by
  rcases h with ⟨h, z⟩ | ⟨d, h1, h2⟩
  · exact .inl ⟨e _ _ h, z⟩
  · exact .inr ⟨d, e _ _ h1, e _ _ h2⟩
section
variable {X : Cx} {pins : List (Addr × Obj)} {σ : St} {H : Hp} {s : Shared} {a C : Addr} {fs : List (Str × V)}
theorem ErrAt.inst (I : Inv X pins σ H s) (h : ErrAt H a C fs) : ∃ ox od, PySem.W.InstAt s.heap a ox C od := by
  rcases h with ⟨h, _⟩ | ⟨d, h1, h2⟩
  · obtain ⟨t, e⟩ := exo_at I.hok h
    exact ⟨_, none, e, rfl, rfl, trivial⟩
  · obtain ⟨t, e⟩ := exo_at I.hok h1
    obtain ⟨mA, hns, _⟩ := exd_at I.hok h2
    obtain ⟨od, ho, _⟩ := lookIn_ns hns
    exact ⟨_, some od, e, rfl, rfl, ho⟩
/-- isinstance(e, c) -/
def rIsX (K : PySem.W.Frag) : List V → Hp → VK → Prop := fun xs H Q => ∃ (a C : Addr) (fs : List (Str × V)) (c : V) (cv : Value) (b : Bool), xs = [.ref a, c] ∧ ErrAt H a C fs ∧ XCls K C ∧ (∀ u, RelV c u → u = cv) ∧ PySem.W.kitOne K (.ref C) cv = some b ∧ Q (.bl b) H
theorem call_isX : CallR X (.builtin "isinstance") (rIsX X.K) := by
  intro pins s σ H xs us Q I r h
  obtain ⟨a, C, fs, c, cv, b, rfl, he, T, hcv, e, q⟩ := h
  obtain ⟨u, v, rfl, ru, rv⟩ := Vals.two r
  obtain rfl : u = Value.ref a := ru
  obtain rfl := hcv _ rv
  obtain ⟨ox, od, J⟩ := he.inst I
  exact PySem.W.kia_one (kit_x T) I.kIn J e (fun z => nomatch z) fun tk => ⟨.bl b, H, I.kept (t' := tk) fun _ _ z => z, rfl, q⟩
/-- e.f -/
def tEFld (K : PySem.W.Frag) (f : Str) (te : TE) : TE := fun σ H Q => te σ H fun x H1 => ∃ (a C : Addr) (fs : List (Str × V)) (v : V), x = .ref a ∧ ErrAt H1 a C fs ∧ XCls K C ∧ PySem.W.findIn K (.ref C) f = some none ∧ fs.lookup f = some v ∧ Q v H1
theorem pe_efld {e : Expr} {f : Str} {te : TE} {pos : Pos} (he : PE X e te) (hb : attributeBase e f X.env (eval e X.env) = eval e X.env := by rfl) : PE X (.Attribute e f pos) (tEFld X.K f te) := by
  refine ⟨fun pins s σ H Q I h => ?_⟩
  refine attr_of hb (thn (he.run pins s σ H _ I h) fun u s1 ⟨x, H1, I1, rx, a, C, fs, v, ex, ea, T, no, hl, q⟩ => ?_)
  subst ex
  obtain rfl : u = Value.ref a := rx
  rcases ea with ⟨h1, z⟩ | ⟨d, h1, h2⟩
  · rw [z] at hl
    cases hl
  · obtain ⟨t, e1⟩ := exo_at I1.hok h1
    obtain ⟨mA, hns, rel⟩ := exd_at I1.hok h2
    obtain ⟨od, ho, hk⟩ := lookIn_ns hns
    obtain ⟨u, hu, ru⟩ := RelO.some_of (v := v) (o := mA f) (by rw [← hl]; exact rel f)
    have J : PySem.W.InstAt s1.heap a ({ cls := .ref C, dict := some d, data := .fields #[.ref t, .none, .none, .none, .bool false, .none] } : Obj) C (some od) := ⟨e1, rfl, rfl, ho⟩
    exact HandSPX.exc_get I1.kIn J T.ga T.gt T.sub (PySem.W.findObj_own T.hd no rfl (by rw [hk, hu])) (handed_of ru) ⟨v, H1, I1.tok _, ru, q⟩
end
section
variable {X : Cx} {e : Expr} {es : List Expr} {ta : TA} {x : Str} {p pos : Pos} {C : Addr}
/-- C(), no __init__ of its own -/
theorem pe_exc0 {bmB : List Value} {B newId initId : String} (F : ExcBaseFacts B newId initId bmB) (q : PySem.W.excIn X.K C bmB newId = true) (gC : X.mg x = some (.ref C)) (kC : PySem.W.keepIn X.K (.ref C) = true) (hg : Gl X x)
    (hdb : (x == ("__debug__" : Str)) = false := by decide) : PE X (.Call (.Name x p) [] [] pos) (fun _ H Q => ∀ a, H a = none → Q (.ref a) (upd H a (exo a C none))) := by
  refine ⟨fun pins s σ H Q I h => ?_⟩
  refine wpAny_Call_Name_kw (ld_glob I hg gC ?_ hdb)
  refine PySem.W.callWith_K0 I.kIn kC ?_
  obtain ⟨bm, N, nm, qn, bs, hdct, sn, sub, ab, col, dd, k0, k1, k2, k3, k5, mN, hC, hN, hni, T⟩ := exc_obj I.kIn q
  obtain ⟨hp, g, dr, tk, os⟩ := s
  refine wpAny_call_exc_subT F T hC hN hni (fun h' a hm => ?_) (by show 0 ≤ sizeLine; omega)
  have hn : H a = none := I.hok.gone hm.new
  obtain ⟨t, ht, _, _⟩ := hm.there
  exact ⟨.ref a, upd H a (exo a C none), I.laidN hm.keeps hm.new hn (exo_ok ht), rfl, h a hn⟩
/-- C(e, ..) as a value, C's own __init__ keeping sp -/
def tMkV (C : Addr) (sp : Sp) (ta : TA) : TE := fun σ H Q => ta σ H fun vs H1 => vs.length ≤ 1000 ∧ ∀ a, H1 a = none → sp (.ref a :: vs) (upd H1 a (exo a C none)) (fun v H2 => v = .non ∧ Q (.ref a) H2) (fun _ _ _ => False)
theorem pe_oexV {CX : CXT} {fI : Addr} {k : Nat} {fd : FuncData} {ps : List Str} {sp : Sp} (T : OexC X.K C) (iC : PySem.W.findIn X.K (.ref C) "__init__" = some (some (.ref fI))) (tI : PySem.W.typeIn X.K (.ref fI) = some (.type "function"))
    (G : FnOk X.prog X.w X.K X.mg X.base CX k fI fd ps sp) (hr : Room (k + 1) X.A) (hb : Binds X.K fd ps []) (hx : Passes CX X (fun _ _ _ => False)) (hg : Gl X x) (hm : X.mg x = some (.ref C)) (ha : PA X (e :: es) ta)
    (hdb : (x == ("__debug__" : Str)) = false := by decide) (he : starEach (e :: es) X.env = (false, eval e X.env) :: starEach es X.env := by rfl) (hpl : (backTo pos (starEach es X.env)).any (·.1) = false := by rfl) :
    PE X (.Call (.Name x p) (e :: es) [] pos) (tMkV C sp ta) := by
  refine ⟨fun pins s σ H Q I h => ?_⟩
  obtain ⟨nm, q, N, bs, bm, sn, sub, ab, col, dd, k0, k1, k2, k3, k5, hC, hbm⟩ := T.cls
  refine wpAny_Call_Name_kw (ld_glob I hg hm ?_ hdb)
  refine PySem.W.callWith_K (h₀ := X.base) I.ok.mod.kin T.kC (thn (ha.run pos pins s σ H _ I h) fun us s1 hh => ?_) he hpl
  obtain ⟨vs, H1, I1, r1, hz, q1⟩ := hh
  refine ⟨I1.kIn, ?_⟩
  show wpAny _ _ (call (.ref C) us) _ _ _
  obtain ⟨hp, g, dr, tk, os⟩ := s1
  have up : hp.objs.size ≤ hp.objs.size + 1 := Nat.le_succ _
  have hq := q1 (hp.objs.size + 1) (I1.hok.fresh up)
  have hget : ((hp.push (PySem.W.kdv_tup us)).push (PySem.HandSPX.excO C hp.objs.size)).get? (hp.objs.size + 1) = some (PySem.HandSPX.excO C hp.objs.size) := by heap_get
  have I2 : Inv X pins σ (upd H1 (hp.objs.size + 1) (exo (hp.objs.size + 1) C none)) ⟨(hp.push (PySem.W.kdv_tup us)).push (PySem.HandSPX.excO C hp.objs.size), g, dr, tk, os⟩ :=
    I1.laid (t' := tk) (fun b o z => Heap.get?_push_of_some _ (Heap.get?_push_of_some _ z)) up (exo_ok hget)
  have r2 : Vals (V.ref (hp.objs.size + 1) :: vs) ((Value.ref (hp.objs.size + 1) :: us) ++ []) := by rw [List.append_nil]; exact .cons rfl r1
  have hl : (Value.ref (hp.objs.size + 1) :: us ++ []).length = ps.length := (Paired.length r2).symm.trans (G.len _ _ _ _ hq)
  have hus : us.length ≤ sizeLine := by
    rw [← Paired.length r1, sizeLine_eq]
    omega
  refine wpAny_call (PySem.HandSPX.call_own F.excBase_ValueError (fun Y => PySem.HandSPX.refsVE_contains Y bm hbm) (I1.kIn _ _ hC) (PySem.W.looks_findIn I1.kIn iC) (fun self => PySem.W.bind_fn I1.kIn self tI) hus ?_)
  refine codeAny_mono (G.run _ X.stack _ _ ⟨Value.ref (hp.objs.size + 1) :: us, []⟩ ((Value.ref (hp.objs.size + 1) :: us) ++ []) _ _ (fun _ _ _ => False) (hr.make C us []) (I2.env0.make C us []) (hb _ (Value.ref (hp.objs.size + 1) :: us) I2.kIn hl) r2 hq) fun r s' hq' => ?_
  cases r with
  | error er => exact hx pins σ _ _ er s' I2 hq'
  | ok fl =>
    cases fl with
    | next => exact False.elim hq'
    | brk => exact False.elim hq'
    | cont => exact False.elim hq'
    | ret u =>
      obtain ⟨v, H2, os2, bare2, un2, hok2, rv, ev, q2⟩ := hq'
      subst ev
      refine ⟨rv, .ref (hp.objs.size + 1), H2, ?_, rfl, q2⟩
      -- from the heap ahead of the two new objects
      have J := I2.call' (ch := []) os2 un2 hok2 bare2 (fun b z => absurd z (by simp))
      exact J
end
end L2
set_option Elab.async false
set_option linter.all false
set_option maxRecDepth 100000
set_option maxHeartbeats 4000000
/-! Defs that are called where no repr is under way (their promise may lean on it), and repr of data. -/
namespace L2
open PySem PySem.Spec PyProof.Rows
/-- no repr is under way -/
def Free (A : Around) : Prop := A.guards = some []
structure FnG (P : Program) (w : World) (K : PySem.W.Frag) (mg : Str → Option Value) (base : Heap) (CX : CXT) (k : Nat) (f : Addr) (fd : FuncData) (ps : List Str) (sp : Sp) : Prop where
  len : ∀ vs H Q E, sp vs H Q E → vs.length = ps.length
  run : ∀ (A : Around) (outer : List Env) (s : Shared) (H : Hp) (args : Args) (us : List Value) (vs : List V) (Q : VK) (E : XK), Free A → Room k A → Env0 P w K mg base A outer s H → BindsTo s fd args (ps.zip us) → Vals vs us → sp vs H Q E →
    codeAny (model P w) A (.call (.ref f) args) (CR CX outer P w H s Q E) s
section
variable {P : Program} {w : World} {K : PySem.W.Frag} {mg : Str → Option Value} {base : Heap}
theorem free_deeper {A : Around} (h : Free A) (env : Env) : Free (A.deeper env) := h
theorem fn_ofG {CX : CXT} {k : Nat} {f : Addr} {name qual : Str} {params : Arguments} {body : List Stmt} {scope : Scope} {dV kV doc pm cdv ct oc : Value} {an od : Option Addr} {osl : Array (Option Value)} {N ps : List Str} {sp : Sp}
    (lk : K.lookup f = some ⟨oc, od, .func (PySem.W.fnOf name qual params body scope dV kV doc pm an cdv ct), osl⟩) (hcd : PySem.W.codeIn K cdv qual = true) (S : FnScope N ps scope) (len : ∀ vs H Q E, sp vs H Q E → vs.length = ps.length)
    (hbody : ∀ (A : Around) (outer : List Env) (s : Shared) (H : Hp) (vs : List V) (Q : VK) (E : XK), Free A → Room k (A.deeper (envOfC qual scope s.heap.objs.size f cdv)) → sp vs H Q E →
      ∃ t, PSs (cxOf CX P w K mg base N qual scope f cdv A outer s H E) body t ∧ t { nx := fun _ H' => Q .non H', rt := Q } (start N vs) H) :
    FnG P w K mg base CX (k + 1) f (PySem.W.fnOf name qual params body scope dV kV doc pm an cdv ct) ps sp where
  len := len
  run := fun A outer s H args us vs Q E hfree hr e0 hb r hsp => by
    have hl := len _ _ _ _ hsp
    have old : ∀ b o, base.get? b = some o → s.heap.get? b = some o := fun b o e => (e0.bs b o e).1
    have KX := e0.mod.kin.keeps old
    have hkind : ∀ y ∈ ps.zip us, scope.names.lookup y.1 = some .local ∨ (scope.names.lookup y.1 = some .cell ∧ ((cellsFrom (s.heap.objs.size + 1) scope.names []).lookup y.1).isSome = true) := by
      rintro ⟨n, v⟩ hy
      rcases S.par n (List.of_mem_zip hy).1 with z | z
      · exact .inl z
      · exact .inr ⟨z, PySem.W.cellsFrom_some _ _ _ (.inl z)⟩
    refine codeAny_call_function hr.depth (KX _ _ lk) rfl S.co S.gen rfl (PySem.W.codeRec_of KX hcd) (hb _ _ _ _ ?_)
    refine wpAny_newFunctionEnv_cells S.kind hkind fun env he s1 x => ?_
    subst he
    refine ⟨(e0.mod.nolimit.keeps old).keeps x.toInCall.keep, codeAny_func ?_⟩
    obtain ⟨t, ht, hq⟩ := hbody A outer s H vs Q E hfree (hr.deeper _) hsp
    have I := inv_start (CX := CX) (E := E) S hr.hd e0 hl r x
    refine wpAny_mono (ht.run [] s1 (start N vs) H _ I hq) ?_ fun e s' hs => hs
    intro fl s' hs
    cases fl with
    | ret u =>
      obtain ⟨v, σ', H', J, rv, q⟩ := hs
      exact ⟨v, H', J.os, J.bare, J.base, J.hok, rv, q⟩
    | next =>
      obtain ⟨σ', H', J, q⟩ := hs
      exact ⟨V.non, H', J.os, J.bare, J.base, J.hok, rfl, q⟩
    | brk => exact hs.elim fun _ z => z.elim fun _ z => z.2.elim
    | cont => exact hs.elim fun _ z => z.elim fun _ z => z.2.elim
theorem Fun.okG {x qual : Str} {st : Stmt} {f : Addr} {fd : FuncData} {N ps : List Str} {k : Nat} {sp : Sp} {CX : CXT} (F : Fun K x qual st f fd) (S : FnScope N ps (defScope st)) (len : ∀ vs H Q E, sp vs H Q E → vs.length = ps.length)
    (hbody : ∀ (cdv : Value) (A : Around) (outer : List Env) (s : Shared) (H : Hp) (vs : List V) (Q : VK) (E : XK), Free A → Room k (A.deeper (envOfC qual (defScope st) s.heap.objs.size f cdv)) → sp vs H Q E →
      ∃ t, PSs (cxOf CX P w K mg base N qual (defScope st) f cdv A outer s H E) (defBody st) t ∧ t { nx := fun _ H' => Q .non H', rt := Q } (start N vs) H) : FnG P w K mg base CX (k + 1) f fd ps sp := by
  obtain ⟨oc, od, kV, doc, pm, an, cdv, ct, osl, rfl, lk, hcd⟩ := F.ex
  exact fn_ofG lk hcd S len fun A outer s H vs Q E => hbody cdv A outer s H vs Q E
/-- the law is called: nothing else is under way -/
theorem law_G {mb : Str → Option Value} {CX : CXT} {k : Nat} {fa a : Addr} {fd : FuncData} {x : Str} {sp : Sp} {s₁ : Shared} {vs : List Value} {ns : List Int}
    (KX : K.In s₁.heap) (hns : s₁.heap.Ns mainGlobals mg) (hb : s₁.heap.Ns builtinsNs mb) (hbb : ∀ x : Str, x ≠ "__name__" → mb x = bootBuiltins x) (hlim : s₁.heap.NoLimit) (hg : s₁.gens = #[])
    (ha : s₁.heap.get? a = some { cls := .type "list", data := .seq vs.toArray }) (hi : IntsAre vs ns) (hl : ns.length ≤ sizeLine) (hr : Room k callerA)
    (F : ∀ base : Heap, K.In base → base.Ns mainGlobals mg → FnG P w K mg base CX k fa fd [x] sp) (hbind : ∀ (s : Shared) (u : Value), BindsTo s fd ⟨[u], []⟩ [(x, u)])
    (hsp : ∀ H : Hp, Only H → SqL K H a (ns.map V.int) → sp [.ref a] H (fun v _ => v = .bl true) fun _ _ _ => False)
    (hCX : ∀ H e s', CX [] H s₁ (fun _ _ _ => False) e s' → False) :
    codeAny (model P w) callerA (.call (.ref fa) ⟨[.ref a], []⟩) (fun r s' => r = .ok (.ret (.bool true)) ∧ OldK s₁.heap s'.heap ∧ s'.os = s₁.os ∧ AllBare s'.gens) s₁ := by
  have rv := vals_ints hi
  have lenV := hi.length
  have noFs : ∀ b : Addr, b ∉ frs ([] : List Env) := fun b z => absurd (show b ∈ ([] : List Addr) from z) (by simp)
  have core : ∀ H : Hp, Only H → SqL K H a (ns.map V.int) → HOk P w H s₁.heap → (∀ b, H b ≠ none → b = a) → (H a ≠ none → K.lookup a = none) →
      codeAny (model P w) callerA (.call (.ref fa) ⟨[.ref a], []⟩) (fun r s' => r = .ok (.ret (.bool true)) ∧ OldK s₁.heap s'.heap ∧ s'.os = s₁.os ∧ AllBare s'.gens) s₁ := by
    intro H hO hS hok hA hK
    have isA : ∀ {b : Addr} {u : HO}, H b = some u → b = a := fun z => hA _ (by rw [z]; simp)
    have noD : ∀ {b : Addr} {o : Obj} {es : Array DictEntry} {ep : Nat}, s₁.heap.get? b = some o → o.data = .dict es ep → H b = none := by
      intro b o es ep e d
      cases z : H b with
      | none => rfl
      | some u =>
        have y := isA z
        subst y
        rw [ha] at e
        cases e
        exact nomatch (show Data.seq vs.toArray _ = Data.dict es ep from d)
    have nsK : ∀ {b : Addr} {m : Str → Option Value}, s₁.heap.Ns b m → (hidT s₁.heap H).Ns b m := by
      rintro b m ⟨o, es, ep, e, d, z⟩
      exact ⟨o, es, ep, hidT_get e (noD e d), d, z⟩
    have hKb : K.In (hidT s₁.heap H) := by
      intro b o e
      refine hidT_get (KX b o e) ?_
      cases z : H b with
      | none => rfl
      | some u =>
        have y := isA z
        subst y
        rw [hK (by rw [z]; simp)] at e
        cases e
    have hM : Mod K mg (hidT s₁.heap H) := ⟨hKb, nsK hns, ⟨mb, nsK hb, hbb⟩, by
      obtain ⟨mc, h1, h2⟩ := hlim
      exact ⟨mc, nsK h1, h2⟩⟩
    have e0 : Env0 P w K mg (hidT s₁.heap H) callerA [] s₁ H := ⟨rfl, hM, fun b o e => of_hidT e, Nat.le_of_eq (hidT_size _ _), trivial, fun b hb => absurd hb (noFs b), hok, .of_eq hg⟩
    refine codeAny_mono ((F _ hKb (nsK hns)).run callerA [] s₁ H ⟨[.ref a], []⟩ [.ref a] [.ref a] _ _ rfl hr e0 (hbind s₁ (.ref a)) (.cons rfl .nil) (hsp H hO hS)) ?_
    intro r s' h
    cases r with
    | error e => exact (hCX H e s' h).elim
    | ok fl =>
      cases fl with
      | next => exact False.elim h
      | brk => exact False.elim h
      | cont => exact False.elim h
      | ret u =>
        obtain ⟨v, H', os, bare, un, hok', r', q⟩ := h
        obtain rfl : v = V.bl true := q
        obtain rfl : u = Value.bool true := r'
        refine ⟨rfl, OldK.of_keep ?_, os, bare⟩
        intro b o e
        cases z : H b with
        | none => exact un.keep b o e z (noFs b) (by simp)
        | some u =>
          rcases hO b with y | ⟨ob, xs, y⟩
          · rw [z] at y
            cases y
          · have y2 := un.frzs b ob _ y
            have e1 := (hok b _ y).1
            have e2 := (hok' b _ y2).1
            rw [e] at e1
            cases e1
            exact e2
  cases hk : K.lookup a with
  | some o =>
    have e := KX a o hk
    rw [ha] at e
    cases e
    exact core (fun _ => none) (fun _ => .inl rfl) (.inr ⟨_, vs.toArray, _, hk, rfl, rfl, rfl, by rw [List.size_toArray, lenV]; exact hl, by simpa using rv⟩) (fun b u z => nomatch (show (none : Option HO) = some u from z)) (fun b z => absurd rfl z) fun z => absurd rfl z
  | none =>
    let sc : HO := .frz { cls := .type "list", data := .seq vs.toArray } (.lst (ns.map V.int))
    have hs : ∀ b, b = a → (fun b => if b = a then some sc else none : Hp) b = some sc := fun b hb => if_pos hb
    have hn : ∀ b, b ≠ a → (fun b => if b = a then some sc else none : Hp) b = none := fun b hb => if_neg hb
    refine core (fun b => if b = a then some sc else none) ?_ (.inl (.inr ⟨_, hs a rfl⟩)) ?_ ?_ fun _ => hk
    · intro b
      by_cases hb : b = a
      · exact .inr ⟨_, _, hs b hb⟩
      · exact .inl (hn b hb)
    · intro b u z
      by_cases hb : b = a
      · have z' := (hs b hb).symm.trans z
        cases z'
        subst hb
        exact ⟨ha, by rw [List.length_map]; exact hl, vs, _, rv, ha⟩
      · have z' := (hn b hb).symm.trans z
        cases z'
    · intro b z
      by_cases hb : b = a
      · exact hb
      · exact absurd (hn b hb) z
end
theorem walk_G {l : PySem.W.OpenLaw} {n k : Nat} {q : Program} {loose : List Str} {XP : (Str → Option Value) → Heap → Prop} {YP : World → Heap → Prop} {d : DefRec} {K : Params → PySem.W.Frag} {CX : CXT} {sp : PySem.W.Frag → Sp} {x : Str}
    (hn : l.most = some n) (hn2 : n ≤ sizeLine) (hdf : d.params.defaults = []) (hr : Room k callerA) (hY : ∀ (w : World) (h : Heap), YP w h → (K w.params).In h)
    (F : ∀ (w : World) (mg : Str → Option Value) (fa : Addr) (h : Heap), (K w.params).In h → h.Ns mainGlobals mg → mg d.name = some (.ref fa) →
      ∃ fd : FuncData, (∀ (s : Shared) (u : Value), BindsTo s fd ⟨[u], []⟩ [(x, u)]) ∧ ∀ base : Heap, (K w.params).In base → base.Ns mainGlobals mg → FnG l.prog w (K w.params) mg base CX k fa fd [x] (sp (K w.params)))
    (hsp : ∀ (K : PySem.W.Frag) (H : Hp) (a : Addr) (ns : List Int), ns.length ≤ n → Only H → SqL K H a (ns.map V.int) → sp K [.ref a] H (fun v _ => v = .bl true) fun _ _ _ => False)
    (hCX : ∀ (H : Hp) (s : Shared) (e : Value) (s' : Shared), CX [] H s (fun _ _ _ => False) e s' → False) :
    PySem.W.WalkO q loose XP YP l.row.toRowW d [] (fun f vs => PySem.call f vs) := by
  refine Att.attach_call hn hdf fun w s₀ s₁ mg mb fa o pm cd doc a vs ns G Y ho hd hcd hmg hobj hints hlen hg => ?_
  obtain ⟨fd, hb, hF⟩ := F w mg fa _ (hY w _ Y) G.T.g hmg
  exact law_G (hY w _ Y) G.T.g G.T.b G.T.builtins G.T.nolimit hg hobj hints (Nat.le_trans hlen hn2) hr hF hb (fun H hO hS => hsp _ H a ns hlen hO hS) fun H e s' => hCX H s₁ e s'
section
variable {X : Cx}
/-- repr of data that stands at an address -/
theorem call_reprD (hg : Free X.A) (hu : X.A.units + 64 < cLine) : CallR X (.builtin "repr") (fun xs H Q => ∃ (a : Addr) (d : PyData), xs = [.ref a] ∧ Dp X.K H (.ref a) d ∧ d.showable = true ∧ d.hasDict = false ∧ d.depth ≤ 60 ∧ d.shown.length ≤ sizeLine ∧ Q (.str d.shown) H) := by
  intro pins s σ H xs us Q I r h
  obtain ⟨a, d, rfl, hd, h1, h2, h3, h4, q⟩ := h
  obtain ⟨u, rfl, ru⟩ := Vals.one r
  obtain ⟨as, hr⟩ := Dp.reads I d _ u hd ru
  obtain rfl : u = Value.ref a := ru
  exact repr_of_reads' hr h1 (fun z => by rw [h2] at z; cases z) hg (by omega) (fun _ _ e => e) (fun h' u tk k => ⟨.str d.shown, H, I.kept (t' := tk) k, ⟨u, rfl⟩, q⟩) h4
end
end L2
set_option Elab.async false
set_option linter.all false
set_option maxRecDepth 100000
set_option maxHeartbeats 4000000
/-! Values that are drawn, errors that are made. -/
namespace KH
open PySem L2
/-! ### data and heaps -/
theorem same_new {H : Hp} {p : Addr} {o : HO} (h : H p = none) : Same H (upd H p o) := fun c u e => by rw [upd_ne (ne_of_none e h)]; exact e
theorem rd_but {H H' : Hp} {p a : Addr} {kv : List (Key × V)} {u : HO} (hp : H p = some (.dK kv)) (e : But p H H') (hu : u ≠ .dK kv) (h : Rd H a u) : Rd H' a u := by
  have np : ∀ {v : HO}, H a = some v → v ≠ .dK kv → a ≠ p := fun hv hn z => by
    rw [z, hp] at hv
    exact hn (Option.some.inj hv).symm
  rcases h with h | ⟨o, h⟩
  · exact .inl (e _ _ (np h hu) h)
  · exact .inr ⟨o, e _ _ (np h (by intro z; cases z)) h⟩
section
variable {K : PySem.W.Frag} {H H' : Hp}
theorem sqL_but {p a : Addr} {kv : List (Key × V)} {xs : List V} (hp : H p = some (.dK kv)) (e : But p H H') (h : SqL K H a xs) : SqL K H' a xs := by
  rcases h with h | h
  · exact .inl (rd_but hp e (by intro z; cases z) h)
  · exact .inr h
theorem sqT_but {p a : Addr} {kv : List (Key × V)} {xs : List V} (hp : H p = some (.dK kv)) (e : But p H H') (h : SqT K H a xs) : SqT K H' a xs := by
  rcases h with h | h
  · exact .inl (rd_but hp e (by intro z; cases z) h)
  · exact .inr h
theorem sqL_same {a : Addr} {xs : List V} (e : Same H H') (h : SqL K H a xs) : SqL K H' a xs := Evl.ex_l e h
theorem sqT_same {a : Addr} {xs : List V} (e : Same H H') (h : SqT K H a xs) : SqT K H' a xs := Evl.ex_t e h
mutual
theorem dp_by (hl : ∀ a xs, SqL K H a xs → SqL K H' a xs) (ht : ∀ a xs, SqT K H a xs → SqT K H' a xs) : ∀ (d : PyData) (v : V), Dp K H v d → Dp K H' v d
  | .none, _, h => by cases h; exact .non
  | .bool b, _, h => by cases h; exact .bl b
  | .int i, _, h => by cases h; exact .int i
  | .str x, _, h => by cases h; exact .str x
  | .list ds, _, h => by
    cases h with
    | lst hs ha => exact .lst (hl _ _ hs) (dp_byAll hl ht ds _ ha)
  | .tuple ds, _, h => by
    cases h with
    | tup hs ha => exact .tup (ht _ _ hs) (dp_byAll hl ht ds _ ha)
  | .dict _, _, h => by cases h
theorem dp_byAll (hl : ∀ a xs, SqL K H a xs → SqL K H' a xs) (ht : ∀ a xs, SqT K H a xs → SqT K H' a xs) : ∀ (ds : List PyData) (vs : List V), DpAll K H vs ds → DpAll K H' vs ds
  | [], _, h => by cases h; exact .nil
  | d :: ds, _, h => by
    cases h with
    | cons h1 h2 => exact .cons (dp_by hl ht d _ h1) (dp_byAll hl ht ds _ h2)
end
theorem dp_same {v : V} {d : PyData} (e : Same H H') (h : Dp K H v d) : Dp K H' v d := dp_by (fun _ _ => sqL_same e) (fun _ _ => sqT_same e) d v h
theorem dp_but {p : Addr} {kv : List (Key × V)} {v : V} {d : PyData} (hp : H p = some (.dK kv)) (e : But p H H') (h : Dp K H v d) : Dp K H' v d := dp_by (fun _ _ => sqL_but hp e) (fun _ _ => sqT_but hp e) d v h
end
/-! ### the menu of values -/
def menu : List PyData := [.str "", .str "a", .int 0, .int (-1), .bool true, .none, .tuple [], .tuple [.str "a", .int 1], .list [.int 1, .str "b"], .list [], .int (10 ^ 40), .tuple [.tuple [.str "x", .int 2], .none]]
/-- data of the menu stands at v -/
def Item (K : PySem.W.Frag) (H : Hp) (v : V) : Prop := ∃ d, d ∈ menu ∧ Dp K H v d
/-- what stands of the top's names -/
structure TxtV (K : PySem.W.Frag) (mg : Str → Option Value) (fDraw fPick : Addr) : Prop where
  p : TxtP K mg
  draw : mg "_law_draw" = some (.ref fDraw)
  kDraw : PySem.W.keepIn K (.ref fDraw) = true
  pick : mg "_law_pick" = some (.ref fPick)
  kPick : PySem.W.keepIn K (.ref fPick) = true
def spPick (K : PySem.W.Frag) : Sp := fun vs H Q _ => ∃ (p a : Addr) (k : Nat) (xs : List V), vs = [.ref p, .ref a] ∧ Pen H p k ∧ k < 1000000 ∧ SqL K H a xs ∧ 0 < xs.length ∧ xs.length < 1000000000 ∧
  ∀ (H' : Hp) (x : V), But p H H' → Pen H' p (k + 1) → x ∈ xs → Q x H'
def spValue (K : PySem.W.Frag) : Sp := fun vs H Q _ => ∃ (p : Addr) (k : Nat), vs = [.ref p] ∧ Pen H p k ∧ k < 1000000 ∧
  ∀ (H' : Hp) (x : V), But p H H' → Pen H' p (k + 1) → Item K H' x → Q x H'
section
variable {P : Program} {w : World} {K : PySem.W.Frag} {mg : Str → Option Value} {base : Heap} {fDraw fPick : Addr} {fdD fdP : FuncData}
theorem scPick : FnScope ["pen", "some"] ["pen", "some"] (defScope sPick) := ⟨rfl, rfl, rfl, by decide +kernel, rfl, by decide +kernel, by decide +kernel⟩
theorem ok_pick {f : Addr} {fd : FuncData} (F : Fun K "_law_pick" "_law_pick" sPick f fd) (T : TxtV K mg fDraw fPick) (G : FnOk P w K mg base CX0 1 fDraw fdD ["pen", "many"] spDraw) (b : Binds K fdD ["pen", "many"] []) : FnOk P w K mg base CX0 2 f fd ["pen", "some"] (spPick K) := by
  refine F.ok scPick (fun vs H Q E h => ?_) (fun cdv A outer s H vs Q E hr h => ?_)
  · obtain ⟨p, a, k, xs, rfl, _⟩ := h
    rfl
  · obtain ⟨p, a, k, xs, rfl, hP, hk, hS, h0, h1, hQ⟩ := h
    refine ⟨_, pss_one (ps_ret (pe_ix ix_list (pv 1) (pe_call G hr (by rfl) T.draw T.kDraw b .nil pass0 (pa_cons (pv 0) (pa_cons (pe_callB call_len_seq (by rfl) T.p.len (by decide +kernel) (pa_cons (pv 1) pa_nil)) pa_nil))) (fun _ _ => rfl))), ?_⟩
    refine ⟨_, rfl, _, rfl, _, rfl, a, xs, rfl, .inl hS, p, k, xs.length, rfl, hP, hk, by omega, by omega, fun H' r e hP' r0 r1 => ?_⟩
    obtain ⟨l, cs, i, d, f, hp, _⟩ := hP
    have hlt : r.toNat < xs.length := by omega
    refine ⟨a, xs, r, xs[r.toNat], rfl, rfl, sqL_but hp e hS, at_of (j := r.toNat) (by omega) (List.getElem?_eq_getElem hlt), ?_⟩
    exact hQ _ _ e hP' (List.getElem_mem hlt)
theorem scValue : FnScope ["pen"] ["pen"] (defScope sValue) := ⟨rfl, rfl, rfl, by decide +kernel, rfl, by decide +kernel, by decide +kernel⟩
theorem ok_value {f : Addr} {fd : FuncData} (F : Fun K "_law_value" "_law_value" sValue f fd) (T : TxtV K mg fDraw fPick) (G : FnOk P w K mg base CX0 2 fPick fdP ["pen", "some"] (spPick K)) (b : Binds K fdP ["pen", "some"] []) : FnOk P w K mg base CX0 3 f fd ["pen"] (spValue K) := by
  refine F.ok scValue (fun vs H Q E h => ?_) (fun cdv A outer s H vs Q E hr h => ?_)
  · obtain ⟨p, k, rfl, _⟩ := h
    rfl
  · obtain ⟨p, k, rfl, hP, hk, hQ⟩ := h
    refine ⟨_, pss_one (ps_ret (pe_call G hr (by rfl) T.pick T.kPick b .nil pass0 (pa_cons (pv 0) (pa_cons (pe_lst (pa_cons pe_str (pa_cons pe_str (pa_cons pe_int (pa_cons (pe_un un_neg pe_int) (pa_cons pe_bl (pa_cons pe_non
      (pa_cons (pe_tup pa_nil) (pa_cons (pe_tup (pa_cons pe_str (pa_cons pe_int pa_nil))) (pa_cons (pe_lst (pa_cons pe_int (pa_cons pe_str pa_nil))) (pa_cons (pe_lst pa_nil) (pa_cons (pe_op op_pow pe_int pe_int)
      (pa_cons (pe_tup (pa_cons (pe_tup (pa_cons pe_str (pa_cons pe_int pa_nil))) (pa_cons pe_non pa_nil))) pa_nil))))))))))))) pa_nil)))), ?_⟩
    refine ⟨_, rfl, _, rfl, by decide, fun t0 n0 => ⟨by decide, fun t1 n1 => ⟨by decide, fun l1 n2 => ⟨by decide, fun l2 n3 => ⟨_, _, rfl, rfl, ⟨by decide, by decide, by decide⟩, by decide, fun t2 n4 => ⟨by show 2 ≤ sizeLine; decide, fun t3 n5 => ⟨by show 12 ≤ sizeLine; decide, fun L n6 => ?_⟩⟩⟩⟩⟩⟩⟩
    have s0 := same_new (o := .tup []) n0
    have s1 := same_new (o := .tup [.str "a", .int 1]) n1
    have s2 := same_new (o := .lst [.int 1, .str "b"]) n2
    have s3 := same_new (o := .lst []) n3
    have s4 := same_new (o := .tup [.str "x", .int 2]) n4
    have s5 := same_new (o := .tup [.ref t2, .non]) n5
    have s6 := same_new (o := .lst ([.str "", .str "a", .int 0, .int (-1), .bl true, .non, .ref t0, .ref t1, .ref l1, .ref l2, .int (10 ^ (40 : Int).toNat), .ref t3] : List V)) n6
    have z4 := s5.trans s6
    have z3 := s4.trans z4
    have z2 := s3.trans z3
    have z1 := s2.trans z2
    have z0 := s1.trans z1
    have hP6 := (hP.mono s0).mono z0
    refine ⟨p, L, k, _, rfl, hP6, hk, .inl (.inl upd_same), (by show 0 < 12; decide), (by show 12 < 1000000000; decide), fun H' x e hP' hx => hQ _ _ ?_ hP' ?_⟩
    · exact (But.of (s0.trans z0)).trans e
    · obtain ⟨l, cs, i, d, f, hp, _⟩ := hP6
      have a0 : SqT K _ t0 [] := .inl (.inl (z0 _ _ upd_same))
      have a1 : SqT K _ t1 _ := .inl (.inl (z1 _ _ upd_same))
      have a2 : SqL K _ l1 _ := .inl (.inl (z2 _ _ upd_same))
      have a3 : SqL K _ l2 _ := .inl (.inl (z3 _ _ upd_same))
      have a4 : SqT K _ t2 _ := .inl (.inl (z4 _ _ upd_same))
      have a5 : SqT K _ t3 _ := .inl (.inl (s6 _ _ upd_same))
      have go : ∀ {v : V} {d : PyData}, d ∈ menu → Dp K _ v d → Item K H' v := fun hd hv => ⟨_, hd, dp_but hp e hv⟩
      simp only [List.mem_cons, List.not_mem_nil, or_false] at hx
      rcases hx with rfl | rfl | rfl | rfl | rfl | rfl | rfl | rfl | rfl | rfl | rfl | rfl
      · exact go (by simp [menu]) (.str "")
      · exact go (by simp [menu]) (.str "a")
      · exact go (by simp [menu]) (.int 0)
      · exact go (by simp [menu]) (.int (-1))
      · exact go (by simp [menu]) (.bl true)
      · exact go (by simp [menu]) .non
      · exact go (by simp [menu]) (.tup a0 .nil)
      · exact go (d := .tuple [.str "a", .int 1]) (by simp [menu]) (.tup a1 (.cons (.str _) (.cons (.int _) .nil)))
      · exact go (d := .list [.int 1, .str "b"]) (by simp [menu]) (.lst a2 (.cons (.int _) (.cons (.str _) .nil)))
      · exact go (d := .list []) (by simp [menu]) (.lst a3 .nil)
      · exact go (d := .int (10 ^ 40)) (by simp [menu]) (.int (10 ^ 40))
      · exact go (d := .tuple [.tuple [.str "x", .int 2], .none]) (by simp [menu]) (.tup a5 (.cons (.tup a4 (.cons (.str _) (.cons (.int _) .nil))) (.cons .non .nil)))
end
end KH
set_option Elab.async false
set_option linter.all false
set_option maxRecDepth 100000
set_option maxHeartbeats 4000000
/-! Own errors: what __init__ leaves, a row of an error and its fields' names. -/
namespace KH
open PySem L2 KX
theorem pe_imp {X : Cx} {e : Expr} {t t' : TE} (h : PE X e t) (k : ∀ σ H Q, t' σ H Q → t σ H Q) : PE X e t' := ⟨fun pins s σ H Q I z => h.run pins s σ H Q I (k σ H Q z)⟩
/-- what __init__ promises: the fields fl in their order -/
def spIni (C : Addr) (fl : List Str) : Sp := fun vs H Q _ => ∃ (a : Addr) (ys : List V), vs = .ref a :: ys ∧ ys.length = fl.length ∧ H a = some (exo a C none) ∧
  ∀ (d : Addr) (H' : Hp), H d = none → H' a = some (exo a C (some d)) → H' d = some (exd d (fl.zip ys).reverse) → (∀ b o, b ≠ a → H b = some o → H' b = some o) → Q .non H'
section
variable {K : PySem.W.Frag} {C : Addr} {f1 f2 f3 f4 : Str} {vs : List V} {H : Hp} {Q : VK} {E : XK} {N : List Str}
theorem four {α : Type} {l : List α} (h : l.length = 4) : ∃ a b c d, l = [a, b, c, d] := match l, h with | [a, b, c, d], _ => ⟨a, b, c, d, rfl⟩
theorem three {α : Type} {l : List α} (h : l.length = 3) : ∃ a b c, l = [a, b, c] := match l, h with | [a, b, c], _ => ⟨a, b, c, rfl⟩
theorem two {α : Type} {l : List α} (h : l.length = 2) : ∃ a b, l = [a, b] := match l, h with | [a, b], _ => ⟨a, b, rfl⟩
theorem one {α : Type} {l : List α} (h : l.length = 1) : ∃ a, l = [a] := match l, h with | [a], _ => ⟨a, rfl⟩
theorem ini_len {fl : List Str} (h : spIni C fl vs H Q E) : vs.length = (("self" : Str) :: fl).length := by
  obtain ⟨a, ys, rfl, hl, _⟩ := h
  simp [hl]
theorem first_keep {a d : Addr} {o u : HO} (nd : H d = none) : ∀ b v, b ≠ a → H b = some v → (upd (upd H d o) a u) b = some v := fun b v hb e => by rw [upd_ne hb, upd_ne (ne_of_none e nd)]; exact e
theorem next_keep {H1 : Hp} {a d : Addr} {o : HO} (nd : H d = none) (k : ∀ b v, b ≠ a → H b = some v → H1 b = some v) : ∀ b v, b ≠ a → H b = some v → (upd H1 d o) b = some v := fun b v hb e => by rw [upd_ne (ne_of_none e nd)]; exact k b v hb e
theorem ini1 (T : OexC K C) (n1 : PySem.W.findIn K (.ref C) f1 = some none) (h : spIni C [f1] vs H Q E) : (tOst K f1 (tVar 0) (tVar 1)) { nx := fun _ H' => Q .non H', rt := Q } (start ["self", f1] vs) H := by
  obtain ⟨a, ys, rfl, hl, ha, k⟩ := h
  obtain ⟨y, rfl⟩ := one hl
  refine ⟨_, rfl, _, rfl, a, C, rfl, T, n1, .inl ⟨ha, fun d nd ne => ?_⟩⟩
  exact k d _ nd upd_same (by rw [upd_ne ne]; exact upd_same) (first_keep nd)
theorem ini2 (T : OexC K C) (n1 : PySem.W.findIn K (.ref C) f1 = some none) (n2 : PySem.W.findIn K (.ref C) f2 = some none) (h : spIni C [f1, f2] vs H Q E) :
    (tSeq (tOst K f1 (tVar 0) (tVar 1)) (tOst K f2 (tVar 0) (tVar 2))) { nx := fun _ H' => Q .non H', rt := Q } (start ["self", f1, f2] vs) H := by
  obtain ⟨a, ys, rfl, hl, ha, k⟩ := h
  obtain ⟨y, z, rfl⟩ := two hl
  refine ⟨_, rfl, _, rfl, a, C, rfl, T, n1, .inl ⟨ha, fun d nd ne => ?_⟩⟩
  refine ⟨_, rfl, _, rfl, a, C, rfl, T, n2, .inr ⟨d, [(f1, y)], upd_same, by rw [upd_ne ne]; exact upd_same, by show 1 ≤ 900; decide, ?_⟩⟩
  exact k d _ nd (by rw [upd_ne ne.symm]; exact upd_same) upd_same (next_keep nd (first_keep nd))
theorem ini3 (T : OexC K C) (n1 : PySem.W.findIn K (.ref C) f1 = some none) (n2 : PySem.W.findIn K (.ref C) f2 = some none) (n3 : PySem.W.findIn K (.ref C) f3 = some none) (h : spIni C [f1, f2, f3] vs H Q E) :
    (tSeq (tOst K f1 (tVar 0) (tVar 1)) (tSeq (tOst K f2 (tVar 0) (tVar 2)) (tOst K f3 (tVar 0) (tVar 3)))) { nx := fun _ H' => Q .non H', rt := Q } (start ["self", f1, f2, f3] vs) H := by
  obtain ⟨a, ys, rfl, hl, ha, k⟩ := h
  obtain ⟨y, z, x, rfl⟩ := three hl
  refine ⟨_, rfl, _, rfl, a, C, rfl, T, n1, .inl ⟨ha, fun d nd ne => ?_⟩⟩
  refine ⟨_, rfl, _, rfl, a, C, rfl, T, n2, .inr ⟨d, [(f1, y)], upd_same, by rw [upd_ne ne]; exact upd_same, by show 1 ≤ 900; decide, ?_⟩⟩
  refine ⟨_, rfl, _, rfl, a, C, rfl, T, n3, .inr ⟨d, [(f2, z), (f1, y)], by rw [upd_ne ne.symm]; exact upd_same, upd_same, by show 2 ≤ 900; decide, ?_⟩⟩
  exact k d _ nd (by rw [upd_ne ne.symm, upd_ne ne.symm]; exact upd_same) upd_same (next_keep nd (next_keep nd (first_keep nd)))
theorem ini4 (T : OexC K C) (n1 : PySem.W.findIn K (.ref C) f1 = some none) (n2 : PySem.W.findIn K (.ref C) f2 = some none) (n3 : PySem.W.findIn K (.ref C) f3 = some none) (n4 : PySem.W.findIn K (.ref C) f4 = some none) (h : spIni C [f1, f2, f3, f4] vs H Q E) :
    (tSeq (tOst K f1 (tVar 0) (tVar 1)) (tSeq (tOst K f2 (tVar 0) (tVar 2)) (tSeq (tOst K f3 (tVar 0) (tVar 3)) (tOst K f4 (tVar 0) (tVar 4))))) { nx := fun _ H' => Q .non H', rt := Q } (start ["self", f1, f2, f3, f4] vs) H := by
  obtain ⟨a, ys, rfl, hl, ha, k⟩ := h
  obtain ⟨y, z, x, t, rfl⟩ := four hl
  refine ⟨_, rfl, _, rfl, a, C, rfl, T, n1, .inl ⟨ha, fun d nd ne => ?_⟩⟩
  refine ⟨_, rfl, _, rfl, a, C, rfl, T, n2, .inr ⟨d, [(f1, y)], upd_same, by rw [upd_ne ne]; exact upd_same, by show 1 ≤ 900; decide, ?_⟩⟩
  refine ⟨_, rfl, _, rfl, a, C, rfl, T, n3, .inr ⟨d, [(f2, z), (f1, y)], by rw [upd_ne ne.symm]; exact upd_same, upd_same, by show 2 ≤ 900; decide, ?_⟩⟩
  refine ⟨_, rfl, _, rfl, a, C, rfl, T, n4, .inr ⟨d, [(f3, x), (f2, z), (f1, y)], by rw [upd_ne ne.symm, upd_ne ne.symm]; exact upd_same, upd_same, by show 3 ≤ 900; decide, ?_⟩⟩
  exact k d _ nd (by rw [upd_ne ne.symm, upd_ne ne.symm, upd_ne ne.symm]; exact upd_same) upd_same (next_keep nd (next_keep nd (next_keep nd (first_keep nd))))
end
/-- (an error, the names of its fields) -/
def RowAt (K : PySem.W.Frag) (H : Hp) (v : V) (C : Addr) (fs : List (Str × V)) (nms : List Str) : Prop := ∃ r a l, v = .ref r ∧ SqT K H r [.ref a, .ref l] ∧ ErrAt H a C fs ∧ SqL K H l (nms.map V.str)
theorem RowAt.mono {K : PySem.W.Frag} {H H' : Hp} {v : V} {C : Addr} {fs : List (Str × V)} {nms : List Str} (h : RowAt K H v C fs nms) (e : Same H H') : RowAt K H' v C fs nms := by
  obtain ⟨r, a, l, h1, h2, h3, h4⟩ := h
  exact ⟨r, a, l, h1, sqT_same e h2, h3.mono e, sqL_same e h4⟩
/-- what is asked of a class -/
structure EC (P : Program) (w : World) (K : PySem.W.Frag) (mg : Str → Option Value) (x : Str) (fl : List Str) (C fI : Addr) (fd : FuncData) : Prop where
  oex : OexC K C
  xc : XCls K C
  mgx : mg x = some (.ref C)
  ini : PySem.W.findIn K (.ref C) "__init__" = some (some (.ref fI))
  tI : PySem.W.typeIn K (.ref fI) = some (.type "function")
  no : ∀ f ∈ fl, PySem.W.findIn K (.ref C) f = some none
  ok : ∀ base : Heap, FnOk P w K mg base CX0 1 fI fd (("self" : Str) :: fl) (spIni C fl)
  bi : Binds K fd (("self" : Str) :: fl) []
def tRow (K : PySem.W.Frag) (C : Addr) (fl : List Str) (ta : TA) : TE := fun σ H Q => ta σ H fun vs H1 => vs.length = fl.length ∧ ∀ (H2 : Hp) (v : V), Same H1 H2 → RowAt K H2 v C (fl.zip vs).reverse fl → Q v H2
/-- a list of written texts -/
def tNames (fl : List Str) : TA := fun _ H Q => Q (fl.map V.str) H
theorem pe_row {X : Cx} {x : Str} {fl : List Str} {C fI : Addr} {fd : FuncData} {e : Expr} {es ns : List Expr} {ta : TA} {p pos lp tp : Pos} {tk : Nat} (T : EC X.prog X.w X.K X.mg x fl C fI fd) (hr : Room 2 X.A) (hx : Passes CX0 X (fun _ _ _ => False)) (hg : Gl X x) (ha : PA X (e :: es) ta) (hn : PA X ns (tNames fl)) (h9 : fl.length ≤ 900)
    (hm : ∀ σ H Q Q', (∀ vs H1, Q vs H1 → Q' vs H1) → ta σ H Q → ta σ H Q')
    (hdb : (x == ("__debug__" : Str)) = false := by decide) (he : starEach (e :: es) X.env = (false, eval e X.env) :: starEach es X.env := by rfl) (hpl : (backTo pos (starEach es X.env)).any (·.1) = false := by rfl) :
    PE X (.Tuple [.Call (.Name x p) (e :: es) [] pos, .List ns lp] tk tp) (tRow X.K C fl ta) := by
  refine pe_imp (pe_tup (pa_cons (pe_oexV T.oex T.ini T.tI (T.ok X.base) hr T.bi hx hg T.mgx ha hdb he hpl) (pa_cons (pe_lst hn) pa_nil))) fun σ H Q h => ?_
  refine hm _ _ _ _ (fun vs H1 q => ?_) h
  obtain ⟨hl, q⟩ := q
  refine ⟨by omega, fun a na => ⟨a, vs, rfl, hl, upd_same, fun d H2 nd e1 e2 kp => ⟨rfl, ?_⟩⟩⟩
  have s1 : Same H1 H2 := fun b o z => kp b o (ne_of_none z na) (by rw [upd_ne (ne_of_none z na)]; exact z)
  refine ⟨by rw [List.length_map]; exact Nat.le_of_lt (small1000 (by omega)), fun l nl => ⟨by show 2 ≤ sizeLine; decide, fun r nr => ?_⟩⟩
  have s2 := same_new (o := .lst (fl.map V.str)) nl
  have s3 := same_new (o := .tup [.ref a, .ref l]) nr
  exact q _ _ (s1.trans (s2.trans s3)) ⟨r, a, l, rfl, .inl (.inl upd_same), .inr ⟨d, s3 _ _ (s2 _ _ e1), s3 _ _ (s2 _ _ e2)⟩, .inl (.inl (s3 _ _ upd_same))⟩
end KH
set_option Elab.async false
set_option linter.all false
set_option maxRecDepth 100000
set_option maxHeartbeats 4000000
/-! The fields of an error, read by their names. -/
namespace KH
open PySem L2 KX
def allN : List Str := ["line", "word", "column", "why", "name", "what", "number", "row", "many", "limit", "promise", "witness"]
structure NameOk (K : PySem.W.Frag) (C : Addr) (fs : List (Str × V)) (n : Str) : Prop where
  mem : n ∈ allN
  no : PySem.W.findIn K (.ref C) n = some none
  lk : fs.lookup n = some ((fs.lookup n).getD .non)
  xc : XCls K C
/-- found.append(one.f) -/
def tApp (K : PySem.W.Frag) (f : Str) : TS := tDrop (tBM K "list" rAppend (tVar 2) (tCons (tEFld K f (tVar 0)) tNil))
theorem app_ok {K : PySem.W.Frag} {a l L C : Addr} {fs : List (Str × V)} {n f : Str} {v : V} {xs : List V} {H : Hp} {D : Ends} (hA : ErrAt H a C fs) (hL : H L = some (.lst xs)) (hlen : xs.length < 1000) (e : n = f) (xc : XCls K C) (no : PySem.W.findIn K (.ref C) n = some none) (lk : fs.lookup n = some v)
    (q : D.nx [some (.ref a), some (.ref l), some (.ref L), some (.str n)] (upd H L (.lst (xs ++ [v])))) : tApp K f D [some (.ref a), some (.ref l), some (.ref L), some (.str n)] H := by
  subst e
  refine ⟨_, rfl, .inl ⟨rfl, _, SqL.of hL⟩, _, rfl, a, C, fs, v, rfl, hA, xc, no, lk, L, xs, v, rfl, rfl, hL, small1000 (by omega), q⟩
def spFields (K : PySem.W.Frag) : Sp := fun vs H Q _ => ∃ (a l C : Addr) (fs : List (Str × V)) (nms : List Str), vs = [.ref a, .ref l] ∧ ErrAt H a C fs ∧ SqL K H l (nms.map V.str) ∧ nms.length ≤ 900 ∧ (∀ n ∈ nms, NameOk K C fs n) ∧
  ∀ (H' : Hp) (L : Addr), Same H H' → H' L = some (.lst (nms.map fun n => (fs.lookup n).getD .non)) → Q (.ref L) H'
section
variable {P : Program} {w : World} {K : PySem.W.Frag} {mg : Str → Option Value} {base : Heap}
theorem scFields : FnScope ["one", "names", "found", "name"] ["one", "names"] (defScope sFields) := ⟨rfl, rfl, rfl, by decide +kernel, rfl, by decide +kernel, by decide +kernel⟩
theorem ok_fields {f : Addr} {fd : FuncData} (F : Fun K "_law_fields" "_law_fields" sFields f fd) : FnOk P w K mg base CX0 1 f fd ["one", "names"] (spFields K) := by
  refine F.ok scFields (fun vs H Q E h => ?_) (fun cdv A outer s H vs Q E hr h => ?_)
  · obtain ⟨a, l, C, fs, nms, rfl, _⟩ := h
    rfl
  · obtain ⟨a, l, C, fs, nms, rfl, hA, hS, h9, hok, hQ⟩ := h
    refine ⟨_, pss_cons (ps_set (i := 2) scFields.nd rfl (Or.inl rfl) (pe_lst pa_nil))
      (pss_cons (ps_for PassesOwn.never rfl (pi_list (pv 1)) (pg_name (i := 3) scFields.nd rfl (Or.inl rfl))
        (pss_one (ps_if (pt_cmpR op_eq (pv 3) pe_str (nomark _)) (pss_one (ps_expr (pe_bm PySem.F.plainAttrs_list PySem.F.slot_list_append PySem.F.type_list_append mt_append (pv 2) (pa_cons (pe_efld (pv 0)) pa_nil)))) (pss_one (ps_if (pt_cmpR op_eq (pv 3) pe_str (nomark _)) (pss_one (ps_expr (pe_bm PySem.F.plainAttrs_list PySem.F.slot_list_append PySem.F.type_list_append mt_append (pv 2) (pa_cons (pe_efld (pv 0)) pa_nil)))) (pss_one (ps_if (pt_cmpR op_eq (pv 3) pe_str (nomark _)) (pss_one (ps_expr (pe_bm PySem.F.plainAttrs_list PySem.F.slot_list_append PySem.F.type_list_append mt_append (pv 2) (pa_cons (pe_efld (pv 0)) pa_nil)))) (pss_one (ps_if (pt_cmpR op_eq (pv 3) pe_str (nomark _)) (pss_one (ps_expr (pe_bm PySem.F.plainAttrs_list PySem.F.slot_list_append PySem.F.type_list_append mt_append (pv 2) (pa_cons (pe_efld (pv 0)) pa_nil)))) (pss_one (ps_if (pt_cmpR op_eq (pv 3) pe_str (nomark _)) (pss_one (ps_expr (pe_bm PySem.F.plainAttrs_list PySem.F.slot_list_append PySem.F.type_list_append mt_append (pv 2) (pa_cons (pe_efld (pv 0)) pa_nil)))) (pss_one (ps_if (pt_cmpR op_eq (pv 3) pe_str (nomark _)) (pss_one (ps_expr (pe_bm PySem.F.plainAttrs_list PySem.F.slot_list_append PySem.F.type_list_append mt_append (pv 2) (pa_cons (pe_efld (pv 0)) pa_nil)))) (pss_one (ps_if (pt_cmpR op_eq (pv 3) pe_str (nomark _)) (pss_one (ps_expr (pe_bm PySem.F.plainAttrs_list PySem.F.slot_list_append PySem.F.type_list_append mt_append (pv 2) (pa_cons (pe_efld (pv 0)) pa_nil)))) (pss_one (ps_if (pt_cmpR op_eq (pv 3) pe_str (nomark _)) (pss_one (ps_expr (pe_bm PySem.F.plainAttrs_list PySem.F.slot_list_append PySem.F.type_list_append mt_append (pv 2) (pa_cons (pe_efld (pv 0)) pa_nil)))) (pss_one (ps_if (pt_cmpR op_eq (pv 3) pe_str (nomark _)) (pss_one (ps_expr (pe_bm PySem.F.plainAttrs_list PySem.F.slot_list_append PySem.F.type_list_append mt_append (pv 2) (pa_cons (pe_efld (pv 0)) pa_nil)))) (pss_one (ps_if (pt_cmpR op_eq (pv 3) pe_str (nomark _)) (pss_one (ps_expr (pe_bm PySem.F.plainAttrs_list PySem.F.slot_list_append PySem.F.type_list_append mt_append (pv 2) (pa_cons (pe_efld (pv 0)) pa_nil)))) (pss_one (ps_if (pt_cmpR op_eq (pv 3) pe_str (nomark _)) (pss_one (ps_expr (pe_bm PySem.F.plainAttrs_list PySem.F.slot_list_append PySem.F.type_list_append mt_append (pv 2) (pa_cons (pe_efld (pv 0)) pa_nil)))) (pss_one (ps_expr (pe_bm PySem.F.plainAttrs_list PySem.F.slot_list_append PySem.F.type_list_append mt_append (pv 2) (pa_cons (pe_efld (pv 0)) pa_nil)))))))))))))))))))))))))))
      (pss_one (ps_ret (pv 2)))), ?_⟩
    refine ⟨by decide, fun L nL => ?_⟩
    have s1 := same_new (o := .lst []) nL
    refine ⟨_, rfl, l, rfl, ⟨_, sqL_same s1 hS⟩, for_list (K := K) (a := l) (xs := nms.map V.str) (fun i σ H2 => ∃ v : Option V, σ = [some (.ref a), some (.ref l), some (.ref L), v] ∧ Same H H2 ∧ H2 L = some (.lst ((nms.take i).map fun n => (fs.lookup n).getD .non)))
      ⟨none, rfl, s1, upd_same⟩ (fun i σ H2 _ ⟨_, _, s2, _⟩ => sqL_same s2 hS) ?_ ?_⟩
    · rintro i y σ H2 hi ⟨v, rfl, s2, hL⟩
      obtain ⟨n, hn, rfl⟩ : ∃ n, nms[i]? = some n ∧ y = V.str n := by
        rw [List.getElem?_map] at hi
        cases e : nms[i]? with
        | none => rw [e] at hi; cases hi
        | some c => rw [e] at hi; exact ⟨c, rfl, (Option.some.inj hi).symm⟩
      have ok := hok n (List.mem_of_getElem? hn)
      have hA := hA.mono s2
      have hlen : ((nms.take i).map fun n => (fs.lookup n).getD .non).length < 1000 := by
        rw [List.length_map, List.length_take]
        omega
      have fin : NameOk K C fs n → ∃ v : Option V, [some (V.ref a), some (V.ref l), some (V.ref L), some (V.str n)] = [some (.ref a), some (.ref l), some (.ref L), v] ∧ Same H (upd H2 L (.lst ((nms.take i).map (fun n => (fs.lookup n).getD .non) ++ [(fs.lookup n).getD .non]))) ∧ (upd H2 L (.lst ((nms.take i).map (fun n => (fs.lookup n).getD .non) ++ [(fs.lookup n).getD .non]))) L = some (.lst ((nms.take (i + 1)).map fun n => (fs.lookup n).getD .non)) := fun _ => by
        refine ⟨_, rfl, fun b o e => ?_, ?_⟩
        · rw [upd_ne (ne_of_none e nL)]
          exact s2 _ _ e
        · rw [upd_same, List.take_succ, hn]
          simp
      refine ⟨_, rfl, rfl, _, rfl, ite2 (fun e => app_ok hA hL hlen (V.str.inj (of_decide_eq_true e)) ok.xc ok.no ok.lk (fin ok)) (fun z_line => ?_)⟩
      refine ⟨_, rfl, rfl, _, rfl, ite2 (fun e => app_ok hA hL hlen (V.str.inj (of_decide_eq_true e)) ok.xc ok.no ok.lk (fin ok)) (fun z_word => ?_)⟩
      refine ⟨_, rfl, rfl, _, rfl, ite2 (fun e => app_ok hA hL hlen (V.str.inj (of_decide_eq_true e)) ok.xc ok.no ok.lk (fin ok)) (fun z_column => ?_)⟩
      refine ⟨_, rfl, rfl, _, rfl, ite2 (fun e => app_ok hA hL hlen (V.str.inj (of_decide_eq_true e)) ok.xc ok.no ok.lk (fin ok)) (fun z_why => ?_)⟩
      refine ⟨_, rfl, rfl, _, rfl, ite2 (fun e => app_ok hA hL hlen (V.str.inj (of_decide_eq_true e)) ok.xc ok.no ok.lk (fin ok)) (fun z_name => ?_)⟩
      refine ⟨_, rfl, rfl, _, rfl, ite2 (fun e => app_ok hA hL hlen (V.str.inj (of_decide_eq_true e)) ok.xc ok.no ok.lk (fin ok)) (fun z_what => ?_)⟩
      refine ⟨_, rfl, rfl, _, rfl, ite2 (fun e => app_ok hA hL hlen (V.str.inj (of_decide_eq_true e)) ok.xc ok.no ok.lk (fin ok)) (fun z_number => ?_)⟩
      refine ⟨_, rfl, rfl, _, rfl, ite2 (fun e => app_ok hA hL hlen (V.str.inj (of_decide_eq_true e)) ok.xc ok.no ok.lk (fin ok)) (fun z_row => ?_)⟩
      refine ⟨_, rfl, rfl, _, rfl, ite2 (fun e => app_ok hA hL hlen (V.str.inj (of_decide_eq_true e)) ok.xc ok.no ok.lk (fin ok)) (fun z_many => ?_)⟩
      refine ⟨_, rfl, rfl, _, rfl, ite2 (fun e => app_ok hA hL hlen (V.str.inj (of_decide_eq_true e)) ok.xc ok.no ok.lk (fin ok)) (fun z_limit => ?_)⟩
      refine ⟨_, rfl, rfl, _, rfl, ite2 (fun e => app_ok hA hL hlen (V.str.inj (of_decide_eq_true e)) ok.xc ok.no ok.lk (fin ok)) (fun z_promise => ?_)⟩
      refine app_ok hA hL hlen (f := "witness") ?_ ok.xc ok.no ok.lk (fin ok)
      have hm := ok.mem
      simp only [allN, List.mem_cons, List.not_mem_nil, or_false] at hm
      rcases hm with e | e | e | e | e | e | e | e | e | e | e | e
      · exact absurd (decide_eq_true (congrArg V.str e)) z_line
      · exact absurd (decide_eq_true (congrArg V.str e)) z_word
      · exact absurd (decide_eq_true (congrArg V.str e)) z_column
      · exact absurd (decide_eq_true (congrArg V.str e)) z_why
      · exact absurd (decide_eq_true (congrArg V.str e)) z_name
      · exact absurd (decide_eq_true (congrArg V.str e)) z_what
      · exact absurd (decide_eq_true (congrArg V.str e)) z_number
      · exact absurd (decide_eq_true (congrArg V.str e)) z_row
      · exact absurd (decide_eq_true (congrArg V.str e)) z_many
      · exact absurd (decide_eq_true (congrArg V.str e)) z_limit
      · exact absurd (decide_eq_true (congrArg V.str e)) z_promise
      · exact e
    · rintro σ H2 ⟨v, rfl, s2, hL⟩
      rw [List.length_map, List.take_length] at hL
      exact ⟨_, rfl, hQ H2 L s2 hL⟩
end
end KH
set_option Elab.async false
set_option linter.all false
set_option maxRecDepth 100000
set_option maxHeartbeats 4000000
/-! All errors made; their kinds. -/
namespace KH
open PySem L2 KX
/-- the fields' names of the i-th error -/
def nmOf : Nat → List Str
  | 0 => ["line", "word"]
  | 1 => ["name"]
  | 2 => ["what", "number"]
  | 3 => ["what", "row"]
  | 4 => ["name"]
  | 5 => ["name"]
  | 6 => ["what"]
  | 7 => ["what"]
  | 8 => ["what", "many", "limit"]
  | 9 => ["line", "column"]
  | 10 => ["line", "column", "why", "name"]
  | 11 => ["promise", "witness"]
  | _ => []

/-- the fields of the i-th error, the last one first -/
def fsOf (i : Nat) (x y z : V) : List (Str × V) := ((nmOf i).zip [x, y, z, x]).reverse
/-- what stands of the top's names: C the classes in their order, CH the base class -/
structure TxtE (P : Program) (w : World) (K : PySem.W.Frag) (mg : Str → Option Value) (C I : Nat → Addr) (D : Nat → FuncData) (CH : Addr) : Prop where
  e0 : EC P w K mg "BadText" ["line", "word"] (C 0) (I 0) (D 0)
  e1 : EC P w K mg "BadName" ["name"] (C 1) (I 1) (D 1)
  e2 : EC P w K mg "BadNumber" ["what", "number"] (C 2) (I 2) (D 2)
  e3 : EC P w K mg "BadRow" ["what", "row"] (C 3) (I 3) (D 3)
  e4 : EC P w K mg "NoName" ["name"] (C 4) (I 4) (D 4)
  e5 : EC P w K mg "TakenName" ["name"] (C 5) (I 5) (D 5)
  e6 : EC P w K mg "Unlike" ["what"] (C 6) (I 6) (D 6)
  e7 : EC P w K mg "NotThere" ["what"] (C 7) (I 7) (D 7)
  e8 : EC P w K mg "TooMany" ["what", "many", "limit"] (C 8) (I 8) (D 8)
  e9 : EC P w K mg "Misread" ["line", "column"] (C 9) (I 9) (D 9)
  e10 : EC P w K mg "Misplaced" ["line", "column", "why", "name"] (C 10) (I 10) (D 10)
  e11 : EC P w K mg "NotKept" ["promise", "witness"] (C 11) (I 11) (D 11)
  m0 : mg "BadText" = some (.ref (C 0))
  m1 : mg "BadName" = some (.ref (C 1))
  m2 : mg "BadNumber" = some (.ref (C 2))
  m3 : mg "BadRow" = some (.ref (C 3))
  m4 : mg "NoName" = some (.ref (C 4))
  m5 : mg "TakenName" = some (.ref (C 5))
  m6 : mg "Unlike" = some (.ref (C 6))
  m7 : mg "NotThere" = some (.ref (C 7))
  m8 : mg "TooMany" = some (.ref (C 8))
  m9 : mg "Misread" = some (.ref (C 9))
  m10 : mg "Misplaced" = some (.ref (C 10))
  m11 : mg "NotKept" = some (.ref (C 11))
  m12 : mg "NothingToUndo" = some (.ref (C 12))
  m13 : mg "NothingToRedo" = some (.ref (C 13))
  xc : ∀ i, i < 14 → XCls K (C i)
  kit : ∀ i j, i < 14 → j < 14 → PySem.W.kitOne K (.ref (C i)) (.ref (C j)) = some (decide (i = j))
  isin : mg "isinstance" = none
def spMade (K : PySem.W.Frag) (C : Nat → Addr) : Sp := fun vs H Q _ => ∃ x y z : V, vs = [x, y, z] ∧
  ∀ (H' : Hp) (L : Addr) (rows : List V), Same H H' → H' L = some (.lst rows) → rows.length = 12 → (∀ i v, rows[i]? = some v → RowAt K H' v (C i) (fsOf i x y z) (nmOf i)) → Q (.ref L) H'
def spKinds (K : PySem.W.Frag) (C : Nat → Addr) : Sp := fun vs H Q _ => ∃ (a : Addr) (i : Nat) (fs : List (Str × V)), vs = [.ref a] ∧ i < 14 ∧ ErrAt H a (C i) fs ∧
  ∀ (H' : Hp) (L : Addr), Same H H' → H' L = some (.lst (([0, 1, 2, 3, 4, 5, 6, 7, 8, 9, 10, 11, 12, 13] : List Nat).map fun j => V.bl (decide (i = j)))) → Q (.ref L) H'
def Mono (ta : TA) : Prop := ∀ σ H (Q Q' : List V → Hp → Prop), (∀ vs H1, Q vs H1 → Q' vs H1) → ta σ H Q → ta σ H Q'
theorem mono_nil : Mono tNil := fun _ _ _ _ k h => k _ _ h
theorem mono_var {i : Nat} {ta : TA} (m : Mono ta) : Mono (tCons (tVar i) ta) := fun σ H Q Q' k h => by
  obtain ⟨v, hv, h⟩ := h
  exact ⟨v, hv, m _ _ _ _ (fun vs H1 q => k _ _ q) h⟩
section
variable {P : Program} {w : World} {K : PySem.W.Frag} {mg : Str → Option Value} {base : Heap} {C I : Nat → Addr} {D : Nat → FuncData} {CH : Addr}
theorem scMade : FnScope ["one", "two", "three", "rows"] ["one", "two", "three"] (defScope sMade) := ⟨rfl, rfl, rfl, by decide +kernel, rfl, by decide +kernel, by decide +kernel⟩
theorem ok_made {f : Addr} {fd : FuncData} (F : Fun K "_law_made_errors" "_law_made_errors" sMade f fd) (T : TxtE P w K mg C I D CH) : FnOk P w K mg base CX0 3 f fd ["one", "two", "three"] (spMade K C) := by
  refine F.ok scMade (fun vs H Q E h => ?_) (fun cdv A outer s H vs Q E hr h => ?_)
  · obtain ⟨x, y, z, rfl, _⟩ := h
    rfl
  · obtain ⟨x, y, z, rfl, hQ⟩ := h
    have nd := scMade.nd
    have hr2 : Room 2 _ := hr
    refine ⟨_, pss_cons (ps_set (i := 3) nd rfl (Or.inl rfl) (pe_lst (pa_cons (pe_row T.e0 hr2 pass0 (by rfl) (pa_cons (pv 0) (pa_cons (pv 1) pa_nil)) (show PA _ _ (tNames ["line", "word"]) from (pa_cons pe_str (pa_cons pe_str pa_nil))) (by decide) (mono_var (mono_var mono_nil))) (pa_cons (pe_row T.e1 hr2 pass0 (by rfl) (pa_cons (pv 0) pa_nil) (show PA _ _ (tNames ["name"]) from (pa_cons pe_str pa_nil)) (by decide) (mono_var mono_nil)) (pa_cons (pe_row T.e2 hr2 pass0 (by rfl) (pa_cons (pv 0) (pa_cons (pv 1) pa_nil)) (show PA _ _ (tNames ["what", "number"]) from (pa_cons pe_str (pa_cons pe_str pa_nil))) (by decide) (mono_var (mono_var mono_nil))) pa_nil)))))
      (pss_cons (ps_set (i := 3) nd rfl (Or.inl rfl) (pe_op op_cat (pv 3) (pe_lst (pa_cons (pe_row T.e3 hr2 pass0 (by rfl) (pa_cons (pv 0) (pa_cons (pv 1) pa_nil)) (show PA _ _ (tNames ["what", "row"]) from (pa_cons pe_str (pa_cons pe_str pa_nil))) (by decide) (mono_var (mono_var mono_nil))) (pa_cons (pe_row T.e4 hr2 pass0 (by rfl) (pa_cons (pv 0) pa_nil) (show PA _ _ (tNames ["name"]) from (pa_cons pe_str pa_nil)) (by decide) (mono_var mono_nil)) (pa_cons (pe_row T.e5 hr2 pass0 (by rfl) (pa_cons (pv 0) pa_nil) (show PA _ _ (tNames ["name"]) from (pa_cons pe_str pa_nil)) (by decide) (mono_var mono_nil)) pa_nil))))))
      (pss_cons (ps_set (i := 3) nd rfl (Or.inl rfl) (pe_op op_cat (pv 3) (pe_lst (pa_cons (pe_row T.e6 hr2 pass0 (by rfl) (pa_cons (pv 0) pa_nil) (show PA _ _ (tNames ["what"]) from (pa_cons pe_str pa_nil)) (by decide) (mono_var mono_nil)) (pa_cons (pe_row T.e7 hr2 pass0 (by rfl) (pa_cons (pv 0) pa_nil) (show PA _ _ (tNames ["what"]) from (pa_cons pe_str pa_nil)) (by decide) (mono_var mono_nil)) (pa_cons (pe_row T.e8 hr2 pass0 (by rfl) (pa_cons (pv 0) (pa_cons (pv 1) (pa_cons (pv 2) pa_nil))) (show PA _ _ (tNames ["what", "many", "limit"]) from (pa_cons pe_str (pa_cons pe_str (pa_cons pe_str pa_nil)))) (by decide) (mono_var (mono_var (mono_var mono_nil)))) pa_nil))))))
      (pss_cons (ps_set (i := 3) nd rfl (Or.inl rfl) (pe_op op_cat (pv 3) (pe_lst (pa_cons (pe_row T.e9 hr2 pass0 (by rfl) (pa_cons (pv 0) (pa_cons (pv 1) pa_nil)) (show PA _ _ (tNames ["line", "column"]) from (pa_cons pe_str (pa_cons pe_str pa_nil))) (by decide) (mono_var (mono_var mono_nil))) (pa_cons (pe_row T.e10 hr2 pass0 (by rfl) (pa_cons (pv 0) (pa_cons (pv 1) (pa_cons (pv 2) (pa_cons (pv 0) pa_nil)))) (show PA _ _ (tNames ["line", "column", "why", "name"]) from (pa_cons pe_str (pa_cons pe_str (pa_cons pe_str (pa_cons pe_str pa_nil))))) (by decide) (mono_var (mono_var (mono_var (mono_var mono_nil))))) pa_nil)))))
      (pss_one (ps_ret (pe_op op_cat (pv 3) (pe_lst (pa_cons (pe_row T.e11 hr2 pass0 (by rfl) (pa_cons (pv 0) (pa_cons (pv 1) pa_nil)) (show PA _ _ (tNames ["promise", "witness"]) from (pa_cons pe_str (pa_cons pe_str pa_nil))) (by decide) (mono_var (mono_var mono_nil))) pa_nil)))))))), ?_⟩
    refine ⟨_, rfl, _, rfl, rfl, fun H0 v0 s0 r0 => ⟨_, rfl, rfl, fun H1 v1 s1 r1 => ⟨_, rfl, _, rfl, rfl, fun H2 v2 s2 r2 => ⟨by show 3 ≤ sizeLine; decide, fun L0 n0 => ?_⟩⟩⟩⟩
    have c0 := same_new (o := .lst [v0, v1, v2]) n0
    refine ⟨_, rfl, _, rfl, _, rfl, rfl, fun H3 v3 s3 r3 => ⟨_, rfl, rfl, fun H4 v4 s4 r4 => ⟨_, rfl, rfl, fun H5 v5 s5 r5 => ⟨by show 3 ≤ sizeLine; decide, fun M1 m1 => ?_⟩⟩⟩⟩
    have d1 := same_new (o := .lst [v3, v4, v5]) m1
    refine ⟨_, _, [v0, v1, v2], [v3, v4, v5], rfl, rfl, d1 _ _ (((s3.trans s4).trans s5) _ _ upd_same), upd_same, by show 3 + 3 ≤ sizeLine; decide, fun L1 n1 => ?_⟩
    have c1 := same_new (o := .lst [v0, v1, v2, v3, v4, v5]) n1
    have b1 := (((s3.trans s4).trans s5).trans d1).trans c1
    refine ⟨_, rfl, _, rfl, rfl, fun H6 v6 s6 r6 => ⟨_, rfl, rfl, fun H7 v7 s7 r7 => ⟨_, rfl, _, rfl, _, rfl, rfl, fun H8 v8 s8 r8 => ⟨by show 3 ≤ sizeLine; decide, fun M2 m2 => ?_⟩⟩⟩⟩
    have d2 := same_new (o := .lst [v6, v7, v8]) m2
    refine ⟨_, _, [v0, v1, v2, v3, v4, v5], [v6, v7, v8], rfl, rfl, d2 _ _ (((s6.trans s7).trans s8) _ _ upd_same), upd_same, by show 6 + 3 ≤ sizeLine; decide, fun L2 n2 => ?_⟩
    have c2 := same_new (o := .lst [v0, v1, v2, v3, v4, v5, v6, v7, v8]) n2
    have b2 := (((s6.trans s7).trans s8).trans d2).trans c2
    refine ⟨_, rfl, _, rfl, _, rfl, rfl, fun H9 v9 s9 r9 => ⟨_, rfl, _, rfl, _, rfl, _, rfl, rfl, fun H10 v10 s10 r10 => ⟨by show 2 ≤ sizeLine; decide, fun M3 m3 => ?_⟩⟩⟩
    have d3 := same_new (o := .lst [v9, v10]) m3
    refine ⟨_, _, [v0, v1, v2, v3, v4, v5, v6, v7, v8], [v9, v10], rfl, rfl, d3 _ _ ((s9.trans s10) _ _ upd_same), upd_same, by show 9 + 2 ≤ sizeLine; decide, fun L3 n3 => ?_⟩
    have c3 := same_new (o := .lst [v0, v1, v2, v3, v4, v5, v6, v7, v8, v9, v10]) n3
    have b3 := ((s9.trans s10).trans d3).trans c3
    refine ⟨_, rfl, _, rfl, _, rfl, rfl, fun H11 v11 s11 r11 => ⟨by show 1 ≤ sizeLine; decide, fun M4 m4 => ?_⟩⟩
    have d4 := same_new (o := .lst [v11]) m4
    refine ⟨_, _, [v0, v1, v2, v3, v4, v5, v6, v7, v8, v9, v10], [v11], rfl, rfl, d4 _ _ (s11 _ _ upd_same), upd_same, by show 11 + 1 ≤ sizeLine; decide, fun L4 n4 => ?_⟩
    have c4 := same_new (o := .lst [v0, v1, v2, v3, v4, v5, v6, v7, v8, v9, v10, v11]) n4
    have b4 := (s11.trans d4).trans c4
    have z4 := b4
    have z3 := b3.trans z4
    have z2 := b2.trans z3
    have z1 := b1.trans z2
    refine hQ _ L4 [v0, v1, v2, v3, v4, v5, v6, v7, v8, v9, v10, v11] (((((s0.trans s1).trans s2).trans c0).trans z1)) upd_same rfl ?_
    intro i v hv
    match i, hv with
    | 0, hv => exact (Option.some.inj hv) ▸ r0.mono (((s1.trans s2).trans c0).trans z1)
    | 1, hv => exact (Option.some.inj hv) ▸ r1.mono ((s2.trans c0).trans z1)
    | 2, hv => exact (Option.some.inj hv) ▸ r2.mono (c0.trans z1)
    | 3, hv => exact (Option.some.inj hv) ▸ r3.mono ((((s4.trans s5).trans d1).trans c1).trans z2)
    | 4, hv => exact (Option.some.inj hv) ▸ r4.mono (((s5.trans d1).trans c1).trans z2)
    | 5, hv => exact (Option.some.inj hv) ▸ r5.mono ((d1.trans c1).trans z2)
    | 6, hv => exact (Option.some.inj hv) ▸ r6.mono ((((s7.trans s8).trans d2).trans c2).trans z3)
    | 7, hv => exact (Option.some.inj hv) ▸ r7.mono (((s8.trans d2).trans c2).trans z3)
    | 8, hv => exact (Option.some.inj hv) ▸ r8.mono ((d2.trans c2).trans z3)
    | 9, hv => exact (Option.some.inj hv) ▸ r9.mono (((s10.trans d3).trans c3).trans z4)
    | 10, hv => exact (Option.some.inj hv) ▸ r10.mono ((d3.trans c3).trans z4)
    | 11, hv => exact (Option.some.inj hv) ▸ r11.mono (d4.trans c4)
    | _ + 12, hv => exact nomatch hv
theorem scKinds : FnScope ["one", "found"] ["one"] (defScope sKinds) := ⟨rfl, rfl, rfl, by decide +kernel, rfl, by decide +kernel, by decide +kernel⟩
theorem ok_kinds {f : Addr} {fd : FuncData} (F : Fun K "_law_kinds" "_law_kinds" sKinds f fd) (T : TxtE P w K mg C I D CH) : FnOk P w K mg base CX0 1 f fd ["one"] (spKinds K C) := by
  refine F.ok scKinds (fun vs H Q E h => ?_) (fun cdv A outer s H vs Q E hr h => ?_)
  · obtain ⟨a, i, fs, rfl, _⟩ := h
    rfl
  · obtain ⟨a, i, fs, rfl, hi, hA, hQ⟩ := h
    have nd := scKinds.nd
    have hX := T.xc i hi
    refine ⟨_, pss_cons (ps_set (i := 1) nd rfl (Or.inl rfl) (pe_lst (pa_cons (pe_callB call_isX (by rfl) T.isin (by decide +kernel) (pa_cons (pv 0) (pa_cons (pe_glob (v := .ref (C 0)) (by rfl) T.m0 rfl) pa_nil))) (pa_cons (pe_callB call_isX (by rfl) T.isin (by decide +kernel) (pa_cons (pv 0) (pa_cons (pe_glob (v := .ref (C 1)) (by rfl) T.m1 rfl) pa_nil))) (pa_cons (pe_callB call_isX (by rfl) T.isin (by decide +kernel) (pa_cons (pv 0) (pa_cons (pe_glob (v := .ref (C 2)) (by rfl) T.m2 rfl) pa_nil))) (pa_cons (pe_callB call_isX (by rfl) T.isin (by decide +kernel) (pa_cons (pv 0) (pa_cons (pe_glob (v := .ref (C 3)) (by rfl) T.m3 rfl) pa_nil))) pa_nil))))))
      (pss_cons (ps_set (i := 1) nd rfl (Or.inl rfl) (pe_op op_cat (pv 1) (pe_lst (pa_cons (pe_callB call_isX (by rfl) T.isin (by decide +kernel) (pa_cons (pv 0) (pa_cons (pe_glob (v := .ref (C 4)) (by rfl) T.m4 rfl) pa_nil))) (pa_cons (pe_callB call_isX (by rfl) T.isin (by decide +kernel) (pa_cons (pv 0) (pa_cons (pe_glob (v := .ref (C 5)) (by rfl) T.m5 rfl) pa_nil))) (pa_cons (pe_callB call_isX (by rfl) T.isin (by decide +kernel) (pa_cons (pv 0) (pa_cons (pe_glob (v := .ref (C 6)) (by rfl) T.m6 rfl) pa_nil))) (pa_cons (pe_callB call_isX (by rfl) T.isin (by decide +kernel) (pa_cons (pv 0) (pa_cons (pe_glob (v := .ref (C 7)) (by rfl) T.m7 rfl) pa_nil))) pa_nil)))))))
      (pss_cons (ps_set (i := 1) nd rfl (Or.inl rfl) (pe_op op_cat (pv 1) (pe_lst (pa_cons (pe_callB call_isX (by rfl) T.isin (by decide +kernel) (pa_cons (pv 0) (pa_cons (pe_glob (v := .ref (C 8)) (by rfl) T.m8 rfl) pa_nil))) (pa_cons (pe_callB call_isX (by rfl) T.isin (by decide +kernel) (pa_cons (pv 0) (pa_cons (pe_glob (v := .ref (C 9)) (by rfl) T.m9 rfl) pa_nil))) (pa_cons (pe_callB call_isX (by rfl) T.isin (by decide +kernel) (pa_cons (pv 0) (pa_cons (pe_glob (v := .ref (C 10)) (by rfl) T.m10 rfl) pa_nil))) (pa_cons (pe_callB call_isX (by rfl) T.isin (by decide +kernel) (pa_cons (pv 0) (pa_cons (pe_glob (v := .ref (C 11)) (by rfl) T.m11 rfl) pa_nil))) pa_nil)))))))
      (pss_one (ps_ret (pe_op op_cat (pv 1) (pe_lst (pa_cons (pe_callB call_isX (by rfl) T.isin (by decide +kernel) (pa_cons (pv 0) (pa_cons (pe_glob (v := .ref (C 12)) (by rfl) T.m12 rfl) pa_nil))) (pa_cons (pe_callB call_isX (by rfl) T.isin (by decide +kernel) (pa_cons (pv 0) (pa_cons (pe_glob (v := .ref (C 13)) (by rfl) T.m13 rfl) pa_nil))) pa_nil)))))))), ?_⟩
    refine ⟨_, rfl, a, C i, fs, .ref (C 0), .ref (C 0), decide (i = 0), rfl, hA, hX, (fun u r => r), T.kit i 0 hi (by decide), _, rfl, a, C i, fs, .ref (C 1), .ref (C 1), decide (i = 1), rfl, hA, hX, (fun u r => r), T.kit i 1 hi (by decide), _, rfl, a, C i, fs, .ref (C 2), .ref (C 2), decide (i = 2), rfl, hA, hX, (fun u r => r), T.kit i 2 hi (by decide), _, rfl, a, C i, fs, .ref (C 3), .ref (C 3), decide (i = 3), rfl, hA, hX, (fun u r => r), T.kit i 3 hi (by decide), by show 4 ≤ sizeLine; decide, fun L0 n0 => ?_⟩
    have c0 := same_new (o := .lst (([0, 1, 2, 3] : List Nat).map fun j => V.bl (decide (i = j)))) n0
    have hA0 := hA.mono c0
    refine ⟨_, rfl, _, rfl, a, C i, fs, .ref (C 4), .ref (C 4), decide (i = 4), rfl, hA0, hX, (fun u r => r), T.kit i 4 hi (by decide), _, rfl, a, C i, fs, .ref (C 5), .ref (C 5), decide (i = 5), rfl, hA0, hX, (fun u r => r), T.kit i 5 hi (by decide), _, rfl, a, C i, fs, .ref (C 6), .ref (C 6), decide (i = 6), rfl, hA0, hX, (fun u r => r), T.kit i 6 hi (by decide), _, rfl, a, C i, fs, .ref (C 7), .ref (C 7), decide (i = 7), rfl, hA0, hX, (fun u r => r), T.kit i 7 hi (by decide), by show 4 ≤ sizeLine; decide, fun M1 m1 => ?_⟩
    have d1 := same_new (o := .lst (([4, 5, 6, 7] : List Nat).map fun j => V.bl (decide (i = j)))) m1
    refine ⟨_, _, ([0, 1, 2, 3] : List Nat).map fun j => V.bl (decide (i = j)), ([4, 5, 6, 7] : List Nat).map fun j => V.bl (decide (i = j)), rfl, rfl, d1 _ _ upd_same, upd_same, by show 4 + 4 ≤ sizeLine; decide, fun L1 n1 => ?_⟩
    have c1 := same_new (o := .lst (([0, 1, 2, 3, 4, 5, 6, 7] : List Nat).map fun j => V.bl (decide (i = j)))) n1
    have hA1 := (hA0.mono d1).mono c1
    refine ⟨_, rfl, _, rfl, a, C i, fs, .ref (C 8), .ref (C 8), decide (i = 8), rfl, hA1, hX, (fun u r => r), T.kit i 8 hi (by decide), _, rfl, a, C i, fs, .ref (C 9), .ref (C 9), decide (i = 9), rfl, hA1, hX, (fun u r => r), T.kit i 9 hi (by decide), _, rfl, a, C i, fs, .ref (C 10), .ref (C 10), decide (i = 10), rfl, hA1, hX, (fun u r => r), T.kit i 10 hi (by decide), _, rfl, a, C i, fs, .ref (C 11), .ref (C 11), decide (i = 11), rfl, hA1, hX, (fun u r => r), T.kit i 11 hi (by decide), by show 4 ≤ sizeLine; decide, fun M2 m2 => ?_⟩
    have d2 := same_new (o := .lst (([8, 9, 10, 11] : List Nat).map fun j => V.bl (decide (i = j)))) m2
    refine ⟨_, _, ([0, 1, 2, 3, 4, 5, 6, 7] : List Nat).map fun j => V.bl (decide (i = j)), ([8, 9, 10, 11] : List Nat).map fun j => V.bl (decide (i = j)), rfl, rfl, d2 _ _ upd_same, upd_same, by show 8 + 4 ≤ sizeLine; decide, fun L2 n2 => ?_⟩
    have c2 := same_new (o := .lst (([0, 1, 2, 3, 4, 5, 6, 7, 8, 9, 10, 11] : List Nat).map fun j => V.bl (decide (i = j)))) n2
    have hA2 := (hA1.mono d2).mono c2
    refine ⟨_, rfl, _, rfl, a, C i, fs, .ref (C 12), .ref (C 12), decide (i = 12), rfl, hA2, hX, (fun u r => r), T.kit i 12 hi (by decide), _, rfl, a, C i, fs, .ref (C 13), .ref (C 13), decide (i = 13), rfl, hA2, hX, (fun u r => r), T.kit i 13 hi (by decide), by show 2 ≤ sizeLine; decide, fun M3 m3 => ?_⟩
    have d3 := same_new (o := .lst (([12, 13] : List Nat).map fun j => V.bl (decide (i = j)))) m3
    refine ⟨_, _, ([0, 1, 2, 3, 4, 5, 6, 7, 8, 9, 10, 11] : List Nat).map fun j => V.bl (decide (i = j)), ([12, 13] : List Nat).map fun j => V.bl (decide (i = j)), rfl, rfl, d3 _ _ upd_same, upd_same, by show 12 + 2 ≤ sizeLine; decide, fun L3 n3 => ?_⟩
    have c3 := same_new (o := .lst (([0, 1, 2, 3, 4, 5, 6, 7, 8, 9, 10, 11, 12, 13] : List Nat).map fun j => V.bl (decide (i = j)))) n3
    exact hQ _ L3 ((c0.trans (d1.trans c1)).trans ((d2.trans c2).trans (d3.trans c3))) upd_same
end
end KH
set_option Elab.async false
set_option linter.all false
set_option maxRecDepth 100000
set_option maxHeartbeats 4000000
/-! The law's own def. -/
namespace L2
open PySem PySem.Spec PyProof.Rows KX
/-- over enumerate of a list that the body leaves as it is: a new pair each turn -/
theorem for_enum {K : PySem.W.Frag} {a : Addr} {xs : List V} {g : TG} {tb : TS} {D : Ends} {σ : St} {H : Hp} (Pv : Nat → St → Hp → Prop) (h0 : Pv 0 σ H) (hl : ∀ i σ H, i ≤ xs.length → Pv i σ H → SqL K H a xs)
    (hs : ∀ i x T σ H, xs[i]? = some x → Pv i σ H → H T = none → g (.ref T) σ (upd H T (.tup [.int (i : Nat), x])) fun σ2 H2 => tb { D with nx := Pv (i + 1), ct := Pv (i + 1), bk := D.nx } σ2 H2) (hd : ∀ σ H, Pv xs.length σ H → D.nx σ H) :
    ∃ W : Nat → Nat → St → Hp → Prop, (∃ m, W 0 m σ H) ∧ ∀ i m σ H, W i m σ H →
      ((Ite K a).stop i H ∧ D.nx σ H) ∨ ((Ite K a).go i H ∧ ∃ N : St → Hp → Prop, (∀ σ' H', N σ' H' → ∃ m', m' < m ∧ W (i + 1) m' σ' H') ∧ ∀ x H', (Ite K a).yld i H x H' → g x σ H' fun σ2 H2 => tb { D with nx := N, ct := N, bk := D.nx } σ2 H2) := by
  refine ⟨fun i m σ H => m = xs.length - i ∧ i ≤ xs.length ∧ Pv i σ H, ⟨xs.length, rfl, Nat.zero_le _, h0⟩, ?_⟩
  rintro i m σ H ⟨rfl, hi, p⟩
  have hS := hl i σ H hi p
  by_cases hlt : i < xs.length
  · refine .inr ⟨⟨xs, xs[i], hS, List.getElem?_eq_getElem hlt⟩, Pv (i + 1), fun σ' H' q => ⟨_, by omega, rfl, hlt, q⟩, ?_⟩
    rintro v H' ⟨T, x, rfl, nT, rfl, hx⟩
    exact hs i x T σ H (hx xs hS) p nT
  · have e : i = xs.length := by omega
    subst e
    exact .inl ⟨⟨xs, hS, Nat.le_refl _⟩, hd σ H p⟩
section
variable {X : Cx} {a : Addr} {oe : Obj} {cls : Value} {d : Option Addr} {pn : List (Addr × Obj)}
theorem pin_inst {C dd : Addr} {fs : List (Str × V)} {pins : List (Addr × Obj)} {σ : St} {H : Hp} {s : Shared} (hz : Zc (.ref C) (some dd) oe) (hf : ∃ vs, oe.data = .fields vs) (I : Inv (X.suite a ((a, oe) :: pn)) pins σ H s) (hd : H dd = some (.xd fs)) :
    ∃ (od : Obj) (mA : Str → Option Value), PySem.W.InstAt s.heap a oe C (some od) ∧ (∀ f, PySem.W.lookIn f od = some (mA f)) ∧ ∀ f, RelO (fs.lookup f) (mA f) := by
  obtain ⟨ha, _⟩ := I.pin (a, oe) (List.mem_append_left _ List.mem_cons_self)
  obtain ⟨vs, hv⟩ := hf
  obtain ⟨mA, hns, hr⟩ := (show ObjOk _ _ H s.heap dd (.xd fs) from I.hok dd _ hd)
  obtain ⟨od, ho, hl⟩ := lookIn_ns hns
  exact ⟨od, mA, ⟨ha, hz.1, by unfold PySem.W.notCls; rw [hv] <;> rfl, by rw [hz.2]; exact ho⟩, hl, hr⟩
def rP (K : PySem.W.Frag) (a : Addr) (cls : Value) (d : Option Addr) : List V → Hp → VK → Prop := fun xs H Q => ∃ (C dd : Addr) (fs : List (Str × V)) (c : V) (cv : Value) (b : Bool), xs = [.ref a, c] ∧ cls = .ref C ∧ d = some dd ∧ H dd = some (.xd fs) ∧ XCls K C ∧ (∀ u, RelV c u → u = cv) ∧ PySem.W.kitOne K (.ref C) cv = some b ∧ Q (.bl b) H
def tByX (K : PySem.W.Frag) (a : Addr) (cls : Value) (d : Option Addr) (f : Str) (te : TE) : TE := fun σ H Q => te σ H fun x H1 => ∃ (C dd : Addr) (fs : List (Str × V)) (v : V), x = .ref a ∧ cls = .ref C ∧ d = some dd ∧ H1 dd = some (.xd fs) ∧ XCls K C ∧ PySem.W.findIn K (.ref C) f = some none ∧ fs.lookup f = some v ∧ Q v H1
/-- isinstance(e, c), e the error that the suite holds -/
theorem call_isP (hz : Zc cls d oe) (hf : ∃ vs, oe.data = .fields vs) : CallR (X.suite a ((a, oe) :: pn)) (.builtin "isinstance") (rP X.K a cls d) := by
  intro pins s σ H xs us Q I r h
  obtain ⟨C, dd, fs, c, cv, b, rfl, rfl, rfl, hx, T, hcv, e, q⟩ := h
  obtain ⟨u, v, rfl, ru, rv⟩ := Vals.two r
  obtain rfl : u = Value.ref a := ru
  obtain rfl := hcv _ rv
  obtain ⟨od, mA, J, _⟩ := pin_inst hz hf I hx
  exact PySem.W.kia_one (kit_x T) I.kIn J e (fun z => nomatch z) fun tk => ⟨.bl b, H, I.kept (t' := tk) fun _ _ z => z, rfl, q⟩
/-- e.f, e the error that the suite holds -/
theorem pe_byX {e : Expr} {te : TE} {f : Str} {pos : Pos} (hz : Zc cls d oe) (hf : ∃ vs, oe.data = .fields vs) (he : PE (X.suite a ((a, oe) :: pn)) e te) (hb : attributeBase e f X.env (eval e X.env) = eval e X.env := by rfl) :
    PE (X.suite a ((a, oe) :: pn)) (.Attribute e f pos) (tByX X.K a cls d f te) := by
  refine ⟨fun pins s σ H Q I h => ?_⟩
  refine attr_of hb (thn (he.run pins s σ H _ I h) fun u s1 ⟨x, H1, I1, rx, C, dd, fs, v, ex, ec, ed, hx, T, no, hl, q⟩ => ?_)
  subst ex ec ed
  obtain rfl : u = Value.ref a := rx
  obtain ⟨od, mA, J, hk, hr⟩ := pin_inst hz hf I1 hx
  obtain ⟨w', hu, rw'⟩ := RelO.some_of (v := v) (o := mA f) (by rw [← hl]; exact hr f)
  exact HandSPX.exc_get I1.kIn J T.ga T.gt T.sub (PySem.W.findObj_own T.hd no rfl (by rw [hk, hu])) (handed_of rw') ⟨v, H1, I1.tok _, rw', q⟩
end
end L2
namespace KH
open PySem L2 KX
/-! ### what is shown of values -/
theorem list_text_le (ts : List Str) : (listText ts).length ≤ piled ts + 2 := by
  have e1 : (("]" : String) : Str).length = 1 := rfl
  have e2 : (("[" : String) : Str).length = 1 := rfl
  unfold listText
  rw [strLen_append, e1]
  cases ts with
  | nil => decide
  | cons t ts =>
    have e3 : textFrom 0 "[" (t :: ts) = textFrom 1 (("[" : Str) ++ t) ts := rfl
    rw [e3, textFrom_length_pos _ _ _ (by decide), strLen_append, e2, piled_cons]
    omega
theorem menu_ok : ∀ d ∈ menu, d.showable = true ∧ d.hasDict = false ∧ d.depth ≤ 5 ∧ d.shown.length ≤ 100 := by decide +kernel
theorem all_ok : ∀ ds : List PyData, (∀ d ∈ ds, d ∈ menu) → PyData.showableAll ds = true ∧ PyData.hasDictAll ds = false ∧ PyData.depthAll ds ≤ 5 ∧ piled (PyData.shownAll ds) ≤ 102 * ds.length
  | [], _ => ⟨rfl, rfl, Nat.zero_le _, Nat.le_refl _⟩
  | d :: ds, h => by
    obtain ⟨a1, a2, a3, a4⟩ := menu_ok d (h d List.mem_cons_self)
    obtain ⟨b1, b2, b3, b4⟩ := all_ok ds fun e he => h e (List.mem_cons_of_mem _ he)
    refine ⟨by simp [PyData.showableAll, a1, b1], by simp [PyData.hasDictAll, a2, b2], by simp only [PyData.depthAll]; omega, ?_⟩
    simp only [PyData.shownAll, piled_cons, List.length_cons]
    omega
theorem list_ok {ds : List PyData} (h : ∀ d ∈ ds, d ∈ menu) (hl : ds.length ≤ 6) : (PyData.list ds).showable = true ∧ (PyData.list ds).hasDict = false ∧ (PyData.list ds).depth ≤ 60 ∧ (PyData.list ds).shown.length ≤ sizeLine := by
  obtain ⟨b1, b2, b3, b4⟩ := all_ok ds h
  refine ⟨by simpa [PyData.showable] using b1, by simpa [PyData.hasDict] using b2, by simp only [PyData.depth]; omega, ?_⟩
  have q := list_text_le (PyData.shownAll ds)
  simp only [PyData.shown]
  exact Nat.le_of_lt (small1000 (by omega))
end KH
set_option Elab.async false
set_option linter.all false
set_option maxRecDepth 100000
set_option maxHeartbeats 4000000
/-! The law's own def, walked. -/
namespace KH
open PySem L2 KX
structure TxtL (P : Program) (w : World) (K : PySem.W.Frag) (mg : Str → Option Value) (C I : Nat → Addr) (D : Nat → FuncData) (CH fPen fVal fMade fFld fKnd : Addr) : Prop where
  e : TxtE P w K mg C I D CH
  p : TxtP K mg
  pen : mg "_law_pen" = some (.ref fPen)
  kPen : PySem.W.keepIn K (.ref fPen) = true
  val : mg "_law_value" = some (.ref fVal)
  kVal : PySem.W.keepIn K (.ref fVal) = true
  made : mg "_law_made_errors" = some (.ref fMade)
  kMade : PySem.W.keepIn K (.ref fMade) = true
  fld : mg "_law_fields" = some (.ref fFld)
  kFld : PySem.W.keepIn K (.ref fFld) = true
  knd : mg "_law_kinds" = some (.ref fKnd)
  kKnd : PySem.W.keepIn K (.ref fKnd) = true
  enm : mg "enumerate" = none
  rpr : mg "repr" = none
  rng : mg "range" = none
  vle : mg "ValueError" = none
  hrs : mg "HoursError" = some (.ref CH)
  kitH : ∀ i, i < 14 → PySem.W.kitOne K (.ref (C i)) (.ref CH) = some true
  kitV : ∀ i, i < 14 → PySem.W.kitOne K (.ref (C i)) (.type "ValueError") = some true
  exm : PySem.W.exmOne K (.ref (C 7)) (.ref CH) = some true
  k12 : PySem.W.keepIn K (.ref (C 12)) = true
  k13 : PySem.W.keepIn K (.ref (C 13)) = true
  x12 : PySem.W.excIn K (C 12) [.type "ValueError", .type "Exception", .type "BaseException", .type "object"] "ValueError.__new__" = true
  x13 : PySem.W.excIn K (C 13) [.type "ValueError", .type "Exception", .type "BaseException", .type "object"] "ValueError.__new__" = true
/-! ### the data that are compared -/
def bs (i : Nat) : List Bool := ([0, 1, 2, 3, 4, 5, 6, 7, 8, 9, 10, 11, 12, 13] : List Nat).map fun j => decide (i = j)
theorem bs_shaped : ∀ i, i < 14 → SeqAt.shaped (.list ((bs i).map PyData.bool)) = true ∧ PyData.eqv (.list ((bs i).map PyData.bool)) (.list ((bs i).map PyData.bool)) = true := by decide +kernel
theorem dp_bools {K : PySem.W.Frag} {H : Hp} : ∀ l : List Bool, DpAll K H (l.map V.bl) (l.map PyData.bool)
  | [] => .nil
  | b :: l => .cons (.bl b) (dp_bools l)
theorem bs_range (i : Nat) : (List.range 14).map (fun j => V.bl (decide (V.int (0 + ((j : Nat) : Int)) = V.int (i : Nat)))) = (bs i).map V.bl := by
  have e : ∀ j : Nat, decide (V.int (0 + (j : Int)) = V.int (i : Nat)) = decide (i = j) := fun j => by
    by_cases h : i = j
    · subst h
      rw [decide_eq_true rfl, decide_eq_true]
      rw [Int.zero_add]
    · rw [decide_eq_false h, decide_eq_false]
      intro z
      have := V.int.inj z
      omega
  unfold bs
  rw [List.map_map]
  have e2 : (fun j : Nat => V.bl (decide (V.int (0 + (j : Int)) = V.int (i : Nat)))) = V.bl ∘ fun j => decide (i = j) := funext fun j => congrArg V.bl (e j)
  rw [e2]
  rfl
def d123 : PyData := .list [.int 1, .list [.int 2], .int 3]
theorem d123_ok : SeqAt.shaped d123 = true ∧ PyData.eqv d123 d123 = true := by decide +kernel
theorem dTrue_ok : SeqAt.shaped (.list [.bool true]) = true ∧ PyData.eqv (.list [.bool true]) (.list [.bool true]) = true := by decide +kernel
theorem dp123 {K : PySem.W.Frag} {H : Hp} {a b : Addr} (h1 : H a = some (.lst [.int 1, .ref b, .int 3])) (h2 : H b = some (.lst [.int 2])) : Dp K H (.ref a) d123 :=
  .lst (SqL.of h1) (.cons (.int 1) (.cons (.lst (SqL.of h2) (.cons (.int 2) .nil)) (.cons (.int 3) .nil)))
/-! ### the fields of the i-th error -/
theorem nm_len : ∀ i, i < 14 → (nmOf i).length ≤ 4 := by decide
theorem fs_vals {x y z : V} : ∀ i, i < 14 → ((nmOf i).map fun n => ((fsOf i x y z).lookup n).getD .non) = [x, y, z, x].take (nmOf i).length
  | 0, _ => by with_unfolding_all rfl
  | 1, _ => by with_unfolding_all rfl
  | 2, _ => by with_unfolding_all rfl
  | 3, _ => by with_unfolding_all rfl
  | 4, _ => by with_unfolding_all rfl
  | 5, _ => by with_unfolding_all rfl
  | 6, _ => by with_unfolding_all rfl
  | 7, _ => by with_unfolding_all rfl
  | 8, _ => by with_unfolding_all rfl
  | 9, _ => by with_unfolding_all rfl
  | 10, _ => by with_unfolding_all rfl
  | 11, _ => by with_unfolding_all rfl
  | 12, _ => rfl
  | 13, _ => rfl
theorem cut_vals {x y z : V} : ∀ n, n ≤ 4 → cutV [x, y, z, x, y, z] none (some ((n : Nat) : Int)) = [x, y, z, x].take n
  | 0, _ => rfl
  | 1, _ => rfl
  | 2, _ => rfl
  | 3, _ => rfl
  | 4, _ => rfl
section
variable {P : Program} {w : World} {K : PySem.W.Frag} {mg : Str → Option Value} {base : Heap} {C I : Nat → Addr} {D : Nat → FuncData} {CH : Addr}
theorem lk_of {x y z : V} : ∀ i, i < 14 → ∀ n ∈ nmOf i, (fsOf i x y z).lookup n = some (((fsOf i x y z).lookup n).getD .non) := by
  intro i hi n hn
  have key : ∀ (l : List Str) (vs : List V), l.length ≤ vs.length → ∀ n ∈ l, ((l.zip vs).reverse.lookup n).isSome = true := by
    intro l vs hl n hn
    have hm : n ∈ ((l.zip vs).reverse).map (·.1) := by
      rw [List.map_reverse, List.mem_reverse, List.map_fst_zip hl]
      exact hn
    generalize (l.zip vs).reverse = q at hm
    induction q with
    | nil => simp at hm
    | cons p q ih =>
      obtain ⟨f, v⟩ := p
      simp only [List.map_cons, List.mem_cons] at hm
      by_cases e : n = f
      · subst e; simp [List.lookup]
      · have e' : (n == f) = false := by simpa using e
        simp only [List.lookup, e']
        exact ih (hm.resolve_left e)
  have h := key (nmOf i) [x, y, z, x] (nm_len i hi) n hn
  unfold fsOf
  cases e : ((nmOf i).zip [x, y, z, x]).reverse.lookup n with
  | none => rw [e] at h; cases h
  | some v => rfl
theorem nm_all : ∀ i, i < 14 → ∀ n ∈ nmOf i, n ∈ allN := by decide +kernel
theorem no_of (T : TxtE P w K mg C I D CH) : ∀ i, i < 14 → ∀ n ∈ nmOf i, PySem.W.findIn K (.ref (C i)) n = some none
  | 0, _ => T.e0.no
  | 1, _ => T.e1.no
  | 2, _ => T.e2.no
  | 3, _ => T.e3.no
  | 4, _ => T.e4.no
  | 5, _ => T.e5.no
  | 6, _ => T.e6.no
  | 7, _ => T.e7.no
  | 8, _ => T.e8.no
  | 9, _ => T.e9.no
  | 10, _ => T.e10.no
  | 11, _ => T.e11.no
  | 12, _ => fun _ h => nomatch h
  | 13, _ => fun _ h => nomatch h
theorem name_ok (T : TxtE P w K mg C I D CH) {x y z : V} {i : Nat} (hi : i < 14) {n : Str} (hn : n ∈ nmOf i) : NameOk K (C i) (fsOf i x y z) n :=
  ⟨nm_all i hi n hn, no_of T i hi n hn, lk_of i hi n hn, T.xc i hi⟩
theorem Item.but {H H' : Hp} {p : Addr} {k : Nat} {v : V} (hP : Pen H p k) (e : But p H H') (h : Item K H v) : Item K H' v := by
  obtain ⟨l, cs, i, d, f, hp, _⟩ := hP
  obtain ⟨q, hm, hd⟩ := h
  exact ⟨q, hm, dp_but hp e hd⟩
theorem Item.mono {H H' : Hp} {v : V} (e : Same H H') (h : Item K H v) : Item K H' v := by
  obtain ⟨q, hm, hd⟩ := h
  exact ⟨q, hm, dp_same e hd⟩
theorem items {H : Hp} : ∀ l : List V, (∀ v ∈ l, Item K H v) → ∃ ds : List PyData, DpAll K H l ds ∧ ds.length = l.length ∧ ∀ d ∈ ds, d ∈ menu
  | [], _ => ⟨[], .nil, rfl, fun _ h => nomatch h⟩
  | v :: l, h => by
    obtain ⟨d, hm, hd⟩ := h v List.mem_cons_self
    obtain ⟨ds, h1, h2, h3⟩ := items l fun u hu => h u (List.mem_cons_of_mem _ hu)
    exact ⟨d :: ds, .cons hd h1, by simp [h2], fun e he => (List.mem_cons.mp he).elim (fun z => z ▸ hm) (h3 e)⟩
theorem dpAll_same {H H' : Hp} (e : Same H H') {vs : List V} {ds : List PyData} (h : DpAll K H vs ds) : DpAll K H' vs ds := dp_byAll (fun _ _ => sqL_same e) (fun _ _ => sqT_same e) ds vs h
end
end KH
set_option Elab.async false
set_option linter.all false
set_option maxRecDepth 100000
set_option maxHeartbeats 8000000
/-! The law's own def, walked. -/
namespace KH
open PySem L2 KX
def spLaw (K : PySem.W.Frag) : Sp := fun vs H Q _ => ∃ (a : Addr) (ns : List Int), vs = [.ref a] ∧ SqL K H a (ns.map V.int) ∧ ∀ H', Q (.bl true) H'
section
variable {P : Program} {w : World} {K : PySem.W.Frag} {mg : Str → Option Value} {base : Heap} {C I : Nat → Addr} {D : Nat → FuncData} {CH fPen fVal fMade fFld fKnd : Addr} {dPen dVal dMade dFld dKnd : FuncData}
abbrev nLaw : List Str := ["script", "pen", "values", "at", "made", "one", "names", "due", "kept", "last", "found", "told", "place"]
theorem scLaw : FnScope nLaw ["script"] (defScope sLaw) := ⟨rfl, rfl, rfl, by decide +kernel, rfl, by decide +kernel, by decide +kernel⟩
theorem ok_law {f : Addr} {fd : FuncData} (F : Fun K "law" "law" sLaw f fd) (T : TxtL P w K mg C I D CH fPen fVal fMade fFld fKnd)
    (GP : FnOk P w K mg base CX0 1 fPen dPen ["script"] (spPen K)) (bP : Binds K dPen ["script"] [])
    (GV : FnOk P w K mg base CX0 3 fVal dVal ["pen"] (spValue K)) (bV : Binds K dVal ["pen"] [])
    (GM : FnOk P w K mg base CX0 3 fMade dMade ["one", "two", "three"] (spMade K C)) (bM : Binds K dMade ["one", "two", "three"] [])
    (GF : FnOk P w K mg base CX0 1 fFld dFld ["one", "names"] (spFields K)) (bF : Binds K dFld ["one", "names"] [])
    (GK : FnOk P w K mg base CX0 1 fKnd dKnd ["one"] (spKinds K C)) (bK : Binds K dKnd ["one"] []) : FnG P w K mg base CX0 4 f fd ["script"] (spLaw K) := by
  refine F.okG scLaw (fun vs H Q E h => ?_) (fun cdv A outer s H vs Q E hfree hr h => ?_)
  · obtain ⟨a, ns, rfl, _⟩ := h
    rfl
  · obtain ⟨a, ns, rfl, hS, hQ⟩ := h
    have nd := scLaw.nd
    have hr1 : Room 1 _ := hr.mono (by decide)
    have hr2 : Room 2 _ := hr.mono (by decide)
    have hu := hu_of hr
    have hun := hr.units
    refine ⟨_, PSs.nox (pss_cons (ps_set (i := 1) nd rfl (Or.inl rfl) (pe_call GP hr1 (by rfl) T.pen T.kPen bP .nil pass0 (pa_cons (pv 0) pa_nil)))
      (pss_cons (ps_set (i := 2) nd rfl (Or.inl rfl) (pe_lst (pa_cons (pe_call GV hr (by rfl) T.val T.kVal bV .nil pass0 (pa_cons (pv 1) pa_nil)) (pa_cons (pe_call GV hr (by rfl) T.val T.kVal bV .nil pass0 (pa_cons (pv 1) pa_nil)) (pa_cons (pe_call GV hr (by rfl) T.val T.kVal bV .nil pass0 (pa_cons (pv 1) pa_nil)) pa_nil)))))
      (pss_cons (ps_for PassesOwn.never rfl (pi_enum (by rfl) T.enm (pa_cons (pe_op op_cat (pe_call GM hr (by rfl) T.made T.kMade bM .nil pass0 (pa_cons (pe_ix ix_list (pv 2) pe_int (fun _ _ => rfl)) (pa_cons (pe_ix ix_list (pv 2) pe_int (fun _ _ => rfl)) (pa_cons (pe_ix ix_list (pv 2) pe_int (fun _ _ => rfl)) pa_nil)))) (pe_lst (pa_cons (pe_tup (pa_cons (pe_exc0 PySem.F.excBase_ValueError T.x12 T.e.m12 T.k12 (by rfl)) (pa_cons (pe_lst pa_nil) pa_nil))) (pa_cons (pe_tup (pa_cons (pe_exc0 PySem.F.excBase_ValueError T.x13 T.e.m13 T.k13 (by rfl)) (pa_cons (pe_lst pa_nil) pa_nil))) pa_nil)))) pa_nil)) (pg_tup rfl (pgs_cons (pg_name (i := 3) nd rfl (Or.inr rfl)) (pgs_cons (pg_name (i := 4) nd rfl (Or.inl rfl)) pgs_nil)))
      (pss_cons (ps_asg (pv 4) (pg_tup rfl (pgs_cons (pg_name (i := 5) nd rfl (Or.inl rfl)) (pgs_cons (pg_name (i := 6) nd rfl (Or.inl rfl)) pgs_nil))))
      (pss_cons (ps_if (PW.pt (pw_or (pt_not (pt_val (pe_callB call_isX (by rfl) T.e.isin (by decide +kernel) (pa_cons (pv 5) (pa_cons (pe_glob (v := .ref CH) (by rfl) T.hrs rfl) pa_nil))))) (pw_or1 (pt_not (pt_val (pe_callB call_isX (by rfl) T.e.isin (by decide +kernel) (pa_cons (pv 5) (pa_cons (pe_bltn (v := .ty "ValueError") (u := .type "ValueError") (by rfl) T.vle (by decide +kernel) rfl) pa_nil)))))))) (pss_one (ps_ret pe_bl)) pss_nil)
      (pss_cons (ps_set (i := 7) nd rfl (Or.inl rfl) (pe_slice sl_list (pe_op op_cat (pv 2) (pv 2)) po_none (po_some (pe_callB call_len_seq (by rfl) T.p.len (by decide +kernel) (pa_cons (pv 6) pa_nil)))))
      (pss_cons (ps_if (pt_cmpR op_ne (pe_callB (call_reprD hfree hun) (by rfl) T.rpr (by decide +kernel) (pa_cons (pe_call GF hr1 (by rfl) T.fld T.kFld bF .nil pass0 (pa_cons (pv 5) (pa_cons (pv 6) pa_nil))) pa_nil)) (pe_callB (call_reprD hfree hun) (by rfl) T.rpr (by decide +kernel) (pa_cons (pv 7) pa_nil)) (nomark _)) (pss_one (ps_ret pe_bl)) pss_nil)
      (pss_one (ps_if (pt_cmpR (op_neD hun) (pe_call GK hr1 (by rfl) T.knd T.kKnd bK .nil pass0 (pa_cons (pv 5) pa_nil)) (pe_lc (own := [("place", 12)]) (g := gName 12) (tt := tYes) rfl nd (pi_range1 (by rfl) T.rng (pa_cons pe_int pa_nil)) (blkOk_by (own := [("place", 12)]) (N := nLaw) (sc := defScope sLaw) (by decide +kernel)) (fun _ _ _ _ _ => (pg_name (i := 12) nd rfl (Or.inl rfl))) (fun _ _ _ _ _ => pts_nil) (fun _ _ _ _ _ => pe_cmpR op_eq (pv 12) (pv 3) (nomark _))) (nomark _)) (pss_one (ps_ret pe_bl)) pss_nil)))))))
      (pss_cons (ps_set (i := 8) nd rfl (Or.inl rfl) (pe_lst (pa_cons pe_int (pa_cons (pe_lst (pa_cons pe_int pa_nil)) pa_nil))))
      (pss_cons (ps_set (i := 9) nd rfl (Or.inl rfl) (pe_oexV T.e.e3.oex T.e.e3.ini T.e.e3.tI (T.e.e3.ok _) hr2 T.e.e3.bi pass0 (by rfl) T.e.e3.mgx (pa_cons pe_str (pa_cons (pv 8) pa_nil))))
      (pss_cons (ps_expr (pe_bm PySem.F.plainAttrs_list PySem.F.slot_list_append PySem.F.type_list_append mt_append (pv 8) (pa_cons pe_int pa_nil)))
      (pss_cons (ps_if (pt_cmpR (op_neD hun) (pe_efld (pv 9)) (pe_lst (pa_cons pe_int (pa_cons (pe_lst (pa_cons pe_int pa_nil)) (pa_cons pe_int pa_nil)))) (nomark _)) (pss_one (ps_ret pe_bl)) pss_nil)
      (pss_cons (ps_set (i := 10) nd rfl (Or.inl rfl) (pe_lst pa_nil))
      (pss_cons (ps_try_as (i := 11) (Wout := fun _ _ _ _ => False) (c := .ref CH) rfl rfl nd rfl rfl ⟨by rfl, by decide, .inl T.hrs⟩ (ts := fun a cls d => tDrop (tBM K "list" rAppend (tVar 10) (tCons (tAndV (tCB (rP K a cls d) (tCons (tVar 11) (tCons (tC (.ty "ValueError")) tNil))) (tAndV (tCB (rP K a cls d) (tCons (tVar 11) (tCons (tC (.ref (C 7))) tNil))) (tOp (rEqD K) (tByX K a cls d "what" (tVar 11)) (tLst (tCons (tC (.int 1)) (tCons (tLst (tCons (tC (.int 2)) tNil)) (tCons (tC (.int 3)) tNil))))))) tNil))) takes0
      (fun W pn xe tk _ => pss_one (ps_raise rfl tk (pmk_oex T.e.e7.oex T.e.e7.ini T.e.e7.tI (T.e.e7.ok _) hr2 T.e.e7.bi .nil pass0 (by rfl) T.e.e7.mgx (pa_cons (pe_lst (pa_cons pe_int (pa_cons (pe_lst (pa_cons pe_int pa_nil)) (pa_cons pe_int pa_nil)))) pa_nil))))
      (fun a oe cls d pn hz hf => pss_one (by exact (ps_expr (pe_bm PySem.F.plainAttrs_list PySem.F.slot_list_append PySem.F.type_list_append mt_append (pv 10) (pa_cons (pe_and (pe_callB (call_isP hz hf) (by rfl) T.e.isin (by decide +kernel) (pa_cons (pv 11) (pa_cons (pe_bltn (v := .ty "ValueError") (u := .type "ValueError") (by rfl) T.vle (by decide +kernel) rfl) pa_nil))) (pe_and (pe_callB (call_isP hz hf) (by rfl) T.e.isin (by decide +kernel) (pa_cons (pv 11) (pa_cons (pe_glob (v := .ref (C 7)) (by rfl) T.e.m7 rfl) pa_nil))) (pe_one (pe_cmpR (op_eqD (by exact hun)) (pe_byX hz hf (pv 11)) (pe_lst (pa_cons pe_int (pa_cons (pe_lst (pa_cons pe_int pa_nil)) (pa_cons pe_int pa_nil)))) (nomark _))))) pa_nil))))))
      (pss_one (ps_ret (pe_cmpR (op_eqD hun) (pv 10) (pe_lst (pa_cons pe_bl pa_nil)) (nomark _))))))))))))), ?_⟩
    -- pen = _law_pen(script); the three values
    refine ⟨_, rfl, a, ns, rfl, hS, fun H1 p s1 np hP => ?_⟩
    refine ⟨_, rfl, p, 0, rfl, hP, by decide, fun H2 x e1 hP1 hx => ⟨_, rfl, p, 1, rfl, hP1, by decide, fun H3 y e2 hP2 hy => ⟨_, rfl, p, 2, rfl, hP2, by decide, fun H4 z e3 hP3 hz => ⟨by show 3 ≤ sizeLine; decide, fun L nL => ?_⟩⟩⟩⟩
    have ix : Item K H4 x := (hx.but hP1 e2).but hP2 e3
    have iy : Item K H4 y := hy.but hP2 e3
    have s5 := same_new (o := .lst [x, y, z]) nL
    -- the list that is walked
    refine ⟨_, rfl, L, _, _, x, rfl, rfl, .inl (.inl upd_same), atI_nat (j := 0) rfl, _, rfl, L, _, _, y, rfl, rfl, .inl (.inl upd_same), atI_nat (j := 1) rfl, _, rfl, L, _, _, z, rfl, rfl, .inl (.inl upd_same), atI_nat (j := 2) rfl, ?_⟩
    refine ⟨x, y, z, rfl, fun H6 M rows s6 hM hlen hrows => ?_⟩
    refine fun a12 n12 => ⟨by decide, fun l12 m12 => ⟨by show 2 ≤ sizeLine; decide, fun r12 q12 => ?_⟩⟩
    refine fun a13 n13 => ⟨by decide, fun l13 m13 => ⟨by show 2 ≤ sizeLine; decide, fun r13 q13 => ⟨by show 2 ≤ sizeLine; decide, fun L2 nL2 => ?_⟩⟩⟩
    have c1 := same_new (o := exo a12 (C 12) none) n12
    have c2 := same_new (o := .lst []) m12
    have c3 := same_new (o := .tup [.ref a12, .ref l12]) q12
    have c4 := same_new (o := exo a13 (C 13) none) n13
    have c5 := same_new (o := .lst []) m13
    have c6 := same_new (o := .tup [.ref a13, .ref l13]) q13
    have c7 := same_new (o := .lst [.ref r12, .ref r13]) nL2
    have t7 := c7
    have t6 := c6.trans t7
    have t5 := c5.trans t6
    have t4 := c4.trans t5
    have t3 := c3.trans t4
    have t2 := c2.trans t3
    have t1 := c1.trans t2
    refine ⟨M, L2, rows, _, rfl, rfl, t1 _ _ hM, upd_same, by rw [hlen]; show 12 + 2 ≤ sizeLine; decide, fun R nR => ?_⟩
    have c8 := same_new (o := .lst (rows ++ [.ref r12, .ref r13])) nR
    have row : ∀ i v, (rows ++ [V.ref r12, .ref r13])[i]? = some v → i < 14 ∧ RowAt K (upd (upd (upd (upd (upd (upd (upd (upd H6 a12 (exo a12 (C 12) none)) l12 (.lst [])) r12 (.tup [.ref a12, .ref l12])) a13 (exo a13 (C 13) none)) l13 (.lst [])) r13 (.tup [.ref a13, .ref l13])) L2 (.lst [.ref r12, .ref r13])) R (.lst (rows ++ [.ref r12, .ref r13]))) v (C i) (fsOf i x y z) (nmOf i) := by
      intro i v hv
      by_cases h12 : i < 12
      · rw [List.getElem?_append_left (by omega)] at hv
        exact ⟨by omega, ((hrows i v hv).mono t1).mono c8⟩
      · rw [List.getElem?_append_right (by omega), hlen] at hv
        have h2 : i = 12 ∨ i = 13 := by
          have q := (List.getElem?_eq_some_iff.mp hv).1
          simp at q
          omega
        rcases h2 with rfl | rfl
        · obtain rfl := Option.some.inj hv
          exact ⟨by decide, r12, a12, l12, rfl, .inl (.inl (c8 _ _ (t4 _ _ upd_same))), .inl ⟨c8 _ _ (t2 _ _ upd_same), rfl⟩, .inl (.inl (c8 _ _ (t3 _ _ upd_same)))⟩
        · obtain rfl := Option.some.inj hv
          exact ⟨by decide, r13, a13, l13, rfl, .inl (.inl (c8 _ _ (t7 _ _ upd_same))), .inl ⟨c8 _ _ (t5 _ _ upd_same), rfl⟩, .inl (.inl (c8 _ _ (t6 _ _ upd_same)))⟩
    have hL9 := c8 _ _ (t1 _ _ (s6 _ _ (upd_same (H := H4) (a := L) (o := .lst [x, y, z]))))
    have s9 := ((s5.trans s6).trans t1).trans c8
    have hR9 := upd_same (H := (upd (upd (upd (upd (upd (upd (upd H6 a12 (exo a12 (C 12) none)) l12 (.lst [])) r12 (.tup [.ref a12, .ref l12])) a13 (exo a13 (C 13) none)) l13 (.lst [])) r13 (.tup [.ref a13, .ref l13])) L2 (.lst [.ref r12, .ref r13]))) (a := R) (o := .lst (rows ++ [V.ref r12, .ref r13]))
    have hlen14 : (rows ++ [V.ref r12, .ref r13]).length = 14 := by rw [List.length_append, hlen]; rfl
    generalize hH9 : upd (upd (upd (upd (upd (upd (upd (upd H6 a12 (exo a12 (C 12) none)) l12 (.lst [])) r12 (.tup [.ref a12, .ref l12])) a13 (exo a13 (C 13) none)) l13 (.lst [])) r13 (.tup [.ref a13, .ref l13])) L2 (.lst [.ref r12, .ref r13])) R (.lst (rows ++ [V.ref r12, .ref r13])) = H9 at row hL9 s9 hR9 ⊢
    clear c8 t1 t2 t3 t4 t5 t6 t7 c1 c2 c3 c4 c5 c6 c7 hrows hM s6 s5 nR nL2 q13 m13 n13 q12 m12 n12 hH9
    generalize hall : rows ++ [V.ref r12, .ref r13] = all at row hR9 hlen14 ⊢
    have iz9 := hz.mono s9
    have ix9 := ix.mono s9
    have iy9 := iy.mono s9
    refine ⟨R, all, rfl, SqL.of hR9, for_enum (K := K) (a := R) (xs := all) (fun i σ H' => ∃ v3 v4 v5 v6 v7 : Option V, σ = [some (.ref a), some (.ref p), some (.ref L), v3, v4, v5, v6, v7, none, none, none, none, none] ∧ Same H9 H')
      ⟨none, none, none, none, none, rfl, Same.refl _⟩ (fun i σ H' _ ⟨_, _, _, _, _, _, s⟩ => SqL.of (s _ _ hR9)) ?_ ?_⟩
    · rintro i v U σ H' hi ⟨v3, v4, v5, v6, v7, rfl, sH⟩ nU
      obtain ⟨hi14, r, a1, l1, rfl, hr1', hA0, hN0⟩ := row i v hi
      have sU := sH.trans (same_new (o := .tup [.int (i : Nat), .ref r]) nU)
      have hA1 := hA0.mono sU
      have hN1 := sqL_same sU hN0
      refine ⟨U, _, rfl, .inl (.inl upd_same), rfl, _, _, rfl, _, _, rfl, rfl, ?_⟩
      generalize upd H' U (.tup [.int (i : Nat), .ref r]) = HU at sU hA1 hN1
      -- one, names = made
      refine ⟨_, rfl, r, _, rfl, sqT_same sU hr1', rfl, _, _, rfl, _, _, rfl, rfl, ?_⟩
      -- its kinds, first
      have hxc := T.e.xc i hi14
      refine ⟨_, rfl, a1, C i, _, .ref CH, .ref CH, true, rfl, hA1, hxc, (fun u r => r), T.kitH i hi14, true, rfl, ?_⟩
      refine iteF ?_
      refine ⟨_, rfl, a1, C i, _, .ty "ValueError", .type "ValueError", true, rfl, hA1, hxc, (fun u r => r), T.kitV i hi14, true, rfl, ?_⟩
      refine iteF ?_
      -- due
      have hLU := sU _ _ hL9
      refine ⟨_, rfl, _, rfl, L, L, _, _, rfl, rfl, hLU, hLU, by show 3 + 3 ≤ sizeLine; decide, fun S nS => ?_⟩
      have sS := same_new (o := .lst ([x, y, z] ++ [x, y, z])) nS
      refine ⟨_, rfl, l1, _, rfl, .inl (sqL_same sS hN1), _, rfl, S, _, rfl, SqL.of upd_same, fun G nG => ?_⟩
      have e7 : cutV ([x, y, z] ++ [x, y, z]) none (some (((nmOf i).map V.str).length : Int)) = [x, y, z, x].take (nmOf i).length := by
        rw [List.length_map]
        exact cut_vals _ (nm_len i hi14)
      rw [e7]
      have sG := same_new (o := .lst ([x, y, z, x].take (nmOf i).length)) nG
      have hG := upd_same (H := upd HU S (.lst ([x, y, z] ++ [x, y, z]))) (a := G) (o := .lst ([x, y, z, x].take (nmOf i).length))
      have sUG := (sU.trans sS).trans sG
      generalize upd (upd HU S (.lst ([x, y, z] ++ [x, y, z]))) G (.lst ([x, y, z, x].take (nmOf i).length)) = HG at sUG hG
      -- the two texts
      have hAG := hA0.mono sUG
      have hNG := sqL_same sUG hN0
      refine ⟨_, rfl, _, rfl, a1, l1, C i, _, nmOf i, rfl, hAG, hNG, Nat.le_trans (nm_len i hi14) (by decide), fun n hn => name_ok T.e hi14 hn, fun HF F sF hF => ?_⟩
      rw [fs_vals i hi14] at hF
      obtain ⟨ds, hds, hdl, hdm⟩ := items (K := K) (H := HF) ([x, y, z, x].take (nmOf i).length) (fun v hv => by
        have hv' := List.mem_of_mem_take hv
        simp only [List.mem_cons, List.not_mem_nil, or_false] at hv'
        have s' := sUG.trans sF
        rcases hv' with rfl | rfl | rfl | rfl
        · exact ix9.mono s'
        · exact iy9.mono s'
        · exact iz9.mono s'
        · exact ix9.mono s')
      obtain ⟨k1, k2, k3, k4⟩ := list_ok hdm (by rw [hdl, List.length_take]; have := nm_len i hi14; show min _ 4 ≤ 6; omega)
      refine ⟨F, .list ds, rfl, .lst (SqL.of hF) hds, k1, k2, k3, k4, _, rfl, G, .list ds, rfl, .lst (SqL.of (sF _ _ hG)) hds, k1, k2, k3, k4, rfl, _, rfl, ?_⟩
      refine iteNS rfl ?_
      -- the kinds
      refine ⟨_, rfl, a1, i, _, rfl, hi14, hAG.mono sF, fun HK k sK hk => ?_⟩
      refine ⟨_, rfl, by decide, by decide, fun W nW => lc_range (lo := 0) (n := (14 : Int).toNat) (fun j H'' => Same HK H'' ∧ H'' W = some (.lst ((List.range j).map fun j => V.bl (decide (V.int (0 + ((j : Nat) : Int)) = V.int (i : Nat))))))
        ⟨same_new nW, upd_same⟩ ?_ ?_⟩
      · rintro j H'' hj ⟨sJ, hW⟩
        refine ⟨rfl, ?_⟩
        refine ⟨_, rfl, _, rfl, rfl, _, hW, ?_, ?_, ?_⟩
        · have hj' : j < 14 := hj
          rw [List.length_map, List.length_range]
          exact small1000 (by omega)
        · intro b o eb
          rw [upd_ne (ne_of_none eb nW)]
          exact sJ _ _ eb
        · rw [upd_same, List.range_succ, List.map_append]
          rfl
      · rintro H'' ⟨sJ, hW⟩
        have hW' : H'' W = some (.lst ((bs i).map V.bl)) := by
          rw [hW]
          exact congrArg (fun l => some (HO.lst l)) (bs_range i)
        have hk' : HK k = some (.lst ((bs i).map V.bl)) := hk
        refine ⟨.list ((bs i).map PyData.bool), .list ((bs i).map PyData.bool), .lst (SqL.of (sJ _ _ hk')) (dp_bools _), .lst (SqL.of hW') (dp_bools _), (bs_shaped i hi14).1, (bs_shaped i hi14).1, _, rfl, ?_⟩
        rw [(bs_shaped i hi14).2]
        refine iteF ?_
        exact ⟨_, _, _, _, _, rfl, ((sUG.trans sF).trans sK).trans sJ⟩
    · rintro σ H' ⟨v3, v4, v5, v6, v7, rfl, sH⟩
      -- kept, last
      refine ⟨by show 1 ≤ sizeLine; decide, fun k2 n2 => ⟨by show 2 ≤ sizeLine; decide, fun kp nk => ?_⟩⟩
      have h2 := upd_same (H := H') (a := k2) (o := .lst [.int 2])
      have sk := same_new (o := .lst [.int 1, .ref k2]) nk
      have h2' := sk _ _ h2
      have hk := upd_same (H := upd H' k2 (.lst [.int 2])) (a := kp) (o := .lst [.int 1, .ref k2])
      generalize upd (upd H' k2 (.lst [.int 2])) kp (.lst [.int 1, .ref k2]) = HA at h2' hk
      refine ⟨_, rfl, by show 2 ≤ 1000; decide, fun e ne => ⟨e, [.str "x", .ref kp], rfl, rfl, upd_same, fun d He nd' h3 h4 kpp => ⟨rfl, ?_⟩⟩⟩
      have sE : Same HA He := fun b o z => kpp b o (ne_of_none z ne) (by rw [upd_ne (ne_of_none z ne)]; exact z)
      have hkE := sE _ _ hk
      have h2E := sE _ _ h2'
      have nke : e ≠ kp := ne_of h3 hkE (fun z => by cases z)
      have nkd : d ≠ kp := ne_of h4 hkE (fun z => by cases z)
      have nk2 : k2 ≠ kp := ne_of h2E hkE (fun z => by cases z)
      -- kept.append(3)
      refine ⟨_, rfl, .inl ⟨rfl, _, SqL.of hkE⟩, kp, _, _, rfl, rfl, hkE, small1000 (by show 2 ≤ 1000; decide), ?_⟩
      have hB1 : ∀ b, b ≠ kp → (upd He kp (.lst ([.int 1, .ref k2] ++ [.int 3]))) b = He b := fun b hb => upd_ne hb
      have hB2 := upd_same (H := He) (a := kp) (o := .lst ([.int 1, .ref k2] ++ [.int 3]))
      generalize upd He kp (.lst ([.int 1, .ref k2] ++ [.int 3])) = HB at hB1 hB2
      have eB : ErrAt HB e (C 3) [("row", .ref kp), ("what", .str "x")] := .inr ⟨d, (hB1 _ nke).trans h3, (hB1 _ nkd).trans h4⟩
      have b2 : HB k2 = some (.lst [.int 2]) := (hB1 _ nk2).trans h2E
      refine ⟨_, rfl, e, C 3, _, .ref kp, rfl, eB, T.e.e3.xc, T.e.e3.no _ (by simp), by with_unfolding_all rfl, ?_⟩
      refine ⟨by show 1 ≤ sizeLine; decide, fun m2 q2 => ⟨by show 3 ≤ sizeLine; decide, fun m q => ?_⟩⟩
      have sm2 := same_new (o := .lst [.int 2]) q2
      have sm := same_new (o := .lst [.int 1, .ref m2, .int 3]) q
      refine ⟨d123, d123, dp_same (sm2.trans sm) (dp123 hB2 b2), dp123 upd_same (sm _ _ upd_same), d123_ok.1, d123_ok.1, _, rfl, ?_⟩
      rw [d123_ok.2]
      refine iteF ?_
      generalize upd (upd HB m2 (.lst [.int 2])) m (.lst [.int 1, .ref m2, .int 3]) = HC
      -- found = []; try
      refine ⟨by decide, fun F nF => ?_⟩
      have hF := upd_same (H := HC) (a := F) (o := .lst [])
      generalize upd HC F (.lst []) = HD at hF
      refine ⟨by show 1 ≤ sizeLine; decide, fun t2 r2 => ⟨by show 3 ≤ sizeLine; decide, fun t1 r1 => ?_⟩⟩
      have sr2 := same_new (o := .lst [.int 2]) r2
      have sr := same_new (o := .lst [.int 1, .ref t2, .int 3]) r1
      have hT1 := upd_same (H := upd HD t2 (.lst [.int 2])) (a := t1) (o := .lst [.int 1, .ref t2, .int 3])
      have hT2 := sr _ _ (upd_same (H := HD) (a := t2) (o := .lst [.int 2]))
      have hFE := sr _ _ (sr2 _ _ hF)
      generalize upd (upd HD t2 (.lst [.int 2])) t1 (.lst [.int 1, .ref t2, .int 3]) = HE at hT1 hT2 hFE
      refine ⟨by show 1 ≤ 1000; decide, fun a5 n5 => ⟨a5, [.ref t1], rfl, rfl, upd_same, fun d5 H5 nd5 h5 h6 kp5 => ⟨rfl, d5, _, h5, h6, ?_, ?_⟩⟩⟩
      · by_cases z : d5 = a5
        · rw [z, upd_same] at nd5
          cases nd5
        · rw [upd_ne z] at nd5
          exact nd5
      have nda : d5 ≠ a5 := fun z => by
        rw [z, upd_same] at nd5
        cases nd5
      have up5 : ∀ b o, HE b = some o → (upd (del H5 a5) d5 (.xd (([("what" : Str)].zip [V.ref t1]).reverse))) b = some o := fun b o z => by
        have nb : b ≠ a5 := ne_of_none z n5
        have nb' : b ≠ d5 := ne_of_none z (by rw [upd_ne nda] at nd5; exact nd5)
        rw [upd_ne nb', del_ne nb]
        exact kp5 b o nb (by rw [upd_ne nb]; exact z)
      have hX := upd_same (H := del H5 a5) (a := d5) (o := .xd (([("what" : Str)].zip [V.ref t1]).reverse))
      refine ⟨true, T.exm, fun _ a6 n6 => ?_, fun z => Bool.noConfusion z⟩
      generalize upd (del H5 a5) d5 (.xd (([("what" : Str)].zip [V.ref t1]).reverse)) = HG at up5 hX
      have xc7 := T.e.xc 7 (by decide)
      refine ⟨_, rfl, .inl ⟨rfl, _, SqL.of (up5 _ _ hFE)⟩, ?_⟩
      refine ⟨_, rfl, C 7, d5, _, .ty "ValueError", .type "ValueError", true, rfl, rfl, rfl, hX, xc7, (fun u r => r), T.kitV 7 (by decide), true, rfl, ?_⟩
      refine iteT ?_
      refine ⟨_, rfl, C 7, d5, _, .ref (C 7), .ref (C 7), true, rfl, rfl, rfl, hX, xc7, (fun u r => r), T.e.kit 7 7 (by decide) (by decide), true, rfl, ?_⟩
      refine iteT ?_
      refine ⟨_, rfl, C 7, d5, _, .ref t1, rfl, rfl, rfl, hX, xc7, T.e.e7.no _ (by simp), by with_unfolding_all rfl, ?_⟩
      refine ⟨by show 1 ≤ sizeLine; decide, fun w2 x2 => ⟨by show 3 ≤ sizeLine; decide, fun w x' => ?_⟩⟩
      have sw2 := same_new (o := .lst [.int 2]) x2
      have sw := same_new (o := .lst [.int 1, .ref w2, .int 3]) x'
      refine ⟨d123, d123, dp_same (sw2.trans sw) (dp123 (up5 _ _ hT1) (up5 _ _ hT2)), dp123 upd_same (sw _ _ upd_same), d123_ok.1, d123_ok.1, ?_⟩
      rw [d123_ok.2]
      refine ⟨F, [], .bl true, rfl, rfl, sw _ _ (sw2 _ _ (up5 _ _ hFE)), small1000 (by decide), ?_⟩
      -- return found == [True]
      refine ⟨_, rfl, by show 1 ≤ sizeLine; decide, fun g ng => ?_⟩
      have sg := same_new (o := .lst [.bl true]) ng
      refine ⟨.list [.bool true], .list [.bool true], .lst (SqL.of (sg _ _ upd_same)) (.cons (.bl true) .nil), .lst (SqL.of upd_same) (.cons (.bl true) .nil), dTrue_ok.1, dTrue_ok.1, ?_⟩
      rw [dTrue_ok.2]
      exact hQ _
end
end KH
set_option Elab.async false
set_option linter.all false
set_option maxRecDepth 100000
set_option maxHeartbeats 8000000
/-! What the top has written, and the law's own head. -/
namespace KH
open PySem L2 KX
/-- what a class's own row says -/
theorem mro_of {K : PySem.W.Frag} {C N : Addr} {nm q : Str} {bs bm sub : List Value} {sn : List Str} {ab : Bool} {col : Option Bool} {dd : Option Addr} {m0 m1 m2 m3 m5 : Option Value} {id : String}
    (l : K.lookup C = some (excClassObj nm q C N bs bm true sn sub ab col dd m0 m1 m2 m3 m5 id)) (b : Value) : PySem.W.mroIn K C b = some ((Value.ref C :: bm).contains b) := by
  unfold PySem.W.mroIn PySem.W.clsIn
  rw [l]
  rfl
theorem dict_of {K : PySem.W.Frag} {C N : Addr} {nm q : Str} {bs bm sub : List Value} {sn : List Str} {ab : Bool} {col : Option Bool} {dd : Option Addr} {m0 m1 m2 m3 m5 : Option Value} {id : String}
    (l : K.lookup C = some (excClassObj nm q C N bs bm true sn sub ab col dd m0 m1 m2 m3 m5 id)) : PySem.W.hasDictIn K C = true ∧ PySem.W.isClsIn K C = true := by
  constructor
  · unfold PySem.W.hasDictIn PySem.W.clsIn
    rw [l]
    rfl
  · unfold PySem.W.isClsIn PySem.W.clsIn
    rw [l]
    rfl
/-- the classes between an own one and object -/
abbrev bmH (CH : Addr) : List Value := [.ref CH, .type "ValueError", .type "Exception", .type "BaseException", .type "object"]
theorem refs_bm (CH : Addr) : PySem.HandSPX.refsVE (bmH CH) = true := by
  simp [PySem.HandSPX.refsVE]
section
variable {K : PySem.W.Frag} {CH C D : Addr}
theorem xcls_mk (m : ∀ b, PySem.W.mroIn K C b = some ((Value.ref C :: bmH CH).contains b)) (d : PySem.W.hasDictIn K C = true) (ga : PySem.W.findIn K (.ref C) "__getattribute__" = some (some (.builtin "BaseException.__getattribute__"))) (gg : PySem.W.findIn K (.ref C) "__getattr__" = some none)
    (cc : PySem.W.findIn K (.ref C) "__class__" = some (some (.builtin "object.__class__"))) (gs : PySem.W.specialIn K (.builtin "object.__class__") "__get__" = some (some (.builtin "getset_descriptor.__get__"))) (tk : PySem.W.takesIn K (.builtin "object.__class__") = some true) : XCls K C where
  ga := ga
  gt := gg
  sub := (m _).trans (by simp)
  hd := d
  cl := cc
  gs := gs
  tk := tk
  mr := (m _).trans (by simp)
theorem kit_own (m : ∀ b, PySem.W.mroIn K C b = some ((Value.ref C :: bmH CH).contains b)) (i : PySem.W.isClsIn K D = true) (t : PySem.W.typeIn K (.ref D) = some (.type "type")) (h : D ≠ CH) : PySem.W.kitOne K (.ref C) (.ref D) = some (decide (C = D)) := by
  unfold PySem.W.kitOne
  by_cases e : C = D
  · subst e
    simp
  · have e1 : ((Value.ref C : Value) == .ref D) = false := by simpa using e
    have i' : (PySem.W.clsIn K D).isSome = true := i
    rw [e1, if_neg Bool.false_ne_true, decide_eq_false e]
    unfold PySem.W.kitCls
    simp only [i', t, beq_self_eq_true, Bool.and_self, if_true]
    show PySem.W.mroIn K C (.ref D) = _
    rw [m]
    have e2 : ¬ D = C := fun z => e z.symm
    simp [e2, h]
theorem kit_base (m : ∀ b, PySem.W.mroIn K C b = some ((Value.ref C :: bmH CH).contains b)) (i : PySem.W.isClsIn K CH = true) (t : PySem.W.typeIn K (.ref CH) = some (.type "type")) (h : C ≠ CH) : PySem.W.kitOne K (.ref C) (.ref CH) = some true ∧ PySem.W.kitCls K (.ref C) (.ref CH) = some true := by
  have i' : (PySem.W.clsIn K CH).isSome = true := i
  have e2 : PySem.W.kitCls K (.ref C) (.ref CH) = some true := by
    unfold PySem.W.kitCls
    simp only [i', t, beq_self_eq_true, Bool.and_self, if_true]
    show PySem.W.mroIn K C (.ref CH) = _
    rw [m]
    simp
  refine ⟨?_, e2⟩
  have e1 : ((Value.ref C : Value) == .ref CH) = false := by simpa using h
  unfold PySem.W.kitOne
  rw [e1, if_neg Bool.false_ne_true]
  exact e2
theorem meta_ve : PySem.W.kitMeta "ValueError" = true := by decide +kernel
theorem kit_ve (m : ∀ b, PySem.W.mroIn K C b = some ((Value.ref C :: bmH CH).contains b)) : PySem.W.kitOne K (.ref C) (.type "ValueError") = some true := by
  unfold PySem.W.kitOne PySem.W.kitCls
  rw [if_neg (by simp)]
  show (if PySem.W.kitMeta "ValueError" = true then PySem.W.mroIn K C (.type "ValueError") else none) = _
  rw [if_pos meta_ve]
  rw [m]
  simp
end
theorem exm_H {K : PySem.W.Frag} {CH C : Addr} (h1 : PySem.W.subIn K (.ref CH) (.type "BaseException") = some true) (h2 : PySem.W.kitCls K (.ref C) (.ref CH) = some true) : PySem.W.exmOne K (.ref C) (.ref CH) = some true := by
  unfold PySem.W.exmOne
  rw [h1, if_pos (by simp)]
  exact h2
theorem scI0 : FnScope ["self", "line", "word"] ["self", "line", "word"] (defScope (inClass (top 2) 0)) := ⟨rfl, rfl, rfl, by decide +kernel, rfl, by decide +kernel, by decide +kernel⟩
theorem ok_I0 {P : Program} {w : World} {K : PySem.W.Frag} {mg : Str → Option Value} {base : Heap} {f C : Addr} {fd : FuncData} (F : Fun K "__init__" "BadText.__init__" (inClass (top 2) 0) f fd) (T : OexC K C) (n0 : PySem.W.findIn K (.ref C) "line" = some none) (n1 : PySem.W.findIn K (.ref C) "word" = some none) : FnOk P w K mg base CX0 1 f fd ["self", "line", "word"] (spIni C ["line", "word"]) :=
  F.ok scI0 (fun vs H Q E h => ini_len h) (fun cdv A outer s H vs Q E hr h => ⟨_, (pss_cons (ps_ost (pv 0) (pv 1)) (pss_one (ps_ost (pv 0) (pv 2)))), ini2 T n0 n1 h⟩)
theorem scI1 : FnScope ["self", "name"] ["self", "name"] (defScope (inClass (top 5) 0)) := ⟨rfl, rfl, rfl, by decide +kernel, rfl, by decide +kernel, by decide +kernel⟩
theorem ok_I1 {P : Program} {w : World} {K : PySem.W.Frag} {mg : Str → Option Value} {base : Heap} {f C : Addr} {fd : FuncData} (F : Fun K "__init__" "BadName.__init__" (inClass (top 5) 0) f fd) (T : OexC K C) (n0 : PySem.W.findIn K (.ref C) "name" = some none) : FnOk P w K mg base CX0 1 f fd ["self", "name"] (spIni C ["name"]) :=
  F.ok scI1 (fun vs H Q E h => ini_len h) (fun cdv A outer s H vs Q E hr h => ⟨_, (pss_one (ps_ost (pv 0) (pv 1))), ini1 T n0 h⟩)
theorem scI2 : FnScope ["self", "what", "number"] ["self", "what", "number"] (defScope (inClass (top 6) 0)) := ⟨rfl, rfl, rfl, by decide +kernel, rfl, by decide +kernel, by decide +kernel⟩
theorem ok_I2 {P : Program} {w : World} {K : PySem.W.Frag} {mg : Str → Option Value} {base : Heap} {f C : Addr} {fd : FuncData} (F : Fun K "__init__" "BadNumber.__init__" (inClass (top 6) 0) f fd) (T : OexC K C) (n0 : PySem.W.findIn K (.ref C) "what" = some none) (n1 : PySem.W.findIn K (.ref C) "number" = some none) : FnOk P w K mg base CX0 1 f fd ["self", "what", "number"] (spIni C ["what", "number"]) :=
  F.ok scI2 (fun vs H Q E h => ini_len h) (fun cdv A outer s H vs Q E hr h => ⟨_, (pss_cons (ps_ost (pv 0) (pv 1)) (pss_one (ps_ost (pv 0) (pv 2)))), ini2 T n0 n1 h⟩)
theorem scI3 : FnScope ["self", "what", "row"] ["self", "what", "row"] (defScope (inClass (top 7) 0)) := ⟨rfl, rfl, rfl, by decide +kernel, rfl, by decide +kernel, by decide +kernel⟩
theorem ok_I3 {P : Program} {w : World} {K : PySem.W.Frag} {mg : Str → Option Value} {base : Heap} {f C : Addr} {fd : FuncData} (F : Fun K "__init__" "BadRow.__init__" (inClass (top 7) 0) f fd) (T : OexC K C) (n0 : PySem.W.findIn K (.ref C) "what" = some none) (n1 : PySem.W.findIn K (.ref C) "row" = some none) : FnOk P w K mg base CX0 1 f fd ["self", "what", "row"] (spIni C ["what", "row"]) :=
  F.ok scI3 (fun vs H Q E h => ini_len h) (fun cdv A outer s H vs Q E hr h => ⟨_, (pss_cons (ps_ost (pv 0) (pv 1)) (pss_one (ps_ost (pv 0) (pv 2)))), ini2 T n0 n1 h⟩)
theorem scI4 : FnScope ["self", "name"] ["self", "name"] (defScope (inClass (top 8) 0)) := ⟨rfl, rfl, rfl, by decide +kernel, rfl, by decide +kernel, by decide +kernel⟩
theorem ok_I4 {P : Program} {w : World} {K : PySem.W.Frag} {mg : Str → Option Value} {base : Heap} {f C : Addr} {fd : FuncData} (F : Fun K "__init__" "NoName.__init__" (inClass (top 8) 0) f fd) (T : OexC K C) (n0 : PySem.W.findIn K (.ref C) "name" = some none) : FnOk P w K mg base CX0 1 f fd ["self", "name"] (spIni C ["name"]) :=
  F.ok scI4 (fun vs H Q E h => ini_len h) (fun cdv A outer s H vs Q E hr h => ⟨_, (pss_one (ps_ost (pv 0) (pv 1))), ini1 T n0 h⟩)
theorem scI5 : FnScope ["self", "name"] ["self", "name"] (defScope (inClass (top 9) 0)) := ⟨rfl, rfl, rfl, by decide +kernel, rfl, by decide +kernel, by decide +kernel⟩
theorem ok_I5 {P : Program} {w : World} {K : PySem.W.Frag} {mg : Str → Option Value} {base : Heap} {f C : Addr} {fd : FuncData} (F : Fun K "__init__" "TakenName.__init__" (inClass (top 9) 0) f fd) (T : OexC K C) (n0 : PySem.W.findIn K (.ref C) "name" = some none) : FnOk P w K mg base CX0 1 f fd ["self", "name"] (spIni C ["name"]) :=
  F.ok scI5 (fun vs H Q E h => ini_len h) (fun cdv A outer s H vs Q E hr h => ⟨_, (pss_one (ps_ost (pv 0) (pv 1))), ini1 T n0 h⟩)
theorem scI6 : FnScope ["self", "what"] ["self", "what"] (defScope (inClass (top 10) 0)) := ⟨rfl, rfl, rfl, by decide +kernel, rfl, by decide +kernel, by decide +kernel⟩
theorem ok_I6 {P : Program} {w : World} {K : PySem.W.Frag} {mg : Str → Option Value} {base : Heap} {f C : Addr} {fd : FuncData} (F : Fun K "__init__" "Unlike.__init__" (inClass (top 10) 0) f fd) (T : OexC K C) (n0 : PySem.W.findIn K (.ref C) "what" = some none) : FnOk P w K mg base CX0 1 f fd ["self", "what"] (spIni C ["what"]) :=
  F.ok scI6 (fun vs H Q E h => ini_len h) (fun cdv A outer s H vs Q E hr h => ⟨_, (pss_one (ps_ost (pv 0) (pv 1))), ini1 T n0 h⟩)
theorem scI7 : FnScope ["self", "what"] ["self", "what"] (defScope (inClass (top 11) 0)) := ⟨rfl, rfl, rfl, by decide +kernel, rfl, by decide +kernel, by decide +kernel⟩
theorem ok_I7 {P : Program} {w : World} {K : PySem.W.Frag} {mg : Str → Option Value} {base : Heap} {f C : Addr} {fd : FuncData} (F : Fun K "__init__" "NotThere.__init__" (inClass (top 11) 0) f fd) (T : OexC K C) (n0 : PySem.W.findIn K (.ref C) "what" = some none) : FnOk P w K mg base CX0 1 f fd ["self", "what"] (spIni C ["what"]) :=
  F.ok scI7 (fun vs H Q E h => ini_len h) (fun cdv A outer s H vs Q E hr h => ⟨_, (pss_one (ps_ost (pv 0) (pv 1))), ini1 T n0 h⟩)
theorem scI8 : FnScope ["self", "what", "many", "limit"] ["self", "what", "many", "limit"] (defScope (inClass (top 12) 0)) := ⟨rfl, rfl, rfl, by decide +kernel, rfl, by decide +kernel, by decide +kernel⟩
theorem ok_I8 {P : Program} {w : World} {K : PySem.W.Frag} {mg : Str → Option Value} {base : Heap} {f C : Addr} {fd : FuncData} (F : Fun K "__init__" "TooMany.__init__" (inClass (top 12) 0) f fd) (T : OexC K C) (n0 : PySem.W.findIn K (.ref C) "what" = some none) (n1 : PySem.W.findIn K (.ref C) "many" = some none) (n2 : PySem.W.findIn K (.ref C) "limit" = some none) : FnOk P w K mg base CX0 1 f fd ["self", "what", "many", "limit"] (spIni C ["what", "many", "limit"]) :=
  F.ok scI8 (fun vs H Q E h => ini_len h) (fun cdv A outer s H vs Q E hr h => ⟨_, (pss_cons (ps_ost (pv 0) (pv 1)) (pss_cons (ps_ost (pv 0) (pv 2)) (pss_one (ps_ost (pv 0) (pv 3))))), ini3 T n0 n1 n2 h⟩)
theorem scI9 : FnScope ["self", "line", "column"] ["self", "line", "column"] (defScope (inClass (top 3) 0)) := ⟨rfl, rfl, rfl, by decide +kernel, rfl, by decide +kernel, by decide +kernel⟩
theorem ok_I9 {P : Program} {w : World} {K : PySem.W.Frag} {mg : Str → Option Value} {base : Heap} {f C : Addr} {fd : FuncData} (F : Fun K "__init__" "Misread.__init__" (inClass (top 3) 0) f fd) (T : OexC K C) (n0 : PySem.W.findIn K (.ref C) "line" = some none) (n1 : PySem.W.findIn K (.ref C) "column" = some none) : FnOk P w K mg base CX0 1 f fd ["self", "line", "column"] (spIni C ["line", "column"]) :=
  F.ok scI9 (fun vs H Q E h => ini_len h) (fun cdv A outer s H vs Q E hr h => ⟨_, (pss_cons (ps_ost (pv 0) (pv 1)) (pss_one (ps_ost (pv 0) (pv 2)))), ini2 T n0 n1 h⟩)
theorem scI10 : FnScope ["self", "line", "column", "why", "name"] ["self", "line", "column", "why", "name"] (defScope (inClass (top 4) 0)) := ⟨rfl, rfl, rfl, by decide +kernel, rfl, by decide +kernel, by decide +kernel⟩
theorem ok_I10 {P : Program} {w : World} {K : PySem.W.Frag} {mg : Str → Option Value} {base : Heap} {f C : Addr} {fd : FuncData} (F : Fun K "__init__" "Misplaced.__init__" (inClass (top 4) 0) f fd) (T : OexC K C) (n0 : PySem.W.findIn K (.ref C) "line" = some none) (n1 : PySem.W.findIn K (.ref C) "column" = some none) (n2 : PySem.W.findIn K (.ref C) "why" = some none) (n3 : PySem.W.findIn K (.ref C) "name" = some none) : FnOk P w K mg base CX0 1 f fd ["self", "line", "column", "why", "name"] (spIni C ["line", "column", "why", "name"]) :=
  F.ok scI10 (fun vs H Q E h => ini_len h) (fun cdv A outer s H vs Q E hr h => ⟨_, (pss_cons (ps_ost (pv 0) (pv 1)) (pss_cons (ps_ost (pv 0) (pv 2)) (pss_cons (ps_ost (pv 0) (pv 3)) (pss_one (ps_ost (pv 0) (pv 4)))))), ini4 T n0 n1 n2 n3 h⟩)
theorem scI11 : FnScope ["self", "promise", "witness"] ["self", "promise", "witness"] (defScope (inClass (top 13) 0)) := ⟨rfl, rfl, rfl, by decide +kernel, rfl, by decide +kernel, by decide +kernel⟩
theorem ok_I11 {P : Program} {w : World} {K : PySem.W.Frag} {mg : Str → Option Value} {base : Heap} {f C : Addr} {fd : FuncData} (F : Fun K "__init__" "NotKept.__init__" (inClass (top 13) 0) f fd) (T : OexC K C) (n0 : PySem.W.findIn K (.ref C) "promise" = some none) (n1 : PySem.W.findIn K (.ref C) "witness" = some none) : FnOk P w K mg base CX0 1 f fd ["self", "promise", "witness"] (spIni C ["promise", "witness"]) :=
  F.ok scI11 (fun vs H Q E h => ini_len h) (fun cdv A outer s H vs Q E hr h => ⟨_, (pss_cons (ps_ost (pv 0) (pv 1)) (pss_one (ps_ost (pv 0) (pv 2)))), ini2 T n0 n1 h⟩)
theorem all_mk {P : Program} {w : World} {K : PySem.W.Frag} {h : Heap} {mg : Str → Option Value} {fa CH : Addr} {c0 : Addr} {nm0 q0 : Str} {N0 : Addr} {bs0 sub0 : List Value} {sn0 : List Str} {ab0 : Bool} {col0 : Option Bool} {dd0 : Option Addr} {m00 m10 m20 m30 m50 : Option Value} {c1 : Addr} {nm1 q1 : Str} {N1 : Addr} {bs1 sub1 : List Value} {sn1 : List Str} {ab1 : Bool} {col1 : Option Bool} {dd1 : Option Addr} {m01 m11 m21 m31 m51 : Option Value} {c2 : Addr} {nm2 q2 : Str} {N2 : Addr} {bs2 sub2 : List Value} {sn2 : List Str} {ab2 : Bool} {col2 : Option Bool} {dd2 : Option Addr} {m02 m12 m22 m32 m52 : Option Value} {c3 : Addr} {nm3 q3 : Str} {N3 : Addr} {bs3 sub3 : List Value} {sn3 : List Str} {ab3 : Bool} {col3 : Option Bool} {dd3 : Option Addr} {m03 m13 m23 m33 m53 : Option Value} {c4 : Addr} {nm4 q4 : Str} {N4 : Addr} {bs4 sub4 : List Value} {sn4 : List Str} {ab4 : Bool} {col4 : Option Bool} {dd4 : Option Addr} {m04 m14 m24 m34 m54 : Option Value} {c5 : Addr} {nm5 q5 : Str} {N5 : Addr} {bs5 sub5 : List Value} {sn5 : List Str} {ab5 : Bool} {col5 : Option Bool} {dd5 : Option Addr} {m05 m15 m25 m35 m55 : Option Value} {c6 : Addr} {nm6 q6 : Str} {N6 : Addr} {bs6 sub6 : List Value} {sn6 : List Str} {ab6 : Bool} {col6 : Option Bool} {dd6 : Option Addr} {m06 m16 m26 m36 m56 : Option Value} {c7 : Addr} {nm7 q7 : Str} {N7 : Addr} {bs7 sub7 : List Value} {sn7 : List Str} {ab7 : Bool} {col7 : Option Bool} {dd7 : Option Addr} {m07 m17 m27 m37 m57 : Option Value} {c8 : Addr} {nm8 q8 : Str} {N8 : Addr} {bs8 sub8 : List Value} {sn8 : List Str} {ab8 : Bool} {col8 : Option Bool} {dd8 : Option Addr} {m08 m18 m28 m38 m58 : Option Value} {c9 : Addr} {nm9 q9 : Str} {N9 : Addr} {bs9 sub9 : List Value} {sn9 : List Str} {ab9 : Bool} {col9 : Option Bool} {dd9 : Option Addr} {m09 m19 m29 m39 m59 : Option Value} {c10 : Addr} {nm10 q10 : Str} {N10 : Addr} {bs10 sub10 : List Value} {sn10 : List Str} {ab10 : Bool} {col10 : Option Bool} {dd10 : Option Addr} {m010 m110 m210 m310 m510 : Option Value} {c11 : Addr} {nm11 q11 : Str} {N11 : Addr} {bs11 sub11 : List Value} {sn11 : List Str} {ab11 : Bool} {col11 : Option Bool} {dd11 : Option Addr} {m011 m111 m211 m311 m511 : Option Value} {c12 : Addr} {nm12 q12 : Str} {N12 : Addr} {bs12 sub12 : List Value} {sn12 : List Str} {ab12 : Bool} {col12 : Option Bool} {dd12 : Option Addr} {m012 m112 m212 m312 m512 : Option Value} {c13 : Addr} {nm13 q13 : Str} {N13 : Addr} {bs13 sub13 : List Value} {sn13 : List Str} {ab13 : Bool} {col13 : Option Bool} {dd13 : Option Addr} {m013 m113 m213 m313 m513 : Option Value} {f0 : Addr} {oc0 kV0 dc0 pm0 cd0 ct0 : Value} {od0 an0 : Option Addr} {sl0 : Array (Option Value)} {f1 : Addr} {oc1 kV1 dc1 pm1 cd1 ct1 : Value} {od1 an1 : Option Addr} {sl1 : Array (Option Value)} {f2 : Addr} {oc2 kV2 dc2 pm2 cd2 ct2 : Value} {od2 an2 : Option Addr} {sl2 : Array (Option Value)} {f3 : Addr} {oc3 kV3 dc3 pm3 cd3 ct3 : Value} {od3 an3 : Option Addr} {sl3 : Array (Option Value)} {f4 : Addr} {oc4 kV4 dc4 pm4 cd4 ct4 : Value} {od4 an4 : Option Addr} {sl4 : Array (Option Value)} {f5 : Addr} {oc5 kV5 dc5 pm5 cd5 ct5 : Value} {od5 an5 : Option Addr} {sl5 : Array (Option Value)} {f6 : Addr} {oc6 kV6 dc6 pm6 cd6 ct6 : Value} {od6 an6 : Option Addr} {sl6 : Array (Option Value)} {f7 : Addr} {oc7 kV7 dc7 pm7 cd7 ct7 : Value} {od7 an7 : Option Addr} {sl7 : Array (Option Value)} {f8 : Addr} {oc8 kV8 dc8 pm8 cd8 ct8 : Value} {od8 an8 : Option Addr} {sl8 : Array (Option Value)} {f9 : Addr} {oc9 kV9 dc9 pm9 cd9 ct9 : Value} {od9 an9 : Option Addr} {sl9 : Array (Option Value)} {f10 : Addr} {oc10 kV10 dc10 pm10 cd10 ct10 : Value} {od10 an10 : Option Addr} {sl10 : Array (Option Value)} {f11 : Addr} {oc11 kV11 dc11 pm11 cd11 ct11 : Value} {od11 an11 : Option Addr} {sl11 : Array (Option Value)} {g0 : Addr} {Oc0 KV0 Dc0 Pm0 Cd0 Ct0 : Value} {Od0 An0 : Option Addr} {Sl0 : Array (Option Value)} {g1 : Addr} {Oc1 KV1 Dc1 Pm1 Cd1 Ct1 : Value} {Od1 An1 : Option Addr} {Sl1 : Array (Option Value)} {g2 : Addr} {Oc2 KV2 Dc2 Pm2 Cd2 Ct2 : Value} {Od2 An2 : Option Addr} {Sl2 : Array (Option Value)} {g3 : Addr} {Oc3 KV3 Dc3 Pm3 Cd3 Ct3 : Value} {Od3 An3 : Option Addr} {Sl3 : Array (Option Value)} {g4 : Addr} {Oc4 KV4 Dc4 Pm4 Cd4 Ct4 : Value} {Od4 An4 : Option Addr} {Sl4 : Array (Option Value)} {g5 : Addr} {Oc5 KV5 Dc5 Pm5 Cd5 Ct5 : Value} {Od5 An5 : Option Addr} {Sl5 : Array (Option Value)} {g6 : Addr} {Oc6 KV6 Dc6 Pm6 Cd6 Ct6 : Value} {Od6 An6 : Option Addr} {Sl6 : Array (Option Value)} {g7 : Addr} {Oc7 KV7 Dc7 Pm7 Cd7 Ct7 : Value} {Od7 An7 : Option Addr} {Sl7 : Array (Option Value)} (X : K.In h) (G : h.Ns mainGlobals mg) (hfa : mg "law" = some (.ref fa))
    (aH : PySem.W.nsIn K mainGlobals "HoursError" = some (some (.ref CH))) (tH : PySem.W.typeIn K (.ref CH) = some (.type "type")) (iH : PySem.W.isClsIn K CH = true) (eH : PySem.W.subIn K (.ref CH) (.type "BaseException") = some true) (a0 : PySem.W.nsIn K mainGlobals "BadText" = some (some (.ref c0))) (l0 : K.lookup c0 = some (excClassObj nm0 q0 c0 N0 bs0 [.ref CH, .type "ValueError", .type "Exception", .type "BaseException", .type "object"] true sn0 sub0 ab0 col0 dd0 m00 m10 m20 m30 m50 "ValueError.__new__")) (ga0 : PySem.W.findIn K (.ref c0) "__getattribute__" = some (some (.builtin "BaseException.__getattribute__"))) (gg0 : PySem.W.findIn K (.ref c0) "__getattr__" = some none) (cc0 : PySem.W.findIn K (.ref c0) "__class__" = some (some (.builtin "object.__class__"))) (t0 : PySem.W.typeIn K (.ref c0) = some (.type "type")) (k0 : PySem.W.keepIn K (.ref c0) = true) (sa0 : PySem.W.findIn K (.ref c0) "__setattr__" = some (some (.builtin "object.__setattr__"))) (no0_0 : PySem.W.findIn K (.ref c0) "line" = some none) (no0_1 : PySem.W.findIn K (.ref c0) "word" = some none) (i0 : PySem.W.findIn K (.ref c0) "__init__" = some (some (.ref f0))) (u0 : PySem.W.typeIn K (.ref f0) = some (.type "function")) (L0 : K.lookup f0 = some ⟨oc0, od0, .func (PySem.W.fnOf "__init__" "BadText.__init__" (defArgs (inClass (top 2) 0)) (defBody (inClass (top 2) 0)) (defScope (inClass (top 2) 0)) .none kV0 dc0 pm0 an0 cd0 ct0), sl0⟩) (C0 : PySem.W.codeIn K cd0 "BadText.__init__" = true) (K0 : PySem.W.keepIn K (.ref f0) = true) (a1 : PySem.W.nsIn K mainGlobals "BadName" = some (some (.ref c1))) (l1 : K.lookup c1 = some (excClassObj nm1 q1 c1 N1 bs1 [.ref CH, .type "ValueError", .type "Exception", .type "BaseException", .type "object"] true sn1 sub1 ab1 col1 dd1 m01 m11 m21 m31 m51 "ValueError.__new__")) (ga1 : PySem.W.findIn K (.ref c1) "__getattribute__" = some (some (.builtin "BaseException.__getattribute__"))) (gg1 : PySem.W.findIn K (.ref c1) "__getattr__" = some none) (cc1 : PySem.W.findIn K (.ref c1) "__class__" = some (some (.builtin "object.__class__"))) (t1 : PySem.W.typeIn K (.ref c1) = some (.type "type")) (k1 : PySem.W.keepIn K (.ref c1) = true) (sa1 : PySem.W.findIn K (.ref c1) "__setattr__" = some (some (.builtin "object.__setattr__"))) (no1_0 : PySem.W.findIn K (.ref c1) "name" = some none) (i1 : PySem.W.findIn K (.ref c1) "__init__" = some (some (.ref f1))) (u1 : PySem.W.typeIn K (.ref f1) = some (.type "function")) (L1 : K.lookup f1 = some ⟨oc1, od1, .func (PySem.W.fnOf "__init__" "BadName.__init__" (defArgs (inClass (top 5) 0)) (defBody (inClass (top 5) 0)) (defScope (inClass (top 5) 0)) .none kV1 dc1 pm1 an1 cd1 ct1), sl1⟩) (C1 : PySem.W.codeIn K cd1 "BadName.__init__" = true) (K1 : PySem.W.keepIn K (.ref f1) = true) (a2 : PySem.W.nsIn K mainGlobals "BadNumber" = some (some (.ref c2))) (l2 : K.lookup c2 = some (excClassObj nm2 q2 c2 N2 bs2 [.ref CH, .type "ValueError", .type "Exception", .type "BaseException", .type "object"] true sn2 sub2 ab2 col2 dd2 m02 m12 m22 m32 m52 "ValueError.__new__")) (ga2 : PySem.W.findIn K (.ref c2) "__getattribute__" = some (some (.builtin "BaseException.__getattribute__"))) (gg2 : PySem.W.findIn K (.ref c2) "__getattr__" = some none) (cc2 : PySem.W.findIn K (.ref c2) "__class__" = some (some (.builtin "object.__class__"))) (t2 : PySem.W.typeIn K (.ref c2) = some (.type "type")) (k2 : PySem.W.keepIn K (.ref c2) = true) (sa2 : PySem.W.findIn K (.ref c2) "__setattr__" = some (some (.builtin "object.__setattr__"))) (no2_0 : PySem.W.findIn K (.ref c2) "what" = some none) (no2_1 : PySem.W.findIn K (.ref c2) "number" = some none) (i2 : PySem.W.findIn K (.ref c2) "__init__" = some (some (.ref f2))) (u2 : PySem.W.typeIn K (.ref f2) = some (.type "function")) (L2 : K.lookup f2 = some ⟨oc2, od2, .func (PySem.W.fnOf "__init__" "BadNumber.__init__" (defArgs (inClass (top 6) 0)) (defBody (inClass (top 6) 0)) (defScope (inClass (top 6) 0)) .none kV2 dc2 pm2 an2 cd2 ct2), sl2⟩) (C2 : PySem.W.codeIn K cd2 "BadNumber.__init__" = true) (K2 : PySem.W.keepIn K (.ref f2) = true) (a3 : PySem.W.nsIn K mainGlobals "BadRow" = some (some (.ref c3))) (l3 : K.lookup c3 = some (excClassObj nm3 q3 c3 N3 bs3 [.ref CH, .type "ValueError", .type "Exception", .type "BaseException", .type "object"] true sn3 sub3 ab3 col3 dd3 m03 m13 m23 m33 m53 "ValueError.__new__")) (ga3 : PySem.W.findIn K (.ref c3) "__getattribute__" = some (some (.builtin "BaseException.__getattribute__"))) (gg3 : PySem.W.findIn K (.ref c3) "__getattr__" = some none) (cc3 : PySem.W.findIn K (.ref c3) "__class__" = some (some (.builtin "object.__class__"))) (t3 : PySem.W.typeIn K (.ref c3) = some (.type "type")) (k3 : PySem.W.keepIn K (.ref c3) = true) (sa3 : PySem.W.findIn K (.ref c3) "__setattr__" = some (some (.builtin "object.__setattr__"))) (no3_0 : PySem.W.findIn K (.ref c3) "what" = some none) (no3_1 : PySem.W.findIn K (.ref c3) "row" = some none) (i3 : PySem.W.findIn K (.ref c3) "__init__" = some (some (.ref f3))) (u3 : PySem.W.typeIn K (.ref f3) = some (.type "function")) (L3 : K.lookup f3 = some ⟨oc3, od3, .func (PySem.W.fnOf "__init__" "BadRow.__init__" (defArgs (inClass (top 7) 0)) (defBody (inClass (top 7) 0)) (defScope (inClass (top 7) 0)) .none kV3 dc3 pm3 an3 cd3 ct3), sl3⟩) (C3 : PySem.W.codeIn K cd3 "BadRow.__init__" = true) (K3 : PySem.W.keepIn K (.ref f3) = true) (a4 : PySem.W.nsIn K mainGlobals "NoName" = some (some (.ref c4))) (l4 : K.lookup c4 = some (excClassObj nm4 q4 c4 N4 bs4 [.ref CH, .type "ValueError", .type "Exception", .type "BaseException", .type "object"] true sn4 sub4 ab4 col4 dd4 m04 m14 m24 m34 m54 "ValueError.__new__")) (ga4 : PySem.W.findIn K (.ref c4) "__getattribute__" = some (some (.builtin "BaseException.__getattribute__"))) (gg4 : PySem.W.findIn K (.ref c4) "__getattr__" = some none) (cc4 : PySem.W.findIn K (.ref c4) "__class__" = some (some (.builtin "object.__class__"))) (t4 : PySem.W.typeIn K (.ref c4) = some (.type "type")) (k4 : PySem.W.keepIn K (.ref c4) = true) (sa4 : PySem.W.findIn K (.ref c4) "__setattr__" = some (some (.builtin "object.__setattr__"))) (no4_0 : PySem.W.findIn K (.ref c4) "name" = some none) (i4 : PySem.W.findIn K (.ref c4) "__init__" = some (some (.ref f4))) (u4 : PySem.W.typeIn K (.ref f4) = some (.type "function")) (L4 : K.lookup f4 = some ⟨oc4, od4, .func (PySem.W.fnOf "__init__" "NoName.__init__" (defArgs (inClass (top 8) 0)) (defBody (inClass (top 8) 0)) (defScope (inClass (top 8) 0)) .none kV4 dc4 pm4 an4 cd4 ct4), sl4⟩) (C4 : PySem.W.codeIn K cd4 "NoName.__init__" = true) (K4 : PySem.W.keepIn K (.ref f4) = true) (a5 : PySem.W.nsIn K mainGlobals "TakenName" = some (some (.ref c5))) (l5 : K.lookup c5 = some (excClassObj nm5 q5 c5 N5 bs5 [.ref CH, .type "ValueError", .type "Exception", .type "BaseException", .type "object"] true sn5 sub5 ab5 col5 dd5 m05 m15 m25 m35 m55 "ValueError.__new__")) (ga5 : PySem.W.findIn K (.ref c5) "__getattribute__" = some (some (.builtin "BaseException.__getattribute__"))) (gg5 : PySem.W.findIn K (.ref c5) "__getattr__" = some none) (cc5 : PySem.W.findIn K (.ref c5) "__class__" = some (some (.builtin "object.__class__"))) (t5 : PySem.W.typeIn K (.ref c5) = some (.type "type")) (k5 : PySem.W.keepIn K (.ref c5) = true) (sa5 : PySem.W.findIn K (.ref c5) "__setattr__" = some (some (.builtin "object.__setattr__"))) (no5_0 : PySem.W.findIn K (.ref c5) "name" = some none) (i5 : PySem.W.findIn K (.ref c5) "__init__" = some (some (.ref f5))) (u5 : PySem.W.typeIn K (.ref f5) = some (.type "function")) (L5 : K.lookup f5 = some ⟨oc5, od5, .func (PySem.W.fnOf "__init__" "TakenName.__init__" (defArgs (inClass (top 9) 0)) (defBody (inClass (top 9) 0)) (defScope (inClass (top 9) 0)) .none kV5 dc5 pm5 an5 cd5 ct5), sl5⟩) (C5 : PySem.W.codeIn K cd5 "TakenName.__init__" = true) (K5 : PySem.W.keepIn K (.ref f5) = true) (a6 : PySem.W.nsIn K mainGlobals "Unlike" = some (some (.ref c6))) (l6 : K.lookup c6 = some (excClassObj nm6 q6 c6 N6 bs6 [.ref CH, .type "ValueError", .type "Exception", .type "BaseException", .type "object"] true sn6 sub6 ab6 col6 dd6 m06 m16 m26 m36 m56 "ValueError.__new__")) (ga6 : PySem.W.findIn K (.ref c6) "__getattribute__" = some (some (.builtin "BaseException.__getattribute__"))) (gg6 : PySem.W.findIn K (.ref c6) "__getattr__" = some none) (cc6 : PySem.W.findIn K (.ref c6) "__class__" = some (some (.builtin "object.__class__"))) (t6 : PySem.W.typeIn K (.ref c6) = some (.type "type")) (k6 : PySem.W.keepIn K (.ref c6) = true) (sa6 : PySem.W.findIn K (.ref c6) "__setattr__" = some (some (.builtin "object.__setattr__"))) (no6_0 : PySem.W.findIn K (.ref c6) "what" = some none) (i6 : PySem.W.findIn K (.ref c6) "__init__" = some (some (.ref f6))) (u6 : PySem.W.typeIn K (.ref f6) = some (.type "function")) (L6 : K.lookup f6 = some ⟨oc6, od6, .func (PySem.W.fnOf "__init__" "Unlike.__init__" (defArgs (inClass (top 10) 0)) (defBody (inClass (top 10) 0)) (defScope (inClass (top 10) 0)) .none kV6 dc6 pm6 an6 cd6 ct6), sl6⟩) (C6 : PySem.W.codeIn K cd6 "Unlike.__init__" = true) (K6 : PySem.W.keepIn K (.ref f6) = true) (a7 : PySem.W.nsIn K mainGlobals "NotThere" = some (some (.ref c7))) (l7 : K.lookup c7 = some (excClassObj nm7 q7 c7 N7 bs7 [.ref CH, .type "ValueError", .type "Exception", .type "BaseException", .type "object"] true sn7 sub7 ab7 col7 dd7 m07 m17 m27 m37 m57 "ValueError.__new__")) (ga7 : PySem.W.findIn K (.ref c7) "__getattribute__" = some (some (.builtin "BaseException.__getattribute__"))) (gg7 : PySem.W.findIn K (.ref c7) "__getattr__" = some none) (cc7 : PySem.W.findIn K (.ref c7) "__class__" = some (some (.builtin "object.__class__"))) (t7 : PySem.W.typeIn K (.ref c7) = some (.type "type")) (k7 : PySem.W.keepIn K (.ref c7) = true) (sa7 : PySem.W.findIn K (.ref c7) "__setattr__" = some (some (.builtin "object.__setattr__"))) (no7_0 : PySem.W.findIn K (.ref c7) "what" = some none) (i7 : PySem.W.findIn K (.ref c7) "__init__" = some (some (.ref f7))) (u7 : PySem.W.typeIn K (.ref f7) = some (.type "function")) (L7 : K.lookup f7 = some ⟨oc7, od7, .func (PySem.W.fnOf "__init__" "NotThere.__init__" (defArgs (inClass (top 11) 0)) (defBody (inClass (top 11) 0)) (defScope (inClass (top 11) 0)) .none kV7 dc7 pm7 an7 cd7 ct7), sl7⟩) (C7 : PySem.W.codeIn K cd7 "NotThere.__init__" = true) (K7 : PySem.W.keepIn K (.ref f7) = true) (a8 : PySem.W.nsIn K mainGlobals "TooMany" = some (some (.ref c8))) (l8 : K.lookup c8 = some (excClassObj nm8 q8 c8 N8 bs8 [.ref CH, .type "ValueError", .type "Exception", .type "BaseException", .type "object"] true sn8 sub8 ab8 col8 dd8 m08 m18 m28 m38 m58 "ValueError.__new__")) (ga8 : PySem.W.findIn K (.ref c8) "__getattribute__" = some (some (.builtin "BaseException.__getattribute__"))) (gg8 : PySem.W.findIn K (.ref c8) "__getattr__" = some none) (cc8 : PySem.W.findIn K (.ref c8) "__class__" = some (some (.builtin "object.__class__"))) (t8 : PySem.W.typeIn K (.ref c8) = some (.type "type")) (k8 : PySem.W.keepIn K (.ref c8) = true) (sa8 : PySem.W.findIn K (.ref c8) "__setattr__" = some (some (.builtin "object.__setattr__"))) (no8_0 : PySem.W.findIn K (.ref c8) "what" = some none) (no8_1 : PySem.W.findIn K (.ref c8) "many" = some none) (no8_2 : PySem.W.findIn K (.ref c8) "limit" = some none) (i8 : PySem.W.findIn K (.ref c8) "__init__" = some (some (.ref f8))) (u8 : PySem.W.typeIn K (.ref f8) = some (.type "function")) (L8 : K.lookup f8 = some ⟨oc8, od8, .func (PySem.W.fnOf "__init__" "TooMany.__init__" (defArgs (inClass (top 12) 0)) (defBody (inClass (top 12) 0)) (defScope (inClass (top 12) 0)) .none kV8 dc8 pm8 an8 cd8 ct8), sl8⟩) (C8 : PySem.W.codeIn K cd8 "TooMany.__init__" = true) (K8 : PySem.W.keepIn K (.ref f8) = true) (a9 : PySem.W.nsIn K mainGlobals "Misread" = some (some (.ref c9))) (l9 : K.lookup c9 = some (excClassObj nm9 q9 c9 N9 bs9 [.ref CH, .type "ValueError", .type "Exception", .type "BaseException", .type "object"] true sn9 sub9 ab9 col9 dd9 m09 m19 m29 m39 m59 "ValueError.__new__")) (ga9 : PySem.W.findIn K (.ref c9) "__getattribute__" = some (some (.builtin "BaseException.__getattribute__"))) (gg9 : PySem.W.findIn K (.ref c9) "__getattr__" = some none) (cc9 : PySem.W.findIn K (.ref c9) "__class__" = some (some (.builtin "object.__class__"))) (t9 : PySem.W.typeIn K (.ref c9) = some (.type "type")) (k9 : PySem.W.keepIn K (.ref c9) = true) (sa9 : PySem.W.findIn K (.ref c9) "__setattr__" = some (some (.builtin "object.__setattr__"))) (no9_0 : PySem.W.findIn K (.ref c9) "line" = some none) (no9_1 : PySem.W.findIn K (.ref c9) "column" = some none) (i9 : PySem.W.findIn K (.ref c9) "__init__" = some (some (.ref f9))) (u9 : PySem.W.typeIn K (.ref f9) = some (.type "function")) (L9 : K.lookup f9 = some ⟨oc9, od9, .func (PySem.W.fnOf "__init__" "Misread.__init__" (defArgs (inClass (top 3) 0)) (defBody (inClass (top 3) 0)) (defScope (inClass (top 3) 0)) .none kV9 dc9 pm9 an9 cd9 ct9), sl9⟩) (C9 : PySem.W.codeIn K cd9 "Misread.__init__" = true) (K9 : PySem.W.keepIn K (.ref f9) = true) (a10 : PySem.W.nsIn K mainGlobals "Misplaced" = some (some (.ref c10))) (l10 : K.lookup c10 = some (excClassObj nm10 q10 c10 N10 bs10 [.ref CH, .type "ValueError", .type "Exception", .type "BaseException", .type "object"] true sn10 sub10 ab10 col10 dd10 m010 m110 m210 m310 m510 "ValueError.__new__")) (ga10 : PySem.W.findIn K (.ref c10) "__getattribute__" = some (some (.builtin "BaseException.__getattribute__"))) (gg10 : PySem.W.findIn K (.ref c10) "__getattr__" = some none) (cc10 : PySem.W.findIn K (.ref c10) "__class__" = some (some (.builtin "object.__class__"))) (t10 : PySem.W.typeIn K (.ref c10) = some (.type "type")) (k10 : PySem.W.keepIn K (.ref c10) = true) (sa10 : PySem.W.findIn K (.ref c10) "__setattr__" = some (some (.builtin "object.__setattr__"))) (no10_0 : PySem.W.findIn K (.ref c10) "line" = some none) (no10_1 : PySem.W.findIn K (.ref c10) "column" = some none) (no10_2 : PySem.W.findIn K (.ref c10) "why" = some none) (no10_3 : PySem.W.findIn K (.ref c10) "name" = some none) (i10 : PySem.W.findIn K (.ref c10) "__init__" = some (some (.ref f10))) (u10 : PySem.W.typeIn K (.ref f10) = some (.type "function")) (L10 : K.lookup f10 = some ⟨oc10, od10, .func (PySem.W.fnOf "__init__" "Misplaced.__init__" (defArgs (inClass (top 4) 0)) (defBody (inClass (top 4) 0)) (defScope (inClass (top 4) 0)) .none kV10 dc10 pm10 an10 cd10 ct10), sl10⟩) (C10 : PySem.W.codeIn K cd10 "Misplaced.__init__" = true) (K10 : PySem.W.keepIn K (.ref f10) = true) (a11 : PySem.W.nsIn K mainGlobals "NotKept" = some (some (.ref c11))) (l11 : K.lookup c11 = some (excClassObj nm11 q11 c11 N11 bs11 [.ref CH, .type "ValueError", .type "Exception", .type "BaseException", .type "object"] true sn11 sub11 ab11 col11 dd11 m011 m111 m211 m311 m511 "ValueError.__new__")) (ga11 : PySem.W.findIn K (.ref c11) "__getattribute__" = some (some (.builtin "BaseException.__getattribute__"))) (gg11 : PySem.W.findIn K (.ref c11) "__getattr__" = some none) (cc11 : PySem.W.findIn K (.ref c11) "__class__" = some (some (.builtin "object.__class__"))) (t11 : PySem.W.typeIn K (.ref c11) = some (.type "type")) (k11 : PySem.W.keepIn K (.ref c11) = true) (sa11 : PySem.W.findIn K (.ref c11) "__setattr__" = some (some (.builtin "object.__setattr__"))) (no11_0 : PySem.W.findIn K (.ref c11) "promise" = some none) (no11_1 : PySem.W.findIn K (.ref c11) "witness" = some none) (i11 : PySem.W.findIn K (.ref c11) "__init__" = some (some (.ref f11))) (u11 : PySem.W.typeIn K (.ref f11) = some (.type "function")) (L11 : K.lookup f11 = some ⟨oc11, od11, .func (PySem.W.fnOf "__init__" "NotKept.__init__" (defArgs (inClass (top 13) 0)) (defBody (inClass (top 13) 0)) (defScope (inClass (top 13) 0)) .none kV11 dc11 pm11 an11 cd11 ct11), sl11⟩) (C11 : PySem.W.codeIn K cd11 "NotKept.__init__" = true) (K11 : PySem.W.keepIn K (.ref f11) = true) (a12 : PySem.W.nsIn K mainGlobals "NothingToUndo" = some (some (.ref c12))) (l12 : K.lookup c12 = some (excClassObj nm12 q12 c12 N12 bs12 [.ref CH, .type "ValueError", .type "Exception", .type "BaseException", .type "object"] true sn12 sub12 ab12 col12 dd12 m012 m112 m212 m312 m512 "ValueError.__new__")) (ga12 : PySem.W.findIn K (.ref c12) "__getattribute__" = some (some (.builtin "BaseException.__getattribute__"))) (gg12 : PySem.W.findIn K (.ref c12) "__getattr__" = some none) (cc12 : PySem.W.findIn K (.ref c12) "__class__" = some (some (.builtin "object.__class__"))) (t12 : PySem.W.typeIn K (.ref c12) = some (.type "type")) (k12 : PySem.W.keepIn K (.ref c12) = true) (x12 : PySem.W.excIn K c12 [.type "ValueError", .type "Exception", .type "BaseException", .type "object"] "ValueError.__new__" = true) (a13 : PySem.W.nsIn K mainGlobals "NothingToRedo" = some (some (.ref c13))) (l13 : K.lookup c13 = some (excClassObj nm13 q13 c13 N13 bs13 [.ref CH, .type "ValueError", .type "Exception", .type "BaseException", .type "object"] true sn13 sub13 ab13 col13 dd13 m013 m113 m213 m313 m513 "ValueError.__new__")) (ga13 : PySem.W.findIn K (.ref c13) "__getattribute__" = some (some (.builtin "BaseException.__getattribute__"))) (gg13 : PySem.W.findIn K (.ref c13) "__getattr__" = some none) (cc13 : PySem.W.findIn K (.ref c13) "__class__" = some (some (.builtin "object.__class__"))) (t13 : PySem.W.typeIn K (.ref c13) = some (.type "type")) (k13 : PySem.W.keepIn K (.ref c13) = true) (x13 : PySem.W.excIn K c13 [.type "ValueError", .type "Exception", .type "BaseException", .type "object"] "ValueError.__new__" = true) (A0 : PySem.W.nsIn K mainGlobals "_law_pen" = some (some (.ref g0))) (Lk0 : K.lookup g0 = some ⟨Oc0, Od0, .func (PySem.W.fnOf "_law_pen" "_law_pen" (defArgs sPen) (defBody sPen) (defScope sPen) .none KV0 Dc0 Pm0 An0 Cd0 Ct0), Sl0⟩) (Ck0 : PySem.W.codeIn K Cd0 "_law_pen" = true) (Kk0 : PySem.W.keepIn K (.ref g0) = true) (A1 : PySem.W.nsIn K mainGlobals "_law_draw" = some (some (.ref g1))) (Lk1 : K.lookup g1 = some ⟨Oc1, Od1, .func (PySem.W.fnOf "_law_draw" "_law_draw" (defArgs sDraw) (defBody sDraw) (defScope sDraw) .none KV1 Dc1 Pm1 An1 Cd1 Ct1), Sl1⟩) (Ck1 : PySem.W.codeIn K Cd1 "_law_draw" = true) (Kk1 : PySem.W.keepIn K (.ref g1) = true) (A2 : PySem.W.nsIn K mainGlobals "_law_pick" = some (some (.ref g2))) (Lk2 : K.lookup g2 = some ⟨Oc2, Od2, .func (PySem.W.fnOf "_law_pick" "_law_pick" (defArgs sPick) (defBody sPick) (defScope sPick) .none KV2 Dc2 Pm2 An2 Cd2 Ct2), Sl2⟩) (Ck2 : PySem.W.codeIn K Cd2 "_law_pick" = true) (Kk2 : PySem.W.keepIn K (.ref g2) = true) (A3 : PySem.W.nsIn K mainGlobals "_law_value" = some (some (.ref g3))) (Lk3 : K.lookup g3 = some ⟨Oc3, Od3, .func (PySem.W.fnOf "_law_value" "_law_value" (defArgs sValue) (defBody sValue) (defScope sValue) .none KV3 Dc3 Pm3 An3 Cd3 Ct3), Sl3⟩) (Ck3 : PySem.W.codeIn K Cd3 "_law_value" = true) (Kk3 : PySem.W.keepIn K (.ref g3) = true) (A4 : PySem.W.nsIn K mainGlobals "_law_fields" = some (some (.ref g4))) (Lk4 : K.lookup g4 = some ⟨Oc4, Od4, .func (PySem.W.fnOf "_law_fields" "_law_fields" (defArgs sFields) (defBody sFields) (defScope sFields) .none KV4 Dc4 Pm4 An4 Cd4 Ct4), Sl4⟩) (Ck4 : PySem.W.codeIn K Cd4 "_law_fields" = true) (Kk4 : PySem.W.keepIn K (.ref g4) = true) (A5 : PySem.W.nsIn K mainGlobals "_law_made_errors" = some (some (.ref g5))) (Lk5 : K.lookup g5 = some ⟨Oc5, Od5, .func (PySem.W.fnOf "_law_made_errors" "_law_made_errors" (defArgs sMade) (defBody sMade) (defScope sMade) .none KV5 Dc5 Pm5 An5 Cd5 Ct5), Sl5⟩) (Ck5 : PySem.W.codeIn K Cd5 "_law_made_errors" = true) (Kk5 : PySem.W.keepIn K (.ref g5) = true) (A6 : PySem.W.nsIn K mainGlobals "_law_kinds" = some (some (.ref g6))) (Lk6 : K.lookup g6 = some ⟨Oc6, Od6, .func (PySem.W.fnOf "_law_kinds" "_law_kinds" (defArgs sKinds) (defBody sKinds) (defScope sKinds) .none KV6 Dc6 Pm6 An6 Cd6 Ct6), Sl6⟩) (Ck6 : PySem.W.codeIn K Cd6 "_law_kinds" = true) (Kk6 : PySem.W.keepIn K (.ref g6) = true) (A7 : PySem.W.nsIn K mainGlobals "law" = some (some (.ref g7))) (Lk7 : K.lookup g7 = some ⟨Oc7, Od7, .func (PySem.W.fnOf "law" "law" (defArgs sLaw) (defBody sLaw) (defScope sLaw) .none KV7 Dc7 Pm7 An7 Cd7 Ct7), Sl7⟩) (Ck7 : PySem.W.codeIn K Cd7 "law" = true) (Kk7 : PySem.W.keepIn K (.ref g7) = true) (z_int : PySem.W.nsIn K mainGlobals "int" = some none) (z_list : PySem.W.nsIn K mainGlobals "list" = some none) (z_len : PySem.W.nsIn K mainGlobals "len" = some none) (z_isinstance : PySem.W.nsIn K mainGlobals "isinstance" = some none) (z_enumerate : PySem.W.nsIn K mainGlobals "enumerate" = some none) (z_repr : PySem.W.nsIn K mainGlobals "repr" = some none) (z_range : PySem.W.nsIn K mainGlobals "range" = some none) (z_ValueError : PySem.W.nsIn K mainGlobals "ValueError" = some none) (gs : PySem.W.specialIn K (.builtin "object.__class__") "__get__" = some (some (.builtin "getset_descriptor.__get__"))) (tk : PySem.W.takesIn K (.builtin "object.__class__") = some true) (nH : ∀ i, i < 14 → ((fun i => ([c0, c1, c2, c3, c4, c5, c6, c7, c8, c9, c10, c11, c12, c13] : List Addr).getD i 0) : Nat → Addr) i ≠ CH) (nC : ∀ i, i < 14 → ∀ j, j < 14 → (((fun i => ([c0, c1, c2, c3, c4, c5, c6, c7, c8, c9, c10, c11, c12, c13] : List Addr).getD i 0) : Nat → Addr) i = ((fun i => ([c0, c1, c2, c3, c4, c5, c6, c7, c8, c9, c10, c11, c12, c13] : List Addr).getD i 0) : Nat → Addr) j ↔ i = j)) :
    ∃ fd : FuncData, (∀ (s : Shared) (v : Value), BindsTo s fd ⟨[v], []⟩ [("script", v)]) ∧ ∀ base : Heap, K.In base → base.Ns mainGlobals mg → FnG P w K mg base CX0 4 fa fd ["script"] (spLaw K) := by
  have em := hfa.symm.trans (PySem.W.mg_of X G A7)
  cases em
  have mr0 := mro_of l0
  have dc0' := dict_of l0
  have xc0 := xcls_mk mr0 dc0'.1 ga0 gg0 cc0 gs tk
  have mr1 := mro_of l1
  have dc1' := dict_of l1
  have xc1 := xcls_mk mr1 dc1'.1 ga1 gg1 cc1 gs tk
  have mr2 := mro_of l2
  have dc2' := dict_of l2
  have xc2 := xcls_mk mr2 dc2'.1 ga2 gg2 cc2 gs tk
  have mr3 := mro_of l3
  have dc3' := dict_of l3
  have xc3 := xcls_mk mr3 dc3'.1 ga3 gg3 cc3 gs tk
  have mr4 := mro_of l4
  have dc4' := dict_of l4
  have xc4 := xcls_mk mr4 dc4'.1 ga4 gg4 cc4 gs tk
  have mr5 := mro_of l5
  have dc5' := dict_of l5
  have xc5 := xcls_mk mr5 dc5'.1 ga5 gg5 cc5 gs tk
  have mr6 := mro_of l6
  have dc6' := dict_of l6
  have xc6 := xcls_mk mr6 dc6'.1 ga6 gg6 cc6 gs tk
  have mr7 := mro_of l7
  have dc7' := dict_of l7
  have xc7 := xcls_mk mr7 dc7'.1 ga7 gg7 cc7 gs tk
  have mr8 := mro_of l8
  have dc8' := dict_of l8
  have xc8 := xcls_mk mr8 dc8'.1 ga8 gg8 cc8 gs tk
  have mr9 := mro_of l9
  have dc9' := dict_of l9
  have xc9 := xcls_mk mr9 dc9'.1 ga9 gg9 cc9 gs tk
  have mr10 := mro_of l10
  have dc10' := dict_of l10
  have xc10 := xcls_mk mr10 dc10'.1 ga10 gg10 cc10 gs tk
  have mr11 := mro_of l11
  have dc11' := dict_of l11
  have xc11 := xcls_mk mr11 dc11'.1 ga11 gg11 cc11 gs tk
  have mr12 := mro_of l12
  have dc12' := dict_of l12
  have xc12 := xcls_mk mr12 dc12'.1 ga12 gg12 cc12 gs tk
  have mr13 := mro_of l13
  have dc13' := dict_of l13
  have xc13 := xcls_mk mr13 dc13'.1 ga13 gg13 cc13 gs tk
  have ox0 : OexC K c0 := ⟨⟨_, _, _, _, _, _, _, _, _, _, _, _, _, _, _, l0, refs_bm CH⟩, sa0, xc0.sub, t0, k0⟩
  have fn0 := fun_mk (st := (inClass (top 2) 0)) L0 C0 K0
  have bi0 := fn0.binds (ps := ["self", "line", "word"]) fun _ _ _ _ _ _ us hl => match us, hl with | [_, _, _], _ => rfl
  have nof0 : ∀ x ∈ (["line", "word"] : List Str), PySem.W.findIn K (.ref c0) x = some none := fun x hx => by
    simp only [List.mem_cons, List.not_mem_nil, or_false] at hx
    rcases hx with rfl | rfl
    · exact no0_0
    · exact no0_1
  have ec0 : EC P w K mg "BadText" ["line", "word"] c0 f0 _ := ⟨ox0, xc0, PySem.W.mg_of X G a0, i0, u0, nof0, fun base => ok_I0 fn0 ox0 no0_0 no0_1, bi0⟩
  have ox1 : OexC K c1 := ⟨⟨_, _, _, _, _, _, _, _, _, _, _, _, _, _, _, l1, refs_bm CH⟩, sa1, xc1.sub, t1, k1⟩
  have fn1 := fun_mk (st := (inClass (top 5) 0)) L1 C1 K1
  have bi1 := fn1.binds (ps := ["self", "name"]) fun _ _ _ _ _ _ us hl => match us, hl with | [_, _], _ => rfl
  have nof1 : ∀ x ∈ (["name"] : List Str), PySem.W.findIn K (.ref c1) x = some none := fun x hx => by
    simp only [List.mem_cons, List.not_mem_nil, or_false] at hx
    subst hx
    exact no1_0
  have ec1 : EC P w K mg "BadName" ["name"] c1 f1 _ := ⟨ox1, xc1, PySem.W.mg_of X G a1, i1, u1, nof1, fun base => ok_I1 fn1 ox1 no1_0, bi1⟩
  have ox2 : OexC K c2 := ⟨⟨_, _, _, _, _, _, _, _, _, _, _, _, _, _, _, l2, refs_bm CH⟩, sa2, xc2.sub, t2, k2⟩
  have fn2 := fun_mk (st := (inClass (top 6) 0)) L2 C2 K2
  have bi2 := fn2.binds (ps := ["self", "what", "number"]) fun _ _ _ _ _ _ us hl => match us, hl with | [_, _, _], _ => rfl
  have nof2 : ∀ x ∈ (["what", "number"] : List Str), PySem.W.findIn K (.ref c2) x = some none := fun x hx => by
    simp only [List.mem_cons, List.not_mem_nil, or_false] at hx
    rcases hx with rfl | rfl
    · exact no2_0
    · exact no2_1
  have ec2 : EC P w K mg "BadNumber" ["what", "number"] c2 f2 _ := ⟨ox2, xc2, PySem.W.mg_of X G a2, i2, u2, nof2, fun base => ok_I2 fn2 ox2 no2_0 no2_1, bi2⟩
  have ox3 : OexC K c3 := ⟨⟨_, _, _, _, _, _, _, _, _, _, _, _, _, _, _, l3, refs_bm CH⟩, sa3, xc3.sub, t3, k3⟩
  have fn3 := fun_mk (st := (inClass (top 7) 0)) L3 C3 K3
  have bi3 := fn3.binds (ps := ["self", "what", "row"]) fun _ _ _ _ _ _ us hl => match us, hl with | [_, _, _], _ => rfl
  have nof3 : ∀ x ∈ (["what", "row"] : List Str), PySem.W.findIn K (.ref c3) x = some none := fun x hx => by
    simp only [List.mem_cons, List.not_mem_nil, or_false] at hx
    rcases hx with rfl | rfl
    · exact no3_0
    · exact no3_1
  have ec3 : EC P w K mg "BadRow" ["what", "row"] c3 f3 _ := ⟨ox3, xc3, PySem.W.mg_of X G a3, i3, u3, nof3, fun base => ok_I3 fn3 ox3 no3_0 no3_1, bi3⟩
  have ox4 : OexC K c4 := ⟨⟨_, _, _, _, _, _, _, _, _, _, _, _, _, _, _, l4, refs_bm CH⟩, sa4, xc4.sub, t4, k4⟩
  have fn4 := fun_mk (st := (inClass (top 8) 0)) L4 C4 K4
  have bi4 := fn4.binds (ps := ["self", "name"]) fun _ _ _ _ _ _ us hl => match us, hl with | [_, _], _ => rfl
  have nof4 : ∀ x ∈ (["name"] : List Str), PySem.W.findIn K (.ref c4) x = some none := fun x hx => by
    simp only [List.mem_cons, List.not_mem_nil, or_false] at hx
    subst hx
    exact no4_0
  have ec4 : EC P w K mg "NoName" ["name"] c4 f4 _ := ⟨ox4, xc4, PySem.W.mg_of X G a4, i4, u4, nof4, fun base => ok_I4 fn4 ox4 no4_0, bi4⟩
  have ox5 : OexC K c5 := ⟨⟨_, _, _, _, _, _, _, _, _, _, _, _, _, _, _, l5, refs_bm CH⟩, sa5, xc5.sub, t5, k5⟩
  have fn5 := fun_mk (st := (inClass (top 9) 0)) L5 C5 K5
  have bi5 := fn5.binds (ps := ["self", "name"]) fun _ _ _ _ _ _ us hl => match us, hl with | [_, _], _ => rfl
  have nof5 : ∀ x ∈ (["name"] : List Str), PySem.W.findIn K (.ref c5) x = some none := fun x hx => by
    simp only [List.mem_cons, List.not_mem_nil, or_false] at hx
    subst hx
    exact no5_0
  have ec5 : EC P w K mg "TakenName" ["name"] c5 f5 _ := ⟨ox5, xc5, PySem.W.mg_of X G a5, i5, u5, nof5, fun base => ok_I5 fn5 ox5 no5_0, bi5⟩
  have ox6 : OexC K c6 := ⟨⟨_, _, _, _, _, _, _, _, _, _, _, _, _, _, _, l6, refs_bm CH⟩, sa6, xc6.sub, t6, k6⟩
  have fn6 := fun_mk (st := (inClass (top 10) 0)) L6 C6 K6
  have bi6 := fn6.binds (ps := ["self", "what"]) fun _ _ _ _ _ _ us hl => match us, hl with | [_, _], _ => rfl
  have nof6 : ∀ x ∈ (["what"] : List Str), PySem.W.findIn K (.ref c6) x = some none := fun x hx => by
    simp only [List.mem_cons, List.not_mem_nil, or_false] at hx
    subst hx
    exact no6_0
  have ec6 : EC P w K mg "Unlike" ["what"] c6 f6 _ := ⟨ox6, xc6, PySem.W.mg_of X G a6, i6, u6, nof6, fun base => ok_I6 fn6 ox6 no6_0, bi6⟩
  have ox7 : OexC K c7 := ⟨⟨_, _, _, _, _, _, _, _, _, _, _, _, _, _, _, l7, refs_bm CH⟩, sa7, xc7.sub, t7, k7⟩
  have fn7 := fun_mk (st := (inClass (top 11) 0)) L7 C7 K7
  have bi7 := fn7.binds (ps := ["self", "what"]) fun _ _ _ _ _ _ us hl => match us, hl with | [_, _], _ => rfl
  have nof7 : ∀ x ∈ (["what"] : List Str), PySem.W.findIn K (.ref c7) x = some none := fun x hx => by
    simp only [List.mem_cons, List.not_mem_nil, or_false] at hx
    subst hx
    exact no7_0
  have ec7 : EC P w K mg "NotThere" ["what"] c7 f7 _ := ⟨ox7, xc7, PySem.W.mg_of X G a7, i7, u7, nof7, fun base => ok_I7 fn7 ox7 no7_0, bi7⟩
  have ox8 : OexC K c8 := ⟨⟨_, _, _, _, _, _, _, _, _, _, _, _, _, _, _, l8, refs_bm CH⟩, sa8, xc8.sub, t8, k8⟩
  have fn8 := fun_mk (st := (inClass (top 12) 0)) L8 C8 K8
  have bi8 := fn8.binds (ps := ["self", "what", "many", "limit"]) fun _ _ _ _ _ _ us hl => match us, hl with | [_, _, _, _], _ => rfl
  have nof8 : ∀ x ∈ (["what", "many", "limit"] : List Str), PySem.W.findIn K (.ref c8) x = some none := fun x hx => by
    simp only [List.mem_cons, List.not_mem_nil, or_false] at hx
    rcases hx with rfl | rfl | rfl
    · exact no8_0
    · exact no8_1
    · exact no8_2
  have ec8 : EC P w K mg "TooMany" ["what", "many", "limit"] c8 f8 _ := ⟨ox8, xc8, PySem.W.mg_of X G a8, i8, u8, nof8, fun base => ok_I8 fn8 ox8 no8_0 no8_1 no8_2, bi8⟩
  have ox9 : OexC K c9 := ⟨⟨_, _, _, _, _, _, _, _, _, _, _, _, _, _, _, l9, refs_bm CH⟩, sa9, xc9.sub, t9, k9⟩
  have fn9 := fun_mk (st := (inClass (top 3) 0)) L9 C9 K9
  have bi9 := fn9.binds (ps := ["self", "line", "column"]) fun _ _ _ _ _ _ us hl => match us, hl with | [_, _, _], _ => rfl
  have nof9 : ∀ x ∈ (["line", "column"] : List Str), PySem.W.findIn K (.ref c9) x = some none := fun x hx => by
    simp only [List.mem_cons, List.not_mem_nil, or_false] at hx
    rcases hx with rfl | rfl
    · exact no9_0
    · exact no9_1
  have ec9 : EC P w K mg "Misread" ["line", "column"] c9 f9 _ := ⟨ox9, xc9, PySem.W.mg_of X G a9, i9, u9, nof9, fun base => ok_I9 fn9 ox9 no9_0 no9_1, bi9⟩
  have ox10 : OexC K c10 := ⟨⟨_, _, _, _, _, _, _, _, _, _, _, _, _, _, _, l10, refs_bm CH⟩, sa10, xc10.sub, t10, k10⟩
  have fn10 := fun_mk (st := (inClass (top 4) 0)) L10 C10 K10
  have bi10 := fn10.binds (ps := ["self", "line", "column", "why", "name"]) fun _ _ _ _ _ _ us hl => match us, hl with | [_, _, _, _, _], _ => rfl
  have nof10 : ∀ x ∈ (["line", "column", "why", "name"] : List Str), PySem.W.findIn K (.ref c10) x = some none := fun x hx => by
    simp only [List.mem_cons, List.not_mem_nil, or_false] at hx
    rcases hx with rfl | rfl | rfl | rfl
    · exact no10_0
    · exact no10_1
    · exact no10_2
    · exact no10_3
  have ec10 : EC P w K mg "Misplaced" ["line", "column", "why", "name"] c10 f10 _ := ⟨ox10, xc10, PySem.W.mg_of X G a10, i10, u10, nof10, fun base => ok_I10 fn10 ox10 no10_0 no10_1 no10_2 no10_3, bi10⟩
  have ox11 : OexC K c11 := ⟨⟨_, _, _, _, _, _, _, _, _, _, _, _, _, _, _, l11, refs_bm CH⟩, sa11, xc11.sub, t11, k11⟩
  have fn11 := fun_mk (st := (inClass (top 13) 0)) L11 C11 K11
  have bi11 := fn11.binds (ps := ["self", "promise", "witness"]) fun _ _ _ _ _ _ us hl => match us, hl with | [_, _, _], _ => rfl
  have nof11 : ∀ x ∈ (["promise", "witness"] : List Str), PySem.W.findIn K (.ref c11) x = some none := fun x hx => by
    simp only [List.mem_cons, List.not_mem_nil, or_false] at hx
    rcases hx with rfl | rfl
    · exact no11_0
    · exact no11_1
  have ec11 : EC P w K mg "NotKept" ["promise", "witness"] c11 f11 _ := ⟨ox11, xc11, PySem.W.mg_of X G a11, i11, u11, nof11, fun base => ok_I11 fn11 ox11 no11_0 no11_1, bi11⟩
  have Fk0 := fun_mk (st := sPen) Lk0 Ck0 Kk0
  have Bk0 := Fk0.binds (ps := ["script"]) fun _ _ _ _ _ _ us hl => match us, hl with | [_], _ => rfl
  have Fk1 := fun_mk (st := sDraw) Lk1 Ck1 Kk1
  have Bk1 := Fk1.binds (ps := ["pen", "many"]) fun _ _ _ _ _ _ us hl => match us, hl with | [_, _], _ => rfl
  have Fk2 := fun_mk (st := sPick) Lk2 Ck2 Kk2
  have Bk2 := Fk2.binds (ps := ["pen", "some"]) fun _ _ _ _ _ _ us hl => match us, hl with | [_, _], _ => rfl
  have Fk3 := fun_mk (st := sValue) Lk3 Ck3 Kk3
  have Bk3 := Fk3.binds (ps := ["pen"]) fun _ _ _ _ _ _ us hl => match us, hl with | [_], _ => rfl
  have Fk4 := fun_mk (st := sFields) Lk4 Ck4 Kk4
  have Bk4 := Fk4.binds (ps := ["one", "names"]) fun _ _ _ _ _ _ us hl => match us, hl with | [_, _], _ => rfl
  have Fk5 := fun_mk (st := sMade) Lk5 Ck5 Kk5
  have Bk5 := Fk5.binds (ps := ["one", "two", "three"]) fun _ _ _ _ _ _ us hl => match us, hl with | [_, _, _], _ => rfl
  have Fk6 := fun_mk (st := sKinds) Lk6 Ck6 Kk6
  have Bk6 := Fk6.binds (ps := ["one"]) fun _ _ _ _ _ _ us hl => match us, hl with | [_], _ => rfl
  have Fk7 := fun_mk (st := sLaw) Lk7 Ck7 Kk7
  have TP : TxtP K mg := ⟨PySem.W.mg_none_of X G z_int, PySem.W.mg_none_of X G z_list, PySem.W.mg_none_of X G z_len⟩
  have TV : TxtV K mg g1 g2 := ⟨TP, PySem.W.mg_of X G A1, Kk1, PySem.W.mg_of X G A2, Kk2⟩
  have hC : ∀ i, i < 14 → ∃ x, ((fun i => ([c0, c1, c2, c3, c4, c5, c6, c7, c8, c9, c10, c11, c12, c13] : List Addr).getD i 0) : Nat → Addr) i = x := fun i _ => ⟨_, rfl⟩
  have hm : ∀ i, i < 14 → ∀ b, PySem.W.mroIn K (((fun i => ([c0, c1, c2, c3, c4, c5, c6, c7, c8, c9, c10, c11, c12, c13] : List Addr).getD i 0) : Nat → Addr) i) b = some ((Value.ref (((fun i => ([c0, c1, c2, c3, c4, c5, c6, c7, c8, c9, c10, c11, c12, c13] : List Addr).getD i 0) : Nat → Addr) i) :: bmH CH).contains b) := fun i hi => match i, hi with
    | 0, _ => mr0
    | 1, _ => mr1
    | 2, _ => mr2
    | 3, _ => mr3
    | 4, _ => mr4
    | 5, _ => mr5
    | 6, _ => mr6
    | 7, _ => mr7
    | 8, _ => mr8
    | 9, _ => mr9
    | 10, _ => mr10
    | 11, _ => mr11
    | 12, _ => mr12
    | 13, _ => mr13
  have ht : ∀ i, i < 14 → PySem.W.isClsIn K (((fun i => ([c0, c1, c2, c3, c4, c5, c6, c7, c8, c9, c10, c11, c12, c13] : List Addr).getD i 0) : Nat → Addr) i) = true ∧ PySem.W.typeIn K (.ref (((fun i => ([c0, c1, c2, c3, c4, c5, c6, c7, c8, c9, c10, c11, c12, c13] : List Addr).getD i 0) : Nat → Addr) i)) = some (.type "type") ∧ XCls K (((fun i => ([c0, c1, c2, c3, c4, c5, c6, c7, c8, c9, c10, c11, c12, c13] : List Addr).getD i 0) : Nat → Addr) i) := fun i hi => match i, hi with
    | 0, _ => ⟨dc0'.2, t0, xc0⟩
    | 1, _ => ⟨dc1'.2, t1, xc1⟩
    | 2, _ => ⟨dc2'.2, t2, xc2⟩
    | 3, _ => ⟨dc3'.2, t3, xc3⟩
    | 4, _ => ⟨dc4'.2, t4, xc4⟩
    | 5, _ => ⟨dc5'.2, t5, xc5⟩
    | 6, _ => ⟨dc6'.2, t6, xc6⟩
    | 7, _ => ⟨dc7'.2, t7, xc7⟩
    | 8, _ => ⟨dc8'.2, t8, xc8⟩
    | 9, _ => ⟨dc9'.2, t9, xc9⟩
    | 10, _ => ⟨dc10'.2, t10, xc10⟩
    | 11, _ => ⟨dc11'.2, t11, xc11⟩
    | 12, _ => ⟨dc12'.2, t12, xc12⟩
    | 13, _ => ⟨dc13'.2, t13, xc13⟩
  have hH : ∀ i, i < 14 → ((fun i => ([c0, c1, c2, c3, c4, c5, c6, c7, c8, c9, c10, c11, c12, c13] : List Addr).getD i 0) : Nat → Addr) i ≠ CH := nH
  have hI : ∀ i j, i < 14 → j < 14 → (((fun i => ([c0, c1, c2, c3, c4, c5, c6, c7, c8, c9, c10, c11, c12, c13] : List Addr).getD i 0) : Nat → Addr) i = ((fun i => ([c0, c1, c2, c3, c4, c5, c6, c7, c8, c9, c10, c11, c12, c13] : List Addr).getD i 0) : Nat → Addr) j ↔ i = j) := fun i j hi hj => nC i hi j hj
  have TE : TxtE P w K mg (fun i => ([c0, c1, c2, c3, c4, c5, c6, c7, c8, c9, c10, c11, c12, c13] : List Addr).getD i 0) (fun i => ([f0, f1, f2, f3, f4, f5, f6, f7, f8, f9, f10, f11] : List Addr).getD i 0) (fun i => match i with | 0 => (PySem.W.fnOf "__init__" "BadText.__init__" (defArgs (inClass (top 2) 0)) (defBody (inClass (top 2) 0)) (defScope (inClass (top 2) 0)) .none kV0 dc0 pm0 an0 cd0 ct0) | 1 => (PySem.W.fnOf "__init__" "BadName.__init__" (defArgs (inClass (top 5) 0)) (defBody (inClass (top 5) 0)) (defScope (inClass (top 5) 0)) .none kV1 dc1 pm1 an1 cd1 ct1) | 2 => (PySem.W.fnOf "__init__" "BadNumber.__init__" (defArgs (inClass (top 6) 0)) (defBody (inClass (top 6) 0)) (defScope (inClass (top 6) 0)) .none kV2 dc2 pm2 an2 cd2 ct2) | 3 => (PySem.W.fnOf "__init__" "BadRow.__init__" (defArgs (inClass (top 7) 0)) (defBody (inClass (top 7) 0)) (defScope (inClass (top 7) 0)) .none kV3 dc3 pm3 an3 cd3 ct3) | 4 => (PySem.W.fnOf "__init__" "NoName.__init__" (defArgs (inClass (top 8) 0)) (defBody (inClass (top 8) 0)) (defScope (inClass (top 8) 0)) .none kV4 dc4 pm4 an4 cd4 ct4) | 5 => (PySem.W.fnOf "__init__" "TakenName.__init__" (defArgs (inClass (top 9) 0)) (defBody (inClass (top 9) 0)) (defScope (inClass (top 9) 0)) .none kV5 dc5 pm5 an5 cd5 ct5) | 6 => (PySem.W.fnOf "__init__" "Unlike.__init__" (defArgs (inClass (top 10) 0)) (defBody (inClass (top 10) 0)) (defScope (inClass (top 10) 0)) .none kV6 dc6 pm6 an6 cd6 ct6) | 7 => (PySem.W.fnOf "__init__" "NotThere.__init__" (defArgs (inClass (top 11) 0)) (defBody (inClass (top 11) 0)) (defScope (inClass (top 11) 0)) .none kV7 dc7 pm7 an7 cd7 ct7) | 8 => (PySem.W.fnOf "__init__" "TooMany.__init__" (defArgs (inClass (top 12) 0)) (defBody (inClass (top 12) 0)) (defScope (inClass (top 12) 0)) .none kV8 dc8 pm8 an8 cd8 ct8) | 9 => (PySem.W.fnOf "__init__" "Misread.__init__" (defArgs (inClass (top 3) 0)) (defBody (inClass (top 3) 0)) (defScope (inClass (top 3) 0)) .none kV9 dc9 pm9 an9 cd9 ct9) | 10 => (PySem.W.fnOf "__init__" "Misplaced.__init__" (defArgs (inClass (top 4) 0)) (defBody (inClass (top 4) 0)) (defScope (inClass (top 4) 0)) .none kV10 dc10 pm10 an10 cd10 ct10) | 11 => (PySem.W.fnOf "__init__" "NotKept.__init__" (defArgs (inClass (top 13) 0)) (defBody (inClass (top 13) 0)) (defScope (inClass (top 13) 0)) .none kV11 dc11 pm11 an11 cd11 ct11) | _ => (PySem.W.fnOf "__init__" "BadText.__init__" (defArgs (inClass (top 2) 0)) (defBody (inClass (top 2) 0)) (defScope (inClass (top 2) 0)) .none kV0 dc0 pm0 an0 cd0 ct0)) CH := ⟨ec0, ec1, ec2, ec3, ec4, ec5, ec6, ec7, ec8, ec9, ec10, ec11, PySem.W.mg_of X G a0, PySem.W.mg_of X G a1, PySem.W.mg_of X G a2, PySem.W.mg_of X G a3, PySem.W.mg_of X G a4, PySem.W.mg_of X G a5, PySem.W.mg_of X G a6, PySem.W.mg_of X G a7, PySem.W.mg_of X G a8, PySem.W.mg_of X G a9, PySem.W.mg_of X G a10, PySem.W.mg_of X G a11, PySem.W.mg_of X G a12, PySem.W.mg_of X G a13, fun i hi => (ht i hi).2.2, fun i j hi hj => by rw [kit_own (hm i hi) (ht j hj).1 (ht j hj).2.1 (hH j hj), decide_eq_decide.mpr (hI i j hi hj)], PySem.W.mg_none_of X G z_isinstance⟩
  have TL : TxtL P w K mg (fun i => ([c0, c1, c2, c3, c4, c5, c6, c7, c8, c9, c10, c11, c12, c13] : List Addr).getD i 0) (fun i => ([f0, f1, f2, f3, f4, f5, f6, f7, f8, f9, f10, f11] : List Addr).getD i 0) (fun i => match i with | 0 => (PySem.W.fnOf "__init__" "BadText.__init__" (defArgs (inClass (top 2) 0)) (defBody (inClass (top 2) 0)) (defScope (inClass (top 2) 0)) .none kV0 dc0 pm0 an0 cd0 ct0) | 1 => (PySem.W.fnOf "__init__" "BadName.__init__" (defArgs (inClass (top 5) 0)) (defBody (inClass (top 5) 0)) (defScope (inClass (top 5) 0)) .none kV1 dc1 pm1 an1 cd1 ct1) | 2 => (PySem.W.fnOf "__init__" "BadNumber.__init__" (defArgs (inClass (top 6) 0)) (defBody (inClass (top 6) 0)) (defScope (inClass (top 6) 0)) .none kV2 dc2 pm2 an2 cd2 ct2) | 3 => (PySem.W.fnOf "__init__" "BadRow.__init__" (defArgs (inClass (top 7) 0)) (defBody (inClass (top 7) 0)) (defScope (inClass (top 7) 0)) .none kV3 dc3 pm3 an3 cd3 ct3) | 4 => (PySem.W.fnOf "__init__" "NoName.__init__" (defArgs (inClass (top 8) 0)) (defBody (inClass (top 8) 0)) (defScope (inClass (top 8) 0)) .none kV4 dc4 pm4 an4 cd4 ct4) | 5 => (PySem.W.fnOf "__init__" "TakenName.__init__" (defArgs (inClass (top 9) 0)) (defBody (inClass (top 9) 0)) (defScope (inClass (top 9) 0)) .none kV5 dc5 pm5 an5 cd5 ct5) | 6 => (PySem.W.fnOf "__init__" "Unlike.__init__" (defArgs (inClass (top 10) 0)) (defBody (inClass (top 10) 0)) (defScope (inClass (top 10) 0)) .none kV6 dc6 pm6 an6 cd6 ct6) | 7 => (PySem.W.fnOf "__init__" "NotThere.__init__" (defArgs (inClass (top 11) 0)) (defBody (inClass (top 11) 0)) (defScope (inClass (top 11) 0)) .none kV7 dc7 pm7 an7 cd7 ct7) | 8 => (PySem.W.fnOf "__init__" "TooMany.__init__" (defArgs (inClass (top 12) 0)) (defBody (inClass (top 12) 0)) (defScope (inClass (top 12) 0)) .none kV8 dc8 pm8 an8 cd8 ct8) | 9 => (PySem.W.fnOf "__init__" "Misread.__init__" (defArgs (inClass (top 3) 0)) (defBody (inClass (top 3) 0)) (defScope (inClass (top 3) 0)) .none kV9 dc9 pm9 an9 cd9 ct9) | 10 => (PySem.W.fnOf "__init__" "Misplaced.__init__" (defArgs (inClass (top 4) 0)) (defBody (inClass (top 4) 0)) (defScope (inClass (top 4) 0)) .none kV10 dc10 pm10 an10 cd10 ct10) | 11 => (PySem.W.fnOf "__init__" "NotKept.__init__" (defArgs (inClass (top 13) 0)) (defBody (inClass (top 13) 0)) (defScope (inClass (top 13) 0)) .none kV11 dc11 pm11 an11 cd11 ct11) | _ => (PySem.W.fnOf "__init__" "BadText.__init__" (defArgs (inClass (top 2) 0)) (defBody (inClass (top 2) 0)) (defScope (inClass (top 2) 0)) .none kV0 dc0 pm0 an0 cd0 ct0)) CH g0 g3 g5 g4 g6 := ⟨TE, TP, PySem.W.mg_of X G A0, Kk0, PySem.W.mg_of X G A3, Kk3, PySem.W.mg_of X G A5, Kk5, PySem.W.mg_of X G A4, Kk4, PySem.W.mg_of X G A6, Kk6, PySem.W.mg_none_of X G z_enumerate, PySem.W.mg_none_of X G z_repr, PySem.W.mg_none_of X G z_range, PySem.W.mg_none_of X G z_ValueError, PySem.W.mg_of X G aH, fun i hi => (kit_base (hm i hi) iH tH (hH i hi)).1, fun i hi => kit_ve (hm i hi), exm_H eH (kit_base (hm 7 (by decide)) iH tH (hH 7 (by decide))).2, k12, k13, x12, x13⟩
  refine ⟨PySem.W.fnOf "law" "law" (defArgs sLaw) (defBody sLaw) (defScope sLaw) .none KV7 Dc7 Pm7 An7 Cd7 Ct7, fun s v => .of_eq rfl, fun base _ _ => ?_⟩
  have G1 : FnOk P w K mg base CX0 1 g1 _ ["pen", "many"] spDraw := ok_draw Fk1 TP
  have G2 := ok_pick (P := P) (w := w) (base := base) Fk2 TV G1 Bk1
  have G3 := ok_value Fk3 TV G2 Bk2
  exact ok_law Fk7 TL (ok_pen Fk0 TP) Bk0 G3 Bk3 (ok_made Fk5 TE) Bk5 (ok_fields Fk4) Bk4 (ok_kinds Fk6 TE) Bk6
theorem walk {l : PySem.W.OpenLaw} {q : Program} {loose : List Str} {XP : (Str → Option Value) → Heap → Prop} {YP : World → Heap → Prop} {d : DefRec} {K : Params → PySem.W.Frag} (hn : l.most = some 63) (hdf : d.params.defaults = []) (hY : ∀ (w : World) (h : Heap), YP w h → (K w.params).In h)
    (F : ∀ (w : World) (mg : Str → Option Value) (fa : Addr) (h : Heap), (K w.params).In h → h.Ns mainGlobals mg → mg d.name = some (.ref fa) →
      ∃ fd : FuncData, (∀ (s : Shared) (u : Value), BindsTo s fd ⟨[u], []⟩ [("script", u)]) ∧ ∀ base : Heap, (K w.params).In base → base.Ns mainGlobals mg → FnG l.prog w (K w.params) mg base CX0 4 fa fd ["script"] (spLaw (K w.params))) :
    PySem.W.WalkO q loose XP YP l.row.toRowW d [] (fun f vs => PySem.call f vs) :=
  walk_G (n := 63) (k := 4) (x := "script") (CX := CX0) (sp := spLaw) hn (by decide) hdf ⟨rfl, by decide, by decide⟩ hY F (fun _ _ a ns _ _ hS => ⟨a, ns, rfl, hS, fun _ => rfl⟩) fun _ _ _ _ z => z
end KH
set_option Elab.async false
set_option linter.all false
open PySem PySem.W PyProof.Rows
set_option maxRecDepth 100000 in
set_option maxHeartbeats 0 in
theorem PySem.Challenge.cw_kepthours_k01_errors_holds : PySem.Challenge.rw_kepthours_k01_errors.Holds := by
  w_on; o_law; k_head; (case hw => w_witness2)
  k_fill
  refine KH.walk (l := PySem.Challenge.rw_kepthours_k01_errors) rfl rfl (fun w h Y => PySem.W.kIn_of Y) ?F
  case F =>
    intro w mg fa h KX G hmg
    refine' KH.all_mk KX G hmg ?aH ?tH ?iH ?eH ?a0 ?l0 ?ga0 ?gg0 ?cc0 ?t0 ?k0 ?sa0 ?no0_0 ?no0_1 ?i0 ?u0 ?L0 ?C0 ?K0 ?a1 ?l1 ?ga1 ?gg1 ?cc1 ?t1 ?k1 ?sa1 ?no1_0 ?i1 ?u1 ?L1 ?C1 ?K1 ?a2 ?l2 ?ga2 ?gg2 ?cc2 ?t2 ?k2 ?sa2 ?no2_0 ?no2_1 ?i2 ?u2 ?L2 ?C2 ?K2 ?a3 ?l3 ?ga3 ?gg3 ?cc3 ?t3 ?k3 ?sa3 ?no3_0 ?no3_1 ?i3 ?u3 ?L3 ?C3 ?K3 ?a4 ?l4 ?ga4 ?gg4 ?cc4 ?t4 ?k4 ?sa4 ?no4_0 ?i4 ?u4 ?L4 ?C4 ?K4 ?a5 ?l5 ?ga5 ?gg5 ?cc5 ?t5 ?k5 ?sa5 ?no5_0 ?i5 ?u5 ?L5 ?C5 ?K5 ?a6 ?l6 ?ga6 ?gg6 ?cc6 ?t6 ?k6 ?sa6 ?no6_0 ?i6 ?u6 ?L6 ?C6 ?K6 ?a7 ?l7 ?ga7 ?gg7 ?cc7 ?t7 ?k7 ?sa7 ?no7_0 ?i7 ?u7 ?L7 ?C7 ?K7 ?a8 ?l8 ?ga8 ?gg8 ?cc8 ?t8 ?k8 ?sa8 ?no8_0 ?no8_1 ?no8_2 ?i8 ?u8 ?L8 ?C8 ?K8 ?a9 ?l9 ?ga9 ?gg9 ?cc9 ?t9 ?k9 ?sa9 ?no9_0 ?no9_1 ?i9 ?u9 ?L9 ?C9 ?K9 ?a10 ?l10 ?ga10 ?gg10 ?cc10 ?t10 ?k10 ?sa10 ?no10_0 ?no10_1 ?no10_2 ?no10_3 ?i10 ?u10 ?L10 ?C10 ?K10 ?a11 ?l11 ?ga11 ?gg11 ?cc11 ?t11 ?k11 ?sa11 ?no11_0 ?no11_1 ?i11 ?u11 ?L11 ?C11 ?K11 ?a12 ?l12 ?ga12 ?gg12 ?cc12 ?t12 ?k12 ?x12 ?a13 ?l13 ?ga13 ?gg13 ?cc13 ?t13 ?k13 ?x13 ?A0 ?Lk0 ?Ck0 ?Kk0 ?A1 ?Lk1 ?Ck1 ?Kk1 ?A2 ?Lk2 ?Ck2 ?Kk2 ?A3 ?Lk3 ?Ck3 ?Kk3 ?A4 ?Lk4 ?Ck4 ?Kk4 ?A5 ?Lk5 ?Ck5 ?Kk5 ?A6 ?Lk6 ?Ck6 ?Kk6 ?A7 ?Lk7 ?Ck7 ?Kk7 ?z_int ?z_list ?z_len ?z_isinstance ?z_enumerate ?z_repr ?z_range ?z_ValueError ?gs ?tk ?nH ?nC
    (case aH => k_is)
    (case tH => k_is)
    (case iH => k_is)
    (case eH => k_is)
    (case a0 => k_is)
    (case l0 => k_is)
    (case ga0 => k_is)
    (case gg0 => k_is)
    (case cc0 => k_is)
    (case t0 => k_is)
    (case k0 => k_is)
    (case sa0 => k_is)
    (case no0_0 => k_is)
    (case no0_1 => k_is)
    (case i0 => k_is)
    (case u0 => k_is)
    (case L0 => k_is)
    (case C0 => k_is)
    (case K0 => k_is)
    (case a1 => k_is)
    (case l1 => k_is)
    (case ga1 => k_is)
    (case gg1 => k_is)
    (case cc1 => k_is)
    (case t1 => k_is)
    (case k1 => k_is)
    (case sa1 => k_is)
    (case no1_0 => k_is)
    (case i1 => k_is)
    (case u1 => k_is)
    (case L1 => k_is)
    (case C1 => k_is)
    (case K1 => k_is)
    (case a2 => k_is)
    (case l2 => k_is)
    (case ga2 => k_is)
    (case gg2 => k_is)
    (case cc2 => k_is)
    (case t2 => k_is)
    (case k2 => k_is)
    (case sa2 => k_is)
    (case no2_0 => k_is)
    (case no2_1 => k_is)
    (case i2 => k_is)
    (case u2 => k_is)
    (case L2 => k_is)
    (case C2 => k_is)
    (case K2 => k_is)
    (case a3 => k_is)
    (case l3 => k_is)
    (case ga3 => k_is)
    (case gg3 => k_is)
    (case cc3 => k_is)
    (case t3 => k_is)
    (case k3 => k_is)
    (case sa3 => k_is)
    (case no3_0 => k_is)
    (case no3_1 => k_is)
    (case i3 => k_is)
    (case u3 => k_is)
    (case L3 => k_is)
    (case C3 => k_is)
    (case K3 => k_is)
    (case a4 => k_is)
    (case l4 => k_is)
    (case ga4 => k_is)
    (case gg4 => k_is)
    (case cc4 => k_is)
    (case t4 => k_is)
    (case k4 => k_is)
    (case sa4 => k_is)
    (case no4_0 => k_is)
    (case i4 => k_is)
    (case u4 => k_is)
    (case L4 => k_is)
    (case C4 => k_is)
    (case K4 => k_is)
    (case a5 => k_is)
    (case l5 => k_is)
    (case ga5 => k_is)
    (case gg5 => k_is)
    (case cc5 => k_is)
    (case t5 => k_is)
    (case k5 => k_is)
    (case sa5 => k_is)
    (case no5_0 => k_is)
    (case i5 => k_is)
    (case u5 => k_is)
    (case L5 => k_is)
    (case C5 => k_is)
    (case K5 => k_is)
    (case a6 => k_is)
    (case l6 => k_is)
    (case ga6 => k_is)
    (case gg6 => k_is)
    (case cc6 => k_is)
    (case t6 => k_is)
    (case k6 => k_is)
    (case sa6 => k_is)
    (case no6_0 => k_is)
    (case i6 => k_is)
    (case u6 => k_is)
    (case L6 => k_is)
    (case C6 => k_is)
    (case K6 => k_is)
    (case a7 => k_is)
    (case l7 => k_is)
    (case ga7 => k_is)
    (case gg7 => k_is)
    (case cc7 => k_is)
    (case t7 => k_is)
    (case k7 => k_is)
    (case sa7 => k_is)
    (case no7_0 => k_is)
    (case i7 => k_is)
    (case u7 => k_is)
    (case L7 => k_is)
    (case C7 => k_is)
    (case K7 => k_is)
    (case a8 => k_is)
    (case l8 => k_is)
    (case ga8 => k_is)
    (case gg8 => k_is)
    (case cc8 => k_is)
    (case t8 => k_is)
    (case k8 => k_is)
    (case sa8 => k_is)
    (case no8_0 => k_is)
    (case no8_1 => k_is)
    (case no8_2 => k_is)
    (case i8 => k_is)
    (case u8 => k_is)
    (case L8 => k_is)
    (case C8 => k_is)
    (case K8 => k_is)
    (case a9 => k_is)
    (case l9 => k_is)
    (case ga9 => k_is)
    (case gg9 => k_is)
    (case cc9 => k_is)
    (case t9 => k_is)
    (case k9 => k_is)
    (case sa9 => k_is)
    (case no9_0 => k_is)
    (case no9_1 => k_is)
    (case i9 => k_is)
    (case u9 => k_is)
    (case L9 => k_is)
    (case C9 => k_is)
    (case K9 => k_is)
    (case a10 => k_is)
    (case l10 => k_is)
    (case ga10 => k_is)
    (case gg10 => k_is)
    (case cc10 => k_is)
    (case t10 => k_is)
    (case k10 => k_is)
    (case sa10 => k_is)
    (case no10_0 => k_is)
    (case no10_1 => k_is)
    (case no10_2 => k_is)
    (case no10_3 => k_is)
    (case i10 => k_is)
    (case u10 => k_is)
    (case L10 => k_is)
    (case C10 => k_is)
    (case K10 => k_is)
    (case a11 => k_is)
    (case l11 => k_is)
    (case ga11 => k_is)
    (case gg11 => k_is)
    (case cc11 => k_is)
    (case t11 => k_is)
    (case k11 => k_is)
    (case sa11 => k_is)
    (case no11_0 => k_is)
    (case no11_1 => k_is)
    (case i11 => k_is)
    (case u11 => k_is)
    (case L11 => k_is)
    (case C11 => k_is)
    (case K11 => k_is)
    (case a12 => k_is)
    (case l12 => k_is)
    (case ga12 => k_is)
    (case gg12 => k_is)
    (case cc12 => k_is)
    (case t12 => k_is)
    (case k12 => k_is)
    (case x12 => k_exc)
    (case a13 => k_is)
    (case l13 => k_is)
    (case ga13 => k_is)
    (case gg13 => k_is)
    (case cc13 => k_is)
    (case t13 => k_is)
    (case k13 => k_is)
    (case x13 => k_exc)
    (case A0 => k_is)
    (case Lk0 => k_is)
    (case Ck0 => k_is)
    (case Kk0 => k_is)
    (case A1 => k_is)
    (case Lk1 => k_is)
    (case Ck1 => k_is)
    (case Kk1 => k_is)
    (case A2 => k_is)
    (case Lk2 => k_is)
    (case Ck2 => k_is)
    (case Kk2 => k_is)
    (case A3 => k_is)
    (case Lk3 => k_is)
    (case Ck3 => k_is)
    (case Kk3 => k_is)
    (case A4 => k_is)
    (case Lk4 => k_is)
    (case Ck4 => k_is)
    (case Kk4 => k_is)
    (case A5 => k_is)
    (case Lk5 => k_is)
    (case Ck5 => k_is)
    (case Kk5 => k_is)
    (case A6 => k_is)
    (case Lk6 => k_is)
    (case Ck6 => k_is)
    (case Kk6 => k_is)
    (case A7 => k_is)
    (case Lk7 => k_is)
    (case Ck7 => k_is)
    (case Kk7 => k_is)
    (case z_int => k_is)
    (case z_list => k_is)
    (case z_len => k_is)
    (case z_isinstance => k_is)
    (case z_enumerate => k_is)
    (case z_repr => k_is)
    (case z_range => k_is)
    (case z_ValueError => k_is)
    (case gs => k_is)
    (case tk => k_is)
    (case nH => decide)
    (case nC => decide)
#print axioms PySem.Challenge.cw_kepthours_k01_errors_holds
