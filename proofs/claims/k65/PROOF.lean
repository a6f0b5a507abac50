import PyProof.Rows.All
import Wide.All
import OpenK.AllK
import Wide.FinOn
import HandS.ForMost
import HandS.Defaults
import HandS.Zip
import HandS.IsInst
import HandS.Flow
import PySem.Challenge.RW_deducehall_k65_signs_and_like_places
set_option Elab.async false
set_option maxRecDepth 100000
set_option maxHeartbeats 4000000
namespace Lk
open PySem L2
/-! ### 1. The text by places -/
def top (i : Nat) : Stmt := PySem.Challenge.pw_deducehall_k65_signs_and_like_places.main.body.getD i (.Pass ⟨0, 0, 0, 0⟩)
abbrev sSmall : Stmt := top 4
abbrev sInner : Stmt := top 5
abbrev sTI : Stmt := inClass (top 7) 0
abbrev sTV : Stmt := inClass (top 7) 1
abbrev sTS : Stmt := inClass (top 7) 2
abbrev sVar : Stmt := top 8
abbrev sVal : Stmt := top 9
abbrev sNames : Stmt := top 10
abbrev sLI : Stmt := inClass (top 13) 0
abbrev sRI : Stmt := inClass (top 14) 0
abbrev sPos : Stmt := top 15
abbrev sLike : Stmt := top 17
abbrev sDice : Stmt := top 19
abbrev sRoll : Stmt := top 20
abbrev sRounds : Stmt := top 21
abbrev sSigns : Stmt := top 22
abbrev sPlace : Stmt := top 23
abbrev sVariable : Stmt := top 24
abbrev sHead : Stmt := top 25
abbrev sMade : Stmt := top 26
abbrev sLaw : Stmt := top 27

def SMALL : Str := "abcdefghijklmnopqrstuvwxyz"
def INNER : Str := "abcdefghijklmnopqrstuvwxyzABCDEFGHIJKLMNOPQRSTUVWXYZ0123456789_"

/-! ### 2. what the classes are -/
structure Txt (K : PySem.W.Frag) (mg : Str → Option Value) (CT CL CR : Addr) : Prop where
  clT : Cls K CT
  clL : Cls K CL
  clR : Cls K CR
  tn : NoAttr K CT "name"
  tv : NoAttr K CT "value"
  lk : NoAttr K CL "kind"
  ln : NoAttr K CL "name"
  lt : NoAttr K CL "terms"
  lo : NoAttr K CL "own"
  rn : NoAttr K CR "name"
  rt : NoAttr K CR "terms"
  rb : NoAttr K CR "body"
  rm : NoAttr K CR "summed"
  rs : NoAttr K CR "stands"
  mT : mg "Term" = some (.ref CT)
  mL : mg "Literal" = some (.ref CL)
  mR : mg "Rule" = some (.ref CR)
  mSm : ∃ t, mg "SMALL" = some (.str SMALL t)
  mIn : ∃ t, mg "INNER" = some (.str INNER t)
  len : mg "len" = none
  int : mg "int" = none
  abs : mg "abs" = none
  str : mg "str" = none
  tuple : mg "tuple" = none
  zip : mg "zip" = none
  range : mg "range" = none
  isi : mg "isinstance" = none

def TermAt (C : Addr) (H : Hp) (a : Addr) (n : Str) (v : V) : Prop :=
  ∃ dx fs, H a = some (.ins C dx fs) ∧ fs.lookup ("name" : Str) = some (.str n) ∧ fs.lookup ("value" : Str) = some v ∧ fs.lookup ("is_variable" : Str) = none ∧ fs.lookup ("shown" : Str) = none
theorem TermAt.same {C : Addr} {H H' : Hp} {a : Addr} {n : Str} {v : V} (t : TermAt C H a n v) (k : ∀ b o, H b = some o → H' b = some o) : TermAt C H' a n v := by
  obtain ⟨dx, fs, h, r⟩ := t
  exact ⟨dx, fs, k _ _ h, r⟩

/-! ### 3. promises -/
def spSmall (S : Str) : Sp := fun vs H Q _ => ∃ c : Nat, vs = [.str ⟨#[c]⟩] ∧ Q (.bl (decide (c ∈ S.cps.toList))) H
def spTI (C : Addr) : Sp := fun vs H Q _ => ∃ (p dx : Addr) (n : Str) (v : V), vs = [.ref p, .str n, v] ∧ H p = some (.ins C dx []) ∧
  ∀ H' : Hp, TermAt C H' p n v → (∀ b o, H b = some o → b ≠ p → H' b = some o) → Q .non H'
def spTV (C : Addr) : Sp := fun vs H Q _ => ∃ (p : Addr) (n : Str) (v : V), vs = [.ref p] ∧ TermAt C H p n v ∧ Q (.bl (!decide (V.str n = V.str ""))) H
def shL (n : Str) (v : V) : List V := if n = "" then [.str "val", v] else [.str "var", .str n]
def spTS (C : Addr) : Sp := fun vs H Q _ => ∃ (p : Addr) (n : Str) (v : V), vs = [.ref p] ∧ TermAt C H p n v ∧ ∀ q, H q = none → Q (.ref q) (upd H q (.tup (shL n v)))
def spVar (C : Addr) : Sp := fun vs H Q _ => ∃ (n : Str), vs = [.str n] ∧ ∀ (t : Addr) (H' : Hp), H t = none → Same H H' → TermAt C H' t n .non → Q (.ref t) H'
def spVal (C : Addr) : Sp := fun vs H Q _ => ∃ (v : V), vs = [v] ∧ ∀ (t : Addr) (H' : Hp), H t = none → Same H H' → TermAt C H' t "" v → Q (.ref t) H'

section
variable {P : Program} {w : World} {K : PySem.W.Frag} {mg : Str → Option Value} {base : Heap}
theorem nstr {c : Nat} : (V.str ⟨#[c]⟩ : V) ≠ V.str "" := by
  intro e
  have e1 := V.str.inj e
  have e2 : (⟨#[c]⟩ : Str).cps.size = ("" : Str).cps.size := by rw [e1]
  have e3 : ("" : Str).cps.size = 0 := by decide +kernel
  rw [e3] at e2
  exact absurd (show (1 : Nat) = 0 from e2) (by decide)
theorem scSmall : FnScope ["sign"] ["sign"] (defScope sSmall) := ⟨rfl, rfl, rfl, by decide +kernel, rfl, by decide +kernel, by decide +kernel⟩
theorem ok_small {f CT CL CR : Addr} {fd : FuncData} (F : Fun K "is_small" "is_small" sSmall f fd) (T : Txt K mg CT CL CR) : FnOk P w K mg base CX0 1 f fd ["sign"] (spSmall SMALL) := by
  refine F.ok scSmall (fun vs H Q E h => ?_) (fun cdv A outer s H vs Q E hr h => ?_)
  · obtain ⟨c, rfl, _⟩ := h
    rfl
  · obtain ⟨c, rfl, k⟩ := h
    obtain ⟨t, hS⟩ := T.mSm
    refine ⟨_, pss_one (ps_ret (pe_and (pe_cmpR op_ne (pv 0) pe_str (nomark _)) (pe_one (pe_cmpR op_in_sign (pv 0) (pe_glob rfl hS (v := .str SMALL) ⟨_, rfl⟩) rfl)))), ?_⟩
    refine ⟨_, rfl, rfl, _, rfl, ?_⟩
    rw [decide_eq_false nstr]; refine iteT ?_
    exact ⟨_, rfl, c, _, rfl, rfl, k⟩
theorem scInner : FnScope ["sign"] ["sign"] (defScope sInner) := ⟨rfl, rfl, rfl, by decide +kernel, rfl, by decide +kernel, by decide +kernel⟩
theorem ok_inner {f CT CL CR : Addr} {fd : FuncData} (F : Fun K "is_inner" "is_inner" sInner f fd) (T : Txt K mg CT CL CR) : FnOk P w K mg base CX0 1 f fd ["sign"] (spSmall INNER) := by
  refine F.ok scInner (fun vs H Q E h => ?_) (fun cdv A outer s H vs Q E hr h => ?_)
  · obtain ⟨c, rfl, _⟩ := h
    rfl
  · obtain ⟨c, rfl, k⟩ := h
    obtain ⟨t, hS⟩ := T.mIn
    refine ⟨_, pss_one (ps_ret (pe_and (pe_cmpR op_ne (pv 0) pe_str (nomark _)) (pe_one (pe_cmpR op_in_sign (pv 0) (pe_glob rfl hS (v := .str INNER) ⟨_, rfl⟩) rfl)))), ?_⟩
    refine ⟨_, rfl, rfl, _, rfl, ?_⟩
    rw [decide_eq_false nstr]
    refine iteT ?_
    exact ⟨_, rfl, c, _, rfl, rfl, k⟩

/-! ### Term -/
theorem nv_ : ¬ (("name" : Str) = "value") := by decide +kernel
def tf (n v : V) : List (Str × V) := putF "value" v (putF "name" n [])
theorem tf_len (n v : V) : (tf n v).length = 2 := by
  show (if ("name" : Str) = "value" then [(("name" : Str), v)] else (("name" : Str), n) :: putF "value" v []).length = 2
  rw [if_neg nv_]
  rfl
theorem tf_name (n v : V) : (tf n v).lookup ("name" : Str) = some n := by
  unfold tf
  rw [lookup_putF, if_neg (by decide +kernel), lookup_putF, if_pos rfl]
theorem tf_value (n v : V) : (tf n v).lookup ("value" : Str) = some v := by
  unfold tf
  rw [lookup_putF, if_pos rfl]
theorem tf_no (n v : V) {m : Str} (h1 : ¬ m = "value") (h2 : ¬ m = "name") : (tf n v).lookup m = none := by
  unfold tf
  rw [lookup_putF, if_neg h1, lookup_putF, if_neg h2]
  all_goals rfl
theorem tf_at {C dx a : Addr} {H : Hp} {n : Str} {v : V} (h : H a = some (.ins C dx (tf (.str n) v))) : TermAt C H a n v :=
  ⟨dx, _, h, tf_name _ _, tf_value _ _, tf_no _ _ (by decide +kernel) (by decide +kernel), tf_no _ _ (by decide +kernel) (by decide +kernel)⟩
theorem scTI : FnScope ["self", "name", "value"] ["self", "name", "value"] (defScope sTI) := ⟨rfl, rfl, rfl, by decide +kernel, rfl, by decide +kernel, by decide +kernel⟩
theorem ok_TI {f CT CL CR : Addr} {fd : FuncData} {dvs : List V} {kws : List (Str × V)} (F : FunD K "__init__" "Term.__init__" (defArgs sTI) (defBody sTI) (defScope sTI) dvs kws f fd) (T : Txt K mg CT CL CR) : FnOk P w K mg base CX0 1 f fd ["self", "name", "value"] (spTI CT) := by
  refine F.ok scTI (fun vs H Q E h => ?_) (fun cdv A outer s H vs Q E hr h => ?_)
  · obtain ⟨p, dx, n, v, rfl, _⟩ := h
    rfl
  · obtain ⟨p, dx, n, v, rfl, hp, k⟩ := h
    refine ⟨_, pss_cons (ps_fld (pv 0) (pv 1) rfl) (pss_one (ps_fld (pv 0) (pv 2) rfl)), ?_⟩
    refine ⟨_, rfl, _, rfl, p, CT, dx, [], rfl, hp, T.clT, T.tn, (by show 0 < 1000; decide), _, rfl, _, rfl, p, CT, dx, _, rfl, upd_same, T.clT, T.tv, (by show 1 < 1000; decide), ?_⟩
    rw [upd_upd]
    refine k _ (tf_at upd_same) fun b o hb e => ?_
    rw [upd_ne e]
    exact hb
theorem scTV : FnScope ["self"] ["self"] (defScope sTV) := ⟨rfl, rfl, rfl, by decide +kernel, rfl, by decide +kernel, by decide +kernel⟩
theorem ok_TV {f CT CL CR : Addr} {fd : FuncData} (F : Fun K "is_variable" "Term.is_variable" sTV f fd) (T : Txt K mg CT CL CR) : FnOk P w K mg base CX0 1 f fd ["self"] (spTV CT) := by
  refine F.ok scTV (fun vs H Q E h => ?_) (fun cdv A outer s H vs Q E hr h => ?_)
  · obtain ⟨p, n, v, rfl, _⟩ := h
    rfl
  · obtain ⟨p, n, v, rfl, ⟨dx, fs, hp, h1, h2, h3, h4⟩, k⟩ := h
    refine ⟨_, pss_one (ps_ret (pe_cmpR op_ne (pe_fld (pv 0) rfl) pe_str (nomark _))), ?_⟩
    exact ⟨_, rfl, p, CT, dx, _, _, rfl, hp, T.clT, T.tn, h1, rfl, k⟩
theorem scTS : FnScope ["self"] ["self"] (defScope sTS) := ⟨rfl, rfl, rfl, by decide +kernel, rfl, by decide +kernel, by decide +kernel⟩
theorem ok_TS {f CT CL CR : Addr} {fd : FuncData} (F : Fun K "shown" "Term.shown" sTS f fd) (T : Txt K mg CT CL CR) : FnOk P w K mg base CX0 1 f fd ["self"] (spTS CT) := by
  refine F.ok scTS (fun vs H Q E h => ?_) (fun cdv A outer s H vs Q E hr h => ?_)
  · obtain ⟨p, n, v, rfl, _⟩ := h
    rfl
  · obtain ⟨p, n, v, rfl, ⟨dx, fs, hp, h1, h2, h3, h4⟩, k⟩ := h
    refine ⟨_, pss_one (ps_ret (pe_ifExp (pt_cmpR op_ne (pe_fld (pv 0) rfl) pe_str (nomark _))
      (pe_tup (pa_cons pe_str (pa_cons (pe_fld (pv 0) rfl) pa_nil))) (pe_tup (pa_cons pe_str (pa_cons (pe_fld (pv 0) rfl) pa_nil))))), ?_⟩
    refine ⟨_, rfl, p, CT, dx, _, _, rfl, hp, T.clT, T.tn, h1, rfl, _, rfl, ?_⟩
    by_cases e : n = ""
    · subst e
      rw [show (!decide (V.str ("" : Str) = V.str "")) = false from by simp]
      refine iteF ⟨_, rfl, p, CT, dx, _, _, rfl, hp, T.clT, T.tv, h2, (by show 2 ≤ sizeLine; decide), fun q hq => ?_⟩
      exact k q hq
    · have e2 : ¬ (V.str n = V.str "") := fun z => e (V.str.inj z)
      rw [decide_eq_false e2]
      refine iteT ⟨_, rfl, p, CT, dx, _, _, rfl, hp, T.clT, T.tn, h1, (by show 2 ≤ sizeLine; decide), fun q hq => ?_⟩
      have := k q hq
      unfold shL at this
      rw [if_neg e] at this
      exact this
/-! ### var, val -/
theorem scVar : FnScope ["name"] ["name"] (defScope sVar) := ⟨rfl, rfl, rfl, by decide +kernel, rfl, by decide +kernel, by decide +kernel⟩
theorem ok_var {f CT CL CR fI : Addr} {fd fdI : FuncData} {ds : List Value} (F : Fun K "var" "var" sVar f fd) (T : Txt K mg CT CL CR) (M : Mk K CT fI)
    (GI : ∀ base, FnOk P w K mg base CX0 1 fI fdI ["self", "name", "value"] (spTI CT)) (bI : Binds K fdI ["self", "name", "value"] ds) (hd : Vals [.non] ds) : FnOk P w K mg base CX0 3 f fd ["name"] (spVar CT) := by
  refine F.ok scVar (fun vs H Q E h => ?_) (fun cdv A outer s H vs Q E hr h => ?_)
  · obtain ⟨n, rfl, _⟩ := h
    rfl
  · obtain ⟨n, rfl, k⟩ := h
    refine ⟨_, pss_one (ps_ret (pe_make M (GI _) hr rfl T.mT bI hd pass0 (pa_cons (pv 0) pa_nil))), ?_⟩
    refine ⟨_, rfl, fun x dx nx ndx nex => ?_⟩
    refine ⟨x, dx, n, _, rfl, upd_same, fun H' t kp => ⟨rfl, ?_⟩⟩
    exact k x H' nx (Same.made nx ndx kp) t
theorem scVal : FnScope ["value"] ["value"] (defScope sVal) := ⟨rfl, rfl, rfl, by decide +kernel, rfl, by decide +kernel, by decide +kernel⟩
theorem ok_val {f CT CL CR fI : Addr} {fd fdI : FuncData} (F : Fun K "val" "val" sVal f fd) (T : Txt K mg CT CL CR) (M : Mk K CT fI)
    (GI : ∀ base, FnOk P w K mg base CX0 1 fI fdI ["self", "name", "value"] (spTI CT)) (bI : Binds K fdI ["self", "name", "value"] []) : FnOk P w K mg base CX0 3 f fd ["value"] (spVal CT) := by
  refine F.ok scVal (fun vs H Q E h => ?_) (fun cdv A outer s H vs Q E hr h => ?_)
  · obtain ⟨n, rfl, _⟩ := h
    rfl
  · obtain ⟨n, rfl, k⟩ := h
    refine ⟨_, pss_one (ps_ret (pe_make M (GI _) hr rfl T.mT bI .nil pass0 (pa_cons pe_str (pa_cons (pv 0) pa_nil)))), ?_⟩
    refine ⟨_, rfl, fun x dx nx ndx nex => ?_⟩
    refine ⟨x, dx, "", _, rfl, upd_same, fun H' t kp => ⟨rfl, ?_⟩⟩
    exact k x H' nx (Same.made nx ndx kp) t
end
end Lk
namespace Lk
open PySem L2
/-- a def at the top: where it stands, its name, how it binds -/
structure Def (K : PySem.W.Frag) (mg : Str → Option Value) (x : Str) (st : Stmt) (ps : List Str) (f : Addr) (fd : FuncData) : Prop where
  F : Fun K x x st f fd
  m : mg x = some (.ref f)
  b : Binds K fd ps []
/-- a method -/
structure Me (K : PySem.W.Frag) (C : Addr) (x q : Str) (st : Stmt) (ps : List Str) (f : Addr) (fd : FuncData) : Prop where
  F : Fun K x q st f fd
  m : Meth K C x f
  b : Binds K fd ps []

def Terms (C : Addr) (H : Hp) (ts : List Addr) : Prop := ∀ t ∈ ts, ∃ n v, TermAt C H t n v
theorem Terms.same {C : Addr} {H H' : Hp} {ts : List Addr} (h : Terms C H ts) (k : Same H H') : Terms C H' ts := fun t ht => by
  obtain ⟨n, v, r⟩ := h t ht
  exact ⟨n, v, r.same k⟩
def spNames (C : Addr) : Sp := fun vs H Q _ => ∃ (tp : Addr) (ts : List Addr), vs = [.ref tp] ∧ H tp = some (.tup (ts.map V.ref)) ∧ Terms C H ts ∧ ts.length ≤ 100 ∧
  ∀ (q : Addr) (ns : List Str) (H' : Hp), H q = none → Same H H' → H' q = some (.tup (ns.map V.str)) → ns.length ≤ ts.length → Q (.ref q) H'

theorem all_flat_str (ns : List Str) : (ns.map V.str).all flatV = true := by
  rw [List.all_eq_true]
  intro x hx
  obtain ⟨n, _, rfl⟩ := List.mem_map.mp hx
  rfl
theorem get_ref {ts : List Addr} {i : Nat} {x : V} (h : (ts.map V.ref)[i]? = some x) : ∃ t, ts[i]? = some t ∧ x = V.ref t := by
  rw [List.getElem?_map] at h
  cases e : ts[i]? with
  | none => rw [e] at h; cases h
  | some t => rw [e] at h; exact ⟨t, rfl, (Option.some.inj h).symm⟩
theorem get_str {ts : List Str} {i : Nat} {x : V} (h : (ts.map V.str)[i]? = some x) : ∃ t, ts[i]? = some t ∧ x = V.str t := by
  rw [List.getElem?_map] at h
  cases e : ts[i]? with
  | none => rw [e] at h; cases h
  | some t => rw [e] at h; exact ⟨t, rfl, (Option.some.inj h).symm⟩

section
variable {P : Program} {w : World} {K : PySem.W.Frag} {mg : Str → Option Value} {base : Heap}
theorem scNames : FnScope ["terms", "found", "term"] ["terms"] (defScope sNames) := ⟨rfl, rfl, rfl, by decide +kernel, rfl, by decide +kernel, by decide +kernel⟩
theorem ok_names {f CT CL CR fTV : Addr} {fd fdTV : FuncData} (F : Fun K "names_in" "names_in" sNames f fd) (T : Txt K mg CT CL CR) (V1 : Me K CT "is_variable" "Term.is_variable" sTV ["self"] fTV fdTV) : FnOk P w K mg base CX0 2 f fd ["terms"] (spNames CT) := by
  have GV : FnOk P w K mg base CX0 1 fTV fdTV ["self"] (spTV CT) := ok_TV V1.F T
  refine F.ok scNames (fun vs H Q E h => ?_) (fun cdv A outer s H vs Q E hr h => ?_)
  · obtain ⟨tp, ts, rfl, _⟩ := h
    rfl
  · obtain ⟨tp, ts, rfl, htp, hts, hlen, k⟩ := h
    refine ⟨_, pss_cons (ps_set (i := 1) scNames.nd rfl (Or.inl rfl) (pe_lst pa_nil))
      (pss_cons (ps_for PassesOwn.never rfl (pi_tup (pv 0)) (pg_name (i := 2) scNames.nd rfl (Or.inl rfl))
        (pss_one (ps_if (PW.pt (pw_and (pt_val (pe_meth0 (pv 2) T.clT V1.m GV hr V1.b .nil pass0)) (pw_and1 (pt_cmpR op_notIn_seq (pe_fld (pv 2) rfl) (pv 1) (by rfl)))))
          (pss_one (ps_expr (pe_bm PySem.F.plainAttrs_list PySem.F.slot_list_append PySem.F.type_list_append mt_append (pv 1) (pa_cons (pe_fld (pv 2) rfl) pa_nil)))) pss_nil)))
      (pss_one (ps_ret (pe_callTy call_tuple_of (by rfl) T.tuple PyProof.Rows.boot_tuple (pa_cons (pv 1) pa_nil))))), ?_⟩
    refine ⟨Nat.zero_le _, fun l hl => ?_⟩
    have s0 : ∀ o, Same H (upd H l o) := fun o b u e => by rw [upd_ne (ne_of_none e hl)]; exact e
    refine ⟨_, rfl, tp, rfl, ⟨_, SqT.of (s0 _ _ _ htp)⟩, for_tup (K := K) (a := tp) (xs := ts.map V.ref)
      (fun i σ H' => ∃ (ns : List Str) (v : Option V), σ = [some (.ref tp), some (.ref l), v] ∧ Same H H' ∧ H' l = some (.lst (ns.map V.str)) ∧ ns.length ≤ i ∧ i ≤ ts.length)
      ⟨[], none, rfl, s0 _, upd_same, Nat.le_refl _, Nat.zero_le _⟩ (fun i σ H' _ ⟨_, _, _, s1, _⟩ => SqT.of (s1 _ _ htp)) ?_ ?_⟩
    · rintro i x σ H' hi ⟨ns, v, rfl, s1, hL, hn, hi2⟩
      have hil : i < ts.length := by
        have q := (List.getElem?_eq_some_iff.mp hi).1
        rw [List.length_map] at q
        exact q
      obtain ⟨t, ht, rfl⟩ := get_ref hi
      obtain ⟨n, u, tt⟩ := (hts.same s1) t (List.mem_of_getElem? ht)
      obtain ⟨dx, fs, g1, g2, g3, g4, g5⟩ := id tt
      refine ⟨_, rfl, t, dx, fs, rfl, g1, g4, t, n, u, rfl, tt, _, rfl, ?_⟩
      refine ite2 (fun _ => ?_) (fun _ => ?_)
      · refine ⟨_, rfl, t, CT, dx, _, _, rfl, g1, T.clT, T.tn, g2, _, rfl, l, _, rfl, .inl (SqL.of hL), rfl, all_flat_str ns, _, rfl, ?_⟩
        refine ite2 (fun _ => ?_) (fun _ => ?_)
        · refine ⟨_, rfl, .inl ⟨rfl, _, SqL.of hL⟩, _, rfl, t, CT, dx, _, _, rfl, g1, T.clT, T.tn, g2, l, _, _, rfl, rfl, hL, (by rw [List.length_map]; exact small1000 (by omega)), ?_⟩
          refine ⟨ns ++ [n], _, rfl, fun b o e => ?_, by rw [upd_same, List.map_append]; rfl, by rw [List.length_append, List.length_singleton]; omega, by omega⟩
          rw [upd_ne (ne_of_none e hl)]
          exact s1 _ _ e
        · exact ⟨ns, _, rfl, s1, hL, by omega, by omega⟩
      · exact ite2 (fun z => absurd z (by decide)) (fun _ => ⟨ns, _, rfl, s1, hL, by omega, by omega⟩)
    · rintro σ H' ⟨ns, v, rfl, s1, hL, hn, hi2⟩
      refine ⟨_, rfl, l, _, rfl, .inl ⟨SqL.of hL, fun q hq => ?_⟩⟩
      refine k q ns _ (s1.free hq) (fun b o e => ?_) upd_same (by rw [List.length_map] at hn; exact hn)
      rw [upd_ne (ne_of_none (s1 _ _ e) hq)]
      exact s1 _ _ e
end
end Lk
namespace Lk
open PySem L2
theorem length_putF (f : Str) (v : V) : ∀ fs : List (Str × V), (putF f v fs).length ≤ fs.length + 1
  | [] => Nat.le_refl _
  | (g, u) :: r => by
    show (if g = f then (g, v) :: r else (g, u) :: putF f v r).length ≤ _
    by_cases e : g = f
    · rw [if_pos e]; exact Nat.le_succ _
    · rw [if_neg e, List.length_cons, List.length_cons]
      exact Nat.succ_le_succ (length_putF f v r)
theorem few {f : Str} {v : V} {fs : List (Str × V)} {n : Nat} (h : fs.length ≤ n) : (putF f v fs).length ≤ n + 1 := Nat.le_trans (length_putF f v fs) (Nat.succ_le_succ h)
theorem few0 : ([] : List (Str × V)).length ≤ 0 := Nat.le_refl 0

/-! ### Literal -/
def LitAt (C : Addr) (H : Hp) (a : Addr) : Prop :=
  ∃ dx fs q, ∃ ns : List Str, H a = some (.ins C dx fs) ∧ fs.lookup ("own" : Str) = some (.ref q) ∧ H q = some (.tup (ns.map V.str)) ∧ ns.length ≤ 100
theorem LitAt.same {C : Addr} {H H' : Hp} {a : Addr} (t : LitAt C H a) (k : Same H H') : LitAt C H' a := by
  obtain ⟨dx, fs, q, ns, h1, h2, h3, h4⟩ := t
  exact ⟨dx, fs, q, ns, k _ _ h1, h2, k _ _ h3, h4⟩
def spLI (CT C : Addr) : Sp := fun vs H Q _ => ∃ (p dx a : Addr) (k n : V) (ts : List Addr), vs = [.ref p, k, n, .ref a] ∧ H p = some (.ins C dx []) ∧ H a = some (.lst (ts.map V.ref)) ∧ Terms CT H ts ∧ ts.length ≤ 100 ∧
  ∀ H' : Hp, LitAt C H' p → (∀ b o, H b = some o → b ≠ p → H' b = some o) → Q .non H'
section
variable {P : Program} {w : World} {K : PySem.W.Frag} {mg : Str → Option Value} {base : Heap}
theorem scLI : FnScope ["self", "kind", "name", "terms"] ["self", "kind", "name", "terms"] (defScope sLI) := ⟨rfl, rfl, rfl, by decide +kernel, rfl, by decide +kernel, by decide +kernel⟩
theorem ok_LI {f CT CL CR fN : Addr} {fd fdN : FuncData} (F : Fun K "__init__" "Literal.__init__" sLI f fd) (T : Txt K mg CT CL CR) (DN : Def K mg "names_in" sNames ["terms"] fN fdN)
    (GN : ∀ base, FnOk P w K mg base CX0 2 fN fdN ["terms"] (spNames CT)) : FnOk P w K mg base CX0 3 f fd ["self", "kind", "name", "terms"] (spLI CT CL) := by
  refine F.ok scLI (fun vs H Q E h => ?_) (fun cdv A outer s H vs Q E hr h => ?_)
  · obtain ⟨p, dx, a, k, n, ts, rfl, _⟩ := h
    rfl
  · obtain ⟨p, dx, a, kd, n, ts, rfl, hp, ha, hts, hlen, k⟩ := h
    refine ⟨_, pss_cons (ps_fld (pv 0) (pv 1) rfl) (pss_cons (ps_fld (pv 0) (pv 2) rfl)
      (pss_cons (ps_fld (pv 0) (pe_callTy call_tuple_of (by rfl) T.tuple PyProof.Rows.boot_tuple (pa_cons (pv 3) pa_nil)) rfl)
      (pss_one (ps_fld (pv 0) (pe_call (GN _) hr rfl DN.m DN.F.kp DN.b .nil pass0 (pa_cons (pe_fld (pv 0) rfl) pa_nil)) rfl)))), ?_⟩
    have nap : a ≠ p := ne_of ha hp (by intro z; cases z)
    refine ⟨_, rfl, _, rfl, p, CL, dx, [], rfl, hp, T.clL, T.lk, (by show 0 < 1000; decide), ?_⟩
    refine ⟨_, rfl, _, rfl, p, CL, dx, _, rfl, upd_same, T.clL, T.ln, Nat.lt_of_le_of_lt (few few0) (by decide), ?_⟩
    rw [upd_upd]
    refine ⟨_, rfl, a, _, rfl, .inl ⟨SqL.of (by rw [upd_ne nap]; exact ha), fun tp htp => ?_⟩⟩
    have npt : p ≠ tp := ne_of_none upd_same htp
    refine ⟨_, rfl, p, CL, dx, _, rfl, (by rw [upd_ne npt]; exact upd_same), T.clL, T.lt, Nat.lt_of_le_of_lt (few (few few0)) (by decide), ?_⟩
    have htp0 : H tp = none := by rw [upd_ne npt.symm] at htp; exact htp
    -- behind the third store
    generalize e1 : upd (upd (upd H p (.ins CL dx (putF "name" n (putF "kind" kd [])))) tp (.tup (ts.map V.ref))) p (.ins CL dx (putF "terms" (.ref tp) (putF "name" n (putF "kind" kd [])))) = H1
    have h1p : H1 p = some (.ins CL dx (putF "terms" (.ref tp) (putF "name" n (putF "kind" kd [])))) := by rw [← e1]; exact upd_same
    have h1t : H1 tp = some (.tup (ts.map V.ref)) := by rw [← e1, upd_ne npt.symm]; exact upd_same
    have k1 : ∀ b o, H b = some o → b ≠ p → H1 b = some o := fun b o e nb => by
      rw [← e1, upd_ne nb, upd_ne (ne_of_none e htp0), upd_ne nb]
      exact e
    have ht1 : Terms CT H1 ts := fun t ht => by
      obtain ⟨n', v', tt⟩ := hts t ht
      obtain ⟨dy, fy, g1, g2⟩ := id tt
      have ntp : t ≠ p := by
        rintro rfl
        rw [hp] at g1
        cases g1
        have g3 := g2.1
        cases g3
      exact ⟨n', v', dy, fy, k1 _ _ g1 ntp, g2⟩
    refine ⟨_, rfl, p, CL, dx, _, _, rfl, h1p, T.clL, T.lt, (by rw [lookup_putF, if_pos rfl]), tp, ts, rfl, h1t, ht1, hlen, fun q ns H2 hq s2 h2q hn => ?_⟩
    refine ⟨_, rfl, p, CL, dx, _, rfl, s2 _ _ h1p, T.clL, T.lo, Nat.lt_of_le_of_lt (few (few (few few0))) (by decide), ?_⟩
    have nqp : q ≠ p := fun z => by rw [z, h1p] at hq; cases hq
    refine k _ ⟨dx, _, q, ns, upd_same, by rw [lookup_putF, if_pos rfl], by rw [upd_ne nqp]; exact h2q, by omega⟩ fun b o e nb => ?_
    rw [upd_ne nb]
    exact s2 _ _ (k1 _ _ e nb)
def spPos (CT C : Addr) : Sp := fun vs H Q _ => ∃ (a : Addr) (n : V) (ts : List Addr), vs = [n, .ref a] ∧ H a = some (.lst (ts.map V.ref)) ∧ Terms CT H ts ∧ ts.length ≤ 100 ∧
  ∀ (l : Addr) (H' : Hp), H l = none → Same H H' → LitAt C H' l → Q (.ref l) H'
theorem scPos : FnScope ["name", "terms"] ["name", "terms"] (defScope sPos) := ⟨rfl, rfl, rfl, by decide +kernel, rfl, by decide +kernel, by decide +kernel⟩
theorem ok_pos {f CT CL CR fI : Addr} {fd fdI : FuncData} (F : Fun K "pos" "pos" sPos f fd) (T : Txt K mg CT CL CR) (M : Mk K CL fI)
    (GI : ∀ base, FnOk P w K mg base CX0 3 fI fdI ["self", "kind", "name", "terms"] (spLI CT CL)) (bI : Binds K fdI ["self", "kind", "name", "terms"] []) : FnOk P w K mg base CX0 5 f fd ["name", "terms"] (spPos CT CL) := by
  refine F.ok scPos (fun vs H Q E h => ?_) (fun cdv A outer s H vs Q E hr h => ?_)
  · obtain ⟨a, n, ts, rfl, _⟩ := h
    rfl
  · obtain ⟨a, n, ts, rfl, ha, hts, hlen, k⟩ := h
    refine ⟨_, pss_one (ps_ret (pe_make M (GI _) hr rfl T.mL bI .nil pass0 (pa_cons pe_str (pa_cons (pv 0) (pa_cons (pv 1) pa_nil))))), ?_⟩
    refine ⟨_, rfl, _, rfl, fun x dx nx ndx nex => ?_⟩
    have s0 : Same H (upd (upd H dx (.own x)) x (.ins CL dx [])) := fun b o e => by
      rw [upd_ne (ne_of_none e nx), upd_ne (ne_of_none e ndx)]
      exact e
    refine ⟨x, dx, a, _, n, ts, rfl, upd_same, s0 _ _ ha, hts.same s0, hlen, fun H' t kp => ⟨rfl, ?_⟩⟩
    exact k x H' nx (Same.made nx ndx kp) t
end
end Lk
namespace Lk
open PySem L2
/-! ### Rule -/
def RuleAt (C : Addr) (H : Hp) (a : Addr) (ts : List Addr) : Prop :=
  ∃ dx fs q, H a = some (.ins C dx fs) ∧ fs.lookup ("terms" : Str) = some (.ref q) ∧ H q = some (.tup (ts.map V.ref))
theorem RuleAt.same {C : Addr} {H H' : Hp} {a : Addr} {ts : List Addr} (t : RuleAt C H a ts) (k : Same H H') : RuleAt C H' a ts := by
  obtain ⟨dx, fs, q, h1, h2, h3⟩ := t
  exact ⟨dx, fs, q, k _ _ h1, h2, k _ _ h3⟩
def spRI (CT CL C : Addr) : Sp := fun vs H Q _ => ∃ (p dx a b : Addr) (n sm : V) (ts ls : List Addr), vs = [.ref p, n, .ref a, .ref b, sm] ∧ H p = some (.ins C dx []) ∧ H a = some (.lst (ts.map V.ref)) ∧ H b = some (.lst (ls.map V.ref)) ∧
  Terms CT H ts ∧ ts.length ≤ 100 ∧ (∀ l ∈ ls, LitAt CL H l) ∧ ls.length ≤ 10 ∧ CT ≠ C ∧ CL ≠ C ∧
  ∀ H' : Hp, RuleAt C H' p ts → (∀ b o, H b = some o → b ≠ p → H' b = some o) → Q .non H'
def intV (v : V) : Bool := match v with | .int _ => true | _ => false
theorem all_putK {κ : Type} [DecidableEq κ] {kvs : List (κ × V)} {k : κ} {v : V} (h : (kvs.map (·.2)).all intV = true) (hv : intV v = true) : ((putK kvs k v).map (·.2)).all intV = true := by
  rw [List.all_eq_true] at h ⊢
  intro x hx
  obtain ⟨p, hp, rfl⟩ := List.mem_map.mp hx
  unfold putK at hp
  split at hp
  · obtain ⟨q, hq, rfl⟩ := List.mem_map.mp hp
    split
    · exact hv
    · exact h _ (List.mem_map.mpr ⟨q, hq, rfl⟩)
  · rcases List.mem_append.mp hp with m | m
    · exact h _ (List.mem_map.mpr ⟨p, m, rfl⟩)
    · rw [List.mem_singleton.mp m]
      exact hv
theorem get_int {κ : Type} [DecidableEq κ] {kvs : List (κ × V)} {k : κ} (h : (kvs.map (·.2)).all intV = true) : ∃ z : Int, (valV kvs k).getD (V.int 0) = V.int z := by
  cases e : valV kvs k with
  | none => exact ⟨0, rfl⟩
  | some v =>
    have m : v ∈ kvs.map (·.2) := by
      unfold valV at e
      cases q : kvs.find? fun kv => decide (kv.1 = k) with
      | none => rw [q] at e; cases e
      | some p =>
        rw [q] at e
        cases e
        exact List.mem_map.mpr ⟨p, List.mem_of_find?_eq_some q, rfl⟩
    have q := List.all_eq_true.mp h v m
    cases v with
    | int z => exact ⟨z, rfl⟩
    | _ => cases q
section
variable {P : Program} {w : World} {K : PySem.W.Frag} {mg : Str → Option Value} {base : Heap}
theorem FunD.ok0 {x qual : Str} {params : Arguments} {body : List Stmt} {scope : Scope} {dvs : List V} {kws : List (Str × V)} {f : Addr} {fd : FuncData} {N ps : List Str} {k : Nat} {sp : Sp} (F : FunD K x qual params body scope dvs kws f fd) (S : FnScope N ps scope) (len : ∀ vs H Q E, sp vs H Q E → vs.length = ps.length)
    (hbody : ∀ (cdv : Value) (A : Around) (outer : List Env) (s : Shared) (H : Hp) (vs : List V) (Q : VK) (E : XK), Room k (A.deeper (PyProof.Rows.envOfC qual scope s.heap.objs.size f cdv)) → sp vs H Q E →
      ∃ t, PSs (cxOf CX0 P w K mg base N qual scope f cdv A outer s H E).nox body t ∧ t { nx := fun _ H' => Q .non H', rt := Q } (start N vs) H) : FnOk P w K mg base CX0 (k + 1) f fd ps sp :=
  F.ok S len fun cdv A outer s H vs Q E hr h => by
    obtain ⟨t, h1, q⟩ := hbody cdv A outer s H vs Q E hr h
    exact ⟨t, h1.nox, q⟩
theorem scRI : FnScope ["self", "name", "terms", "body", "summed", "literal"] ["self", "name", "terms", "body", "summed"] (defScope sRI) := ⟨rfl, rfl, rfl, by decide +kernel, rfl, by decide +kernel, by decide +kernel⟩
theorem ok_RI {f CT CL CR fN : Addr} {fd fdN : FuncData} {dvs : List V} {kws : List (Str × V)} (F : FunD K "__init__" "Rule.__init__" (defArgs sRI) (defBody sRI) (defScope sRI) dvs kws f fd) (T : Txt K mg CT CL CR) (DN : Def K mg "names_in" sNames ["terms"] fN fdN)
    (GN : ∀ base, FnOk P w K mg base CX0 2 fN fdN ["terms"] (spNames CT)) : FnOk P w K mg base CX0 3 f fd ["self", "name", "terms", "body", "summed"] (spRI CT CL CR) := by
  refine FunD.ok0 F scRI (fun vs H Q E h => ?_) (fun cdv A outer s H vs Q E hr h => ?_)
  · obtain ⟨p, dx, a, b, n, sm, ts, ls, rfl, _⟩ := h
    rfl
  · obtain ⟨p, dx, a, b, n, sm, ts, ls, rfl, hp, ha, hb, hts, hlen, hls, hlen2, nTR, nLR, k⟩ := h
    have hu := hu_of hr
    refine ⟨_, pss_cons (ps_fld (pv 0) (pv 1) rfl)
      (pss_cons (ps_fld (pv 0) (pe_callTy call_tuple_of (by rfl) T.tuple PyProof.Rows.boot_tuple (pa_cons (pv 2) pa_nil)) rfl)
      (pss_cons (ps_fld (pv 0) (pe_callTy call_tuple_of (by rfl) T.tuple PyProof.Rows.boot_tuple (pa_cons (pv 3) pa_nil)) rfl)
      (pss_cons (ps_fld (pv 0) (pv 4) rfl)
      (pss_cons (ps_fld (pv 0) pe_dnewK rfl)
      (pss_cons (ps_for PassesOwn.never rfl (pi_tup (pe_call (GN _) hr rfl DN.m DN.F.kp DN.b .nil pass0 (pa_cons (pe_fld (pv 0) rfl) pa_nil))) (pg_name (i := 1) scRI.nd rfl (Or.inl rfl))
        (pss_one (ps_dput hu (pe_fld (pv 0) rfl) (pv 1) pe_int rfl)))
      (pss_one (ps_for PassesOwn.never rfl (pi_tup (pe_fld (pv 0) rfl)) (pg_name (i := 5) scRI.nd rfl (Or.inl rfl))
        (pss_one (ps_for PassesOwn.never rfl (pi_tup (pe_fld (pv 5) rfl)) (pg_name (i := 1) scRI.nd rfl (Or.inl rfl))
          (pss_one (ps_dput hu (pe_fld (pv 0) rfl) (pv 1) (pe_op op_add (pe_dget2 hu (pe_fld (pv 0) rfl) (pv 1) pe_int ⟨rfl, rfl, rfl, rfl⟩) pe_int) rfl))))))))))), ?_⟩
    have nap : a ≠ p := ne_of ha hp (by intro z; cases z)
    have nbp : b ≠ p := ne_of hb hp (by intro z; cases z)
    refine ⟨_, rfl, _, rfl, p, CR, dx, [], rfl, hp, T.clR, T.rn, (by show 0 < 1000; decide), ?_⟩
    refine ⟨_, rfl, a, _, rfl, .inl ⟨SqL.of (by rw [upd_ne nap]; exact ha), fun tp htp => ?_⟩⟩
    have npt : p ≠ tp := ne_of_none upd_same htp
    have htp0 : H tp = none := by rw [upd_ne npt.symm] at htp; exact htp
    refine ⟨_, rfl, p, CR, dx, _, rfl, (by rw [upd_ne npt]; exact upd_same), T.clR, T.rt, Nat.lt_of_le_of_lt (few few0) (by decide), ?_⟩
    generalize e1 : upd (upd (upd H p (.ins CR dx (putF "name" n []))) tp (.tup (ts.map V.ref))) p (.ins CR dx (putF "terms" (.ref tp) (putF "name" n []))) = H1
    have h1p : H1 p = some (.ins CR dx (putF "terms" (.ref tp) (putF "name" n []))) := by rw [← e1]; exact upd_same
    have h1t : H1 tp = some (.tup (ts.map V.ref)) := by rw [← e1, upd_ne npt.symm]; exact upd_same
    have k1 : ∀ b o, H b = some o → b ≠ p → H1 b = some o := fun b o e nb => by
      rw [← e1, upd_ne nb, upd_ne (ne_of_none e htp0), upd_ne nb]
      exact e
    refine ⟨_, rfl, b, _, rfl, .inl ⟨SqL.of (k1 _ _ hb nbp), fun bp hbp => ?_⟩⟩
    have npb : p ≠ bp := ne_of_none h1p hbp
    refine ⟨_, rfl, p, CR, dx, _, rfl, (by rw [upd_ne npb]; exact h1p), T.clR, T.rb, Nat.lt_of_le_of_lt (few (few few0)) (by decide), ?_⟩
    refine ⟨_, rfl, _, rfl, p, CR, dx, _, rfl, upd_same, T.clR, T.rm, Nat.lt_of_le_of_lt (few (few (few few0))) (by decide), ?_⟩
    rw [upd_upd]
    intro d hd
    have npd : p ≠ d := ne_of_none upd_same hd
    have hd1 : upd H1 bp (.tup (ls.map V.ref)) d = none := by rw [upd_ne npd.symm] at hd; exact hd
    refine ⟨_, rfl, p, CR, dx, _, rfl, (by rw [upd_ne npd]; exact upd_same), T.clR, T.rs, Nat.lt_of_le_of_lt (few (few (few (few few0)))) (by decide), ?_⟩
    generalize ef : putF "stands" (.ref d) (putF "summed" sm (putF "body" (.ref bp) (putF "terms" (.ref tp) (putF "name" n [])))) = fs
    have fT : fs.lookup ("terms" : Str) = some (.ref tp) := by
      rw [← ef, lookup_putF, if_neg (by decide +kernel), lookup_putF, if_neg (by decide +kernel), lookup_putF, if_neg (by decide +kernel), lookup_putF, if_pos rfl]
    have fB : fs.lookup ("body" : Str) = some (.ref bp) := by
      rw [← ef, lookup_putF, if_neg (by decide +kernel), lookup_putF, if_neg (by decide +kernel), lookup_putF, if_pos rfl]
    have fS : fs.lookup ("stands" : Str) = some (.ref d) := by
      rw [← ef, lookup_putF, if_pos rfl]
    have nbd : bp ≠ d := by
      rintro rfl
      rw [upd_same] at hd1
      cases hd1
    have hd0 : H1 d = none := by rw [upd_ne nbd.symm] at hd1; exact hd1
    generalize e2 : upd (upd (upd (upd H1 bp (.tup (ls.map V.ref))) p (.ins CR dx (putF "summed" sm (putF "body" (.ref bp) (putF "terms" (.ref tp) (putF "name" n [])))))) d (.dK [])) p (.ins CR dx fs) = H2
    have h2p : H2 p = some (.ins CR dx fs) := by rw [← e2]; exact upd_same
    have h2d : H2 d = some (.dK []) := by rw [← e2, upd_ne npd.symm]; exact upd_same
    have h2b : H2 bp = some (.tup (ls.map V.ref)) := by rw [← e2, upd_ne npb.symm, upd_ne nbd, upd_ne npb.symm]; exact upd_same
    have k2 : ∀ b o, H1 b = some o → b ≠ p → H2 b = some o := fun b o e nb => by
      rw [← e2, upd_ne nb, upd_ne (ne_of_none e hd0), upd_ne nb, upd_ne (ne_of_none e hbp)]
      exact e
    have h2t : H2 tp = some (.tup (ts.map V.ref)) := k2 _ _ h1t npt.symm
    have k02 : ∀ b o, H b = some o → b ≠ p → H2 b = some o := fun b o e nb => k2 _ _ (k1 _ _ e nb) nb
    have ht2 : Terms CT H2 ts := fun t ht => by
      obtain ⟨n', v', dy, fy, g1, g2⟩ := hts t ht
      have ntp : t ≠ p := by
        rintro rfl
        rw [hp] at g1
        cases g1
        exact nTR rfl
      exact ⟨n', v', dy, fy, k02 _ _ g1 ntp, g2⟩
    have hl2 : ∀ l ∈ ls, LitAt CL H2 l := fun l hl => by
      obtain ⟨dy, fy, q, ns, g1, g2, g3, g4⟩ := hls l hl
      have nlp : l ≠ p := by
        rintro rfl
        rw [hp] at g1
        cases g1
        exact nLR rfl
      have nqp : q ≠ p := by
        rintro rfl
        rw [hp] at g3
        cases g3
      exact ⟨dy, fy, q, ns, k02 _ _ g1 nlp, g2, k02 _ _ g3 nqp, g4⟩
    -- for name in names_in(self.terms)
    refine ⟨_, rfl, p, CR, dx, _, _, rfl, h2p, T.clR, T.rt, fT, tp, ts, rfl, h2t, ht2, hlen, fun q ns H3 hq s3 h3q hn => ?_⟩
    have nqd : q ≠ d := fun z => by rw [z, h2d] at hq; cases hq
    -- the invariant of all that follows: what stands at H3 but d
    refine ⟨q, rfl, ⟨_, SqT.of h3q⟩, for_tup (K := K) (a := q) (xs := ns.map V.str)
      (fun i σ H' => ∃ (nm : V) (kvs : List (Key × V)), σ = [some (.ref p), some nm, some (.ref a), some (.ref b), some sm, none] ∧ (∀ c o, H3 c = some o → c ≠ d → H' c = some o) ∧ H' d = some (.dK kvs) ∧ (kvs.map (·.2)).all intV = true ∧ kvs.length ≤ i)
      ⟨_, [], rfl, fun c o e _ => e, s3 _ _ h2d, rfl, Nat.le_refl _⟩ (fun i σ H' _ ⟨_, _, _, s1, _⟩ => SqT.of (s1 _ _ h3q nqd)) ?_ ?_⟩
    · rintro i x σ H' hi ⟨nm, kvs, rfl, s4, hD, hv, hn2⟩
      obtain ⟨y, hy, rfl⟩ := get_str hi
      have hil : i < ns.length := (List.getElem?_eq_some_iff.mp hy).1
      have g1 : H' p = some (.ins CR dx fs) := s4 _ _ (s3 _ _ h2p) npd
      refine ⟨_, rfl, p, CR, dx, _, _, rfl, g1, T.clR, T.rs, fS, _, rfl, d, _, rfl, DPut.k (k := Sum.inr y) hD (small1000 (by omega)), ?_⟩
      refine ⟨_, putK kvs (Sum.inr y) (.int 1), rfl, fun c o e nc => by rw [upd_ne nc]; exact s4 _ _ e nc, upd_same, ?_, Nat.le_trans (length_putK _ _ _) (by omega)⟩
      exact all_putK hv rfl
    · rintro σ H' ⟨nm, kvs, rfl, s4, hD, hv, hn2⟩
      rw [List.length_map] at hn2
      have g1 : H' p = some (.ins CR dx fs) := s4 _ _ (s3 _ _ h2p) npd
      have hb4 : H' bp = some (.tup (ls.map V.ref)) := s4 _ _ (s3 _ _ h2b) nbd
      refine ⟨_, rfl, p, CR, dx, _, _, rfl, g1, T.clR, T.rb, fB, bp, rfl, ⟨_, SqT.of hb4⟩, for_tup (K := K) (a := bp) (xs := ls.map V.ref)
        (fun i σ H' => ∃ (nm : V) (lv : Option V) (kvs : List (Key × V)), σ = [some (.ref p), some nm, some (.ref a), some (.ref b), some sm, lv] ∧ (∀ c o, H3 c = some o → c ≠ d → H' c = some o) ∧ H' d = some (.dK kvs) ∧ (kvs.map (·.2)).all intV = true ∧ kvs.length ≤ 100 + 100 * i)
        ⟨_, _, kvs, rfl, s4, hD, hv, by omega⟩ (fun i σ H' _ ⟨_, _, _, _, s1, _⟩ => SqT.of (s1 _ _ (s3 _ _ h2b) nbd)) ?_ ?_⟩
      · rintro i x σ H4 hi ⟨nm, lv, kvs, rfl, s5, hD, hv, hn3⟩
        obtain ⟨l, hl, rfl⟩ := get_ref hi
        have hil : i < ls.length := (List.getElem?_eq_some_iff.mp hl).1
        obtain ⟨dy, fy, r, ms, g2, g3, g4, g5⟩ := (hl2 l (List.mem_of_getElem? hl))
        have nld : l ≠ d := ne_of g2 h2d (by intro z; cases z)
        have nrd : r ≠ d := ne_of g4 h2d (by intro z; cases z)
        have l4 : H4 l = some (.ins CL dy fy) := s5 _ _ (s3 _ _ g2) nld
        have r4 : H4 r = some (.tup (ms.map V.str)) := s5 _ _ (s3 _ _ g4) nrd
        refine ⟨_, rfl, l, CL, dy, _, _, rfl, l4, T.clL, T.lo, g3, r, rfl, ⟨_, SqT.of r4⟩, for_tup (K := K) (a := r) (xs := ms.map V.str)
          (fun j σ H' => ∃ (nm : V) (kvs : List (Key × V)), σ = [some (.ref p), some nm, some (.ref a), some (.ref b), some sm, some (.ref l)] ∧ (∀ c o, H3 c = some o → c ≠ d → H' c = some o) ∧ H' d = some (.dK kvs) ∧ (kvs.map (·.2)).all intV = true ∧ kvs.length ≤ 100 + 100 * i + j)
          ⟨_, kvs, rfl, s5, hD, hv, hn3⟩ (fun i σ H' _ ⟨_, _, _, s1, _⟩ => SqT.of (s1 _ _ (s3 _ _ g4) nrd)) ?_ ?_⟩
        · rintro j x σ H5 hj ⟨nm, kvs, rfl, s6, hD, hv, hn4⟩
          obtain ⟨y, hy, rfl⟩ := get_str hj
          have hjl : j < ms.length := (List.getElem?_eq_some_iff.mp hy).1
          have g1 : H5 p = some (.ins CR dx fs) := s6 _ _ (s3 _ _ h2p) npd
          obtain ⟨z, hz⟩ := get_int (k := Sum.inr y) hv
          refine ⟨_, rfl, p, CR, dx, _, _, rfl, g1, T.clR, T.rs, fS, d, rfl, .inl ⟨kvs, .inl hD⟩, _, rfl, _, DGet.k (k := Sum.inr y) hD, z, 1, hz, rfl, ?_⟩
          refine ⟨_, rfl, p, CR, dx, _, _, rfl, g1, T.clR, T.rs, fS, _, rfl, d, _, rfl, DPut.k (k := Sum.inr y) hD (Nat.lt_of_le_of_lt (show kvs.length ≤ 10000 by omega) (by decide)), ?_⟩
          refine ⟨_, putK kvs (Sum.inr y) (.int (z + 1)), rfl, fun c o e nc => by rw [upd_ne nc]; exact s6 _ _ e nc, upd_same, all_putK hv rfl, Nat.le_trans (length_putK _ _ _) (by omega)⟩
        · rintro σ H5 ⟨nm, kvs, rfl, s6, hD, hv, hn4⟩
          rw [List.length_map] at hn4
          exact ⟨_, _, kvs, rfl, s6, hD, hv, by omega⟩
      · rintro σ H4 ⟨nm, lv, kvs, rfl, s5, hD, hv, hn3⟩
        have ntd : tp ≠ d := ne_of h2t h2d (by intro z; cases z)
        refine k _ ⟨dx, fs, tp, s5 _ _ (s3 _ _ h2p) npd, fT, s5 _ _ (s3 _ _ h2t) ntd⟩ fun c o e nc => ?_
        have hd00 : H d = none := by
          cases q : H d with
          | none => rfl
          | some u => have := k1 _ _ q npd.symm; rw [hd0] at this; cases this
        exact s5 _ _ (s3 _ _ (k02 _ _ e nc)) (ne_of_none e hd00)
end
end Lk
namespace Lk
open PySem L2 RZ
/-! ### places -/
def pls : List V := [.int 0, .int 1, .int (10 ^ 17), .str "a", .str "1", .str "b c", .str "X0", .str "X1"]
def isVar (p : V) : Bool := decide (p = .str "X0") || decide (p = .str "X1")
def nmP (p : V) : Str := match p with | .str x => if isVar (.str x) = true then x else "" | _ => ""
def vlP (p : V) : V := if isVar p = true then .non else p
def svL (p : V) : List V := if isVar p = true then [.str "var", p] else [.str "val", p]
def dv (p : V) : PyData := match p with | .int i => .int i | .str s => .str s | _ => .none
def dl (p : V) : List PyData := if isVar p = true then [.str "var", dv p] else [.str "val", dv p]
def both (x : V × V) : Bool := decide (x.1 = x.2) && !isVar x.1
theorem p_sh : ∀ p ∈ pls, shL (nmP p) (vlP p) = svL p := by decide +kernel
theorem p_eqv : ∀ p ∈ pls, ∀ q ∈ pls, PyData.eqv (.tuple (dl p)) (.tuple (dl q)) = decide (p = q) := by decide +kernel
theorem p_shaped : ∀ p ∈ pls, SeqAt.shaped (.tuple (dl p)) = true := by decide +kernel
theorem p_var : ∀ p ∈ pls, (!decide (V.str (nmP p) = V.str "")) = isVar p := by decide +kernel
theorem p_kind {p : V} (h : p ∈ pls) : (∃ i, p = .int i) ∨ ∃ s, p = .str s := by
  have h2 : ∀ p ∈ pls, (match p with | .int _ => true | .str _ => true | _ => false) = true := by decide +kernel
  have h3 := h2 p h
  cases p with
  | int i => exact .inl ⟨i, rfl⟩
  | str s => exact .inr ⟨s, rfl⟩
  | _ => cases h3
theorem p_dp {K : PySem.W.Frag} {H : Hp} {p : V} (h : p ∈ pls) : Dp K H p (dv p) := by
  rcases p_kind h with ⟨i, rfl⟩ | ⟨s, rfl⟩
  · exact .int i
  · exact .str s
theorem p_dl {K : PySem.W.Frag} {H : Hp} {p : V} (h : p ∈ pls) : DpAll K H (svL p) (dl p) := by
  unfold svL dl
  by_cases e : isVar p = true
  · rw [if_pos e, if_pos e]
    exact .cons (.str _) (.cons (p_dp h) .nil)
  · rw [if_neg e, if_neg e]
    exact .cons (.str _) (.cons (p_dp h) .nil)
/-- the terms at ts are made of the places ps -/
structure PTs (C : Addr) (H : Hp) (ts : List Addr) (ps : List V) : Prop where
  len : ts.length = ps.length
  el : ∀ (i : Nat) (t : Addr) (p : V), ts[i]? = some t → ps[i]? = some p → TermAt C H t (nmP p) (vlP p)
theorem PTs.same {C : Addr} {H H' : Hp} {ts : List Addr} {ps : List V} (h : PTs C H ts ps) (k : Same H H') : PTs C H' ts ps := ⟨h.len, fun i t p a b => (h.el i t p a b).same k⟩
theorem PTs.terms {C : Addr} {H : Hp} {ts : List Addr} {ps : List V} (h : PTs C H ts ps) : Terms C H ts := fun t ht => by
  obtain ⟨i, hi, e⟩ := List.mem_iff_getElem.mp ht
  have hp : i < ps.length := by rw [← h.len]; exact hi
  exact ⟨_, _, h.el i t ps[i] (by rw [List.getElem?_eq_getElem hi, e]) (List.getElem?_eq_getElem hp)⟩

/-! ### a comprehension over zip of two tuples, two lists -/
theorem lc_zipT {K : PySem.W.Frag} {a b : Addr} {xs ys : List V} {g : TG} {tt : TT} {te : TE} {vs : List Nat} {σ : L2.St} {H1 : Hp} {D : Addr} {Qd : Hp → Prop} (Pv : Nat → Hp → Prop) (h0 : Pv 0 (upd H1 D (.lst []))) (hq : ∀ i H, Pv i H → SqT K H a xs ∧ SqT K H b ys)
    (hs : ∀ i x y T H, xs[i]? = some x → ys[i]? = some y → Pv i H → H T = none → g (.ref T) (wipe σ vs) (upd H T (.tup [x, y])) fun σ2 H2 => wipe σ2 vs = wipe σ vs ∧ tt σ2 H2 fun b H3 =>
      if b = true then te σ2 H3 fun y H4 => ∃ acc, H4 D = some (.lst acc) ∧ acc.length < sizeLine ∧ Pv (i + 1) (upd H4 D (.lst (acc ++ [y]))) else Pv (i + 1) H3) (hd : ∀ H, Pv (min xs.length ys.length) H → Qd H) :
    ∃ W : Nat → Nat → Hp → Prop, (∃ m, W 0 m (upd H1 D (.lst []))) ∧ ∀ i m H, W i m H →
      ((ItzT K a b).stop i H ∧ Qd H) ∨ ((ItzT K a b).go i H ∧ ∃ Nx : Hp → Prop, (∀ H', Nx H' → ∃ m', m' < m ∧ W (i + 1) m' H') ∧ ∀ x H', (ItzT K a b).yld i H x H' → g x (wipe σ vs) H' fun σ2 H2 => wipe σ2 vs = wipe σ vs ∧ tt σ2 H2 fun b H3 =>
        if b = true then te σ2 H3 fun y H4 => ∃ acc, H4 D = some (.lst acc) ∧ acc.length < sizeLine ∧ Nx (upd H4 D (.lst (acc ++ [y]))) else Nx H3) := by
  refine ⟨fun i m H => m = min xs.length ys.length - i ∧ i ≤ min xs.length ys.length ∧ Pv i H, ⟨_, rfl, Nat.zero_le _, h0⟩, ?_⟩
  rintro i m H ⟨rfl, hi, p⟩
  obtain ⟨qx, qy⟩ := hq i H p
  by_cases hlt : i < min xs.length ys.length
  · have hx : xs[i]? = some xs[i] := List.getElem?_eq_getElem (by omega)
    have hy : ys[i]? = some ys[i] := List.getElem?_eq_getElem (by omega)
    refine .inr ⟨⟨xs, ys, _, _, qx, qy, hx, hy⟩, Pv (i + 1), fun H' p' => ⟨min xs.length ys.length - (i + 1), by omega, rfl, hlt, p'⟩, fun v H' y => ?_⟩
    obtain ⟨T, x', y', rfl, hT, rfl, f1, f2⟩ := y
    exact hs i x' y' T H (f1 xs qx) (f2 ys qy) p hT
  · have e : i = min xs.length ys.length := by omega
    refine .inl ⟨⟨xs, ys, qx, qy, by omega⟩, hd H (by rw [← e]; exact p)⟩
theorem lc_zipL {K : PySem.W.Frag} {a b : Addr} {xs ys : List V} {g : TG} {tt : TT} {te : TE} {vs : List Nat} {σ : L2.St} {H1 : Hp} {D : Addr} {Qd : Hp → Prop} (Pv : Nat → Hp → Prop) (h0 : Pv 0 (upd H1 D (.lst []))) (hq : ∀ i H, Pv i H → SqL K H a xs ∧ SqL K H b ys)
    (hs : ∀ i x y T H, xs[i]? = some x → ys[i]? = some y → Pv i H → H T = none → g (.ref T) (wipe σ vs) (upd H T (.tup [x, y])) fun σ2 H2 => wipe σ2 vs = wipe σ vs ∧ tt σ2 H2 fun b H3 =>
      if b = true then te σ2 H3 fun y H4 => ∃ acc, H4 D = some (.lst acc) ∧ acc.length < sizeLine ∧ Pv (i + 1) (upd H4 D (.lst (acc ++ [y]))) else Pv (i + 1) H3) (hd : ∀ H, Pv (min xs.length ys.length) H → Qd H) :
    ∃ W : Nat → Nat → Hp → Prop, (∃ m, W 0 m (upd H1 D (.lst []))) ∧ ∀ i m H, W i m H →
      ((Itz K a b).stop i H ∧ Qd H) ∨ ((Itz K a b).go i H ∧ ∃ Nx : Hp → Prop, (∀ H', Nx H' → ∃ m', m' < m ∧ W (i + 1) m' H') ∧ ∀ x H', (Itz K a b).yld i H x H' → g x (wipe σ vs) H' fun σ2 H2 => wipe σ2 vs = wipe σ vs ∧ tt σ2 H2 fun b H3 =>
        if b = true then te σ2 H3 fun y H4 => ∃ acc, H4 D = some (.lst acc) ∧ acc.length < sizeLine ∧ Nx (upd H4 D (.lst (acc ++ [y]))) else Nx H3) := by
  refine ⟨fun i m H => m = min xs.length ys.length - i ∧ i ≤ min xs.length ys.length ∧ Pv i H, ⟨_, rfl, Nat.zero_le _, h0⟩, ?_⟩
  rintro i m H ⟨rfl, hi, p⟩
  obtain ⟨qx, qy⟩ := hq i H p
  by_cases hlt : i < min xs.length ys.length
  · have hx : xs[i]? = some xs[i] := List.getElem?_eq_getElem (by omega)
    have hy : ys[i]? = some ys[i] := List.getElem?_eq_getElem (by omega)
    refine .inr ⟨⟨xs, ys, _, _, qx, qy, hx, hy⟩, Pv (i + 1), fun H' p' => ⟨min xs.length ys.length - (i + 1), by omega, rfl, hlt, p'⟩, fun v H' y => ?_⟩
    obtain ⟨T, x', y', rfl, hT, rfl, f1, f2⟩ := y
    exact hs i x' y' T H (f1 xs qx) (f2 ys qy) p hT
  · have e : i = min xs.length ys.length := by omega
    refine .inl ⟨⟨xs, ys, qx, qy, by omega⟩, hd H (by rw [← e]; exact p)⟩

/-! ### like_terms -/
def due (ps qs : List V) : List (V × V) := (ps.zip qs).filter both
theorem take_filter {ps qs : List V} {i : Nat} {p q : V} (hp : ps[i]? = some p) (hq : qs[i]? = some q) :
    (((ps.zip qs).take (i + 1)).filter both).length = (((ps.zip qs).take i).filter both).length + (if both (p, q) = true then 1 else 0) := by
  have e : (ps.zip qs)[i]? = some (p, q) := by
    rw [List.getElem?_zip_eq_some]
    exact ⟨hp, hq⟩
  rw [List.take_add_one, e, List.filter_append, List.length_append]
  congr 1
  show (List.filter both [(p, q)]).length = _
  rw [List.filter_cons]
  split <;> rfl
theorem lz (ts : List Addr) (us : List Addr) (ps qs : List V) (h1 : ts.length = ps.length) (h2 : us.length = qs.length) : min (ts.map V.ref).length (us.map V.ref).length = (ps.zip qs).length := by
  rw [List.length_map, List.length_map, List.length_zip, h1, h2]
def spLike (CT C : Addr) : Sp := fun vs H Q _ => ∃ (r1 r2 : Addr) (ts us : List Addr) (ps qs : List V), vs = [.ref r1, .ref r2] ∧ RuleAt C H r1 ts ∧ RuleAt C H r2 us ∧ PTs CT H ts ps ∧ PTs CT H us qs ∧ ps.length ≤ 100 ∧ (∀ p ∈ ps, p ∈ pls) ∧ (∀ p ∈ qs, p ∈ pls) ∧
  ∀ H' : Hp, Same H H' → Q (.int ((due ps qs).length : Nat)) H'
section
variable {P : Program} {w : World} {K : PySem.W.Frag} {mg : Str → Option Value} {base : Heap}
theorem scLike : FnScope ["one", "other", "left", "right"] ["one", "other"] (defScope sLike) := ⟨rfl, rfl, rfl, by decide +kernel, rfl, by decide +kernel, by decide +kernel⟩
theorem ok_like {f CT CL CR fTV fTS : Addr} {fd fdTV fdTS : FuncData} (F : Fun K "like_terms" "like_terms" sLike f fd) (T : Txt K mg CT CL CR) (V1 : Me K CT "is_variable" "Term.is_variable" sTV ["self"] fTV fdTV)
    (V2 : Me K CT "shown" "Term.shown" sTS ["self"] fTS fdTS) : FnOk P w K mg base CX0 2 f fd ["one", "other"] (spLike CT CR) := by
  have GV : FnOk P w K mg base CX0 1 fTV fdTV ["self"] (spTV CT) := ok_TV V1.F T
  have GS : FnOk P w K mg base CX0 1 fTS fdTS ["self"] (spTS CT) := ok_TS V2.F T
  refine F.ok scLike (fun vs H Q E h => ?_) (fun cdv A outer s H vs Q E hr h => ?_)
  · obtain ⟨r1, r2, ts, us, ps, qs, rfl, _⟩ := h
    rfl
  · obtain ⟨r1, r2, ts, us, ps, qs, rfl, ⟨d1, f1, q1, a1, a2, a3⟩, ⟨d2, f2, q2, b1, b2, b3⟩, hP, hQ, hl, hpp, hqq, k⟩ := h
    have hu := hr.units
    refine ⟨_, pss_one (ps_ret (pe_callB call_len_seq (by rfl) T.len PySem.boot_len (pa_cons
      (pe_lc (own := [("left", 2), ("right", 3)]) (g := gTup K 2 (gCons (gName 2) (gCons (gName 3) gNil)))
        (tt := tAnd (tTest (tOp (rEqD K) (tMeth CT "shown" (spTS CT) [] E0 (tVar 2) tNil) (tMeth CT "shown" (spTS CT) [] E0 (tVar 3) tNil))) (tNot (tB (tMeth CT "is_variable" (spTV CT) [] E0 (tVar 2) tNil))))
        (te := tC (.int 1)) rfl scLike.nd
        (pi_zipA (by rfl) T.zip (pa_cons (pe_fld (pv 0) rfl) (pa_cons (pe_fld (pv 1) rfl) pa_nil)))
        (blkOk_by (N := ["one", "other", "left", "right"]) (sc := defScope sLike) (by decide +kernel))
        (fun _ _ _ _ _ => pg_tup rfl (pgs_cons (pg_name (i := 2) scLike.nd rfl (Or.inl rfl)) (pgs_cons (pg_name (i := 3) scLike.nd rfl (Or.inl rfl)) pgs_nil)))
        (fun _ _ _ _ _ => pts_one (PW.pt (pw_and (pt_cmpR (op_eqD hu) (pe_meth0 (pv 2) T.clT V2.m GS hr V2.b .nil pass0) (pe_meth0 (pv 3) T.clT V2.m GS hr V2.b .nil pass0) (nomark _))
          (pw_and1 (pt_not (pt_val (pe_meth0 (pv 2) T.clT V1.m GV hr V1.b .nil pass0)))))))
        (fun _ _ _ _ _ => pe_int)) pa_nil))), ?_⟩
    refine ⟨_, rfl, r1, CR, d1, _, _, rfl, a1, T.clR, T.rt, a2, _, rfl, r2, CR, d2, _, _, rfl, b1, T.clR, T.rt, b2, q1, q2, _, _, rfl, .inr ⟨SqT.of a3, SqT.of b3, fun D hD => ?_⟩⟩
    have s0 : ∀ o, Same H (upd H D o) := fun o b u e => by rw [upd_ne (ne_of_none e hD)]; exact e
    refine lc_zipT (K := K) (a := q1) (b := q2) (xs := ts.map V.ref) (ys := us.map V.ref) (fun i H' => Same H H' ∧ ∃ acc, H' D = some (.lst acc) ∧ acc.length = (((ps.zip qs).take i).filter both).length)
      ⟨s0 _, [], upd_same, rfl⟩ (fun i H' p => ⟨SqT.of (p.1 _ _ a3), SqT.of (p.1 _ _ b3)⟩) ?_ ?_
    · rintro i x y R H' hx hy ⟨s1, acc, hA, hacc⟩ hR
      obtain ⟨t, ht, rfl⟩ := get_ref hx
      obtain ⟨u, hu2, rfl⟩ := get_ref hy
      have hi1 : i < ps.length := by rw [← hP.len]; exact (List.getElem?_eq_some_iff.mp ht).1
      have hi2 : i < qs.length := by rw [← hQ.len]; exact (List.getElem?_eq_some_iff.mp hu2).1
      have hp : ps[i]? = some ps[i] := List.getElem?_eq_getElem hi1
      have hq : qs[i]? = some qs[i] := List.getElem?_eq_getElem hi2
      generalize ps[i] = p at hp
      generalize qs[i] = q at hq
      have mp : p ∈ pls := hpp p (List.mem_of_getElem? hp)
      have mq : q ∈ pls := hqq q (List.mem_of_getElem? hq)
      have s2 : Same H' (upd H' R (.tup [.ref t, .ref u])) := fun b o e => by rw [upd_ne (ne_of_none e hR)]; exact e
      have tt : TermAt CT (upd H' R (.tup [.ref t, .ref u])) t (nmP p) (vlP p) := ((hP.el i t p ht hp).same s1).same s2
      have tu : TermAt CT (upd H' R (.tup [.ref t, .ref u])) u (nmP q) (vlP q) := ((hQ.el i u q hu2 hq).same s1).same s2
      obtain ⟨dt, ft, t1, t2, t3, t4, t5⟩ := id tt
      obtain ⟨du, fu, u1, u2, u3, u4, u5⟩ := id tu
      generalize e3 : upd H' R (.tup [.ref t, .ref u]) = H3 at *
      have h3R : H3 R = some (.tup [.ref t, .ref u]) := by rw [← e3]; exact upd_same
      refine ⟨R, _, rfl, SqT.of h3R, rfl, _, _, rfl, _, _, rfl, rfl, rfl, ?_⟩
      -- left.shown() == right.shown()
      refine ⟨_, rfl, t, dt, ft, rfl, t1, t5, t, _, _, rfl, tt, fun z1 hz1 => ?_⟩
      rw [p_sh p mp]
      have s4 : Same H3 (upd H3 z1 (.tup (svL p))) := fun b o e => by rw [upd_ne (ne_of_none e hz1)]; exact e
      refine ⟨_, rfl, u, du, fu, rfl, s4 _ _ u1, u5, u, _, _, rfl, tu.same s4, fun z2 hz2 => ?_⟩
      rw [p_sh q mq]
      have s5 : Same (upd H3 z1 (.tup (svL p))) (upd (upd H3 z1 (.tup (svL p))) z2 (.tup (svL q))) := fun b o e => by rw [upd_ne (ne_of_none e hz2)]; exact e
      refine ⟨_, _, .tup (SqT.of (s5 _ _ upd_same)) (p_dl mp), .tup (SqT.of upd_same) (p_dl mq), p_shaped p mp, p_shaped q mq, _, rfl, ?_⟩
      rw [p_eqv p mp q mq]
      have s6 : Same H' (upd (upd H3 z1 (.tup (svL p))) z2 (.tup (svL q))) := s2.trans (s4.trans s5)
      have cnt := take_filter hp hq
      by_cases e : p = q
      · rw [decide_eq_true e]
        refine iteT ⟨_, rfl, t, dt, ft, rfl, s5 _ _ (s4 _ _ t1), t4, t, _, _, rfl, (tt.same s4).same s5, _, rfl, ?_⟩
        rw [p_var p mp]
        have eb : both (p, q) = !isVar p := by
          show (decide (p = q) && !isVar p) = _
          rw [decide_eq_true e]
          rfl
        rw [eb] at cnt
        by_cases ev : isVar p = true
        · rw [ev] at cnt ⊢
          exact iteF ⟨s1.trans s6, acc, s6 _ _ hA, by rw [hacc, cnt]; rfl⟩
        · rw [Bool.not_eq_true] at ev
          rw [ev] at cnt ⊢
          refine iteT ⟨acc, s6 _ _ hA, ?_, fun b o e => ?_, acc ++ [.int 1], upd_same, by rw [List.length_append, hacc, cnt]; rfl⟩
          · have h1 : (((ps.zip qs).take i).filter both).length ≤ (ps.zip qs).length := Nat.le_trans (List.length_filter_le _ _) (by rw [List.length_take]; exact Nat.min_le_right _ _)
            rw [List.length_zip] at h1
            exact small1000 (by omega)
          · rw [upd_ne (ne_of_none e hD)]
            exact s6 _ _ (s1 _ _ e)
      · rw [decide_eq_false e]
        have eb : both (p, q) = false := by
          show (decide (p = q) && !isVar p) = _
          rw [decide_eq_false e]
          rfl
        rw [eb] at cnt
        refine iteF (iteF ⟨s1.trans s6, acc, s6 _ _ hA, by rw [hacc, cnt]; rfl⟩)
    · rintro H' ⟨s1, acc, hA, hacc⟩
      rw [lz ts us ps qs hP.len hQ.len, List.take_length] at hacc
      refine ⟨D, acc, rfl, .inl (SqL.of hA), ?_⟩
      rw [hacc]
      exact k H' s1
end
end Lk
namespace Lk
open PySem L2 RZ
/-! ### the law's dice -/
def Dice (H : Hp) (d : Addr) : Prop := ∃ n t m : Int, H d = some (.lst [.int n, .int t, .int m])
/-- all but d is kept, d stays dice -/
def Step (d : Addr) (H H' : Hp) : Prop := Dice H' d ∧ ∀ b o, b ≠ d → H b = some o → H' b = some o
theorem Step.trans {d : Addr} {H1 H2 H3 : Hp} (a : Step d H1 H2) (b : Step d H2 H3) : Step d H1 H3 := ⟨b.1, fun c o n e => b.2 c o n (a.2 c o n e)⟩
theorem Step.same {d : Addr} {H1 H2 H3 : Hp} (a : Step d H1 H2) (b : Same H2 H3) : Step d H1 H3 := by
  obtain ⟨⟨n, t, m, e⟩, k⟩ := a
  exact ⟨⟨n, t, m, b _ _ e⟩, fun c o n e => b _ _ (k c o n e)⟩
theorem Step.refl {d : Addr} {H : Hp} (h : Dice H d) : Step d H H := ⟨h, fun _ _ _ e => e⟩
theorem Dice.same {d : Addr} {H H' : Hp} (h : Dice H d) (k : Same H H') : Dice H' d := by
  obtain ⟨n, t, m, e⟩ := h
  exact ⟨n, t, m, k _ _ e⟩
theorem Step.dice {d c : Addr} {H H' : Hp} (s : Step d H H') (h : Dice H c) : Dice H' c := by
  by_cases e : c = d
  · rw [e]
    exact s.1
  · obtain ⟨n, t, m, h⟩ := h
    exact ⟨n, t, m, s.2 _ _ e h⟩
def spDice : Sp := fun vs H Q _ => ∃ z : Int, vs = [.int z] ∧ ∀ (d : Addr) (H' : Hp), H d = none → Same H H' → Dice H' d → Q (.ref d) H'
def spRoll : Sp := fun vs H Q _ => ∃ (d : Addr) (k : Int), vs = [.ref d, .int k] ∧ 0 < k ∧ k < 2 ^ 30 ∧ Dice H d ∧ ∀ (r : Int) (H' : Hp), 0 ≤ r → r < k → Step d H H' → Q (.int r) H'
section
variable {P : Program} {w : World} {K : PySem.W.Frag} {mg : Str → Option Value} {base : Heap}
theorem scDice : FnScope ["cell"] ["cell"] (defScope sDice) := ⟨rfl, rfl, rfl, by decide +kernel, rfl, by decide +kernel, by decide +kernel⟩
theorem ok_dice {f CT CL CR : Addr} {fd : FuncData} (F : Fun K "_law_dice" "_law_dice" sDice f fd) (T : Txt K mg CT CL CR) : FnOk P w K mg base CX0 1 f fd ["cell"] spDice := by
  refine F.ok scDice (fun vs H Q E h => ?_) (fun cdv A outer s H vs Q E hr h => ?_)
  · obtain ⟨z, rfl, _⟩ := h
    rfl
  · obtain ⟨z, rfl, k⟩ := h
    refine ⟨_, pss_cons (ps_if (pt_chain op_lt op_lt (pe_op op_sub pe_int pe_int) (pv 0) pe_int)
        (pss_one (ps_ret (pe_lst (pa_cons (pe_callB call_abs (by rfl) T.abs PyProof.Rows.boot_abs (pa_cons (pv 0) pa_nil)) (pa_cons pe_int (pa_cons pe_int pa_nil)))))) pss_nil)
      (pss_one (ps_ret (pe_lst (pa_cons (pv 0) (pa_cons (pe_op op_add pe_int (pe_op op_mod (pe_callTy call_int1 (by rfl) T.int PyProof.Rows.boot_int (pa_cons (pv 0) pa_nil)) pe_int))
        (pa_cons (pe_callTy call_int1 (by rfl) T.int PyProof.Rows.boot_int (pa_cons (pe_cmpR op_ge (pv 0) (pe_op op_pow pe_int pe_int) (nomark _)) pa_nil)) pa_nil)))))), ?_⟩
    have fin : ∀ a b c : Int, ∀ p, H p = none → Q (.ref p) (upd H p (.lst [.int a, .int b, .int c])) := fun a b c p hp =>
      k p _ hp (fun b o e => by rw [upd_ne (ne_of_none e hp)]; exact e) ⟨a, b, c, upd_same⟩
    refine ⟨_, _, rfl, rfl, _, rfl, _, _, rfl, rfl, _, rfl, ?_⟩
    refine ite2 (fun _ => ?_) (fun _ => ?_)
    · refine ⟨_, _, rfl, rfl, _, rfl, ?_⟩
      refine ite2 (fun _ => ?_) (fun _ => ?_)
      · refine ⟨_, rfl, _, rfl, (by show 3 ≤ sizeLine; decide), fun p hp => ?_⟩
        exact fin _ _ _ p hp
      · refine ⟨_, rfl, _, rfl, .inl ⟨_, rfl, _, _, rfl, rfl, (by show (0 : Int) < 1009; decide), _, _, rfl, rfl, ?_⟩⟩
        refine ⟨_, rfl, _, _, rfl, rfl, ⟨by decide, by decide, by decide⟩, _, _, rfl, rfl, .inr ⟨_, rfl, (by show 3 ≤ sizeLine; decide), fun p hp => ?_⟩⟩
        exact fin _ _ _ p hp
    · refine ⟨_, rfl, iteF ?_⟩
      refine ⟨_, rfl, _, rfl, .inl ⟨_, rfl, _, _, rfl, rfl, (by show (0 : Int) < 1009; decide), _, _, rfl, rfl, ?_⟩⟩
      refine ⟨_, rfl, _, _, rfl, rfl, ⟨by decide, by decide, by decide⟩, _, _, rfl, rfl, .inr ⟨_, rfl, (by show 3 ≤ sizeLine; decide), fun p hp => ?_⟩⟩
      exact fin _ _ _ p hp
theorem anyOr {tA u : TT} {σ : L2.St} {H : Hp} {Q : Bool → Hp → Prop} (all : ∀ b, Q b H) (h : ∀ Q' : Bool → Hp → Prop, Q' true H → Q' false H → tOr tA u σ H Q') : tOr tA u σ H Q := h Q (all true) (all false)
theorem scRoll : FnScope ["dice", "many", "found"] ["dice", "many"] (defScope sRoll) := ⟨rfl, rfl, rfl, by decide +kernel, rfl, by decide +kernel, by decide +kernel⟩
theorem ok_roll {f CT CL CR : Addr} {fd : FuncData} (F : Fun K "_law_roll" "_law_roll" sRoll f fd) (T : Txt K mg CT CL CR) : FnOk P w K mg base CX0 1 f fd ["dice", "many"] spRoll := by
  refine F.ok scRoll (fun vs H Q E h => ?_) (fun cdv A outer s H vs Q E hr h => ?_)
  · obtain ⟨d, k, rfl, _⟩ := h
    rfl
  · obtain ⟨d, m, rfl, hm0, hm1, ⟨x0, x1, x2, hd⟩, k⟩ := h
    have m0 : m ≠ 0 := by omega
    have m1 : m.natAbs < 1073741824 := by omega
    refine ⟨_, pss_cons (ps_if (PW.pt (pw_or (pt_cmpR op_eq (pe_ix ix_list (pv 0) pe_int (fun _ _ => rfl)) pe_int (nomark _))
          (pw_or1 (PW.pt (pw_and (pt_cmpR op_eq (pe_ix ix_list (pv 0) pe_int (fun _ _ => rfl)) pe_int (nomark _)) (pw_and1 (pt_cmpR op_gt (pe_ix ix_list (pv 0) pe_int (fun _ _ => rfl)) pe_int (nomark _))))))))
        (pss_cons (ps_set (i := 2) scRoll.nd rfl (Or.inl rfl) (pe_op op_modN (pe_callTy call_int1 (by rfl) T.int PyProof.Rows.boot_int (pa_cons (pe_ix ix_list (pv 0) pe_int (fun _ _ => rfl)) pa_nil)) (pv 1)))
        (pss_cons (ps_asg (pe_op op_fdivN (pe_ix ix_list (pv 0) pe_int (fun _ _ => rfl)) (pv 1)) (pg_sub (pv 0) pe_int set_list))
        (pss_one (ps_ret (pv 2))))) pss_nil)
      (pss_cons (ps_asg pe_int (pg_sub (pv 0) pe_int set_list))
      (pss_cons (ps_asg (pe_op op_mod (pe_callTy call_int1 (by rfl) T.int PyProof.Rows.boot_int (pa_cons (pe_op op_add (pe_op op_add (pe_op op_mul (pe_ix ix_list (pv 0) pe_int (fun _ _ => rfl)) pe_int) (pe_op op_mul (pe_ix ix_list (pv 0) pe_int (fun _ _ => rfl)) pe_int)) pe_int) pa_nil)) pe_int) (pg_sub (pv 0) pe_int set_list))
      (pss_cons (ps_asg (pe_op op_add (pe_ix ix_list (pv 0) pe_int (fun _ _ => rfl)) pe_int) (pg_sub (pv 0) pe_int set_list))
      (pss_one (ps_ret (pe_op op_modN (pe_callTy call_int1 (by rfl) T.int PyProof.Rows.boot_int (pa_cons (pe_op op_add (pe_op op_fdivN (pe_ix ix_list (pv 0) pe_int (fun _ _ => rfl)) pe_int) (pe_ix ix_list (pv 0) pe_int (fun _ _ => rfl))) pa_nil)) (pv 1))))))), ?_⟩
    have hm : ∀ z : Int, 0 ≤ z.fmod m ∧ z.fmod m < m := fun z => by
      rw [Int.fmod_eq_emod_of_nonneg z (by omega)]
      exact ⟨Int.emod_nonneg z m0, Int.emod_lt_of_pos z hm0⟩
    have fin : ∀ r a b c : Int, 0 ≤ r → r < m → Q (.int r) (upd H d (.lst [.int a, .int b, .int c])) := fun r a b c h1 h2 =>
      k r _ h1 h2 ⟨⟨a, b, c, upd_same⟩, fun e o ne he => by rw [upd_ne ne]; exact he⟩
    refine anyOr (fun b => ?_) (fun Q' ht hf => ?_)
    · cases b with
      | true =>
        refine iteT ?_
        refine ⟨_, rfl, d, _, 0, _, rfl, rfl, SqL.of hd, rfl, .inl ⟨_, rfl, _, rfl, _, _, rfl, rfl, m0, ?_⟩⟩
        refine ⟨_, rfl, d, _, 0, _, rfl, rfl, SqL.of hd, rfl, _, rfl, _, _, rfl, rfl, ⟨m0, m1⟩, ?_⟩
        refine ⟨_, rfl, d, _, 0, 0, rfl, rfl, hd, rfl, ?_⟩
        exact ⟨_, rfl, fin _ _ _ _ (hm _).1 (hm _).2⟩
      | false =>
        refine iteF ?_
        refine ⟨_, rfl, d, _, 2, 2, rfl, rfl, hd, rfl, ?_⟩
        refine ⟨_, rfl, d, _, 0, _, rfl, rfl, SqL.of upd_same, rfl, _, _, rfl, rfl, .inr ⟨by decide, by decide⟩, ?_⟩
        refine ⟨_, rfl, d, _, 1, _, rfl, rfl, SqL.of upd_same, rfl, _, _, rfl, rfl, .inr ⟨by decide, by decide⟩, ?_⟩
        refine ⟨_, _, rfl, rfl, _, _, rfl, rfl, .inl ⟨_, rfl, _, _, rfl, rfl, (by show (0 : Int) < 2147483647; decide), ?_⟩⟩
        refine ⟨_, rfl, d, _, 0, 0, rfl, rfl, upd_same, rfl, ?_⟩
        rw [upd_upd]
        refine ⟨_, rfl, d, _, 1, _, rfl, rfl, SqL.of upd_same, rfl, _, _, rfl, rfl, ?_⟩
        refine ⟨_, rfl, d, _, 1, 1, rfl, rfl, upd_same, rfl, ?_⟩
        rw [upd_upd]
        refine ⟨_, rfl, d, _, 0, _, rfl, rfl, SqL.of upd_same, rfl, _, _, rfl, rfl, ⟨by decide, by decide⟩, ?_⟩
        refine ⟨_, rfl, d, _, 0, _, rfl, rfl, SqL.of upd_same, rfl, _, _, rfl, rfl, .inl ⟨_, rfl, _, rfl, _, _, rfl, rfl, m0, ?_⟩⟩
        exact fin _ _ _ _ (hm _).1 (hm _).2
    · refine ⟨_, rfl, d, _, 2, _, rfl, rfl, SqL.of hd, rfl, rfl, _, rfl, ?_⟩
      refine ite2 (fun _ => ht) (fun _ => ?_)
      refine ⟨_, rfl, d, _, 2, _, rfl, rfl, SqL.of hd, rfl, rfl, _, rfl, ?_⟩
      refine ite2 (fun _ => ?_) (fun _ => hf)
      refine ⟨_, rfl, d, _, 0, _, rfl, rfl, SqL.of hd, rfl, _, _, rfl, rfl, _, rfl, ?_⟩
      generalize decide ((_ : Int) < _) = b
      cases b with
      | true => exact ht
      | false => exact hf
end
end Lk
namespace Lk
open PySem L2 RZ
def SIGNS : Str := "abcdefghijklmnopqrstuvwxyzABCDEFGHIJKLMNOPQRSTUVWXYZ0123456789_-.,:()!?'#% =<>\\"
def spRounds (K : PySem.W.Frag) : Sp := fun vs H Q _ => ∃ (a : Addr) (ns : List Int), vs = [.ref a, .int 2] ∧ SqL K H a (ns.map V.int) ∧
  ∀ (L : Addr) (ds : List Addr) (H' : Hp), H L = none → Same H H' → H' L = some (.lst (ds.map V.ref)) → (∀ d ∈ ds, Dice H' d) → Q (.ref L) H'
def spSigns : Sp := fun vs H Q _ => vs = [] ∧ Q (.str SIGNS) H
def spPlace : Sp := fun vs H Q _ => ∃ d : Addr, vs = [.ref d] ∧ Dice H d ∧ ∀ (p : V) (H' : Hp), p ∈ pls → Step d H H' → Q p H'
def spVariable : Sp := fun vs H Q _ => ∃ p : V, vs = [p] ∧ p ∈ pls ∧ ∀ H' : Hp, Same H H' → Q (.bl (isVar p)) H'
def spHead : Sp := fun vs H Q _ => ∃ (d : Addr) (n : Int), vs = [.ref d, .int n] ∧ Dice H d ∧ 0 ≤ n ∧ n ≤ 50 ∧
  ∀ (L : Addr) (ps : List V) (H' : Hp), H L = none → Step d H H' → H' L = some (.lst ps) → ps.length ≤ 50 → (∀ p ∈ ps, p ∈ pls) → Q (.ref L) H'
theorem get_i {ns : List Int} {i : Nat} {x : V} (h : (ns.map V.int)[i]? = some x) : ∃ t, ns[i]? = some t ∧ x = V.int t := by
  rw [List.getElem?_map] at h
  cases e : ns[i]? with
  | none => rw [e] at h; cases h
  | some t => rw [e] at h; exact ⟨t, rfl, (Option.some.inj h).symm⟩
theorem cut_ints (ns : List Int) : ∃ ms : List Int, cutV (ns.map V.int) none (some 2) = ms.map V.int ∧ ms.length ≤ 2 := by
  refine ⟨(ns.drop (HT.sIx ns.length 0 none)).take (HT.sIx ns.length ns.length (some 2) - HT.sIx ns.length 0 none), ?_, ?_⟩
  · unfold cutV
    rw [List.length_map, List.map_take, List.map_drop]
  · rw [List.length_take]
    have h : HT.sIx ns.length ns.length (some ((2 : Nat) : Int)) = min 2 ns.length := HT.sIx_nat _ _ _
    have h2 : HT.sIx ns.length ns.length (some (2 : Int)) = min 2 ns.length := h
    rw [h2]
    omega
theorem dp_ints {K : PySem.W.Frag} {H : Hp} : ∀ ms : List Int, DpAll K H (ms.map V.int) (ms.map PyData.int)
  | [] => .nil
  | m :: r => .cons (.int m) (dp_ints r)
theorem sh_ints : ∀ ms : List Int, ms.length ≤ 2 → SeqAt.shaped (.list (ms.map PyData.int)) = true
  | [], _ => rfl
  | [_], _ => rfl
  | [_, _], _ => rfl
  | _ :: _ :: _ :: _, h => by simp at h
section
variable {P : Program} {w : World} {K : PySem.W.Frag} {mg : Str → Option Value} {base : Heap}
theorem scRounds : FnScope ["script", "most", "cells", "cell"] ["script", "most"] (defScope sRounds) := ⟨rfl, rfl, rfl, by decide +kernel, rfl, by decide +kernel, by decide +kernel⟩
theorem ok_rounds {f CT CL CR fD : Addr} {fd fdD : FuncData} (F : Fun K "_law_rounds" "_law_rounds" sRounds f fd) (DD : Def K mg "_law_dice" sDice ["cell"] fD fdD)
    (GD : ∀ base, FnOk P w K mg base CX0 1 fD fdD ["cell"] spDice) : FnOk P w K mg base CX0 2 f fd ["script", "most"] (spRounds K) := by
  refine F.ok scRounds (fun vs H Q E h => ?_) (fun cdv A outer s H vs Q E hr h => ?_)
  · obtain ⟨a, ns, rfl, _⟩ := h
    rfl
  · obtain ⟨a, ns, rfl, hS, k⟩ := h
    have hu := hr.units
    refine ⟨_, pss_cons (ps_set (i := 2) scRounds.nd rfl (Or.inl rfl) (pe_slice sl_list (pv 0) po_none (po_some (pv 1))))
      (pss_cons (ps_if (pt_cmpR (op_eqD hu) (pv 2) (pe_lst pa_nil) (nomark _)) (pss_one (ps_set (i := 2) scRounds.nd rfl (Or.inl rfl) (pe_lst (pa_cons pe_int pa_nil)))) pss_nil)
      (pss_one (ps_ret (pe_lc (own := [("cell", 3)]) (g := gName 3) (tt := tYes) (te := tCall spDice [] E0 (tCons (tVar 3) tNil)) rfl scRounds.nd (pi_list (pv 2))
        (blkOk_by (N := ["script", "most", "cells", "cell"]) (sc := defScope sRounds) (by decide +kernel))
        (fun _ _ _ _ _ => pg_name (i := 3) scRounds.nd rfl (Or.inl rfl)) (fun _ _ _ _ _ => pts_nil)
        (fun _ _ _ _ _ => pe_call (GD _) hr (by rfl) DD.m DD.F.kp DD.b .nil pass0 (pa_cons (pv 3) pa_nil)))))), ?_⟩
    obtain ⟨ms, em, lm⟩ := cut_ints ns
    refine ⟨_, rfl, _, rfl, _, rfl, a, _, rfl, hS, fun c hc => ?_⟩
    rw [em]
    -- cells == []
    refine ⟨_, rfl, Nat.zero_le _, fun e he => ?_⟩
    have nce : c ≠ e := ne_of_none upd_same he
    have hcl : upd (upd H c (.lst (ms.map V.int))) e (.lst []) c = some (.lst (ms.map V.int)) := by rw [upd_ne nce]; exact upd_same
    have s0 : Same H (upd (upd H c (.lst (ms.map V.int))) e (.lst [])) := fun b o q => by
      have n1 := ne_of_none q hc
      have q2 : upd H c (.lst (ms.map V.int)) b = some o := by rw [upd_ne n1]; exact q
      rw [upd_ne (ne_of_none q2 he)]
      exact q2
    refine ⟨_, _, .lst (SqL.of hcl) (dp_ints ms), .lst (SqL.of upd_same) .nil, sh_ints ms lm, rfl, _, rfl, ?_⟩
    generalize upd (upd H c (.lst (ms.map V.int))) e (.lst []) = H1 at s0 hcl
    -- the comprehension, over any list of ints
    have comp : ∀ (cs : List Int) (c2 : Addr) (H2 : Hp), cs.length ≤ 2 → Same H H2 → H2 c2 = some (.lst (cs.map V.int)) → ∀ D, H2 D = none →
        ∃ W : Nat → Nat → Hp → Prop, (∃ m, W 0 m (upd H2 D (.lst []))) ∧ ∀ i m H, W i m H →
      ((Itl K c2).stop i H ∧ Q (.ref D) H) ∨ ((Itl K c2).go i H ∧ ∃ Nx : Hp → Prop, (∀ H', Nx H' → ∃ m', m' < m ∧ W (i + 1) m' H') ∧ ∀ x H', (Itl K c2).yld i H x H' → gName 3 x (wipe [some (.ref a), some (.int 2), some (.ref c2), none] [3]) H' fun σ2 H2 => wipe σ2 [3] = wipe [some (.ref a), some (.int 2), some (.ref c2), none] [3] ∧ tYes σ2 H2 fun b H3 =>
        if b = true then tCall spDice [] E0 (tCons (tVar 3) tNil) σ2 H3 fun y H4 => ∃ acc, H4 D = some (.lst acc) ∧ acc.length < sizeLine ∧ Nx (upd H4 D (.lst (acc ++ [y]))) else Nx H3) := by
      intro cs c2 H2 hl2 s2 h2 D hD
      have s3 : ∀ o, Same H2 (upd H2 D o) := fun o b u e => by rw [upd_ne (ne_of_none e hD)]; exact e
      refine lc_list (K := K) (a := c2) (xs := cs.map V.int) (fun i H' => Same H2 H' ∧ ∃ ds : List Addr, H' D = some (.lst (ds.map V.ref)) ∧ (∀ d ∈ ds, Dice H' d ∧ d ≠ D) ∧ ds.length ≤ i)
        ⟨s3 _, [], upd_same, (fun _ h => nomatch h), Nat.le_refl _⟩ (fun i H' _ p => SqL.of (p.1 _ _ h2)) ?_ ?_
      · rintro i x H' hi ⟨s4, ds, hA, hds, hl4⟩
        have hil := (List.getElem?_eq_some_iff.mp hi).1
        rw [List.length_map] at hil
        obtain ⟨z, hz, rfl⟩ := get_i hi
        refine ⟨rfl, ?_⟩
        refine ⟨_, rfl, z, rfl, fun d H5 hd s5 dd => ?_⟩
        have ndD : d ≠ D := fun e => by rw [e, hA] at hd; cases hd
        refine ⟨_, s5 _ _ hA, by rw [List.length_map]; exact small1000 (by omega), fun b o e => ?_, ds ++ [d], by rw [upd_same, List.map_append]; rfl, fun y hy => ?_, by rw [List.length_append, List.length_singleton]; omega⟩
        · rw [upd_ne (ne_of_none e hD)]
          exact s5 _ _ (s4 _ _ e)
        · rcases List.mem_append.mp hy with m | m
          · obtain ⟨⟨n1, n2, n3, q⟩, ne⟩ := hds y m
            exact ⟨⟨n1, n2, n3, by rw [upd_ne ne]; exact s5 _ _ q⟩, ne⟩
          · rw [List.mem_singleton.mp m]
            obtain ⟨n1, n2, n3, q⟩ := dd
            exact ⟨⟨n1, n2, n3, by rw [upd_ne ndD]; exact q⟩, ndD⟩
      · rintro H' ⟨s4, ds, hA, hds, _⟩
        exact k D ds H' (s2.free hD) (s2.trans s4) hA fun d hd => (hds d hd).1
    refine ite2 (fun _ => ?_) (fun _ => ?_)
    · refine ⟨(by show 1 ≤ sizeLine; decide), fun g hg => ?_⟩
      have s5 : Same H (upd H1 g (.lst [.int 0])) := fun b o q => by
        rw [upd_ne (ne_of_none (s0 _ _ q) hg)]
        exact s0 _ _ q
      exact ⟨_, rfl, g, rfl, ⟨_, SqL.of upd_same⟩, comp [0] g _ (by decide) s5 upd_same⟩
    · exact ⟨_, rfl, c, rfl, ⟨_, SqL.of hcl⟩, comp ms c H1 lm s0 hcl⟩
theorem scSigns : FnScope [] [] (defScope sSigns) := ⟨rfl, rfl, rfl, by decide +kernel, rfl, by decide +kernel, by decide +kernel⟩
theorem ok_signs {f : Addr} {fd : FuncData} (F : Fun K "_law_signs" "_law_signs" sSigns f fd) : FnOk P w K mg base CX0 1 f fd [] spSigns := by
  refine F.ok scSigns (fun vs H Q E h => ?_) (fun cdv A outer s H vs Q E hr h => ?_)
  · obtain ⟨rfl, _⟩ := h
    rfl
  · obtain ⟨rfl, k⟩ := h
    exact ⟨_, pss_one (ps_ret pe_str), k⟩
end
end Lk
namespace Lk
open PySem L2 RZ
theorem p_inv : ∀ p ∈ pls, inV p [.str "X0", .str "X1"] = isVar p := by decide +kernel
theorem p_flat : ∀ p ∈ pls, flatV p = true := by decide +kernel
theorem x_pl : ∀ r : Int, 0 ≤ r → r < 2 → V.str (("X" : Str) ++ toString r) ∈ pls := by
  intro r h0 h1
  have h2 : r = 0 ∨ r = 1 := by omega
  rcases h2 with rfl | rfl
  · decide +kernel
  · decide +kernel
theorem x_len : ∀ r : Int, 0 ≤ r → r < 2 → ("X" : Str).length + ((toString r : String) : Str).length ≤ sizeLine := by
  intro r h0 h1
  have h2 : r = 0 ∨ r = 1 := by omega
  rcases h2 with rfl | rfl
  · decide +kernel
  · decide +kernel
section
variable {P : Program} {w : World} {K : PySem.W.Frag} {mg : Str → Option Value} {base : Heap}
theorem scVariable : FnScope ["place"] ["place"] (defScope sVariable) := ⟨rfl, rfl, rfl, by decide +kernel, rfl, by decide +kernel, by decide +kernel⟩
theorem ok_variable {f : Addr} {fd : FuncData} (F : Fun K "_law_variable" "_law_variable" sVariable f fd) : FnOk P w K mg base CX0 1 f fd ["place"] spVariable := by
  refine F.ok scVariable (fun vs H Q E h => ?_) (fun cdv A outer s H vs Q E hr h => ?_)
  · obtain ⟨p, rfl, _⟩ := h
    rfl
  · obtain ⟨p, rfl, hp, k⟩ := h
    refine ⟨_, pss_one (ps_ret (pe_cmpR op_in_seq (pv 0) (pe_lst (pa_cons pe_str (pa_cons pe_str pa_nil))) (by rfl))), ?_⟩
    refine ⟨_, rfl, (by show 2 ≤ sizeLine; decide), fun l hl => ?_⟩
    refine ⟨l, _, rfl, .inl (SqL.of upd_same), p_flat p hp, rfl, ?_⟩
    have e := p_inv p hp
    show Q (V.bl (inV p [.str "X0", .str "X1"])) _
    rw [e]
    exact k _ fun b o e => by rw [upd_ne (ne_of_none e hl)]; exact e
theorem scPlace : FnScope ["dice", "kind"] ["dice"] (defScope sPlace) := ⟨rfl, rfl, rfl, by decide +kernel, rfl, by decide +kernel, by decide +kernel⟩
theorem ok_place {f CT CL CR fR : Addr} {fd fdR : FuncData} (F : Fun K "_law_place" "_law_place" sPlace f fd) (T : Txt K mg CT CL CR) (DR : Def K mg "_law_roll" sRoll ["dice", "many"] fR fdR)
    (GR : ∀ base, FnOk P w K mg base CX0 1 fR fdR ["dice", "many"] spRoll) : FnOk P w K mg base CX0 2 f fd ["dice"] spPlace := by
  refine F.ok scPlace (fun vs H Q E h => ?_) (fun cdv A outer s H vs Q E hr h => ?_)
  · obtain ⟨d, rfl, _⟩ := h
    rfl
  · obtain ⟨d, rfl, hd, k⟩ := h
    refine ⟨_, pss_cons (ps_set (i := 1) scPlace.nd rfl (Or.inl rfl) (pe_call (GR _) hr (by rfl) DR.m DR.F.kp DR.b .nil pass0 (pa_cons (pv 0) (pa_cons pe_int pa_nil))))
      (pss_cons (ps_if (pt_cmpR op_eq (pv 1) pe_int (nomark _)) (pss_one (ps_ret (pe_op op_add_str pe_str (pe_callTy call_str_int (by rfl) T.str PyProof.Rows.boot_str (pa_cons
          (pe_call (GR _) hr (by rfl) DR.m DR.F.kp DR.b .nil pass0 (pa_cons (pv 0) (pa_cons pe_int pa_nil))) pa_nil))))) pss_nil)
      (pss_one (ps_ret (pe_ix ix_list (pe_lst (pa_cons pe_int (pa_cons pe_int (pa_cons (pe_op op_pow pe_int pe_int) (pa_cons pe_str (pa_cons pe_str (pa_cons pe_str pa_nil)))))))
        (pe_call (GR _) hr (by rfl) DR.m DR.F.kp DR.b .nil pass0 (pa_cons (pv 0) (pa_cons pe_int pa_nil))) (fun _ _ => rfl))))), ?_⟩
    refine ⟨_, rfl, d, 3, rfl, by decide, by decide, hd, fun r H1 h0 h1 s1 => ?_⟩
    refine ⟨_, rfl, rfl, _, rfl, ?_⟩
    refine ite2 (fun _ => ?_) (fun _ => ?_)
    · refine ⟨_, rfl, d, 2, rfl, by decide, by decide, s1.1, fun r2 H2 g0 g1 s2 => ?_⟩
      refine ⟨_, rfl, ?_, _, _, rfl, rfl, x_len r2 g0 g1, ?_⟩
      · have g2 : r2 = 0 ∨ r2 = 1 := by omega
        rcases g2 with rfl | rfl <;> decide
      · exact k _ _ (x_pl r2 g0 g1) (s1.trans s2)
    · refine ⟨_, _, rfl, rfl, ⟨by decide, by decide, by decide⟩, (by show 6 ≤ sizeLine; decide), fun l hl => ?_⟩
      have ndl : d ≠ l := fun e => by
        obtain ⟨⟨x, y, z, q⟩, _⟩ := s1
        rw [e, hl] at q
        cases q
      have s2 : Same H1 (upd H1 l (.lst [.int 0, .int 1, .int (10 ^ (17 : Int).toNat), .str "a", .str "1", .str "b c"])) := fun b o e => by rw [upd_ne (ne_of_none e hl)]; exact e
      refine ⟨_, rfl, d, 6, rfl, by decide, by decide, s1.1.same s2, fun r2 H2 g0 g1 s3 => ?_⟩
      have hL : H2 l = some (.lst [.int 0, .int 1, .int (10 ^ (17 : Int).toNat), .str "a", .str "1", .str "b c"]) := s3.2 _ _ ndl.symm upd_same
      have st : Step d H H2 := (s1.same s2).trans s3
      obtain ⟨j, rfl⟩ : ∃ j : Nat, r2 = (j : Int) := ⟨r2.toNat, by omega⟩
      have hj : j < 6 := by omega
      have hx : ([.int 0, .int 1, .int (10 ^ (17 : Int).toNat), .str "a", .str "1", .str "b c"] : List V)[j]? = some ([.int 0, .int 1, .int (10 ^ (17 : Int).toNat), .str "a", .str "1", .str "b c"] : List V)[j] := List.getElem?_eq_getElem (by show j < 6; exact hj)
      refine ⟨l, _, _, _, rfl, rfl, SqL.of hL, at_of rfl hx, k _ _ ?_ st⟩
      have hall : ∀ x ∈ ([.int 0, .int 1, .int (10 ^ (17 : Int).toNat), .str "a", .str "1", .str "b c"] : List V), x ∈ pls := by decide +kernel
      exact hall _ (List.mem_of_getElem? hx)
theorem scHead : FnScope ["dice", "many", "k"] ["dice", "many"] (defScope sHead) := ⟨rfl, rfl, rfl, by decide +kernel, rfl, by decide +kernel, by decide +kernel⟩
theorem ok_head {f CT CL CR fP : Addr} {fd fdP : FuncData} (F : Fun K "_law_head" "_law_head" sHead f fd) (T : Txt K mg CT CL CR) (DP : Def K mg "_law_place" sPlace ["dice"] fP fdP)
    (GP : ∀ base, FnOk P w K mg base CX0 2 fP fdP ["dice"] spPlace) : FnOk P w K mg base CX0 3 f fd ["dice", "many"] spHead := by
  refine F.ok scHead (fun vs H Q E h => ?_) (fun cdv A outer s H vs Q E hr h => ?_)
  · obtain ⟨d, n, rfl, _⟩ := h
    rfl
  · obtain ⟨d, n, rfl, hd, n0, n5, k⟩ := h
    refine ⟨_, pss_one (ps_ret (pe_lc (own := [("k", 2)]) (g := gName 2) (tt := tYes) (te := tCall spPlace [] E0 (tCons (tVar 0) tNil)) rfl scHead.nd (pi_range1 (by rfl) T.range (pa_cons (pv 1) pa_nil))
        (blkOk_by (N := ["dice", "many", "k"]) (sc := defScope sHead) (by decide +kernel))
        (fun _ _ _ _ _ => pg_name (i := 2) scHead.nd rfl (Or.inl rfl)) (fun _ _ _ _ _ => pts_nil)
        (fun _ _ _ _ _ => pe_call (GP _) hr (by rfl) DP.m DP.F.kp DP.b .nil pass0 (pa_cons (pv 0) pa_nil)))), ?_⟩
    refine ⟨_, rfl, n, rfl, by omega, by omega, fun D hD => ?_⟩
    have ndD : d ≠ D := fun e => by
      obtain ⟨x, y, z, q⟩ := hd
      rw [e, hD] at q
      cases q
    have s0 : ∀ o, Same H (upd H D o) := fun o b u e => by rw [upd_ne (ne_of_none e hD)]; exact e
    refine lc_range (lo := 0) (n := n.toNat) (fun i H' => Step d H H' ∧ ∃ ps : List V, H' D = some (.lst ps) ∧ (∀ p ∈ ps, p ∈ pls) ∧ ps.length = i)
      ⟨(Step.refl hd).same (s0 _), [], upd_same, (fun _ h => nomatch h), rfl⟩ ?_ ?_
    · rintro i H' hi ⟨s1, ps, hA, hps, hl⟩
      refine ⟨rfl, ?_⟩
      refine ⟨_, rfl, d, rfl, s1.1, fun p H2 hp s2 => ?_⟩
      have hA2 : H2 D = some (.lst ps) := s2.2 _ _ ndD.symm hA
      refine ⟨_, hA2, small1000 (by omega), ?_, ps ++ [p], upd_same, fun y hy => ?_, by rw [List.length_append, List.length_singleton]; omega⟩
      · refine ⟨?_, fun b o nb e => ?_⟩
        · obtain ⟨x, y, z, q⟩ := s2.1
          exact ⟨x, y, z, by rw [upd_ne ndD]; exact q⟩
        · rw [upd_ne (ne_of_none e hD)]
          exact s2.2 _ _ nb (s1.2 _ _ nb e)
      · rcases List.mem_append.mp hy with m | m
        · exact hps y m
        · rw [List.mem_singleton.mp m]
          exact hp
    · rintro H' ⟨s1, ps, hA, hps, hl⟩
      exact k D ps H' hD s1 hA (by omega) hps
end
end Lk
namespace Lk
open PySem L2 RZ
def spMade (CT C : Addr) : Sp := fun vs H Q _ => ∃ (L : Addr) (ps : List V), vs = [.ref L] ∧ H L = some (.lst ps) ∧ ps.length ≤ 50 ∧ (∀ p ∈ ps, p ∈ pls) ∧
  ∀ (r : Addr) (ts : List Addr) (H' : Hp), Same H H' → RuleAt C H' r ts → PTs CT H' ts ps → Q (.ref r) H'
theorem p_str {p : V} (h : p ∈ pls) (e : isVar p = true) : ∃ x, p = .str x ∧ nmP p = x ∧ vlP p = .non := by
  rcases p_kind h with ⟨i, rfl⟩ | ⟨x, rfl⟩
  · exact absurd e (by simp [isVar])
  · refine ⟨x, rfl, ?_, ?_⟩
    · show (if isVar (.str x) = true then x else "") = x
      rw [if_pos e]
    · show (if isVar (.str x) = true then V.non else _) = V.non
      rw [if_pos e]
theorem p_novar {p : V} (e : ¬ isVar p = true) : nmP p = "" ∧ vlP p = p := by
  refine ⟨?_, ?_⟩
  · cases p with
    | str x =>
      show (if isVar (.str x) = true then x else "") = ""
      rw [if_neg e]
    | _ => rfl
  · show (if isVar p = true then V.non else p) = p
    rw [if_neg e]
section
variable {P : Program} {w : World} {K : PySem.W.Frag} {mg : Str → Option Value} {base : Heap}
theorem scMade : FnScope ["head", "terms", "place"] ["head"] (defScope sMade) := ⟨rfl, rfl, rfl, by decide +kernel, rfl, by decide +kernel, by decide +kernel⟩
theorem ok_made {f CT CL CR fV fW fX fP fI : Addr} {fd fdV fdW fdX fdP fdI : FuncData} {ds : List Value} (F : Fun K "_law_made" "_law_made" sMade f fd) (T : Txt K mg CT CL CR)
    (DV : Def K mg "_law_variable" sVariable ["place"] fV fdV) (GV : ∀ base, FnOk P w K mg base CX0 1 fV fdV ["place"] spVariable)
    (DW : Def K mg "var" sVar ["name"] fW fdW) (GW : ∀ base, FnOk P w K mg base CX0 3 fW fdW ["name"] (spVar CT))
    (DX : Def K mg "val" sVal ["value"] fX fdX) (GX : ∀ base, FnOk P w K mg base CX0 3 fX fdX ["value"] (spVal CT))
    (DP : Def K mg "pos" sPos ["name", "terms"] fP fdP) (GP : ∀ base, FnOk P w K mg base CX0 5 fP fdP ["name", "terms"] (spPos CT CL))
    (M : Mk K CR fI) (GI : ∀ base, FnOk P w K mg base CX0 3 fI fdI ["self", "name", "terms", "body", "summed"] (spRI CT CL CR)) (bI : Binds K fdI ["self", "name", "terms", "body", "summed"] ds) (hds : Vals [.non] ds)
    (nTR : CT ≠ CR) (nLR : CL ≠ CR) : FnOk P w K mg base CX0 6 f fd ["head"] (spMade CT CR) := by
  refine F.ok scMade (fun vs H Q E h => ?_) (fun cdv A outer s H vs Q E hr h => ?_)
  · obtain ⟨L, ps, rfl, _⟩ := h
    rfl
  · obtain ⟨L, ps, rfl, hL, hl, hps, k⟩ := h
    have hr1 : Room 1 _ := hr.mono (by decide)
    have hr3 : Room 3 _ := hr.mono (by decide)
    have hr4 : Room 4 _ := hr.mono (by decide)
    refine ⟨_, pss_cons (ps_setLc (i := 1) (own := [("place", 2)]) (g := gName 2) (tt := tYes)
        (te := tIf (tB (tCall spVariable [] E0 (tCons (tVar 2) tNil))) (tCall (spVar CT) [] E0 (tCons (tVar 2) tNil)) (tCall (spVal CT) [] E0 (tCons (tVar 2) tNil)))
        rfl scMade.nd rfl rfl (sw_true rfl rfl rfl (by decide +kernel)) (pi_list (pv 0))
        (blkOk_by (N := ["head", "terms", "place"]) (sc := defScope sMade) (by decide +kernel))
        (fun _ _ _ _ _ => pg_name (i := 2) scMade.nd rfl (Or.inl rfl)) (fun _ _ _ _ _ => pts_nil)
        (fun _ _ _ _ _ => pe_ifExp (pt_val (pe_call (GV _) hr1 (by rfl) DV.m DV.F.kp DV.b .nil pass0 (pa_cons (pv 2) pa_nil)))
          (pe_call (GW _) hr3 (by rfl) DW.m DW.F.kp DW.b .nil pass0 (pa_cons (pv 2) pa_nil)) (pe_call (GX _) hr3 (by rfl) DX.m DX.F.kp DX.b .nil pass0 (pa_cons (pv 2) pa_nil))))
      (pss_one (ps_ret (pe_make M (GI _) hr4 rfl T.mR bI hds pass0 (pa_cons pe_str (pa_cons (pv 1) (pa_cons
        (pe_lst (pa_cons (pe_call (GP _) hr (by rfl) DP.m DP.F.kp DP.b .nil pass0 (pa_cons pe_str (pa_cons
          (pe_lst (pa_cons (pe_call (GW _) hr3 (by rfl) DW.m DW.F.kp DW.b .nil pass0 (pa_cons pe_str pa_nil)) (pa_cons (pe_call (GW _) hr3 (by rfl) DW.m DW.F.kp DW.b .nil pass0 (pa_cons pe_str pa_nil)) pa_nil))) pa_nil))) pa_nil)) pa_nil)))))), ?_⟩
    refine ⟨_, rfl, L, rfl, ⟨_, SqL.of hL⟩, fun D hD => ?_⟩
    have s0 : ∀ o, Same H (upd H D o) := fun o b u e => by rw [upd_ne (ne_of_none e hD)]; exact e
    refine lc_list (K := K) (a := L) (xs := ps) (fun i H' => Same H H' ∧ ∃ ts : List Addr, H' D = some (.lst (ts.map V.ref)) ∧ ts.length = i ∧ i ≤ ps.length ∧ (∀ (j : Nat) (t : Addr) (p : V), ts[j]? = some t → ps[j]? = some p → TermAt CT H' t (nmP p) (vlP p) ∧ t ≠ D))
      ⟨s0 _, [], upd_same, rfl, Nat.zero_le _, fun j t p h => by simp at h⟩ (fun i H' _ p => SqL.of (p.1 _ _ hL)) ?_ ?_
    · rintro i p H' hi ⟨s1, ts, hA, hlt, _, hts⟩
      have hil := (List.getElem?_eq_some_iff.mp hi).1
      have mp : p ∈ pls := hps p (List.mem_of_getElem? hi)
      refine ⟨rfl, ?_⟩
      refine ⟨_, rfl, p, rfl, mp, fun H2 s2 => ⟨_, rfl, ?_⟩⟩
      -- what both ways hand back
      have fin : ∀ (t : Addr) (H3 : Hp), H2 t = none → Same H2 H3 → TermAt CT H3 t (nmP p) (vlP p) → ∃ acc, H3 D = some (.lst acc) ∧ acc.length < sizeLine ∧
          (Same H (upd H3 D (.lst (acc ++ [V.ref t]))) ∧ ∃ ts : List Addr, upd H3 D (.lst (acc ++ [V.ref t])) D = some (.lst (ts.map V.ref)) ∧ ts.length = i + 1 ∧ i + 1 ≤ ps.length ∧ (∀ (j : Nat) (t' : Addr) (p : V), ts[j]? = some t' → ps[j]? = some p → TermAt CT (upd H3 D (.lst (acc ++ [V.ref t]))) t' (nmP p) (vlP p) ∧ t' ≠ D)) := by
        intro t H3 ht s3 tt
        have hA3 := s3 _ _ (s2 _ _ hA)
        have ntD : t ≠ D := fun e => by rw [e, s2 _ _ hA] at ht; cases ht
        have keep : ∀ b o, b ≠ D → H3 b = some o → upd H3 D (.lst (ts.map V.ref ++ [V.ref t])) b = some o := fun b o n e => by rw [upd_ne n]; exact e
        refine ⟨_, hA3, by rw [List.length_map]; exact small1000 (by omega), fun b o e => keep _ _ (ne_of_none e hD) (s3 _ _ (s2 _ _ (s1 _ _ e))), ts ++ [t], by rw [upd_same, List.map_append]; rfl, by rw [List.length_append, List.length_singleton, hlt], hil, fun j t' q hj hq => ?_⟩
        by_cases e : j < ts.length
        · rw [List.getElem?_append_left e] at hj
          obtain ⟨⟨dx, fs, g1, g2⟩, n⟩ := hts j t' q hj hq
          exact ⟨⟨dx, fs, keep _ _ n (s3 _ _ (s2 _ _ g1)), g2⟩, n⟩
        · have ej : j = ts.length := by
            have h2 := (List.getElem?_eq_some_iff.mp hj).1
            rw [List.length_append, List.length_singleton] at h2
            omega
          rw [ej, List.getElem?_append_right (Nat.le_refl _), Nat.sub_self] at hj
          cases (Option.some.inj hj : t = t')
          rw [ej, hlt, hi] at hq
          cases hq
          obtain ⟨dx, fs, g1, g2⟩ := tt
          exact ⟨⟨dx, fs, keep _ _ ntD g1, g2⟩, ntD⟩
      by_cases ev : isVar p = true
      · rw [ev]
        obtain ⟨x, rfl, e1, e2⟩ := p_str mp ev
        refine ⟨_, rfl, x, rfl, fun t H3 ht s3 tt => fin t H3 ht s3 ?_⟩
        rw [e1, e2]
        exact tt
      · have e1 := p_novar ev
        rw [Bool.not_eq_true] at ev
        rw [ev]
        refine ⟨_, rfl, p, rfl, fun t H3 ht s3 tt => fin t H3 ht s3 ?_⟩
        rw [e1.1, e1.2]
        exact tt
    · rintro H1 ⟨s1, ts, hA, hlt, _, hts⟩
      refine ⟨_, rfl, ?_⟩
      -- [pos('q', [var('X0'), var('X1')])]
      refine ⟨"X0", rfl, fun t0 H2 ht0 s2 tt0 => ?_⟩
      refine ⟨"X1", rfl, fun t1 H3 ht1 s3 tt1 => ?_⟩
      refine ⟨(by show 2 ≤ sizeLine; decide), fun a ha => ?_⟩
      have s4 : Same H3 (upd H3 a (.lst [.ref t0, .ref t1])) := fun b o e => by rw [upd_ne (ne_of_none e ha)]; exact e
      refine ⟨a, _, [t0, t1], rfl, upd_same, fun t ht => ?_, (by show 2 ≤ 100; decide), fun l H5 hl5 s5 lit => ?_⟩
      · rcases List.mem_cons.mp ht with rfl | ht
        · exact ⟨_, _, (tt0.same s3).same s4⟩
        · rw [List.mem_singleton.mp ht]
          exact ⟨_, _, tt1.same s4⟩
      · refine ⟨(by show 1 ≤ sizeLine; decide), fun b hb => ?_⟩
        have s6 : Same H5 (upd H5 b (.lst [.ref l])) := fun c o e => by rw [upd_ne (ne_of_none e hb)]; exact e
        have s16 : Same H1 (upd H5 b (.lst [.ref l])) := s2.trans (s3.trans (s4.trans (s5.trans s6)))
        intro x dx nx ndx nex
        have s7 : Same (upd H5 b (.lst [.ref l])) (upd (upd (upd H5 b (.lst [.ref l])) dx (.own x)) x (.ins CR dx [])) := fun c o e => by
          rw [upd_ne (ne_of_none e nx), upd_ne (ne_of_none e ndx)]
          exact e
        have pt : PTs CT H1 ts ps := ⟨by omega, fun j t p a b => (hts j t p a b).1⟩
        have s17 := s16.trans s7
        refine ⟨x, dx, D, b, _, _, ts, [l], rfl, upd_same, s17 _ _ hA, s7 _ _ upd_same, (pt.same s17).terms, by omega, fun y hy => ?_, (by show 1 ≤ 10; decide), nTR, nLR, fun H' ru kp => ⟨rfl, ?_⟩⟩
        · rw [List.mem_singleton.mp hy]
          exact (lit.same s6).same s7
        · have s8 : Same (upd H5 b (.lst [.ref l])) H' := Same.made nx ndx kp
          exact k x ts H' (s1.trans (s16.trans s8)) ru (pt.same (s16.trans s8))
end
end Lk
namespace Lk
open PySem L2 RZ
def spLaw (K : PySem.W.Frag) : Sp := fun vs H Q _ => ∃ (a : Addr) (ns : List Int), vs = [.ref a] ∧ SqL K H a (ns.map V.int) ∧ ns.length ≤ 63 ∧ ∀ H', Q (.bl true) H'
def REST : Str := "ABCDEFGHIJKLMNOPQRSTUVWXYZ0123456789_"
theorem inner_eq (c : Nat) : decide (c ∈ INNER.cps.toList) = (decide (c ∈ SMALL.cps.toList) || decide (c ∈ REST.cps.toList)) := by
  have e : INNER.cps.toList = SMALL.cps.toList ++ REST.cps.toList := by decide +kernel
  have h : c ∈ INNER.cps.toList ↔ (c ∈ SMALL.cps.toList ∨ c ∈ REST.cps.toList) := by rw [e]; exact List.mem_append
  rw [← Bool.decide_or]
  exact decide_eq_decide.mpr h
theorem signs_len : SIGNS.cps.toList.length = 79 := by decide +kernel
theorem signs_line : SIGNS.length ≤ sizeLine := by decide +kernel
theorem orI {k b : Bool} {tb : TE} {σ : L2.St} {H : Hp} {Q : VK} (h1 : ∀ Q' : VK, Q' (.bl b) H → tb σ H Q') (h2 : Q (.bl (k || b)) H) : if k = true then Q (.bl true) H else tb σ H Q := by
  cases k with
  | true => exact h2
  | false => exact h1 Q h2
def isS (p : V) : Bool := match p with | .str _ => true | _ => false
def same (x : V × V) : Bool := isS x.1 == isS x.2
theorem p_ty {K : PySem.W.Frag} {H : Hp} {p : V} (h : p ∈ pls) : ∃ t, TyX K H p t ∧ PySem.W.kitOne K t (.type "str") = some (isS p) := by
  rcases p_kind h with ⟨i, rfl⟩ | ⟨s, rfl⟩
  · exact ⟨_, .base (.int i), kit_ty (r := false) (by decide +kernel)⟩
  · exact ⟨_, .base (.str s), kit_ty (r := true) (by decide +kernel)⟩
theorem bl_eq (a b : Bool) : decide (V.bl a = V.bl b) = (a == b) := by
  cases a <;> cases b <;> decide
theorem p_scal : ∀ p ∈ pls, ∀ q ∈ pls, scal p q = true := by decide +kernel
theorem take_filt {l : List (V × V)} {f : V × V → Bool} {i : Nat} {x : V × V} (e : l[i]? = some x) : (l.take (i + 1)).filter f = (l.take i).filter f ++ (if f x = true then [x] else []) := by
  rw [List.take_add_one, e, List.filter_append]
  congr 1
  show List.filter f [x] = _
  rw [List.filter_cons]
  split <;> rfl
theorem filt_same (l : List (V × V)) : (l.filter same).filter both = l.filter both := by
  rw [List.filter_filter]
  refine List.filter_congr fun x _ => ?_
  by_cases e : x.1 = x.2
  · have : same x = true := by
      unfold same
      rw [e]
      exact beq_self_eq_true _
    rw [this, Bool.and_true]
  · have : both x = false := by
      unfold both
      rw [decide_eq_false e]
      rfl
    rw [this, Bool.false_and]
/-- the pairs els, each a tuple at its place of ts -/
structure Prs (H : Hp) (ts : List Addr) (els : List (V × V)) : Prop where
  len : ts.length = els.length
  el : ∀ (j : Nat) (t : Addr) (x : V × V), ts[j]? = some t → els[j]? = some x → H t = some (.tup [x.1, x.2])
theorem Prs.add {H H' : Hp} {ts : List Addr} {els : List (V × V)} {t : Addr} {x : V × V} (p : Prs H ts els) (k : ∀ b xs, H b = some (.tup xs) → H' b = some (.tup xs)) (h : H' t = some (.tup [x.1, x.2])) : Prs H' (ts ++ [t]) (els ++ [x]) := by
  refine ⟨by rw [List.length_append, List.length_append, p.len]; rfl, fun j t' x' hj hx => ?_⟩
  by_cases e : j < ts.length
  · rw [List.getElem?_append_left e] at hj
    rw [List.getElem?_append_left (by rw [← p.len]; exact e)] at hx
    exact k _ _ (p.el j t' x' hj hx)
  · have ej : j = ts.length := by
      have h2 := (List.getElem?_eq_some_iff.mp hj).1
      rw [List.length_append, List.length_singleton] at h2
      omega
    rw [ej, List.getElem?_append_right (Nat.le_refl _), Nat.sub_self] at hj
    rw [ej, p.len, List.getElem?_append_right (Nat.le_refl _), Nat.sub_self] at hx
    cases (Option.some.inj hj : t = t')
    cases (Option.some.inj hx : x = x')
    exact h
section
variable {P : Program} {w : World} {K : PySem.W.Frag} {mg : Str → Option Value} {base : Heap}
theorem scLaw : FnScope ["script", "dice", "sign", "small", "inner", "one", "other", "pairs", "due", "a", "b"] ["script"] (defScope sLaw) := ⟨rfl, rfl, rfl, by decide +kernel, rfl, by decide +kernel, by decide +kernel⟩
theorem ok_law {f CT CL CR fRo fSg fRl fSm fIn fHd fLk fMd fVr : Addr} {fd fdRo fdSg fdRl fdSm fdIn fdHd fdLk fdMd fdVr : FuncData} (F : Fun K "law" "law" sLaw f fd) (T : Txt K mg CT CL CR)
    (DRo : Def K mg "_law_rounds" sRounds ["script", "most"] fRo fdRo) (GRo : ∀ base, FnOk P w K mg base CX0 2 fRo fdRo ["script", "most"] (spRounds K))
    (DSg : Def K mg "_law_signs" sSigns [] fSg fdSg) (GSg : ∀ base, FnOk P w K mg base CX0 1 fSg fdSg [] spSigns)
    (DRl : Def K mg "_law_roll" sRoll ["dice", "many"] fRl fdRl) (GRl : ∀ base, FnOk P w K mg base CX0 1 fRl fdRl ["dice", "many"] spRoll)
    (DSm : Def K mg "is_small" sSmall ["sign"] fSm fdSm) (GSm : ∀ base, FnOk P w K mg base CX0 1 fSm fdSm ["sign"] (spSmall SMALL))
    (DIn : Def K mg "is_inner" sInner ["sign"] fIn fdIn) (GIn : ∀ base, FnOk P w K mg base CX0 1 fIn fdIn ["sign"] (spSmall INNER))
    (DHd : Def K mg "_law_head" sHead ["dice", "many"] fHd fdHd) (GHd : ∀ base, FnOk P w K mg base CX0 3 fHd fdHd ["dice", "many"] spHead)
    (DLk : Def K mg "like_terms" sLike ["one", "other"] fLk fdLk) (GLk : ∀ base, FnOk P w K mg base CX0 2 fLk fdLk ["one", "other"] (spLike CT CR))
    (DMd : Def K mg "_law_made" sMade ["head"] fMd fdMd) (GMd : ∀ base, FnOk P w K mg base CX0 6 fMd fdMd ["head"] (spMade CT CR))
    (DVr : Def K mg "_law_variable" sVariable ["place"] fVr fdVr) (GVr : ∀ base, FnOk P w K mg base CX0 1 fVr fdVr ["place"] spVariable) : FnOk P w K mg base CX0 7 f fd ["script"] (spLaw K) := by
  refine F.ok scLaw (fun vs H Q E h => ?_) (fun cdv A outer s H vs Q E hr h => ?_)
  · obtain ⟨a, ns, rfl, _⟩ := h
    rfl
  · obtain ⟨a, ns, rfl, hS, hlen, k⟩ := h
    have hr1 : Room 1 _ := hr.mono (by decide)
    have hr2 : Room 2 _ := hr.mono (by decide)
    have hr3 : Room 3 _ := hr.mono (by decide)
    have nd := scLaw.nd
    refine ⟨_, pss_cons (ps_for PassesOwn.never rfl (pi_list (pe_call (GRo _) hr2 (by rfl) DRo.m DRo.F.kp DRo.b .nil pass0 (pa_cons (pv 0) (pa_cons pe_int pa_nil)))) (pg_name (i := 1) nd rfl (Or.inl rfl))
      (pss_cons (ps_set (i := 2) nd rfl (Or.inl rfl) (pe_ix ix_str (pe_call0 (GSg _) hr1 (by rfl) DSg.m DSg.F.kp DSg.b .nil pass0) (pe_call (GRl _) hr1 (by rfl) DRl.m DRl.F.kp DRl.b .nil pass0 (pa_cons (pv 1) (pa_cons pe_int pa_nil))) (fun _ _ => rfl)))
      (pss_cons (ps_set (i := 3) nd rfl (Or.inl rfl) (pe_cmpR op_in_sign (pv 2) pe_str rfl))
      (pss_cons (ps_set (i := 4) nd rfl (Or.inl rfl) (pe_or (pv 3) (pe_one (pe_cmpR op_in_sign (pv 2) pe_str rfl))))
      (pss_cons (ps_if (PW.pt (pw_or (pt_cmpR op_ne (pe_call (GSm _) hr1 (by rfl) DSm.m DSm.F.kp DSm.b .nil pass0 (pa_cons (pv 2) pa_nil)) (pv 3) (nomark _))
          (pw_or1 (pt_cmpR op_ne (pe_call (GIn _) hr1 (by rfl) DIn.m DIn.F.kp DIn.b .nil pass0 (pa_cons (pv 2) pa_nil)) (pv 4) (nomark _))))) (pss_one (ps_ret pe_bl)) pss_nil)
      (pss_cons (ps_par (i := 5) (j := 6) rfl nd rfl rfl (by decide) rfl rfl
          (pa_cons (pe_call (GHd _) hr3 (by rfl) DHd.m DHd.F.kp DHd.b .nil pass0 (pa_cons (pv 1) (pa_cons (pe_op op_add pe_int (pe_call (GRl _) hr1 (by rfl) DRl.m DRl.F.kp DRl.b .nil pass0 (pa_cons (pv 1) (pa_cons pe_int pa_nil)))) pa_nil)))
          (pa_cons (pe_call (GHd _) hr3 (by rfl) DHd.m DHd.F.kp DHd.b .nil pass0 (pa_cons (pv 1) (pa_cons (pe_op op_add pe_int (pe_call (GRl _) hr1 (by rfl) DRl.m DRl.F.kp DRl.b .nil pass0 (pa_cons (pv 1) (pa_cons pe_int pa_nil)))) pa_nil))) pa_nil)) (by rfl))
      (pss_cons (ps_setLc (i := 7) (own := [("a", 9), ("b", 10)]) (g := gTup K 2 (gCons (gName 9) (gCons (gName 10) gNil)))
          (tt := tTest (tOp rEq (tCB (rIsi K) (tCons (tVar 9) (tCons (tC (.ty "str")) tNil))) (tCB (rIsi K) (tCons (tVar 10) (tCons (tC (.ty "str")) tNil)))))
          (te := tTup (tCons (tVar 9) (tCons (tVar 10) tNil))) rfl nd rfl rfl (sw_true rfl rfl rfl (by decide +kernel)) (pi_zipA (by rfl) T.zip (pa_cons (pv 5) (pa_cons (pv 6) pa_nil)))
          (blkOk_by (N := ["script", "dice", "sign", "small", "inner", "one", "other", "pairs", "due", "a", "b"]) (sc := defScope sLaw) (by decide +kernel))
          (fun _ _ _ _ _ => pg_tup rfl (pgs_cons (pg_name (i := 9) nd rfl (Or.inl rfl)) (pgs_cons (pg_name (i := 10) nd rfl (Or.inl rfl)) pgs_nil)))
          (fun _ _ _ _ _ => pts_one (pt_cmpR op_eq (pe_callB call_isi (by rfl) T.isi PyProof.Rows.boot_isinstance (pa_cons (pv 9) (pa_cons (pe_bltn (v := .ty "str") (by rfl) T.str PyProof.Rows.boot_str rfl) pa_nil)))
            (pe_callB call_isi (by rfl) T.isi PyProof.Rows.boot_isinstance (pa_cons (pv 10) (pa_cons (pe_bltn (v := .ty "str") (by rfl) T.str PyProof.Rows.boot_str rfl) pa_nil))) (nomark _)))
          (fun _ _ _ _ _ => pe_tup (pa_cons (pv 9) (pa_cons (pv 10) pa_nil))))
      (pss_cons (ps_setLc (i := 8) (own := [("a", 9), ("b", 10)]) (g := gTup K 2 (gCons (gName 9) (gCons (gName 10) gNil)))
          (tt := tAnd (tTest (tOp rEq (tVar 9) (tVar 10))) (tNot (tB (tCall spVariable [] E0 (tCons (tVar 9) tNil)))))
          (te := tC (.int 1)) rfl nd rfl rfl (sw_true rfl rfl rfl (by decide +kernel)) (pi_list (pv 7))
          (blkOk_by (N := ["script", "dice", "sign", "small", "inner", "one", "other", "pairs", "due", "a", "b"]) (sc := defScope sLaw) (by decide +kernel))
          (fun _ _ _ _ _ => pg_tup rfl (pgs_cons (pg_name (i := 9) nd rfl (Or.inl rfl)) (pgs_cons (pg_name (i := 10) nd rfl (Or.inl rfl)) pgs_nil)))
          (fun _ _ _ _ _ => pts_one (PW.pt (pw_and (pt_cmpR op_eq (pv 9) (pv 10) (nomark _)) (pw_and1 (pt_not (pt_val (pe_call (GVr _) hr1 (by rfl) DVr.m DVr.F.kp DVr.b .nil pass0 (pa_cons (pv 9) pa_nil))))))))
          (fun _ _ _ _ _ => pe_int))
      (pss_one (ps_if (pt_cmpR op_ne (pe_call (GLk _) hr2 (by rfl) DLk.m DLk.F.kp DLk.b .nil pass0 (pa_cons (pe_call (GMd _) hr (by rfl) DMd.m DMd.F.kp DMd.b .nil pass0 (pa_cons (pv 5) pa_nil))
            (pa_cons (pe_call (GMd _) hr (by rfl) DMd.m DMd.F.kp DMd.b .nil pass0 (pa_cons (pv 6) pa_nil)) pa_nil))) (pe_callB call_len_seq (by rfl) T.len PySem.boot_len (pa_cons (pv 8) pa_nil)) (nomark _)) (pss_one (ps_ret pe_bl)) pss_nil))))))))))
      (pss_one (ps_ret (pe_and (pe_call (GSm _) hr1 (by rfl) DSm.m DSm.F.kp DSm.b .nil pass0 (pa_cons pe_str pa_nil)) (pe_and (pe_call (GSm _) hr1 (by rfl) DSm.m DSm.F.kp DSm.b .nil pass0 (pa_cons pe_str pa_nil))
        (pe_and (pe_not (pe_call (GSm _) hr1 (by rfl) DSm.m DSm.F.kp DSm.b .nil pass0 (pa_cons pe_str pa_nil))) (pe_one (pe_call (GIn _) hr1 (by rfl) DIn.m DIn.F.kp DIn.b .nil pass0 (pa_cons pe_str pa_nil)))))))), ?_⟩
    refine ⟨_, rfl, a, ns, rfl, hS, fun L ds H0 hLn s0 hL0 hds0 => ?_⟩
    refine ⟨L, rfl, ⟨_, SqL.of hL0⟩, for_list (K := K) (a := L) (xs := ds.map V.ref)
      (fun i σ H' => ∃ v1 v2 v3 v4 v5 v6 v7 v8 v9 v10 : Option V, σ = [some (.ref a), v1, v2, v3, v4, v5, v6, v7, v8, v9, v10] ∧ H' L = some (.lst (ds.map V.ref)) ∧ ∀ d ∈ ds, Dice H' d)
      ⟨_, _, _, _, _, _, _, _, _, _, rfl, hL0, hds0⟩ (fun i σ H' _ ⟨_, _, _, _, _, _, _, _, _, _, _, q, _⟩ => SqL.of q) ?_ ?_⟩
    · rintro i x σ H' hi ⟨v1, v2, v3, v4, v5, v6, v7, v8, v9, v10, rfl, hL, hds⟩
      obtain ⟨d, hd, rfl⟩ := get_ref hi
      have md : d ∈ ds := List.mem_of_getElem? hd
      have nLd : L ≠ d := fun e => by
        obtain ⟨n, t, m, q⟩ := hds d md
        rw [← e, hL] at q
        cases ds with
        | nil => cases md
        | cons y r => cases q
      -- sign
      refine ⟨rfl, _, rfl, d, 79, rfl, by decide, by decide, hds d md, fun r H1 r0 r1 s1 => ?_⟩
      obtain ⟨j, rfl⟩ : ∃ j : Nat, r = (j : Int) := ⟨r.toNat, by omega⟩
      have hj : j < SIGNS.cps.toList.length := by rw [signs_len]; omega
      have hc : atI SIGNS.cps.toList (j : Int) = some SIGNS.cps.toList[j] := by
        unfold atI ixN
        rw [if_pos (by omega), if_pos (by omega)]
        show SIGNS.cps.toList[(j : Int).toNat]? = _
        rw [Int.toNat_natCast]
        exact List.getElem?_eq_getElem hj
      generalize SIGNS.cps.toList[j] = c at hc
      refine ⟨SIGNS, _, c, rfl, rfl, signs_line, hc, ?_⟩
      refine ⟨_, rfl, c, _, rfl, rfl, ?_⟩
      refine ⟨_, rfl, _, rfl, orI (b := decide (c ∈ REST.cps.toList)) (fun Q' hq => ⟨_, rfl, c, _, rfl, rfl, hq⟩) ?_⟩
      refine ⟨_, rfl, c, rfl, _, rfl, rfl, _, rfl, iteNS rfl ?_⟩
      refine ⟨_, rfl, c, rfl, _, rfl, rfl, _, rfl, iteNS (by rw [inner_eq]; rfl) ?_⟩
      -- one, other
      refine ⟨_, rfl, _, rfl, d, 4, rfl, by decide, by decide, s1.1, fun r2 H2 a0 a1 s2 => ⟨_, _, rfl, rfl, d, _, rfl, s2.1, by omega, by omega, fun L1 ps H3 hL1 s3 h1 hl1 hps => ?_⟩⟩
      refine ⟨_, rfl, _, rfl, d, 4, rfl, by decide, by decide, s3.1, fun r4 H4 b0 b1 s4 => ⟨_, _, rfl, rfl, d, _, rfl, s4.1, by omega, by omega, fun L2 qs H5 hL2 s5 h2 hl2 hqs => ?_⟩⟩
      have n1 : L1 ≠ d := fun e => by
        obtain ⟨⟨n, t, m, q⟩, _⟩ := s2
        rw [← e, hL1] at q
        cases q
      have h15 : H5 L1 = some (.lst ps) := s5.2 _ _ n1 (s4.2 _ _ n1 h1)
      have st : Step d H' H5 := s1.trans (s2.trans (s3.trans (s4.trans s5)))
      clear s1 s2 s3 s4 s5 h1 hL1 hL2 hc hj
      refine ⟨_, _, rfl, ?_⟩
      -- pairs
      refine ⟨_, rfl, _, rfl, L1, L2, _, _, rfl, .inl ⟨SqL.of h15, SqL.of h2, fun D hD => ?_⟩⟩
      have k0 : ∀ o, Same H5 (upd H5 D o) := fun o b u e => by rw [upd_ne (ne_of_none e hD)]; exact e
      refine lc_zipL (K := K) (a := L1) (b := L2) (xs := ps) (ys := qs) (fun i H' => Same H5 H' ∧ ∃ (ts : List Addr) (els : List (V × V)), H' D = some (.lst (ts.map V.ref)) ∧ Prs H' ts els ∧ els = ((ps.zip qs).take i).filter same)
        ⟨k0 _, [], [], upd_same, ⟨rfl, fun j t x h => by simp at h⟩, rfl⟩ (fun i H' p => ⟨SqL.of (p.1 _ _ h15), SqL.of (p.1 _ _ h2)⟩) ?_ ?_
      · rintro i p q R H7 hp hq ⟨s7, ts, els, hA, hpr, hels⟩ hR
        have mp : p ∈ pls := hps p (List.mem_of_getElem? hp)
        have mq : q ∈ pls := hqs q (List.mem_of_getElem? hq)
        have s8 : Same H7 (upd H7 R (.tup [p, q])) := fun b o e => by rw [upd_ne (ne_of_none e hR)]; exact e
        refine ⟨R, _, rfl, SqT.of upd_same, rfl, _, _, rfl, _, _, rfl, rfl, rfl, ?_⟩
        obtain ⟨t1, ty1, k1⟩ := p_ty (K := K) (H := upd H7 R (.tup [p, q])) mp
        obtain ⟨t2, ty2, k2⟩ := p_ty (K := K) (H := upd H7 R (.tup [p, q])) mq
        refine ⟨_, rfl, _, _, t1, _, _, rfl, .ty _, ty1, k1, _, rfl, _, _, t2, _, _, rfl, .ty _, ty2, k2, rfl, _, rfl, ?_⟩
        have ez : (ps.zip qs)[i]? = some (p, q) := by
          rw [List.getElem?_zip_eq_some]
          exact ⟨hp, hq⟩
        have ef := take_filt (f := same) ez
        rw [bl_eq]
        show if same (p, q) = true then _ else _
        refine ite2 (fun es => ?_) (fun es => ?_)
        · rw [if_pos es] at ef
          refine ⟨_, rfl, _, rfl, (by show 2 ≤ sizeLine; decide), fun z hz => ?_⟩
          have s9 : Same (upd H7 R (.tup [p, q])) (upd (upd H7 R (.tup [p, q])) z (.tup [p, q])) := fun b o e => by rw [upd_ne (ne_of_none e hz)]; exact e
          have hA9 := s9 _ _ (s8 _ _ hA)
          have nzD : z ≠ D := fun e => by rw [e, s8 _ _ hA] at hz; cases hz
          have hlz : els.length ≤ (ps.zip qs).length := by
            rw [hels]
            exact Nat.le_trans (List.length_filter_le _ _) (by rw [List.length_take]; exact Nat.min_le_right _ _)
          rw [List.length_zip] at hlz
          refine ⟨_, hA9, by rw [List.length_map, hpr.len]; exact small1000 (by omega), fun b o e => ?_, ts ++ [z], els ++ [(p, q)], by rw [upd_same, List.map_append]; rfl, hpr.add (fun b xs e => ?_) (by rw [upd_ne nzD]; exact upd_same), by rw [ef, hels]⟩
          · rw [upd_ne (ne_of_none e hD)]
            exact s9 _ _ (s8 _ _ (s7 _ _ e))
          · have nb : b ≠ D := fun y => by rw [y, hA] at e; cases e
            rw [upd_ne nb]
            exact s9 _ _ (s8 _ _ e)
        · rw [if_neg es, List.append_nil] at ef
          exact ⟨s7.trans s8, ts, els, s8 _ _ hA, ⟨hpr.len, fun j t x a b => s8 _ _ (hpr.el j t x a b)⟩, by rw [ef, hels]⟩
      · rintro H7 ⟨s7, ts, els, hA, hpr, hels⟩
        have hels2 : els = (ps.zip qs).filter same := by
          rw [hels, show min ps.length qs.length = (ps.zip qs).length from List.length_zip.symm, List.take_length]
        have hpl : ∀ x ∈ els, x.1 ∈ pls ∧ x.2 ∈ pls := fun x hx => by
          rw [hels2] at hx
          have m := (List.mem_filter.mp hx).1
          have m2 : (x.1, x.2) ∈ ps.zip qs := m
          exact ⟨hps _ (List.of_mem_zip m2).1, hqs _ (List.of_mem_zip m2).2⟩
        have hel : els.length ≤ 50 := by
          rw [hels2]
          refine Nat.le_trans (List.length_filter_le _ _) ?_
          rw [List.length_zip]
          omega
        -- due
        refine ⟨_, rfl, D, rfl, ⟨_, SqL.of hA⟩, fun G hG => ?_⟩
        have k1 : ∀ o, Same H7 (upd H7 G o) := fun o b u e => by rw [upd_ne (ne_of_none e hG)]; exact e
        refine lc_list (K := K) (a := D) (xs := ts.map V.ref) (fun i H' => Same H7 H' ∧ ∃ acc, H' G = some (.lst acc) ∧ acc.length = ((els.take i).filter both).length)
          ⟨k1 _, [], upd_same, rfl⟩ (fun i H' _ p => SqL.of (p.1 _ _ hA)) ?_ ?_
        · rintro i x H8 hx ⟨s8, acc, hB, hacc⟩
          obtain ⟨t, ht, rfl⟩ := get_ref hx
          have hil : i < els.length := by rw [← hpr.len]; exact (List.getElem?_eq_some_iff.mp ht).1
          have he : els[i]? = some els[i] := List.getElem?_eq_getElem hil
          generalize els[i] = e at he
          obtain ⟨p, q⟩ := e
          obtain ⟨mp, mq⟩ := hpl _ (List.mem_of_getElem? he)
          have tt := s8 _ _ (hpr.el i t _ ht he)
          have ef := take_filt (f := both) he
          refine ⟨t, _, rfl, SqT.of tt, rfl, _, _, rfl, _, _, rfl, rfl, rfl, ?_⟩
          refine ⟨_, rfl, _, rfl, p_scal p mp q mq, _, rfl, ?_⟩
          by_cases eq : p = q
          · rw [decide_eq_true eq]
            have eb : both (p, q) = !isVar p := by
              show (decide (p = q) && !isVar p) = _
              rw [decide_eq_true eq]
              rfl
            rw [eb] at ef
            refine iteT ⟨_, rfl, p, rfl, mp, fun H9 s9 => ⟨_, rfl, ?_⟩⟩
            by_cases ev : isVar p = true
            · rw [ev] at ef ⊢
              refine iteF ⟨s8.trans s9, acc, s9 _ _ hB, by rw [hacc, ef]; simp⟩
            · rw [Bool.not_eq_true] at ev
              rw [ev] at ef ⊢
              refine iteT ⟨acc, s9 _ _ hB, ?_, fun b o e => ?_, acc ++ [.int 1], upd_same, by rw [List.length_append, hacc, ef, List.length_append]; rfl⟩
              · have h1 : ((els.take i).filter both).length ≤ els.length := Nat.le_trans (List.length_filter_le _ _) (by rw [List.length_take]; exact Nat.min_le_right _ _)
                exact small1000 (by omega)
              · rw [upd_ne (ne_of_none e hG)]
                exact s9 _ _ (s8 _ _ e)
          · rw [decide_eq_false eq]
            have eb : both (p, q) = false := by
              show (decide (p = q) && !isVar p) = _
              rw [decide_eq_false eq]
              rfl
            rw [eb] at ef
            refine iteF (iteF ⟨s8, acc, hB, by rw [hacc, ef]; simp⟩)
        · rintro H8 ⟨s8, acc, hB, hacc⟩
          have hlen8 : acc.length = (due ps qs).length := by
            rw [hacc, List.length_map, hpr.len, List.take_length, hels2, filt_same]
            rfl
          have s58 : Same H5 H8 := s7.trans s8
          -- like_terms(_law_made(one), _law_made(other)) != len(due)
          refine ⟨_, rfl, L1, ps, rfl, s58 _ _ h15, hl1, hps, fun m1 ts1 H9 s9 ru1 pt1 => ?_⟩
          refine ⟨_, rfl, L2, qs, rfl, s9 _ _ (s58 _ _ h2), hl2, hqs, fun m2 ts2 H10 s10 ru2 pt2 => ?_⟩
          refine ⟨m1, m2, ts1, ts2, ps, qs, rfl, ru1.same s10, ru2, pt1.same s10, pt2, by omega, hps, hqs, fun H11 s11 => ?_⟩
          have s811 : Same H8 H11 := s9.trans (s10.trans s11)
          refine ⟨_, rfl, G, acc, rfl, .inl (SqL.of (s811 _ _ hB)), rfl, _, rfl, iteNS (by rw [hlen8]) ?_⟩
          have stf : Step d H' H11 := st.same (s58.trans s811)
          exact ⟨_, _, _, _, _, _, _, _, _, _, rfl, stf.2 _ _ nLd hL, fun y hy => stf.dice (hds y hy)⟩
    · rintro σ H' ⟨v1, v2, v3, v4, v5, v6, v7, v8, v9, v10, rfl, hL, hds⟩
      refine ⟨97, by decide +kernel, _, rfl, ?_⟩
      rw [show decide (97 ∈ SMALL.cps.toList) = true by decide +kernel]
      refine iteT ⟨122, by decide +kernel, _, rfl, ?_⟩
      rw [show decide (122 ∈ SMALL.cps.toList) = true by decide +kernel]
      refine iteT ⟨65, by decide +kernel, _, rfl, _, rfl, ?_⟩
      rw [show decide (65 ∈ SMALL.cps.toList) = false by decide +kernel]
      refine iteT ⟨95, by decide +kernel, ?_⟩
      rw [show decide (95 ∈ INNER.cps.toList) = true by decide +kernel]
      exact k H'
end
end Lk
namespace Lk
open PySem L2 RZ
theorem all_mk {l : PySem.W.OpenLaw} {w : World} {K : PySem.W.Frag} {h : Heap} {mg : Str → Option Value} {fa : Addr} (X : K.In h) (G : h.Ns mainGlobals mg) (hfa : mg "law" = some (.ref fa))
    {tkS tkI : Tok}
    {CT CL CR : Addr}
    {fSm fIn fW fX fN fP fLk fDi fRl fRo fSg fPl fVr fHd fMd fLa : Addr}
    {fTI fTV fTS fLI fRI : Addr}
    {odSm anSm : Option Addr} {slSm : Array (Option Value)} {ocSm kVSm dcSm pmSm cdSm ctSm : Value}
    {odIn anIn : Option Addr} {slIn : Array (Option Value)} {ocIn kVIn dcIn pmIn cdIn ctIn : Value}
    {odW anW : Option Addr} {slW : Array (Option Value)} {ocW kVW dcW pmW cdW ctW : Value}
    {odX anX : Option Addr} {slX : Array (Option Value)} {ocX kVX dcX pmX cdX ctX : Value}
    {odN anN : Option Addr} {slN : Array (Option Value)} {ocN kVN dcN pmN cdN ctN : Value}
    {odP anP : Option Addr} {slP : Array (Option Value)} {ocP kVP dcP pmP cdP ctP : Value}
    {odLk anLk : Option Addr} {slLk : Array (Option Value)} {ocLk kVLk dcLk pmLk cdLk ctLk : Value}
    {odDi anDi : Option Addr} {slDi : Array (Option Value)} {ocDi kVDi dcDi pmDi cdDi ctDi : Value}
    {odRl anRl : Option Addr} {slRl : Array (Option Value)} {ocRl kVRl dcRl pmRl cdRl ctRl : Value}
    {odRo anRo : Option Addr} {slRo : Array (Option Value)} {ocRo kVRo dcRo pmRo cdRo ctRo : Value}
    {odSg anSg : Option Addr} {slSg : Array (Option Value)} {ocSg kVSg dcSg pmSg cdSg ctSg : Value}
    {odPl anPl : Option Addr} {slPl : Array (Option Value)} {ocPl kVPl dcPl pmPl cdPl ctPl : Value}
    {odVr anVr : Option Addr} {slVr : Array (Option Value)} {ocVr kVVr dcVr pmVr cdVr ctVr : Value}
    {odHd anHd : Option Addr} {slHd : Array (Option Value)} {ocHd kVHd dcHd pmHd cdHd ctHd : Value}
    {odMd anMd : Option Addr} {slMd : Array (Option Value)} {ocMd kVMd dcMd pmMd cdMd ctMd : Value}
    {odLa anLa : Option Addr} {slLa : Array (Option Value)} {ocLa kVLa dcLa pmLa cdLa ctLa : Value}
    {odTI anTI : Option Addr} {slTI : Array (Option Value)} {ocTI kVTI dcTI pmTI cdTI ctTI : Value}
    {odTV anTV : Option Addr} {slTV : Array (Option Value)} {ocTV kVTV dcTV pmTV cdTV ctTV : Value}
    {odTS anTS : Option Addr} {slTS : Array (Option Value)} {ocTS kVTS dcTS pmTS cdTS ctTS : Value}
    {odLI anLI : Option Addr} {slLI : Array (Option Value)} {ocLI kVLI dcLI pmLI cdLI ctLI : Value}
    {odRI anRI : Option Addr} {slRI : Array (Option Value)} {ocRI kVRI dcRI pmRI cdRI ctRI : Value}
    {TTI : Addr} {tocTI : Value} {todTI : Option Addr} {tnTI : Nat} {tslTI : Array (Option Value)}
    {TRI : Addr} {tocRI : Value} {todRI : Option Addr} {tnRI : Nat} {tslRI : Array (Option Value)}
    (aCT : PySem.W.nsIn K mainGlobals "Term" = some (some (.ref CT)))
    (aCL : PySem.W.nsIn K mainGlobals "Literal" = some (some (.ref CL)))
    (aCR : PySem.W.nsIn K mainGlobals "Rule" = some (some (.ref CR)))
    (aSm : PySem.W.nsIn K mainGlobals "is_small" = some (some (.ref fSm)))
    (lSm : K.lookup fSm = some ⟨ocSm, odSm, .func (PySem.W.fnOf "is_small" "is_small" (defArgs sSmall) (defBody sSmall) (defScope sSmall) .none kVSm dcSm pmSm anSm cdSm ctSm), slSm⟩)
    (cSm : PySem.W.codeIn K cdSm "is_small" = true)
    (kSm : PySem.W.keepIn K (.ref fSm) = true)
    (aIn : PySem.W.nsIn K mainGlobals "is_inner" = some (some (.ref fIn)))
    (lIn : K.lookup fIn = some ⟨ocIn, odIn, .func (PySem.W.fnOf "is_inner" "is_inner" (defArgs sInner) (defBody sInner) (defScope sInner) .none kVIn dcIn pmIn anIn cdIn ctIn), slIn⟩)
    (cIn : PySem.W.codeIn K cdIn "is_inner" = true)
    (kIn : PySem.W.keepIn K (.ref fIn) = true)
    (aW : PySem.W.nsIn K mainGlobals "var" = some (some (.ref fW)))
    (lW : K.lookup fW = some ⟨ocW, odW, .func (PySem.W.fnOf "var" "var" (defArgs sVar) (defBody sVar) (defScope sVar) .none kVW dcW pmW anW cdW ctW), slW⟩)
    (cW : PySem.W.codeIn K cdW "var" = true)
    (kW : PySem.W.keepIn K (.ref fW) = true)
    (aX : PySem.W.nsIn K mainGlobals "val" = some (some (.ref fX)))
    (lX : K.lookup fX = some ⟨ocX, odX, .func (PySem.W.fnOf "val" "val" (defArgs sVal) (defBody sVal) (defScope sVal) .none kVX dcX pmX anX cdX ctX), slX⟩)
    (cX : PySem.W.codeIn K cdX "val" = true)
    (kX : PySem.W.keepIn K (.ref fX) = true)
    (aN : PySem.W.nsIn K mainGlobals "names_in" = some (some (.ref fN)))
    (lN : K.lookup fN = some ⟨ocN, odN, .func (PySem.W.fnOf "names_in" "names_in" (defArgs sNames) (defBody sNames) (defScope sNames) .none kVN dcN pmN anN cdN ctN), slN⟩)
    (cN : PySem.W.codeIn K cdN "names_in" = true)
    (kN : PySem.W.keepIn K (.ref fN) = true)
    (aP : PySem.W.nsIn K mainGlobals "pos" = some (some (.ref fP)))
    (lP : K.lookup fP = some ⟨ocP, odP, .func (PySem.W.fnOf "pos" "pos" (defArgs sPos) (defBody sPos) (defScope sPos) .none kVP dcP pmP anP cdP ctP), slP⟩)
    (cP : PySem.W.codeIn K cdP "pos" = true)
    (kP : PySem.W.keepIn K (.ref fP) = true)
    (aLk : PySem.W.nsIn K mainGlobals "like_terms" = some (some (.ref fLk)))
    (lLk : K.lookup fLk = some ⟨ocLk, odLk, .func (PySem.W.fnOf "like_terms" "like_terms" (defArgs sLike) (defBody sLike) (defScope sLike) .none kVLk dcLk pmLk anLk cdLk ctLk), slLk⟩)
    (cLk : PySem.W.codeIn K cdLk "like_terms" = true)
    (kLk : PySem.W.keepIn K (.ref fLk) = true)
    (aDi : PySem.W.nsIn K mainGlobals "_law_dice" = some (some (.ref fDi)))
    (lDi : K.lookup fDi = some ⟨ocDi, odDi, .func (PySem.W.fnOf "_law_dice" "_law_dice" (defArgs sDice) (defBody sDice) (defScope sDice) .none kVDi dcDi pmDi anDi cdDi ctDi), slDi⟩)
    (cDi : PySem.W.codeIn K cdDi "_law_dice" = true)
    (kDi : PySem.W.keepIn K (.ref fDi) = true)
    (aRl : PySem.W.nsIn K mainGlobals "_law_roll" = some (some (.ref fRl)))
    (lRl : K.lookup fRl = some ⟨ocRl, odRl, .func (PySem.W.fnOf "_law_roll" "_law_roll" (defArgs sRoll) (defBody sRoll) (defScope sRoll) .none kVRl dcRl pmRl anRl cdRl ctRl), slRl⟩)
    (cRl : PySem.W.codeIn K cdRl "_law_roll" = true)
    (kRl : PySem.W.keepIn K (.ref fRl) = true)
    (aRo : PySem.W.nsIn K mainGlobals "_law_rounds" = some (some (.ref fRo)))
    (lRo : K.lookup fRo = some ⟨ocRo, odRo, .func (PySem.W.fnOf "_law_rounds" "_law_rounds" (defArgs sRounds) (defBody sRounds) (defScope sRounds) .none kVRo dcRo pmRo anRo cdRo ctRo), slRo⟩)
    (cRo : PySem.W.codeIn K cdRo "_law_rounds" = true)
    (kRo : PySem.W.keepIn K (.ref fRo) = true)
    (aSg : PySem.W.nsIn K mainGlobals "_law_signs" = some (some (.ref fSg)))
    (lSg : K.lookup fSg = some ⟨ocSg, odSg, .func (PySem.W.fnOf "_law_signs" "_law_signs" (defArgs sSigns) (defBody sSigns) (defScope sSigns) .none kVSg dcSg pmSg anSg cdSg ctSg), slSg⟩)
    (cSg : PySem.W.codeIn K cdSg "_law_signs" = true)
    (kSg : PySem.W.keepIn K (.ref fSg) = true)
    (aPl : PySem.W.nsIn K mainGlobals "_law_place" = some (some (.ref fPl)))
    (lPl : K.lookup fPl = some ⟨ocPl, odPl, .func (PySem.W.fnOf "_law_place" "_law_place" (defArgs sPlace) (defBody sPlace) (defScope sPlace) .none kVPl dcPl pmPl anPl cdPl ctPl), slPl⟩)
    (cPl : PySem.W.codeIn K cdPl "_law_place" = true)
    (kPl : PySem.W.keepIn K (.ref fPl) = true)
    (aVr : PySem.W.nsIn K mainGlobals "_law_variable" = some (some (.ref fVr)))
    (lVr : K.lookup fVr = some ⟨ocVr, odVr, .func (PySem.W.fnOf "_law_variable" "_law_variable" (defArgs sVariable) (defBody sVariable) (defScope sVariable) .none kVVr dcVr pmVr anVr cdVr ctVr), slVr⟩)
    (cVr : PySem.W.codeIn K cdVr "_law_variable" = true)
    (kVr : PySem.W.keepIn K (.ref fVr) = true)
    (aHd : PySem.W.nsIn K mainGlobals "_law_head" = some (some (.ref fHd)))
    (lHd : K.lookup fHd = some ⟨ocHd, odHd, .func (PySem.W.fnOf "_law_head" "_law_head" (defArgs sHead) (defBody sHead) (defScope sHead) .none kVHd dcHd pmHd anHd cdHd ctHd), slHd⟩)
    (cHd : PySem.W.codeIn K cdHd "_law_head" = true)
    (kHd : PySem.W.keepIn K (.ref fHd) = true)
    (aMd : PySem.W.nsIn K mainGlobals "_law_made" = some (some (.ref fMd)))
    (lMd : K.lookup fMd = some ⟨ocMd, odMd, .func (PySem.W.fnOf "_law_made" "_law_made" (defArgs sMade) (defBody sMade) (defScope sMade) .none kVMd dcMd pmMd anMd cdMd ctMd), slMd⟩)
    (cMd : PySem.W.codeIn K cdMd "_law_made" = true)
    (kMd : PySem.W.keepIn K (.ref fMd) = true)
    (aLa : PySem.W.nsIn K mainGlobals "law" = some (some (.ref fLa)))
    (lLa : K.lookup fLa = some ⟨ocLa, odLa, .func (PySem.W.fnOf "law" "law" (defArgs sLaw) (defBody sLaw) (defScope sLaw) .none kVLa dcLa pmLa anLa cdLa ctLa), slLa⟩)
    (cLa : PySem.W.codeIn K cdLa "law" = true)
    (kLa : PySem.W.keepIn K (.ref fLa) = true)
    (aTI : PySem.W.findIn K (.ref CT) "__init__" = some (some (.ref fTI)))
    (iTI : PySem.W.isFn K (.ref fTI) = true)
    (lTI : K.lookup fTI = some ⟨ocTI, odTI, .func (PySem.W.fnOf "__init__" "Term.__init__" (defArgs sTI) (defBody sTI) (defScope sTI) (.ref TTI) kVTI dcTI pmTI anTI cdTI ctTI), slTI⟩)
    (cTI : PySem.W.codeIn K cdTI "Term.__init__" = true)
    (kTI : PySem.W.keepIn K (.ref fTI) = true)
    (tTI : K.lookup TTI = some ⟨tocTI, todTI, .seq #[Value.none] tnTI, tslTI⟩)
    (aTV : PySem.W.findIn K (.ref CT) "is_variable" = some (some (.ref fTV)))
    (iTV : PySem.W.isFn K (.ref fTV) = true)
    (lTV : K.lookup fTV = some ⟨ocTV, odTV, .func (PySem.W.fnOf "is_variable" "Term.is_variable" (defArgs sTV) (defBody sTV) (defScope sTV) .none kVTV dcTV pmTV anTV cdTV ctTV), slTV⟩)
    (cTV : PySem.W.codeIn K cdTV "Term.is_variable" = true)
    (kTV : PySem.W.keepIn K (.ref fTV) = true)
    (aTS : PySem.W.findIn K (.ref CT) "shown" = some (some (.ref fTS)))
    (iTS : PySem.W.isFn K (.ref fTS) = true)
    (lTS : K.lookup fTS = some ⟨ocTS, odTS, .func (PySem.W.fnOf "shown" "Term.shown" (defArgs sTS) (defBody sTS) (defScope sTS) .none kVTS dcTS pmTS anTS cdTS ctTS), slTS⟩)
    (cTS : PySem.W.codeIn K cdTS "Term.shown" = true)
    (kTS : PySem.W.keepIn K (.ref fTS) = true)
    (aLI : PySem.W.findIn K (.ref CL) "__init__" = some (some (.ref fLI)))
    (iLI : PySem.W.isFn K (.ref fLI) = true)
    (lLI : K.lookup fLI = some ⟨ocLI, odLI, .func (PySem.W.fnOf "__init__" "Literal.__init__" (defArgs sLI) (defBody sLI) (defScope sLI) .none kVLI dcLI pmLI anLI cdLI ctLI), slLI⟩)
    (cLI : PySem.W.codeIn K cdLI "Literal.__init__" = true)
    (kLI : PySem.W.keepIn K (.ref fLI) = true)
    (aRI : PySem.W.findIn K (.ref CR) "__init__" = some (some (.ref fRI)))
    (iRI : PySem.W.isFn K (.ref fRI) = true)
    (lRI : K.lookup fRI = some ⟨ocRI, odRI, .func (PySem.W.fnOf "__init__" "Rule.__init__" (defArgs sRI) (defBody sRI) (defScope sRI) (.ref TRI) kVRI dcRI pmRI anRI cdRI ctRI), slRI⟩)
    (cRI : PySem.W.codeIn K cdRI "Rule.__init__" = true)
    (kRI : PySem.W.keepIn K (.ref fRI) = true)
    (tRI : K.lookup TRI = some ⟨tocRI, todRI, .seq #[Value.none] tnRI, tslRI⟩)
    (pgCT : PySem.W.plainGet K CT Str.empty = true)
    (hdCT : PySem.W.hasDictIn K CT = true)
    (poCT : PySem.W.plainOver K CT = true)
    (saCT : PySem.W.findIn K (.ref CT) "__setattr__" = some (some (.builtin "object.__setattr__")))
    (mkCT : PySem.W.makesIn K CT = true)
    (kcCT : PySem.W.keepIn K (.ref CT) = true)
    (nCT_name : PySem.W.findIn K (.ref CT) "name" = some none)
    (nCT_value : PySem.W.findIn K (.ref CT) "value" = some none)
    (pgCL : PySem.W.plainGet K CL Str.empty = true)
    (hdCL : PySem.W.hasDictIn K CL = true)
    (poCL : PySem.W.plainOver K CL = true)
    (saCL : PySem.W.findIn K (.ref CL) "__setattr__" = some (some (.builtin "object.__setattr__")))
    (mkCL : PySem.W.makesIn K CL = true)
    (kcCL : PySem.W.keepIn K (.ref CL) = true)
    (nCL_kind : PySem.W.findIn K (.ref CL) "kind" = some none)
    (nCL_name : PySem.W.findIn K (.ref CL) "name" = some none)
    (nCL_terms : PySem.W.findIn K (.ref CL) "terms" = some none)
    (nCL_own : PySem.W.findIn K (.ref CL) "own" = some none)
    (pgCR : PySem.W.plainGet K CR Str.empty = true)
    (hdCR : PySem.W.hasDictIn K CR = true)
    (poCR : PySem.W.plainOver K CR = true)
    (saCR : PySem.W.findIn K (.ref CR) "__setattr__" = some (some (.builtin "object.__setattr__")))
    (mkCR : PySem.W.makesIn K CR = true)
    (kcCR : PySem.W.keepIn K (.ref CR) = true)
    (nCR_name : PySem.W.findIn K (.ref CR) "name" = some none)
    (nCR_terms : PySem.W.findIn K (.ref CR) "terms" = some none)
    (nCR_body : PySem.W.findIn K (.ref CR) "body" = some none)
    (nCR_summed : PySem.W.findIn K (.ref CR) "summed" = some none)
    (nCR_stands : PySem.W.findIn K (.ref CR) "stands" = some none)
    (z_len : PySem.W.nsIn K mainGlobals "len" = some none)
    (z_int : PySem.W.nsIn K mainGlobals "int" = some none)
    (z_abs : PySem.W.nsIn K mainGlobals "abs" = some none)
    (z_str : PySem.W.nsIn K mainGlobals "str" = some none)
    (z_tuple : PySem.W.nsIn K mainGlobals "tuple" = some none)
    (z_zip : PySem.W.nsIn K mainGlobals "zip" = some none)
    (z_range : PySem.W.nsIn K mainGlobals "range" = some none)
    (z_isinstance : PySem.W.nsIn K mainGlobals "isinstance" = some none)
    (gS : PySem.W.nsIn K mainGlobals "SMALL" = some (some (.str "abcdefghijklmnopqrstuvwxyz" tkS)))
    (gI : PySem.W.nsIn K mainGlobals "INNER" = some (some (.str "abcdefghijklmnopqrstuvwxyzABCDEFGHIJKLMNOPQRSTUVWXYZ0123456789_" tkI)))
    (nTR : CT ≠ CR) (nLR : CL ≠ CR) :
    ∃ fd : FuncData, (∀ (s : Shared) (v : Value), BindsTo s fd ⟨[v], []⟩ [("script", v)]) ∧ ∀ base : Heap, K.In base → base.Ns mainGlobals mg → FnOk l.prog w K mg base CX0 7 fa fd ["script"] (spLaw K) := by
  have e := hfa.symm.trans (PySem.W.mg_of X G aLa)
  cases e
  have T : Txt K mg CT CL CR := { clT := ⟨pgCT, hdCT, poCT, saCT⟩, clL := ⟨pgCL, hdCL, poCL, saCL⟩, clR := ⟨pgCR, hdCR, poCR, saCR⟩, tn := nCT_name, tv := nCT_value, lk := nCL_kind, ln := nCL_name, lt := nCL_terms, lo := nCL_own, rn := nCR_name, rt := nCR_terms, rb := nCR_body, rm := nCR_summed, rs := nCR_stands, mT := PySem.W.mg_of X G aCT, mL := PySem.W.mg_of X G aCL, mR := PySem.W.mg_of X G aCR, mSm := ⟨_, PySem.W.mg_of X G gS⟩, mIn := ⟨_, PySem.W.mg_of X G gI⟩, len := PySem.W.mg_none_of X G z_len, int := PySem.W.mg_none_of X G z_int, abs := PySem.W.mg_none_of X G z_abs, str := PySem.W.mg_none_of X G z_str, tuple := PySem.W.mg_none_of X G z_tuple, zip := PySem.W.mg_none_of X G z_zip, range := PySem.W.mg_none_of X G z_range, isi := PySem.W.mg_none_of X G z_isinstance }
  have FSm := fun_mk (st := sSmall) lSm cSm kSm
  have DSm : Def K mg "is_small" sSmall ["sign"] fSm _ := ⟨FSm, PySem.W.mg_of X G aSm, FSm.binds (ps := ["sign"]) fun _ _ _ _ _ _ us hl => match us, hl with | [_], _ => rfl⟩
  have FIn := fun_mk (st := sInner) lIn cIn kIn
  have DIn : Def K mg "is_inner" sInner ["sign"] fIn _ := ⟨FIn, PySem.W.mg_of X G aIn, FIn.binds (ps := ["sign"]) fun _ _ _ _ _ _ us hl => match us, hl with | [_], _ => rfl⟩
  have FW := fun_mk (st := sVar) lW cW kW
  have DW : Def K mg "var" sVar ["name"] fW _ := ⟨FW, PySem.W.mg_of X G aW, FW.binds (ps := ["name"]) fun _ _ _ _ _ _ us hl => match us, hl with | [_], _ => rfl⟩
  have FX := fun_mk (st := sVal) lX cX kX
  have DX : Def K mg "val" sVal ["value"] fX _ := ⟨FX, PySem.W.mg_of X G aX, FX.binds (ps := ["value"]) fun _ _ _ _ _ _ us hl => match us, hl with | [_], _ => rfl⟩
  have FN := fun_mk (st := sNames) lN cN kN
  have DN : Def K mg "names_in" sNames ["terms"] fN _ := ⟨FN, PySem.W.mg_of X G aN, FN.binds (ps := ["terms"]) fun _ _ _ _ _ _ us hl => match us, hl with | [_], _ => rfl⟩
  have FP := fun_mk (st := sPos) lP cP kP
  have DP : Def K mg "pos" sPos ["name", "terms"] fP _ := ⟨FP, PySem.W.mg_of X G aP, FP.binds (ps := ["name", "terms"]) fun _ _ _ _ _ _ us hl => match us, hl with | [_, _], _ => rfl⟩
  have FLk := fun_mk (st := sLike) lLk cLk kLk
  have DLk : Def K mg "like_terms" sLike ["one", "other"] fLk _ := ⟨FLk, PySem.W.mg_of X G aLk, FLk.binds (ps := ["one", "other"]) fun _ _ _ _ _ _ us hl => match us, hl with | [_, _], _ => rfl⟩
  have FDi := fun_mk (st := sDice) lDi cDi kDi
  have DDi : Def K mg "_law_dice" sDice ["cell"] fDi _ := ⟨FDi, PySem.W.mg_of X G aDi, FDi.binds (ps := ["cell"]) fun _ _ _ _ _ _ us hl => match us, hl with | [_], _ => rfl⟩
  have FRl := fun_mk (st := sRoll) lRl cRl kRl
  have DRl : Def K mg "_law_roll" sRoll ["dice", "many"] fRl _ := ⟨FRl, PySem.W.mg_of X G aRl, FRl.binds (ps := ["dice", "many"]) fun _ _ _ _ _ _ us hl => match us, hl with | [_, _], _ => rfl⟩
  have FRo := fun_mk (st := sRounds) lRo cRo kRo
  have DRo : Def K mg "_law_rounds" sRounds ["script", "most"] fRo _ := ⟨FRo, PySem.W.mg_of X G aRo, FRo.binds (ps := ["script", "most"]) fun _ _ _ _ _ _ us hl => match us, hl with | [_, _], _ => rfl⟩
  have FSg := fun_mk (st := sSigns) lSg cSg kSg
  have DSg : Def K mg "_law_signs" sSigns [] fSg _ := ⟨FSg, PySem.W.mg_of X G aSg, FSg.binds (ps := []) fun _ _ _ _ _ _ us hl => match us, hl with | [], _ => rfl⟩
  have FPl := fun_mk (st := sPlace) lPl cPl kPl
  have DPl : Def K mg "_law_place" sPlace ["dice"] fPl _ := ⟨FPl, PySem.W.mg_of X G aPl, FPl.binds (ps := ["dice"]) fun _ _ _ _ _ _ us hl => match us, hl with | [_], _ => rfl⟩
  have FVr := fun_mk (st := sVariable) lVr cVr kVr
  have DVr : Def K mg "_law_variable" sVariable ["place"] fVr _ := ⟨FVr, PySem.W.mg_of X G aVr, FVr.binds (ps := ["place"]) fun _ _ _ _ _ _ us hl => match us, hl with | [_], _ => rfl⟩
  have FHd := fun_mk (st := sHead) lHd cHd kHd
  have DHd : Def K mg "_law_head" sHead ["dice", "many"] fHd _ := ⟨FHd, PySem.W.mg_of X G aHd, FHd.binds (ps := ["dice", "many"]) fun _ _ _ _ _ _ us hl => match us, hl with | [_, _], _ => rfl⟩
  have FMd := fun_mk (st := sMade) lMd cMd kMd
  have DMd : Def K mg "_law_made" sMade ["head"] fMd _ := ⟨FMd, PySem.W.mg_of X G aMd, FMd.binds (ps := ["head"]) fun _ _ _ _ _ _ us hl => match us, hl with | [_], _ => rfl⟩
  have FLa := fun_mk (st := sLaw) lLa cLa kLa
  have FTI : FunD K "__init__" "Term.__init__" (defArgs sTI) (defBody sTI) (defScope sTI) [.non] [] fTI _ := ⟨⟨ocTI, odTI, .ref TTI, kVTI, dcTI, pmTI, anTI, cdTI, ctTI, slTI, rfl, lTI, cTI, .inr ⟨(fun z => nomatch z), TTI, _, [Value.none], tnTI, rfl, tTI, rfl, .cons rfl .nil⟩, .inl rfl⟩, kTI⟩
  have FTV := fun_mk (st := sTV) lTV cTV kTV
  have bTV := FTV.binds (ps := ["self"]) fun _ _ _ _ _ _ us hl => match us, hl with | [_], _ => rfl
  have FTS := fun_mk (st := sTS) lTS cTS kTS
  have bTS := FTS.binds (ps := ["self"]) fun _ _ _ _ _ _ us hl => match us, hl with | [_], _ => rfl
  have FLI := fun_mk (st := sLI) lLI cLI kLI
  have bLI := FLI.binds (ps := ["self", "kind", "name", "terms"]) fun _ _ _ _ _ _ us hl => match us, hl with | [_, _, _, _], _ => rfl
  have FRI : FunD K "__init__" "Rule.__init__" (defArgs sRI) (defBody sRI) (defScope sRI) [.non] [] fRI _ := ⟨⟨ocRI, odRI, .ref TRI, kVRI, dcRI, pmRI, anRI, cdRI, ctRI, slRI, rfl, lRI, cRI, .inr ⟨(fun z => nomatch z), TRI, _, [Value.none], tnRI, rfl, tRI, rfl, .cons rfl .nil⟩, .inl rfl⟩, kRI⟩
  have V1 : Me K CT "is_variable" "Term.is_variable" sTV ["self"] fTV _ := ⟨FTV, ⟨aTV, iTV, kTV⟩, bTV⟩
  have V2 : Me K CT "shown" "Term.shown" sTS ["self"] fTS _ := ⟨FTS, ⟨aTS, iTS, kTS⟩, bTS⟩
  have MT : Mk K CT fTI := ⟨mkCT, aTI, iTI, kcCT⟩
  have ML : Mk K CL fLI := ⟨mkCL, aLI, iLI, kcCL⟩
  have MR : Mk K CR fRI := ⟨mkCR, aRI, iRI, kcCR⟩
  obtain ⟨d2, v2, B2⟩ := FTI.binds1 (ps := ["self", "name", "value"]) 2 0 (fun z => nomatch z) rfl fun T kV doc pm an cdv ct us its h1 h2 => match us, its, h1, h2 with | [_, _], [_], _, _ => ⟨_, rfl, rfl⟩
  obtain ⟨d3, v3, B3⟩ := FTI.binds1 (ps := ["self", "name", "value"]) 3 1 (fun z => nomatch z) rfl fun T kV doc pm an cdv ct us its h1 h2 => match us, its, h1, h2 with | [_, _, _], [_], _, _ => ⟨_, rfl, rfl⟩
  obtain ⟨d4, v4, B4⟩ := FRI.binds1 (ps := ["self", "name", "terms", "body", "summed"]) 4 0 (fun z => nomatch z) rfl fun T kV doc pm an cdv ct us its h1 h2 => match us, its, h1, h2 with | [_, _, _, _], [_], _, _ => ⟨_, rfl, rfl⟩
  cases v3
  refine ⟨PySem.W.fnOf "law" "law" (defArgs sLaw) (defBody sLaw) (defScope sLaw) .none kVLa dcLa pmLa anLa cdLa ctLa, fun s v => .of_eq rfl, fun base _ _ => ?_⟩
  have GTI := fun base => ok_TI (P := l.prog) (w := w) (mg := mg) (base := base) FTI T
  have GN := fun base => ok_names (P := l.prog) (w := w) (base := base) FN T V1
  have GLI := fun base => ok_LI (P := l.prog) (w := w) (base := base) FLI T DN GN
  have GRI := fun base => ok_RI (P := l.prog) (w := w) (base := base) FRI T DN GN
  have GW := fun base => ok_var (P := l.prog) (w := w) (base := base) FW T MT GTI B2 v2
  have GX := fun base => ok_val (P := l.prog) (w := w) (base := base) FX T MT GTI B3
  have GP := fun base => ok_pos (P := l.prog) (w := w) (base := base) FP T ML GLI bLI
  have GDi := fun base => ok_dice (P := l.prog) (w := w) (base := base) FDi T
  have GRl := fun base => ok_roll (P := l.prog) (w := w) (base := base) FRl T
  have GRo := fun base => ok_rounds (P := l.prog) (w := w) (CT := CT) (CL := CL) (CR := CR) (base := base) FRo DDi GDi
  have GSg := fun base => ok_signs (P := l.prog) (w := w) (mg := mg) (base := base) FSg
  have GPl := fun base => ok_place (P := l.prog) (w := w) (base := base) FPl T DRl GRl
  have GVr := fun base => ok_variable (P := l.prog) (w := w) (mg := mg) (base := base) FVr
  have GHd := fun base => ok_head (P := l.prog) (w := w) (base := base) FHd T DPl GPl
  have GMd := fun base => ok_made (P := l.prog) (w := w) (base := base) FMd T DVr GVr DW GW DX GX DP GP MR GRI B4 v4 nTR nLR
  have GLk := fun base => ok_like (P := l.prog) (w := w) (base := base) FLk T V1 V2
  have GSm := fun base => ok_small (P := l.prog) (w := w) (base := base) FSm T
  have GIn := fun base => ok_inner (P := l.prog) (w := w) (base := base) FIn T
  exact ok_law FLa T DRo GRo DSg GSg DRl GRl DSm GSm DIn GIn DHd GHd DLk GLk DMd GMd DVr GVr
theorem walk {l : PySem.W.OpenLaw} {q : Program} {loose : List Str} {XP : (Str → Option Value) → Heap → Prop} {YP : World → Heap → Prop} {d : DefRec} {K : Params → PySem.W.Frag} (hn : l.most = some 63) (hdf : d.params.defaults = [])
    (hY : ∀ (w : World) (h : Heap), YP w h → (K w.params).In h)
    (F : ∀ (w : World) (mg : Str → Option Value) (fa : Addr) (h : Heap), (K w.params).In h → h.Ns mainGlobals mg → mg d.name = some (.ref fa) →
      ∃ fd : FuncData, (∀ (s : Shared) (u : Value), BindsTo s fd ⟨[u], []⟩ [("script", u)]) ∧ ∀ base : Heap, (K w.params).In base → base.Ns mainGlobals mg → FnOk l.prog w (K w.params) mg base CX0 7 fa fd ["script"] (spLaw (K w.params))) :
    PySem.W.WalkO q loose XP YP l.row.toRowW d [] (fun f vs => PySem.call f vs) :=
  L2.walk_of (n := 63) (k := 7) (x := "script") (CX := fun _ => CX0) (sp := fun w => spLaw (K w.params)) hn (by decide) hdf ⟨rfl, by decide, by decide⟩ hY F (fun _ _ a ns hl _ hS => ⟨a, ns, rfl, hS, hl, fun _ => rfl⟩) fun _ _ _ _ _ z => z
end Lk

open PySem PySem.W PyProof.Rows in
set_option maxRecDepth 100000 in
set_option maxHeartbeats 0 in
theorem PySem.Challenge.cw_deducehall_k65_signs_and_like_places_holds : PySem.Challenge.rw_deducehall_k65_signs_and_like_places.Holds := by
  w_on; o_law; k_head; (case hw => w_witness2)
  k_fill
  refine Lk.walk (l := PySem.Challenge.rw_deducehall_k65_signs_and_like_places) rfl rfl (fun w h Y => PySem.W.kIn_of Y) ?F
  case F =>
    intro w mg fa h KX G hmg
    refine' Lk.all_mk KX G hmg ?aCT ?aCL ?aCR ?aSm ?lSm ?cSm ?kSm ?aIn ?lIn ?cIn ?kIn ?aW ?lW ?cW ?kW ?aX ?lX ?cX ?kX ?aN ?lN ?cN ?kN ?aP ?lP ?cP ?kP ?aLk ?lLk ?cLk ?kLk ?aDi ?lDi ?cDi ?kDi ?aRl ?lRl ?cRl ?kRl ?aRo ?lRo ?cRo ?kRo ?aSg ?lSg ?cSg ?kSg ?aPl ?lPl ?cPl ?kPl ?aVr ?lVr ?cVr ?kVr ?aHd ?lHd ?cHd ?kHd ?aMd ?lMd ?cMd ?kMd ?aLa ?lLa ?cLa ?kLa ?aTI ?iTI ?lTI ?cTI ?kTI ?tTI ?aTV ?iTV ?lTV ?cTV ?kTV ?aTS ?iTS ?lTS ?cTS ?kTS ?aLI ?iLI ?lLI ?cLI ?kLI ?aRI ?iRI ?lRI ?cRI ?kRI ?tRI ?pgCT ?hdCT ?poCT ?saCT ?mkCT ?kcCT ?nCT_name ?nCT_value ?pgCL ?hdCL ?poCL ?saCL ?mkCL ?kcCL ?nCL_kind ?nCL_name ?nCL_terms ?nCL_own ?pgCR ?hdCR ?poCR ?saCR ?mkCR ?kcCR ?nCR_name ?nCR_terms ?nCR_body ?nCR_summed ?nCR_stands ?z_len ?z_int ?z_abs ?z_str ?z_tuple ?z_zip ?z_range ?z_isinstance ?gS ?gI ?nTR ?nLR
    (case aCT => k_is)
    (case aCL => k_is)
    (case aCR => k_is)
    (case aSm => k_is)
    (case lSm => k_is)
    (case cSm => k_is)
    (case kSm => k_is)
    (case aIn => k_is)
    (case lIn => k_is)
    (case cIn => k_is)
    (case kIn => k_is)
    (case aW => k_is)
    (case lW => k_is)
    (case cW => k_is)
    (case kW => k_is)
    (case aX => k_is)
    (case lX => k_is)
    (case cX => k_is)
    (case kX => k_is)
    (case aN => k_is)
    (case lN => k_is)
    (case cN => k_is)
    (case kN => k_is)
    (case aP => k_is)
    (case lP => k_is)
    (case cP => k_is)
    (case kP => k_is)
    (case aLk => k_is)
    (case lLk => k_is)
    (case cLk => k_is)
    (case kLk => k_is)
    (case aDi => k_is)
    (case lDi => k_is)
    (case cDi => k_is)
    (case kDi => k_is)
    (case aRl => k_is)
    (case lRl => k_is)
    (case cRl => k_is)
    (case kRl => k_is)
    (case aRo => k_is)
    (case lRo => k_is)
    (case cRo => k_is)
    (case kRo => k_is)
    (case aSg => k_is)
    (case lSg => k_is)
    (case cSg => k_is)
    (case kSg => k_is)
    (case aPl => k_is)
    (case lPl => k_is)
    (case cPl => k_is)
    (case kPl => k_is)
    (case aVr => k_is)
    (case lVr => k_is)
    (case cVr => k_is)
    (case kVr => k_is)
    (case aHd => k_is)
    (case lHd => k_is)
    (case cHd => k_is)
    (case kHd => k_is)
    (case aMd => k_is)
    (case lMd => k_is)
    (case cMd => k_is)
    (case kMd => k_is)
    (case aLa => k_is)
    (case lLa => k_is)
    (case cLa => k_is)
    (case kLa => k_is)
    (case aTI => k_is)
    (case iTI => k_is)
    (case lTI => k_is)
    (case cTI => k_is)
    (case kTI => k_is)
    (case tTI => k_is)
    (case aTV => k_is)
    (case iTV => k_is)
    (case lTV => k_is)
    (case cTV => k_is)
    (case kTV => k_is)
    (case aTS => k_is)
    (case iTS => k_is)
    (case lTS => k_is)
    (case cTS => k_is)
    (case kTS => k_is)
    (case aLI => k_is)
    (case iLI => k_is)
    (case lLI => k_is)
    (case cLI => k_is)
    (case kLI => k_is)
    (case aRI => k_is)
    (case iRI => k_is)
    (case lRI => k_is)
    (case cRI => k_is)
    (case kRI => k_is)
    (case tRI => k_is)
    (case pgCT => k_is)
    (case hdCT => k_is)
    (case poCT => k_is)
    (case saCT => k_is)
    (case mkCT => k_is)
    (case kcCT => k_is)
    (case nCT_name => k_is)
    (case nCT_value => k_is)
    (case pgCL => k_is)
    (case hdCL => k_is)
    (case poCL => k_is)
    (case saCL => k_is)
    (case mkCL => k_is)
    (case kcCL => k_is)
    (case nCL_kind => k_is)
    (case nCL_name => k_is)
    (case nCL_terms => k_is)
    (case nCL_own => k_is)
    (case pgCR => k_is)
    (case hdCR => k_is)
    (case poCR => k_is)
    (case saCR => k_is)
    (case mkCR => k_is)
    (case kcCR => k_is)
    (case nCR_name => k_is)
    (case nCR_terms => k_is)
    (case nCR_body => k_is)
    (case nCR_summed => k_is)
    (case nCR_stands => k_is)
    (case z_len => k_is)
    (case z_int => k_is)
    (case z_abs => k_is)
    (case z_str => k_is)
    (case z_tuple => k_is)
    (case z_zip => k_is)
    (case z_range => k_is)
    (case z_isinstance => k_is)
    (case gS => k_is)
    (case gI => k_is)
    (case nTR => decide)
    (case nLR => decide)
