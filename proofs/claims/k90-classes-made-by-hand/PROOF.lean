import PyProof.Rows.All
import Wide.All
import OpenK.AllK
import Wide.FinOn
import KE.KStateDown
import HandS.ForMost
import HandS.Head0
import HandS.Head1
import HandS.Head2
import HandS.HeadHook4
import HandS.HeadWalk
import PySem.Challenge.RW_cutmoves_k90_classes_made_by_hand
import HandS.Wide
import HandS.IsInst
import HandS.MakeKw
import HandS.OwnEq
import HandS.Codes
import HandS.Lambda
import HandS.EndTab
import HandS.MakeKwOnly
set_option Elab.async false
set_option linter.all false
set_option maxRecDepth 100000
set_option maxHeartbeats 0
namespace K90
open PySem PySem.Spec PyProof.Rows L2
def top (i : Nat) : Stmt := PySem.Challenge.pw_cutmoves_k90_classes_made_by_hand.main.body.getD i (.Pass ⟨0, 0, 0, 0⟩)
def dG (x : Str) (i : Nat) : He.DefD := ⟨(x, none), x, x, defArgs (top i), defBody (top i), defScope (top i), [], []⟩
def dM (c m : Str) (i j : Nat) : He.DefD := ⟨(c, some m), m, c ++ ("." ++ m : Str), defArgs (inClass (top i) j), defBody (inClass (top i) j), defScope (inClass (top i) j), [], []⟩
def fn : List He.DefD := [
  dG "copied" 1, dG "model_key" 19, dG "_law_pen" 23, dG "_law_draw" 24,
  dG "_law_pick" 25, dG "_law_value" 26, dG "_law_copy" 27, dG "_law_rows" 28,
  dG "_law_unlike" 29, dG "law" 30, dM "Area" "__init__" 3 0, dM "Area" "__eq__" 3 1,
  dM "Area" "__ne__" 3 2, dM "Sides" "__init__" 4 0, dM "Sides" "__eq__" 4 1, dM "Sides" "__ne__" 4 2,
  dM "Apart" "__init__" 9 0, dM "Apart" "__eq__" 9 1, dM "Apart" "__ne__" 9 2, dM "Tilted" "__init__" 11 0,
  dM "Tilted" "__eq__" 11 1, dM "Tilted" "__ne__" 11 2, dM "Covers" "__init__" 12 0, dM "Covers" "__eq__" 12 1,
  dM "Covers" "__ne__" 12 2, dM "Profile" "__init__" 13 0, dM "Profile" "__eq__" 13 1, dM "Profile" "__ne__" 13 2,
  dM "Meet" "__init__" 14 0, dM "Meet" "__eq__" 14 1, dM "Meet" "__ne__" 14 2, dM "Spot" "__init__" 15 0,
  dM "Spot" "__eq__" 15 1, dM "Spot" "__ne__" 15 2, dM "Ears" "__init__" 16 0, dM "Ears" "__eq__" 16 1,
  dM "Ears" "__ne__" 16 2, dM "Paper" "__init__" 21 0, dM "Paper" "__eq__" 21 1, dM "Paper" "__ne__" 21 2,
  dM "Model" "__init__" 18 0, dM "Model" "__eq__" 18 1, dM "Model" "__ne__" 18 2, dM "Slides" "__eq__" 5 0,
  dM "Slides" "__ne__" 5 1, dM "Turns" "__eq__" 6 0, dM "Turns" "__ne__" 6 1, dM "Steps" "__eq__" 7 0,
  dM "Steps" "__ne__" 7 1, dM "Levels" "__eq__" 8 0, dM "Levels" "__ne__" 8 1, dM "Uneven" "__eq__" 10 0,
  dM "Uneven" "__ne__" 10 1]
def fa : List He.Fa := [
  .glo "copied", .glo "model_key", .glo "_law_pen", .glo "_law_draw", .glo "_law_pick",
  .glo "_law_value", .glo "_law_copy", .glo "_law_rows", .glo "_law_unlike", .glo "law",
  .glo "Area", .glo "Sides", .glo "Apart", .glo "Tilted", .glo "Covers",
  .glo "Profile", .glo "Meet", .glo "Spot", .glo "Ears", .glo "Paper",
  .glo "Model", .glo "Slides", .glo "Turns", .glo "Steps", .glo "Levels",
  .glo "Uneven", .free "isinstance", .free "list", .free "tuple", .free "int",
  .free "len", .free "repr", .free "range", .free "any", .cls "Area",
  .cls "Sides", .cls "Apart", .cls "Tilted", .cls "Covers", .cls "Profile",
  .cls "Meet", .cls "Spot", .cls "Ears", .cls "Paper", .cls "Model",
  .cls "Slides", .cls "Turns", .cls "Steps", .cls "Levels", .cls "Uneven",
  .mkr "Area", .mkr "Sides", .mkr "Apart", .mkr "Tilted", .mkr "Covers",
  .mkr "Profile", .mkr "Meet", .mkr "Spot", .mkr "Ears", .mkr "Paper",
  .mkr "Model", .meth "Area" "__eq__", .meth "Area" "__ne__", .meth "Sides" "__eq__", .meth "Sides" "__ne__",
  .meth "Apart" "__eq__", .meth "Apart" "__ne__", .meth "Tilted" "__eq__", .meth "Tilted" "__ne__", .meth "Covers" "__eq__",
  .meth "Covers" "__ne__", .meth "Profile" "__eq__", .meth "Profile" "__ne__", .meth "Meet" "__eq__", .meth "Meet" "__ne__",
  .meth "Spot" "__eq__", .meth "Spot" "__ne__", .meth "Ears" "__eq__", .meth "Ears" "__ne__", .meth "Paper" "__eq__",
  .meth "Paper" "__ne__", .meth "Model" "__eq__", .meth "Model" "__ne__", .meth "Slides" "__eq__", .meth "Slides" "__ne__",
  .meth "Turns" "__eq__", .meth "Turns" "__ne__", .meth "Steps" "__eq__", .meth "Steps" "__ne__", .meth "Levels" "__eq__",
  .meth "Levels" "__ne__", .meth "Uneven" "__eq__", .meth "Uneven" "__ne__", .noat "Area" "ratio", .noat "Sides" "rows",
  .noat "Apart" "direction", .noat "Tilted" "height", .noat "Covers" "rows", .noat "Profile" "rows", .noat "Meet" "ratio",
  .noat "Spot" "word", .noat "Ears" "rows", .noat "Paper" "asked", .noat "Model" "shapes", .noat "Model" "heaps",
  .noat "Model" "asks"]
def tf : List He.Defn := [("_law_rows", none)]
def names16 : List Str := ["Area", "Sides", "Covers", "Profile", "Meet", "Spot", "Ears", "Apart", "Tilted", "Paper", "Model", "Slides", "Turns", "Levels", "Steps", "Uneven"]
def exNul (K : PySem.W.Frag) (c : Str) : Bool :=
  PySem.W.makesIn K (He.ga K c) && (He.eqO (PySem.W.findIn K (.ref (He.ga K c)) "__init__") (some (some (.builtin "object.__init__"))) && PySem.W.keepIn K (.ref (He.ga K c)))
def exIns (K : PySem.W.Frag) (c : Str) : Bool :=
  He.eqO (PySem.W.findIn K (.ref (He.ga K c)) "__class__") (some (some (.builtin "object.__class__"))) && decide (PySem.W.mroIn K (He.ga K c) (.type "object") = some true)
def exTwo (K : PySem.W.Frag) (c d : Str) : Bool :=
  decide (PySem.W.kitOne K (.ref (He.ga K d)) (.ref (He.ga K c)) = some (decide (c = d))) && PySem.W.notFirst K (He.ga K c) (.ref (He.ga K d))
def exTy (K : PySem.W.Frag) (c : Str) (t : String) : Bool :=
  decide (PySem.W.kitOne K (.type t) (.ref (He.ga K c)) = some false) && PySem.W.notFirst K (He.ga K c) (.type t)
def exAll (K : PySem.W.Frag) : Bool := He.eqO (PySem.W.specialIn K (.builtin "object.__class__") "__get__") (some (some (.builtin "getset_descriptor.__get__"))) && decide (PySem.W.takesIn K (.builtin "object.__class__") = some true)
def ex (K : PySem.W.Frag) : Bool := (["Slides", "Turns", "Steps", "Levels", "Uneven"] : List Str).all (exNul K) && (exAll K && (names16.all fun c => exIns K c && (exTy K c "str" && (exTy K c "int" && names16.all fun d => exTwo K c d))))
abbrev R : PySem.W.OpenRow := PySem.W.OpenLaw.row PySem.Challenge.rw_cutmoves_k90_classes_made_by_hand
abbrev hk : PySem.W.Hook := He.hookX 5 fa fn [] tf ex
def ob (s : PySem.W.SharedT) : He.AlX := He.obsX 5 fa fn [] tf ex (HandSHeadRun.getT s)
theorem ob_eq (s : PySem.W.SharedT) : ob s = hk.obs s.abs := He.obsX_eq (HandSHeadRun.getT_eq s)
def loose : List Str := ["copied", "Area", "Sides", "Slides", "Turns", "Steps", "Levels", "Apart", "Uneven", "Tilted", "Covers", "Profile", "Meet", "Spot", "Ears", "Model", "model_key", "Paper",
  "_law_pen", "_law_draw", "_law_pick", "_law_value", "_law_copy", "_law_rows", "_law_unlike"]
theorem run (w : World) : HandSHeadRun.RunEq R (PySem.W.view R.prog [30]) hk ob 6000 loose w := by
  intro os
  kernel_rfl
end K90

set_option maxHeartbeats 4000000
namespace K90
open PySem PySem.Spec PyProof.Rows L2
abbrev FnG (K : PySem.W.Frag) (x : Str) (i : Nat) (f : Addr) (fd : FuncData) : Prop := FunD K x x (defArgs (top i)) (defBody (top i)) (defScope (top i)) [] [] f fd

/-! ### the pen -/
def penD (la : Addr) (at_ dg ct fo : Int) : List (Key × V) :=
  [(.inr "cells", .ref la), (.inr "at", .int at_), (.inr "digits", .int dg), (.inr "count", .int ct), (.inr "fold", .int fo)]
section
variable {la : Addr} {at_ dg ct fo z : Int}
theorem pen_cells : valV (penD la at_ dg ct fo) (.inr "cells" : Key) = some (.ref la) := by kernel_rfl
theorem pen_at : valV (penD la at_ dg ct fo) (.inr "at" : Key) = some (.int at_) := by kernel_rfl
theorem pen_digits : valV (penD la at_ dg ct fo) (.inr "digits" : Key) = some (.int dg) := by kernel_rfl
theorem pen_count : valV (penD la at_ dg ct fo) (.inr "count" : Key) = some (.int ct) := by kernel_rfl
theorem pen_fold : valV (penD la at_ dg ct fo) (.inr "fold" : Key) = some (.int fo) := by kernel_rfl
theorem put_at : putK (penD la at_ dg ct fo) (.inr "at" : Key) (.int z) = penD la z dg ct fo := by kernel_rfl
theorem put_digits : putK (penD la at_ dg ct fo) (.inr "digits" : Key) (.int z) = penD la at_ z ct fo := by kernel_rfl
theorem put_count : putK (penD la at_ dg ct fo) (.inr "count" : Key) (.int z) = penD la at_ dg z fo := by kernel_rfl
theorem put_fold : putK (penD la at_ dg ct fo) (.inr "fold" : Key) (.int z) = penD la at_ dg ct z := by kernel_rfl
end
/-- the pen at p, at most n draws so far -/
def PenAt (la : Addr) (n : Nat) (H : Hp) (p : Addr) : Prop := ∃ (cs : List Int) (at_ dg ct fo : Int), H p = some (.dK (penD la at_ dg ct fo)) ∧ H la = some (.lst (cs.map V.int)) ∧ cs.length ≤ 63 ∧
  0 ≤ at_ ∧ 0 ≤ dg ∧ 0 ≤ ct ∧ ct ≤ (n : Int) ∧ 0 ≤ fo ∧ fo < 2147482909
/-- all but what stands at p is kept -/
def SameBut (p : Addr) (H H' : Hp) : Prop := ∀ b o, H b = some o → b ≠ p → H' b = some o
def spDraw : Sp := fun vs H Q _ => ∃ (p : Addr) (many : Int) (n : Nat) (la : Addr), vs = [.ref p, .int many] ∧ 0 < many ∧ many < 1000000 ∧ n < 1000000 ∧ PenAt la n H p ∧
  ∀ (d : Int) (H' : Hp), 0 ≤ d → d < many → PenAt la (n + 1) H' p → SameBut p H H' → Q (.int d) H'
structure Txt (mg : Str → Option Value) : Prop where
  isinstance : mg "isinstance" = none
  list : mg "list" = none
  tuple : mg "tuple" = none
  int : mg "int" = none
  len : mg "len" = none
  repr : mg "repr" = none
  range : mg "range" = none
  any : mg "any" = none
/-- the pen's look-up, its store -/
theorem pget {H : Hp} {p la : Addr} {at_ dg ct fo : Int} {k : Str} {v : V} (hp : H p = some (.dK (penD la at_ dg ct fo))) (e : valV (penD la at_ dg ct fo) (.inr k : Key) = some v) : DGet H p (.str k) (some v) := by
  have z := DGet.k (k := (.inr k : Key)) hp
  rw [e] at z
  exact z
theorem pput {H : Hp} {p la : Addr} {at_ dg ct fo : Int} {k : Str} {v : V} {kvs : List (Key × V)} (hp : H p = some (.dK (penD la at_ dg ct fo))) (e : putK (penD la at_ dg ct fo) (.inr k : Key) v = kvs) : DPut H p (.str k) v (upd H p (.dK kvs)) := by
  have z := DPut.k (k := (.inr k : Key)) (v := v) hp (by show 5 < sizeLine; decide)
  rw [e] at z
  exact z
section
variable {P : Program} {w : World} {K : PySem.W.Frag} {mg : Str → Option Value} {base : Heap} {f : Addr} {fd : FuncData}
theorem scDraw : FnScope ["pen", "many", "cell", "digit", "blend"] ["pen", "many"] (defScope (top 24)) := ⟨rfl, rfl, rfl, by decide +kernel, rfl, by decide +kernel, by decide +kernel⟩
theorem ok_draw (F : FnG K "_law_draw" 24 f fd) (T : Txt mg) : FnOk P w K mg base CX0 1 f fd ["pen", "many"] spDraw := by
  refine F.ok scDraw (fun vs H Q E h => ?_) (fun cdv A outer s H vs Q E hr h => ?_)
  · obtain ⟨p, many, n, la, rfl, _⟩ := h
    rfl
  · obtain ⟨p, many, n, la, rfl, m0, m1, n1, ⟨cs, at_, dg, ct, fo, hp, hla, hcs, a0, d0, c0, c1, f0, f1⟩, k⟩ := h
    have hu := hu_of hr
    have nla : la ≠ p := ne_of hla hp (by intro z; cases z)
    refine ⟨_, PSs.nox (pss_cons (ps_dput hu (pv 0) pe_str (pe_op op_add (pe_dget hu (pv 0) pe_str (fun _ _ => rfl)) pe_int) rfl)
  (C8.pss_cut (ps_if (PW.pt (pw_and (pt_cmpR op_eq (pe_dget hu (pv 0) pe_str (fun _ _ => rfl)) pe_int (nomark _)) (pw_and1 (pt_cmpR op_lt (pe_dget hu (pv 0) pe_str (fun _ _ => rfl)) (pe_callB call_len_seq (by rfl) T.len PySem.boot_len (pa_cons (pe_dget hu (pv 0) pe_str (fun _ _ => rfl)) pa_nil)) (nomark _)))))
  (pss_cons (ps_set (i := 2) scDraw.nd rfl (Or.inl rfl) (pe_ix ix_list (pe_dget hu (pv 0) pe_str (fun _ _ => rfl)) (pe_dget hu (pv 0) pe_str (fun _ _ => rfl)) (fun _ _ => rfl)))
  (pss_cons (ps_dput hu (pv 0) pe_str (pe_op op_add (pe_dget hu (pv 0) pe_str (fun _ _ => rfl)) pe_int) rfl)
  (pss_one (ps_if (pt_cmpR op_ge (pv 2) (pe_op op_pow pe_int pe_int) (nomark _))
  (pss_one (ps_dput hu (pv 0) pe_str (pe_op op_sub (pv 2) (pe_op op_pow pe_int pe_int)) rfl))
  (pss_one (ps_dput hu (pv 0) pe_str (pe_op op_mod (pe_callTy call_int1 (by rfl) T.int (by decide +kernel) (pa_cons (pe_op op_add (pe_op op_mul (pe_dget hu (pv 0) pe_str (fun _ _ => rfl)) pe_int) (pv 2)) pa_nil)) pe_int) rfl))))))
  pss_nil)
  (C8.pss_cut (ps_if (pt_cmpR op_gt (pe_dget hu (pv 0) pe_str (fun _ _ => rfl)) pe_int (nomark _))
  (pss_cons (ps_set (i := 3) scDraw.nd rfl (Or.inl rfl) (pe_op op_mod (pe_callTy call_int1 (by rfl) T.int (by decide +kernel) (pa_cons (pe_dget hu (pv 0) pe_str (fun _ _ => rfl)) pa_nil)) (pv 1)))
  (pss_cons (ps_dput hu (pv 0) pe_str (pe_op op_fdiv (pe_dget hu (pv 0) pe_str (fun _ _ => rfl)) (pv 1)) rfl)
  (pss_one (ps_ret (pv 3)))))
  pss_nil)
  (pss_cons (ps_set (i := 4) scDraw.nd rfl (Or.inl rfl) (pe_op op_add (pe_op op_add (pe_dget hu (pv 0) pe_str (fun _ _ => rfl)) (pe_op op_mul (pe_dget hu (pv 0) pe_str (fun _ _ => rfl)) pe_int)) pe_int))
  (pss_one (ps_ret (pe_op op_mod (pe_op op_fdiv (pe_callTy call_int1 (by rfl) T.int (by decide +kernel) (pa_cons (pe_op op_mod (pe_op op_pow (pv 4) pe_int) pe_int) pa_nil)) pe_int) (pv 1)))))))), ?_⟩
    have hc : ∀ v, (upd H p (.dK (penD la at_ dg v fo))) p = some (.dK (penD la at_ dg v fo)) := fun v => upd_same
    have sb : ∀ (H' : Hp) o, SameBut p H H' → SameBut p H (upd H' p o) := fun H' o h b u e hb => by rw [upd_ne hb]; exact h b u e hb
    refine ⟨_, rfl, p, _, rfl, pget hp pen_count, _, _, rfl, rfl, _, rfl, p, _, rfl, pput hp put_count, ?_⟩
    have h1 : (upd H p (.dK (penD la at_ dg (ct + 1) fo))) p = some (.dK (penD la at_ dg (ct + 1) fo)) := upd_same
    have h1l : (upd H p (.dK (penD la at_ dg (ct + 1) fo))) la = some (.lst (cs.map V.int)) := by rw [upd_ne nla]; exact hla
    have h1s : SameBut p H (upd H p (.dK (penD la at_ dg (ct + 1) fo))) := sb H _ fun b u e _ => e
    generalize upd H p (.dK (penD la at_ dg (ct + 1) fo)) = H1 at h1 h1l h1s ⊢
    -- the first if: the pen as it is, or one cell on
    refine ⟨fun σ' H' => ∃ (c : Option V) (at2 dg2 fo2 : Int), σ' = [some (.ref p), some (.int many), c, none, none] ∧ H' p = some (.dK (penD la at2 dg2 (ct + 1) fo2)) ∧ H' la = some (.lst (cs.map V.int)) ∧ SameBut p H H' ∧
      0 ≤ at2 ∧ 0 ≤ dg2 ∧ 0 ≤ fo2 ∧ fo2 < 2147482909, ?_, ?_⟩
    · have stay : ∃ (c : Option V) (at2 dg2 fo2 : Int), (L2.start ["pen", "many", "cell", "digit", "blend"] [V.ref p, V.int many] : L2.St) = [some (.ref p), some (.int many), c, none, none] ∧ H1 p = some (.dK (penD la at2 dg2 (ct + 1) fo2)) ∧ H1 la = some (.lst (cs.map V.int)) ∧ SameBut p H H1 ∧
        0 ≤ at2 ∧ 0 ≤ dg2 ∧ 0 ≤ fo2 ∧ fo2 < 2147482909 := ⟨none, at_, dg, fo, rfl, h1, h1l, h1s, a0, d0, f0, f1⟩
      refine ⟨_, rfl, p, _, rfl, pget h1 pen_digits, rfl, _, rfl, ite2 (fun _ => ?_) (fun _ => ?_)⟩
      · refine ⟨_, rfl, p, _, rfl, pget h1 pen_at, _, rfl, p, _, rfl, pget h1 pen_cells, la, _, rfl, .inl (SqL.of h1l), _, _, rfl, rfl, _, rfl, ite2 (fun hlt => ?_) (fun _ => stay)⟩
        have hlt : at_ < (cs.length : Int) := by
          have z := of_decide_eq_true hlt
          rw [List.length_map] at z
          exact z
        obtain ⟨j, rfl⟩ : ∃ j : Nat, at_ = (j : Int) := ⟨at_.toNat, by omega⟩
        have hj : j < cs.length := by omega
        have ej : (cs.map V.int)[j]? = some (.int (cs[j])) := by simp [hj]
        -- cell = pen["cells"][pen["at"]]; pen["at"] = pen["at"] + 1
        refine ⟨_, rfl, p, _, rfl, pget h1 pen_cells, _, rfl, p, _, rfl, pget h1 pen_at, la, _, _, _, rfl, rfl, SqL.of h1l, atI_nat ej, ?_⟩
        refine ⟨_, rfl, p, _, rfl, pget h1 pen_at, _, _, rfl, rfl, _, rfl, p, _, rfl, pput h1 put_at, ?_⟩
        have h2 : (upd H1 p (.dK (penD la ((j : Int) + 1) dg (ct + 1) fo))) p = some (.dK (penD la ((j : Int) + 1) dg (ct + 1) fo)) := upd_same
        have h2l : (upd H1 p (.dK (penD la ((j : Int) + 1) dg (ct + 1) fo))) la = some (.lst (cs.map V.int)) := by rw [upd_ne nla]; exact h1l
        have h2s : SameBut p H (upd H1 p (.dK (penD la ((j : Int) + 1) dg (ct + 1) fo))) := sb _ _ h1s
        generalize upd H1 p (.dK (penD la ((j : Int) + 1) dg (ct + 1) fo)) = H2 at h2 h2l h2s ⊢
        generalize cs[j] = cell
        -- if cell >= 10 ** 18
        refine ⟨_, rfl, _, _, rfl, rfl, ⟨by decide, by decide, by decide⟩, _, _, rfl, rfl, _, rfl, ite2 (fun hge => ?_) (fun _ => ?_)⟩
        · have hge : (10 : Int) ^ (18 : Int).toNat ≤ cell := of_decide_eq_true hge
          refine ⟨_, rfl, _, _, rfl, rfl, ⟨by decide, by decide, by decide⟩, _, _, rfl, rfl, _, rfl, p, _, rfl, pput h2 put_digits, ?_⟩
          exact ⟨some (.int cell), (j : Int) + 1, cell - 10 ^ (18 : Int).toNat, fo, rfl, upd_same, by rw [upd_ne nla]; exact h2l, sb _ _ h2s, by omega, by omega, f0, f1⟩
        · refine ⟨_, rfl, p, _, rfl, pget h2 pen_fold, _, _, rfl, rfl, .inl ⟨by omega, by omega⟩, _, rfl, _, _, rfl, rfl, .inl ⟨_, rfl, _, _, rfl, rfl, (by show (0 : Int) < 2147482909; decide), _, rfl, p, _, rfl, pput h2 put_fold, ?_⟩⟩
          exact ⟨some (.int cell), (j : Int) + 1, dg, _, rfl, upd_same, by rw [upd_ne nla]; exact h2l, sb _ _ h2s, by omega, d0, Int.emod_nonneg _ (by decide), Int.emod_lt_of_pos _ (by decide)⟩
      · exact iteF stay
    · rintro σ' H' ⟨c, at2, dg2, fo2, rfl, h2, h2l, h2s, a2, d2, f2, f3⟩
      -- the second if: a digit, or none is left
      refine ⟨fun σ3 H3 => σ3 = [some (.ref p), some (.int many), c, none, none] ∧ H3 = H', ?_, ?_⟩
      · refine ⟨_, rfl, p, _, rfl, pget h2 pen_digits, _, _, rfl, rfl, _, rfl, ite2 (fun _ => ?_) (fun _ => ⟨rfl, rfl⟩)⟩
        refine ⟨_, rfl, p, _, rfl, pget h2 pen_digits, .inl ⟨_, rfl, _, rfl, _, _, rfl, rfl, m0, ?_⟩⟩
        refine ⟨_, rfl, p, _, rfl, pget h2 pen_digits, _, rfl, _, _, rfl, rfl, ⟨m0, by omega⟩, _, rfl, p, _, rfl, pput h2 put_digits, ?_⟩
        refine ⟨_, rfl, k _ _ (Int.emod_nonneg _ (by omega)) (Int.emod_lt_of_pos _ m0) ⟨cs, at2, _, ct + 1, fo2, upd_same, by rw [upd_ne nla]; exact h2l, hcs, a2, Int.ediv_nonneg d2 (by omega), by omega, by omega, f2, f3⟩ (sb _ _ h2s)⟩
      · rintro σ3 H3 ⟨rfl, rfl⟩
        refine ⟨_, rfl, p, _, rfl, pget h2 pen_fold, _, rfl, p, _, rfl, pget h2 pen_count, _, _, rfl, rfl, .inl ⟨by omega, by omega⟩, _, _, rfl, rfl, _, _, rfl, rfl, ?_⟩
        refine ⟨_, rfl, _, _, rfl, rfl, ⟨by decide, by decide, ?_⟩, _, _, rfl, rfl, (by show (0 : Int) < 2305843009213693951; decide), .inl ⟨_, rfl, _, _, rfl, rfl, ⟨by decide, by decide⟩, _, rfl, _, _, rfl, rfl, m0, ?_⟩⟩
        · omega
        · exact k _ _ (Int.emod_nonneg _ (by omega)) (Int.emod_lt_of_pos _ m0) ⟨cs, at2, dg2, ct + 1, fo2, h2, h2l, hcs, a2, d2, by omega, by omega, f2, f3⟩ h2s
end
end K90

set_option maxHeartbeats 4000000
namespace K90
open PySem PySem.Spec PyProof.Rows L2

/-! ### data, carried on -/
/-- no list, tuple, nor locked thing -/
def NoSeq (H : Hp) (p : Addr) : Prop := ∀ o, H p = some o → (∀ xs, o ≠ .lst xs) ∧ (∀ xs, o ≠ .tup xs) ∧ ∀ u v, o ≠ .frz u v
theorem SqL.but {K : PySem.W.Frag} {H H' : Hp} {p a : Addr} {xs : List V} (n : NoSeq H p) (k : SameBut p H H') (h : SqL K H a xs) : SqL K H' a xs := by
  rcases h with (h | ⟨o, h⟩) | h
  · exact .inl (.inl (k _ _ h fun e => (n _ (e ▸ h)).1 xs rfl))
  · exact .inl (.inr ⟨o, k _ _ h fun e => (n _ (e ▸ h)).2.2 _ _ rfl⟩)
  · exact .inr h
theorem SqT.but {K : PySem.W.Frag} {H H' : Hp} {p a : Addr} {xs : List V} (n : NoSeq H p) (k : SameBut p H H') (h : SqT K H a xs) : SqT K H' a xs := by
  rcases h with (h | ⟨o, h⟩) | h
  · exact .inl (.inl (k _ _ h fun e => (n _ (e ▸ h)).2.1 xs rfl))
  · exact .inl (.inr ⟨o, k _ _ h fun e => (n _ (e ▸ h)).2.2 _ _ rfl⟩)
  · exact .inr h
mutual
theorem dp_but {K : PySem.W.Frag} {H H' : Hp} {p : Addr} (n : NoSeq H p) (k : SameBut p H H') : ∀ (d : PyData) (v : V), Dp K H v d → Dp K H' v d
  | .none, _, h => by cases h; exact .non
  | .bool _, _, h => by cases h; exact .bl _
  | .int _, _, h => by cases h; exact .int _
  | .str _, _, h => by cases h; exact .str _
  | .list ds, _, h => by
    cases h with
    | lst hs ha => exact .lst (SqL.but n k hs) (dps_but n k ds _ ha)
  | .tuple ds, _, h => by
    cases h with
    | tup hs ha => exact .tup (SqT.but n k hs) (dps_but n k ds _ ha)
  | .dict _, _, h => by cases h
theorem dps_but {K : PySem.W.Frag} {H H' : Hp} {p : Addr} (n : NoSeq H p) (k : SameBut p H H') : ∀ (ds : List PyData) (vs : List V), DpAll K H vs ds → DpAll K H' vs ds
  | [], _, h => by cases h; exact .nil
  | d :: ds, _, h => by
    cases h with
    | cons h1 h2 => exact .cons (dp_but n k d _ h1) (dps_but n k ds _ h2)
end
theorem sameBut_of {p : Addr} {H H' : Hp} (h : Same H H') : SameBut p H H' := fun b o e _ => h b o e
theorem SameBut.trans {p : Addr} {H H1 H2 : Hp} (a : SameBut p H H1) (b : SameBut p H1 H2) : SameBut p H H2 := fun c o e n => b c o (a c o e n) n
theorem SameBut.refl (p : Addr) (H : Hp) : SameBut p H H := fun _ _ e _ => e
/-- an address that is nowhere -/
theorem dp_same {K : PySem.W.Frag} {H H' : Hp} (k : Same H H') {d : PyData} {v : V} (h : Dp K H v d) : Dp K H' v d := by
  by_cases e : ∃ p, H p = none
  · obtain ⟨p, hp⟩ := e
    exact dp_but (p := p) (fun o z => by rw [hp] at z; cases z) (sameBut_of k) d v h
  · have e2 : H' = H := funext fun b => by
      cases q : H b with
      | none => exact absurd ⟨b, q⟩ e
      | some o => exact k b o q
    rw [e2]
    exact h
theorem dps_same {K : PySem.W.Frag} {H H' : Hp} (k : Same H H') : ∀ {ds : List PyData} {vs : List V}, DpAll K H vs ds → DpAll K H' vs ds
  | [], _, h => by cases h; exact .nil
  | d :: ds, _, h => by
    cases h with
    | cons h1 h2 => exact .cons (dp_same k h1) (dps_same k h2)
theorem same_upd {H : Hp} {p : Addr} {o : HO} (h : H p = none) : Same H (upd H p o) := fun b u e => by rw [upd_ne (ne_of_none e h)]; exact e
theorem noSeq_of {H : Hp} {p : Addr} {o : HO} (h : H p = some o) (h1 : ∀ xs, o ≠ .lst xs) (h2 : ∀ xs, o ≠ .tup xs) (h3 : ∀ u v, o ≠ .frz u v) : NoSeq H p := fun u e => by
  rw [h] at e
  cases e
  exact ⟨h1, h2, h3⟩
theorem noSeq_pen {la : Addr} {n : Nat} {H : Hp} {p : Addr} (h : PenAt la n H p) : NoSeq H p := by
  obtain ⟨_, _, _, _, _, hp, _⟩ := h
  exact noSeq_of hp (fun _ z => nomatch z) (fun _ z => nomatch z) (fun _ _ z => nomatch z)
theorem noSeq_ins {H : Hp} {p C dx : Addr} {fs : List (Str × V)} (h : H p = some (.ins C dx fs)) : NoSeq H p := noSeq_of h (fun _ z => nomatch z) (fun _ z => nomatch z) (fun _ _ z => nomatch z)
theorem penAt_same {la : Addr} {n : Nat} {H H' : Hp} {p : Addr} (k : Same H H') (h : PenAt la n H p) : PenAt la n H' p := by
  obtain ⟨cs, at_, dg, ct, fo, h1, h2, r⟩ := h
  exact ⟨cs, at_, dg, ct, fo, k _ _ h1, k _ _ h2, r⟩
theorem penAt_more {la : Addr} {n m : Nat} {H : Hp} {p : Addr} (hm : n ≤ m) (h : PenAt la n H p) : PenAt la m H p := by
  obtain ⟨cs, at_, dg, ct, fo, h1, h2, h3, h4, h5, h6, h7, h8, h9⟩ := h
  exact ⟨cs, at_, dg, ct, fo, h1, h2, h3, h4, h5, h6, by omega, h8, h9⟩

/-! ### kinds -/
def tyD : PyData → String
  | .none => "NoneType"
  | .bool _ => "bool"
  | .int _ => "int"
  | .str _ => "str"
  | .list _ => "list"
  | .tuple _ => "tuple"
  | .dict _ => "dict"
def isL : PyData → Bool
  | .list _ => true
  | _ => false
def copyD : PyData → PyData
  | .list ds => .tuple ds
  | d => d
theorem dp_ty {K : PySem.W.Frag} {H : Hp} {v : V} {d : PyData} (h : Dp K H v d) : TyX K H v (.type (tyD d)) := by
  cases h with
  | non => exact .base .non
  | bl b => exact .base (.bl b)
  | int i => exact .base (.int i)
  | str x => exact .base (.str x)
  | lst hs _ =>
    rcases hs with (h | ⟨o, h⟩) | ⟨o, its, n, h, c, _⟩
    · exact .base (.lst h)
    · exact .base (.frz h)
    · exact .kList h c
  | tup hs _ =>
    rcases hs with (h | ⟨o, h⟩) | ⟨o, its, n, h, c, _⟩
    · exact .base (.tup h)
    · exact .fTuple h
    · exact .kTuple h c
theorem kit_list (K : PySem.W.Frag) (d : PyData) : PySem.W.kitOne K (.type (tyD d)) (.type "list") = some (isL d) := by
  cases d <;> kernel_rfl

/-! ### == and != by an own method -/
/-- x op y, x an instance of the class at C whose method f answers -/
def rOwn (K : PySem.W.Frag) (C : Addr) (sp : Sp) (E : XK) : R2 := fun x y H Q => ∃ a dx fs tb, x = .ref a ∧ H a = some (.ins C dx fs) ∧ TyX K H y tb ∧ PySem.W.notFirst K C tb = true ∧ sp [x, y] H (fun v H' => ∃ b, v = .bl b ∧ Q (.bl b) H') E
section
variable {X : Cx} {C f : Addr} {fd : FuncData} {ps : List Str} {sp : Sp} {k : Nat} {E : XK} {CX : CXT}
theorem run_own {op : CmpOp} (F : FnOk X.prog X.w X.K X.mg X.base CX k f fd ps sp) (hr : Room k X.A) (hu : X.A.units < cLine) (hs : PySem.W.findIn X.K (.ref C) (cmpInfo op).2.1 = some (some (.ref f))) (hf : PySem.W.isFn X.K (.ref f) = true) (hb : Binds X.K fd ps []) (hx : Passes CX X E)
    (pins : List (Addr × Obj)) (s : Shared) (σ : L2.St) (H : Hp) (x y : V) (v u : Value) (Q : VK) (I : Inv X pins σ H s) (rx : RelV x v) (ry : RelV y u) (h : rOwn X.K C sp E x y H Q) : wpAny (model X.prog X.w) X.A (richCompare op v u) (EP X pins σ Q) X.xe s := by
  obtain ⟨a, dx, fs, tb, rfl, ha, ty, hn, hsp⟩ := h
  cases rx
  obtain ⟨mA, J, _⟩ := ins_get I.hok ha
  obtain ⟨od, J, _⟩ := J.look
  obtain ⟨Pt, Z, pt, _⟩ := kit_of I ry ty
  obtain ⟨m, hF⟩ := I.fr
  refine PySem.W.cmp_K (op := op) (tb := tb) hu hF I.ok.mod.kin J (Z.ty _ _ I.kIn pt) hn hs hf ?_
  refine thn (run_fn (dvs := []) (ds := []) (us := [.ref a, u]) (vs := [.ref a, y]) (Q := fun v H' => ∃ b, v = .bl b ∧ Q (.bl b) H') F hr hb .nil hx I (.cons rfl (.cons ry .nil)) hsp) fun w' s' q => ?_
  obtain ⟨z, H', I', rz, b, rfl, q⟩ := q
  cases rz
  exact ⟨.bl b, H', I', rfl, q⟩
theorem op_own_eq (F : FnOk X.prog X.w X.K X.mg X.base CX k f fd ps sp) (hr : Room k X.A) (hu : X.A.units < cLine) (hs : PySem.W.findIn X.K (.ref C) "__eq__" = some (some (.ref f))) (hf : PySem.W.isFn X.K (.ref f) = true) (hb : Binds X.K fd ps []) (hx : Passes CX X E) :
    OpR X (compareOp .Eq) (rOwn X.K C sp E) := fun pins s σ H x y v u Q I rx ry h => run_own (op := .Eq) F hr hu hs hf hb hx pins s σ H x y v u Q I rx ry h
theorem op_own_ne (F : FnOk X.prog X.w X.K X.mg X.base CX k f fd ps sp) (hr : Room k X.A) (hu : X.A.units < cLine) (hs : PySem.W.findIn X.K (.ref C) "__ne__" = some (some (.ref f))) (hf : PySem.W.isFn X.K (.ref f) = true) (hb : Binds X.K fd ps []) (hx : Passes CX X E) :
    OpR X (compareOp .NotEq) (rOwn X.K C sp E) := fun pins s σ H x y v u Q I rx ry h => run_own (op := .NotEq) F hr hu hs hf hb hx pins s σ H x y v u Q I rx ry h
end

/-! ### repr of data -/
def rRepr (K : PySem.W.Frag) : List V → Hp → VK → Prop := fun xs H Q => ∃ a d, xs = [.ref a] ∧ Dp K H (.ref a) d ∧ d.showable = true ∧ d.hasDict = false ∧ d.depth ≤ 64 ∧ d.shown.length ≤ sizeLine ∧ Q (.str d.shown) H
theorem call_reprD {X : Cx} (hg : X.A.guards = some []) (hu : X.A.units + 65 < cLine) : CallR X (.builtin "repr") (rRepr X.K) := by
  intro pins s σ H xs us Q I r h
  obtain ⟨a, d, rfl, hd, hs, hh, hdp, hz, q⟩ := h
  obtain ⟨u, rfl, ru⟩ := Vals.one r
  cases ru
  obtain ⟨as, rd⟩ := Dp.reads I d _ _ hd rfl
  refine repr_of_reads' rd hs (fun z => by rw [hh] at z; cases z) hg (by omega) (fun _ _ e => e) (fun h' u tk hk => ⟨.str d.shown, H, I.kept hk, ⟨_, rfl⟩, q⟩) hz
end K90

set_option maxHeartbeats 4000000
namespace K90
open PySem PySem.Spec PyProof.Rows L2
abbrev FnM (K : PySem.W.Frag) (c m : Str) (i j : Nat) (f : Addr) (fd : FuncData) : Prop := FunD K m (c ++ ("." ++ m : Str)) (defArgs (inClass (top i) j)) (defBody (inClass (top i) j)) (defScope (inClass (top i) j)) [] [] f fd
section
variable {P : Program} {w : World} {K : PySem.W.Frag} {mg : Str → Option Value} {base : Heap} {f fDraw fPick : Addr} {fd fdDraw fdPick : FuncData}

/-! ### the pen is made -/
def spPen (K : PySem.W.Frag) : Sp := fun vs H Q _ => ∃ (a : Addr) (ns : List Int), vs = [.ref a] ∧ SqL K H a (ns.map V.int) ∧ ns.length ≤ 63 ∧ ∀ (la p : Addr) (H' : Hp), H p = none → PenAt la 0 H' p → Same H H' → Q (.ref p) H'
theorem scPen : FnScope ["script", "fold", "cell"] ["script"] (defScope (top 23)) := ⟨rfl, rfl, rfl, by decide +kernel, rfl, by decide +kernel, by decide +kernel⟩
theorem ok_pen (F : FnG K "_law_pen" 23 f fd) (T : Txt mg) : FnOk P w K mg base CX0 1 f fd ["script"] (spPen K) := by
  refine F.ok scPen (fun vs H Q E h => ?_) (fun cdv A outer s H vs Q E hr h => ?_)
  · obtain ⟨a, ns, rfl, _⟩ := h
    rfl
  · obtain ⟨a, ns, rfl, hS, hl, k⟩ := h
    have hu := hu_of hr
    refine ⟨_, PSs.nox (pss_cons (ps_set (i := 1) scPen.nd rfl (Or.inl rfl) pe_int)
  (pss_cons (ps_for PassesOwn.never rfl (pi_list (pv 0)) (pg_name (i := 2) scPen.nd rfl (Or.inl rfl))
  (pss_one (ps_set (i := 1) scPen.nd rfl (Or.inl rfl) (pe_op op_mod (pe_callTy call_int1 (by rfl) T.int (by decide +kernel) (pa_cons (pe_op op_add (pe_op op_mul (pv 1) pe_int) (pv 2)) pa_nil)) pe_int))))
  (pss_one (ps_ret (pe_disp (pps_cons pe_str (pe_callTy call_list_of (by rfl) T.list (by decide +kernel) (pa_cons (pv 0) pa_nil)) (pps_cons pe_str pe_int (pps_cons pe_str pe_int (pps_cons pe_str pe_int (pps_cons pe_str (pv 1) pps_nil))))) rfl rfl (by simp) (by decide)))))), ?_⟩
    refine ⟨_, rfl, a, rfl, ⟨_, hS⟩, for_list (K := K) (a := a) (xs := ns.map V.int) (fun i σ H2 => ∃ (c : Option V) (fo : Int), σ = [some (.ref a), some (.int fo), c] ∧ H2 = H ∧ 0 ≤ fo ∧ fo < 999999131)
      ⟨none, 0, rfl, rfl, by omega, by omega⟩ (fun i σ H2 _ ⟨_, _, _, e, _⟩ => e ▸ hS) ?_ ?_⟩
    · rintro i y σ H2 hi ⟨c, fo, rfl, rfl, f0, f1⟩
      obtain ⟨z, rfl⟩ : ∃ z, y = V.int z := by
        rw [List.getElem?_map] at hi
        cases e : ns[i]? with
        | none => rw [e] at hi; cases hi
        | some z => rw [e] at hi; exact ⟨z, (Option.some.inj hi).symm⟩
      refine ⟨_, rfl, _, _, rfl, rfl, .inl ⟨by omega, by omega⟩, _, rfl, _, _, rfl, rfl, .inl ⟨_, rfl, _, _, rfl, rfl, (by show (0 : Int) < 999999131; decide), ?_⟩⟩
      exact ⟨some (.int z), _, rfl, rfl, Int.emod_nonneg _ (by decide), Int.emod_lt_of_pos _ (by decide)⟩
    · rintro σ H2 ⟨c, fo, rfl, rfl, f0, f1⟩
      intro p hp
      refine ⟨_, rfl, a, _, rfl, .inl ((same_upd hp).seq hS), fun l hl2 => ?_⟩
      have npl : p ≠ l := fun e => by rw [e, upd_same] at hl2; cases hl2
      refine ⟨_, rfl, by rw [upd_ne npl, upd_same], penD l 0 0 0 fo, rfl, (by show 5 ≤ 15; decide), ?_⟩
      have hl3 : H2 l = none := by rw [upd_ne npl.symm] at hl2; exact hl2
      refine k l p _ hp ⟨ns, 0, 0, 0, fo, ?_, ?_, hl, by omega, by omega, by omega, by omega, f0, by omega⟩ fun b o e => ?_
      · rw [upd_same]; kernel_rfl
      · rw [upd_ne npl.symm, upd_same]
      · rw [upd_ne (ne_of_none e hp), upd_ne (ne_of_none e hl3), upd_ne (ne_of_none e hp)]; exact e

/-! ### a pick, a value -/
def spPick : Sp := fun vs H Q _ => ∃ (p l : Addr) (xs : List V) (n : Nat) (la : Addr), vs = [.ref p, .ref l] ∧ H l = some (.lst xs) ∧ 0 < xs.length ∧ xs.length < 1000 ∧ n < 1000000 ∧ PenAt la n H p ∧
  ∀ (v : V) (H' : Hp), v ∈ xs → PenAt la (n + 1) H' p → SameBut p H H' → Q v H'
theorem scPick : FnScope ["pen", "some"] ["pen", "some"] (defScope (top 25)) := ⟨rfl, rfl, rfl, by decide +kernel, rfl, by decide +kernel, by decide +kernel⟩
theorem ok_pick (F : FnG K "_law_pick" 25 f fd) (FD : FnG K "_law_draw" 24 fDraw fdDraw) (T : Txt mg) (gD : mg "_law_draw" = some (.ref fDraw)) : FnOk P w K mg base CX0 2 f fd ["pen", "some"] spPick := by
  have G_law_draw : FnOk P w K mg base CX0 1 fDraw fdDraw ["pen", "many"] spDraw := ok_draw FD T
  have b_law_draw : Binds K fdDraw ["pen", "many"] [] := FD.bindsN fun _ _ _ _ _ _ us hl => match us, hl with | [_, _], _ => rfl
  refine F.ok scPick (fun vs H Q E h => ?_) (fun cdv A outer s H vs Q E hr h => ?_)
  · obtain ⟨p, l, xs, n, la, rfl, _⟩ := h
    rfl
  · obtain ⟨p, l, xs, n, la, rfl, hl, h0, h1, hn, hp, k⟩ := h
    have hu := hu_of hr
    refine ⟨_, PSs.nox (pss_one (ps_ret (pe_ix ix_list (pv 1) (pe_call G_law_draw hr rfl gD FD.kp b_law_draw .nil pass0 (pa_cons (pv 0) (pa_cons (pe_callB call_len_seq (by rfl) T.len PySem.boot_len (pa_cons (pv 1) pa_nil)) pa_nil))) (fun _ _ => rfl)))), ?_⟩
    refine ⟨_, rfl, _, rfl, _, rfl, l, xs, rfl, .inl (SqL.of hl), p, xs.length, n, la, rfl, by omega, by omega, hn, hp, fun d H' d0 d1 hp' kp => ?_⟩
    obtain ⟨j, rfl⟩ : ∃ j : Nat, d = (j : Int) := ⟨d.toNat, by omega⟩
    have hj : j < xs.length := by omega
    have npl : l ≠ p := by
      obtain ⟨_, _, _, _, _, z, _⟩ := hp
      exact ne_of hl z (by intro z; cases z)
    exact ⟨l, xs, j, xs[j], rfl, rfl, SqL.of (kp _ _ hl npl), atI_nat (by simp [hj]), k _ _ (List.getElem_mem hj) hp' kp⟩

/-! ### copied, _law_copy -/
/-- what is handed in: no list, or a list -/
inductive Arg where
  | flat (v : V) (d : PyData)
  | list (a : Addr) (xs : List V) (ds : List PyData)
def Arg.here (K : PySem.W.Frag) (H : Hp) (v : V) : Arg → Prop
  | .flat u d => v = u ∧ Dp K H u d ∧ isL d = false
  | .list a xs _ => v = .ref a ∧ H a = some (.lst xs)
/-- its copy -/
def Arg.cp (H : Hp) (v : V) : Arg → Prop
  | .flat u _ => v = u
  | .list _ xs _ => ∃ p, v = .ref p ∧ H p = some (.tup xs)
def Arg.ok (K : PySem.W.Frag) (H : Hp) : Arg → Prop
  | .flat u d => Dp K H u d
  | .list _ xs ds => DpAll K H xs ds
def Arg.dat : Arg → PyData
  | .flat _ d => d
  | .list _ _ ds => .tuple ds
theorem Arg.cp_dp {H : Hp} {v : V} : ∀ {A : Arg}, A.cp H v → A.ok K H → Dp K H v A.dat
  | .flat _ _, h, k => by
    have h' : v = _ := h
    rw [h']
    exact k
  | .list _ _ _, ⟨p, h, hp⟩, k => by
    rw [h]
    exact .tup (SqT.of hp) k
theorem Arg.cp_ext {H H' : Hp} {v : V} (e : ∀ b xs, H b = some (.tup xs) → H' b = some (.tup xs)) : ∀ {A : Arg}, A.cp H v → A.cp H' v
  | .flat _ _, h => h
  | .list _ _ _, ⟨p, h, hp⟩ => ⟨p, h, e _ _ hp⟩
def spCopied (K : PySem.W.Frag) : Sp := fun vs H Q _ => ∃ (v : V) (A : Arg), vs = [v] ∧ A.here K H v ∧ ∀ (v' : V) (H' : Hp), A.cp H' v' → Same H H' → Q v' H'
theorem scCopied : FnScope ["value"] ["value"] (defScope (top 1)) := ⟨rfl, rfl, rfl, by decide +kernel, rfl, by decide +kernel, by decide +kernel⟩
theorem scCopy : FnScope ["value"] ["value"] (defScope (top 27)) := ⟨rfl, rfl, rfl, by decide +kernel, rfl, by decide +kernel, by decide +kernel⟩
theorem copied_ty {H : Hp} {v : V} {A : Arg} (h : A.here K H v) : ∃ t b, TyX K H v t ∧ PySem.W.kitOne K t (.type "list") = some b ∧ b = (match A with | .flat _ _ => false | .list _ _ _ => true) := by
  cases A with
  | flat u d =>
    obtain ⟨rfl, hd, hl⟩ := h
    exact ⟨_, _, dp_ty hd, kit_list K d, hl⟩
  | list a xs ds =>
    obtain ⟨rfl, ha⟩ := h
    exact ⟨_, true, .base (.lst ha), kit_list K (.list []), rfl⟩
theorem ok_copied (F : FnG K "copied" 1 f fd) (T : Txt mg) : FnOk P w K mg base CX0 1 f fd ["value"] (spCopied K) := by
  refine F.ok scCopied (fun vs H Q E h => ?_) (fun cdv A outer s H vs Q E hr h => ?_)
  · obtain ⟨v, d, rfl, _⟩ := h
    rfl
  · obtain ⟨v, A, rfl, hA, k⟩ := h
    obtain ⟨t, b, ty, kt, eb⟩ := copied_ty hA
    refine ⟨_, PSs.nox (pss_one (ps_ret (pe_ifExp (pt_val (pe_callB call_isi (by rfl) T.isinstance (by decide +kernel) (pa_cons (pv 0) (pa_cons (pe_bltn (v := .ty "list") (u := .type "list") rfl T.list (by decide +kernel) rfl) pa_nil)))) (pe_callTy call_tuple_of (by rfl) T.tuple (by decide +kernel) (pa_cons (pv 0) pa_nil)) (pv 0)))), ?_⟩
    refine ⟨_, rfl, v, .ty "list", _, _, b, rfl, .ty "list", ty, kt, _, rfl, ?_⟩
    cases A with
    | flat u d =>
      obtain ⟨rfl, hd, hl⟩ := hA
      rw [eb]
      exact iteF ⟨_, rfl, k _ _ rfl (Same.refl _)⟩
    | list a xs ds =>
      obtain ⟨rfl, ha⟩ := hA
      rw [eb]
      exact iteT ⟨_, rfl, _, _, rfl, .inl ⟨SqL.of ha, fun l hl => k _ _ ⟨l, rfl, upd_same⟩ (same_upd hl)⟩⟩
theorem ok_copy (F : FnG K "_law_copy" 27 f fd) (T : Txt mg) : FnOk P w K mg base CX0 1 f fd ["value"] (spCopied K) := by
  refine F.ok scCopy (fun vs H Q E h => ?_) (fun cdv A outer s H vs Q E hr h => ?_)
  · obtain ⟨v, d, rfl, _⟩ := h
    rfl
  · obtain ⟨v, A, rfl, hA, k⟩ := h
    obtain ⟨t, b, ty, kt, eb⟩ := copied_ty hA
    refine ⟨_, PSs.nox (pss_one (ps_ret (pe_ifExp (pt_val (pe_callB call_isi (by rfl) T.isinstance (by decide +kernel) (pa_cons (pv 0) (pa_cons (pe_bltn (v := .ty "list") (u := .type "list") rfl T.list (by decide +kernel) rfl) pa_nil)))) (pe_callTy call_tuple_of (by rfl) T.tuple (by decide +kernel) (pa_cons (pv 0) pa_nil)) (pv 0)))), ?_⟩
    refine ⟨_, rfl, v, .ty "list", _, _, b, rfl, .ty "list", ty, kt, _, rfl, ?_⟩
    cases A with
    | flat u d =>
      obtain ⟨rfl, hd, hl⟩ := hA
      rw [eb]
      exact iteF ⟨_, rfl, k _ _ rfl (Same.refl _)⟩
    | list a xs ds =>
      obtain ⟨rfl, ha⟩ := hA
      rw [eb]
      exact iteT ⟨_, rfl, _, _, rfl, .inl ⟨SqL.of ha, fun l hl => k _ _ ⟨l, rfl, upd_same⟩ (same_upd hl)⟩⟩
end
end K90

set_option maxHeartbeats 4000000
namespace K90
open PySem PySem.Spec PyProof.Rows L2
section
variable {P : Program} {w : World} {K : PySem.W.Frag} {mg : Str → Option Value} {base : Heap} {f fDraw fPick : Addr} {fd fdDraw fdPick : FuncData}
def menu : List PyData := [.tuple [.int 1, .int 2], .list [.int 3, .tuple [.int 4]], .tuple [], .list [], .str "abc", .int 0, .none, .tuple [.tuple [.str "a", .int 1]], .list [.list [.int 1]], .int 7]
/-- what is new since H -/
def New (H H' : Hp) : Hp := fun b => if H b = none then H' b else none
theorem new_same {H H1 H2 : Hp} (s : Same H1 H2) : Same (New H H1) (New H H2) := fun b o e => by
  unfold New at e ⊢
  by_cases q : H b = none
  · rw [if_pos q] at e ⊢
    exact s _ _ e
  · rw [if_neg q] at e
    cases e
theorem new_sub {H H' : Hp} : Same (New H H') H' := fun b o e => by
  unfold New at e
  by_cases q : H b = none
  · rwa [if_pos q] at e
  · rw [if_neg q] at e
    cases e
theorem new_none {H H' : Hp} {b : Addr} (h : H b ≠ none) : New H H' b = none := by
  unfold New
  rw [if_neg h]
theorem new_at {H H' : Hp} {a : Addr} {o : HO} (s : Same H H') (n : H' a = none) : New H (upd H' a o) a = some o := by
  have q : H a = none := by
    cases e : H a with
    | none => rfl
    | some u => rw [s _ _ e] at n; cases n
  unfold New
  rw [if_pos q, upd_same]
theorem new_but {H H1 H2 : Hp} {p : Addr} {o : HO} (hp : H p = some o) (s : SameBut p H1 H2) : Same (New H H1) (New H H2) := fun b u e => by
  unfold New at e ⊢
  by_cases q : H b = none
  · rw [if_pos q] at e ⊢
    exact s _ _ e (fun z => by rw [z, hp] at q; cases q)
  · rw [if_neg q] at e
    cases e
def spValue (K : PySem.W.Frag) : Sp := fun vs H Q _ => ∃ (p : Addr) (n : Nat) (la : Addr), vs = [.ref p] ∧ n < 1000000 ∧ PenAt la n H p ∧
  ∀ (v : V) (d : PyData) (H' : Hp), d ∈ menu → Dp K (New H H') v d → PenAt la (n + 1) H' p → SameBut p H H' → Q v H'
theorem scValue : FnScope ["pen"] ["pen"] (defScope (top 26)) := ⟨rfl, rfl, rfl, by decide +kernel, rfl, by decide +kernel, by decide +kernel⟩
theorem sz (n : Nat) (h : n ≤ 1000 := by decide) : n ≤ sizeLine := Nat.le_of_lt (small1000 h)
theorem dps_mem {H : Hp} {v : V} : ∀ {vs : List V} {ds : List PyData}, DpAll K H vs ds → v ∈ vs → ∃ d, d ∈ ds ∧ Dp K H v d
  | _ :: _, _ :: _, .cons h t, m => by
    rcases List.mem_cons.mp m with rfl | m
    · exact ⟨_, List.mem_cons_self, h⟩
    · obtain ⟨d, hd, q⟩ := dps_mem t m
      exact ⟨d, List.mem_cons_of_mem _ hd, q⟩
theorem ok_value (F : FnG K "_law_value" 26 f fd) (FD : FnG K "_law_draw" 24 fDraw fdDraw) (FP : FnG K "_law_pick" 25 fPick fdPick) (T : Txt mg) (gD : mg "_law_draw" = some (.ref fDraw)) (gP : mg "_law_pick" = some (.ref fPick)) :
    FnOk P w K mg base CX0 3 f fd ["pen"] (spValue K) := by
  have G_law_pick : FnOk P w K mg base CX0 2 fPick fdPick ["pen", "some"] spPick := ok_pick FP FD T gD
  have b_law_pick : Binds K fdPick ["pen", "some"] [] := FP.bindsN fun _ _ _ _ _ _ us hl => match us, hl with | [_, _], _ => rfl
  refine F.ok scValue (fun vs H Q E h => ?_) (fun cdv A outer s H vs Q E hr h => ?_)
  · obtain ⟨p, n, la, rfl, _⟩ := h
    rfl
  · obtain ⟨p, n, la, rfl, hn, hp, k⟩ := h
    refine ⟨_, PSs.nox (pss_one (ps_ret (pe_call G_law_pick hr rfl gP FP.kp b_law_pick .nil pass0 (pa_cons (pv 0) (pa_cons (pe_lst (pa_cons (pe_tup (pa_cons pe_int (pa_cons pe_int pa_nil))) (pa_cons (pe_lst (pa_cons pe_int (pa_cons (pe_tup (pa_cons pe_int pa_nil)) pa_nil))) (pa_cons (pe_tup pa_nil) (pa_cons (pe_lst pa_nil) (pa_cons pe_str (pa_cons pe_int (pa_cons pe_non (pa_cons (pe_tup (pa_cons (pe_tup (pa_cons pe_str (pa_cons pe_int pa_nil))) pa_nil)) (pa_cons (pe_lst (pa_cons (pe_lst (pa_cons pe_int pa_nil)) pa_nil)) (pa_cons pe_int pa_nil))))))))))) pa_nil))))), ?_⟩
    refine ⟨_, rfl, ?_⟩
    -- (1, 2)
    refine ⟨sz 2, fun a0 n0 => ?_⟩
    have s0 : Same H (upd H a0 (.tup [.int 1, .int 2])) := same_upd n0
    have d0 : Dp K (New H (upd H a0 (.tup [.int 1, .int 2]))) (.ref a0) (.tuple [.int 1, .int 2]) := .tup (SqT.of (new_at (Same.refl H) n0)) (.cons (.int 1) (.cons (.int 2) .nil))
    generalize upd H a0 (.tup [.int 1, .int 2]) = H0 at s0 d0 ⊢
    -- [3, (4,)]
    refine ⟨sz 1, fun a1 n1 => ⟨sz 2, fun a2 n2 => ?_⟩⟩
    have s1 : Same H0 (upd (upd H0 a1 (.tup [.int 4])) a2 (.lst [.int 3, .ref a1])) := (same_upd n1).trans (same_upd n2)
    have d1 : Dp K (New H (upd (upd H0 a1 (.tup [.int 4])) a2 (.lst [.int 3, .ref a1]))) (.ref a2) (.list [.int 3, .tuple [.int 4]]) :=
      .lst (SqL.of (new_at (s0.trans (same_upd n1)) n2)) (.cons (.int 3) (.cons (dp_same (new_same (same_upd n2)) (.tup (SqT.of (new_at s0 n1)) (.cons (.int 4) .nil))) .nil))
    have s1' := s0.trans s1
    generalize upd (upd H0 a1 (.tup [.int 4])) a2 (.lst [.int 3, .ref a1]) = H1 at s1 d1 s1' ⊢
    -- (), []
    refine ⟨sz 0, fun a3 n3 => ⟨sz 0, fun a4 n4 => ?_⟩⟩
    have s2 : Same H1 (upd (upd H1 a3 (.tup [])) a4 (.lst [])) := (same_upd n3).trans (same_upd n4)
    have d2 : Dp K (New H (upd (upd H1 a3 (.tup [])) a4 (.lst []))) (.ref a3) (.tuple []) := dp_same (new_same (same_upd n4)) (.tup (SqT.of (new_at s1' n3)) .nil)
    have d3 : Dp K (New H (upd (upd H1 a3 (.tup [])) a4 (.lst []))) (.ref a4) (.list []) := .lst (SqL.of (new_at (s1'.trans (same_upd n3)) n4)) .nil
    have s2' := s1'.trans s2
    generalize upd (upd H1 a3 (.tup [])) a4 (.lst []) = H2 at s2 d2 d3 s2' ⊢
    -- (("a", 1),)
    refine ⟨sz 2, fun a5 n5 => ⟨sz 1, fun a6 n6 => ?_⟩⟩
    have s3 : Same H2 (upd (upd H2 a5 (.tup [.str "a", .int 1])) a6 (.tup [.ref a5])) := (same_upd n5).trans (same_upd n6)
    have d4 : Dp K (New H (upd (upd H2 a5 (.tup [.str "a", .int 1])) a6 (.tup [.ref a5]))) (.ref a6) (.tuple [.tuple [.str "a", .int 1]]) :=
      .tup (SqT.of (new_at (s2'.trans (same_upd n5)) n6)) (.cons (dp_same (new_same (same_upd n6)) (.tup (SqT.of (new_at s2' n5)) (.cons (.str "a") (.cons (.int 1) .nil)))) .nil)
    have s3' := s2'.trans s3
    generalize upd (upd H2 a5 (.tup [.str "a", .int 1])) a6 (.tup [.ref a5]) = H3 at s3 d4 s3' ⊢
    -- [[1]]
    refine ⟨sz 1, fun a7 n7 => ⟨sz 1, fun a8 n8 => ?_⟩⟩
    have s4 : Same H3 (upd (upd H3 a7 (.lst [.int 1])) a8 (.lst [.ref a7])) := (same_upd n7).trans (same_upd n8)
    have d5 : Dp K (New H (upd (upd H3 a7 (.lst [.int 1])) a8 (.lst [.ref a7]))) (.ref a8) (.list [.list [.int 1]]) :=
      .lst (SqL.of (new_at (s3'.trans (same_upd n7)) n8)) (.cons (dp_same (new_same (same_upd n8)) (.lst (SqL.of (new_at s3' n7)) (.cons (.int 1) .nil))) .nil)
    generalize upd (upd H3 a7 (.lst [.int 1])) a8 (.lst [.ref a7]) = H4 at s4 d5 ⊢
    -- the menu
    refine ⟨sz 10, fun l nl => ?_⟩
    have s5 : Same H4 (upd H4 l (.lst [.ref a0, .ref a2, .ref a3, .ref a4, .str "abc", .int 0, .non, .ref a6, .ref a8, .int 7])) := same_upd nl
    have t4 := s4.trans s5
    have t3 := s3.trans t4
    have t2 := s2.trans t3
    have t1 := s1.trans t2
    have t0 := s0.trans t1
    have all : DpAll K (New H (upd H4 l (.lst [.ref a0, .ref a2, .ref a3, .ref a4, .str "abc", .int 0, .non, .ref a6, .ref a8, .int 7]))) [.ref a0, .ref a2, .ref a3, .ref a4, .str "abc", .int 0, .non, .ref a6, .ref a8, .int 7] menu :=
      .cons (dp_same (new_same t1) d0) (.cons (dp_same (new_same t2) d1) (.cons (dp_same (new_same t3) d2) (.cons (dp_same (new_same t3) d3) (.cons (.str _) (.cons (.int _) (.cons .non (.cons (dp_same (new_same t4) d4) (.cons (dp_same (new_same s5) d5) (.cons (.int _) .nil)))))))))
    refine ⟨p, l, _, n, la, rfl, upd_same, (by show 0 < 10; decide), (by show 10 < 1000; decide), hn, penAt_same t0 hp, fun v H' hv hp' kp => ?_⟩
    obtain ⟨d, hd, dv⟩ := dps_mem all hv
    obtain ⟨_, _, _, _, _, ep, _⟩ := hp
    exact k v d H' hd (dp_same (new_but ep kp) dv) hp' ((sameBut_of t0).trans kp)
end
end K90

set_option maxHeartbeats 4000000
namespace K90
open PySem PySem.Spec PyProof.Rows L2
def spInit1 (K : PySem.W.Frag) (C : Addr) (fld : Str) : Sp := fun vs H Q _ => ∃ (p : Addr) (v : V) (dx : Addr) (A : Arg), vs = [.ref p, v] ∧ H p = some (.ins C dx []) ∧ A.here K H v ∧
  ∀ (v' : V) (H' : Hp), A.cp H' v' → H' p = some (.ins C dx [(fld, v')]) → SameBut p H H' → Q .non H'
theorem cp_ins {A : Arg} {H : Hp} {v : V} {p C dx : Addr} {fs gs : List (Str × V)} (hp : H p = some (.ins C dx fs)) (h : A.cp H v) : A.cp (upd H p (.ins C dx gs)) v :=
  Arg.cp_ext (fun b xs e => by rw [upd_ne (ne_of e hp (by intro z; cases z))]; exact e) h
theorem init1_end {C p dx : Addr} {fld : Str} {H H' : Hp} {A : Arg} {v' : V} {Q : VK} (hp : H p = some (.ins C dx [])) (hd' : A.cp H' v') (sm : Same H H')
    (k : ∀ (v' : V) (H' : Hp), A.cp H' v' → H' p = some (.ins C dx [(fld, v')]) → SameBut p H H' → Q .non H') : Q .non (upd H' p (.ins C dx (putF fld v' []))) := by
  exact k v' _ (cp_ins (sm _ _ hp) hd') upd_same fun b o e n => by rw [upd_ne n]; exact sm b o e
def ShAll (ds : List PyData) : Prop := (∀ d ∈ ds, SeqAt.shaped d = true) ∧ SeqAt.shaped (.tuple ds) = true
def eqR : List PyData → List PyData → Bool
  | [], _ => true
  | [d], [e] => PyData.eqv d e
  | ds, es => PyData.eqv (.tuple ds) (.tuple es)
/-- an own ==: nm the attributes' names -/
def spEq (K : PySem.W.Frag) (C : Addr) (nm : List Str) : Sp := fun vs H Q _ => ∃ (a dx : Addr) (xs : List V) (ds : List PyData) (y : V) (tb : Value) (b : Bool), vs = [.ref a, y] ∧ H a = some (.ins C dx (nm.zip xs)) ∧ DpAll K H xs ds ∧ xs.length = nm.length ∧
  TyX K H y tb ∧ PySem.W.kitOne K tb (.ref C) = some b ∧ ShAll ds ∧ (b = false → ∀ H', Same H H' → Q (.bl false) H') ∧
  (b = true → ∃ (c dy : Addr) (ys : List V) (es : List PyData), y = .ref c ∧ H c = some (.ins C dy (nm.zip ys)) ∧ DpAll K H ys es ∧ ys.length = nm.length ∧ ShAll es ∧ ∀ H', Same H H' → Q (.bl (eqR ds es)) H')
theorem spEq_mono {K : PySem.W.Frag} {C : Addr} {nm : List Str} {vs : List V} {H : Hp} {Q Q' : VK} {E E' : XK} (h : spEq K C nm vs H Q E) (m : ∀ v H', Q v H' → Q' v H') : spEq K C nm vs H Q' E' := by
  obtain ⟨a, dx, xs, ds, y, tb, b, e, h1, h2, h3, h4, h5, h6, h7, h8⟩ := h
  refine ⟨a, dx, xs, ds, y, tb, b, e, h1, h2, h3, h4, h5, h6, fun e H' s => m _ _ (h7 e H' s), fun e => ?_⟩
  obtain ⟨c, dy, ys, es, g1, g2, g3, g4, g5, g6⟩ := h8 e
  exact ⟨c, dy, ys, es, g1, g2, g3, g4, g5, fun H' s => m _ _ (g6 H' s)⟩
def spNe (K : PySem.W.Frag) (C : Addr) (nm : List Str) : Sp := fun vs H Q _ => ∃ (a dx : Addr) (fs : List (Str × V)) (y : V) (tb : Value), vs = [.ref a, y] ∧ H a = some (.ins C dx fs) ∧ TyX K H y tb ∧ PySem.W.notFirst K C tb = true ∧
  spEq K C nm [.ref a, y] H (fun v H' => ∃ b, v = .bl b ∧ Q (.bl (!b)) H') E0
theorem one_of {K : PySem.W.Frag} {H : Hp} {xs : List V} {ds : List PyData} {f : Str} (h : DpAll K H xs ds) (l : xs.length = [f].length) : ∃ v d, xs = [v] ∧ ds = [d] ∧ Dp K H v d := by
  cases h with
  | nil => cases l
  | cons h1 h2 =>
    cases h2 with
    | nil => exact ⟨_, _, rfl, rfl, h1⟩
    | cons _ _ => cases l
theorem three_of {K : PySem.W.Frag} {H : Hp} {xs : List V} {ds : List PyData} {f g i : Str} (h : DpAll K H xs ds) (l : xs.length = [f, g, i].length) : ∃ u v x d e j, xs = [u, v, x] ∧ ds = [d, e, j] ∧ Dp K H u d ∧ Dp K H v e ∧ Dp K H x j := by
  cases h with
  | nil => cases l
  | cons h1 h2 =>
    cases h2 with
    | nil => cases l
    | cons h3 h4 =>
      cases h4 with
      | nil => cases l
      | cons h5 h6 =>
        cases h6 with
        | nil => exact ⟨_, _, _, _, _, _, rfl, rfl, h1, h3, h5⟩
        | cons _ _ => cases l
theorem nul_end {K : PySem.W.Frag} {H : Hp} {C : Addr} {xs : List V} {ds : List PyData} {y : V} {b : Bool} {Q : VK} (h : DpAll K H xs ds) (l : xs.length = ([] : List Str).length) (k0 : b = false → ∀ H', Same H H' → Q (.bl false) H')
    (k1 : b = true → ∃ (c dy : Addr) (ys : List V) (es : List PyData), y = .ref c ∧ H c = some (.ins C dy (([] : List Str).zip ys)) ∧ DpAll K H ys es ∧ ys.length = ([] : List Str).length ∧ ShAll es ∧ ∀ H', Same H H' → Q (.bl (eqR ds es)) H') : Q (.bl b) H := by
  cases b with
  | false => exact k0 rfl _ (Same.refl _)
  | true =>
    cases h with
    | cons _ _ => cases l
    | nil =>
      obtain ⟨_, _, _, _, _, _, _, _, _, k⟩ := k1 rfl
      exact k _ (Same.refl _)
section
variable {P : Program} {w : World} {K : PySem.W.Frag} {mg : Str → Option Value} {base : Heap} {f : Addr} {fd : FuncData}

theorem sc_Area_i : FnScope ["self", "ratio"] ["self", "ratio"] (defScope (inClass (top 3) 0)) := ⟨rfl, rfl, rfl, by decide +kernel, rfl, by decide +kernel, by decide +kernel⟩
theorem ok_Area_i {C fC : Addr} {fdC : FuncData} (F : FnM K "Area" "__init__" 3 0 f fd) (FC : FnG K "copied" 1 fC fdC) (T : Txt mg) (gC : mg "copied" = some (.ref fC)) (cl : Cls K C) (nF : NoAttr K C "ratio") : FnOk P w K mg base CX0 2 f fd ["self", "ratio"] (spInit1 K C "ratio") := by
  have G_copied : FnOk P w K mg base CX0 1 fC fdC ["value"] (spCopied K) := ok_copied FC T
  have b_copied : Binds K fdC ["value"] [] := FC.bindsN fun _ _ _ _ _ _ us hl => match us, hl with | [_], _ => rfl
  refine F.ok sc_Area_i (fun vs H Q E h => ?_) (fun cdv A outer s H vs Q E hr h => ?_)
  · obtain ⟨p, v, dx, B, rfl, _⟩ := h
    rfl
  · obtain ⟨p, v, dx, B, rfl, hp, hd, k⟩ := h
    refine ⟨_, PSs.nox (pss_one (ps_fld (pv 0) (pe_call G_copied hr rfl gC FC.kp b_copied .nil pass0 (pa_cons (pv 1) pa_nil)) rfl)), ?_⟩
    exact ⟨_, rfl, v, B, rfl, hd, fun v' H' hd' sm => ⟨_, rfl, p, C, dx, [], rfl, sm _ _ hp, cl, nF, (by show 0 < 1000; decide), init1_end hp hd' sm k⟩⟩
theorem sc_Area_e : FnScope ["self", "other"] ["self", "other"] (defScope (inClass (top 3) 1)) := ⟨rfl, rfl, rfl, by decide +kernel, rfl, by decide +kernel, by decide +kernel⟩
theorem ok_Area_e {C : Addr} (F : FnM K "Area" "__eq__" 3 1 f fd) (T : Txt mg) (gC : mg "Area" = some (.ref C)) (cl : Cls K C) (nF : NoAttr K C "ratio") : FnOk P w K mg base CX0 1 f fd ["self", "other"] (spEq K C ["ratio"]) := by
  refine F.ok sc_Area_e (fun vs H Q E h => ?_) (fun cdv A outer s H vs Q E hr h => ?_)
  · obtain ⟨a, dx, xs, ds, y, tb, b, rfl, _⟩ := h
    rfl
  · obtain ⟨a, dx, xs, ds, y, tb, b, rfl, ha, hd, hl, ty, kit, sh, k0, k1⟩ := h
    obtain ⟨v, d, rfl, rfl, hv⟩ := one_of hd hl
    refine ⟨_, PSs.nox (pss_one (ps_ret (pe_and (pe_callB call_isi (by rfl) T.isinstance (by decide +kernel) (pa_cons (pv 1) (pa_cons (pe_glob (v := .ref C) rfl gC rfl) pa_nil))) (pe_one (pe_cmpR (op_eqD hr.units) (pe_fld (pv 0) rfl) (pe_fld (pv 1) rfl) (nomark _)))))), ?_⟩
    refine ⟨_, rfl, y, .ref C, tb, .ref C, b, rfl, .own C, ty, kit, b, rfl, ite2 (fun e => ?_) (fun e => k0 (by simpa using e) _ (Same.refl _))⟩
    obtain ⟨c, dy, ys, es, rfl, hc, he, hl2, sh2, k2⟩ := k1 e
    obtain ⟨v2, d2, rfl, rfl, hv2⟩ := one_of he hl2
    exact ⟨_, rfl, a, C, dx, _, v, rfl, ha, cl, nF, rfl, _, rfl, c, C, dy, _, v2, rfl, hc, cl, nF, rfl, d, d2, hv, hv2, sh.1 _ List.mem_cons_self, sh2.1 _ List.mem_cons_self, k2 _ (Same.refl _)⟩

theorem sc_Sides_i : FnScope ["self", "rows"] ["self", "rows"] (defScope (inClass (top 4) 0)) := ⟨rfl, rfl, rfl, by decide +kernel, rfl, by decide +kernel, by decide +kernel⟩
theorem ok_Sides_i {C fC : Addr} {fdC : FuncData} (F : FnM K "Sides" "__init__" 4 0 f fd) (FC : FnG K "copied" 1 fC fdC) (T : Txt mg) (gC : mg "copied" = some (.ref fC)) (cl : Cls K C) (nF : NoAttr K C "rows") : FnOk P w K mg base CX0 2 f fd ["self", "rows"] (spInit1 K C "rows") := by
  have G_copied : FnOk P w K mg base CX0 1 fC fdC ["value"] (spCopied K) := ok_copied FC T
  have b_copied : Binds K fdC ["value"] [] := FC.bindsN fun _ _ _ _ _ _ us hl => match us, hl with | [_], _ => rfl
  refine F.ok sc_Sides_i (fun vs H Q E h => ?_) (fun cdv A outer s H vs Q E hr h => ?_)
  · obtain ⟨p, v, dx, B, rfl, _⟩ := h
    rfl
  · obtain ⟨p, v, dx, B, rfl, hp, hd, k⟩ := h
    refine ⟨_, PSs.nox (pss_one (ps_fld (pv 0) (pe_call G_copied hr rfl gC FC.kp b_copied .nil pass0 (pa_cons (pv 1) pa_nil)) rfl)), ?_⟩
    exact ⟨_, rfl, v, B, rfl, hd, fun v' H' hd' sm => ⟨_, rfl, p, C, dx, [], rfl, sm _ _ hp, cl, nF, (by show 0 < 1000; decide), init1_end hp hd' sm k⟩⟩
theorem sc_Sides_e : FnScope ["self", "other"] ["self", "other"] (defScope (inClass (top 4) 1)) := ⟨rfl, rfl, rfl, by decide +kernel, rfl, by decide +kernel, by decide +kernel⟩
theorem ok_Sides_e {C : Addr} (F : FnM K "Sides" "__eq__" 4 1 f fd) (T : Txt mg) (gC : mg "Sides" = some (.ref C)) (cl : Cls K C) (nF : NoAttr K C "rows") : FnOk P w K mg base CX0 1 f fd ["self", "other"] (spEq K C ["rows"]) := by
  refine F.ok sc_Sides_e (fun vs H Q E h => ?_) (fun cdv A outer s H vs Q E hr h => ?_)
  · obtain ⟨a, dx, xs, ds, y, tb, b, rfl, _⟩ := h
    rfl
  · obtain ⟨a, dx, xs, ds, y, tb, b, rfl, ha, hd, hl, ty, kit, sh, k0, k1⟩ := h
    obtain ⟨v, d, rfl, rfl, hv⟩ := one_of hd hl
    refine ⟨_, PSs.nox (pss_one (ps_ret (pe_and (pe_callB call_isi (by rfl) T.isinstance (by decide +kernel) (pa_cons (pv 1) (pa_cons (pe_glob (v := .ref C) rfl gC rfl) pa_nil))) (pe_one (pe_cmpR (op_eqD hr.units) (pe_fld (pv 0) rfl) (pe_fld (pv 1) rfl) (nomark _)))))), ?_⟩
    refine ⟨_, rfl, y, .ref C, tb, .ref C, b, rfl, .own C, ty, kit, b, rfl, ite2 (fun e => ?_) (fun e => k0 (by simpa using e) _ (Same.refl _))⟩
    obtain ⟨c, dy, ys, es, rfl, hc, he, hl2, sh2, k2⟩ := k1 e
    obtain ⟨v2, d2, rfl, rfl, hv2⟩ := one_of he hl2
    exact ⟨_, rfl, a, C, dx, _, v, rfl, ha, cl, nF, rfl, _, rfl, c, C, dy, _, v2, rfl, hc, cl, nF, rfl, d, d2, hv, hv2, sh.1 _ List.mem_cons_self, sh2.1 _ List.mem_cons_self, k2 _ (Same.refl _)⟩

theorem sc_Apart_i : FnScope ["self", "direction"] ["self", "direction"] (defScope (inClass (top 9) 0)) := ⟨rfl, rfl, rfl, by decide +kernel, rfl, by decide +kernel, by decide +kernel⟩
theorem ok_Apart_i {C fC : Addr} {fdC : FuncData} (F : FnM K "Apart" "__init__" 9 0 f fd) (FC : FnG K "copied" 1 fC fdC) (T : Txt mg) (gC : mg "copied" = some (.ref fC)) (cl : Cls K C) (nF : NoAttr K C "direction") : FnOk P w K mg base CX0 2 f fd ["self", "direction"] (spInit1 K C "direction") := by
  have G_copied : FnOk P w K mg base CX0 1 fC fdC ["value"] (spCopied K) := ok_copied FC T
  have b_copied : Binds K fdC ["value"] [] := FC.bindsN fun _ _ _ _ _ _ us hl => match us, hl with | [_], _ => rfl
  refine F.ok sc_Apart_i (fun vs H Q E h => ?_) (fun cdv A outer s H vs Q E hr h => ?_)
  · obtain ⟨p, v, dx, B, rfl, _⟩ := h
    rfl
  · obtain ⟨p, v, dx, B, rfl, hp, hd, k⟩ := h
    refine ⟨_, PSs.nox (pss_one (ps_fld (pv 0) (pe_call G_copied hr rfl gC FC.kp b_copied .nil pass0 (pa_cons (pv 1) pa_nil)) rfl)), ?_⟩
    exact ⟨_, rfl, v, B, rfl, hd, fun v' H' hd' sm => ⟨_, rfl, p, C, dx, [], rfl, sm _ _ hp, cl, nF, (by show 0 < 1000; decide), init1_end hp hd' sm k⟩⟩
theorem sc_Apart_e : FnScope ["self", "other"] ["self", "other"] (defScope (inClass (top 9) 1)) := ⟨rfl, rfl, rfl, by decide +kernel, rfl, by decide +kernel, by decide +kernel⟩
theorem ok_Apart_e {C : Addr} (F : FnM K "Apart" "__eq__" 9 1 f fd) (T : Txt mg) (gC : mg "Apart" = some (.ref C)) (cl : Cls K C) (nF : NoAttr K C "direction") : FnOk P w K mg base CX0 1 f fd ["self", "other"] (spEq K C ["direction"]) := by
  refine F.ok sc_Apart_e (fun vs H Q E h => ?_) (fun cdv A outer s H vs Q E hr h => ?_)
  · obtain ⟨a, dx, xs, ds, y, tb, b, rfl, _⟩ := h
    rfl
  · obtain ⟨a, dx, xs, ds, y, tb, b, rfl, ha, hd, hl, ty, kit, sh, k0, k1⟩ := h
    obtain ⟨v, d, rfl, rfl, hv⟩ := one_of hd hl
    refine ⟨_, PSs.nox (pss_one (ps_ret (pe_and (pe_callB call_isi (by rfl) T.isinstance (by decide +kernel) (pa_cons (pv 1) (pa_cons (pe_glob (v := .ref C) rfl gC rfl) pa_nil))) (pe_one (pe_cmpR (op_eqD hr.units) (pe_fld (pv 0) rfl) (pe_fld (pv 1) rfl) (nomark _)))))), ?_⟩
    refine ⟨_, rfl, y, .ref C, tb, .ref C, b, rfl, .own C, ty, kit, b, rfl, ite2 (fun e => ?_) (fun e => k0 (by simpa using e) _ (Same.refl _))⟩
    obtain ⟨c, dy, ys, es, rfl, hc, he, hl2, sh2, k2⟩ := k1 e
    obtain ⟨v2, d2, rfl, rfl, hv2⟩ := one_of he hl2
    exact ⟨_, rfl, a, C, dx, _, v, rfl, ha, cl, nF, rfl, _, rfl, c, C, dy, _, v2, rfl, hc, cl, nF, rfl, d, d2, hv, hv2, sh.1 _ List.mem_cons_self, sh2.1 _ List.mem_cons_self, k2 _ (Same.refl _)⟩

theorem sc_Tilted_i : FnScope ["self", "height"] ["self", "height"] (defScope (inClass (top 11) 0)) := ⟨rfl, rfl, rfl, by decide +kernel, rfl, by decide +kernel, by decide +kernel⟩
theorem ok_Tilted_i {C fC : Addr} {fdC : FuncData} (F : FnM K "Tilted" "__init__" 11 0 f fd) (FC : FnG K "copied" 1 fC fdC) (T : Txt mg) (gC : mg "copied" = some (.ref fC)) (cl : Cls K C) (nF : NoAttr K C "height") : FnOk P w K mg base CX0 2 f fd ["self", "height"] (spInit1 K C "height") := by
  have G_copied : FnOk P w K mg base CX0 1 fC fdC ["value"] (spCopied K) := ok_copied FC T
  have b_copied : Binds K fdC ["value"] [] := FC.bindsN fun _ _ _ _ _ _ us hl => match us, hl with | [_], _ => rfl
  refine F.ok sc_Tilted_i (fun vs H Q E h => ?_) (fun cdv A outer s H vs Q E hr h => ?_)
  · obtain ⟨p, v, dx, B, rfl, _⟩ := h
    rfl
  · obtain ⟨p, v, dx, B, rfl, hp, hd, k⟩ := h
    refine ⟨_, PSs.nox (pss_one (ps_fld (pv 0) (pe_call G_copied hr rfl gC FC.kp b_copied .nil pass0 (pa_cons (pv 1) pa_nil)) rfl)), ?_⟩
    exact ⟨_, rfl, v, B, rfl, hd, fun v' H' hd' sm => ⟨_, rfl, p, C, dx, [], rfl, sm _ _ hp, cl, nF, (by show 0 < 1000; decide), init1_end hp hd' sm k⟩⟩
theorem sc_Tilted_e : FnScope ["self", "other"] ["self", "other"] (defScope (inClass (top 11) 1)) := ⟨rfl, rfl, rfl, by decide +kernel, rfl, by decide +kernel, by decide +kernel⟩
theorem ok_Tilted_e {C : Addr} (F : FnM K "Tilted" "__eq__" 11 1 f fd) (T : Txt mg) (gC : mg "Tilted" = some (.ref C)) (cl : Cls K C) (nF : NoAttr K C "height") : FnOk P w K mg base CX0 1 f fd ["self", "other"] (spEq K C ["height"]) := by
  refine F.ok sc_Tilted_e (fun vs H Q E h => ?_) (fun cdv A outer s H vs Q E hr h => ?_)
  · obtain ⟨a, dx, xs, ds, y, tb, b, rfl, _⟩ := h
    rfl
  · obtain ⟨a, dx, xs, ds, y, tb, b, rfl, ha, hd, hl, ty, kit, sh, k0, k1⟩ := h
    obtain ⟨v, d, rfl, rfl, hv⟩ := one_of hd hl
    refine ⟨_, PSs.nox (pss_one (ps_ret (pe_and (pe_callB call_isi (by rfl) T.isinstance (by decide +kernel) (pa_cons (pv 1) (pa_cons (pe_glob (v := .ref C) rfl gC rfl) pa_nil))) (pe_one (pe_cmpR (op_eqD hr.units) (pe_fld (pv 0) rfl) (pe_fld (pv 1) rfl) (nomark _)))))), ?_⟩
    refine ⟨_, rfl, y, .ref C, tb, .ref C, b, rfl, .own C, ty, kit, b, rfl, ite2 (fun e => ?_) (fun e => k0 (by simpa using e) _ (Same.refl _))⟩
    obtain ⟨c, dy, ys, es, rfl, hc, he, hl2, sh2, k2⟩ := k1 e
    obtain ⟨v2, d2, rfl, rfl, hv2⟩ := one_of he hl2
    exact ⟨_, rfl, a, C, dx, _, v, rfl, ha, cl, nF, rfl, _, rfl, c, C, dy, _, v2, rfl, hc, cl, nF, rfl, d, d2, hv, hv2, sh.1 _ List.mem_cons_self, sh2.1 _ List.mem_cons_self, k2 _ (Same.refl _)⟩

theorem sc_Covers_i : FnScope ["self", "rows"] ["self", "rows"] (defScope (inClass (top 12) 0)) := ⟨rfl, rfl, rfl, by decide +kernel, rfl, by decide +kernel, by decide +kernel⟩
theorem ok_Covers_i {C fC : Addr} {fdC : FuncData} (F : FnM K "Covers" "__init__" 12 0 f fd) (FC : FnG K "copied" 1 fC fdC) (T : Txt mg) (gC : mg "copied" = some (.ref fC)) (cl : Cls K C) (nF : NoAttr K C "rows") : FnOk P w K mg base CX0 2 f fd ["self", "rows"] (spInit1 K C "rows") := by
  have G_copied : FnOk P w K mg base CX0 1 fC fdC ["value"] (spCopied K) := ok_copied FC T
  have b_copied : Binds K fdC ["value"] [] := FC.bindsN fun _ _ _ _ _ _ us hl => match us, hl with | [_], _ => rfl
  refine F.ok sc_Covers_i (fun vs H Q E h => ?_) (fun cdv A outer s H vs Q E hr h => ?_)
  · obtain ⟨p, v, dx, B, rfl, _⟩ := h
    rfl
  · obtain ⟨p, v, dx, B, rfl, hp, hd, k⟩ := h
    refine ⟨_, PSs.nox (pss_one (ps_fld (pv 0) (pe_call G_copied hr rfl gC FC.kp b_copied .nil pass0 (pa_cons (pv 1) pa_nil)) rfl)), ?_⟩
    exact ⟨_, rfl, v, B, rfl, hd, fun v' H' hd' sm => ⟨_, rfl, p, C, dx, [], rfl, sm _ _ hp, cl, nF, (by show 0 < 1000; decide), init1_end hp hd' sm k⟩⟩
theorem sc_Covers_e : FnScope ["self", "other"] ["self", "other"] (defScope (inClass (top 12) 1)) := ⟨rfl, rfl, rfl, by decide +kernel, rfl, by decide +kernel, by decide +kernel⟩
theorem ok_Covers_e {C : Addr} (F : FnM K "Covers" "__eq__" 12 1 f fd) (T : Txt mg) (gC : mg "Covers" = some (.ref C)) (cl : Cls K C) (nF : NoAttr K C "rows") : FnOk P w K mg base CX0 1 f fd ["self", "other"] (spEq K C ["rows"]) := by
  refine F.ok sc_Covers_e (fun vs H Q E h => ?_) (fun cdv A outer s H vs Q E hr h => ?_)
  · obtain ⟨a, dx, xs, ds, y, tb, b, rfl, _⟩ := h
    rfl
  · obtain ⟨a, dx, xs, ds, y, tb, b, rfl, ha, hd, hl, ty, kit, sh, k0, k1⟩ := h
    obtain ⟨v, d, rfl, rfl, hv⟩ := one_of hd hl
    refine ⟨_, PSs.nox (pss_one (ps_ret (pe_and (pe_callB call_isi (by rfl) T.isinstance (by decide +kernel) (pa_cons (pv 1) (pa_cons (pe_glob (v := .ref C) rfl gC rfl) pa_nil))) (pe_one (pe_cmpR (op_eqD hr.units) (pe_fld (pv 0) rfl) (pe_fld (pv 1) rfl) (nomark _)))))), ?_⟩
    refine ⟨_, rfl, y, .ref C, tb, .ref C, b, rfl, .own C, ty, kit, b, rfl, ite2 (fun e => ?_) (fun e => k0 (by simpa using e) _ (Same.refl _))⟩
    obtain ⟨c, dy, ys, es, rfl, hc, he, hl2, sh2, k2⟩ := k1 e
    obtain ⟨v2, d2, rfl, rfl, hv2⟩ := one_of he hl2
    exact ⟨_, rfl, a, C, dx, _, v, rfl, ha, cl, nF, rfl, _, rfl, c, C, dy, _, v2, rfl, hc, cl, nF, rfl, d, d2, hv, hv2, sh.1 _ List.mem_cons_self, sh2.1 _ List.mem_cons_self, k2 _ (Same.refl _)⟩

theorem sc_Profile_i : FnScope ["self", "rows"] ["self", "rows"] (defScope (inClass (top 13) 0)) := ⟨rfl, rfl, rfl, by decide +kernel, rfl, by decide +kernel, by decide +kernel⟩
theorem ok_Profile_i {C fC : Addr} {fdC : FuncData} (F : FnM K "Profile" "__init__" 13 0 f fd) (FC : FnG K "copied" 1 fC fdC) (T : Txt mg) (gC : mg "copied" = some (.ref fC)) (cl : Cls K C) (nF : NoAttr K C "rows") : FnOk P w K mg base CX0 2 f fd ["self", "rows"] (spInit1 K C "rows") := by
  have G_copied : FnOk P w K mg base CX0 1 fC fdC ["value"] (spCopied K) := ok_copied FC T
  have b_copied : Binds K fdC ["value"] [] := FC.bindsN fun _ _ _ _ _ _ us hl => match us, hl with | [_], _ => rfl
  refine F.ok sc_Profile_i (fun vs H Q E h => ?_) (fun cdv A outer s H vs Q E hr h => ?_)
  · obtain ⟨p, v, dx, B, rfl, _⟩ := h
    rfl
  · obtain ⟨p, v, dx, B, rfl, hp, hd, k⟩ := h
    refine ⟨_, PSs.nox (pss_one (ps_fld (pv 0) (pe_call G_copied hr rfl gC FC.kp b_copied .nil pass0 (pa_cons (pv 1) pa_nil)) rfl)), ?_⟩
    exact ⟨_, rfl, v, B, rfl, hd, fun v' H' hd' sm => ⟨_, rfl, p, C, dx, [], rfl, sm _ _ hp, cl, nF, (by show 0 < 1000; decide), init1_end hp hd' sm k⟩⟩
theorem sc_Profile_e : FnScope ["self", "other"] ["self", "other"] (defScope (inClass (top 13) 1)) := ⟨rfl, rfl, rfl, by decide +kernel, rfl, by decide +kernel, by decide +kernel⟩
theorem ok_Profile_e {C : Addr} (F : FnM K "Profile" "__eq__" 13 1 f fd) (T : Txt mg) (gC : mg "Profile" = some (.ref C)) (cl : Cls K C) (nF : NoAttr K C "rows") : FnOk P w K mg base CX0 1 f fd ["self", "other"] (spEq K C ["rows"]) := by
  refine F.ok sc_Profile_e (fun vs H Q E h => ?_) (fun cdv A outer s H vs Q E hr h => ?_)
  · obtain ⟨a, dx, xs, ds, y, tb, b, rfl, _⟩ := h
    rfl
  · obtain ⟨a, dx, xs, ds, y, tb, b, rfl, ha, hd, hl, ty, kit, sh, k0, k1⟩ := h
    obtain ⟨v, d, rfl, rfl, hv⟩ := one_of hd hl
    refine ⟨_, PSs.nox (pss_one (ps_ret (pe_and (pe_callB call_isi (by rfl) T.isinstance (by decide +kernel) (pa_cons (pv 1) (pa_cons (pe_glob (v := .ref C) rfl gC rfl) pa_nil))) (pe_one (pe_cmpR (op_eqD hr.units) (pe_fld (pv 0) rfl) (pe_fld (pv 1) rfl) (nomark _)))))), ?_⟩
    refine ⟨_, rfl, y, .ref C, tb, .ref C, b, rfl, .own C, ty, kit, b, rfl, ite2 (fun e => ?_) (fun e => k0 (by simpa using e) _ (Same.refl _))⟩
    obtain ⟨c, dy, ys, es, rfl, hc, he, hl2, sh2, k2⟩ := k1 e
    obtain ⟨v2, d2, rfl, rfl, hv2⟩ := one_of he hl2
    exact ⟨_, rfl, a, C, dx, _, v, rfl, ha, cl, nF, rfl, _, rfl, c, C, dy, _, v2, rfl, hc, cl, nF, rfl, d, d2, hv, hv2, sh.1 _ List.mem_cons_self, sh2.1 _ List.mem_cons_self, k2 _ (Same.refl _)⟩

theorem sc_Meet_i : FnScope ["self", "ratio"] ["self", "ratio"] (defScope (inClass (top 14) 0)) := ⟨rfl, rfl, rfl, by decide +kernel, rfl, by decide +kernel, by decide +kernel⟩
theorem ok_Meet_i {C fC : Addr} {fdC : FuncData} (F : FnM K "Meet" "__init__" 14 0 f fd) (FC : FnG K "copied" 1 fC fdC) (T : Txt mg) (gC : mg "copied" = some (.ref fC)) (cl : Cls K C) (nF : NoAttr K C "ratio") : FnOk P w K mg base CX0 2 f fd ["self", "ratio"] (spInit1 K C "ratio") := by
  have G_copied : FnOk P w K mg base CX0 1 fC fdC ["value"] (spCopied K) := ok_copied FC T
  have b_copied : Binds K fdC ["value"] [] := FC.bindsN fun _ _ _ _ _ _ us hl => match us, hl with | [_], _ => rfl
  refine F.ok sc_Meet_i (fun vs H Q E h => ?_) (fun cdv A outer s H vs Q E hr h => ?_)
  · obtain ⟨p, v, dx, B, rfl, _⟩ := h
    rfl
  · obtain ⟨p, v, dx, B, rfl, hp, hd, k⟩ := h
    refine ⟨_, PSs.nox (pss_one (ps_fld (pv 0) (pe_call G_copied hr rfl gC FC.kp b_copied .nil pass0 (pa_cons (pv 1) pa_nil)) rfl)), ?_⟩
    exact ⟨_, rfl, v, B, rfl, hd, fun v' H' hd' sm => ⟨_, rfl, p, C, dx, [], rfl, sm _ _ hp, cl, nF, (by show 0 < 1000; decide), init1_end hp hd' sm k⟩⟩
theorem sc_Meet_e : FnScope ["self", "other"] ["self", "other"] (defScope (inClass (top 14) 1)) := ⟨rfl, rfl, rfl, by decide +kernel, rfl, by decide +kernel, by decide +kernel⟩
theorem ok_Meet_e {C : Addr} (F : FnM K "Meet" "__eq__" 14 1 f fd) (T : Txt mg) (gC : mg "Meet" = some (.ref C)) (cl : Cls K C) (nF : NoAttr K C "ratio") : FnOk P w K mg base CX0 1 f fd ["self", "other"] (spEq K C ["ratio"]) := by
  refine F.ok sc_Meet_e (fun vs H Q E h => ?_) (fun cdv A outer s H vs Q E hr h => ?_)
  · obtain ⟨a, dx, xs, ds, y, tb, b, rfl, _⟩ := h
    rfl
  · obtain ⟨a, dx, xs, ds, y, tb, b, rfl, ha, hd, hl, ty, kit, sh, k0, k1⟩ := h
    obtain ⟨v, d, rfl, rfl, hv⟩ := one_of hd hl
    refine ⟨_, PSs.nox (pss_one (ps_ret (pe_and (pe_callB call_isi (by rfl) T.isinstance (by decide +kernel) (pa_cons (pv 1) (pa_cons (pe_glob (v := .ref C) rfl gC rfl) pa_nil))) (pe_one (pe_cmpR (op_eqD hr.units) (pe_fld (pv 0) rfl) (pe_fld (pv 1) rfl) (nomark _)))))), ?_⟩
    refine ⟨_, rfl, y, .ref C, tb, .ref C, b, rfl, .own C, ty, kit, b, rfl, ite2 (fun e => ?_) (fun e => k0 (by simpa using e) _ (Same.refl _))⟩
    obtain ⟨c, dy, ys, es, rfl, hc, he, hl2, sh2, k2⟩ := k1 e
    obtain ⟨v2, d2, rfl, rfl, hv2⟩ := one_of he hl2
    exact ⟨_, rfl, a, C, dx, _, v, rfl, ha, cl, nF, rfl, _, rfl, c, C, dy, _, v2, rfl, hc, cl, nF, rfl, d, d2, hv, hv2, sh.1 _ List.mem_cons_self, sh2.1 _ List.mem_cons_self, k2 _ (Same.refl _)⟩

theorem sc_Spot_i : FnScope ["self", "word"] ["self", "word"] (defScope (inClass (top 15) 0)) := ⟨rfl, rfl, rfl, by decide +kernel, rfl, by decide +kernel, by decide +kernel⟩
theorem ok_Spot_i {C fC : Addr} {fdC : FuncData} (F : FnM K "Spot" "__init__" 15 0 f fd) (FC : FnG K "copied" 1 fC fdC) (T : Txt mg) (gC : mg "copied" = some (.ref fC)) (cl : Cls K C) (nF : NoAttr K C "word") : FnOk P w K mg base CX0 2 f fd ["self", "word"] (spInit1 K C "word") := by
  have G_copied : FnOk P w K mg base CX0 1 fC fdC ["value"] (spCopied K) := ok_copied FC T
  have b_copied : Binds K fdC ["value"] [] := FC.bindsN fun _ _ _ _ _ _ us hl => match us, hl with | [_], _ => rfl
  refine F.ok sc_Spot_i (fun vs H Q E h => ?_) (fun cdv A outer s H vs Q E hr h => ?_)
  · obtain ⟨p, v, dx, B, rfl, _⟩ := h
    rfl
  · obtain ⟨p, v, dx, B, rfl, hp, hd, k⟩ := h
    refine ⟨_, PSs.nox (pss_one (ps_fld (pv 0) (pe_call G_copied hr rfl gC FC.kp b_copied .nil pass0 (pa_cons (pv 1) pa_nil)) rfl)), ?_⟩
    exact ⟨_, rfl, v, B, rfl, hd, fun v' H' hd' sm => ⟨_, rfl, p, C, dx, [], rfl, sm _ _ hp, cl, nF, (by show 0 < 1000; decide), init1_end hp hd' sm k⟩⟩
theorem sc_Spot_e : FnScope ["self", "other"] ["self", "other"] (defScope (inClass (top 15) 1)) := ⟨rfl, rfl, rfl, by decide +kernel, rfl, by decide +kernel, by decide +kernel⟩
theorem ok_Spot_e {C : Addr} (F : FnM K "Spot" "__eq__" 15 1 f fd) (T : Txt mg) (gC : mg "Spot" = some (.ref C)) (cl : Cls K C) (nF : NoAttr K C "word") : FnOk P w K mg base CX0 1 f fd ["self", "other"] (spEq K C ["word"]) := by
  refine F.ok sc_Spot_e (fun vs H Q E h => ?_) (fun cdv A outer s H vs Q E hr h => ?_)
  · obtain ⟨a, dx, xs, ds, y, tb, b, rfl, _⟩ := h
    rfl
  · obtain ⟨a, dx, xs, ds, y, tb, b, rfl, ha, hd, hl, ty, kit, sh, k0, k1⟩ := h
    obtain ⟨v, d, rfl, rfl, hv⟩ := one_of hd hl
    refine ⟨_, PSs.nox (pss_one (ps_ret (pe_and (pe_callB call_isi (by rfl) T.isinstance (by decide +kernel) (pa_cons (pv 1) (pa_cons (pe_glob (v := .ref C) rfl gC rfl) pa_nil))) (pe_one (pe_cmpR (op_eqD hr.units) (pe_fld (pv 0) rfl) (pe_fld (pv 1) rfl) (nomark _)))))), ?_⟩
    refine ⟨_, rfl, y, .ref C, tb, .ref C, b, rfl, .own C, ty, kit, b, rfl, ite2 (fun e => ?_) (fun e => k0 (by simpa using e) _ (Same.refl _))⟩
    obtain ⟨c, dy, ys, es, rfl, hc, he, hl2, sh2, k2⟩ := k1 e
    obtain ⟨v2, d2, rfl, rfl, hv2⟩ := one_of he hl2
    exact ⟨_, rfl, a, C, dx, _, v, rfl, ha, cl, nF, rfl, _, rfl, c, C, dy, _, v2, rfl, hc, cl, nF, rfl, d, d2, hv, hv2, sh.1 _ List.mem_cons_self, sh2.1 _ List.mem_cons_self, k2 _ (Same.refl _)⟩

theorem sc_Ears_i : FnScope ["self", "rows"] ["self", "rows"] (defScope (inClass (top 16) 0)) := ⟨rfl, rfl, rfl, by decide +kernel, rfl, by decide +kernel, by decide +kernel⟩
theorem ok_Ears_i {C fC : Addr} {fdC : FuncData} (F : FnM K "Ears" "__init__" 16 0 f fd) (FC : FnG K "copied" 1 fC fdC) (T : Txt mg) (gC : mg "copied" = some (.ref fC)) (cl : Cls K C) (nF : NoAttr K C "rows") : FnOk P w K mg base CX0 2 f fd ["self", "rows"] (spInit1 K C "rows") := by
  have G_copied : FnOk P w K mg base CX0 1 fC fdC ["value"] (spCopied K) := ok_copied FC T
  have b_copied : Binds K fdC ["value"] [] := FC.bindsN fun _ _ _ _ _ _ us hl => match us, hl with | [_], _ => rfl
  refine F.ok sc_Ears_i (fun vs H Q E h => ?_) (fun cdv A outer s H vs Q E hr h => ?_)
  · obtain ⟨p, v, dx, B, rfl, _⟩ := h
    rfl
  · obtain ⟨p, v, dx, B, rfl, hp, hd, k⟩ := h
    refine ⟨_, PSs.nox (pss_one (ps_fld (pv 0) (pe_call G_copied hr rfl gC FC.kp b_copied .nil pass0 (pa_cons (pv 1) pa_nil)) rfl)), ?_⟩
    exact ⟨_, rfl, v, B, rfl, hd, fun v' H' hd' sm => ⟨_, rfl, p, C, dx, [], rfl, sm _ _ hp, cl, nF, (by show 0 < 1000; decide), init1_end hp hd' sm k⟩⟩
theorem sc_Ears_e : FnScope ["self", "other"] ["self", "other"] (defScope (inClass (top 16) 1)) := ⟨rfl, rfl, rfl, by decide +kernel, rfl, by decide +kernel, by decide +kernel⟩
theorem ok_Ears_e {C : Addr} (F : FnM K "Ears" "__eq__" 16 1 f fd) (T : Txt mg) (gC : mg "Ears" = some (.ref C)) (cl : Cls K C) (nF : NoAttr K C "rows") : FnOk P w K mg base CX0 1 f fd ["self", "other"] (spEq K C ["rows"]) := by
  refine F.ok sc_Ears_e (fun vs H Q E h => ?_) (fun cdv A outer s H vs Q E hr h => ?_)
  · obtain ⟨a, dx, xs, ds, y, tb, b, rfl, _⟩ := h
    rfl
  · obtain ⟨a, dx, xs, ds, y, tb, b, rfl, ha, hd, hl, ty, kit, sh, k0, k1⟩ := h
    obtain ⟨v, d, rfl, rfl, hv⟩ := one_of hd hl
    refine ⟨_, PSs.nox (pss_one (ps_ret (pe_and (pe_callB call_isi (by rfl) T.isinstance (by decide +kernel) (pa_cons (pv 1) (pa_cons (pe_glob (v := .ref C) rfl gC rfl) pa_nil))) (pe_one (pe_cmpR (op_eqD hr.units) (pe_fld (pv 0) rfl) (pe_fld (pv 1) rfl) (nomark _)))))), ?_⟩
    refine ⟨_, rfl, y, .ref C, tb, .ref C, b, rfl, .own C, ty, kit, b, rfl, ite2 (fun e => ?_) (fun e => k0 (by simpa using e) _ (Same.refl _))⟩
    obtain ⟨c, dy, ys, es, rfl, hc, he, hl2, sh2, k2⟩ := k1 e
    obtain ⟨v2, d2, rfl, rfl, hv2⟩ := one_of he hl2
    exact ⟨_, rfl, a, C, dx, _, v, rfl, ha, cl, nF, rfl, _, rfl, c, C, dy, _, v2, rfl, hc, cl, nF, rfl, d, d2, hv, hv2, sh.1 _ List.mem_cons_self, sh2.1 _ List.mem_cons_self, k2 _ (Same.refl _)⟩

theorem sc_Paper_i : FnScope ["self", "asked"] ["self", "asked"] (defScope (inClass (top 21) 0)) := ⟨rfl, rfl, rfl, by decide +kernel, rfl, by decide +kernel, by decide +kernel⟩
theorem ok_Paper_i {C fC : Addr} {fdC : FuncData} (F : FnM K "Paper" "__init__" 21 0 f fd) (FC : FnG K "copied" 1 fC fdC) (T : Txt mg) (gC : mg "copied" = some (.ref fC)) (cl : Cls K C) (nF : NoAttr K C "asked") : FnOk P w K mg base CX0 2 f fd ["self", "asked"] (spInit1 K C "asked") := by
  have G_copied : FnOk P w K mg base CX0 1 fC fdC ["value"] (spCopied K) := ok_copied FC T
  have b_copied : Binds K fdC ["value"] [] := FC.bindsN fun _ _ _ _ _ _ us hl => match us, hl with | [_], _ => rfl
  refine F.ok sc_Paper_i (fun vs H Q E h => ?_) (fun cdv A outer s H vs Q E hr h => ?_)
  · obtain ⟨p, v, dx, B, rfl, _⟩ := h
    rfl
  · obtain ⟨p, v, dx, B, rfl, hp, hd, k⟩ := h
    refine ⟨_, PSs.nox (pss_one (ps_fld (pv 0) (pe_call G_copied hr rfl gC FC.kp b_copied .nil pass0 (pa_cons (pv 1) pa_nil)) rfl)), ?_⟩
    exact ⟨_, rfl, v, B, rfl, hd, fun v' H' hd' sm => ⟨_, rfl, p, C, dx, [], rfl, sm _ _ hp, cl, nF, (by show 0 < 1000; decide), init1_end hp hd' sm k⟩⟩
theorem sc_Paper_e : FnScope ["self", "other"] ["self", "other"] (defScope (inClass (top 21) 1)) := ⟨rfl, rfl, rfl, by decide +kernel, rfl, by decide +kernel, by decide +kernel⟩
theorem ok_Paper_e {C : Addr} (F : FnM K "Paper" "__eq__" 21 1 f fd) (T : Txt mg) (gC : mg "Paper" = some (.ref C)) (cl : Cls K C) (nF : NoAttr K C "asked") : FnOk P w K mg base CX0 1 f fd ["self", "other"] (spEq K C ["asked"]) := by
  refine F.ok sc_Paper_e (fun vs H Q E h => ?_) (fun cdv A outer s H vs Q E hr h => ?_)
  · obtain ⟨a, dx, xs, ds, y, tb, b, rfl, _⟩ := h
    rfl
  · obtain ⟨a, dx, xs, ds, y, tb, b, rfl, ha, hd, hl, ty, kit, sh, k0, k1⟩ := h
    obtain ⟨v, d, rfl, rfl, hv⟩ := one_of hd hl
    refine ⟨_, PSs.nox (pss_one (ps_ret (pe_and (pe_callB call_isi (by rfl) T.isinstance (by decide +kernel) (pa_cons (pv 1) (pa_cons (pe_glob (v := .ref C) rfl gC rfl) pa_nil))) (pe_one (pe_cmpR (op_eqD hr.units) (pe_fld (pv 0) rfl) (pe_fld (pv 1) rfl) (nomark _)))))), ?_⟩
    refine ⟨_, rfl, y, .ref C, tb, .ref C, b, rfl, .own C, ty, kit, b, rfl, ite2 (fun e => ?_) (fun e => k0 (by simpa using e) _ (Same.refl _))⟩
    obtain ⟨c, dy, ys, es, rfl, hc, he, hl2, sh2, k2⟩ := k1 e
    obtain ⟨v2, d2, rfl, rfl, hv2⟩ := one_of he hl2
    exact ⟨_, rfl, a, C, dx, _, v, rfl, ha, cl, nF, rfl, _, rfl, c, C, dy, _, v2, rfl, hc, cl, nF, rfl, d, d2, hv, hv2, sh.1 _ List.mem_cons_self, sh2.1 _ List.mem_cons_self, k2 _ (Same.refl _)⟩

theorem sc_Slides_e : FnScope ["self", "other"] ["self", "other"] (defScope (inClass (top 5) 0)) := ⟨rfl, rfl, rfl, by decide +kernel, rfl, by decide +kernel, by decide +kernel⟩
theorem ok_Slides_e {C : Addr} (F : FnM K "Slides" "__eq__" 5 0 f fd) (T : Txt mg) (gC : mg "Slides" = some (.ref C)) : FnOk P w K mg base CX0 1 f fd ["self", "other"] (spEq K C []) := by
  refine F.ok sc_Slides_e (fun vs H Q E h => ?_) (fun cdv A outer s H vs Q E hr h => ?_)
  · obtain ⟨a, dx, xs, ds, y, tb, b, rfl, _⟩ := h
    rfl
  · obtain ⟨a, dx, xs, ds, y, tb, b, rfl, ha, hd, hl, ty, kit, sh, k0, k1⟩ := h
    refine ⟨_, PSs.nox (pss_one (ps_ret (pe_callB call_isi (by rfl) T.isinstance (by decide +kernel) (pa_cons (pv 1) (pa_cons (pe_glob (v := .ref C) rfl gC rfl) pa_nil))))), ?_⟩
    refine ⟨_, rfl, y, .ref C, tb, .ref C, b, rfl, .own C, ty, kit, ?_⟩
    exact nul_end hd hl k0 k1

theorem sc_Turns_e : FnScope ["self", "other"] ["self", "other"] (defScope (inClass (top 6) 0)) := ⟨rfl, rfl, rfl, by decide +kernel, rfl, by decide +kernel, by decide +kernel⟩
theorem ok_Turns_e {C : Addr} (F : FnM K "Turns" "__eq__" 6 0 f fd) (T : Txt mg) (gC : mg "Turns" = some (.ref C)) : FnOk P w K mg base CX0 1 f fd ["self", "other"] (spEq K C []) := by
  refine F.ok sc_Turns_e (fun vs H Q E h => ?_) (fun cdv A outer s H vs Q E hr h => ?_)
  · obtain ⟨a, dx, xs, ds, y, tb, b, rfl, _⟩ := h
    rfl
  · obtain ⟨a, dx, xs, ds, y, tb, b, rfl, ha, hd, hl, ty, kit, sh, k0, k1⟩ := h
    refine ⟨_, PSs.nox (pss_one (ps_ret (pe_callB call_isi (by rfl) T.isinstance (by decide +kernel) (pa_cons (pv 1) (pa_cons (pe_glob (v := .ref C) rfl gC rfl) pa_nil))))), ?_⟩
    refine ⟨_, rfl, y, .ref C, tb, .ref C, b, rfl, .own C, ty, kit, ?_⟩
    exact nul_end hd hl k0 k1

theorem sc_Steps_e : FnScope ["self", "other"] ["self", "other"] (defScope (inClass (top 7) 0)) := ⟨rfl, rfl, rfl, by decide +kernel, rfl, by decide +kernel, by decide +kernel⟩
theorem ok_Steps_e {C : Addr} (F : FnM K "Steps" "__eq__" 7 0 f fd) (T : Txt mg) (gC : mg "Steps" = some (.ref C)) : FnOk P w K mg base CX0 1 f fd ["self", "other"] (spEq K C []) := by
  refine F.ok sc_Steps_e (fun vs H Q E h => ?_) (fun cdv A outer s H vs Q E hr h => ?_)
  · obtain ⟨a, dx, xs, ds, y, tb, b, rfl, _⟩ := h
    rfl
  · obtain ⟨a, dx, xs, ds, y, tb, b, rfl, ha, hd, hl, ty, kit, sh, k0, k1⟩ := h
    refine ⟨_, PSs.nox (pss_one (ps_ret (pe_callB call_isi (by rfl) T.isinstance (by decide +kernel) (pa_cons (pv 1) (pa_cons (pe_glob (v := .ref C) rfl gC rfl) pa_nil))))), ?_⟩
    refine ⟨_, rfl, y, .ref C, tb, .ref C, b, rfl, .own C, ty, kit, ?_⟩
    exact nul_end hd hl k0 k1

theorem sc_Levels_e : FnScope ["self", "other"] ["self", "other"] (defScope (inClass (top 8) 0)) := ⟨rfl, rfl, rfl, by decide +kernel, rfl, by decide +kernel, by decide +kernel⟩
theorem ok_Levels_e {C : Addr} (F : FnM K "Levels" "__eq__" 8 0 f fd) (T : Txt mg) (gC : mg "Levels" = some (.ref C)) : FnOk P w K mg base CX0 1 f fd ["self", "other"] (spEq K C []) := by
  refine F.ok sc_Levels_e (fun vs H Q E h => ?_) (fun cdv A outer s H vs Q E hr h => ?_)
  · obtain ⟨a, dx, xs, ds, y, tb, b, rfl, _⟩ := h
    rfl
  · obtain ⟨a, dx, xs, ds, y, tb, b, rfl, ha, hd, hl, ty, kit, sh, k0, k1⟩ := h
    refine ⟨_, PSs.nox (pss_one (ps_ret (pe_callB call_isi (by rfl) T.isinstance (by decide +kernel) (pa_cons (pv 1) (pa_cons (pe_glob (v := .ref C) rfl gC rfl) pa_nil))))), ?_⟩
    refine ⟨_, rfl, y, .ref C, tb, .ref C, b, rfl, .own C, ty, kit, ?_⟩
    exact nul_end hd hl k0 k1

theorem sc_Uneven_e : FnScope ["self", "other"] ["self", "other"] (defScope (inClass (top 10) 0)) := ⟨rfl, rfl, rfl, by decide +kernel, rfl, by decide +kernel, by decide +kernel⟩
theorem ok_Uneven_e {C : Addr} (F : FnM K "Uneven" "__eq__" 10 0 f fd) (T : Txt mg) (gC : mg "Uneven" = some (.ref C)) : FnOk P w K mg base CX0 1 f fd ["self", "other"] (spEq K C []) := by
  refine F.ok sc_Uneven_e (fun vs H Q E h => ?_) (fun cdv A outer s H vs Q E hr h => ?_)
  · obtain ⟨a, dx, xs, ds, y, tb, b, rfl, _⟩ := h
    rfl
  · obtain ⟨a, dx, xs, ds, y, tb, b, rfl, ha, hd, hl, ty, kit, sh, k0, k1⟩ := h
    refine ⟨_, PSs.nox (pss_one (ps_ret (pe_callB call_isi (by rfl) T.isinstance (by decide +kernel) (pa_cons (pv 1) (pa_cons (pe_glob (v := .ref C) rfl gC rfl) pa_nil))))), ?_⟩
    refine ⟨_, rfl, y, .ref C, tb, .ref C, b, rfl, .own C, ty, kit, ?_⟩
    exact nul_end hd hl k0 k1

theorem sc_Area_n : FnScope ["self", "other"] ["self", "other"] (defScope (inClass (top 3) 2)) := ⟨rfl, rfl, rfl, by decide +kernel, rfl, by decide +kernel, by decide +kernel⟩
theorem ok_Area_n {C fE : Addr} {fdE : FuncData} (F : FnM K "Area" "__ne__" 3 2 f fd) (GE : FnOk P w K mg base CX0 1 fE fdE ["self", "other"] (spEq K C ["ratio"])) (bE : Binds K fdE ["self", "other"] []) (mE : Meth K C "__eq__" fE) : FnOk P w K mg base CX0 2 f fd ["self", "other"] (spNe K C ["ratio"]) := by
  refine F.ok sc_Area_n (fun vs H Q E h => ?_) (fun cdv A outer s H vs Q E hr h => ?_)
  · obtain ⟨a, dx, fs, y, tb, rfl, _⟩ := h
    rfl
  · obtain ⟨a, dx, fs, y, tb, rfl, ha, ty, hn, k⟩ := h
    refine ⟨_, PSs.nox (pss_one (ps_ret (pe_not (pe_cmpR (op_own_eq GE hr (Nat.lt_of_le_of_lt (Nat.le_add_right _ _) hr.units) mE.at_ mE.fn bE pass0) (pv 0) (pv 1) (nomark _))))), ?_⟩
    exact ⟨_, rfl, _, rfl, a, dx, fs, tb, rfl, ha, ty, hn, spEq_mono k fun v H' q => by
      obtain ⟨b, rfl, q⟩ := q
      exact ⟨b, rfl, b, rfl, q⟩⟩

theorem sc_Sides_n : FnScope ["self", "other"] ["self", "other"] (defScope (inClass (top 4) 2)) := ⟨rfl, rfl, rfl, by decide +kernel, rfl, by decide +kernel, by decide +kernel⟩
theorem ok_Sides_n {C fE : Addr} {fdE : FuncData} (F : FnM K "Sides" "__ne__" 4 2 f fd) (GE : FnOk P w K mg base CX0 1 fE fdE ["self", "other"] (spEq K C ["rows"])) (bE : Binds K fdE ["self", "other"] []) (mE : Meth K C "__eq__" fE) : FnOk P w K mg base CX0 2 f fd ["self", "other"] (spNe K C ["rows"]) := by
  refine F.ok sc_Sides_n (fun vs H Q E h => ?_) (fun cdv A outer s H vs Q E hr h => ?_)
  · obtain ⟨a, dx, fs, y, tb, rfl, _⟩ := h
    rfl
  · obtain ⟨a, dx, fs, y, tb, rfl, ha, ty, hn, k⟩ := h
    refine ⟨_, PSs.nox (pss_one (ps_ret (pe_not (pe_cmpR (op_own_eq GE hr (Nat.lt_of_le_of_lt (Nat.le_add_right _ _) hr.units) mE.at_ mE.fn bE pass0) (pv 0) (pv 1) (nomark _))))), ?_⟩
    exact ⟨_, rfl, _, rfl, a, dx, fs, tb, rfl, ha, ty, hn, spEq_mono k fun v H' q => by
      obtain ⟨b, rfl, q⟩ := q
      exact ⟨b, rfl, b, rfl, q⟩⟩

theorem sc_Apart_n : FnScope ["self", "other"] ["self", "other"] (defScope (inClass (top 9) 2)) := ⟨rfl, rfl, rfl, by decide +kernel, rfl, by decide +kernel, by decide +kernel⟩
theorem ok_Apart_n {C fE : Addr} {fdE : FuncData} (F : FnM K "Apart" "__ne__" 9 2 f fd) (GE : FnOk P w K mg base CX0 1 fE fdE ["self", "other"] (spEq K C ["direction"])) (bE : Binds K fdE ["self", "other"] []) (mE : Meth K C "__eq__" fE) : FnOk P w K mg base CX0 2 f fd ["self", "other"] (spNe K C ["direction"]) := by
  refine F.ok sc_Apart_n (fun vs H Q E h => ?_) (fun cdv A outer s H vs Q E hr h => ?_)
  · obtain ⟨a, dx, fs, y, tb, rfl, _⟩ := h
    rfl
  · obtain ⟨a, dx, fs, y, tb, rfl, ha, ty, hn, k⟩ := h
    refine ⟨_, PSs.nox (pss_one (ps_ret (pe_not (pe_cmpR (op_own_eq GE hr (Nat.lt_of_le_of_lt (Nat.le_add_right _ _) hr.units) mE.at_ mE.fn bE pass0) (pv 0) (pv 1) (nomark _))))), ?_⟩
    exact ⟨_, rfl, _, rfl, a, dx, fs, tb, rfl, ha, ty, hn, spEq_mono k fun v H' q => by
      obtain ⟨b, rfl, q⟩ := q
      exact ⟨b, rfl, b, rfl, q⟩⟩

theorem sc_Tilted_n : FnScope ["self", "other"] ["self", "other"] (defScope (inClass (top 11) 2)) := ⟨rfl, rfl, rfl, by decide +kernel, rfl, by decide +kernel, by decide +kernel⟩
theorem ok_Tilted_n {C fE : Addr} {fdE : FuncData} (F : FnM K "Tilted" "__ne__" 11 2 f fd) (GE : FnOk P w K mg base CX0 1 fE fdE ["self", "other"] (spEq K C ["height"])) (bE : Binds K fdE ["self", "other"] []) (mE : Meth K C "__eq__" fE) : FnOk P w K mg base CX0 2 f fd ["self", "other"] (spNe K C ["height"]) := by
  refine F.ok sc_Tilted_n (fun vs H Q E h => ?_) (fun cdv A outer s H vs Q E hr h => ?_)
  · obtain ⟨a, dx, fs, y, tb, rfl, _⟩ := h
    rfl
  · obtain ⟨a, dx, fs, y, tb, rfl, ha, ty, hn, k⟩ := h
    refine ⟨_, PSs.nox (pss_one (ps_ret (pe_not (pe_cmpR (op_own_eq GE hr (Nat.lt_of_le_of_lt (Nat.le_add_right _ _) hr.units) mE.at_ mE.fn bE pass0) (pv 0) (pv 1) (nomark _))))), ?_⟩
    exact ⟨_, rfl, _, rfl, a, dx, fs, tb, rfl, ha, ty, hn, spEq_mono k fun v H' q => by
      obtain ⟨b, rfl, q⟩ := q
      exact ⟨b, rfl, b, rfl, q⟩⟩

theorem sc_Covers_n : FnScope ["self", "other"] ["self", "other"] (defScope (inClass (top 12) 2)) := ⟨rfl, rfl, rfl, by decide +kernel, rfl, by decide +kernel, by decide +kernel⟩
theorem ok_Covers_n {C fE : Addr} {fdE : FuncData} (F : FnM K "Covers" "__ne__" 12 2 f fd) (GE : FnOk P w K mg base CX0 1 fE fdE ["self", "other"] (spEq K C ["rows"])) (bE : Binds K fdE ["self", "other"] []) (mE : Meth K C "__eq__" fE) : FnOk P w K mg base CX0 2 f fd ["self", "other"] (spNe K C ["rows"]) := by
  refine F.ok sc_Covers_n (fun vs H Q E h => ?_) (fun cdv A outer s H vs Q E hr h => ?_)
  · obtain ⟨a, dx, fs, y, tb, rfl, _⟩ := h
    rfl
  · obtain ⟨a, dx, fs, y, tb, rfl, ha, ty, hn, k⟩ := h
    refine ⟨_, PSs.nox (pss_one (ps_ret (pe_not (pe_cmpR (op_own_eq GE hr (Nat.lt_of_le_of_lt (Nat.le_add_right _ _) hr.units) mE.at_ mE.fn bE pass0) (pv 0) (pv 1) (nomark _))))), ?_⟩
    exact ⟨_, rfl, _, rfl, a, dx, fs, tb, rfl, ha, ty, hn, spEq_mono k fun v H' q => by
      obtain ⟨b, rfl, q⟩ := q
      exact ⟨b, rfl, b, rfl, q⟩⟩

theorem sc_Profile_n : FnScope ["self", "other"] ["self", "other"] (defScope (inClass (top 13) 2)) := ⟨rfl, rfl, rfl, by decide +kernel, rfl, by decide +kernel, by decide +kernel⟩
theorem ok_Profile_n {C fE : Addr} {fdE : FuncData} (F : FnM K "Profile" "__ne__" 13 2 f fd) (GE : FnOk P w K mg base CX0 1 fE fdE ["self", "other"] (spEq K C ["rows"])) (bE : Binds K fdE ["self", "other"] []) (mE : Meth K C "__eq__" fE) : FnOk P w K mg base CX0 2 f fd ["self", "other"] (spNe K C ["rows"]) := by
  refine F.ok sc_Profile_n (fun vs H Q E h => ?_) (fun cdv A outer s H vs Q E hr h => ?_)
  · obtain ⟨a, dx, fs, y, tb, rfl, _⟩ := h
    rfl
  · obtain ⟨a, dx, fs, y, tb, rfl, ha, ty, hn, k⟩ := h
    refine ⟨_, PSs.nox (pss_one (ps_ret (pe_not (pe_cmpR (op_own_eq GE hr (Nat.lt_of_le_of_lt (Nat.le_add_right _ _) hr.units) mE.at_ mE.fn bE pass0) (pv 0) (pv 1) (nomark _))))), ?_⟩
    exact ⟨_, rfl, _, rfl, a, dx, fs, tb, rfl, ha, ty, hn, spEq_mono k fun v H' q => by
      obtain ⟨b, rfl, q⟩ := q
      exact ⟨b, rfl, b, rfl, q⟩⟩

theorem sc_Meet_n : FnScope ["self", "other"] ["self", "other"] (defScope (inClass (top 14) 2)) := ⟨rfl, rfl, rfl, by decide +kernel, rfl, by decide +kernel, by decide +kernel⟩
theorem ok_Meet_n {C fE : Addr} {fdE : FuncData} (F : FnM K "Meet" "__ne__" 14 2 f fd) (GE : FnOk P w K mg base CX0 1 fE fdE ["self", "other"] (spEq K C ["ratio"])) (bE : Binds K fdE ["self", "other"] []) (mE : Meth K C "__eq__" fE) : FnOk P w K mg base CX0 2 f fd ["self", "other"] (spNe K C ["ratio"]) := by
  refine F.ok sc_Meet_n (fun vs H Q E h => ?_) (fun cdv A outer s H vs Q E hr h => ?_)
  · obtain ⟨a, dx, fs, y, tb, rfl, _⟩ := h
    rfl
  · obtain ⟨a, dx, fs, y, tb, rfl, ha, ty, hn, k⟩ := h
    refine ⟨_, PSs.nox (pss_one (ps_ret (pe_not (pe_cmpR (op_own_eq GE hr (Nat.lt_of_le_of_lt (Nat.le_add_right _ _) hr.units) mE.at_ mE.fn bE pass0) (pv 0) (pv 1) (nomark _))))), ?_⟩
    exact ⟨_, rfl, _, rfl, a, dx, fs, tb, rfl, ha, ty, hn, spEq_mono k fun v H' q => by
      obtain ⟨b, rfl, q⟩ := q
      exact ⟨b, rfl, b, rfl, q⟩⟩

theorem sc_Spot_n : FnScope ["self", "other"] ["self", "other"] (defScope (inClass (top 15) 2)) := ⟨rfl, rfl, rfl, by decide +kernel, rfl, by decide +kernel, by decide +kernel⟩
theorem ok_Spot_n {C fE : Addr} {fdE : FuncData} (F : FnM K "Spot" "__ne__" 15 2 f fd) (GE : FnOk P w K mg base CX0 1 fE fdE ["self", "other"] (spEq K C ["word"])) (bE : Binds K fdE ["self", "other"] []) (mE : Meth K C "__eq__" fE) : FnOk P w K mg base CX0 2 f fd ["self", "other"] (spNe K C ["word"]) := by
  refine F.ok sc_Spot_n (fun vs H Q E h => ?_) (fun cdv A outer s H vs Q E hr h => ?_)
  · obtain ⟨a, dx, fs, y, tb, rfl, _⟩ := h
    rfl
  · obtain ⟨a, dx, fs, y, tb, rfl, ha, ty, hn, k⟩ := h
    refine ⟨_, PSs.nox (pss_one (ps_ret (pe_not (pe_cmpR (op_own_eq GE hr (Nat.lt_of_le_of_lt (Nat.le_add_right _ _) hr.units) mE.at_ mE.fn bE pass0) (pv 0) (pv 1) (nomark _))))), ?_⟩
    exact ⟨_, rfl, _, rfl, a, dx, fs, tb, rfl, ha, ty, hn, spEq_mono k fun v H' q => by
      obtain ⟨b, rfl, q⟩ := q
      exact ⟨b, rfl, b, rfl, q⟩⟩

theorem sc_Ears_n : FnScope ["self", "other"] ["self", "other"] (defScope (inClass (top 16) 2)) := ⟨rfl, rfl, rfl, by decide +kernel, rfl, by decide +kernel, by decide +kernel⟩
theorem ok_Ears_n {C fE : Addr} {fdE : FuncData} (F : FnM K "Ears" "__ne__" 16 2 f fd) (GE : FnOk P w K mg base CX0 1 fE fdE ["self", "other"] (spEq K C ["rows"])) (bE : Binds K fdE ["self", "other"] []) (mE : Meth K C "__eq__" fE) : FnOk P w K mg base CX0 2 f fd ["self", "other"] (spNe K C ["rows"]) := by
  refine F.ok sc_Ears_n (fun vs H Q E h => ?_) (fun cdv A outer s H vs Q E hr h => ?_)
  · obtain ⟨a, dx, fs, y, tb, rfl, _⟩ := h
    rfl
  · obtain ⟨a, dx, fs, y, tb, rfl, ha, ty, hn, k⟩ := h
    refine ⟨_, PSs.nox (pss_one (ps_ret (pe_not (pe_cmpR (op_own_eq GE hr (Nat.lt_of_le_of_lt (Nat.le_add_right _ _) hr.units) mE.at_ mE.fn bE pass0) (pv 0) (pv 1) (nomark _))))), ?_⟩
    exact ⟨_, rfl, _, rfl, a, dx, fs, tb, rfl, ha, ty, hn, spEq_mono k fun v H' q => by
      obtain ⟨b, rfl, q⟩ := q
      exact ⟨b, rfl, b, rfl, q⟩⟩

theorem sc_Paper_n : FnScope ["self", "other"] ["self", "other"] (defScope (inClass (top 21) 2)) := ⟨rfl, rfl, rfl, by decide +kernel, rfl, by decide +kernel, by decide +kernel⟩
theorem ok_Paper_n {C fE : Addr} {fdE : FuncData} (F : FnM K "Paper" "__ne__" 21 2 f fd) (GE : FnOk P w K mg base CX0 1 fE fdE ["self", "other"] (spEq K C ["asked"])) (bE : Binds K fdE ["self", "other"] []) (mE : Meth K C "__eq__" fE) : FnOk P w K mg base CX0 2 f fd ["self", "other"] (spNe K C ["asked"]) := by
  refine F.ok sc_Paper_n (fun vs H Q E h => ?_) (fun cdv A outer s H vs Q E hr h => ?_)
  · obtain ⟨a, dx, fs, y, tb, rfl, _⟩ := h
    rfl
  · obtain ⟨a, dx, fs, y, tb, rfl, ha, ty, hn, k⟩ := h
    refine ⟨_, PSs.nox (pss_one (ps_ret (pe_not (pe_cmpR (op_own_eq GE hr (Nat.lt_of_le_of_lt (Nat.le_add_right _ _) hr.units) mE.at_ mE.fn bE pass0) (pv 0) (pv 1) (nomark _))))), ?_⟩
    exact ⟨_, rfl, _, rfl, a, dx, fs, tb, rfl, ha, ty, hn, spEq_mono k fun v H' q => by
      obtain ⟨b, rfl, q⟩ := q
      exact ⟨b, rfl, b, rfl, q⟩⟩

theorem sc_Slides_n : FnScope ["self", "other"] ["self", "other"] (defScope (inClass (top 5) 1)) := ⟨rfl, rfl, rfl, by decide +kernel, rfl, by decide +kernel, by decide +kernel⟩
theorem ok_Slides_n {C fE : Addr} {fdE : FuncData} (F : FnM K "Slides" "__ne__" 5 1 f fd) (GE : FnOk P w K mg base CX0 1 fE fdE ["self", "other"] (spEq K C [])) (bE : Binds K fdE ["self", "other"] []) (mE : Meth K C "__eq__" fE) : FnOk P w K mg base CX0 2 f fd ["self", "other"] (spNe K C []) := by
  refine F.ok sc_Slides_n (fun vs H Q E h => ?_) (fun cdv A outer s H vs Q E hr h => ?_)
  · obtain ⟨a, dx, fs, y, tb, rfl, _⟩ := h
    rfl
  · obtain ⟨a, dx, fs, y, tb, rfl, ha, ty, hn, k⟩ := h
    refine ⟨_, PSs.nox (pss_one (ps_ret (pe_not (pe_cmpR (op_own_eq GE hr (Nat.lt_of_le_of_lt (Nat.le_add_right _ _) hr.units) mE.at_ mE.fn bE pass0) (pv 0) (pv 1) (nomark _))))), ?_⟩
    exact ⟨_, rfl, _, rfl, a, dx, fs, tb, rfl, ha, ty, hn, spEq_mono k fun v H' q => by
      obtain ⟨b, rfl, q⟩ := q
      exact ⟨b, rfl, b, rfl, q⟩⟩

theorem sc_Turns_n : FnScope ["self", "other"] ["self", "other"] (defScope (inClass (top 6) 1)) := ⟨rfl, rfl, rfl, by decide +kernel, rfl, by decide +kernel, by decide +kernel⟩
theorem ok_Turns_n {C fE : Addr} {fdE : FuncData} (F : FnM K "Turns" "__ne__" 6 1 f fd) (GE : FnOk P w K mg base CX0 1 fE fdE ["self", "other"] (spEq K C [])) (bE : Binds K fdE ["self", "other"] []) (mE : Meth K C "__eq__" fE) : FnOk P w K mg base CX0 2 f fd ["self", "other"] (spNe K C []) := by
  refine F.ok sc_Turns_n (fun vs H Q E h => ?_) (fun cdv A outer s H vs Q E hr h => ?_)
  · obtain ⟨a, dx, fs, y, tb, rfl, _⟩ := h
    rfl
  · obtain ⟨a, dx, fs, y, tb, rfl, ha, ty, hn, k⟩ := h
    refine ⟨_, PSs.nox (pss_one (ps_ret (pe_not (pe_cmpR (op_own_eq GE hr (Nat.lt_of_le_of_lt (Nat.le_add_right _ _) hr.units) mE.at_ mE.fn bE pass0) (pv 0) (pv 1) (nomark _))))), ?_⟩
    exact ⟨_, rfl, _, rfl, a, dx, fs, tb, rfl, ha, ty, hn, spEq_mono k fun v H' q => by
      obtain ⟨b, rfl, q⟩ := q
      exact ⟨b, rfl, b, rfl, q⟩⟩

theorem sc_Steps_n : FnScope ["self", "other"] ["self", "other"] (defScope (inClass (top 7) 1)) := ⟨rfl, rfl, rfl, by decide +kernel, rfl, by decide +kernel, by decide +kernel⟩
theorem ok_Steps_n {C fE : Addr} {fdE : FuncData} (F : FnM K "Steps" "__ne__" 7 1 f fd) (GE : FnOk P w K mg base CX0 1 fE fdE ["self", "other"] (spEq K C [])) (bE : Binds K fdE ["self", "other"] []) (mE : Meth K C "__eq__" fE) : FnOk P w K mg base CX0 2 f fd ["self", "other"] (spNe K C []) := by
  refine F.ok sc_Steps_n (fun vs H Q E h => ?_) (fun cdv A outer s H vs Q E hr h => ?_)
  · obtain ⟨a, dx, fs, y, tb, rfl, _⟩ := h
    rfl
  · obtain ⟨a, dx, fs, y, tb, rfl, ha, ty, hn, k⟩ := h
    refine ⟨_, PSs.nox (pss_one (ps_ret (pe_not (pe_cmpR (op_own_eq GE hr (Nat.lt_of_le_of_lt (Nat.le_add_right _ _) hr.units) mE.at_ mE.fn bE pass0) (pv 0) (pv 1) (nomark _))))), ?_⟩
    exact ⟨_, rfl, _, rfl, a, dx, fs, tb, rfl, ha, ty, hn, spEq_mono k fun v H' q => by
      obtain ⟨b, rfl, q⟩ := q
      exact ⟨b, rfl, b, rfl, q⟩⟩

theorem sc_Levels_n : FnScope ["self", "other"] ["self", "other"] (defScope (inClass (top 8) 1)) := ⟨rfl, rfl, rfl, by decide +kernel, rfl, by decide +kernel, by decide +kernel⟩
theorem ok_Levels_n {C fE : Addr} {fdE : FuncData} (F : FnM K "Levels" "__ne__" 8 1 f fd) (GE : FnOk P w K mg base CX0 1 fE fdE ["self", "other"] (spEq K C [])) (bE : Binds K fdE ["self", "other"] []) (mE : Meth K C "__eq__" fE) : FnOk P w K mg base CX0 2 f fd ["self", "other"] (spNe K C []) := by
  refine F.ok sc_Levels_n (fun vs H Q E h => ?_) (fun cdv A outer s H vs Q E hr h => ?_)
  · obtain ⟨a, dx, fs, y, tb, rfl, _⟩ := h
    rfl
  · obtain ⟨a, dx, fs, y, tb, rfl, ha, ty, hn, k⟩ := h
    refine ⟨_, PSs.nox (pss_one (ps_ret (pe_not (pe_cmpR (op_own_eq GE hr (Nat.lt_of_le_of_lt (Nat.le_add_right _ _) hr.units) mE.at_ mE.fn bE pass0) (pv 0) (pv 1) (nomark _))))), ?_⟩
    exact ⟨_, rfl, _, rfl, a, dx, fs, tb, rfl, ha, ty, hn, spEq_mono k fun v H' q => by
      obtain ⟨b, rfl, q⟩ := q
      exact ⟨b, rfl, b, rfl, q⟩⟩

theorem sc_Uneven_n : FnScope ["self", "other"] ["self", "other"] (defScope (inClass (top 10) 1)) := ⟨rfl, rfl, rfl, by decide +kernel, rfl, by decide +kernel, by decide +kernel⟩
theorem ok_Uneven_n {C fE : Addr} {fdE : FuncData} (F : FnM K "Uneven" "__ne__" 10 1 f fd) (GE : FnOk P w K mg base CX0 1 fE fdE ["self", "other"] (spEq K C [])) (bE : Binds K fdE ["self", "other"] []) (mE : Meth K C "__eq__" fE) : FnOk P w K mg base CX0 2 f fd ["self", "other"] (spNe K C []) := by
  refine F.ok sc_Uneven_n (fun vs H Q E h => ?_) (fun cdv A outer s H vs Q E hr h => ?_)
  · obtain ⟨a, dx, fs, y, tb, rfl, _⟩ := h
    rfl
  · obtain ⟨a, dx, fs, y, tb, rfl, ha, ty, hn, k⟩ := h
    refine ⟨_, PSs.nox (pss_one (ps_ret (pe_not (pe_cmpR (op_own_eq GE hr (Nat.lt_of_le_of_lt (Nat.le_add_right _ _) hr.units) mE.at_ mE.fn bE pass0) (pv 0) (pv 1) (nomark _))))), ?_⟩
    exact ⟨_, rfl, _, rfl, a, dx, fs, tb, rfl, ha, ty, hn, spEq_mono k fun v H' q => by
      obtain ⟨b, rfl, q⟩ := q
      exact ⟨b, rfl, b, rfl, q⟩⟩

theorem sc_Model_n : FnScope ["self", "other"] ["self", "other"] (defScope (inClass (top 18) 2)) := ⟨rfl, rfl, rfl, by decide +kernel, rfl, by decide +kernel, by decide +kernel⟩
theorem ok_Model_n {C fE : Addr} {fdE : FuncData} (F : FnM K "Model" "__ne__" 18 2 f fd) (GE : FnOk P w K mg base CX0 3 fE fdE ["self", "other"] (spEq K C ["shapes", "heaps", "asks"])) (bE : Binds K fdE ["self", "other"] []) (mE : Meth K C "__eq__" fE) : FnOk P w K mg base CX0 4 f fd ["self", "other"] (spNe K C ["shapes", "heaps", "asks"]) := by
  refine F.ok sc_Model_n (fun vs H Q E h => ?_) (fun cdv A outer s H vs Q E hr h => ?_)
  · obtain ⟨a, dx, fs, y, tb, rfl, _⟩ := h
    rfl
  · obtain ⟨a, dx, fs, y, tb, rfl, ha, ty, hn, k⟩ := h
    refine ⟨_, PSs.nox (pss_one (ps_ret (pe_not (pe_cmpR (op_own_eq GE hr (Nat.lt_of_le_of_lt (Nat.le_add_right _ _) hr.units) mE.at_ mE.fn bE pass0) (pv 0) (pv 1) (nomark _))))), ?_⟩
    exact ⟨_, rfl, _, rfl, a, dx, fs, tb, rfl, ha, ty, hn, spEq_mono k fun v H' q => by
      obtain ⟨b, rfl, q⟩ := q
      exact ⟨b, rfl, b, rfl, q⟩⟩

/-! ### Model -/
theorem scKey : FnScope ["model"] ["model"] (defScope (top 19)) := ⟨rfl, rfl, rfl, by decide +kernel, rfl, by decide +kernel, by decide +kernel⟩
abbrev mnm : List Str := ["shapes", "heaps", "asks"]
def spKey (C : Addr) : Sp := fun vs H Q _ => ∃ (a dx : Addr) (u v x : V), vs = [.ref a] ∧ H a = some (.ins C dx (mnm.zip [u, v, x])) ∧ ∀ p, H p = none → Q (.ref p) (upd H p (.tup [u, v, x]))
structure MF (K : PySem.W.Frag) (C : Addr) : Prop where
  cl : Cls K C
  n1 : NoAttr K C "shapes"
  n2 : NoAttr K C "heaps"
  n3 : NoAttr K C "asks"
theorem ok_key {C : Addr} (F : FnG K "model_key" 19 f fd) (M : MF K C) : FnOk P w K mg base CX0 1 f fd ["model"] (spKey C) := by
  refine F.ok scKey (fun vs H Q E h => ?_) (fun cdv A outer s H vs Q E hr h => ?_)
  · obtain ⟨a, dx, u, v, x, rfl, _⟩ := h
    rfl
  · obtain ⟨a, dx, u, v, x, rfl, ha, k⟩ := h
    refine ⟨_, PSs.nox (pss_one (ps_ret (pe_tup (pa_cons (pe_fld (pv 0) rfl) (pa_cons (pe_fld (pv 0) rfl) (pa_cons (pe_fld (pv 0) rfl) pa_nil)))))), ?_⟩
    exact ⟨_, rfl, a, C, dx, _, u, rfl, ha, M.cl, M.n1, by kernel_rfl, _, rfl, a, C, dx, _, v, rfl, ha, M.cl, M.n2, by kernel_rfl, _, rfl, a, C, dx, _, x, rfl, ha, M.cl, M.n3, by kernel_rfl, sz 3, fun p hp => k p hp⟩
theorem sc_Model_e : FnScope ["self", "other"] ["self", "other"] (defScope (inClass (top 18) 1)) := ⟨rfl, rfl, rfl, by decide +kernel, rfl, by decide +kernel, by decide +kernel⟩
theorem ok_Model_e {C fK : Addr} {fdK : FuncData} (F : FnM K "Model" "__eq__" 18 1 f fd) (FK : FnG K "model_key" 19 fK fdK) (T : Txt mg) (gC : mg "Model" = some (.ref C)) (gK : mg "model_key" = some (.ref fK)) (M : MF K C) : FnOk P w K mg base CX0 3 f fd ["self", "other"] (spEq K C mnm) := by
  have GK : FnOk P w K mg base CX0 1 fK fdK ["model"] (spKey C) := ok_key FK M
  have bK : Binds K fdK ["model"] [] := FK.bindsN fun _ _ _ _ _ _ us hl => match us, hl with | [_], _ => rfl
  refine F.ok (k := 2) sc_Model_e (fun vs H Q E h => ?_) (fun cdv A outer s H vs Q E hr h => ?_)
  · obtain ⟨a, dx, xs, ds, y, tb, b, rfl, _⟩ := h
    rfl
  · obtain ⟨a, dx, xs, ds, y, tb, b, rfl, ha, hd, hl, ty, kit, sh, k0, k1⟩ := h
    obtain ⟨u, v, x, d, e, j, rfl, rfl, hu, hv, hx⟩ := three_of hd hl
    have hr1 := hr.mono (j := 1) (by decide)
    refine ⟨_, PSs.nox (pss_one (ps_ret (pe_and (pe_callB call_isi (by rfl) T.isinstance (by decide +kernel) (pa_cons (pv 1) (pa_cons (pe_glob (v := .ref C) rfl gC rfl) pa_nil))) (pe_one (pe_cmpR (op_eqD hr.units) (pe_call GK hr1 rfl gK FK.kp bK .nil pass0 (pa_cons (pv 0) pa_nil)) (pe_call GK hr1 rfl gK FK.kp bK .nil pass0 (pa_cons (pv 1) pa_nil)) (nomark _)))))), ?_⟩
    refine ⟨_, rfl, y, .ref C, tb, .ref C, b, rfl, .own C, ty, kit, b, rfl, ite2 (fun e => ?_) (fun e => k0 (by simpa using e) _ (Same.refl _))⟩
    obtain ⟨c, dy, ys, es, rfl, hc, he, hl2, sh2, k2⟩ := k1 e
    obtain ⟨u2, v2, x2, d2, e2, j2, rfl, rfl, hu2, hv2, hx2⟩ := three_of he hl2
    refine ⟨_, rfl, a, dx, u, v, x, rfl, ha, fun p hp => ⟨_, rfl, c, dy, u2, v2, x2, rfl, same_upd hp _ _ hc, fun q hq => ?_⟩⟩
    have sp := (same_upd (o := .tup [u, v, x]) hp).trans (same_upd (o := .tup [u2, v2, x2]) hq)
    exact ⟨_, _, .tup (SqT.of (same_upd hq _ _ upd_same)) (dps_same sp (.cons hu (.cons hv (.cons hx .nil)))), .tup (SqT.of upd_same) (dps_same sp (.cons hu2 (.cons hv2 (.cons hx2 .nil)))), sh.2, sh2.2, k2 _ sp⟩
theorem sc_Model_i : FnScope ["self", "shapes", "heaps", "asks"] ["self", "shapes", "heaps", "asks"] (defScope (inClass (top 18) 0)) := ⟨rfl, rfl, rfl, by decide +kernel, rfl, by decide +kernel, by decide +kernel⟩
def spInit3 (K : PySem.W.Frag) (C : Addr) : Sp := fun vs H Q _ => ∃ (p : Addr) (u v x : V) (dx : Addr) (A B D : Arg), vs = [.ref p, u, v, x] ∧ H p = some (.ins C dx []) ∧ A.here K H u ∧ B.here K H v ∧ D.here K H x ∧
  ∀ (u' v' x' : V) (H' : Hp), A.cp H' u' → B.cp H' v' → D.cp H' x' → H' p = some (.ins C dx (mnm.zip [u', v', x'])) → SameBut p H H' → Q .non H'
theorem here_but {A : Arg} {H H' : Hp} {v : V} {p : Addr} (n : NoSeq H p) (k : SameBut p H H') : A.here K H v → A.here K H' v := by
  cases A with
  | flat u d => exact fun ⟨e, h, l⟩ => ⟨e, dp_but n k _ _ h, l⟩
  | list a xs ds => exact fun ⟨e, h⟩ => ⟨e, k _ _ h fun z => (n _ (z ▸ h)).1 xs rfl⟩
theorem here_same {A : Arg} {H H' : Hp} {v : V} (k : Same H H') : A.here K H v → A.here K H' v := by
  cases A with
  | flat u d => exact fun ⟨e, h, l⟩ => ⟨e, dp_same k h, l⟩
  | list a xs ds => exact fun ⟨e, h⟩ => ⟨e, k _ _ h⟩
theorem cp_same {A : Arg} {H H' : Hp} {v : V} (k : Same H H') (h : A.cp H v) : A.cp H' v := Arg.cp_ext (fun b xs e => k _ _ e) h
theorem ok_Model_i {C fC : Addr} {fdC : FuncData} (F : FnM K "Model" "__init__" 18 0 f fd) (FC : FnG K "copied" 1 fC fdC) (T : Txt mg) (gC : mg "copied" = some (.ref fC)) (M : MF K C) : FnOk P w K mg base CX0 2 f fd ["self", "shapes", "heaps", "asks"] (spInit3 K C) := by
  have G_copied : FnOk P w K mg base CX0 1 fC fdC ["value"] (spCopied K) := ok_copied FC T
  have b_copied : Binds K fdC ["value"] [] := FC.bindsN fun _ _ _ _ _ _ us hl => match us, hl with | [_], _ => rfl
  refine F.ok sc_Model_i (fun vs H Q E h => ?_) (fun cdv A outer s H vs Q E hr h => ?_)
  · obtain ⟨p, u, v, x, dx, d, e, j, rfl, _⟩ := h
    rfl
  · obtain ⟨p, u, v, x, dx, A1, A2, A3, rfl, hp, hu, hv, hx, k⟩ := h
    refine ⟨_, PSs.nox (pss_cons (ps_fld (pv 0) (pe_call G_copied hr rfl gC FC.kp b_copied .nil pass0 (pa_cons (pv 1) pa_nil)) rfl) (pss_cons (ps_fld (pv 0) (pe_call G_copied hr rfl gC FC.kp b_copied .nil pass0 (pa_cons (pv 2) pa_nil)) rfl) (pss_one (ps_fld (pv 0) (pe_call G_copied hr rfl gC FC.kp b_copied .nil pass0 (pa_cons (pv 3) pa_nil)) rfl)))), ?_⟩
    have step : ∀ {Ha : Hp} {fs gs : List (Str × V)}, Ha p = some (.ins C dx fs) → SameBut p Ha (upd Ha p (.ins C dx gs)) ∧ NoSeq Ha p := fun h => ⟨fun b o e n => by rw [upd_ne n]; exact e, noSeq_ins h⟩
    refine ⟨_, rfl, u, A1, rfl, hu, fun u' H1 hu1 s1 => ⟨_, rfl, p, C, dx, [], rfl, s1 _ _ hp, M.cl, M.n1, (by show 0 < 1000; decide), ?_⟩⟩
    have hp1 := s1 _ _ hp
    obtain ⟨b1, q1⟩ := step (gs := putF "shapes" u' []) hp1
    have hp2 : (upd H1 p (.ins C dx (putF "shapes" u' []))) p = some (.ins C dx (putF "shapes" u' [])) := upd_same
    have hu2 : A1.cp (upd H1 p (.ins C dx (putF "shapes" u' []))) u' := cp_ins hp1 hu1
    have hv2 := here_but q1 b1 (here_same s1 hv)
    have hx2 := here_but q1 b1 (here_same s1 hx)
    have t2 : SameBut p H (upd H1 p (.ins C dx (putF "shapes" u' []))) := (sameBut_of s1).trans b1
    generalize upd H1 p (.ins C dx (putF "shapes" u' [])) = H2 at hp2 hu2 hv2 hx2 t2 ⊢
    refine ⟨_, rfl, v, A2, rfl, hv2, fun v' H3 hv3 s3 => ⟨_, rfl, p, C, dx, _, rfl, s3 _ _ hp2, M.cl, M.n2, (by show 1 < 1000; decide), ?_⟩⟩
    have hp3 := s3 _ _ hp2
    obtain ⟨b3, q3⟩ := step (gs := putF "heaps" v' (putF "shapes" u' [])) hp3
    have hp4 : (upd H3 p (.ins C dx (putF "heaps" v' (putF "shapes" u' [])))) p = some (.ins C dx (putF "heaps" v' (putF "shapes" u' []))) := upd_same
    have hu4 : A1.cp (upd H3 p (.ins C dx (putF "heaps" v' (putF "shapes" u' [])))) u' := cp_ins hp3 (cp_same s3 hu2)
    have hv4 : A2.cp (upd H3 p (.ins C dx (putF "heaps" v' (putF "shapes" u' [])))) v' := cp_ins hp3 hv3
    have hx4 := here_but q3 b3 (here_same s3 hx2)
    have t4 : SameBut p H (upd H3 p (.ins C dx (putF "heaps" v' (putF "shapes" u' [])))) := (t2.trans (sameBut_of s3)).trans b3
    generalize upd H3 p (.ins C dx (putF "heaps" v' (putF "shapes" u' []))) = H4 at hp4 hu4 hv4 hx4 t4 ⊢
    refine ⟨_, rfl, x, A3, rfl, hx4, fun x' H5 hx5 s5 => ⟨_, rfl, p, C, dx, _, rfl, s5 _ _ hp4, M.cl, M.n3, (by show 2 < 1000; decide), ?_⟩⟩
    have hp5 := s5 _ _ hp4
    obtain ⟨b5, q5⟩ := step (gs := putF "asks" x' (putF "heaps" v' (putF "shapes" u' []))) hp5
    refine k u' v' x' _ (cp_ins hp5 (cp_same s5 hu4)) (cp_ins hp5 (cp_same s5 hv4)) (cp_ins hp5 hx5) ?_ ((t4.trans (sameBut_of s5)).trans b5)
    rw [upd_same]
    kernel_rfl
end
end K90

set_option maxHeartbeats 4000000
namespace K90
open PySem PySem.Spec PyProof.Rows L2

/-! ### lambdas that capture nothing: made, called -/
structure LamD where
  params : Arguments
  body : Expr
  scope : Scope
  pars : List Str
def lamOf (ps : List Str) : Expr → LamD
  | .Lambda a b sc _ => ⟨a, b, sc, ps⟩
  | _ => ⟨defArgs (top 1), .Constant .none 0 ⟨0, 0, 0, 0⟩, defScope (top 1), ps⟩
/-- a lambda of the name q at f, its code object at c -/
def LamO (f c : Addr) (q : Str) (d : LamD) : HO := .ext fun h => ∃ pm ctv, h.get? f = some (PySem.W.kla_obj "<lambda>" q d.params d.body d.scope [] pm c ctv)
def LamAt (H : Hp) (f : Addr) (q : Str) (d : LamD) : Prop := ∃ c, H f = some (LamO f c q d) ∧ H c = some (LamX.CodeO c q)
theorem LamO.ne_tbl {f c : Addr} {q : Str} {d : LamD} (ps : Array Value) : LamO f c q d ≠ .tbl ps := fun z => by
  unfold LamO at z
  cases z
theorem lamAt_ext {H H' : Hp} {f : Addr} {q : Str} {d : LamD} (e : LamX.ExtN H H') (h : LamAt H f q d) : LamAt H' f q d := by
  obtain ⟨c, h1, h2⟩ := h
  exact ⟨c, e _ _ h1 LamO.ne_tbl, e _ _ h2 LamX.codeO_ne⟩
section
variable {X : Cx} {pins : List (Addr × Obj)} {σ : L2.St} {H : Hp} {s : Shared}
theorem lamO_ok {h : Heap} {f c : Addr} {q : Str} {d : LamD} {pm ctv : Value} (e : h.get? f = some (PySem.W.kla_obj "<lambda>" q d.params d.body d.scope [] pm c ctv)) (H : Hp) : ObjOk X.prog X.w H h f (LamO f c q d) :=
  ⟨⟨pm, ctv, e⟩, ⟨_, e⟩, fun _ _ ⟨pm', ctv', z⟩ k => ⟨pm', ctv', k _ z⟩⟩
/-- the making: T tells the tables of code objects; all else stays -/
def tLamM (T : List (Addr × Str)) (q : Str) (d : LamD) : TE := fun _ H Q => LamX.Tabs T H ∧ ∀ (f : Addr) (H' : Hp), LamX.ExtN H H' → LamX.Tabs T H' → LamAt H' f q d → Q (.ref f) H'
theorem pe_lamM {T : List (Addr × Str)} {c P : Addr} {d : LamD} {pos : Pos} (TB : LamX.TabB X.base X.mg c P) (hcode : X.env.code = .ref c) (hm : (P, X.env.qual ++ "<lambda>") ∈ T) (hu : ∀ p ∈ T, p.1 = P → p.2 = X.env.qual ++ "<lambda>")
    (hdef : defaultsOf d.params X.env = ([], [])) (hcl : closureFor d.scope X.env = pure []) : PE X (.Lambda d.params d.body d.scope pos) (tLamM T (X.env.qual ++ "<lambda>") d) := by
  refine ⟨fun pins s σ H Q I h => ?_⟩
  obtain ⟨hT, h⟩ := h
  obtain ⟨ps, hP, ht, ha⟩ := hT _ hm
  have bP : s.heap.BuiltinsAt X.mg P := TB.bm.keeps I.bk
  have hP' : s.heap.get? P = some { cls := .none, data := .fields ps } := I.hok P _ hP
  have sub : ∀ {o : Obj} {h' : Heap}, ∀ b u, h'.get? b = some u → (h'.push o).get? b = some u := fun b u e => Heap.get?_push_of_some _ e
  refine PySem.W.kla_eval hdef ?_
  cases hc : codeAmong pos ps.toList with
  | none =>
    refine PySem.W.kla_makeFunction (mg := X.mg) (c := c) (P := P) (ps := ps) hcl I.ok.glob (I.mod.glob.keeps I.bk) hcode (TB.code.keeps I.bk) hP' ht hc TB.gP bP fun c' ctv h' tk hx hge hlt hrec htb => ?_
    obtain ⟨c2, oc, vs, t, e2, hoc, hd, hv⟩ := hrec
    cases e2
    have nC : H c' = none := I.hok.fresh hge
    have I1 := LamX.inv_table (t' := tk) (q := X.env.qual ++ "<lambda>") I hP hx htb hge ⟨oc, vs, t, hoc, hd, hv⟩
    have nF := I1.hok.fresh (Nat.le_refl h'.objs.size)
    have I2 := I1.laid (a := h'.objs.size) (o := LamO h'.objs.size c' (X.env.qual ++ "<lambda>") d) (t' := tk) sub (Nat.le_refl _) (lamO_ok (h := h'.push (PySem.W.kla_obj "<lambda>" (X.env.qual ++ "<lambda>") d.params d.body d.scope [] ((X.mg "__name__").getD .none) c' ctv)) (Heap.get?_push_size _ rfl) _)
    refine ⟨.ref h'.objs.size, _, I2, rfl, h _ _ (fun b o e n => ?_) (fun p hp => ?_) ⟨c', upd_same, ?_⟩⟩
    · have hb : b ≠ P := fun z => n ps (Option.some.inj (e.symm.trans (by rw [z]; exact hP)))
      have e1 : upd (upd H P (.tbl (ps ++ #[rawInt pos.line, rawInt pos.col, .ref c']))) c' (LamX.CodeO c' (X.env.qual ++ "<lambda>")) b = some o := by rw [upd_ne (ne_of_none e nC), upd_ne hb]; exact e
      rw [upd_ne (ne_of_none e1 nF)]
      exact e1
    · have base : LamX.TabS (upd (upd H P (.tbl (ps ++ #[rawInt pos.line, rawInt pos.col, .ref c']))) c' (LamX.CodeO c' (X.env.qual ++ "<lambda>"))) p.1 p.2 := by
        have hE : ∀ (b : Addr) (q : Str), H b = some (LamX.CodeO b q) → upd (upd H P (.tbl (ps ++ #[rawInt pos.line, rawInt pos.col, .ref c']))) c' (LamX.CodeO c' (X.env.qual ++ "<lambda>")) b = some (LamX.CodeO b q) := fun b q e => by
          rw [upd_ne (ne_of_none e nC), upd_ne fun z => LamX.codeO_ne ps (Option.some.inj (e.symm.trans (by rw [z]; exact hP)))]
          exact e
        by_cases hb : p.1 = P
        · rw [hu p hp hb, hb]
          have eL : (ps ++ #[rawInt pos.line, rawInt pos.col, Value.ref c']).toList = ps.toList ++ [rawInt pos.line, rawInt pos.col, .ref c'] := by simp
          refine ⟨_, by rw [upd_ne (ne_of_none hP nC), upd_same], by rw [eL]; exact PySem.TriplesOk_snoc _ _ _ _ ht, fun p' cv hcv => ?_⟩
          rw [eL] at hcv
          rcases LamX.among_app _ ht hcv with z | z
          · obtain ⟨c0, e1, e2⟩ := ha p' cv z
            exact ⟨c0, e1, hE _ _ e2⟩
          · exact ⟨c', z, upd_same⟩
        · obtain ⟨ps', a1, a2, a3⟩ := hT p hp
          refine ⟨ps', by rw [upd_ne (ne_of_none a1 nC), upd_ne hb]; exact a1, a2, fun p' cv hcv => ?_⟩
          obtain ⟨c0, e1, e2⟩ := a3 p' cv hcv
          exact ⟨c0, e1, hE _ _ e2⟩
      exact base.ext fun b o e => by rw [upd_ne (ne_of_none e nF)]; exact e
    · rw [upd_ne (Nat.ne_of_lt hlt), upd_same]
  | some cv =>
    obtain ⟨c', e, hco⟩ := ha pos cv hc
    subst e
    refine PySem.W.kla_makeFunctionHit (mg := X.mg) (c := c) (P := P) (ps := ps) hcl I.ok.glob (I.mod.glob.keeps I.bk) hcode (TB.code.keeps I.bk) hP' ht hc bP fun ctv h' tk hx hsz => ?_
    have I1 : Inv X pins σ H { s with heap := h', toks := tk } := I.kept hx
    have nF := I1.hok.fresh (Nat.le_refl h'.objs.size)
    have I2 := I1.laid (a := h'.objs.size) (o := LamO h'.objs.size c' (X.env.qual ++ "<lambda>") d) (t' := tk) sub (Nat.le_refl _) (lamO_ok (h := h'.push (PySem.W.kla_obj "<lambda>" (X.env.qual ++ "<lambda>") d.params d.body d.scope [] ((X.mg "__name__").getD .none) c' ctv)) (Heap.get?_push_size _ rfl) _)
    have up : ∀ b o, H b = some o → upd H h'.objs.size (LamO h'.objs.size c' (X.env.qual ++ "<lambda>") d) b = some o := fun b o e => by rw [upd_ne (ne_of_none e nF)]; exact e
    exact ⟨.ref h'.objs.size, _, I2, rfl, h _ _ (fun b o e _ => up b o e) (fun p hp => (hT p hp).ext up) ⟨c', upd_same, up _ _ hco⟩⟩
/-- the call of such a lambda with positional values -/
theorem run_lam {f : Addr} {q : Str} {d : LamD} {N : List Str} {k : Nat} {us : List Value} {vs : List V} {Q : VK} {tb : TE} (I : Inv X pins σ H s) (hf : LamAt H f q d) (S : FnScope N d.pars d.scope)
    (hbind : ∀ (c : Addr) (pm ctv : Value) (us : List Value), us.length = d.pars.length → bindArgs (PySem.W.kla_fn "<lambda>" q d.params d.body d.scope [] pm (.ref c) ctv) ⟨us, []⟩ = pure (d.pars.zip us)) (hr : Room (k + 1) X.A)
    (hbody : ∀ (c : Addr) (A : Around) (outer : List Env) (s : Shared) (H : Hp), Room k (A.deeper (envOfC q d.scope s.heap.objs.size f (.ref c))) → PE (cxOf CX0 X.prog X.w X.K X.mg X.base N q d.scope f (.ref c) A outer s H E0) d.body tb)
    (r : Vals vs us) (hl : vs.length = d.pars.length) (ht : tb (L2.start N vs) H Q) : wpAny (model X.prog X.w) X.A (call (.ref f) us) (EP X pins σ Q) X.xe s := by
  obtain ⟨c, h1, h2⟩ := hf
  obtain ⟨⟨pm, ctv, hg⟩, _, _⟩ := I.hok f _ h1
  obtain ⟨⟨oc, ws, t, hoc, hdc, hvc⟩, _, _⟩ := I.hok c _ h2
  have e0 := I.env0
  have hl2 : us.length = d.pars.length := r.length.symm.trans hl
  have hkind : ∀ y ∈ d.pars.zip us, d.scope.names.lookup y.1 = some .local ∨ (d.scope.names.lookup y.1 = some .cell ∧ ((cellsFrom (s.heap.objs.size + 1) d.scope.names []).lookup y.1).isSome = true) := fun ⟨n, v⟩ hy => by
    rcases S.par n (List.of_mem_zip hy).1 with z | z
    · exact .inl z
    · exact .inr ⟨z, PySem.W.cellsFrom_some _ _ _ (.inl z)⟩
  have rc : codeAny (model X.prog X.w) X.A (.call (.ref f) ⟨us, []⟩) (CR CX0 X.stack X.prog X.w H s Q E0) s := by
    refine PySem.W.kla_callFunE hr.depth hg rfl S.co S.gen rfl ⟨c, oc, ws, t, rfl, hoc, hdc, hvc⟩ ?_
    rw [hbind _ _ _ _ hl2]
    refine wpAny_pure (wpAny_newFunctionEnv_cells S.kind hkind fun env he s1 x => ?_)
    subst he
    refine ⟨I.nolimit.keeps x.toInCall.keep, ?_⟩
    have J : Inv (cxOf CX0 X.prog X.w X.K X.mg X.base N q d.scope f (.ref c) X.A X.stack s H E0) [] (L2.start N vs) H s1 := inv_start S hr.hd e0 hl r x
    refine PySem.W.kla_codeExpr (wpAny_mono ((hbody c X.A X.stack s H (hr.deeper _)).run [] s1 _ H Q J ht) (fun v s' hq => ?_) fun e s' hq => hq)
    obtain ⟨w', H', J', rv, z⟩ := hq
    exact ⟨w', H', J'.os, J'.bare, J'.base, J'.hok, rv, z⟩
  refine wpAny_call (codeAny_mono rc fun r s' hq => ?_)
  cases r with
  | error e => exact (show False from hq).elim
  | ok fl =>
    cases fl with
    | ret u => exact I.after hq
    | next => exact False.elim hq
    | brk => exact False.elim hq
    | cont => exact False.elim hq
end
end K90

set_option maxHeartbeats 4000000
namespace K90
open PySem PySem.Spec PyProof.Rows L2

/-! ### an instance of a class without an own __init__ -/
def tNul (C : Addr) : TE := fun _ H Q => ∀ x dx, H x = none → H dx = none → dx ≠ x → Q (.ref x) (upd (upd H dx (.own x)) x (.ins C dx []))
section
variable {X : Cx} {C : Addr}
theorem run_nul {pins : List (Addr × Obj)} {σ : L2.St} {H : Hp} {s : Shared} {Q : VK} (hm : PySem.W.makesIn X.K C = true) (hi : PySem.W.findIn X.K (.ref C) "__init__" = some (some (.builtin "object.__init__"))) (I : Inv X pins σ H s)
    (h : ∀ x dx, H x = none → H dx = none → dx ≠ x → Q (.ref x) (upd (upd H dx (.own x)) x (.ins C dx []))) : wpAny (model X.prog X.w) X.A (call (.ref C) []) (EP X pins σ Q) X.xe s := by
  have hq := h (s.heap.objs.size + 1) s.heap.objs.size (I.hok.fresh (Nat.le_succ _)) (I.hok.fresh (Nat.le_refl _)) (Nat.ne_of_lt (Nat.lt_succ_self _))
  have I2 := Inv.made (C := C) I
  refine wpAny_call (make_map0 I.kIn hm hi (fun self => PySem.W.Looks.of_pure (PySem.W.oi_bind self)) ?_)
  have hx : ((s.heap.push PySem.W.emptyDict).push (PySem.W.instObj C s.heap.objs.size)).get? (s.heap.objs.size + 1) = some (PySem.W.instObj C s.heap.objs.size) := by
    have z := Heap.get?_push_size (s.heap.push PySem.W.emptyDict) (o := PySem.W.instObj C s.heap.objs.size) rfl
    rwa [Heap.size_push] at z
  have t1 : PySem.W.Looks (model X.prog X.w) ((s.heap.push PySem.W.emptyDict).push (PySem.W.instObj C s.heap.objs.size)) (typeOf (.ref (s.heap.objs.size + 1))) (.ref C) := (PySem.W.Looks.ld hx).andThen .now
  have Y := PySem.W.makes_of (M := model X.prog X.w) I.kIn hm
  have t2 : PySem.W.Looks (model X.prog X.w) ((s.heap.push PySem.W.emptyDict).push (PySem.W.instObj C s.heap.objs.size)) (isInstance (.ref (s.heap.objs.size + 1)) (.type "object")) true :=
    t1.andThen (Y.top.keeps fun b o e => Heap.get?_push_of_some _ (Heap.get?_push_of_some _ e))
  refine codeAny_call_builtin PySem.W.oi_plain PySem.W.entry_oi (@PySem.W.check_slot (model X.prog X.w) _ _ _ "object.__init__" "object" "__init__" (.ref (s.heap.objs.size + 1)) [] [] _ PySem.W.oi_kind PySem.W.oi_split t2 (PySem.W.oi_args (.ref (s.heap.objs.size + 1))) ?_)
  rw [PySem.W.oi_run]
  exact wpAny_pure (And.intro rfl ⟨V.ref (s.heap.objs.size + 1), _, I2, rfl, hq⟩)
theorem pe_nul {x : Str} {p pos : Pos} (hm : PySem.W.makesIn X.K C = true) (hi : PySem.W.findIn X.K (.ref C) "__init__" = some (some (.builtin "object.__init__"))) (hk : PySem.W.keepIn X.K (.ref C) = true) (hg : Gl X x) (hmg : X.mg x = some (.ref C))
    (hdb : (x == ("__debug__" : Str)) = false := by decide) : PE X (.Call (.Name x p) [] [] pos) (tNul C) := by
  refine ⟨fun pins s σ H Q I h => ?_⟩
  refine wpAny_Call_Name_kw (ld_glob I hg hmg ?_ hdb)
  exact PySem.W.callWith_K0 I.kIn hk (run_nul hm hi I h)
end

/-! ### keywords alone -/
theorem kbn_of {K : PySem.W.Frag} {x qual : Str} {params : Arguments} {body : List Stmt} {scope : Scope} {f : Addr} {fd : FuncData} {ps ks : List Str} (F : FunD K x qual params body scope [] [] f fd) (n : Nat) (g : {α : Type} → List α → List α → List α)
    (hrel : ∀ {vs zs : List V} {us ws : List Value}, Vals vs us → Vals zs ws → Vals (g vs zs) (g us ws))
    (h : ∀ (kV doc pm : Value) (an : Option Addr) (cdv ct : Value) (us ws : List Value), us.length = n → ws.length = ks.length → bindArgs (PySem.W.fnOf x qual params body scope .none kV doc pm an cdv ct) ⟨us, ks.zip ws⟩ = pure (ps.zip (g us ws))) :
    KBn K fd ps n ks (fun us ws => g us ws) (fun us ws => g us ws) := by
  obtain ⟨oc, od, dV, kV, doc, pm, an, cdv, ct, osl, rfl, lk, hcd, hD, hK⟩ := F.ex
  rcases hD with ⟨_, rfl⟩ | ⟨e, _⟩
  · exact ⟨fun s us ws _ l1 l2 => .of_eq (h kV doc pm an cdv ct us ws l1 l2), fun r1 r2 => hrel r1 r2⟩
  · exact absurd rfl e
/-! ### the classes, by what is known of each -/
structure One (P : Program) (w : World) (K : PySem.W.Frag) (mg : Str → Option Value) (base : Heap) (n fld : Str) (C : Addr) : Prop where
  g : mg n = some (.ref C)
  cl : Cls K C
  nF : NoAttr K C fld
  ex : ∃ f fd, Mk K C f ∧ FnOk P w K mg base CX0 2 f fd ["self", fld] (spInit1 K C fld) ∧ L2.Binds K fd ["self", fld] [] ∧ KBn K fd ["self", fld] 1 [fld] (fun us ws => us ++ ws) (fun us ws => us ++ ws)
structure Nul (K : PySem.W.Frag) (mg : Str → Option Value) (n : Str) (C : Addr) : Prop where
  g : mg n = some (.ref C)
  cl : Cls K C
  makes : PySem.W.makesIn K C = true
  init : PySem.W.findIn K (.ref C) "__init__" = some (some (.builtin "object.__init__"))
  kp : PySem.W.keepIn K (.ref C) = true
structure Mod3 (P : Program) (w : World) (K : PySem.W.Frag) (mg : Str → Option Value) (base : Heap) (C : Addr) : Prop where
  g : mg "Model" = some (.ref C)
  m : MF K C
  ex : ∃ f fd, Mk K C f ∧ FnOk P w K mg base CX0 2 f fd ["self", "shapes", "heaps", "asks"] (spInit3 K C) ∧ L2.Binds K fd ["self", "shapes", "heaps", "asks"] [] ∧ KBn K fd ["self", "shapes", "heaps", "asks"] 1 ["asks", "heaps", "shapes"] (fun us ws => us ++ ws.reverse) (fun us ws => us ++ ws.reverse)

/-! ### rows -/
def rowsTup : Stmt → List Expr
  | .Assign _ (.List [.Tuple es _ _] _) _ => es
  | .Expr (.Call _ [.Tuple es _ _] _ _) _ => es
  | .For _ _ [.Expr (.Call _ [.Tuple es _ _] _ _) _] _ _ => es
  | _ => []
def lamE (i : Nat) : Expr := (rowsTup ((defBody (top 28)).getD i (.Pass ⟨0, 0, 0, 0⟩))).getD 3 (.Constant .none 0 ⟨0, 0, 0, 0⟩)
def lamd (i : Nat) : LamD := lamOf [if i < 11 then "one" else "item"] (lamE i)
def qR : Str := (envOfC "_law_rows" (defScope (top 28)) 0 0 .none).qual ++ "<lambda>"
def CpAll : List Arg → Hp → List V → Prop
  | [], _, [] => True
  | A :: As, H, v :: vs => A.cp H v ∧ CpAll As H vs
  | _, _, _ => False
theorem CpAll.ext {H H' : Hp} (e : ∀ b xs, H b = some (.tup xs) → H' b = some (.tup xs)) : ∀ {As : List Arg} {vs : List V}, CpAll As H vs → CpAll As H' vs
  | [], [], h => h
  | _ :: _, _ :: _, ⟨h, t⟩ => ⟨Arg.cp_ext e h, CpAll.ext e t⟩
  | [], _ :: _, h => h
  | _ :: _, [], h => h
structure RowS where
  C : Addr
  nm : List Str
  As : List Arg
  hv : List V
  lam : LamD
/-- a row of this kind at t -/
def Row (H : Hp) (r : RowS) (t : V) : Prop := ∃ (a o1 o2 d1 d2 hd fl : Addr) (xs ys : List V), t = .ref a ∧ H a = some (.tup [.ref o1, .ref o2, .ref hd, .ref fl]) ∧ H o1 = some (.ins r.C d1 (r.nm.zip xs)) ∧ H o2 = some (.ins r.C d2 (r.nm.zip ys)) ∧
  CpAll r.As H xs ∧ CpAll r.As H ys ∧ xs.length = r.nm.length ∧ ys.length = r.nm.length ∧ H hd = some (.tup r.hv) ∧ LamAt H fl qR r.lam
theorem Row.ext {H H' : Hp} {r : RowS} {t : V} (e : LamX.ExtN H H') (h : Row H r t) : Row H' r t := by
  obtain ⟨a, o1, o2, d1, d2, hd, fl, xs, ys, e0, h1, h2, h3, h4, h5, h6, h7, h8, h9⟩ := h
  have tt : ∀ b xs, H b = some (.tup xs) → H' b = some (.tup xs) := fun b xs z => e _ _ z (fun _ q => nomatch q)
  exact ⟨a, o1, o2, d1, d2, hd, fl, xs, ys, e0, e _ _ h1 (fun _ q => nomatch q), e _ _ h2 (fun _ q => nomatch q), e _ _ h3 (fun _ q => nomatch q), h4.ext tt, h5.ext tt, h6, h7, e _ _ h8 (fun _ q => nomatch q), lamAt_ext e h9⟩
theorem extN_of {H H' : Hp} (h : Same H H') : LamX.ExtN H H' := fun b o e _ => h b o e
theorem extN_ins {H H' : Hp} {p : Addr} (h : SameBut p H H') (hp : H p = none) : LamX.ExtN H H' := fun b o e _ => h b o e (ne_of_none e hp)

section
variable {P : Program} {w : World} {K : PySem.W.Frag} {mg : Str → Option Value} {base : Heap} {T : List (Addr × Str)}
/-- a row of an instance with one attribute: what its making asks -/
def tRow1 (K : PySem.W.Frag) (T : List (Addr × Str)) (C : Addr) (fld : Str) (d : LamD) (j : Nat) : TE := fun σ H Q => ∃ v A, σ[j]? = some (some v) ∧ A.here K H v ∧ LamX.Tabs T H ∧
  ∀ t H', LamX.ExtN H H' → LamX.Tabs T H' → Row H' ⟨C, [fld], [A], [v], d⟩ t → Q t H'
theorem made_same {H : Hp} {x dx C : Addr} (nx : H x = none) (nd : H dx = none) : Same H (upd (upd H dx (.own x)) x (.ins C dx [])) := fun b o e => by rw [upd_ne (ne_of_none e nx), upd_ne (ne_of_none e nd)]; exact e
theorem made_then {H H1 : Hp} {x dx C : Addr} (nx : H x = none) (nd : H dx = none) (k : SameBut x (upd (upd H dx (.own x)) x (.ins C dx [])) H1) : Same H H1 := fun b o e => k b o (made_same nx nd b o e) (ne_of_none e nx)
theorem Tabs.same {H H' : Hp} (t : LamX.Tabs T H) (e : Same H H') : LamX.Tabs T H' := t.ext e
/-- the row's end: (a,), the lambda, the tuple -/
theorem row_end {r : RowS} {H H1 : Hp} {Q : VK} {o1 o2 d1 d2 : Addr} {xs ys : List V} {hv : List V} (s1 : Same H H1) (hT : LamX.Tabs T H1) (h1 : H1 o1 = some (.ins r.C d1 (r.nm.zip xs))) (h2 : H1 o2 = some (.ins r.C d2 (r.nm.zip ys))) (c1 : CpAll r.As H1 xs) (c2 : CpAll r.As H1 ys)
    (l1 : xs.length = r.nm.length) (l2 : ys.length = r.nm.length) (ehv : r.hv = hv)
    (k : ∀ t H', LamX.ExtN H H' → LamX.Tabs T H' → Row H' r t → Q t H') : ∀ p, H1 p = none → (LamX.Tabs T (upd H1 p (.tup hv)) ∧ ∀ (f : Addr) (H' : Hp), LamX.ExtN (upd H1 p (.tup hv)) H' → LamX.Tabs T H' → LamAt H' f qR r.lam →
      4 ≤ sizeLine ∧ ∀ p2, H' p2 = none → Q (.ref p2) (upd H' p2 (.tup [.ref o1, .ref o2, .ref p, .ref f]))) := by
  intro p hp
  have s2 : Same H1 (upd H1 p (.tup hv)) := same_upd hp
  refine ⟨Tabs.same hT s2, fun f H' e t' lf => ⟨sz 4, fun p2 hp2 => ?_⟩⟩
  have s3 : Same H' (upd H' p2 (.tup [.ref o1, .ref o2, .ref p, .ref f])) := same_upd hp2
  have e1 : LamX.ExtN H1 H' := (extN_of s2).trans e
  have e2 : LamX.ExtN H1 (upd H' p2 (.tup [.ref o1, .ref o2, .ref p, .ref f])) := e1.trans (extN_of s3)
  have tt : ∀ b xs, H1 b = some (.tup xs) → (upd H' p2 (.tup [.ref o1, .ref o2, .ref p, .ref f])) b = some (.tup xs) := fun b xs z => e2 _ _ z (fun _ q => nomatch q)
  refine k _ _ ((extN_of s1).trans e2) (Tabs.same t' s3) ⟨p2, o1, o2, d1, d2, p, f, xs, ys, rfl, upd_same, e2 _ _ h1 (fun _ q => nomatch q), e2 _ _ h2 (fun _ q => nomatch q), c1.ext tt, c2.ext tt, l1, l2, ?_, lamAt_ext (extN_of s3) lf⟩
  rw [ehv]
  exact s3 _ _ (e _ _ upd_same (fun _ q => nomatch q))
theorem row1 {C : Addr} {fld : Str} {d : LamD} {j : Nat} {σ : L2.St} {H : Hp} {Q : VK} (h : tRow1 K T C fld d j σ H Q) :
    tTup (tCons (tMake C (spInit1 K C fld) [] E0 (tCons (tVar j) tNil)) (tCons (tMakeK C 0 [fld].length (spInit1 K C fld) (fun us ws => us ++ ws) E0 tNil (tCons (tVar j) tNil)) (tCons (tTup (tCons (tVar j) tNil)) (tCons (tLamM T qR d) tNil)))) σ H Q := by
  obtain ⟨v, A, hv, hA, hT, k⟩ := h
  refine ⟨v, hv, fun x dx nx nd ne => ⟨x, v, dx, A, rfl, upd_same, here_same (made_same nx nd) hA, fun v1 H1 c1 o1 s1 => ⟨rfl, ?_⟩⟩⟩
  have m1 : Same H H1 := made_then nx nd s1
  refine ⟨v, hv, rfl, rfl, fun y dy ny nf ne2 => ⟨y, v, dy, A, rfl, upd_same, here_same (m1.trans (made_same ny nf)) hA, fun v2 H2 c2 o2 s2 => ⟨rfl, ?_⟩⟩⟩
  have m2 : Same H1 H2 := made_then ny nf s2
  refine ⟨v, hv, sz 1, ?_⟩
  exact row_end (r := ⟨C, [fld], [A], [v], d⟩) (xs := [v1]) (ys := [v2]) (m1.trans m2) (Tabs.same hT (m1.trans m2)) (m2 _ _ o1) o2 ⟨Arg.cp_ext (fun b xs e => m2 _ _ e) c1, trivial⟩ ⟨c2, trivial⟩ rfl rfl rfl k
/-- .. of the Model -/
def tRow3 (K : PySem.W.Frag) (T : List (Addr × Str)) (C : Addr) (d : LamD) : TE := fun σ H Q => ∃ u v x A B D, σ[0]? = some (some u) ∧ σ[1]? = some (some v) ∧ σ[2]? = some (some x) ∧ A.here K H u ∧ B.here K H v ∧ D.here K H x ∧ LamX.Tabs T H ∧
  ∀ t H', LamX.ExtN H H' → LamX.Tabs T H' → Row H' ⟨C, mnm, [A, B, D], [u, v, x], d⟩ t → Q t H'
theorem row3 {C : Addr} {d : LamD} {σ : L2.St} {H : Hp} {Q : VK} (h : tRow3 K T C d σ H Q) :
    tTup (tCons (tMake C (spInit3 K C) [] E0 (tCons (tVar 0) (tCons (tVar 1) (tCons (tVar 2) tNil)))) (tCons (tMakeK C 0 (["asks", "heaps", "shapes"] : List Str).length (spInit3 K C) (fun us ws => us ++ ws.reverse) E0 tNil (tCons (tVar 2) (tCons (tVar 1) (tCons (tVar 0) tNil)))) (tCons (tTup (tCons (tVar 0) (tCons (tVar 1) (tCons (tVar 2) tNil)))) (tCons (tLamM T qR d) tNil)))) σ H Q := by
  obtain ⟨u, v, z, A, B, D, hu, hv, hz, hA, hB, hD, hT, k⟩ := h
  refine ⟨u, hu, v, hv, z, hz, fun x dx nx nd ne => ⟨x, u, v, z, dx, A, B, D, rfl, upd_same, here_same (made_same nx nd) hA, here_same (made_same nx nd) hB, here_same (made_same nx nd) hD, fun u1 v1 z1 H1 a1 b1 c1 o1 s1 => ⟨rfl, ?_⟩⟩⟩
  have m1 : Same H H1 := made_then nx nd s1
  refine ⟨z, hz, v, hv, u, hu, rfl, rfl, fun y dy ny nf ne2 => ⟨y, u, v, z, dy, A, B, D, rfl, upd_same, here_same (m1.trans (made_same ny nf)) hA, here_same (m1.trans (made_same ny nf)) hB, here_same (m1.trans (made_same ny nf)) hD, fun u2 v2 z2 H2 a2 b2 c2 o2 s2 => ⟨rfl, ?_⟩⟩⟩
  have m2 : Same H1 H2 := made_then ny nf s2
  refine ⟨u, hu, v, hv, z, hz, sz 3, ?_⟩
  exact row_end (r := ⟨C, mnm, [A, B, D], [u, v, z], d⟩) (xs := [u1, v1, z1]) (ys := [u2, v2, z2]) (m1.trans m2) (Tabs.same hT (m1.trans m2)) (m2 _ _ o1) o2
    ⟨Arg.cp_ext (fun b xs e => m2 _ _ e) a1, Arg.cp_ext (fun b xs e => m2 _ _ e) b1, Arg.cp_ext (fun b xs e => m2 _ _ e) c1, trivial⟩ ⟨a2, b2, c2, trivial⟩ rfl rfl rfl k
end
theorem pe_imp {X : Cx} {e : Expr} {t t' : TE} (h : PE X e t) (i : ∀ σ H Q, t' σ H Q → t σ H Q) : PE X e t' := ⟨fun pins s σ H Q I q => h.run pins s σ H Q I (i σ H Q q)⟩
end K90

set_option maxHeartbeats 4000000
namespace K90
open PySem PySem.Spec PyProof.Rows L2
abbrev cA (K : PySem.W.Frag) (n : Str) : Addr := He.ga K n
abbrev atR : Str × Option Str := ("_law_rows", none)
abbrev TT (K : PySem.W.Frag) : List (Addr × Str) := [((He.cT K atR).2, qR)]
def rowList (K : PySem.W.Frag) (A B D : Arg) (va vb vc : V) : List RowS := [
  ⟨cA K "Area", ["ratio"], [A], [va], lamd 0⟩,
  ⟨cA K "Sides", ["rows"], [B], [vb], lamd 1⟩,
  ⟨cA K "Covers", ["rows"], [D], [vc], lamd 2⟩,
  ⟨cA K "Profile", ["rows"], [A], [va], lamd 3⟩,
  ⟨cA K "Meet", ["ratio"], [B], [vb], lamd 4⟩,
  ⟨cA K "Spot", ["word"], [D], [vc], lamd 5⟩,
  ⟨cA K "Ears", ["rows"], [A], [va], lamd 6⟩,
  ⟨cA K "Apart", ["direction"], [B], [vb], lamd 7⟩,
  ⟨cA K "Tilted", ["height"], [D], [vc], lamd 8⟩,
  ⟨cA K "Paper", ["asked"], [A], [va], lamd 9⟩,
  ⟨cA K "Model", mnm, [A, B, D], [va, vb, vc], lamd 10⟩,
  ⟨cA K "Slides", [], [], [], lamd 11⟩,
  ⟨cA K "Turns", [], [], [], lamd 11⟩,
  ⟨cA K "Levels", [], [], [], lamd 11⟩,
  ⟨cA K "Steps", [], [], [], lamd 11⟩,
  ⟨cA K "Uneven", [], [], [], lamd 11⟩]
mutual
theorem dp_ext {K : PySem.W.Frag} {H H' : Hp} (k : LamX.ExtN H H') : ∀ (d : PyData) (v : V), Dp K H v d → Dp K H' v d
  | .none, _, h => by cases h; exact .non
  | .bool _, _, h => by cases h; exact .bl _
  | .int _, _, h => by cases h; exact .int _
  | .str _, _, h => by cases h; exact .str _
  | .list ds, _, h => by
    cases h with
    | lst hs ha =>
      refine .lst ?_ (dps_ext k ds _ ha)
      rcases hs with (h | ⟨o, h⟩) | h
      · exact .inl (.inl (k _ _ h fun _ q => nomatch q))
      · exact .inl (.inr ⟨o, k _ _ h fun _ q => nomatch q⟩)
      · exact .inr h
  | .tuple ds, _, h => by
    cases h with
    | tup hs ha =>
      refine .tup ?_ (dps_ext k ds _ ha)
      rcases hs with (h | ⟨o, h⟩) | h
      · exact .inl (.inl (k _ _ h fun _ q => nomatch q))
      · exact .inl (.inr ⟨o, k _ _ h fun _ q => nomatch q⟩)
      · exact .inr h
  | .dict _, _, h => by cases h
theorem dps_ext {K : PySem.W.Frag} {H H' : Hp} (k : LamX.ExtN H H') : ∀ (ds : List PyData) (vs : List V), DpAll K H vs ds → DpAll K H' vs ds
  | [], _, h => by cases h; exact .nil
  | d :: ds, _, h => by
    cases h with
    | cons h1 h2 => exact .cons (dp_ext k d _ h1) (dps_ext k ds _ h2)
end
theorem here_ext {K : PySem.W.Frag} {A : Arg} {H H' : Hp} {v : V} (k : LamX.ExtN H H') : A.here K H v → A.here K H' v := by
  cases A with
  | flat u d => exact fun ⟨e, h, l⟩ => ⟨e, dp_ext k _ _ h, l⟩
  | list a xs ds => exact fun ⟨e, h⟩ => ⟨e, k _ _ h fun _ q => nomatch q⟩
/-- a list that no row knows is written -/
theorem Row.lst {H : Hp} {r : RowS} {t : V} {p : Addr} {xs ys : List V} (hp : H p = some (.lst xs)) (h : Row H r t) : Row (upd H p (.lst ys)) r t := by
  obtain ⟨a, o1, o2, d1, d2, hd, fl, us, ws, e0, h1, h2, h3, h4, h5, h6, h7, h8, ⟨c, h9, h10⟩⟩ := h
  have k : ∀ b o, H b = some o → (∀ zs, o ≠ .lst zs) → upd H p (.lst ys) b = some o := fun b o e n => by
    rw [upd_ne (ne_of e hp (n xs))]
    exact e
  have tt : ∀ b zs, H b = some (.tup zs) → upd H p (.lst ys) b = some (.tup zs) := fun b zs z => k _ _ z (fun _ q => nomatch q)
  refine ⟨a, o1, o2, d1, d2, hd, fl, us, ws, e0, k _ _ h1 (fun _ q => nomatch q), k _ _ h2 (fun _ q => nomatch q), k _ _ h3 (fun _ q => nomatch q), h4.ext tt, h5.ext tt, h6, h7, k _ _ h8 (fun _ q => nomatch q), c, k _ _ h9 (fun _ q => ?_), k _ _ h10 (fun _ q => ?_)⟩
  · unfold LamO at q; cases q
  · unfold LamX.CodeO at q; cases q
theorem paired_snoc {α β : Type} {F : α → β → Prop} {a : α} {b : β} : ∀ {xs : List α} {ys : List β}, Paired F xs ys → F a b → Paired F (xs ++ [a]) (ys ++ [b])
  | _, _, .nil, h => .cons h .nil
  | _, _, .cons g t, h => .cons g (paired_snoc t h)
/-- at r is nothing, or a table -/
def OnlyTbl (H : Hp) (r : Addr) : Prop := ∀ o, H r = some o → ∃ ps, o = .tbl ps
theorem OnlyTbl.ne {H : Hp} {r b : Addr} {o : HO} (h : OnlyTbl H r) (e : H b = some o) (n : ∀ ps, o ≠ .tbl ps) : b ≠ r := fun z => by
  subst z
  obtain ⟨ps, q⟩ := h _ e
  exact n ps q
/-- behind a row's making and its append -/
theorem rows_step {T : List (Addr × Str)} {H0 H G : Hp} {r : Addr} {ts : List V} {rs : List RowS} {x : RowS} {t : V} (nr : OnlyTbl H0 r) (e : LamX.ExtN H0 H) (hr : H r = some (.lst ts)) (p : Paired (Row H) rs ts) (xg : LamX.ExtN H G) (u : LamX.Tabs T G) (w : Row G x t) :
    LamX.ExtN H0 (upd G r (.lst (ts ++ [t]))) ∧ LamX.Tabs T (upd G r (.lst (ts ++ [t]))) ∧ (upd G r (.lst (ts ++ [t]))) r = some (.lst (ts ++ [t])) ∧ Paired (Row (upd G r (.lst (ts ++ [t])))) (rs ++ [x]) (ts ++ [t]) := by
  have hg : G r = some (.lst ts) := xg _ _ hr (fun _ q => nomatch q)
  refine ⟨fun b o z n => ?_, fun q hq => ?_, upd_same, paired_snoc (Paired.mapP p fun a b z => (z.ext xg).lst hg) (w.lst hg)⟩
  · rw [upd_ne (nr.ne z n)]
    exact xg _ _ (e _ _ z n) n
  · obtain ⟨ps, h1, h2, h3⟩ := u q hq
    refine ⟨ps, by rw [upd_ne (ne_of h1 hg (by intro z; cases z))]; exact h1, h2, fun pos cv hc => ?_⟩
    obtain ⟨c, a1, a2⟩ := h3 pos cv hc
    exact ⟨c, a1, by rw [upd_ne (ne_of a2 hg (by intro z; unfold LamX.CodeO at z; cases z))]; exact a2⟩
section
variable {P : Program} {w : World} {K : PySem.W.Frag} {mg : Str → Option Value} {base : Heap} {f : Addr} {fd : FuncData}
def spRows (K : PySem.W.Frag) : Sp := fun vs H Q _ => ∃ (va vb vc : V) (A B D : Arg), vs = [va, vb, vc] ∧ A.here K H va ∧ B.here K H vb ∧ D.here K H vc ∧ LamX.Tabs (TT K) H ∧
  ∀ (r : Addr) (ts : List V) (H' : Hp), OnlyTbl H r → LamX.ExtN H H' → H' r = some (.lst ts) → Paired (Row H') (rowList K A B D va vb vc) ts → Q (.ref r) H'
theorem scRows : FnScope ["a", "b", "c", "rows", "one", "two"] ["a", "b", "c"] (defScope (top 28)) := ⟨rfl, rfl, rfl, by decide +kernel, rfl, by decide +kernel, by decide +kernel⟩
/-- two instances of a class without attributes -/
theorem two_nul {C : Addr} {σ : L2.St} {H : Hp} {Q : VK} (h : ∀ t a o1 d1 o2 d2 H', t = V.ref a → Same H H' → H' a = some (.tup [.ref o1, .ref o2]) → H' o1 = some (.ins C d1 []) → H' o2 = some (.ins C d2 []) → Q t H') : tTup (tCons (tNul C) (tCons (tNul C) tNil)) σ H Q := by
  intro x dx nx nd ne y dy ny nf ne2
  refine ⟨sz 2, fun p hp => ?_⟩
  have s1 := made_same (C := C) nx nd
  have s2 := made_same (C := C) ny nf
  have s3 := same_upd (o := .tup [.ref x, .ref y]) hp
  exact h _ p x dx y dy _ rfl ((s1.trans s2).trans s3) upd_same (s3 _ _ (s2 _ _ upd_same)) (s3 _ _ upd_same)
theorem tup_cons {ta : TE} {tr : TA} {σ : L2.St} {H : Hp} {Q : VK} (h : ta σ H fun x H1 => tr σ H1 fun xs H2 => (x :: xs).length ≤ sizeLine ∧ ∀ p, H2 p = none → Q (.ref p) (upd H2 p (.tup (x :: xs)))) : tTup (tCons ta tr) σ H Q := h
theorem cons_of {ta : TE} {tr : TA} {σ : L2.St} {H : Hp} {Q : List V → Hp → Prop} (h : ta σ H fun x H1 => tr σ H1 fun xs H2 => Q (x :: xs) H2) : tCons ta tr σ H Q := h
/-- a pair of instances of a class without attributes -/
def TwoN (H : Hp) (C : Addr) (t : V) : Prop := ∃ a o1 d1 o2 d2, t = V.ref a ∧ H a = some (.tup [.ref o1, .ref o2]) ∧ H o1 = some (.ins C d1 []) ∧ H o2 = some (.ins C d2 [])
theorem two_nul' {C : Addr} {σ : L2.St} {H : Hp} {Q : VK} (h : ∀ t H', Same H H' → TwoN H' C t → Q t H') : tTup (tCons (tNul C) (tCons (tNul C) tNil)) σ H Q :=
  two_nul fun t a o1 d1 o2 d2 H' e s h1 h2 h3 => h t H' s ⟨a, o1, d1, o2, d2, e, h1, h2, h3⟩
theorem TwoN.same {H H' : Hp} {C : Addr} {t : V} (s : Same H H') (h : TwoN H C t) : TwoN H' C t := by
  obtain ⟨a, o1, d1, o2, d2, e, h1, h2, h3⟩ := h
  exact ⟨a, o1, d1, o2, d2, e, s _ _ h1, s _ _ h2, s _ _ h3⟩
/-- all stays, but tables and what is at r -/
def ExtB (r : Addr) (H H' : Hp) : Prop := ∀ b o, H b = some o → (∀ ps, o ≠ .tbl ps) → b ≠ r → H' b = some o
theorem TwoN.extB {H H' : Hp} {C r : Addr} {t : V} {ts : List V} (hr : H r = some (.lst ts)) (s : ExtB r H H') (h : TwoN H C t) : TwoN H' C t := by
  obtain ⟨a, o1, d1, o2, d2, e, h1, h2, h3⟩ := h
  exact ⟨a, o1, d1, o2, d2, e, s _ _ h1 (fun _ q => nomatch q) (ne_of h1 hr (by intro z; cases z)), s _ _ h2 (fun _ q => nomatch q) (ne_of h2 hr (by intro z; cases z)), s _ _ h3 (fun _ q => nomatch q) (ne_of h3 hr (by intro z; cases z))⟩
theorem paired_at {α β : Type} {F : α → β → Prop} : ∀ {xs : List α} {ys : List β} {i : Nat} {y : β}, Paired F xs ys → ys[i]? = some y → ∃ x, xs[i]? = some x ∧ F x y
  | _, _, _, _, .nil, h => by cases h
  | _, _, 0, _, .cons g _, h => by cases h; exact ⟨_, rfl, g⟩
  | _, _, i + 1, _, .cons _ t, h => by
    obtain ⟨x, e, f⟩ := paired_at (i := i) t h
    exact ⟨x, e, f⟩
theorem paired_len {α β : Type} {F : α → β → Prop} : ∀ {xs : List α} {ys : List β}, Paired F xs ys → xs.length = ys.length
  | _, _, .nil => rfl
  | _, _, .cons _ t => congrArg Nat.succ (paired_len t)
def nulRow (C : Addr) : RowS := ⟨C, [], [], [], lamd 11⟩
/-- the loop over the classes without attributes -/
theorem nul_loop {K : PySem.W.Frag} {D : Ends} {cs : List Addr} {rl : List RowS} {H0 H : Hp} {r p : Addr} {n : Nat} {xs ts : List V} {σ : L2.St} (hn : n = 2) (nr : OnlyTbl H0 r) (e : LamX.ExtN H0 H) (t : LamX.Tabs (TT K) H) (hr : H r = some (.lst ts)) (pr : Paired (Row H) rl ts)
    (hp : H p = some (.tup xs)) (pc : Paired (TwoN H) cs xs) (hσ : σ.length = 6) (h3 : σ[3]? = some (some (.ref r))) (hl : ts.length + xs.length ≤ sizeLine)
    (k : ∀ σ' H' ts', σ'[3]? = some (some (.ref r)) → LamX.ExtN H0 H' → H' r = some (.lst ts') → Paired (Row H') (rl ++ cs.map nulRow) ts' → D.nx σ' H') :
    ∃ W : Nat → Nat → L2.St → Hp → Prop, (∃ m, W 0 m σ H) ∧ ∀ i m σ H, W i m σ H →
      ((Itt K p).stop i H ∧ D.nx σ H) ∨ ((Itt K p).go i H ∧ ∃ N : L2.St → Hp → Prop, (∀ σ' H', N σ' H' → ∃ m', m' < m ∧ W (i + 1) m' σ' H') ∧ ∀ x H', (Itt K p).yld i H x H' → (gTup K n (gCons (gName 4) (gCons (gName 5) gNil))) x σ H' fun σ2 H2 =>
        (tDrop (tBM K "list" rAppend (tVar 3) (tCons (tTup (tCons (tVar 4) (tCons (tVar 5) (tCons (tTup tNil) (tCons (tLamM (TT K) qR (lamd 11)) tNil))))) tNil))) { D with nx := N, ct := N, bk := D.nx } σ2 H2) := by
  subst hn
  refine for_tup (K := K) (a := p) (xs := xs) (fun i σ H' => σ.length = 6 ∧ σ[3]? = some (some (.ref r)) ∧ LamX.ExtN H0 H' ∧ LamX.Tabs (TT K) H' ∧ ExtB r H H' ∧ ∃ ts', H' r = some (.lst ts') ∧ ts'.length = ts.length + i ∧ Paired (Row H') (rl ++ (cs.take i).map nulRow) ts') ?_ ?_ ?_ ?_
  · exact ⟨hσ, h3, e, t, fun b o z _ _ => z, ts, hr, rfl, by simpa using pr⟩
  · rintro i σ H' _ ⟨_, _, _, _, b, _⟩
    exact SqT.of (b _ _ hp (fun _ q => nomatch q) (ne_of hp hr (by intro z; cases z)))
  · rintro i x σ H' hx ⟨l6, e3, e', t', b, ts', hr', hl', pr'⟩
    obtain ⟨C, hC, w⟩ := paired_at pc hx
    obtain ⟨a, o1, d1, o2, d2, ea, g1, g2, g3⟩ := w.extB hr b
    subst ea
    have i6 : i < xs.length := (List.getElem?_eq_some_iff.mp hx).1
    refine ⟨a, [.ref o1, .ref o2], rfl, SqT.of g1, rfl, .ref o1, [.ref o2], rfl, .ref o2, [], rfl, rfl, ?_⟩
    have s4 : ((σ.set 4 (some (V.ref o1))).set 5 (some (V.ref o2)))[4]? = some (some (.ref o1)) := by
      rw [List.getElem?_set_ne (by decide), List.getElem?_set_self (by omega)]
    have s5 : ((σ.set 4 (some (V.ref o1))).set 5 (some (V.ref o2)))[5]? = some (some (.ref o2)) := by
      rw [List.getElem?_set_self (by rw [List.length_set]; omega)]
    have s3 : ((σ.set 4 (some (V.ref o1))).set 5 (some (V.ref o2)))[3]? = some (some (.ref r)) := by
      rw [List.getElem?_set_ne (by decide), List.getElem?_set_ne (by decide)]; exact e3
    refine ⟨_, s3, .inl ⟨rfl, _, SqL.of hr'⟩, ?_⟩
    refine ⟨_, s4, _, s5, sz 0, ?_⟩
    intro p1 hp1
    have z := row_end (T := TT K) (Q := fun v G => LamX.ExtN H' G ∧ LamX.Tabs (TT K) G ∧ Row G (nulRow C) v) (r := nulRow C) (xs := []) (ys := []) (Same.refl H') t' g2 g3 trivial trivial rfl rfl rfl (fun v G xg u w => ⟨xg, u, w⟩) p1 hp1
    refine ⟨z.1, fun f1 G1 x1 u1 l1 => ⟨sz 4, fun p2 hp2 => ?_⟩⟩
    obtain ⟨xg, u, w⟩ := (z.2 f1 G1 x1 u1 l1).2 p2 hp2
    refine ⟨r, ts', _, rfl, rfl, xg _ _ hr' (fun _ q => nomatch q), by omega, ?_⟩
    obtain ⟨f1, f2, f3, f4⟩ := rows_step nr e' hr' pr' xg u w
    refine ⟨by simp [l6], s3, f1, f2, fun b' o z n ne => ?_, _, f3, by simp [hl']; omega, ?_⟩
    · rw [upd_ne ne]; exact xg _ _ (b _ _ z n ne) n
    · have : cs.take (i + 1) = cs.take i ++ [C] := by rw [List.take_succ, hC]; rfl
      rw [this, List.map_append, ← List.append_assoc]
      exact f4
  · rintro σ H' ⟨_, e3, e', _, _, ts', hr', _, pr'⟩
    rw [← paired_len pc, List.take_length] at pr'
    exact k _ _ _ e3 e' hr' pr'
theorem ok_rows (F : FnG K "_law_rows" 28 f fd) (hf : f = He.fAd K atR) (TB : LamX.TabB base mg (He.cT K atR).1 (He.cT K atR).2)
    (OArea : One P w K mg base "Area" "ratio" (cA K "Area"))
    (OSides : One P w K mg base "Sides" "rows" (cA K "Sides"))
    (OCovers : One P w K mg base "Covers" "rows" (cA K "Covers"))
    (OProfile : One P w K mg base "Profile" "rows" (cA K "Profile"))
    (OMeet : One P w K mg base "Meet" "ratio" (cA K "Meet"))
    (OSpot : One P w K mg base "Spot" "word" (cA K "Spot"))
    (OEars : One P w K mg base "Ears" "rows" (cA K "Ears"))
    (OApart : One P w K mg base "Apart" "direction" (cA K "Apart"))
    (OTilted : One P w K mg base "Tilted" "height" (cA K "Tilted"))
    (OPaper : One P w K mg base "Paper" "asked" (cA K "Paper"))
    (OM : Mod3 P w K mg base (cA K "Model"))
    (NSlides : Nul K mg "Slides" (cA K "Slides"))
    (NTurns : Nul K mg "Turns" (cA K "Turns"))
    (NLevels : Nul K mg "Levels" (cA K "Levels"))
    (NSteps : Nul K mg "Steps" (cA K "Steps"))
    (NUneven : Nul K mg "Uneven" (cA K "Uneven")) : FnOk P w K mg base CX0 4 f fd ["a", "b", "c"] (spRows K) := by
  obtain ⟨oc, od, dV, kV, doc, pm, an, cdv, ct, osl, rfl, lk, hcd, _, _⟩ := F.ex
  obtain ⟨cc, rfl⟩ := He.codeIn_ref hcd
  have ecc : (He.cT K atR).1 = cc := He.codeOf_eq (p := atR) (by rw [← hf]; exact lk) rfl
  refine fn_of lk hcd scRows (fun vs H Q E h => ?_) (fun A' outer s H vs Q E hr h => ?_)
  · obtain ⟨va, vb, vc, A, B, D, rfl, _⟩ := h
    rfl
  · obtain ⟨va, vb, vc, A, B, D, rfl, hA, hB, hD, hT, k⟩ := h
    have hcode : (envOfC "_law_rows" (defScope (top 28)) s.heap.objs.size f (.ref cc)).code = .ref (He.cT K atR).1 := by rw [ecc]; rfl
    obtain ⟨fArea, fdArea, MArea, GArea, bArea, kArea⟩ := OArea.ex
    obtain ⟨fSides, fdSides, MSides, GSides, bSides, kSides⟩ := OSides.ex
    obtain ⟨fCovers, fdCovers, MCovers, GCovers, bCovers, kCovers⟩ := OCovers.ex
    obtain ⟨fProfile, fdProfile, MProfile, GProfile, bProfile, kProfile⟩ := OProfile.ex
    obtain ⟨fMeet, fdMeet, MMeet, GMeet, bMeet, kMeet⟩ := OMeet.ex
    obtain ⟨fSpot, fdSpot, MSpot, GSpot, bSpot, kSpot⟩ := OSpot.ex
    obtain ⟨fEars, fdEars, MEars, GEars, bEars, kEars⟩ := OEars.ex
    obtain ⟨fApart, fdApart, MApart, GApart, bApart, kApart⟩ := OApart.ex
    obtain ⟨fTilted, fdTilted, MTilted, GTilted, bTilted, kTilted⟩ := OTilted.ex
    obtain ⟨fPaper, fdPaper, MPaper, GPaper, bPaper, kPaper⟩ := OPaper.ex
    obtain ⟨fM, fdM, MM, GM, bM, kM⟩ := OM.ex
    refine ⟨_, PSs.nox (pss_cons (ps_set (i := 3) scRows.nd rfl (Or.inl rfl) (pe_lst (pa_cons (pe_imp (pe_tup (pa_cons (pe_make MArea GArea hr rfl OArea.g bArea .nil pass0 (pa_cons (pv 0) pa_nil)) (pa_cons (pe_makeK0 MArea GArea hr rfl OArea.g kArea pass0 (pk_cons (pv 0) pk_nil)) (pa_cons (pe_tup (pa_cons (pv 0) pa_nil)) (pa_cons (pe_lamM (d := lamd 0) (T := TT K) TB hcode (List.mem_singleton.mpr rfl) (fun p hp _ => congrArg Prod.snd (List.mem_singleton.mp hp)) rfl rfl) pa_nil))))) (fun σ H Q h => row1 (K := K) (T := TT K) (C := cA K "Area") (fld := "ratio") (d := lamd 0) (j := 0) h)) pa_nil)))
      (pss_cons (ps_expr (pe_bm PySem.F.plainAttrs_list PySem.F.slot_list_append PySem.F.type_list_append mt_append (pv 3) (pa_cons (pe_imp (pe_tup (pa_cons (pe_make MSides GSides hr rfl OSides.g bSides .nil pass0 (pa_cons (pv 1) pa_nil)) (pa_cons (pe_makeK0 MSides GSides hr rfl OSides.g kSides pass0 (pk_cons (pv 1) pk_nil)) (pa_cons (pe_tup (pa_cons (pv 1) pa_nil)) (pa_cons (pe_lamM (d := lamd 1) (T := TT K) TB hcode (List.mem_singleton.mpr rfl) (fun p hp _ => congrArg Prod.snd (List.mem_singleton.mp hp)) rfl rfl) pa_nil))))) (fun σ H Q h => row1 (K := K) (T := TT K) (C := cA K "Sides") (fld := "rows") (d := lamd 1) (j := 1) h)) pa_nil)))
      (pss_cons (ps_expr (pe_bm PySem.F.plainAttrs_list PySem.F.slot_list_append PySem.F.type_list_append mt_append (pv 3) (pa_cons (pe_imp (pe_tup (pa_cons (pe_make MCovers GCovers hr rfl OCovers.g bCovers .nil pass0 (pa_cons (pv 2) pa_nil)) (pa_cons (pe_makeK0 MCovers GCovers hr rfl OCovers.g kCovers pass0 (pk_cons (pv 2) pk_nil)) (pa_cons (pe_tup (pa_cons (pv 2) pa_nil)) (pa_cons (pe_lamM (d := lamd 2) (T := TT K) TB hcode (List.mem_singleton.mpr rfl) (fun p hp _ => congrArg Prod.snd (List.mem_singleton.mp hp)) rfl rfl) pa_nil))))) (fun σ H Q h => row1 (K := K) (T := TT K) (C := cA K "Covers") (fld := "rows") (d := lamd 2) (j := 2) h)) pa_nil)))
      (pss_cons (ps_expr (pe_bm PySem.F.plainAttrs_list PySem.F.slot_list_append PySem.F.type_list_append mt_append (pv 3) (pa_cons (pe_imp (pe_tup (pa_cons (pe_make MProfile GProfile hr rfl OProfile.g bProfile .nil pass0 (pa_cons (pv 0) pa_nil)) (pa_cons (pe_makeK0 MProfile GProfile hr rfl OProfile.g kProfile pass0 (pk_cons (pv 0) pk_nil)) (pa_cons (pe_tup (pa_cons (pv 0) pa_nil)) (pa_cons (pe_lamM (d := lamd 3) (T := TT K) TB hcode (List.mem_singleton.mpr rfl) (fun p hp _ => congrArg Prod.snd (List.mem_singleton.mp hp)) rfl rfl) pa_nil))))) (fun σ H Q h => row1 (K := K) (T := TT K) (C := cA K "Profile") (fld := "rows") (d := lamd 3) (j := 0) h)) pa_nil)))
      (pss_cons (ps_expr (pe_bm PySem.F.plainAttrs_list PySem.F.slot_list_append PySem.F.type_list_append mt_append (pv 3) (pa_cons (pe_imp (pe_tup (pa_cons (pe_make MMeet GMeet hr rfl OMeet.g bMeet .nil pass0 (pa_cons (pv 1) pa_nil)) (pa_cons (pe_makeK0 MMeet GMeet hr rfl OMeet.g kMeet pass0 (pk_cons (pv 1) pk_nil)) (pa_cons (pe_tup (pa_cons (pv 1) pa_nil)) (pa_cons (pe_lamM (d := lamd 4) (T := TT K) TB hcode (List.mem_singleton.mpr rfl) (fun p hp _ => congrArg Prod.snd (List.mem_singleton.mp hp)) rfl rfl) pa_nil))))) (fun σ H Q h => row1 (K := K) (T := TT K) (C := cA K "Meet") (fld := "ratio") (d := lamd 4) (j := 1) h)) pa_nil)))
      (pss_cons (ps_expr (pe_bm PySem.F.plainAttrs_list PySem.F.slot_list_append PySem.F.type_list_append mt_append (pv 3) (pa_cons (pe_imp (pe_tup (pa_cons (pe_make MSpot GSpot hr rfl OSpot.g bSpot .nil pass0 (pa_cons (pv 2) pa_nil)) (pa_cons (pe_makeK0 MSpot GSpot hr rfl OSpot.g kSpot pass0 (pk_cons (pv 2) pk_nil)) (pa_cons (pe_tup (pa_cons (pv 2) pa_nil)) (pa_cons (pe_lamM (d := lamd 5) (T := TT K) TB hcode (List.mem_singleton.mpr rfl) (fun p hp _ => congrArg Prod.snd (List.mem_singleton.mp hp)) rfl rfl) pa_nil))))) (fun σ H Q h => row1 (K := K) (T := TT K) (C := cA K "Spot") (fld := "word") (d := lamd 5) (j := 2) h)) pa_nil)))
      (pss_cons (ps_expr (pe_bm PySem.F.plainAttrs_list PySem.F.slot_list_append PySem.F.type_list_append mt_append (pv 3) (pa_cons (pe_imp (pe_tup (pa_cons (pe_make MEars GEars hr rfl OEars.g bEars .nil pass0 (pa_cons (pv 0) pa_nil)) (pa_cons (pe_makeK0 MEars GEars hr rfl OEars.g kEars pass0 (pk_cons (pv 0) pk_nil)) (pa_cons (pe_tup (pa_cons (pv 0) pa_nil)) (pa_cons (pe_lamM (d := lamd 6) (T := TT K) TB hcode (List.mem_singleton.mpr rfl) (fun p hp _ => congrArg Prod.snd (List.mem_singleton.mp hp)) rfl rfl) pa_nil))))) (fun σ H Q h => row1 (K := K) (T := TT K) (C := cA K "Ears") (fld := "rows") (d := lamd 6) (j := 0) h)) pa_nil)))
      (pss_cons (ps_expr (pe_bm PySem.F.plainAttrs_list PySem.F.slot_list_append PySem.F.type_list_append mt_append (pv 3) (pa_cons (pe_imp (pe_tup (pa_cons (pe_make MApart GApart hr rfl OApart.g bApart .nil pass0 (pa_cons (pv 1) pa_nil)) (pa_cons (pe_makeK0 MApart GApart hr rfl OApart.g kApart pass0 (pk_cons (pv 1) pk_nil)) (pa_cons (pe_tup (pa_cons (pv 1) pa_nil)) (pa_cons (pe_lamM (d := lamd 7) (T := TT K) TB hcode (List.mem_singleton.mpr rfl) (fun p hp _ => congrArg Prod.snd (List.mem_singleton.mp hp)) rfl rfl) pa_nil))))) (fun σ H Q h => row1 (K := K) (T := TT K) (C := cA K "Apart") (fld := "direction") (d := lamd 7) (j := 1) h)) pa_nil)))
      (pss_cons (ps_expr (pe_bm PySem.F.plainAttrs_list PySem.F.slot_list_append PySem.F.type_list_append mt_append (pv 3) (pa_cons (pe_imp (pe_tup (pa_cons (pe_make MTilted GTilted hr rfl OTilted.g bTilted .nil pass0 (pa_cons (pv 2) pa_nil)) (pa_cons (pe_makeK0 MTilted GTilted hr rfl OTilted.g kTilted pass0 (pk_cons (pv 2) pk_nil)) (pa_cons (pe_tup (pa_cons (pv 2) pa_nil)) (pa_cons (pe_lamM (d := lamd 8) (T := TT K) TB hcode (List.mem_singleton.mpr rfl) (fun p hp _ => congrArg Prod.snd (List.mem_singleton.mp hp)) rfl rfl) pa_nil))))) (fun σ H Q h => row1 (K := K) (T := TT K) (C := cA K "Tilted") (fld := "height") (d := lamd 8) (j := 2) h)) pa_nil)))
      (pss_cons (ps_expr (pe_bm PySem.F.plainAttrs_list PySem.F.slot_list_append PySem.F.type_list_append mt_append (pv 3) (pa_cons (pe_imp (pe_tup (pa_cons (pe_make MPaper GPaper hr rfl OPaper.g bPaper .nil pass0 (pa_cons (pv 0) pa_nil)) (pa_cons (pe_makeK0 MPaper GPaper hr rfl OPaper.g kPaper pass0 (pk_cons (pv 0) pk_nil)) (pa_cons (pe_tup (pa_cons (pv 0) pa_nil)) (pa_cons (pe_lamM (d := lamd 9) (T := TT K) TB hcode (List.mem_singleton.mpr rfl) (fun p hp _ => congrArg Prod.snd (List.mem_singleton.mp hp)) rfl rfl) pa_nil))))) (fun σ H Q h => row1 (K := K) (T := TT K) (C := cA K "Paper") (fld := "asked") (d := lamd 9) (j := 0) h)) pa_nil)))
      (pss_cons (ps_expr (pe_bm PySem.F.plainAttrs_list PySem.F.slot_list_append PySem.F.type_list_append mt_append (pv 3) (pa_cons (pe_imp (pe_tup (pa_cons (pe_make MM GM hr rfl OM.g bM .nil pass0 (pa_cons (pv 0) (pa_cons (pv 1) (pa_cons (pv 2) pa_nil)))) (pa_cons (pe_makeK0 MM GM hr rfl OM.g kM pass0 (pk_cons (pv 2) (pk_cons (pv 1) (pk_cons (pv 0) pk_nil)))) (pa_cons (pe_tup (pa_cons (pv 0) (pa_cons (pv 1) (pa_cons (pv 2) pa_nil)))) (pa_cons (pe_lamM (d := lamd 10) (T := TT K) TB hcode (List.mem_singleton.mpr rfl) (fun p hp _ => congrArg Prod.snd (List.mem_singleton.mp hp)) rfl rfl) pa_nil))))) (fun σ H Q h => row3 (K := K) (T := TT K) (C := cA K "Model") (d := lamd 10) h)) pa_nil)))
      (pss_cons (ps_for PassesOwn.never rfl (pi_tup (pe_tup (pa_cons (pe_tup (pa_cons (pe_nul NSlides.makes NSlides.init NSlides.kp rfl NSlides.g) (pa_cons (pe_nul NSlides.makes NSlides.init NSlides.kp rfl NSlides.g) pa_nil))) (pa_cons (pe_tup (pa_cons (pe_nul NTurns.makes NTurns.init NTurns.kp rfl NTurns.g) (pa_cons (pe_nul NTurns.makes NTurns.init NTurns.kp rfl NTurns.g) pa_nil))) (pa_cons (pe_tup (pa_cons (pe_nul NLevels.makes NLevels.init NLevels.kp rfl NLevels.g) (pa_cons (pe_nul NLevels.makes NLevels.init NLevels.kp rfl NLevels.g) pa_nil))) (pa_cons (pe_tup (pa_cons (pe_nul NSteps.makes NSteps.init NSteps.kp rfl NSteps.g) (pa_cons (pe_nul NSteps.makes NSteps.init NSteps.kp rfl NSteps.g) pa_nil))) (pa_cons (pe_tup (pa_cons (pe_nul NUneven.makes NUneven.init NUneven.kp rfl NUneven.g) (pa_cons (pe_nul NUneven.makes NUneven.init NUneven.kp rfl NUneven.g) pa_nil))) pa_nil))))))) (pg_tup rfl (pgs_cons (pg_name (i := 4) scRows.nd rfl (Or.inl rfl)) (pgs_cons (pg_name (i := 5) scRows.nd rfl (Or.inl rfl)) pgs_nil))) (pss_one (ps_expr (pe_bm PySem.F.plainAttrs_list PySem.F.slot_list_append PySem.F.type_list_append mt_append (pv 3) (pa_cons (pe_tup (pa_cons (pv 4) (pa_cons (pv 5) (pa_cons (pe_tup pa_nil) (pa_cons (pe_lamM (d := lamd 11) (T := TT K) TB hcode (List.mem_singleton.mpr rfl) (fun p hp _ => congrArg Prod.snd (List.mem_singleton.mp hp)) rfl rfl) pa_nil))))) pa_nil)))))
      (pss_one (ps_ret (pv 3))))))))))))))), ?_⟩
    refine ⟨va, A, rfl, hA, hT, fun v0 G0 x0 u0 w0 => ⟨sz 1, fun r nr0 => ?_⟩⟩
    have nr : OnlyTbl H r := fun o q => Classical.byContradiction fun z => by
      have y := x0 _ _ q (fun ps e => z ⟨ps, e⟩)
      rw [nr0] at y; cases y
    have s0 : Same G0 (upd G0 r (.lst [v0])) := same_upd nr0
    have e0 := x0.trans (extN_of s0)
    have t0 := Tabs.same u0 s0
    have r0 : (upd G0 r (.lst [v0])) r = some (.lst [v0]) := upd_same
    have p0 : Paired (Row (upd G0 r (.lst [v0]))) [⟨cA K "Area", ["ratio"], [A], [va], lamd 0⟩] [v0] := .cons (w0.ext (extN_of s0)) .nil
    clear x0 u0 w0 s0
    generalize upd G0 r (.lst [v0]) = H0 at e0 t0 r0 p0 ⊢
    refine ⟨_, rfl, .inl ⟨rfl, _, SqL.of r0⟩, ?_⟩
    refine ⟨vb, B, rfl, here_ext e0 hB, t0, fun v1 G1 x1 u1 w1 => ⟨r, _, _, rfl, rfl, x1 _ _ r0 (fun _ q => nomatch q), sz 2, ?_⟩⟩
    obtain ⟨e1, t1, r1, p1⟩ := rows_step nr e0 r0 p0 x1 u1 w1
    clear e0 t0 r0 p0 x1 u1 w1
    generalize upd G1 r (.lst _) = H1 at e1 t1 r1 p1 ⊢
    refine ⟨_, rfl, .inl ⟨rfl, _, SqL.of r1⟩, ?_⟩
    refine ⟨vc, D, rfl, here_ext e1 hD, t1, fun v2 G2 x2 u2 w2 => ⟨r, _, _, rfl, rfl, x2 _ _ r1 (fun _ q => nomatch q), sz 3, ?_⟩⟩
    obtain ⟨e2, t2, r2, p2⟩ := rows_step nr e1 r1 p1 x2 u2 w2
    clear e1 t1 r1 p1 x2 u2 w2
    generalize upd G2 r (.lst _) = H2 at e2 t2 r2 p2 ⊢
    refine ⟨_, rfl, .inl ⟨rfl, _, SqL.of r2⟩, ?_⟩
    refine ⟨va, A, rfl, here_ext e2 hA, t2, fun v3 G3 x3 u3 w3 => ⟨r, _, _, rfl, rfl, x3 _ _ r2 (fun _ q => nomatch q), sz 4, ?_⟩⟩
    obtain ⟨e3, t3, r3, p3⟩ := rows_step nr e2 r2 p2 x3 u3 w3
    clear e2 t2 r2 p2 x3 u3 w3
    generalize upd G3 r (.lst _) = H3 at e3 t3 r3 p3 ⊢
    refine ⟨_, rfl, .inl ⟨rfl, _, SqL.of r3⟩, ?_⟩
    refine ⟨vb, B, rfl, here_ext e3 hB, t3, fun v4 G4 x4 u4 w4 => ⟨r, _, _, rfl, rfl, x4 _ _ r3 (fun _ q => nomatch q), sz 5, ?_⟩⟩
    obtain ⟨e4, t4, r4, p4⟩ := rows_step nr e3 r3 p3 x4 u4 w4
    clear e3 t3 r3 p3 x4 u4 w4
    generalize upd G4 r (.lst _) = H4 at e4 t4 r4 p4 ⊢
    refine ⟨_, rfl, .inl ⟨rfl, _, SqL.of r4⟩, ?_⟩
    refine ⟨vc, D, rfl, here_ext e4 hD, t4, fun v5 G5 x5 u5 w5 => ⟨r, _, _, rfl, rfl, x5 _ _ r4 (fun _ q => nomatch q), sz 6, ?_⟩⟩
    obtain ⟨e5, t5, r5, p5⟩ := rows_step nr e4 r4 p4 x5 u5 w5
    clear e4 t4 r4 p4 x5 u5 w5
    generalize upd G5 r (.lst _) = H5 at e5 t5 r5 p5 ⊢
    refine ⟨_, rfl, .inl ⟨rfl, _, SqL.of r5⟩, ?_⟩
    refine ⟨va, A, rfl, here_ext e5 hA, t5, fun v6 G6 x6 u6 w6 => ⟨r, _, _, rfl, rfl, x6 _ _ r5 (fun _ q => nomatch q), sz 7, ?_⟩⟩
    obtain ⟨e6, t6, r6, p6⟩ := rows_step nr e5 r5 p5 x6 u6 w6
    clear e5 t5 r5 p5 x6 u6 w6
    generalize upd G6 r (.lst _) = H6 at e6 t6 r6 p6 ⊢
    refine ⟨_, rfl, .inl ⟨rfl, _, SqL.of r6⟩, ?_⟩
    refine ⟨vb, B, rfl, here_ext e6 hB, t6, fun v7 G7 x7 u7 w7 => ⟨r, _, _, rfl, rfl, x7 _ _ r6 (fun _ q => nomatch q), sz 8, ?_⟩⟩
    obtain ⟨e7, t7, r7, p7⟩ := rows_step nr e6 r6 p6 x7 u7 w7
    clear e6 t6 r6 p6 x7 u7 w7
    generalize upd G7 r (.lst _) = H7 at e7 t7 r7 p7 ⊢
    refine ⟨_, rfl, .inl ⟨rfl, _, SqL.of r7⟩, ?_⟩
    refine ⟨vc, D, rfl, here_ext e7 hD, t7, fun v8 G8 x8 u8 w8 => ⟨r, _, _, rfl, rfl, x8 _ _ r7 (fun _ q => nomatch q), sz 9, ?_⟩⟩
    obtain ⟨e8, t8, r8, p8⟩ := rows_step nr e7 r7 p7 x8 u8 w8
    clear e7 t7 r7 p7 x8 u8 w8
    generalize upd G8 r (.lst _) = H8 at e8 t8 r8 p8 ⊢
    refine ⟨_, rfl, .inl ⟨rfl, _, SqL.of r8⟩, ?_⟩
    refine ⟨va, A, rfl, here_ext e8 hA, t8, fun v9 G9 x9 u9 w9 => ⟨r, _, _, rfl, rfl, x9 _ _ r8 (fun _ q => nomatch q), sz 10, ?_⟩⟩
    obtain ⟨e9, t9, r9, p9⟩ := rows_step nr e8 r8 p8 x9 u9 w9
    clear e8 t8 r8 p8 x9 u9 w9
    generalize upd G9 r (.lst _) = H9 at e9 t9 r9 p9 ⊢
    refine ⟨_, rfl, .inl ⟨rfl, _, SqL.of r9⟩, ?_⟩
    refine ⟨va, vb, vc, A, B, D, rfl, rfl, rfl, here_ext e9 hA, here_ext e9 hB, here_ext e9 hD, t9, fun v10 G10 x10 u10 w10 => ⟨r, _, _, rfl, rfl, x10 _ _ r9 (fun _ q => nomatch q), sz 11, ?_⟩⟩
    obtain ⟨e10, t10, r10, p10⟩ := rows_step nr e9 r9 p9 x10 u10 w10
    clear e9 t9 r9 p9 x10 u10 w10
    generalize upd G10 r (.lst _) = H10 at e10 t10 r10 p10 ⊢
    dsimp only [tSeq, tFor, iTup]
    refine tup_cons (two_nul' fun n1 B1 z1 q1 => cons_of (two_nul' fun n2 B2 z2 q2 => cons_of (two_nul' fun n3 B3 z3 q3 => cons_of (two_nul' fun n4 B4 z4 q4 => cons_of (two_nul' fun n5 B5 z5 q5 => ?_)))))
    refine ⟨sz 5, fun p hp => ?_⟩
    have z6 : Same B5 (upd B5 p (.tup [n1, n2, n3, n4, n5])) := same_upd hp
    have z : Same H10 (upd B5 p (.tup [n1, n2, n3, n4, n5])) := ((((z1.trans z2).trans z3).trans z4).trans z5).trans z6
    refine ⟨p, rfl, ⟨_, SqT.of upd_same⟩, ?_⟩
    refine nul_loop (D := { nx := fun x H' => tRet (tVar 3) { nx := fun x H' => Q V.non H', rt := Q } x H', rt := Q }) (cs := [cA K "Slides", cA K "Turns", cA K "Levels", cA K "Steps", cA K "Uneven"]) (xs := [n1, n2, n3, n4, n5]) (σ := (L2.start ["a", "b", "c", "rows", "one", "two"] [va, vb, vc]).set 3 (some (.ref r))) rfl nr (e10.trans (extN_of z)) (Tabs.same t10 z) (z _ _ r10) (Paired.mapP p10 fun a b q => q.ext (extN_of z)) upd_same ?_ rfl rfl (sz 16) ?_
    · exact .cons (q1.same ((((z2.trans z3).trans z4).trans z5).trans z6)) (.cons (q2.same (((z3.trans z4).trans z5).trans z6)) (.cons (q3.same ((z4.trans z5).trans z6)) (.cons (q4.same (z5.trans z6)) (.cons (q5.same z6) .nil))))
    · exact fun σ' H' ts' a1 a2 a3 a4 => ⟨_, a1, k r ts' H' nr a2 a3 a4⟩
end
end K90

set_option maxHeartbeats 4000000
namespace K90
open PySem PySem.Spec PyProof.Rows L2
section
variable {P : Program} {w : World} {K : PySem.W.Frag} {mg : Str → Option Value} {base : Heap}
/-! ### the comparisons of all classes as one -/
structure CF (P : Program) (w : World) (K : PySem.W.Frag) (mg : Str → Option Value) (base : Heap) (C : Addr) (nm : List Str) : Prop where
  ic : C8.InsC K C
  nf : PySem.W.notFirst K C (.ref C) = true
  eq : ∃ f fd, PySem.W.findIn K (.ref C) "__eq__" = some (some (.ref f)) ∧ PySem.W.isFn K (.ref f) = true ∧ FnOk P w K mg base CX0 3 f fd ["self", "other"] (spEq K C nm) ∧ L2.Binds K fd ["self", "other"] []
  ne : ∃ f fd, PySem.W.findIn K (.ref C) "__ne__" = some (some (.ref f)) ∧ PySem.W.isFn K (.ref f) = true ∧ FnOk P w K mg base CX0 4 f fd ["self", "other"] (spNe K C nm) ∧ L2.Binds K fd ["self", "other"] []
def rEqA (P : Program) (w : World) (K : PySem.W.Frag) (mg : Str → Option Value) (base : Heap) : R2 := fun x y H Q => ∃ C nm, CF P w K mg base C nm ∧ rOwn K C (spEq K C nm) E0 x y H Q
def rNeA (P : Program) (w : World) (K : PySem.W.Frag) (mg : Str → Option Value) (base : Heap) : R2 := fun x y H Q => ∃ C nm, CF P w K mg base C nm ∧ rOwn K C (spNe K C nm) E0 x y H Q
theorem op_eqA {X : Cx} (hr : Room 3 X.A) (hu : X.A.units < cLine) : OpR X (compareOp .Eq) (rEqA X.prog X.w X.K X.mg X.base) := fun pins s σ H x y v u Q I rx ry h => by
  obtain ⟨C, nm, c, h⟩ := h
  obtain ⟨f, fd, h1, h2, h3, h4⟩ := c.eq
  exact op_own_eq h3 hr hu h1 h2 h4 pass0 pins s σ H x y v u Q I rx ry h
theorem op_neA {X : Cx} (hr : Room 4 X.A) (hu : X.A.units < cLine) : OpR X (compareOp .NotEq) (rNeA X.prog X.w X.K X.mg X.base) := fun pins s σ H x y v u Q I rx ry h => by
  obtain ⟨C, nm, c, h⟩ := h
  obtain ⟨f, fd, h1, h2, h3, h4⟩ := c.ne
  exact op_own_ne h3 hr hu h1 h2 h4 pass0 pins s σ H x y v u Q I rx ry h
/-- an instance of the class at C with such data -/
def Ins (K : PySem.W.Frag) (H : Hp) (C : Addr) (nm : List Str) (ds : List PyData) (v : V) : Prop := ∃ a dx xs, v = .ref a ∧ H a = some (.ins C dx (nm.zip xs)) ∧ DpAll K H xs ds ∧ xs.length = nm.length
theorem Ins.same {H H' : Hp} {C : Addr} {nm : List Str} {ds : List PyData} {v : V} (s : Same H H') (h : Ins K H C nm ds v) : Ins K H' C nm ds v := by
  obtain ⟨a, dx, xs, e, h1, h2, h3⟩ := h
  exact ⟨a, dx, xs, e, s _ _ h1, dps_same s h2, h3⟩
/-- the kinds that stand at the right of a comparison -/
def Kd (K : PySem.W.Frag) (H : Hp) (y : V) (tb : Value) : Prop := (∃ C a dx fs, y = .ref a ∧ C8.InsC K C ∧ H a = some (.ins C dx fs) ∧ tb = .ref C) ∨ (∃ i, y = .int i ∧ tb = .type "int") ∨ ∃ z, y = .str z ∧ tb = .type "str"
theorem Kd.ty {H : Hp} {y : V} {tb : Value} (h : Kd K H y tb) : TyX K H y tb := by
  rcases h with ⟨C, a, dx, fs, rfl, c, ha, rfl⟩ | ⟨i, rfl, rfl⟩ | ⟨z, rfl, rfl⟩
  · exact .base (.ins ha c.cl c.ha c.hn c.htk c.hm)
  · exact .base (.int i)
  · exact .base (.str z)
theorem Kd.same {H H' : Hp} {y : V} {tb : Value} (s : Same H H') (h : Kd K H y tb) : Kd K H' y tb := by
  rcases h with ⟨C, a, dx, fs, rfl, c, ha, rfl⟩ | ⟨i, rfl, rfl⟩ | ⟨z, rfl, rfl⟩
  · exact .inl ⟨C, a, dx, fs, rfl, c, s _ _ ha, rfl⟩
  · exact .inr (.inl ⟨i, rfl, rfl⟩)
  · exact .inr (.inr ⟨z, rfl, rfl⟩)
theorem Ins.kd {H : Hp} {C : Addr} {nm : List Str} {ds : List PyData} {v : V} (h : Ins K H C nm ds v) (c : C8.InsC K C) : Kd K H v (.ref C) := by
  obtain ⟨a, dx, xs, e, h1, _⟩ := h
  exact .inl ⟨C, a, dx, _, e, c, h1, rfl⟩
/-- what x == y answers -/
inductive Cmp (P : Program) (w : World) (K : PySem.W.Frag) (mg : Str → Option Value) (base : Heap) (H : Hp) (x y : V) : Bool → Prop where
  | same {C : Addr} {nm : List Str} {ds es : List PyData} (c : CF P w K mg base C nm) (hx : Ins K H C nm ds x) (hy : Ins K H C nm es y) (sx : ShAll ds) (sy : ShAll es) : Cmp P w K mg base H x y (eqR ds es)
  | diff {C : Addr} {nm : List Str} {ds : List PyData} {tb : Value} (c : CF P w K mg base C nm) (hx : Ins K H C nm ds x) (sx : ShAll ds) (ky : Kd K H y tb) (k : PySem.W.kitOne K tb (.ref C) = some false) (n : PySem.W.notFirst K C tb = true) : Cmp P w K mg base H x y false
theorem Cmp.stay {H H' : Hp} {x y : V} {b : Bool} (s : Same H H') (h : Cmp P w K mg base H x y b) : Cmp P w K mg base H' x y b := by
  cases h with
  | same c hx hy sx sy => exact .same c (hx.same s) (hy.same s) sx sy
  | diff c hx sx ky k n => exact .diff c (hx.same s) sx (ky.same s) k n
theorem Cmp.sp {H : Hp} {x y : V} {b : Bool} (h : Cmp P w K mg base H x y b) {Q : VK} (q : ∀ H', Same H H' → Q (.bl b) H') : ∃ C nm a dx fs tb, CF P w K mg base C nm ∧ x = .ref a ∧ H a = some (.ins C dx fs) ∧ TyX K H y tb ∧ PySem.W.notFirst K C tb = true ∧ spEq K C nm [x, y] H Q E0 := by
  cases h with
  | same c hx hy sx sy =>
    obtain ⟨a, dx, xs, rfl, h1, h2, h3⟩ := hx
    have ty := (hy.kd c.ic).ty
    obtain ⟨e, dy, ys, rfl, g1, g2, g3⟩ := hy
    exact ⟨_, _, a, dx, _, _, c, rfl, h1, ty, c.nf, a, dx, xs, _, _, _, true, rfl, h1, h2, h3, ty, c.ic.me, sx, (fun z => nomatch z), fun _ => ⟨e, dy, ys, _, rfl, g1, g2, g3, sy, q⟩⟩
  | diff c hx sx ky k n =>
    obtain ⟨a, dx, xs, rfl, h1, h2, h3⟩ := hx
    exact ⟨_, _, a, dx, _, _, c, rfl, h1, ky.ty, n, a, dx, xs, _, _, _, false, rfl, h1, h2, h3, ky.ty, k, sx, fun _ => q, (fun z => nomatch z)⟩
theorem Cmp.eq {H : Hp} {x y : V} {b : Bool} (h : Cmp P w K mg base H x y b) {Q : VK} (q : ∀ H', Same H H' → Q (.bl b) H') : rEqA P w K mg base x y H Q := by
  obtain ⟨C, nm, a, dx, fs, tb, c, e, h1, ty, n, k⟩ := h.sp (Q := fun v H' => ∃ b, v = .bl b ∧ Q (.bl b) H') fun H' s => ⟨b, rfl, q H' s⟩
  exact ⟨C, nm, c, a, dx, fs, tb, e, h1, ty, n, k⟩
theorem Cmp.ne {H : Hp} {x y : V} {b : Bool} (h : Cmp P w K mg base H x y b) {Q : VK} (q : ∀ H', Same H H' → Q (.bl (!b)) H') : rNeA P w K mg base x y H Q := by
  obtain ⟨C, nm, a, dx, fs, tb, c, e, h1, ty, n, k⟩ := h.sp (Q := fun v H' => ∃ b, v = .bl b ∧ ∃ b', V.bl (!b) = .bl b' ∧ Q (.bl b') H') fun H' s => ⟨b, rfl, !b, rfl, q H' s⟩
  subst e
  exact ⟨C, nm, c, a, dx, fs, tb, rfl, h1, ty, n, a, dx, fs, y, tb, rfl, h1, ty, n, k⟩
/-! ### closed data handed in -/
def Yd (K : PySem.W.Frag) (ta : TE) (d : PyData) : Prop := ∀ σ H Q, (∀ v H', Same H H' → Dp K H' v d → Q v H') → ta σ H Q
theorem yd_int {i : Int} : Yd K (tC (.int i)) (.int i) := fun _ H _ h => h _ H (Same.refl H) (.int i)
theorem yd_str {z : Str} : Yd K (tC (.str z)) (.str z) := fun _ H _ h => h _ H (Same.refl H) (.str z)
theorem yd_non : Yd K (tC .non) .none := fun _ H _ h => h _ H (Same.refl H) .non
theorem yd_2 {i j : Int} : Yd K (tTup (tCons (tC (.int i)) (tCons (tC (.int j)) tNil))) (.tuple [.int i, .int j]) := fun _ H _ h => ⟨sz 2, fun p hp => h _ _ (same_upd hp) (.tup (SqT.of upd_same) (.cons (.int i) (.cons (.int j) .nil)))⟩
theorem yd_3 {i j k : Int} : Yd K (tTup (tCons (tC (.int i)) (tCons (tC (.int j)) (tCons (tC (.int k)) tNil)))) (.tuple [.int i, .int j, .int k]) := fun _ H _ h => ⟨sz 3, fun p hp => h _ _ (same_upd hp) (.tup (SqT.of upd_same) (.cons (.int i) (.cons (.int j) (.cons (.int k) .nil))))⟩
def tIn (K : PySem.W.Frag) (C : Addr) (nm : List Str) (ds : List PyData) : TE := fun _ H Q => ∀ v H', Same H H' → Ins K H' C nm ds v → Q v H'
theorem mk0 {C : Addr} {σ : L2.St} {H : Hp} {Q : VK} (h : tIn K C [] [] σ H Q) : tNul C σ H Q := fun x dx nx nd ne => h _ _ (made_same nx nd) ⟨x, dx, [], rfl, upd_same, .nil, rfl⟩
theorem mk1 {C : Addr} {fld : Str} {ta : TE} {d : PyData} (y : Yd K ta d) (hl : isL d = false) {σ : L2.St} {H : Hp} {Q : VK} (h : tIn K C [fld] [d] σ H Q) : tMake C (spInit1 K C fld) [] E0 (tCons ta tNil) σ H Q := by
  refine y σ H _ fun v H1 s1 hv x dx nx nd ne => ?_
  have s2 := made_same (C := C) nx nd
  refine ⟨x, v, dx, .flat v d, rfl, upd_same, ⟨rfl, dp_same s2 hv, hl⟩, fun v1 H2 c1 o1 s3 => ⟨rfl, ?_⟩⟩
  have c1' : v1 = v := c1
  subst c1'
  have s4 := made_then nx nd s3
  exact h _ _ (s1.trans s4) ⟨x, dx, [v1], rfl, o1, .cons (dp_same s4 hv) .nil, rfl⟩
theorem mk3 {C : Addr} {ta tb tc : TE} {d e j : PyData} (ya : Yd K ta d) (yb : Yd K tb e) (yc : Yd K tc j) (la : isL d = false) (lb : isL e = false) (lc : isL j = false) {σ : L2.St} {H : Hp} {Q : VK} (h : tIn K C mnm [d, e, j] σ H Q) :
    tMake C (spInit3 K C) [] E0 (tCons ta (tCons tb (tCons tc tNil))) σ H Q := by
  refine ya σ H _ fun u H1 s1 hu => yb σ H1 _ fun v H2 s2 hv => yc σ H2 _ fun z H3 s3 hz => fun x dx nx nd ne => ?_
  have m := made_same (C := C) nx nd
  have hu := dp_same s3 (dp_same s2 hu)
  have hv := dp_same s3 hv
  refine ⟨x, u, v, z, dx, .flat u d, .flat v e, .flat z j, rfl, upd_same, ⟨rfl, dp_same m hu, la⟩, ⟨rfl, dp_same m hv, lb⟩, ⟨rfl, dp_same m hz, lc⟩, fun u1 v1 z1 H4 c1 c2 c3 o1 s4 => ⟨rfl, ?_⟩⟩
  have e1 : u1 = u := c1
  have e2 : v1 = v := c2
  have e3 : z1 = z := c3
  subst e1 e2 e3
  have s5 := made_then nx nd s4
  exact h _ _ (((s1.trans s2).trans s3).trans s5) ⟨x, dx, [u1, v1, z1], rfl, o1, .cons (dp_same s5 hu) (.cons (dp_same s5 hv) (.cons (dp_same s5 hz) .nil)), rfl⟩
/-! ### unlike pairs -/
def UnP (P : Program) (w : World) (K : PySem.W.Frag) (mg : Str → Option Value) (base : Heap) (H : Hp) (t : V) : Prop := ∃ a x y, t = .ref a ∧ H a = some (.tup [x, y]) ∧ Cmp P w K mg base H x y false
theorem UnP.same {H H' : Hp} {t : V} (s : Same H H') (h : UnP P w K mg base H t) : UnP P w K mg base H' t := by
  obtain ⟨a, x, y, e, h1, h2⟩ := h
  exact ⟨a, x, y, e, s _ _ h1, h2.stay s⟩
def tUn1 (P : Program) (w : World) (K : PySem.W.Frag) (mg : Str → Option Value) (base : Heap) : TE := fun _ H Q => ∀ t H', Same H H' → UnP P w K mg base H' t → Q t H'
theorem un_same {C : Addr} {nm : List Str} {ds es : List PyData} (c : CF P w K mg base C nm) (sx : ShAll ds) (sy : ShAll es) (e : eqR ds es = false) {σ : L2.St} {H : Hp} {Q : VK} (h : tUn1 P w K mg base σ H Q) : tTup (tCons (tIn K C nm ds) (tCons (tIn K C nm es) tNil)) σ H Q := by
  refine tup_cons fun x H1 s1 hx => cons_of fun y H2 s2 hy => ⟨sz 2, fun p hp => ?_⟩
  have s3 := same_upd (o := .tup [x, y]) hp
  refine h _ _ ((s1.trans s2).trans s3) ⟨p, x, y, rfl, upd_same, ?_⟩
  rw [← e]
  exact .same c ((hx.same s2).same s3) (hy.same s3) sx sy
theorem un_diff {C D : Addr} {nm nm' : List Str} {ds es : List PyData} (c : CF P w K mg base C nm) (d : C8.InsC K D) (k : PySem.W.kitOne K (.ref D) (.ref C) = some false) (n : PySem.W.notFirst K C (.ref D) = true) (sx : ShAll ds) {σ : L2.St} {H : Hp} {Q : VK} (h : tUn1 P w K mg base σ H Q) :
    tTup (tCons (tIn K C nm ds) (tCons (tIn K D nm' es) tNil)) σ H Q := by
  refine tup_cons fun x H1 s1 hx => cons_of fun y H2 s2 hy => ⟨sz 2, fun p hp => ?_⟩
  have s3 := same_upd (o := .tup [x, y]) hp
  exact h _ _ ((s1.trans s2).trans s3) ⟨p, x, y, rfl, upd_same, .diff c ((hx.same s2).same s3) sx ((hy.same s3).kd d) k n⟩
theorem un_val {C : Addr} {nm : List Str} {ds : List PyData} {y : V} {tb : Value} (c : CF P w K mg base C nm) (ky : ∀ H, Kd K H y tb) (k : PySem.W.kitOne K tb (.ref C) = some false) (n : PySem.W.notFirst K C tb = true) (sx : ShAll ds) {σ : L2.St} {H : Hp} {Q : VK} (h : tUn1 P w K mg base σ H Q) :
    tTup (tCons (tIn K C nm ds) (tCons (tC y) tNil)) σ H Q := by
  refine tup_cons fun x H1 s1 hx => ⟨sz 2, fun p hp => ?_⟩
  have s3 := same_upd (o := .tup [x, y]) hp
  exact h _ _ (s1.trans s3) ⟨p, x, y, rfl, upd_same, .diff c (hx.same s3) sx (ky _) k n⟩
def tRep (t : TE) : Nat → TA
  | 0 => tNil
  | n + 1 => tCons t (tRep t n)
theorem rep_un : ∀ (n : Nat) {σ : L2.St} {H : Hp} {Q : List V → Hp → Prop}, (∀ ts H', Same H H' → ts.length = n → (∀ t ∈ ts, UnP P w K mg base H' t) → Q ts H') → tRep (tUn1 P w K mg base) n σ H Q
  | 0, σ, H, Q, h => h [] H (Same.refl H) rfl (fun _ q => nomatch q)
  | n + 1, σ, H, Q, h => fun t H1 s1 u1 => rep_un n fun ts H2 s2 l2 u2 => h (t :: ts) H2 (s1.trans s2) (by simp [l2]) fun t' m => by
    rcases List.mem_cons.mp m with rfl | m
    · exact u1.same s2
    · exact u2 t' m
theorem lst_un {n : Nat} (hn : n ≤ 1000) {σ : L2.St} {H : Hp} {Q : VK} (h : ∀ r ts H', Same H H' → H' r = some (.lst ts) → ts.length = n → (∀ t ∈ ts, UnP P w K mg base H' t) → Q (.ref r) H') : tLst (tRep (tUn1 P w K mg base) n) σ H Q :=
  rep_un n fun ts H1 s1 l1 u1 => ⟨by rw [l1]; exact sz n hn, fun r hr => h r ts _ (s1.trans (same_upd hr)) upd_same l1 fun t m => (u1 t m).same (same_upd hr)⟩
theorem cat_un {H H' : Hp} {r r2 : Addr} {xs ys : List V} {n m : Nat} {Q : VK} (hr : H r = some (.lst xs)) (lx : xs.length = n) (ux : ∀ t ∈ xs, UnP P w K mg base H t) (s : Same H H') (hr2 : H' r2 = some (.lst ys)) (ly : ys.length = m) (uy : ∀ t ∈ ys, UnP P w K mg base H' t) (hs : n + m ≤ 1000)
    (k : ∀ p zs G, Same H G → G p = some (.lst zs) → zs.length = n + m → (∀ t ∈ zs, UnP P w K mg base G t) → Q (.ref p) G) : rCat (.ref r) (.ref r2) H' Q := by
  refine ⟨r, r2, xs, ys, rfl, rfl, s _ _ hr, hr2, by rw [lx, ly]; exact sz _ hs, fun p hp => ?_⟩
  refine k p (xs ++ ys) _ (s.trans (same_upd hp)) upd_same (by rw [List.length_append, lx, ly]) fun t m => ?_
  rcases List.mem_append.mp m with m | m
  · exact (ux t m).same (s.trans (same_upd hp))
  · exact (uy t m).same (same_upd hp)
/-- all that is known of the classes -/
structure W16 (P : Program) (w : World) (K : PySem.W.Frag) (mg : Str → Option Value) (base : Heap) : Prop where
  one : ∀ p ∈ ([("Area", "ratio"), ("Sides", "rows"), ("Covers", "rows"), ("Profile", "rows"), ("Meet", "ratio"), ("Spot", "word"), ("Ears", "rows"), ("Apart", "direction"), ("Tilted", "height"), ("Paper", "asked")] : List (Str × Str)), One P w K mg base p.1 p.2 (cA K p.1) ∧ CF P w K mg base (cA K p.1) [p.2]
  mod : Mod3 P w K mg base (cA K "Model") ∧ CF P w K mg base (cA K "Model") mnm
  nul : ∀ n ∈ (["Slides", "Turns", "Levels", "Steps", "Uneven"] : List Str), Nul K mg n (cA K n) ∧ CF P w K mg base (cA K n) []
  two : ∀ c ∈ names16, ∀ d ∈ names16, PySem.W.kitOne K (.ref (cA K d)) (.ref (cA K c)) = some (decide (c = d)) ∧ PySem.W.notFirst K (cA K c) (.ref (cA K d)) = true
  ty : ∀ c ∈ names16, ∀ t ∈ ["str", "int"], PySem.W.kitOne K (.type t) (.ref (cA K c)) = some false ∧ PySem.W.notFirst K (cA K c) (.type t) = true
theorem shAll_of {ds : List PyData} (h : (ds.all SeqAt.shaped && SeqAt.shaped (.tuple ds)) = true) : ShAll ds := by
  rw [Bool.and_eq_true, List.all_eq_true] at h
  exact h
def spUn (P : Program) (w : World) (K : PySem.W.Frag) (mg : Str → Option Value) (base : Heap) : Sp := fun vs H Q _ => vs = [] ∧ ∀ (r : Addr) (ts : List V) (H' : Hp), Same H H' → H' r = some (.lst ts) → ts.length = 25 → (∀ t ∈ ts, UnP P w K mg base H' t) → Q (.ref r) H'
theorem scUn : FnScope ["rows"] [] (defScope (top 29)) := ⟨rfl, rfl, rfl, by decide +kernel, rfl, by decide +kernel, by decide +kernel⟩
theorem ok_unlike {f : Addr} {fd : FuncData} (F : FnG K "_law_unlike" 29 f fd) (W : W16 P w K mg base) : FnOk P w K mg base CX0 4 f fd [] (spUn P w K mg base) := by
  obtain ⟨OArea, CArea⟩ := W.one ("Area", "ratio") (by decide +kernel)
  obtain ⟨fArea, fdArea, MArea, GArea, bArea, _⟩ := OArea.ex
  obtain ⟨OSides, CSides⟩ := W.one ("Sides", "rows") (by decide +kernel)
  obtain ⟨fSides, fdSides, MSides, GSides, bSides, _⟩ := OSides.ex
  obtain ⟨OCovers, CCovers⟩ := W.one ("Covers", "rows") (by decide +kernel)
  obtain ⟨fCovers, fdCovers, MCovers, GCovers, bCovers, _⟩ := OCovers.ex
  obtain ⟨OProfile, CProfile⟩ := W.one ("Profile", "rows") (by decide +kernel)
  obtain ⟨fProfile, fdProfile, MProfile, GProfile, bProfile, _⟩ := OProfile.ex
  obtain ⟨OMeet, CMeet⟩ := W.one ("Meet", "ratio") (by decide +kernel)
  obtain ⟨fMeet, fdMeet, MMeet, GMeet, bMeet, _⟩ := OMeet.ex
  obtain ⟨OSpot, CSpot⟩ := W.one ("Spot", "word") (by decide +kernel)
  obtain ⟨fSpot, fdSpot, MSpot, GSpot, bSpot, _⟩ := OSpot.ex
  obtain ⟨OEars, CEars⟩ := W.one ("Ears", "rows") (by decide +kernel)
  obtain ⟨fEars, fdEars, MEars, GEars, bEars, _⟩ := OEars.ex
  obtain ⟨OApart, CApart⟩ := W.one ("Apart", "direction") (by decide +kernel)
  obtain ⟨fApart, fdApart, MApart, GApart, bApart, _⟩ := OApart.ex
  obtain ⟨OTilted, CTilted⟩ := W.one ("Tilted", "height") (by decide +kernel)
  obtain ⟨fTilted, fdTilted, MTilted, GTilted, bTilted, _⟩ := OTilted.ex
  obtain ⟨OPaper, CPaper⟩ := W.one ("Paper", "asked") (by decide +kernel)
  obtain ⟨fPaper, fdPaper, MPaper, GPaper, bPaper, _⟩ := OPaper.ex
  obtain ⟨OM, CModel⟩ := W.mod
  obtain ⟨fM, fdM, MM, GM, bM, _⟩ := OM.ex
  obtain ⟨NSlides, CSlides⟩ := W.nul "Slides" (by decide +kernel)
  obtain ⟨NTurns, CTurns⟩ := W.nul "Turns" (by decide +kernel)
  obtain ⟨NLevels, CLevels⟩ := W.nul "Levels" (by decide +kernel)
  obtain ⟨NSteps, CSteps⟩ := W.nul "Steps" (by decide +kernel)
  obtain ⟨NUneven, CUneven⟩ := W.nul "Uneven" (by decide +kernel)
  refine F.ok scUn (fun vs H Q E h => ?_) (fun cdv A outer s H vs Q E hr h => ?_)
  · obtain ⟨rfl, _⟩ := h
    rfl
  · obtain ⟨rfl, k⟩ := h
    refine ⟨_, PSs.nox (pss_cons (ps_set (i := 0) scUn.nd rfl (Or.inl rfl) (pe_lst (pa_cons (pe_imp (t' := tUn1 P w K mg base) (pe_tup (pa_cons (pe_imp (pe_make MArea GArea hr rfl OArea.g bArea .nil pass0 (pa_cons pe_int pa_nil)) (fun σ H Q h => mk1 (K := K) (fld := "ratio") (d := .int 1) yd_int rfl h)) (pa_cons (pe_imp (pe_make MArea GArea hr rfl OArea.g bArea .nil pass0 (pa_cons pe_int pa_nil)) (fun σ H Q h => mk1 (K := K) (fld := "ratio") (d := .int 0) yd_int rfl h)) pa_nil))) (fun σ H Q h => un_same (nm := ["ratio"]) (ds := [.int 1]) (es := [.int 0]) CArea (shAll_of (by decide +kernel)) (shAll_of (by decide +kernel)) (by decide +kernel) h))
      (pa_cons (pe_imp (t' := tUn1 P w K mg base) (pe_tup (pa_cons (pe_imp (pe_make MSides GSides hr rfl OSides.g bSides .nil pass0 (pa_cons pe_int pa_nil)) (fun σ H Q h => mk1 (K := K) (fld := "rows") (d := .int 1) yd_int rfl h)) (pa_cons (pe_imp (pe_make MSides GSides hr rfl OSides.g bSides .nil pass0 (pa_cons pe_int pa_nil)) (fun σ H Q h => mk1 (K := K) (fld := "rows") (d := .int 0) yd_int rfl h)) pa_nil))) (fun σ H Q h => un_same (nm := ["rows"]) (ds := [.int 1]) (es := [.int 0]) CSides (shAll_of (by decide +kernel)) (shAll_of (by decide +kernel)) (by decide +kernel) h))
      (pa_cons (pe_imp (t' := tUn1 P w K mg base) (pe_tup (pa_cons (pe_imp (pe_make MCovers GCovers hr rfl OCovers.g bCovers .nil pass0 (pa_cons pe_int pa_nil)) (fun σ H Q h => mk1 (K := K) (fld := "rows") (d := .int 1) yd_int rfl h)) (pa_cons (pe_imp (pe_make MCovers GCovers hr rfl OCovers.g bCovers .nil pass0 (pa_cons pe_int pa_nil)) (fun σ H Q h => mk1 (K := K) (fld := "rows") (d := .int 0) yd_int rfl h)) pa_nil))) (fun σ H Q h => un_same (nm := ["rows"]) (ds := [.int 1]) (es := [.int 0]) CCovers (shAll_of (by decide +kernel)) (shAll_of (by decide +kernel)) (by decide +kernel) h))
      (pa_cons (pe_imp (t' := tUn1 P w K mg base) (pe_tup (pa_cons (pe_imp (pe_make MProfile GProfile hr rfl OProfile.g bProfile .nil pass0 (pa_cons pe_int pa_nil)) (fun σ H Q h => mk1 (K := K) (fld := "rows") (d := .int 1) yd_int rfl h)) (pa_cons (pe_imp (pe_make MProfile GProfile hr rfl OProfile.g bProfile .nil pass0 (pa_cons pe_int pa_nil)) (fun σ H Q h => mk1 (K := K) (fld := "rows") (d := .int 0) yd_int rfl h)) pa_nil))) (fun σ H Q h => un_same (nm := ["rows"]) (ds := [.int 1]) (es := [.int 0]) CProfile (shAll_of (by decide +kernel)) (shAll_of (by decide +kernel)) (by decide +kernel) h))
      (pa_cons (pe_imp (t' := tUn1 P w K mg base) (pe_tup (pa_cons (pe_imp (pe_make MMeet GMeet hr rfl OMeet.g bMeet .nil pass0 (pa_cons pe_int pa_nil)) (fun σ H Q h => mk1 (K := K) (fld := "ratio") (d := .int 1) yd_int rfl h)) (pa_cons (pe_imp (pe_make MMeet GMeet hr rfl OMeet.g bMeet .nil pass0 (pa_cons pe_int pa_nil)) (fun σ H Q h => mk1 (K := K) (fld := "ratio") (d := .int 0) yd_int rfl h)) pa_nil))) (fun σ H Q h => un_same (nm := ["ratio"]) (ds := [.int 1]) (es := [.int 0]) CMeet (shAll_of (by decide +kernel)) (shAll_of (by decide +kernel)) (by decide +kernel) h))
      (pa_cons (pe_imp (t' := tUn1 P w K mg base) (pe_tup (pa_cons (pe_imp (pe_make MSpot GSpot hr rfl OSpot.g bSpot .nil pass0 (pa_cons pe_str pa_nil)) (fun σ H Q h => mk1 (K := K) (fld := "word") (d := .str "a") yd_str rfl h)) (pa_cons (pe_imp (pe_make MSpot GSpot hr rfl OSpot.g bSpot .nil pass0 (pa_cons pe_str pa_nil)) (fun σ H Q h => mk1 (K := K) (fld := "word") (d := .str "b") yd_str rfl h)) pa_nil))) (fun σ H Q h => un_same (nm := ["word"]) (ds := [.str "a"]) (es := [.str "b"]) CSpot (shAll_of (by decide +kernel)) (shAll_of (by decide +kernel)) (by decide +kernel) h))
      (pa_cons (pe_imp (t' := tUn1 P w K mg base) (pe_tup (pa_cons (pe_imp (pe_make MEars GEars hr rfl OEars.g bEars .nil pass0 (pa_cons pe_int pa_nil)) (fun σ H Q h => mk1 (K := K) (fld := "rows") (d := .int 1) yd_int rfl h)) (pa_cons (pe_imp (pe_make MEars GEars hr rfl OEars.g bEars .nil pass0 (pa_cons pe_int pa_nil)) (fun σ H Q h => mk1 (K := K) (fld := "rows") (d := .int 0) yd_int rfl h)) pa_nil))) (fun σ H Q h => un_same (nm := ["rows"]) (ds := [.int 1]) (es := [.int 0]) CEars (shAll_of (by decide +kernel)) (shAll_of (by decide +kernel)) (by decide +kernel) h))
      pa_nil)))))))))
      (pss_cons (ps_set (i := 0) scUn.nd rfl (Or.inl rfl) (pe_op op_cat (pv 0) (pe_lst (pa_cons (pe_imp (t' := tUn1 P w K mg base) (pe_tup (pa_cons (pe_imp (pe_make MApart GApart hr rfl OApart.g bApart .nil pass0 (pa_cons pe_int pa_nil)) (fun σ H Q h => mk1 (K := K) (fld := "direction") (d := .int 1) yd_int rfl h)) (pa_cons (pe_imp (pe_make MApart GApart hr rfl OApart.g bApart .nil pass0 (pa_cons pe_non pa_nil)) (fun σ H Q h => mk1 (K := K) (fld := "direction") (d := .none) yd_non rfl h)) pa_nil))) (fun σ H Q h => un_same (nm := ["direction"]) (ds := [.int 1]) (es := [.none]) CApart (shAll_of (by decide +kernel)) (shAll_of (by decide +kernel)) (by decide +kernel) h))
      (pa_cons (pe_imp (t' := tUn1 P w K mg base) (pe_tup (pa_cons (pe_imp (pe_make MTilted GTilted hr rfl OTilted.g bTilted .nil pass0 (pa_cons pe_int pa_nil)) (fun σ H Q h => mk1 (K := K) (fld := "height") (d := .int 1) yd_int rfl h)) (pa_cons (pe_imp (pe_make MTilted GTilted hr rfl OTilted.g bTilted .nil pass0 (pa_cons pe_int pa_nil)) (fun σ H Q h => mk1 (K := K) (fld := "height") (d := .int 0) yd_int rfl h)) pa_nil))) (fun σ H Q h => un_same (nm := ["height"]) (ds := [.int 1]) (es := [.int 0]) CTilted (shAll_of (by decide +kernel)) (shAll_of (by decide +kernel)) (by decide +kernel) h))
      (pa_cons (pe_imp (t' := tUn1 P w K mg base) (pe_tup (pa_cons (pe_imp (pe_make MPaper GPaper hr rfl OPaper.g bPaper .nil pass0 (pa_cons pe_int pa_nil)) (fun σ H Q h => mk1 (K := K) (fld := "asked") (d := .int 1) yd_int rfl h)) (pa_cons (pe_imp (pe_make MPaper GPaper hr rfl OPaper.g bPaper .nil pass0 (pa_cons pe_int pa_nil)) (fun σ H Q h => mk1 (K := K) (fld := "asked") (d := .int 0) yd_int rfl h)) pa_nil))) (fun σ H Q h => un_same (nm := ["asked"]) (ds := [.int 1]) (es := [.int 0]) CPaper (shAll_of (by decide +kernel)) (shAll_of (by decide +kernel)) (by decide +kernel) h))
      (pa_cons (pe_imp (t' := tUn1 P w K mg base) (pe_tup (pa_cons (pe_imp (pe_make MArea GArea hr rfl OArea.g bArea .nil pass0 (pa_cons pe_int pa_nil)) (fun σ H Q h => mk1 (K := K) (fld := "ratio") (d := .int 1) yd_int rfl h)) (pa_cons (pe_imp (pe_make MMeet GMeet hr rfl OMeet.g bMeet .nil pass0 (pa_cons pe_int pa_nil)) (fun σ H Q h => mk1 (K := K) (fld := "ratio") (d := .int 1) yd_int rfl h)) pa_nil))) (fun σ H Q h => un_diff (nm := ["ratio"]) (nm' := ["ratio"]) (ds := [.int 1]) (es := [.int 1]) CArea CMeet.ic ((W.two "Area" (by decide +kernel) "Meet" (by decide +kernel)).1.trans (congrArg some (by decide +kernel))) (W.two "Area" (by decide +kernel) "Meet" (by decide +kernel)).2 (shAll_of (by decide +kernel)) h))
      (pa_cons (pe_imp (t' := tUn1 P w K mg base) (pe_tup (pa_cons (pe_imp (pe_make MSides GSides hr rfl OSides.g bSides .nil pass0 (pa_cons pe_int pa_nil)) (fun σ H Q h => mk1 (K := K) (fld := "rows") (d := .int 1) yd_int rfl h)) (pa_cons (pe_imp (pe_make MCovers GCovers hr rfl OCovers.g bCovers .nil pass0 (pa_cons pe_int pa_nil)) (fun σ H Q h => mk1 (K := K) (fld := "rows") (d := .int 1) yd_int rfl h)) pa_nil))) (fun σ H Q h => un_diff (nm := ["rows"]) (nm' := ["rows"]) (ds := [.int 1]) (es := [.int 1]) CSides CCovers.ic ((W.two "Sides" (by decide +kernel) "Covers" (by decide +kernel)).1.trans (congrArg some (by decide +kernel))) (W.two "Sides" (by decide +kernel) "Covers" (by decide +kernel)).2 (shAll_of (by decide +kernel)) h))
      (pa_cons (pe_imp (t' := tUn1 P w K mg base) (pe_tup (pa_cons (pe_imp (pe_make MProfile GProfile hr rfl OProfile.g bProfile .nil pass0 (pa_cons pe_int pa_nil)) (fun σ H Q h => mk1 (K := K) (fld := "rows") (d := .int 1) yd_int rfl h)) (pa_cons (pe_imp (pe_make MEars GEars hr rfl OEars.g bEars .nil pass0 (pa_cons pe_int pa_nil)) (fun σ H Q h => mk1 (K := K) (fld := "rows") (d := .int 1) yd_int rfl h)) pa_nil))) (fun σ H Q h => un_diff (nm := ["rows"]) (nm' := ["rows"]) (ds := [.int 1]) (es := [.int 1]) CProfile CEars.ic ((W.two "Profile" (by decide +kernel) "Ears" (by decide +kernel)).1.trans (congrArg some (by decide +kernel))) (W.two "Profile" (by decide +kernel) "Ears" (by decide +kernel)).2 (shAll_of (by decide +kernel)) h))
      (pa_cons (pe_imp (t' := tUn1 P w K mg base) (pe_tup (pa_cons (pe_imp (pe_nul NSlides.makes NSlides.init NSlides.kp rfl NSlides.g) (fun σ H Q h => mk0 h)) (pa_cons (pe_imp (pe_nul NTurns.makes NTurns.init NTurns.kp rfl NTurns.g) (fun σ H Q h => mk0 h)) pa_nil))) (fun σ H Q h => un_diff (nm := []) (nm' := []) (ds := []) (es := []) CSlides CTurns.ic ((W.two "Slides" (by decide +kernel) "Turns" (by decide +kernel)).1.trans (congrArg some (by decide +kernel))) (W.two "Slides" (by decide +kernel) "Turns" (by decide +kernel)).2 (shAll_of (by decide +kernel)) h))
      pa_nil))))))))))
      (pss_cons (ps_set (i := 0) scUn.nd rfl (Or.inl rfl) (pe_op op_cat (pv 0) (pe_lst (pa_cons (pe_imp (t' := tUn1 P w K mg base) (pe_tup (pa_cons (pe_imp (pe_nul NLevels.makes NLevels.init NLevels.kp rfl NLevels.g) (fun σ H Q h => mk0 h)) (pa_cons (pe_imp (pe_nul NSlides.makes NSlides.init NSlides.kp rfl NSlides.g) (fun σ H Q h => mk0 h)) pa_nil))) (fun σ H Q h => un_diff (nm := []) (nm' := []) (ds := []) (es := []) CLevels CSlides.ic ((W.two "Levels" (by decide +kernel) "Slides" (by decide +kernel)).1.trans (congrArg some (by decide +kernel))) (W.two "Levels" (by decide +kernel) "Slides" (by decide +kernel)).2 (shAll_of (by decide +kernel)) h))
      (pa_cons (pe_imp (t' := tUn1 P w K mg base) (pe_tup (pa_cons (pe_imp (pe_nul NSteps.makes NSteps.init NSteps.kp rfl NSteps.g) (fun σ H Q h => mk0 h)) (pa_cons (pe_imp (pe_nul NUneven.makes NUneven.init NUneven.kp rfl NUneven.g) (fun σ H Q h => mk0 h)) pa_nil))) (fun σ H Q h => un_diff (nm := []) (nm' := []) (ds := []) (es := []) CSteps CUneven.ic ((W.two "Steps" (by decide +kernel) "Uneven" (by decide +kernel)).1.trans (congrArg some (by decide +kernel))) (W.two "Steps" (by decide +kernel) "Uneven" (by decide +kernel)).2 (shAll_of (by decide +kernel)) h))
      (pa_cons (pe_imp (t' := tUn1 P w K mg base) (pe_tup (pa_cons (pe_imp (pe_make MApart GApart hr rfl OApart.g bApart .nil pass0 (pa_cons pe_int pa_nil)) (fun σ H Q h => mk1 (K := K) (fld := "direction") (d := .int 1) yd_int rfl h)) (pa_cons (pe_imp (pe_make MTilted GTilted hr rfl OTilted.g bTilted .nil pass0 (pa_cons pe_int pa_nil)) (fun σ H Q h => mk1 (K := K) (fld := "height") (d := .int 1) yd_int rfl h)) pa_nil))) (fun σ H Q h => un_diff (nm := ["direction"]) (nm' := ["height"]) (ds := [.int 1]) (es := [.int 1]) CApart CTilted.ic ((W.two "Apart" (by decide +kernel) "Tilted" (by decide +kernel)).1.trans (congrArg some (by decide +kernel))) (W.two "Apart" (by decide +kernel) "Tilted" (by decide +kernel)).2 (shAll_of (by decide +kernel)) h))
      (pa_cons (pe_imp (t' := tUn1 P w K mg base) (pe_tup (pa_cons (pe_imp (pe_make MM GM hr rfl OM.g bM .nil pass0 (pa_cons pe_int (pa_cons pe_int (pa_cons pe_int pa_nil)))) (fun σ H Q h => mk3 (K := K) yd_int yd_int yd_int rfl rfl rfl h)) (pa_cons (pe_imp (pe_make MM GM hr rfl OM.g bM .nil pass0 (pa_cons pe_int (pa_cons pe_int (pa_cons pe_int pa_nil)))) (fun σ H Q h => mk3 (K := K) yd_int yd_int yd_int rfl rfl rfl h)) pa_nil))) (fun σ H Q h => un_same (nm := mnm) (ds := [.int 1, .int 2, .int 3]) (es := [.int 0, .int 2, .int 3]) CModel (shAll_of (by decide +kernel)) (shAll_of (by decide +kernel)) (by decide +kernel) h))
      (pa_cons (pe_imp (t' := tUn1 P w K mg base) (pe_tup (pa_cons (pe_imp (pe_make MM GM hr rfl OM.g bM .nil pass0 (pa_cons pe_int (pa_cons pe_int (pa_cons pe_int pa_nil)))) (fun σ H Q h => mk3 (K := K) yd_int yd_int yd_int rfl rfl rfl h)) (pa_cons (pe_imp (pe_make MM GM hr rfl OM.g bM .nil pass0 (pa_cons pe_int (pa_cons pe_int (pa_cons pe_int pa_nil)))) (fun σ H Q h => mk3 (K := K) yd_int yd_int yd_int rfl rfl rfl h)) pa_nil))) (fun σ H Q h => un_same (nm := mnm) (ds := [.int 1, .int 2, .int 3]) (es := [.int 1, .int 0, .int 3]) CModel (shAll_of (by decide +kernel)) (shAll_of (by decide +kernel)) (by decide +kernel) h))
      (pa_cons (pe_imp (t' := tUn1 P w K mg base) (pe_tup (pa_cons (pe_imp (pe_make MM GM hr rfl OM.g bM .nil pass0 (pa_cons pe_int (pa_cons pe_int (pa_cons pe_int pa_nil)))) (fun σ H Q h => mk3 (K := K) yd_int yd_int yd_int rfl rfl rfl h)) (pa_cons (pe_imp (pe_make MM GM hr rfl OM.g bM .nil pass0 (pa_cons pe_int (pa_cons pe_int (pa_cons pe_int pa_nil)))) (fun σ H Q h => mk3 (K := K) yd_int yd_int yd_int rfl rfl rfl h)) pa_nil))) (fun σ H Q h => un_same (nm := mnm) (ds := [.int 1, .int 2, .int 3]) (es := [.int 1, .int 2, .int 0]) CModel (shAll_of (by decide +kernel)) (shAll_of (by decide +kernel)) (by decide +kernel) h))
      pa_nil)))))))))
      (pss_one (ps_ret (pe_op op_cat (pv 0) (pe_lst (pa_cons (pe_imp (t' := tUn1 P w K mg base) (pe_tup (pa_cons (pe_imp (pe_make MSides GSides hr rfl OSides.g bSides .nil pass0 (pa_cons (pe_tup (pa_cons pe_int (pa_cons pe_int pa_nil))) pa_nil)) (fun σ H Q h => mk1 (K := K) (fld := "rows") (d := .tuple [.int 1, .int 2]) yd_2 rfl h)) (pa_cons (pe_imp (pe_make MSides GSides hr rfl OSides.g bSides .nil pass0 (pa_cons (pe_tup (pa_cons pe_int (pa_cons pe_int pa_nil))) pa_nil)) (fun σ H Q h => mk1 (K := K) (fld := "rows") (d := .tuple [.int 2, .int 1]) yd_2 rfl h)) pa_nil))) (fun σ H Q h => un_same (nm := ["rows"]) (ds := [.tuple [.int 1, .int 2]]) (es := [.tuple [.int 2, .int 1]]) CSides (shAll_of (by decide +kernel)) (shAll_of (by decide +kernel)) (by decide +kernel) h))
      (pa_cons (pe_imp (t' := tUn1 P w K mg base) (pe_tup (pa_cons (pe_imp (pe_make MPaper GPaper hr rfl OPaper.g bPaper .nil pass0 (pa_cons (pe_tup (pa_cons pe_int (pa_cons pe_int pa_nil))) pa_nil)) (fun σ H Q h => mk1 (K := K) (fld := "asked") (d := .tuple [.int 1, .int 2]) yd_2 rfl h)) (pa_cons (pe_imp (pe_make MPaper GPaper hr rfl OPaper.g bPaper .nil pass0 (pa_cons (pe_tup (pa_cons pe_int (pa_cons pe_int (pa_cons pe_int pa_nil)))) pa_nil)) (fun σ H Q h => mk1 (K := K) (fld := "asked") (d := .tuple [.int 1, .int 2, .int 3]) yd_3 rfl h)) pa_nil))) (fun σ H Q h => un_same (nm := ["asked"]) (ds := [.tuple [.int 1, .int 2]]) (es := [.tuple [.int 1, .int 2, .int 3]]) CPaper (shAll_of (by decide +kernel)) (shAll_of (by decide +kernel)) (by decide +kernel) h))
      (pa_cons (pe_imp (t' := tUn1 P w K mg base) (pe_tup (pa_cons (pe_imp (pe_make MArea GArea hr rfl OArea.g bArea .nil pass0 (pa_cons pe_non pa_nil)) (fun σ H Q h => mk1 (K := K) (fld := "ratio") (d := .none) yd_non rfl h)) (pa_cons (pe_imp (pe_nul NSlides.makes NSlides.init NSlides.kp rfl NSlides.g) (fun σ H Q h => mk0 h)) pa_nil))) (fun σ H Q h => un_diff (nm := ["ratio"]) (nm' := []) (ds := [.none]) (es := []) CArea CSlides.ic ((W.two "Area" (by decide +kernel) "Slides" (by decide +kernel)).1.trans (congrArg some (by decide +kernel))) (W.two "Area" (by decide +kernel) "Slides" (by decide +kernel)).2 (shAll_of (by decide +kernel)) h))
      (pa_cons (pe_imp (t' := tUn1 P w K mg base) (pe_tup (pa_cons (pe_imp (pe_make MSpot GSpot hr rfl OSpot.g bSpot .nil pass0 (pa_cons pe_str pa_nil)) (fun σ H Q h => mk1 (K := K) (fld := "word") (d := .str "a") yd_str rfl h)) (pa_cons pe_str pa_nil))) (fun σ H Q h => un_val (nm := ["word"]) (ds := [.str "a"]) CSpot (fun _ => .inr (.inr ⟨_, rfl, rfl⟩)) (W.ty "Spot" (by decide +kernel) "str" (by decide)).1 (W.ty "Spot" (by decide +kernel) "str" (by decide)).2 (shAll_of (by decide +kernel)) h))
      (pa_cons (pe_imp (t' := tUn1 P w K mg base) (pe_tup (pa_cons (pe_imp (pe_make MArea GArea hr rfl OArea.g bArea .nil pass0 (pa_cons pe_int pa_nil)) (fun σ H Q h => mk1 (K := K) (fld := "ratio") (d := .int 1) yd_int rfl h)) (pa_cons pe_int pa_nil))) (fun σ H Q h => un_val (nm := ["ratio"]) (ds := [.int 1]) CArea (fun _ => .inr (.inl ⟨_, rfl, rfl⟩)) (W.ty "Area" (by decide +kernel) "int" (by decide)).1 (W.ty "Area" (by decide +kernel) "int" (by decide)).2 (shAll_of (by decide +kernel)) h))
      pa_nil)))))))))))), ?_⟩
    dsimp only [tSeq, tAsg, tOp]
    show tLst (tRep (tUn1 P w K mg base) 7) _ _ _
    refine lst_un (by decide) fun r1 t1 H1 s1 e1 l1 u1 => ?_
    refine ⟨_, rfl, ?_⟩
    dsimp only [tSeq, tAsg, tOp]
    show tLst (tRep (tUn1 P w K mg base) 7) _ _ _
    refine lst_un (by decide) fun r2 t2 H2 s2 e2 l2 u2 => ?_
    refine cat_un e1 l1 u1 s2 e2 l2 u2 (by decide) fun r3 t3 H3 s3 e3 l3 u3 => ?_
    refine ⟨_, rfl, ?_⟩
    show tLst (tRep (tUn1 P w K mg base) 6) _ _ _
    refine lst_un (by decide) fun r4 t4 H4 s4 e4 l4 u4 => ?_
    refine cat_un e3 l3 u3 s4 e4 l4 u4 (by decide) fun r5 t5 H5 s5 e5 l5 u5 => ?_
    refine ⟨_, rfl, ?_⟩
    show tLst (tRep (tUn1 P w K mg base) 5) _ _ _
    refine lst_un (by decide) fun r6 t6 H6 s6 e6 l6 u6 => ?_
    refine cat_un e5 l5 u5 s6 e6 l6 u6 (by decide) fun r7 t7 H7 s7 e7 l7 u7 => ?_
    exact k r7 t7 H7 (((s1.trans s3).trans s5).trans s7) e7 l7 u7
end
end K90

set_option maxHeartbeats 4000000
namespace K90
open PySem PySem.Spec PyProof.Rows L2
/-! ### the rows' lambdas called -/
structure LamOk (d : LamD) (nm : List Str) : Prop where
  run : ∀ {X : Cx} {pins : List (Addr × Obj)} {σ : L2.St} {H : Hp} {s : Shared} {f a C dx : Addr} {xs : List V} {Q : VK}, Inv X pins σ H s → LamAt H f qR d → H a = some (.ins C dx (nm.zip xs)) → xs.length = nm.length → Cls X.K C → (∀ n ∈ nm, NoAttr X.K C n) → Room 1 X.A →
    (∀ p, H p = none → Q (.ref p) (upd H p (.tup xs))) → wpAny (model X.prog X.w) X.A (call (.ref f) [.ref a]) (EP X pins σ Q) X.xe s
theorem len0 {xs : List V} (h : xs.length = ([] : List Str).length) : xs = [] := List.length_eq_zero_iff.mp h
theorem len1 {xs : List V} {f : Str} (h : xs.length = [f].length) : ∃ x, xs = [x] := by
  match xs, h with
  | [x], _ => exact ⟨x, rfl⟩
theorem len3 {xs : List V} {f g i : Str} (h : xs.length = [f, g, i].length) : ∃ x y z, xs = [x, y, z] := by
  match xs, h with
  | [x, y, z], _ => exact ⟨x, y, z, rfl⟩
theorem scL0 : FnScope ["one"] (lamd 0).pars (lamd 0).scope := ⟨rfl, rfl, rfl, by decide +kernel, rfl, by decide +kernel, by decide +kernel⟩
theorem lam_ok_0 : LamOk (lamd 0) ["ratio"] := ⟨fun {X pins σ H s f a C dx xs Q} I hf ha hl cl nA hr k => by
  obtain ⟨x, rfl⟩ := len1 hl
  have B : ∀ (c : Addr) (A : Around) (outer : List Env) (s : Shared) (H : Hp), Room 0 (A.deeper (envOfC qR (lamd 0).scope s.heap.objs.size f (.ref c))) → PE (cxOf CX0 X.prog X.w X.K X.mg X.base ["one"] qR (lamd 0).scope f (.ref c) A outer s H E0) (lamd 0).body (tTup (tCons (tFld X.K (tVar 0) "ratio") tNil)) := fun c A outer s H hr' => pe_tup (pa_cons (pe_fld (pv 0) rfl) pa_nil)
  exact run_lam (vs := [.ref a]) (us := [.ref a]) (N := ["one"]) (k := 0) I hf scL0 (fun c pm ctv us hl => match us, hl with | [_], _ => rfl) hr B (.cons rfl .nil) rfl ⟨_, rfl, a, C, dx, _, x, rfl, ha, cl, nA _ (by decide), (by kernel_rfl), sz 1, k⟩⟩
theorem scL1 : FnScope ["one"] (lamd 1).pars (lamd 1).scope := ⟨rfl, rfl, rfl, by decide +kernel, rfl, by decide +kernel, by decide +kernel⟩
theorem lam_ok_1 : LamOk (lamd 1) ["rows"] := ⟨fun {X pins σ H s f a C dx xs Q} I hf ha hl cl nA hr k => by
  obtain ⟨x, rfl⟩ := len1 hl
  have B : ∀ (c : Addr) (A : Around) (outer : List Env) (s : Shared) (H : Hp), Room 0 (A.deeper (envOfC qR (lamd 1).scope s.heap.objs.size f (.ref c))) → PE (cxOf CX0 X.prog X.w X.K X.mg X.base ["one"] qR (lamd 1).scope f (.ref c) A outer s H E0) (lamd 1).body (tTup (tCons (tFld X.K (tVar 0) "rows") tNil)) := fun c A outer s H hr' => pe_tup (pa_cons (pe_fld (pv 0) rfl) pa_nil)
  exact run_lam (vs := [.ref a]) (us := [.ref a]) (N := ["one"]) (k := 0) I hf scL1 (fun c pm ctv us hl => match us, hl with | [_], _ => rfl) hr B (.cons rfl .nil) rfl ⟨_, rfl, a, C, dx, _, x, rfl, ha, cl, nA _ (by decide), (by kernel_rfl), sz 1, k⟩⟩
theorem scL2 : FnScope ["one"] (lamd 2).pars (lamd 2).scope := ⟨rfl, rfl, rfl, by decide +kernel, rfl, by decide +kernel, by decide +kernel⟩
theorem lam_ok_2 : LamOk (lamd 2) ["rows"] := ⟨fun {X pins σ H s f a C dx xs Q} I hf ha hl cl nA hr k => by
  obtain ⟨x, rfl⟩ := len1 hl
  have B : ∀ (c : Addr) (A : Around) (outer : List Env) (s : Shared) (H : Hp), Room 0 (A.deeper (envOfC qR (lamd 2).scope s.heap.objs.size f (.ref c))) → PE (cxOf CX0 X.prog X.w X.K X.mg X.base ["one"] qR (lamd 2).scope f (.ref c) A outer s H E0) (lamd 2).body (tTup (tCons (tFld X.K (tVar 0) "rows") tNil)) := fun c A outer s H hr' => pe_tup (pa_cons (pe_fld (pv 0) rfl) pa_nil)
  exact run_lam (vs := [.ref a]) (us := [.ref a]) (N := ["one"]) (k := 0) I hf scL2 (fun c pm ctv us hl => match us, hl with | [_], _ => rfl) hr B (.cons rfl .nil) rfl ⟨_, rfl, a, C, dx, _, x, rfl, ha, cl, nA _ (by decide), (by kernel_rfl), sz 1, k⟩⟩
theorem scL3 : FnScope ["one"] (lamd 3).pars (lamd 3).scope := ⟨rfl, rfl, rfl, by decide +kernel, rfl, by decide +kernel, by decide +kernel⟩
theorem lam_ok_3 : LamOk (lamd 3) ["rows"] := ⟨fun {X pins σ H s f a C dx xs Q} I hf ha hl cl nA hr k => by
  obtain ⟨x, rfl⟩ := len1 hl
  have B : ∀ (c : Addr) (A : Around) (outer : List Env) (s : Shared) (H : Hp), Room 0 (A.deeper (envOfC qR (lamd 3).scope s.heap.objs.size f (.ref c))) → PE (cxOf CX0 X.prog X.w X.K X.mg X.base ["one"] qR (lamd 3).scope f (.ref c) A outer s H E0) (lamd 3).body (tTup (tCons (tFld X.K (tVar 0) "rows") tNil)) := fun c A outer s H hr' => pe_tup (pa_cons (pe_fld (pv 0) rfl) pa_nil)
  exact run_lam (vs := [.ref a]) (us := [.ref a]) (N := ["one"]) (k := 0) I hf scL3 (fun c pm ctv us hl => match us, hl with | [_], _ => rfl) hr B (.cons rfl .nil) rfl ⟨_, rfl, a, C, dx, _, x, rfl, ha, cl, nA _ (by decide), (by kernel_rfl), sz 1, k⟩⟩
theorem scL4 : FnScope ["one"] (lamd 4).pars (lamd 4).scope := ⟨rfl, rfl, rfl, by decide +kernel, rfl, by decide +kernel, by decide +kernel⟩
theorem lam_ok_4 : LamOk (lamd 4) ["ratio"] := ⟨fun {X pins σ H s f a C dx xs Q} I hf ha hl cl nA hr k => by
  obtain ⟨x, rfl⟩ := len1 hl
  have B : ∀ (c : Addr) (A : Around) (outer : List Env) (s : Shared) (H : Hp), Room 0 (A.deeper (envOfC qR (lamd 4).scope s.heap.objs.size f (.ref c))) → PE (cxOf CX0 X.prog X.w X.K X.mg X.base ["one"] qR (lamd 4).scope f (.ref c) A outer s H E0) (lamd 4).body (tTup (tCons (tFld X.K (tVar 0) "ratio") tNil)) := fun c A outer s H hr' => pe_tup (pa_cons (pe_fld (pv 0) rfl) pa_nil)
  exact run_lam (vs := [.ref a]) (us := [.ref a]) (N := ["one"]) (k := 0) I hf scL4 (fun c pm ctv us hl => match us, hl with | [_], _ => rfl) hr B (.cons rfl .nil) rfl ⟨_, rfl, a, C, dx, _, x, rfl, ha, cl, nA _ (by decide), (by kernel_rfl), sz 1, k⟩⟩
theorem scL5 : FnScope ["one"] (lamd 5).pars (lamd 5).scope := ⟨rfl, rfl, rfl, by decide +kernel, rfl, by decide +kernel, by decide +kernel⟩
theorem lam_ok_5 : LamOk (lamd 5) ["word"] := ⟨fun {X pins σ H s f a C dx xs Q} I hf ha hl cl nA hr k => by
  obtain ⟨x, rfl⟩ := len1 hl
  have B : ∀ (c : Addr) (A : Around) (outer : List Env) (s : Shared) (H : Hp), Room 0 (A.deeper (envOfC qR (lamd 5).scope s.heap.objs.size f (.ref c))) → PE (cxOf CX0 X.prog X.w X.K X.mg X.base ["one"] qR (lamd 5).scope f (.ref c) A outer s H E0) (lamd 5).body (tTup (tCons (tFld X.K (tVar 0) "word") tNil)) := fun c A outer s H hr' => pe_tup (pa_cons (pe_fld (pv 0) rfl) pa_nil)
  exact run_lam (vs := [.ref a]) (us := [.ref a]) (N := ["one"]) (k := 0) I hf scL5 (fun c pm ctv us hl => match us, hl with | [_], _ => rfl) hr B (.cons rfl .nil) rfl ⟨_, rfl, a, C, dx, _, x, rfl, ha, cl, nA _ (by decide), (by kernel_rfl), sz 1, k⟩⟩
theorem scL6 : FnScope ["one"] (lamd 6).pars (lamd 6).scope := ⟨rfl, rfl, rfl, by decide +kernel, rfl, by decide +kernel, by decide +kernel⟩
theorem lam_ok_6 : LamOk (lamd 6) ["rows"] := ⟨fun {X pins σ H s f a C dx xs Q} I hf ha hl cl nA hr k => by
  obtain ⟨x, rfl⟩ := len1 hl
  have B : ∀ (c : Addr) (A : Around) (outer : List Env) (s : Shared) (H : Hp), Room 0 (A.deeper (envOfC qR (lamd 6).scope s.heap.objs.size f (.ref c))) → PE (cxOf CX0 X.prog X.w X.K X.mg X.base ["one"] qR (lamd 6).scope f (.ref c) A outer s H E0) (lamd 6).body (tTup (tCons (tFld X.K (tVar 0) "rows") tNil)) := fun c A outer s H hr' => pe_tup (pa_cons (pe_fld (pv 0) rfl) pa_nil)
  exact run_lam (vs := [.ref a]) (us := [.ref a]) (N := ["one"]) (k := 0) I hf scL6 (fun c pm ctv us hl => match us, hl with | [_], _ => rfl) hr B (.cons rfl .nil) rfl ⟨_, rfl, a, C, dx, _, x, rfl, ha, cl, nA _ (by decide), (by kernel_rfl), sz 1, k⟩⟩
theorem scL7 : FnScope ["one"] (lamd 7).pars (lamd 7).scope := ⟨rfl, rfl, rfl, by decide +kernel, rfl, by decide +kernel, by decide +kernel⟩
theorem lam_ok_7 : LamOk (lamd 7) ["direction"] := ⟨fun {X pins σ H s f a C dx xs Q} I hf ha hl cl nA hr k => by
  obtain ⟨x, rfl⟩ := len1 hl
  have B : ∀ (c : Addr) (A : Around) (outer : List Env) (s : Shared) (H : Hp), Room 0 (A.deeper (envOfC qR (lamd 7).scope s.heap.objs.size f (.ref c))) → PE (cxOf CX0 X.prog X.w X.K X.mg X.base ["one"] qR (lamd 7).scope f (.ref c) A outer s H E0) (lamd 7).body (tTup (tCons (tFld X.K (tVar 0) "direction") tNil)) := fun c A outer s H hr' => pe_tup (pa_cons (pe_fld (pv 0) rfl) pa_nil)
  exact run_lam (vs := [.ref a]) (us := [.ref a]) (N := ["one"]) (k := 0) I hf scL7 (fun c pm ctv us hl => match us, hl with | [_], _ => rfl) hr B (.cons rfl .nil) rfl ⟨_, rfl, a, C, dx, _, x, rfl, ha, cl, nA _ (by decide), (by kernel_rfl), sz 1, k⟩⟩
theorem scL8 : FnScope ["one"] (lamd 8).pars (lamd 8).scope := ⟨rfl, rfl, rfl, by decide +kernel, rfl, by decide +kernel, by decide +kernel⟩
theorem lam_ok_8 : LamOk (lamd 8) ["height"] := ⟨fun {X pins σ H s f a C dx xs Q} I hf ha hl cl nA hr k => by
  obtain ⟨x, rfl⟩ := len1 hl
  have B : ∀ (c : Addr) (A : Around) (outer : List Env) (s : Shared) (H : Hp), Room 0 (A.deeper (envOfC qR (lamd 8).scope s.heap.objs.size f (.ref c))) → PE (cxOf CX0 X.prog X.w X.K X.mg X.base ["one"] qR (lamd 8).scope f (.ref c) A outer s H E0) (lamd 8).body (tTup (tCons (tFld X.K (tVar 0) "height") tNil)) := fun c A outer s H hr' => pe_tup (pa_cons (pe_fld (pv 0) rfl) pa_nil)
  exact run_lam (vs := [.ref a]) (us := [.ref a]) (N := ["one"]) (k := 0) I hf scL8 (fun c pm ctv us hl => match us, hl with | [_], _ => rfl) hr B (.cons rfl .nil) rfl ⟨_, rfl, a, C, dx, _, x, rfl, ha, cl, nA _ (by decide), (by kernel_rfl), sz 1, k⟩⟩
theorem scL9 : FnScope ["one"] (lamd 9).pars (lamd 9).scope := ⟨rfl, rfl, rfl, by decide +kernel, rfl, by decide +kernel, by decide +kernel⟩
theorem lam_ok_9 : LamOk (lamd 9) ["asked"] := ⟨fun {X pins σ H s f a C dx xs Q} I hf ha hl cl nA hr k => by
  obtain ⟨x, rfl⟩ := len1 hl
  have B : ∀ (c : Addr) (A : Around) (outer : List Env) (s : Shared) (H : Hp), Room 0 (A.deeper (envOfC qR (lamd 9).scope s.heap.objs.size f (.ref c))) → PE (cxOf CX0 X.prog X.w X.K X.mg X.base ["one"] qR (lamd 9).scope f (.ref c) A outer s H E0) (lamd 9).body (tTup (tCons (tFld X.K (tVar 0) "asked") tNil)) := fun c A outer s H hr' => pe_tup (pa_cons (pe_fld (pv 0) rfl) pa_nil)
  exact run_lam (vs := [.ref a]) (us := [.ref a]) (N := ["one"]) (k := 0) I hf scL9 (fun c pm ctv us hl => match us, hl with | [_], _ => rfl) hr B (.cons rfl .nil) rfl ⟨_, rfl, a, C, dx, _, x, rfl, ha, cl, nA _ (by decide), (by kernel_rfl), sz 1, k⟩⟩
theorem scL10 : FnScope ["one"] (lamd 10).pars (lamd 10).scope := ⟨rfl, rfl, rfl, by decide +kernel, rfl, by decide +kernel, by decide +kernel⟩
theorem lam_ok_10 : LamOk (lamd 10) ["shapes", "heaps", "asks"] := ⟨fun {X pins σ H s f a C dx xs Q} I hf ha hl cl nA hr k => by
  obtain ⟨x, y, z, rfl⟩ := len3 hl
  have B : ∀ (c : Addr) (A : Around) (outer : List Env) (s : Shared) (H : Hp), Room 0 (A.deeper (envOfC qR (lamd 10).scope s.heap.objs.size f (.ref c))) → PE (cxOf CX0 X.prog X.w X.K X.mg X.base ["one"] qR (lamd 10).scope f (.ref c) A outer s H E0) (lamd 10).body (tTup (tCons (tFld X.K (tVar 0) "shapes") (tCons (tFld X.K (tVar 0) "heaps") (tCons (tFld X.K (tVar 0) "asks") tNil)))) := fun c A outer s H hr' => pe_tup (pa_cons (pe_fld (pv 0) rfl) (pa_cons (pe_fld (pv 0) rfl) (pa_cons (pe_fld (pv 0) rfl) pa_nil)))
  exact run_lam (vs := [.ref a]) (us := [.ref a]) (N := ["one"]) (k := 0) I hf scL10 (fun c pm ctv us hl => match us, hl with | [_], _ => rfl) hr B (.cons rfl .nil) rfl ⟨_, rfl, a, C, dx, _, x, rfl, ha, cl, nA _ (by decide), (by kernel_rfl), _, rfl, a, C, dx, _, y, rfl, ha, cl, nA _ (by decide), (by kernel_rfl), _, rfl, a, C, dx, _, z, rfl, ha, cl, nA _ (by decide), (by kernel_rfl), sz 3, k⟩⟩
theorem scL11 : FnScope ["item"] (lamd 11).pars (lamd 11).scope := ⟨rfl, rfl, rfl, by decide +kernel, rfl, by decide +kernel, by decide +kernel⟩
theorem lam_ok_11 : LamOk (lamd 11) [] := ⟨fun {X pins σ H s f a C dx xs Q} I hf ha hl cl nA hr k => by
  obtain ⟨rfl⟩ := len0 hl
  have B : ∀ (c : Addr) (A : Around) (outer : List Env) (s : Shared) (H : Hp), Room 0 (A.deeper (envOfC qR (lamd 11).scope s.heap.objs.size f (.ref c))) → PE (cxOf CX0 X.prog X.w X.K X.mg X.base ["item"] qR (lamd 11).scope f (.ref c) A outer s H E0) (lamd 11).body (tTup tNil) := fun c A outer s H hr' => pe_tup pa_nil
  exact run_lam (vs := [.ref a]) (us := [.ref a]) (N := ["item"]) (k := 0) I hf scL11 (fun c pm ctv us hl => match us, hl with | [_], _ => rfl) hr B (.cons rfl .nil) rfl ⟨sz 0, k⟩⟩
/-- a call of such a lambda -/
def tCl (K : PySem.W.Frag) (tf : TE) (t : TA) : TE := fun σ H Q => tf σ H fun f H1 => ∃ g d, f = .ref g ∧ LamAt H1 g qR d ∧ t σ H1 fun vs H2 => LamAt H2 g qR d ∧ ∃ nm a C dx xs, vs = [.ref a] ∧ LamOk d nm ∧ H2 a = some (.ins C dx (nm.zip xs)) ∧ xs.length = nm.length ∧ Cls K C ∧ (∀ n ∈ nm, NoAttr K C n) ∧
  ∀ p, H2 p = none → Q (.ref p) (upd H2 p (.tup xs))
section
variable {X : Cx} {fe e : Expr} {es : List Expr} {tf : TE} {t : TA} {pos : Pos}
theorem lam_fn {pins : List (Addr × Obj)} {σ : L2.St} {H : Hp} {s : Shared} {g : Addr} {d : LamD} (I : Inv X pins σ H s) (h : LamAt H g qR d) : PySem.W.FnAt g s.heap := by
  obtain ⟨c, h1, _⟩ := h
  obtain ⟨⟨pm, ctv, hg⟩, _, _⟩ := I.hok g _ h1
  exact ⟨_, _, _, _, hg⟩
theorem run_cl {pins : List (Addr × Obj)} {σ : L2.St} {H : Hp} {s : Shared} {Q : VK} {f : Value} {v : V} (hr : Room 1 X.A) (ha : PA X (e :: es) t) (he : starEach (e :: es) X.env = (false, eval e X.env) :: starEach es X.env) (hpl : (backTo pos (starEach es X.env)).any (·.1) = false)
    (I : Inv X pins σ H s) (rv : RelV v f) (h : ∃ g d, v = .ref g ∧ LamAt H g qR d ∧ t σ H fun vs H2 => LamAt H2 g qR d ∧ ∃ nm a C dx xs, vs = [.ref a] ∧ LamOk d nm ∧ H2 a = some (.ins C dx (nm.zip xs)) ∧ xs.length = nm.length ∧ Cls X.K C ∧ (∀ n ∈ nm, NoAttr X.K C n) ∧
      ∀ p, H2 p = none → Q (.ref p) (upd H2 p (.tup xs))) : wpAny (model X.prog X.w) X.A (callWith pos f [] (backTo pos (starEach (e :: es) X.env)) []) (EP X pins σ Q) X.xe s := by
  obtain ⟨g, d, rfl, hg, h⟩ := h
  cases rv
  refine PySem.W.callWith_F (lam_fn I hg) (thn (ha.run pos pins s σ H _ I h) fun us s2 ⟨vs, H2, I2, r, hg2, q⟩ => ⟨lam_fn I2 hg2, ?_⟩) he hpl
  obtain ⟨nm, a, C, dx, xs, rfl, ok, h1, h2, h3, h4, h5⟩ := q
  obtain ⟨u, rfl, ru⟩ := Vals.one r
  cases ru
  exact ok.run I2 hg2 h1 h2 h3 h4 hr h5
theorem pe_clN {x : Str} {p : Pos} (hf : PE X (.Name x p) tf) (hr : Room 1 X.A) (ha : PA X (e :: es) t) (he : starEach (e :: es) X.env = (false, eval e X.env) :: starEach es X.env := by rfl) (hpl : (backTo pos (starEach es X.env)).any (·.1) = false := by rfl) :
    PE X (.Call (.Name x p) (e :: es) [] pos) (tCl X.K tf t) := by
  refine ⟨fun pins s σ H Q I h => ?_⟩
  exact wpAny_Call_Name_kw (thn (hf.run pins s σ H _ I h) fun u s1 ⟨v, H1, I1, r1, q1⟩ => run_cl hr ha he hpl I1 r1 q1)
theorem pe_clS {o i : Expr} {p : Pos} (hf : PE X (.Subscript o i p) tf) (hr : Room 1 X.A) (ha : PA X (e :: es) t) (he : starEach (e :: es) X.env = (false, eval e X.env) :: starEach es X.env := by rfl) (hpl : (backTo pos (starEach es X.env)).any (·.1) = false := by rfl) :
    PE X (.Call (.Subscript o i p) (e :: es) [] pos) (tCl X.K tf t) := by
  refine ⟨fun pins s σ H Q I h => ?_⟩
  show wpAny _ X.A (do callWith pos (← eval (.Subscript o i p) X.env) [] (backTo pos (starEach (e :: es) X.env)) (backToKw pos (keywordEach [] X.env))) _ _ s
  exact wpAny_bind (thn (hf.run pins s σ H _ I h) fun u s1 ⟨v, H1, I1, r1, q1⟩ => run_cl hr ha he hpl I1 r1 q1)
end
end K90

set_option maxHeartbeats 4000000
namespace K90
open PySem PySem.Spec PyProof.Rows L2
def menuC : List PyData := menu.map copyD
def okD (d : PyData) : Bool := d.showable && (!d.hasDict && (decide (d.depth ≤ 64) && decide (d.shown.length ≤ 1000)))
def dOk (ds : List PyData) : Bool := ds.all SeqAt.shaped && (SeqAt.shaped (.tuple ds) && (eqR ds ds && okD (.tuple ds)))
def three (d e j : PyData) : PyData := .list [.tuple [d], .tuple [d], .tuple [d, e, j]]
theorem menu_1 : (menuC.all fun d => dOk [d]) = true := by decide +kernel
theorem ma_0 : (menuC.all fun e => menuC.all fun j => dOk [menuC.getD 0 .none, e, j]) = true := by decide +kernel
theorem mb_0 : (menuC.all fun e => menuC.all fun j => okD (three (menuC.getD 0 .none) e j)) = true := by decide +kernel
theorem ma_1 : (menuC.all fun e => menuC.all fun j => dOk [menuC.getD 1 .none, e, j]) = true := by decide +kernel
theorem mb_1 : (menuC.all fun e => menuC.all fun j => okD (three (menuC.getD 1 .none) e j)) = true := by decide +kernel
theorem ma_2 : (menuC.all fun e => menuC.all fun j => dOk [menuC.getD 2 .none, e, j]) = true := by decide +kernel
theorem mb_2 : (menuC.all fun e => menuC.all fun j => okD (three (menuC.getD 2 .none) e j)) = true := by decide +kernel
theorem ma_3 : (menuC.all fun e => menuC.all fun j => dOk [menuC.getD 3 .none, e, j]) = true := by decide +kernel
theorem mb_3 : (menuC.all fun e => menuC.all fun j => okD (three (menuC.getD 3 .none) e j)) = true := by decide +kernel
theorem ma_4 : (menuC.all fun e => menuC.all fun j => dOk [menuC.getD 4 .none, e, j]) = true := by decide +kernel
theorem mb_4 : (menuC.all fun e => menuC.all fun j => okD (three (menuC.getD 4 .none) e j)) = true := by decide +kernel
theorem ma_5 : (menuC.all fun e => menuC.all fun j => dOk [menuC.getD 5 .none, e, j]) = true := by decide +kernel
theorem mb_5 : (menuC.all fun e => menuC.all fun j => okD (three (menuC.getD 5 .none) e j)) = true := by decide +kernel
theorem ma_6 : (menuC.all fun e => menuC.all fun j => dOk [menuC.getD 6 .none, e, j]) = true := by decide +kernel
theorem mb_6 : (menuC.all fun e => menuC.all fun j => okD (three (menuC.getD 6 .none) e j)) = true := by decide +kernel
theorem ma_7 : (menuC.all fun e => menuC.all fun j => dOk [menuC.getD 7 .none, e, j]) = true := by decide +kernel
theorem mb_7 : (menuC.all fun e => menuC.all fun j => okD (three (menuC.getD 7 .none) e j)) = true := by decide +kernel
theorem ma_8 : (menuC.all fun e => menuC.all fun j => dOk [menuC.getD 8 .none, e, j]) = true := by decide +kernel
theorem mb_8 : (menuC.all fun e => menuC.all fun j => okD (three (menuC.getD 8 .none) e j)) = true := by decide +kernel
theorem ma_9 : (menuC.all fun e => menuC.all fun j => dOk [menuC.getD 9 .none, e, j]) = true := by decide +kernel
theorem mb_9 : (menuC.all fun e => menuC.all fun j => okD (three (menuC.getD 9 .none) e j)) = true := by decide +kernel
theorem d1 {d : PyData} (h : d ∈ menuC) : dOk [d] = true := List.all_eq_true.mp menu_1 d h
theorem two_of {F : PyData → PyData → Bool} (m : (menuC.all fun e => menuC.all fun j => F e j) = true) {e j : PyData} (h2 : e ∈ menuC) (h3 : j ∈ menuC) : F e j = true := List.all_eq_true.mp (List.all_eq_true.mp m e h2) j h3
theorem d3 {d e j : PyData} (h : d ∈ menuC) (h2 : e ∈ menuC) (h3 : j ∈ menuC) : dOk [d, e, j] = true ∧ okD (three d e j) = true := by
  obtain ⟨i, hi⟩ := List.getElem?_of_mem h
  have q : d = menuC.getD i .none := by rw [List.getD_eq_getElem?_getD, hi]; rfl
  subst q
  match i with
  | 0 => exact ⟨two_of (F := fun e j => dOk [menuC.getD 0 .none, e, j]) ma_0 h2 h3, two_of (F := fun e j => okD (three (menuC.getD 0 .none) e j)) mb_0 h2 h3⟩
  | 1 => exact ⟨two_of (F := fun e j => dOk [menuC.getD 1 .none, e, j]) ma_1 h2 h3, two_of (F := fun e j => okD (three (menuC.getD 1 .none) e j)) mb_1 h2 h3⟩
  | 2 => exact ⟨two_of (F := fun e j => dOk [menuC.getD 2 .none, e, j]) ma_2 h2 h3, two_of (F := fun e j => okD (three (menuC.getD 2 .none) e j)) mb_2 h2 h3⟩
  | 3 => exact ⟨two_of (F := fun e j => dOk [menuC.getD 3 .none, e, j]) ma_3 h2 h3, two_of (F := fun e j => okD (three (menuC.getD 3 .none) e j)) mb_3 h2 h3⟩
  | 4 => exact ⟨two_of (F := fun e j => dOk [menuC.getD 4 .none, e, j]) ma_4 h2 h3, two_of (F := fun e j => okD (three (menuC.getD 4 .none) e j)) mb_4 h2 h3⟩
  | 5 => exact ⟨two_of (F := fun e j => dOk [menuC.getD 5 .none, e, j]) ma_5 h2 h3, two_of (F := fun e j => okD (three (menuC.getD 5 .none) e j)) mb_5 h2 h3⟩
  | 6 => exact ⟨two_of (F := fun e j => dOk [menuC.getD 6 .none, e, j]) ma_6 h2 h3, two_of (F := fun e j => okD (three (menuC.getD 6 .none) e j)) mb_6 h2 h3⟩
  | 7 => exact ⟨two_of (F := fun e j => dOk [menuC.getD 7 .none, e, j]) ma_7 h2 h3, two_of (F := fun e j => okD (three (menuC.getD 7 .none) e j)) mb_7 h2 h3⟩
  | 8 => exact ⟨two_of (F := fun e j => dOk [menuC.getD 8 .none, e, j]) ma_8 h2 h3, two_of (F := fun e j => okD (three (menuC.getD 8 .none) e j)) mb_8 h2 h3⟩
  | 9 => exact ⟨two_of (F := fun e j => dOk [menuC.getD 9 .none, e, j]) ma_9 h2 h3, two_of (F := fun e j => okD (three (menuC.getD 9 .none) e j)) mb_9 h2 h3⟩
  | n + 10 => exact absurd hi (by rw [List.getElem?_eq_none (by show 10 ≤ n + 10; omega)]; intro z; cases z)
end K90

set_option maxHeartbeats 4000000
namespace K90
open PySem PySem.Spec PyProof.Rows L2
/-! ### the law, statement by statement -/
abbrev NL : List Str := ["script", "pen", "values", "a", "b", "c", "rows", "one", "two", "handed", "fields", "due", "k", "other", "before", "value"]
theorem scLaw : FnScope NL ["script"] (defScope (top 30)) := ⟨rfl, rfl, rfl, by decide +kernel, rfl, by decide +kernel, by decide +kernel⟩
abbrev rLof (K : PySem.W.Frag) : List V → Hp → VK → Prop := fun xs H Q => ∃ p ys, xs = [.ref p] ∧ (SqL K H p ys ∨ SqT K H p ys) ∧ ∀ l, H l = none → Q (.ref l) (upd H l (.lst ys))
abbrev AL (f : Addr) (cdv : Value) (s : Shared) : Around := callerA.deeper (envOfC "law" (defScope (top 30)) s.heap.objs.size f cdv)
abbrev XL (P : Program) (w : World) (K : PySem.W.Frag) (mg : Str → Option Value) (base : Heap) (f : Addr) (cdv : Value) (s : Shared) (H : Hp) : Cx := (cxOf CX0 P w K mg base NL "law" (defScope (top 30)) f cdv callerA [] s H E0).nox
def stm (i : Nat) : Stmt := (defBody (top 30)).getD i (.Pass ⟨0, 0, 0, 0⟩)
abbrev RT : VK := fun v _ => v = .bl true
def Stp (X : Cx) (R : VK) (st : Stmt) (Pre Post : L2.St → Hp → Prop) : Prop := ∃ t, PS X st t ∧ ∀ (D : Ends) (σ : L2.St) (H : Hp), D.nx = Post → D.rt = R → Pre σ H → t D σ H
def Stps (X : Cx) (R : VK) (st : List Stmt) (Pre : L2.St → Hp → Prop) : Prop := ∃ t, PSs X st t ∧ ∀ (D : Ends) (σ : L2.St) (H : Hp), D.rt = R → Pre σ H → t D σ H
theorem stps_cons {X : Cx} {R : VK} {st : Stmt} {rest : List Stmt} {Pre Mid : L2.St → Hp → Prop} (h : Stp X R st Pre Mid) (g : Stps X R rest Mid) : Stps X R (st :: rest) Pre := by
  obtain ⟨t, p, q⟩ := h
  obtain ⟨u, p2, q2⟩ := g
  exact ⟨_, C8.pss_cut p p2, fun D σ H e hp => ⟨Mid, q _ σ H rfl e hp, fun σ' H' m => q2 D σ' H' e m⟩⟩
theorem stps_one {X : Cx} {R : VK} {st : Stmt} {Pre : L2.St → Hp → Prop} (h : ∃ t, PS X st t ∧ ∀ (D : Ends) (σ : L2.St) (H : Hp), D.rt = R → Pre σ H → t D σ H) : Stps X R [st] Pre := by
  obtain ⟨t, p, q⟩ := h
  exact ⟨_, pss_one p, q⟩
/-! ### data -/
theorem dOk_sh {ds : List PyData} (h : dOk ds = true) : ShAll ds ∧ eqR ds ds = true ∧ okD (.tuple ds) = true := by
  unfold dOk at h
  rw [Bool.and_eq_true, Bool.and_eq_true, Bool.and_eq_true] at h
  exact ⟨⟨List.all_eq_true.mp h.1, h.2.1⟩, h.2.2.1, h.2.2.2⟩
theorem okD_at {d : PyData} (h : okD d = true) : d.showable = true ∧ d.hasDict = false ∧ d.depth ≤ 64 ∧ d.shown.length ≤ sizeLine := by
  unfold okD at h
  rw [Bool.and_eq_true, Bool.and_eq_true, Bool.and_eq_true, decide_eq_true_eq, decide_eq_true_eq, Bool.not_eq_true'] at h
  exact ⟨h.1, h.2.1, h.2.2.1, sz _ h.2.2.2⟩
/-! ### what is kept -/
def Sq (o : HO) : Prop := (∃ xs, o = .lst xs) ∨ (∃ xs, o = .tup xs) ∨ ∃ u v, o = .frz u v
def KeepS (H H' : Hp) : Prop := ∀ b o, H b = some o → Sq o → H' b = some o
theorem KeepS.refl (H : Hp) : KeepS H H := fun _ _ e _ => e
theorem KeepS.same {H H1 H2 : Hp} (k : KeepS H H1) (s : Same H1 H2) : KeepS H H2 := fun b o e q => s _ _ (k b o e q)
theorem KeepS.ext {H H1 H2 : Hp} (k : KeepS H H1) (s : LamX.ExtN H1 H2) : KeepS H H2 := fun b o e q => s _ _ (k b o e q) fun ps z => by
  subst z
  rcases q with ⟨_, z⟩ | ⟨_, z⟩ | ⟨_, _, z⟩ <;> cases z
theorem KeepS.but {H H1 H2 : Hp} {p la : Addr} {n : Nat} (k : KeepS H H1) (hp : PenAt la n H1 p) (s : SameBut p H1 H2) : KeepS H H2 := fun b o e q => by
  refine s _ _ (k b o e q) fun z => ?_
  subst z
  obtain ⟨_, _, _, _, _, h, _⟩ := hp
  have e2 := k b o e q
  rw [h] at e2
  cases e2
  rcases q with ⟨_, z⟩ | ⟨_, z⟩ | ⟨_, _, z⟩ <;> cases z
theorem SqL.keep {K : PySem.W.Frag} {H H' : Hp} {a : Addr} {xs : List V} (k : KeepS H H') (h : SqL K H a xs) : SqL K H' a xs := by
  rcases h with (h | ⟨o, h⟩) | h
  · exact .inl (.inl (k _ _ h (.inl ⟨_, rfl⟩)))
  · exact .inl (.inr ⟨o, k _ _ h (.inr (.inr ⟨_, _, rfl⟩))⟩)
  · exact .inr h
theorem SqT.keep {K : PySem.W.Frag} {H H' : Hp} {a : Addr} {xs : List V} (k : KeepS H H') (h : SqT K H a xs) : SqT K H' a xs := by
  rcases h with (h | ⟨o, h⟩) | h
  · exact .inl (.inl (k _ _ h (.inr (.inl ⟨_, rfl⟩))))
  · exact .inl (.inr ⟨o, k _ _ h (.inr (.inr ⟨_, _, rfl⟩))⟩)
  · exact .inr h
mutual
theorem dp_keep {K : PySem.W.Frag} {H H' : Hp} (k : KeepS H H') : ∀ (d : PyData) (v : V), Dp K H v d → Dp K H' v d
  | .none, _, h => by cases h; exact .non
  | .bool _, _, h => by cases h; exact .bl _
  | .int _, _, h => by cases h; exact .int _
  | .str _, _, h => by cases h; exact .str _
  | .list ds, _, h => by
    cases h with
    | lst hs ha => exact .lst (SqL.keep k hs) (dps_keep k ds _ ha)
  | .tuple ds, _, h => by
    cases h with
    | tup hs ha => exact .tup (SqT.keep k hs) (dps_keep k ds _ ha)
  | .dict _, _, h => by cases h
theorem dps_keep {K : PySem.W.Frag} {H H' : Hp} (k : KeepS H H') : ∀ (ds : List PyData) (vs : List V), DpAll K H vs ds → DpAll K H' vs ds
  | [], _, h => by cases h; exact .nil
  | d :: ds, _, h => by
    cases h with
    | cons h1 h2 => exact .cons (dp_keep k d _ h1) (dps_keep k ds _ h2)
end
theorem ok_keep {K : PySem.W.Frag} {A : Arg} {H H' : Hp} (k : KeepS H H') (h : A.ok K H) : A.ok K H' := by
  cases A with
  | flat u d => exact dp_keep k _ _ h
  | list a xs ds => exact dps_keep k _ _ h
theorem penAt_ext {n : Nat} {H H' : Hp} {p la : Addr} (k : LamX.ExtN H H') (h : PenAt la n H p) : PenAt la n H' p := by
  obtain ⟨cs, at_, dg, ct, fo, h1, h2, r⟩ := h
  exact ⟨cs, at_, dg, ct, fo, k _ _ h1 (fun _ q => nomatch q), k _ _ h2 (fun _ q => nomatch q), r⟩
/-- a row under a change of the pen -/
theorem Row.but {H H' : Hp} {r : RowS} {t : V} {p la : Addr} {n : Nat} (hp : PenAt la n H p) (s : SameBut p H H') (h : Row H r t) : Row H' r t := by
  obtain ⟨cs, at_, dg, ct, fo, hp, _⟩ := hp
  have k : ∀ b o, H b = some o → (∀ kv, o ≠ .dK kv) → H' b = some o := fun b o e q => s b o e fun z => by
    subst z
    rw [hp] at e
    exact q _ (Option.some.inj e).symm
  obtain ⟨a, o1, o2, d1, d2, hd, fl, us, ws, e0, h1, h2, h3, h4, h5, h6, h7, h8, ⟨c, h9, h10⟩⟩ := h
  have tt : ∀ b zs, H b = some (.tup zs) → H' b = some (.tup zs) := fun b zs z => k _ _ z (fun _ q => nomatch q)
  refine ⟨a, o1, o2, d1, d2, hd, fl, us, ws, e0, k _ _ h1 (fun _ q => nomatch q), k _ _ h2 (fun _ q => nomatch q), k _ _ h3 (fun _ q => nomatch q), h4.ext tt, h5.ext tt, h6, h7, k _ _ h8 (fun _ q => nomatch q), c, k _ _ h9 (fun _ q => ?_), k _ _ h10 (fun _ q => ?_)⟩
  · unfold LamO at q; cases q
  · unfold LamX.CodeO at q; cases q
/-! ### the states -/
/-- A is handed in as v; its data stood at Hv already, before its list was made -/
def Arg.st (K : PySem.W.Frag) (Hv H : Hp) (v : V) (A : Arg) : Prop := A.here K H v ∧ A.ok K Hv ∧ A.dat ∈ menuC ∧ ∀ x xs ds, A = .list x xs ds → Hv x = none
/-- the rows stand -/
structure RSt (K : PySem.W.Frag) (A B D : Arg) (va vb vc : V) (la p r : Addr) (ts : List V) (Hv : Hp) (n : Nat) (σ : L2.St) (H : Hp) : Prop where
  len : σ.length = 16
  s1 : σ[1]? = some (some (.ref p))
  s6 : σ[6]? = some (some (.ref r))
  pen : PenAt la n H p
  keep : KeepS Hv H
  okA : A.ok K Hv
  okB : B.ok K Hv
  okD : D.ok K Hv
  mA : A.dat ∈ menuC
  mB : B.dat ∈ menuC
  mD : D.dat ∈ menuC
  fr : ∀ x xs ds, A = .list x xs ds → Hv x = none
  hr : H r = some (.lst ts)
  rows : Paired (Row H) (rowList K A B D va vb vc) ts
structure HSt (K : PySem.W.Frag) (A B D : Arg) (va vb vc : V) (σ : L2.St) (H : Hp) : Prop where
  s3 : σ[3]? = some (some va)
  hA : A.here K H va
  hB : B.here K H vb
  hD : D.here K H vc
section
variable {K : PySem.W.Frag} {A B D : Arg} {va vb vc : V} {la p r : Addr} {ts : List V} {Hv : Hp} {n : Nat} {σ : L2.St} {H H' : Hp}
theorem RSt.same (h : RSt K A B D va vb vc la p r ts Hv n σ H) (s : Same H H') : RSt K A B D va vb vc la p r ts Hv n σ H' :=
  ⟨h.len, h.s1, h.s6, penAt_same s h.pen, h.keep.same s, h.okA, h.okB, h.okD, h.mA, h.mB, h.mD, h.fr, s _ _ h.hr, Paired.mapP h.rows fun a b q => q.ext (extN_of s)⟩
theorem HSt.same (h : HSt K A B D va vb vc σ H) (s : Same H H') : HSt K A B D va vb vc σ H' := ⟨h.s3, here_same s h.hA, here_same s h.hB, here_same s h.hD⟩
theorem RSt.but {m : Nat} (h : RSt K A B D va vb vc la p r ts Hv n σ H) (hp : PenAt la m H' p) (s : SameBut p H H') : RSt K A B D va vb vc la p r ts Hv m σ H' := by
  refine ⟨h.len, h.s1, h.s6, hp, h.keep.but h.pen s, h.okA, h.okB, h.okD, h.mA, h.mB, h.mD, h.fr, s _ _ h.hr fun z => ?_, Paired.mapP h.rows fun a b q => q.but h.pen s⟩
  obtain ⟨_, _, _, _, _, e, _⟩ := h.pen
  have := h.hr
  rw [z, e] at this
  cases this
theorem HSt.but (h : HSt K A B D va vb vc σ H) (hp : PenAt la n H p) (s : SameBut p H H') : HSt K A B D va vb vc σ H' := ⟨h.s3, here_but (noSeq_pen hp) s h.hA, here_but (noSeq_pen hp) s h.hB, here_but (noSeq_pen hp) s h.hD⟩
theorem RSt.set (h : RSt K A B D va vb vc la p r ts Hv n σ H) {i : Nat} (v : Option V) (h1 : i ≠ 1) (h6 : i ≠ 6) : RSt K A B D va vb vc la p r ts Hv n (σ.set i v) H :=
  { h with len := by rw [List.length_set]; exact h.len, s1 := by rw [List.getElem?_set_ne h1]; exact h.s1, s6 := by rw [List.getElem?_set_ne h6]; exact h.s6 }
theorem HSt.set (h : HSt K A B D va vb vc σ H) {i : Nat} (v : Option V) (h3 : i ≠ 3) : HSt K A B D va vb vc (σ.set i v) H := { h with s3 := by rw [List.getElem?_set_ne h3]; exact h.s3 }
theorem RSt.more {m : Nat} (h : RSt K A B D va vb vc la p r ts Hv n σ H) (hm : n ≤ m) : RSt K A B D va vb vc la p r ts Hv m σ H := { h with pen := penAt_more hm h.pen }
end
end K90

set_option maxHeartbeats 4000000
namespace K90
open PySem PySem.Spec PyProof.Rows L2
def Post0 (K : PySem.W.Frag) (σ : L2.St) (H : Hp) : Prop := ∃ la p, σ.length = 16 ∧ σ[1]? = some (some (.ref p)) ∧ PenAt la 0 H p ∧ LamX.Tabs (TT K) H
def IsV (K : PySem.W.Frag) (H : Hp) (v : V) (d : PyData) : Prop := d ∈ menu ∧ Dp K H v d
def Post1 (K : PySem.W.Frag) (σ : L2.St) (H : Hp) : Prop := ∃ la p l v0 v1 v2 d0 d1 d2, σ.length = 16 ∧ σ[1]? = some (some (.ref p)) ∧ σ[2]? = some (some (.ref l)) ∧ PenAt la 3 H p ∧ LamX.Tabs (TT K) H ∧ H l = some (.lst [v0, v1, v2]) ∧ IsV K H v0 d0 ∧ IsV K H v1 d1 ∧ IsV K H v2 d2
def Post2 (K : PySem.W.Frag) (σ : L2.St) (H : Hp) : Prop := ∃ la p va vb vc A B D Hv, σ.length = 16 ∧ σ[1]? = some (some (.ref p)) ∧ σ[3]? = some (some va) ∧ σ[4]? = some (some vb) ∧ σ[5]? = some (some vc) ∧ PenAt la 3 H p ∧ LamX.Tabs (TT K) H ∧ KeepS Hv H ∧ Arg.st K Hv H va A ∧ Arg.st K Hv H vb B ∧ Arg.st K Hv H vc D
def Post3 (K : PySem.W.Frag) (n : Nat) (σ : L2.St) (H : Hp) : Prop := ∃ A B D va vb vc la p r ts Hv, RSt K A B D va vb vc la p r ts Hv n σ H ∧ HSt K A B D va vb vc σ H
theorem three_list {α β : Type} {F : α → β → Prop} {xs : List α} {ys : List β} (h : Paired F xs ys) (l : xs.length = 3) : ∃ a b c d e j, xs = [a, b, c] ∧ ys = [d, e, j] ∧ F a d ∧ F b e ∧ F c j := by
  cases h with
  | nil => cases l
  | cons h1 h => cases h with
    | nil => cases l
    | cons h2 h => cases h with
      | nil => cases l
      | cons h3 h => cases h with
        | nil => exact ⟨_, _, _, _, _, _, rfl, rfl, h1, h2, h3⟩
        | cons _ _ => cases l
/-- a list that the pen does not hold is written -/
theorem penAt_lst {n : Nat} {H : Hp} {p la l : Addr} {xs ys : List V} (hl : H l = some (.lst xs)) (n1 : l ≠ la) (h : PenAt la n H p) : PenAt la n (upd H l (.lst ys)) p := by
  obtain ⟨cs, at_, dg, ct, fo, h1, h2, r⟩ := h
  exact ⟨cs, at_, dg, ct, fo, by rw [upd_ne (ne_of h1 hl (by intro z; cases z))]; exact h1, by rw [upd_ne n1.symm]; exact h2, r⟩
theorem tabs_lst {T : List (Addr × Str)} {H : Hp} {l : Addr} {xs ys : List V} (hl : H l = some (.lst xs)) (h : LamX.Tabs T H) : LamX.Tabs T (upd H l (.lst ys)) := by
  intro q hq
  obtain ⟨ps, h1, h2, h3⟩ := h q hq
  refine ⟨ps, by rw [upd_ne (ne_of h1 hl (by intro z; cases z))]; exact h1, h2, fun pos cv hc => ?_⟩
  obtain ⟨c, a1, a2⟩ := h3 pos cv hc
  exact ⟨c, a1, by rw [upd_ne (ne_of a2 hl (by intro z; unfold LamX.CodeO at z; cases z))]; exact a2⟩
theorem tabs_but {T : List (Addr × Str)} {H H' : Hp} {p la : Addr} {n : Nat} (hp : PenAt la n H p) (s : SameBut p H H') (h : LamX.Tabs T H) : LamX.Tabs T H' := by
  obtain ⟨cs, at_, dg, ct, fo, hp, _⟩ := hp
  intro q hq
  obtain ⟨ps, h1, h2, h3⟩ := h q hq
  refine ⟨ps, s _ _ h1 (ne_of h1 hp (by intro z; cases z)), h2, fun pos cv hc => ?_⟩
  obtain ⟨c, a1, a2⟩ := h3 pos cv hc
  exact ⟨c, a1, s _ _ a2 (ne_of a2 hp (by intro z; unfold LamX.CodeO at z; cases z))⟩
section
variable {P : Program} {w : World} {K : PySem.W.Frag} {mg : Str → Option Value} {base : Heap} {f : Addr} {cdv : Value} {s : Shared} {H0 : Hp}
theorem st0 (hr : Room 5 (AL f cdv s)) {f_law_pen : Addr} {fd_law_pen : FuncData} (g_law_pen : mg "_law_pen" = some (.ref f_law_pen)) (F_law_pen : FnG K "_law_pen" 23 f_law_pen fd_law_pen) (T : Txt mg) {a : Addr} {ns : List Int} (hS : SqL K H0 a (ns.map V.int)) (hl : ns.length ≤ 63) (hT : LamX.Tabs (TT K) H0) :
    Stp (XL P w K mg base f cdv s H0) RT (stm 0) (fun σ H => σ = L2.start NL [.ref a] ∧ H = H0) (Post0 K) := by
  have G_law_pen : FnOk P w K mg base CX0 1 f_law_pen fd_law_pen ["script"] (spPen K) := ok_pen F_law_pen T
  have b_law_pen : L2.Binds K fd_law_pen ["script"] [] := F_law_pen.bindsN fun _ _ _ _ _ _ us hl => match us, hl with | [_], _ => rfl
  refine ⟨_, (ps_set (i := 1) scLaw.nd rfl (Or.inr rfl) (pe_call G_law_pen (hr.mono (by decide)) rfl g_law_pen F_law_pen.kp b_law_pen .nil pass0 (pa_cons (pv 0) pa_nil))), fun D σ H e1 e2 h => ?_⟩
  obtain ⟨rfl, rfl⟩ := h
  refine ⟨_, rfl, a, ns, rfl, hS, hl, fun la p H' _ hp sm => ?_⟩
  show D.nx _ _
  rw [e1]
  exact ⟨la, p, rfl, rfl, hp, Tabs.same hT sm⟩
theorem st1 (hr : Room 5 (AL f cdv s)) {f_law_value : Addr} {fd_law_value : FuncData} (g_law_value : mg "_law_value" = some (.ref f_law_value)) (F_law_value : FnG K "_law_value" 26 f_law_value fd_law_value) (T : Txt mg) (G_law_value : FnOk P w K mg base CX0 3 f_law_value fd_law_value ["pen"] (spValue K)) :
    Stp (XL P w K mg base f cdv s H0) RT (stm 1) (Post0 K) (Post1 K) := by
  have b_law_value : L2.Binds K fd_law_value ["pen"] [] := F_law_value.bindsN fun _ _ _ _ _ _ us hl => match us, hl with | [_], _ => rfl
  refine ⟨_, (ps_setLc (i := 2) (own := [("k", 12)]) (g := (gName 12)) (tt := tYes) (by rfl) scLaw.nd rfl rfl (sw_true rfl rfl rfl (by decide +kernel)) (pi_range1 rfl T.range (pa_cons pe_int pa_nil)) (blkOk_by (own := [("k", 12)]) (N := NL) (sc := defScope (top 30)) (by decide +kernel)) (fun _ _ _ _ _ => (pg_name (i := 12) scLaw.nd rfl (Or.inl rfl))) (fun _ _ _ _ _ => pts_nil) (fun _ _ _ _ _ => (pe_call G_law_value (hr.mono (by decide)) rfl g_law_value F_law_value.kp b_law_value .nil pass0 (pa_cons (pv 1) pa_nil)))), fun D σ H e1 e2 h => ?_⟩
  obtain ⟨la, p, hl, s1, hp, hT⟩ := h
  refine ⟨3, rfl, by decide, by decide, fun L hL => lc_range (lo := 0) (n := 3) (fun i H' => ∃ acc ds, H' L = some (.lst acc) ∧ acc.length = i ∧ PenAt la i H' p ∧ LamX.Tabs (TT K) H' ∧ L ≠ la ∧ Paired (fun v d => d ∈ menu ∧ ∃ Hn, Dp K Hn v d ∧ Hn L = none ∧ Hn p = none ∧ Same Hn H') acc ds) ?_ ?_ ?_⟩
  · have sm : Same H (upd H L (.lst [])) := same_upd hL
    refine ⟨[], [], upd_same, rfl, penAt_same sm hp, Tabs.same hT sm, ?_, .nil⟩
    obtain ⟨cs, at_, dg, ct, fo, h1, h2, r⟩ := hp
    exact (ne_of_none h2 hL).symm
  · intro i H' hi ⟨acc, ds, h1, h2, h3, h4, h5, h6⟩
    have h3' := h3
    obtain ⟨cs, at_, dg, ct, fo, e3, _⟩ := h3'
    have Lp : L ≠ p := ne_of h1 e3 (by intro z; cases z)
    refine ⟨by simp [wipe], ?_⟩
    dsimp only [tYes]
    rw [if_pos rfl]
    refine ⟨_, (by simpa [wipe, List.getElem?_set] using s1), p, i, la, rfl, by omega, h3, fun v d H4 hd dv hp' kp => ?_⟩
    have g1 := kp _ _ h1 Lp
    refine ⟨acc, g1, Nat.lt_of_lt_of_le (by omega : acc.length < 1000) (sz 1000), acc ++ [v], ds ++ [d], upd_same, by simp [h2], penAt_lst g1 h5 hp', tabs_lst g1 (tabs_but h3 kp h4), h5, ?_⟩
    refine paired_snoc (Paired.mapP h6 fun u e ⟨m, Hn, q1, q2, q3, q4⟩ => ⟨m, Hn, q1, q2, q3, fun b o z => ?_⟩) ⟨hd, New H' H4, dv, new_none (by rw [h1]; simp), new_none (by rw [e3]; simp), fun b o z => ?_⟩
    · have nL : b ≠ L := fun y => by rw [y, q2] at z; cases z
      rw [upd_ne nL]
      exact kp _ _ (q4 _ _ z) fun y => by rw [y, q3] at z; cases z
    · have nL : b ≠ L := fun y => by rw [y, new_none (by rw [h1]; simp)] at z; cases z
      rw [upd_ne nL]
      exact new_sub _ _ z
  · intro H' ⟨acc, ds, h1, h2, h3, h4, h5, h6⟩
    obtain ⟨v0, v1, v2, d0, d1, d2, rfl, rfl, ⟨m0, q0⟩, ⟨m1, q1⟩, ⟨m2, q2⟩⟩ := three_list h6 h2
    show D.nx _ _
    rw [e1]
    obtain ⟨_, q0, _, _, z0⟩ := q0
    obtain ⟨_, q1, _, _, z1⟩ := q1
    obtain ⟨_, q2, _, _, z2⟩ := q2
    exact ⟨la, p, L, v0, v1, v2, d0, d1, d2, by simp [hl], by simpa [List.getElem?_set] using s1, by simp [List.getElem?_set, hl], h3, h4, h1, ⟨m0, dp_same z0 q0⟩, ⟨m1, dp_same z1 q1⟩, ⟨m2, dp_same z2 q2⟩⟩
end
end K90

set_option maxHeartbeats 4000000
namespace K90
open PySem PySem.Spec PyProof.Rows L2
def HereN (H : Hp) (v : V) : Arg → Prop
  | .flat u d => v = u ∧ isL d = false
  | .list a xs _ => v = .ref a ∧ H a = some (.lst xs)
/-- an argument that is made in the comprehension whose list stands at l -/
structure ArgAt (K : PySem.W.Frag) (H0 H : Hp) (l : Addr) (v : V) (A : Arg) : Prop where
  ok : A.ok K H0
  dat : A.dat ∈ menuC
  fr : ∀ x xs ds, A = .list x xs ds → H0 x = none ∧ x ≠ l
  here : HereN H v A
theorem ArgAt.step {K : PySem.W.Frag} {H0 H H' : Hp} {l : Addr} {v : V} {A : Arg} (h : ArgAt K H0 H l v A) (s : ∀ b o, H b = some o → b ≠ l → H' b = some o) : ArgAt K H0 H' l v A := by
  refine ⟨h.ok, h.dat, h.fr, ?_⟩
  cases A with
  | flat u d => exact h.here
  | list a xs ds => exact ⟨h.here.1, s _ _ h.here.2 (h.fr _ _ _ rfl).2⟩
theorem ArgAt.st {K : PySem.W.Frag} {H0 H : Hp} {l : Addr} {v : V} {A : Arg} (h : ArgAt K H0 H l v A) (s : Same H0 H) : Arg.st K H0 H v A := by
  refine ⟨?_, h.ok, h.dat, fun x xs ds e => (h.fr x xs ds e).1⟩
  cases A with
  | flat u d => exact ⟨h.here.1, dp_same s h.ok, h.here.2⟩
  | list a xs ds => exact h.here
theorem menuC_of {d : PyData} (h : d ∈ menu) : copyD d ∈ menuC := List.mem_map.mpr ⟨d, h, rfl⟩
section
variable {P : Program} {w : World} {K : PySem.W.Frag} {mg : Str → Option Value} {base : Heap} {f : Addr} {cdv : Value} {s : Shared} {H0 : Hp}
theorem st2 (hr : Room 5 (AL f cdv s)) (T : Txt mg) : Stp (XL P w K mg base f cdv s H0) RT (stm 2) (Post1 K) (Post2 K) := by
  refine ⟨_, (ps_asg (pe_lc (own := [("value", 15)]) (g := (gName 15)) (tt := tYes) (by rfl) scLaw.nd (pi_list (pv 2)) (blkOk_by (own := [("value", 15)]) (N := NL) (sc := defScope (top 30)) (by decide +kernel)) (fun _ _ _ _ _ => (pg_name (i := 15) scLaw.nd rfl (Or.inl rfl))) (fun _ _ _ _ _ => pts_nil) (fun _ _ _ _ _ => (pe_ifExp (pt_val (pe_callB (id := "isinstance") (r := rIsi K) call_isi (by rfl) T.isinstance (by decide +kernel) (pa_cons (pv 15) (pa_cons (pe_bltn (v := .ty "list") (u := .type "list") rfl T.list (by decide +kernel) rfl) pa_nil)))) (pe_callTy (T := "list") (r := rLof K) call_list_of (by rfl) T.list (by decide +kernel) (pa_cons (pv 15) pa_nil)) (pv 15)))) (pg_lst (by rfl) (pgs_cons (pg_name (i := 3) scLaw.nd rfl (Or.inl rfl)) (pgs_cons (pg_name (i := 4) scLaw.nd rfl (Or.inl rfl)) (pgs_cons (pg_name (i := 5) scLaw.nd rfl (Or.inl rfl)) pgs_nil))))), fun D σ H e1 e2 h => ?_⟩
  obtain ⟨la, p, l, v0, v1, v2, d0, d1, d2, hl, s1, s2, hp, hT, hL, q0, q1, q2⟩ := h
  have vals : ∀ (i : Nat) (x : V), [v0, v1, v2][i]? = some x → ∃ d, IsV K H x d := by
    intro i x hx
    rcases i with _ | _ | _ | i
    · cases hx; exact ⟨_, q0⟩
    · cases hx; exact ⟨_, q1⟩
    · cases hx; exact ⟨_, q2⟩
    · cases hx
  refine ⟨_, s2, l, rfl, ⟨_, SqL.of hL⟩, fun L nL => lc_list (K := K) (a := l) (xs := [v0, v1, v2]) (fun i H' => ∃ acc As, H' L = some (.lst acc) ∧ acc.length = i ∧ Same H H' ∧ Paired (fun v A => ArgAt K H H' L v A) acc As) ?_ ?_ ?_ ?_⟩
  · exact ⟨[], [], upd_same, rfl, same_upd nL, .nil⟩
  · intro i H' _ ⟨_, _, _, _, sm, _⟩
    exact SqL.of (sm _ _ hL)
  · intro i x H' hx ⟨acc, As, h1, h2, h3, h4⟩
    obtain ⟨d, md, dv⟩ := vals i x hx
    have i3 : i < 3 := (List.getElem?_eq_some_iff.mp hx).1
    have dv' := dp_same h3 dv
    refine ⟨by simp [wipe], ?_⟩
    dsimp only [tYes]
    rw [if_pos rfl]
    have s15 : ((wipe σ (List.map (fun x => x.snd) [("value", 15)])).set 15 (some x))[15]? = some (some x) := List.getElem?_set_self (by rw [wipe_length]; omega)
    have fin : ∀ (y : V) (A : Arg) (H4 : Hp), Same H' H4 → ArgAt K H H4 L y A → ∃ acc, H4 L = some (.lst acc) ∧ acc.length < sizeLine ∧ ∃ acc_1 As, upd H4 L (.lst (acc ++ [y])) L = some (.lst acc_1) ∧ acc_1.length = i + 1 ∧ Same H (upd H4 L (.lst (acc ++ [y]))) ∧ Paired (fun v A => ArgAt K H (upd H4 L (.lst (acc ++ [y]))) L v A) acc_1 As := by
      intro y A H4 sm ya
      have g1 := sm _ _ h1
      have st : ∀ b o, H4 b = some o → b ≠ L → upd H4 L (.lst (acc ++ [y])) b = some o := fun b o z n => by rw [upd_ne n]; exact z
      refine ⟨acc, g1, Nat.lt_of_lt_of_le (by omega : acc.length < 1000) (sz 1000), acc ++ [y], As ++ [A], upd_same, by simp [h2], fun b o z => ?_, ?_⟩
      · exact st _ _ (sm _ _ (h3 _ _ z)) (ne_of_none z nL)
      · exact paired_snoc (Paired.mapP h4 fun u e q => q.step fun b o z n => st _ _ (sm _ _ z) n) (ya.step st)
    refine ⟨_, s15, x, .ty "list", _, _, isL d, rfl, .ty "list", dp_ty dv', kit_list K d, _, rfl, ?_⟩
    cases e : isL d with
    | false =>
      refine iteF ⟨_, s15, fin x (.flat x d) H' (Same.refl H') ⟨dv, ?_, (fun x' xs ds z => nomatch z), rfl, e⟩⟩
      have : copyD d = d := by cases d <;> first | rfl | cases e
      show d ∈ menuC
      rw [← this]
      exact menuC_of md
    | true =>
      cases dv with
      | non => cases e
      | bl _ => cases e
      | int _ => cases e
      | str _ => cases e
      | tup _ _ => cases e
      | lst hs ha =>
        refine iteT ⟨_, s15, _, _, rfl, .inl (SqL.keep (fun b o z _ => h3 _ _ z) hs), fun r hr => ?_⟩
        have nr : H r = none := by
          cases z : H r with
          | none => rfl
          | some o => rw [h3 _ _ z] at hr; cases hr
        exact fin (.ref r) (.list r _ _) _ (same_upd hr) ⟨ha, menuC_of md, fun x' xs ds z => by cases z; exact ⟨nr, ne_of_none h1 hr ∘ Eq.symm⟩, rfl, upd_same⟩
  · intro H' ⟨acc, As, h1, h2, h3, h4⟩
    obtain ⟨va, vb, vc, A, B, C, rfl, rfl, a1, a2, a3⟩ := three_list h4 h2
    refine ⟨L, _, rfl, SqL.of h1, rfl, va, _, rfl, vb, _, rfl, vc, _, rfl, rfl, ?_⟩
    rw [e1]
    exact ⟨la, p, va, vb, vc, A, B, C, H, by simp [hl], by simpa [List.getElem?_set] using s1, by simp [List.getElem?_set, hl], by simp [List.getElem?_set, hl], by simp [List.getElem?_set, hl], penAt_same h3 hp, Tabs.same hT h3, fun b o z _ => h3 _ _ z, a1.st h3, a2.st h3, a3.st h3⟩
theorem st3 (hr : Room 5 (AL f cdv s)) {fd_law_rows : FuncData} (g_law_rows : mg "_law_rows" = some (.ref (He.fAd K atR))) (F_law_rows : FnG K "_law_rows" 28 (He.fAd K atR) fd_law_rows) (G_law_rows : FnOk P w K mg base CX0 4 (He.fAd K atR) fd_law_rows ["a", "b", "c"] (spRows K)) :
    Stp (XL P w K mg base f cdv s H0) RT (stm 3) (Post2 K) (Post3 K 3) := by
  have b_law_rows : L2.Binds K fd_law_rows ["a", "b", "c"] [] := F_law_rows.bindsN fun _ _ _ _ _ _ us hl => match us, hl with | [_, _, _], _ => rfl
  refine ⟨_, (ps_set (i := 6) scLaw.nd rfl (Or.inr rfl) (pe_call G_law_rows (hr.mono (by decide)) rfl g_law_rows F_law_rows.kp b_law_rows .nil pass0 (pa_cons (pv 3) (pa_cons (pv 4) (pa_cons (pv 5) pa_nil))))), fun D σ H e1 e2 h => ?_⟩
  obtain ⟨la, p, va, vb, vc, A, B, C, Hv, hl, s1, s3, s4, s5, hp, hT, hk, ha, hb, hc⟩ := h
  refine ⟨_, s3, _, s4, _, s5, va, vb, vc, A, B, C, rfl, ha.1, hb.1, hc.1, hT, fun r ts H' nr e hr' pr => ?_⟩
  show D.nx _ _
  rw [e1]
  exact ⟨A, B, C, va, vb, vc, la, p, r, ts, Hv, ⟨by simp [hl], by simpa [List.getElem?_set] using s1, by simp [List.getElem?_set, hl], penAt_ext e hp, hk.ext e, ha.2.1, hb.2.1, hc.2.1, ha.2.2.1, hb.2.2.1, hc.2.2.1, ha.2.2.2, hr', pr⟩,
    ⟨by simpa [List.getElem?_set] using s3, here_ext e ha.1, here_ext e hb.1, here_ext e hc.1⟩⟩
end
end K90

set_option maxHeartbeats 4000000
namespace K90
open PySem PySem.Spec PyProof.Rows L2
/-! ### what is known of each row -/
structure RowG (P : Program) (w : World) (K : PySem.W.Frag) (mg : Str → Option Value) (base : Heap) (Hv : Hp) (r : RowS) : Prop where
  cf : CF P w K mg base r.C r.nm
  lam : LamOk r.lam r.nm
  na : ∀ f ∈ r.nm, NoAttr K r.C f
  ok : ∀ A ∈ r.As, A.ok K Hv
  d : dOk (r.As.map Arg.dat) = true
  ln : r.nm.length = r.As.length
section
variable {P : Program} {w : World} {K : PySem.W.Frag} {mg : Str → Option Value} {base : Heap} {Hv H : Hp}
theorem rowG_one {n f : Str} {A : Arg} {v : V} {l : LamD} (o : One P w K mg base n f (cA K n) ∧ CF P w K mg base (cA K n) [f]) (hl : LamOk l [f]) (k : A.ok K Hv) (m : A.dat ∈ menuC) : RowG P w K mg base Hv ⟨cA K n, [f], [A], [v], l⟩ :=
  ⟨o.2, hl, fun g hg => by rw [List.mem_singleton.mp hg]; exact o.1.nF, fun B hB => by rw [List.mem_singleton.mp hB]; exact k, d1 m, rfl⟩
theorem rowG_nul {C : Addr} (c : CF P w K mg base C []) : RowG P w K mg base Hv (nulRow C) := ⟨c, lam_ok_11, (fun _ q => nomatch q), (fun _ q => nomatch q), (by show dOk [] = true; decide +kernel), rfl⟩
theorem rows_g {A B D : Arg} {va vb vc : V} (W : W16 P w K mg base) (kA : A.ok K Hv) (kB : B.ok K Hv) (kD : D.ok K Hv) (mA : A.dat ∈ menuC) (mB : B.dat ∈ menuC) (mD : D.dat ∈ menuC) : ∀ r ∈ rowList K A B D va vb vc, RowG P w K mg base Hv r := by
  intro r hr
  unfold rowList at hr
  simp only [List.mem_cons, List.not_mem_nil, or_false] at hr
  rcases hr with rfl | rfl | rfl | rfl | rfl | rfl | rfl | rfl | rfl | rfl | rfl | rfl | rfl | rfl | rfl | rfl
  · exact rowG_one (W.one ("Area", "ratio") (by decide +kernel)) lam_ok_0 kA mA
  · exact rowG_one (W.one ("Sides", "rows") (by decide +kernel)) lam_ok_1 kB mB
  · exact rowG_one (W.one ("Covers", "rows") (by decide +kernel)) lam_ok_2 kD mD
  · exact rowG_one (W.one ("Profile", "rows") (by decide +kernel)) lam_ok_3 kA mA
  · exact rowG_one (W.one ("Meet", "ratio") (by decide +kernel)) lam_ok_4 kB mB
  · exact rowG_one (W.one ("Spot", "word") (by decide +kernel)) lam_ok_5 kD mD
  · exact rowG_one (W.one ("Ears", "rows") (by decide +kernel)) lam_ok_6 kA mA
  · exact rowG_one (W.one ("Apart", "direction") (by decide +kernel)) lam_ok_7 kB mB
  · exact rowG_one (W.one ("Tilted", "height") (by decide +kernel)) lam_ok_8 kD mD
  · exact rowG_one (W.one ("Paper", "asked") (by decide +kernel)) lam_ok_9 kA mA
  · refine ⟨W.mod.2, lam_ok_10, fun g hg => ?_, fun X hX => ?_, (d3 mA mB mD).1, rfl⟩
    · have M := W.mod.1.m
      simp only [List.mem_cons, List.not_mem_nil, or_false] at hg
      rcases hg with rfl | rfl | rfl
      · exact M.n1
      · exact M.n2
      · exact M.n3
    · simp only [List.mem_cons, List.not_mem_nil, or_false] at hX
      rcases hX with rfl | rfl | rfl <;> assumption
  · exact rowG_nul (W.nul "Slides" (by decide +kernel)).2
  · exact rowG_nul (W.nul "Turns" (by decide +kernel)).2
  · exact rowG_nul (W.nul "Levels" (by decide +kernel)).2
  · exact rowG_nul (W.nul "Steps" (by decide +kernel)).2
  · exact rowG_nul (W.nul "Uneven" (by decide +kernel)).2
/-- what was handed in, row by row -/
theorem rows_h {A B D : Arg} {va vb vc : V} (hA : A.here K H va) (hB : B.here K H vb) (hD : D.here K H vc) : ∀ r ∈ rowList K A B D va vb vc, Paired (fun v A => A.here K H v) r.hv r.As := by
  intro r hr
  unfold rowList at hr
  simp only [List.mem_cons, List.not_mem_nil, or_false] at hr
  rcases hr with rfl | rfl | rfl | rfl | rfl | rfl | rfl | rfl | rfl | rfl | rfl | rfl | rfl | rfl | rfl | rfl
  · exact .cons hA .nil
  · exact .cons hB .nil
  · exact .cons hD .nil
  · exact .cons hA .nil
  · exact .cons hB .nil
  · exact .cons hD .nil
  · exact .cons hA .nil
  · exact .cons hB .nil
  · exact .cons hD .nil
  · exact .cons hA .nil
  · exact .cons hA (.cons hB (.cons hD .nil))
  all_goals exact .nil
theorem cp_all {As : List Arg} {vs : List V} : CpAll As H vs → (∀ A ∈ As, A.ok K H) → DpAll K H vs (As.map Arg.dat) := by
  induction As generalizing vs with
  | nil => intro h _; cases vs with
    | nil => exact .nil
    | cons _ _ => exact h.elim
  | cons A As ih => intro h k; cases vs with
    | nil => exact h.elim
    | cons v vs => exact .cons (Arg.cp_dp h.1 (k A List.mem_cons_self)) (ih h.2 fun B m => k B (List.mem_cons_of_mem _ m))
theorem memAt {α : Type} {xs : List α} {i : Nat} {x : α} (h : xs[i]? = some x) : x ∈ xs := List.mem_of_getElem? h
/-- a row's two instances -/
theorem Row.ins {r : RowS} {t : V} (G : RowG P w K mg base Hv r) (k : KeepS Hv H) (h : Row H r t) : ∃ a o1 o2 hd fl, t = .ref a ∧ H a = some (.tup [.ref o1, .ref o2, .ref hd, .ref fl]) ∧ Ins K H r.C r.nm (r.As.map Arg.dat) (.ref o1) ∧ Ins K H r.C r.nm (r.As.map Arg.dat) (.ref o2) ∧ H hd = some (.tup r.hv) ∧ LamAt H fl qR r.lam := by
  obtain ⟨a, o1, o2, d1, d2, hd, fl, xs, ys, e0, h1, h2, h3, h4, h5, h6, h7, h8, h9⟩ := h
  have ok : ∀ A ∈ r.As, A.ok K H := fun A m => ok_keep k (G.ok A m)
  exact ⟨a, o1, o2, hd, fl, e0, h1, ⟨o1, d1, xs, rfl, h2, cp_all h4 ok, h6⟩, ⟨o2, d2, ys, rfl, h3, cp_all h5 ok, h7⟩, h8, h9⟩
end
theorem paired_flip {α β : Type} {F : α → β → Prop} : ∀ {xs : List α} {ys : List β}, Paired F xs ys → Paired (fun y x => F x y) ys xs
  | _, _, .nil => .nil
  | _, _, .cons h t => .cons h (paired_flip t)
theorem rows_3 {K : PySem.W.Frag} {A B D : Arg} {va vb vc : V} {r : RowS} (h : r ∈ rowList K A B D va vb vc) : r.As.length ≤ 3 := by
  unfold rowList at h
  simp only [List.mem_cons, List.not_mem_nil, or_false] at h
  rcases h with rfl | rfl | rfl | rfl | rfl | rfl | rfl | rfl | rfl | rfl | rfl | rfl | rfl | rfl | rfl | rfl <;> simp
theorem cp_snoc {H : Hp} {A : Arg} {v : V} : ∀ {As : List Arg} {vs : List V}, CpAll As H vs → A.cp H v → CpAll (As ++ [A]) H (vs ++ [v])
  | [], [], _, h => ⟨h, trivial⟩
  | _ :: _, _ :: _, ⟨g, t⟩, h => ⟨g, cp_snoc t h⟩
  | [], _ :: _, h, _ => h.elim
  | _ :: _, [], h, _ => h.elim
/-- repr(fields(x)) -/
theorem rd_fields {P : Program} {w : World} {K : PySem.W.Frag} {mg : Str → Option Value} {base : Heap} {Hv H : Hp} {σ : L2.St} {i : Nat} {v : V} {fl : Addr} {r : RowS} {Q : VK} (h10 : σ[10]? = some (some (.ref fl))) (hi : σ[i]? = some (some v)) (ins : Ins K H r.C r.nm (r.As.map Arg.dat) v) (hf : LamAt H fl qR r.lam) (G : RowG P w K mg base Hv r)
    (k : ∀ H', Same H H' → Q (.str (PyData.tuple (r.As.map Arg.dat)).shown) H') : tCB (rRepr K) (tCons (tCl K (tVar 10) (tCons (tVar i) tNil)) tNil) σ H Q := by
  obtain ⟨a, dx, xs, rfl, h1, h2, h3⟩ := ins
  obtain ⟨_, _, od⟩ := dOk_sh G.d
  obtain ⟨z1, z2, z3, z4⟩ := okD_at od
  exact ⟨_, h10, fl, r.lam, rfl, hf, _, hi, hf, r.nm, a, r.C, dx, xs, rfl, G.lam, h1, h3, G.cf.ic.cl, G.na, fun p hp => ⟨p, _, rfl, .tup (SqT.of upd_same) (dps_same (same_upd hp) h2), z1, z2, z3, z4, k _ (same_upd hp)⟩⟩
theorem dps_len {K : PySem.W.Frag} {H : Hp} : ∀ {ds : List PyData} {vs : List V}, DpAll K H vs ds → vs.length = ds.length
  | [], _, h => by cases h; rfl
  | d :: ds, _, h => by
    cases h with
    | cons _ t => exact congrArg Nat.succ (dps_len t)
theorem ne_selfB {x : V} : (!decide (x = x)) = false := by simp
end K90

set_option maxHeartbeats 4000000
namespace K90
open PySem PySem.Spec PyProof.Rows L2
section
variable {P : Program} {w : World} {K : PySem.W.Frag} {mg : Str → Option Value} {base : Heap} {f : Addr} {cdv : Value} {s : Shared} {H0 : Hp}
theorem st4 (hr : Room 5 (AL f cdv s)) (T : Txt mg) (W : W16 P w K mg base) {f_law_copy : Addr} {fd_law_copy : FuncData} (g_law_copy : mg "_law_copy" = some (.ref f_law_copy)) (F_law_copy : FnG K "_law_copy" 27 f_law_copy fd_law_copy) :
    Stp (XL P w K mg base f cdv s H0) RT (stm 4) (Post3 K 3) (Post3 K 3) := by
  have hg : (AL f cdv s).guards = some [] := rfl
  have hu1 : (AL f cdv s).units < cLine := by have := hr.un; omega
  have hu : (AL f cdv s).units + 65 < cLine := by have := hr.un; omega
  have G_law_copy : FnOk P w K mg base CX0 1 f_law_copy fd_law_copy ["value"] (spCopied K) := ok_copy F_law_copy T
  have b_law_copy : L2.Binds K fd_law_copy ["value"] [] := F_law_copy.bindsN fun _ _ _ _ _ _ us hl => match us, hl with | [_], _ => rfl
  refine ⟨_, (ps_for PassesOwn.never rfl (pi_list (pv 6)) (pg_tup rfl (pgs_cons (pg_name (i := 7) scLaw.nd rfl (Or.inl rfl)) (pgs_cons (pg_name (i := 8) scLaw.nd rfl (Or.inl rfl)) (pgs_cons (pg_name (i := 9) scLaw.nd rfl (Or.inl rfl)) (pgs_cons (pg_name (i := 10) scLaw.nd rfl (Or.inl rfl)) pgs_nil)))))
  (pss_cons (ps_set (i := 11) scLaw.nd rfl (Or.inl rfl) (pe_callB (call_reprD hg hu) (by rfl) T.repr (by decide +kernel) (pa_cons (pe_callTy call_tuple_of (by rfl) T.tuple (by decide +kernel) (pa_cons (pe_lc (own := [("value", 15)]) (g := (gName 15)) (tt := tYes) (by rfl) scLaw.nd (pi_tup (pv 9)) (blkOk_by (own := [("value", 15)]) (N := NL) (sc := defScope (top 30)) (by decide +kernel)) (fun _ _ _ _ _ => (pg_name (i := 15) scLaw.nd rfl (Or.inl rfl))) (fun _ _ _ _ _ => pts_nil) (fun _ _ _ _ _ => (pe_call G_law_copy (hr.mono (by decide)) rfl g_law_copy F_law_copy.kp b_law_copy .nil pass0 (pa_cons (pv 15) pa_nil)))) pa_nil)) pa_nil)))
  (pss_one (ps_if (PW.pt (pw_or (pt_cmpR op_ne (pe_callB (call_reprD hg hu) (by rfl) T.repr (by decide +kernel) (pa_cons (pe_clN (pv 10) (hr.mono (by decide)) (pa_cons (pv 7) pa_nil)) pa_nil)) (pv 11) (nomark _)) (pw_or (pt_cmpR op_ne (pe_callB (call_reprD hg hu) (by rfl) T.repr (by decide +kernel) (pa_cons (pe_clN (pv 10) (hr.mono (by decide)) (pa_cons (pv 8) pa_nil)) pa_nil)) (pv 11) (nomark _)) (pw_or (pt_cmpR (r := rNeA P w K mg base) (op_neA (hr.mono (j := 4) (by decide)) hu1) (pv 7) (pv 8) (nomark _)) (pw_or1 (pt_not (pt_cmpR (r := rEqA P w K mg base) (op_eqA (hr.mono (j := 3) (by decide)) hu1) (pv 7) (pv 8) (nomark _))))))))
  (pss_one (ps_ret pe_bl))
  pss_nil)))), fun D σ H e1 e2 h => ?_⟩
  obtain ⟨A, B, C, va, vb, vc, la, p, r, ts, Hv, R, Q0⟩ := h
  have RG := rows_g (va := va) (vb := vb) (vc := vc) W R.okA R.okB R.okD R.mA R.mB R.mD
  have hts : ts.length = 16 := (paired_len R.rows).symm
  refine ⟨_, R.s6, r, rfl, ⟨_, SqL.of R.hr⟩, for_list (K := K) (a := r) (xs := ts) (fun i σ H => RSt K A B C va vb vc la p r ts Hv 3 σ H ∧ HSt K A B C va vb vc σ H) ⟨R, Q0⟩ (fun i σ H _ h => SqL.of h.1.hr) ?_ ?_⟩
  · rintro i x σ H hx ⟨R, Q0⟩
    obtain ⟨rw, hrw, row⟩ := paired_at R.rows hx
    have G := RG rw (memAt hrw)
    have hh := rows_h Q0.hA Q0.hB Q0.hD rw (memAt hrw)
    obtain ⟨a, o1, o2, hd, fl, rfl, ha, i1, i2, hhd, hfl⟩ := row.ins G R.keep
    refine ⟨a, _, rfl, SqT.of ha, rfl, .ref o1, _, rfl, .ref o2, _, rfl, .ref hd, _, rfl, .ref fl, [], rfl, rfl, ?_⟩
    have R1 := (((R.set (i := 7) (some (.ref o1)) (by decide) (by decide)).set (i := 8) (some (.ref o2)) (by decide) (by decide)).set (i := 9) (some (.ref hd)) (by decide) (by decide)).set (i := 10) (some (.ref fl)) (by decide) (by decide)
    have Q1 := (((Q0.set (i := 7) (some (.ref o1)) (by decide)).set (i := 8) (some (.ref o2)) (by decide)).set (i := 9) (some (.ref hd)) (by decide)).set (i := 10) (some (.ref fl)) (by decide)
    have v7 : ((((σ.set 7 (some (V.ref o1))).set 8 (some (V.ref o2))).set 9 (some (V.ref hd))).set 10 (some (V.ref fl)))[7]? = some (some (.ref o1)) := by simp [List.getElem?_set, R.len]
    have v8 : ((((σ.set 7 (some (V.ref o1))).set 8 (some (V.ref o2))).set 9 (some (V.ref hd))).set 10 (some (V.ref fl)))[8]? = some (some (.ref o2)) := by simp [List.getElem?_set, R.len]
    have v9 : ((((σ.set 7 (some (V.ref o1))).set 8 (some (V.ref o2))).set 9 (some (V.ref hd))).set 10 (some (V.ref fl)))[9]? = some (some (.ref hd)) := by simp [List.getElem?_set, R.len]
    have v10 : ((((σ.set 7 (some (V.ref o1))).set 8 (some (V.ref o2))).set 9 (some (V.ref hd))).set 10 (some (V.ref fl)))[10]? = some (some (.ref fl)) := by simp [List.getElem?_set, R.len]
    generalize (((σ.set 7 (some (V.ref o1))).set 8 (some (V.ref o2))).set 9 (some (V.ref hd))).set 10 (some (V.ref fl)) = σ1 at R1 Q1 v7 v8 v9 v10 ⊢
    have hl16 := R1.len
    -- due
    refine ⟨_, v9, hd, rfl, ⟨_, SqT.of hhd⟩, fun L nL => lc_tup (K := K) (a := hd) (xs := rw.hv) (fun i H' => ∃ acc, H' L = some (.lst acc) ∧ acc.length = i ∧ Same H H' ∧ CpAll (rw.As.take i) H' acc) ?_ ?_ ?_ ?_⟩
    · exact ⟨[], upd_same, rfl, same_upd nL, trivial⟩
    · exact fun i H' _ ⟨_, _, _, sm, _⟩ => SqT.of (sm _ _ hhd)
    · intro j y H' hy ⟨acc, h1, h2, h3, h4⟩
      obtain ⟨Aj, hAj, hj⟩ := paired_at (paired_flip hh) hy
      have i3 : j < rw.As.length := (List.getElem?_eq_some_iff.mp hAj).1
      have i16 : rw.As.length ≤ 3 := rows_3 (memAt hrw)
      refine ⟨by simp [wipe], ?_⟩
      dsimp only [tYes]
      rw [if_pos rfl]
      refine ⟨_, List.getElem?_set_self (by rw [wipe_length]; omega), y, Aj, rfl, here_same h3 hj, fun v' H4 hc sm => ?_⟩
      have g1 := sm _ _ h1
      refine ⟨acc, g1, Nat.lt_of_lt_of_le (by omega : acc.length < 1000) (sz 1000), acc ++ [v'], upd_same, by simp [h2], fun b o z => ?_, ?_⟩
      · rw [upd_ne (ne_of_none z nL)]; exact sm _ _ (h3 _ _ z)
      · have e : rw.As.take (j + 1) = rw.As.take j ++ [Aj] := by rw [List.take_succ, hAj]; rfl
        rw [e]
        have tt : ∀ b zs, H4 b = some (.tup zs) → upd H4 L (.lst (acc ++ [v'])) b = some (.tup zs) := fun b zs z => by
          rw [upd_ne (ne_of z g1 (by intro q; cases q))]; exact z
        exact cp_snoc ((h4.ext fun b zs z => sm _ _ z).ext tt) (Arg.cp_ext tt hc)
    · intro H1 ⟨acc, h1, h2, h3, h4⟩
      rw [paired_len hh, List.take_length] at h4
      refine ⟨L, acc, rfl, .inl ⟨SqL.of h1, fun q hq => ?_⟩⟩
      have sm : Same H (upd H1 q (.tup acc)) := h3.trans (same_upd hq)
      have ok2 : ∀ A ∈ rw.As, A.ok K (upd H1 q (.tup acc)) := fun A m => ok_keep (R.keep.same sm) (G.ok A m)
      have dd : DpAll K (upd H1 q (.tup acc)) acc (rw.As.map Arg.dat) := cp_all (h4.ext fun b zs z => same_upd hq _ _ z) ok2
      obtain ⟨sh, eq, od⟩ := dOk_sh G.d
      obtain ⟨z1, z2, z3, z4⟩ := okD_at od
      refine ⟨q, _, rfl, .tup (SqT.of upd_same) dd, z1, z2, z3, z4, ?_⟩
      have R2 := (R1.same sm).set (i := 11) (some (.str (PyData.tuple (rw.As.map Arg.dat)).shown)) (by decide) (by decide)
      have Q2 := (Q1.same sm).set (i := 11) (some (.str (PyData.tuple (rw.As.map Arg.dat)).shown)) (by decide)
      dsimp only [gName]
      have u7 : (σ1.set 11 (some (.str (PyData.tuple (rw.As.map Arg.dat)).shown)))[7]? = some (some (.ref o1)) := by rw [List.getElem?_set_ne (by decide)]; exact v7
      have u8 : (σ1.set 11 (some (.str (PyData.tuple (rw.As.map Arg.dat)).shown)))[8]? = some (some (.ref o2)) := by rw [List.getElem?_set_ne (by decide)]; exact v8
      have u10 : (σ1.set 11 (some (.str (PyData.tuple (rw.As.map Arg.dat)).shown)))[10]? = some (some (.ref fl)) := by rw [List.getElem?_set_ne (by decide)]; exact v10
      have u11 : (σ1.set 11 (some (.str (PyData.tuple (rw.As.map Arg.dat)).shown)))[11]? = some (some (.str (PyData.tuple (rw.As.map Arg.dat)).shown)) := List.getElem?_set_self (by omega)
      generalize σ1.set 11 (some (.str (PyData.tuple (rw.As.map Arg.dat)).shown)) = σ2 at R2 Q2 u7 u8 u10 u11 ⊢
      replace i1 := i1.same sm
      replace i2 := i2.same sm
      replace hfl := lamAt_ext (extN_of sm) hfl
      generalize upd H1 q (.tup acc) = H2 at R2 Q2 i1 i2 hfl ⊢
      refine rd_fields u10 u7 i1 hfl G fun H3 s3 => ⟨_, u11, rfl, _, rfl, ?_⟩
      rw [ne_selfB]
      refine iteF ?_
      refine rd_fields u10 u8 (i2.same s3) (lamAt_ext (extN_of s3) hfl) G fun H4 s4 => ⟨_, u11, rfl, _, rfl, ?_⟩
      rw [ne_selfB]
      refine iteF ?_
      have s34 := s3.trans s4
      have cmp : Cmp P w K mg base H4 (.ref o1) (.ref o2) true := by
        rw [← eq]
        exact .same G.cf (i1.same s34) (i2.same s34) sh sh
      refine ⟨_, u7, _, u8, cmp.ne fun H5 s5 => ⟨_, rfl, ?_⟩⟩
      refine iteF ?_
      refine ⟨_, u7, _, u8, (cmp.stay s5).eq fun H6 s6 => ⟨_, rfl, ?_⟩⟩
      refine iteF ?_
      have s36 := (s34.trans s5).trans s6
      exact ⟨R2.same s36, Q2.same s36⟩
  · rintro σ H ⟨R, Q0⟩
    rw [e1]
    exact ⟨A, B, C, va, vb, vc, la, p, r, ts, Hv, R, Q0⟩
end
end K90

set_option maxHeartbeats 4000000
namespace K90
open PySem PySem.Spec PyProof.Rows L2
theorem rows_c {K : PySem.W.Frag} {A B D : Arg} {va vb vc : V} {i : Nat} {r : RowS} (h : (rowList K A B D va vb vc)[i]? = some r) : ∃ n, names16[i]? = some n ∧ r.C = cA K n := by
  have e : (rowList K A B D va vb vc).map (·.C) = names16.map (cA K) := rfl
  have z : ((rowList K A B D va vb vc).map (·.C))[i]? = some r.C := by rw [List.getElem?_map, h]; rfl
  rw [e, List.getElem?_map] at z
  cases q : names16[i]? with
  | none => rw [q] at z; cases z
  | some n => rw [q] at z; exact ⟨n, rfl, (Option.some.inj z).symm⟩
theorem names_ne {i j : Nat} {n m : Str} (hi : i < 16) (hj : j < 16) (h : i ≠ j) (h1 : names16[i]? = some n) (h2 : names16[j]? = some m) : n ≠ m := fun e => by
  subst e
  have all : ∀ a, a < 16 → ∀ b, b < 16 → names16[a]? = names16[b]? → a = b := by decide +kernel
  exact h (all i hi j hj (h1.trans h2.symm))
section
variable {P : Program} {w : World} {K : PySem.W.Frag} {mg : Str → Option Value} {base : Heap} {f : Addr} {cdv : Value} {s : Shared} {H0 : Hp}
theorem st5 (hr : Room 5 (AL f cdv s)) (T : Txt mg) (W : W16 P w K mg base) {f_law_draw : Addr} {fd_law_draw : FuncData} (g_law_draw : mg "_law_draw" = some (.ref f_law_draw)) (F_law_draw : FnG K "_law_draw" 24 f_law_draw fd_law_draw) :
    Stp (XL P w K mg base f cdv s H0) RT (stm 5) (Post3 K 3) (Post3 K 19) := by
  have hu1 : (AL f cdv s).units < cLine := by have := hr.un; omega
  have G_law_draw : FnOk P w K mg base CX0 1 f_law_draw fd_law_draw ["pen", "many"] spDraw := ok_draw F_law_draw T
  have b_law_draw : L2.Binds K fd_law_draw ["pen", "many"] [] := F_law_draw.bindsN fun _ _ _ _ _ _ us hl => match us, hl with | [_, _], _ => rfl
  refine ⟨_, (ps_for PassesOwn.never rfl (pi_range1 rfl T.range (pa_cons (pe_callB call_len_seq (by rfl) T.len PySem.boot_len (pa_cons (pv 6) pa_nil)) pa_nil)) (pg_name (i := 12) scLaw.nd rfl (Or.inl rfl))
  (pss_cons (ps_set (i := 13) scLaw.nd rfl (Or.inl rfl) (pe_ix (r := rIxT K) ix_tup (pe_ix (r := rIxL K) ix_list (pv 6) (pe_op op_mod (pe_callTy call_int1 (by rfl) T.int (by decide +kernel) (pa_cons (pe_op op_add (pe_op op_add (pv 12) pe_int) (pe_call G_law_draw (hr.mono (by decide)) rfl g_law_draw F_law_draw.kp b_law_draw .nil pass0 (pa_cons (pv 1) (pa_cons (pe_op op_sub (pe_callB call_len_seq (by rfl) T.len PySem.boot_len (pa_cons (pv 6) pa_nil)) pe_int) pa_nil)))) pa_nil)) (pe_callB call_len_seq (by rfl) T.len PySem.boot_len (pa_cons (pv 6) pa_nil))) (fun _ _ => rfl)) pe_int (fun _ _ => rfl)))
  (pss_one (ps_if (PW.pt (pw_or (pt_cmpR (r := rEqA P w K mg base) (op_eqA (hr.mono (j := 3) (by decide)) hu1) (pe_ix (r := rIxT K) ix_tup (pe_ix (r := rIxL K) ix_list (pv 6) (pv 12) (fun _ _ => rfl)) pe_int (fun _ _ => rfl)) (pv 13) (nomark _)) (pw_or1 (pt_not (pt_cmpR (r := rNeA P w K mg base) (op_neA (hr.mono (j := 4) (by decide)) hu1) (pe_ix (r := rIxT K) ix_tup (pe_ix (r := rIxL K) ix_list (pv 6) (pv 12) (fun _ _ => rfl)) pe_int (fun _ _ => rfl)) (pv 13) (nomark _))))))
  (pss_one (ps_ret pe_bl))
  pss_nil)))), fun D σ H e1 e2 h => ?_⟩
  obtain ⟨A, B, C, va, vb, vc, la, p, r, ts, Hv, R, Q0⟩ := h
  have RG := rows_g (va := va) (vb := vb) (vc := vc) W R.okA R.okB R.okD R.mA R.mB R.mD
  have hts : ts.length = 16 := (paired_len R.rows).symm
  refine ⟨_, R.s6, r, ts, rfl, .inl (SqL.of R.hr), (16 : Int), by rw [hts]; rfl, by decide, by decide, for_range (lo := 0) (n := (16 : Int).toNat) (fun i σ H => RSt K A B C va vb vc la p r ts Hv (3 + i) σ H ∧ HSt K A B C va vb vc σ H) ⟨R, Q0⟩ ?_ ?_⟩
  · rintro i σ H hi ⟨R, Q0⟩
    have i16 : i < 16 := hi
    show (tSeq _ _) _ (σ.set 12 (some (.int (0 + (i : Int))))) H
    have R1 := R.set (i := 12) (some (.int (0 + (i : Int)))) (by decide) (by decide)
    have Q1 := Q0.set (i := 12) (some (.int (0 + (i : Int)))) (by decide)
    have v12 : (σ.set 12 (some (V.int (0 + (i : Int)))))[12]? = some (some (.int (0 + (i : Int)))) := List.getElem?_set_self (by have := R.len; omega)
    generalize σ.set 12 (some (V.int (0 + (i : Int)))) = σ1 at R1 Q1 v12 ⊢
    refine ⟨_, R1.s6, _, v12, _, _, rfl, rfl, _, R1.s1, _, R1.s6, r, ts, rfl, .inl (SqL.of R1.hr), _, _, rfl, rfl, p, (ts.length : Int) - 1, 3 + i, la, rfl, by omega, by omega, by omega, R1.pen, fun d H1 d0 d1 hp' kp => ?_⟩
    obtain ⟨d', rfl⟩ : ∃ d' : Nat, d = (d' : Int) := ⟨d.toNat, by omega⟩
    have R2 := R1.but hp' kp
    have Q2 := Q1.but R1.pen kp
    have jlt : (i + 1 + d') % 16 < 16 := Nat.mod_lt _ (by decide)
    have jne : i ≠ (i + 1 + d') % 16 := by omega
    have ej : ((0 + (i : Int)) + 1 + (d' : Int)) % (ts.length : Int) = (((i + 1 + d') % 16 : Nat) : Int) := by rw [hts]; omega
    generalize (i + 1 + d') % 16 = j at jlt jne ej
    obtain ⟨ti, hti⟩ : ∃ t, ts[i]? = some t := ⟨ts[i]'(by omega), List.getElem?_eq_getElem _⟩
    obtain ⟨tj, htj⟩ : ∃ t, ts[j]? = some t := ⟨ts[j]'(by omega), List.getElem?_eq_getElem _⟩
    obtain ⟨ri, hri, rowi⟩ := paired_at R2.rows hti
    obtain ⟨rj, hrj, rowj⟩ := paired_at R2.rows htj
    have Gi := RG ri (memAt hri)
    have Gj := RG rj (memAt hrj)
    obtain ⟨ai, oi, pi2, hdi, fli, rfl, hai, ii, _, _, _⟩ := rowi.ins Gi R2.keep
    obtain ⟨aj, oj, pj2, hdj, flj, rfl, haj, ij, _, _, _⟩ := rowj.ins Gj R2.keep
    refine ⟨_, _, rfl, rfl, .inl ⟨_, rfl, _, R2.s6, r, ts, rfl, .inl (SqL.of R2.hr), _, _, rfl, rfl, by omega, r, ts, _, _, rfl, rfl, SqL.of R2.hr, by rw [ej]; exact atI_nat htj, aj, _, 0, _, rfl, rfl, SqT.of haj, rfl, ?_⟩⟩
    dsimp only [gName]
    have R3 := R2.set (i := 13) (some (.ref oj)) (by decide) (by decide)
    have Q3 := Q2.set (i := 13) (some (.ref oj)) (by decide)
    have u12 : (σ1.set 13 (some (V.ref oj)))[12]? = some (some (.int (0 + (i : Int)))) := by rw [List.getElem?_set_ne (by decide)]; exact v12
    have u13 : (σ1.set 13 (some (V.ref oj)))[13]? = some (some (.ref oj)) := List.getElem?_set_self (by have := R2.len; omega)
    generalize σ1.set 13 (some (V.ref oj)) = σ2 at R3 Q3 u12 u13 ⊢
    obtain ⟨ni, hni, eci⟩ := rows_c hri
    obtain ⟨nj, hnj, ecj⟩ := rows_c hrj
    have nn := names_ne i16 jlt jne hni hnj
    have tw := W.two ni (List.mem_of_getElem? hni) nj (List.mem_of_getElem? hnj)
    have cmp : Cmp P w K mg base H1 (.ref oi) (.ref oj) false := by
      refine .diff Gi.cf ii (dOk_sh Gi.d).1 (ij.kd Gj.cf.ic) ?_ ?_
      · rw [eci, ecj, tw.1, decide_eq_false nn]
      · rw [eci, ecj]; exact tw.2
    have ei : atI ts (0 + (i : Int)) = some (.ref ai) := by rw [Int.zero_add]; exact atI_nat hti
    refine ⟨_, R3.s6, _, u12, r, ts, _, _, rfl, rfl, SqL.of R3.hr, ei, ai, _, 0, _, rfl, rfl, SqT.of hai, rfl, _, u13, cmp.eq fun H4 s4 => ⟨_, rfl, ?_⟩⟩
    refine iteF ?_
    have R4 := R3.same s4
    refine ⟨_, R4.s6, _, u12, r, ts, _, _, rfl, rfl, SqL.of R4.hr, ei, ai, _, 0, _, rfl, rfl, SqT.of (s4 _ _ hai), rfl, _, u13, (cmp.stay s4).ne fun H5 s5 => ⟨_, rfl, ?_⟩⟩
    refine iteF ?_
    exact ⟨(Nat.add_assoc 3 i 1 ▸ R4.same s5 : RSt K A B C va vb vc la p r ts Hv (3 + (i + 1)) σ2 H5), (Q3.same s4).same s5⟩
  · rintro σ H ⟨R, Q0⟩
    rw [e1]
    exact ⟨A, B, C, va, vb, vc, la, p, r, ts, Hv, R, Q0⟩
end
end K90

set_option maxHeartbeats 4000000
namespace K90
open PySem PySem.Spec PyProof.Rows L2
theorem any_rep : ∀ n : Nat, (List.replicate n false).any id = false
  | 0 => rfl
  | n + 1 => by rw [List.replicate_succ, List.any_cons, any_rep n]; rfl
theorem wipe2 {σ : L2.St} {a b : Option V} : wipe (((wipe σ [7, 8]).set 7 a).set 8 b) [7, 8] = wipe σ [7, 8] := by
  show (((((σ.set 8 none).set 7 none).set 7 a).set 8 b).set 8 none).set 7 none = (σ.set 8 none).set 7 none
  rw [List.set_set, List.set_set, List.set_comm (i := 7) (j := 8) a none (by decide), List.set_set, List.set_set]
section
variable {P : Program} {w : World} {K : PySem.W.Frag} {mg : Str → Option Value} {base : Heap} {f : Addr} {cdv : Value} {s : Shared} {H0 : Hp}
theorem st6 (hr : Room 5 (AL f cdv s)) (T : Txt mg) (W : W16 P w K mg base) {f_law_unlike : Addr} {fd_law_unlike : FuncData} (g_law_unlike : mg "_law_unlike" = some (.ref f_law_unlike)) (F_law_unlike : FnG K "_law_unlike" 29 f_law_unlike fd_law_unlike) (G_law_unlike : FnOk P w K mg base CX0 4 f_law_unlike fd_law_unlike [] (spUn P w K mg base)) :
    Stp (XL P w K mg base f cdv s H0) RT (stm 6) (Post3 K 19) (Post3 K 19) := by
  have hu1 : (AL f cdv s).units < cLine := by have := hr.un; omega
  have b_law_unlike : L2.Binds K fd_law_unlike [] [] := F_law_unlike.bindsN fun _ _ _ _ _ _ us hl => match us, hl with | [], _ => rfl
  refine ⟨_, (ps_if (pt_val (pe_callB (cr_any (by rfl)) (by rfl) T.any (by decide +kernel) (pa_cons (pe_lc (own := [("one", 7), ("two", 8)]) (g := (gTup K 2 (gCons (gName 7) (gCons (gName 8) gNil)))) (tt := tYes) (by rfl) scLaw.nd (pi_list (pe_call0 G_law_unlike (hr.mono (by decide)) rfl g_law_unlike F_law_unlike.kp b_law_unlike .nil pass0)) (blkOk_by (own := [("one", 7), ("two", 8)]) (N := NL) (sc := defScope (top 30)) (by decide +kernel)) (fun _ _ _ _ _ => (pg_tup rfl (pgs_cons (pg_name (i := 7) scLaw.nd rfl (Or.inl rfl)) (pgs_cons (pg_name (i := 8) scLaw.nd rfl (Or.inl rfl)) pgs_nil)))) (fun _ _ _ _ _ => pts_nil) (fun _ _ _ _ _ => (pe_or (pe_cmpR (r := rEqA P w K mg base) (op_eqA (hr.mono (j := 3) (by decide)) hu1) (pv 7) (pv 8) (nomark _)) (pe_one (pe_not (pe_cmpR (r := rNeA P w K mg base) (op_neA (hr.mono (j := 4) (by decide)) hu1) (pv 7) (pv 8) (nomark _))))))) pa_nil)))
  (pss_one (ps_ret pe_bl))
  pss_nil), fun D σ H e1 e2 h => ?_⟩
  obtain ⟨A, B, C, va, vb, vc, la, p, r, ts, Hv, R, Q0⟩ := h
  refine ⟨rfl, fun u us H1 s1 hu1 lu uu => ⟨u, rfl, ⟨_, SqL.of hu1⟩, fun L nL => lc_list (K := K) (a := u) (xs := us) (fun i H' => H' L = some (.lst ((List.replicate i false).map V.bl)) ∧ Same H1 H') ?_ ?_ ?_ ?_⟩⟩
  · exact ⟨upd_same, same_upd nL⟩
  · exact fun i H' _ ⟨_, sm⟩ => SqL.of (sm _ _ hu1)
  · intro i x H' hx ⟨h1, h2⟩
    obtain ⟨a, x1, x2, rfl, ha, cmp⟩ := uu x (memAt hx)
    have i25 : i < us.length := (List.getElem?_eq_some_iff.mp hx).1
    have cmp := cmp.stay h2
    refine ⟨a, _, rfl, SqT.of (h2 _ _ ha), rfl, x1, _, rfl, x2, [], rfl, rfl, wipe2, ?_⟩
    dsimp only [tYes]
    rw [if_pos rfl]
    have v7 : (((wipe σ (List.map (fun x => x.snd) [("one", 7), ("two", 8)])).set 7 (some x1)).set 8 (some x2))[7]? = some (some x1) := by simp [wipe, List.getElem?_set, R.len]
    have v8 : (((wipe σ (List.map (fun x => x.snd) [("one", 7), ("two", 8)])).set 7 (some x1)).set 8 (some x2))[8]? = some (some x2) := by simp [wipe, List.getElem?_set, R.len]
    refine ⟨_, v7, _, v8, cmp.eq fun H4 s4 => ⟨false, rfl, ?_⟩⟩
    refine iteF ⟨_, v7, _, v8, (cmp.stay s4).ne fun H5 s5 => ⟨true, rfl, ?_⟩⟩
    have s45 := s4.trans s5
    refine ⟨_, s45 _ _ h1, by rw [List.length_map, List.length_replicate]; exact Nat.lt_of_lt_of_le (by omega : i < 1000) (sz 1000), ?_, fun b o z => ?_⟩
    · rw [upd_same, List.replicate_succ', List.map_append]
      rfl
    · rw [upd_ne (ne_of_none z nL)]; exact s45 _ _ (h2 _ _ z)
  · intro H' ⟨h1, h2⟩
    refine ⟨L, List.replicate us.length false, rfl, SqL.of h1, ?_⟩
    rw [any_rep]
    refine ⟨_, rfl, ?_⟩
    refine iteF ?_
    show D.nx _ _
    rw [e1]
    have sm := s1.trans h2
    exact ⟨A, B, C, va, vb, vc, la, p, r, ts, Hv, R.same sm, Q0.same sm⟩
end
end K90

set_option maxHeartbeats 4000000
namespace K90
open PySem PySem.Spec PyProof.Rows L2
/-- the rows, without the pen -/
structure RS (K : PySem.W.Frag) (A B D : Arg) (va vb vc : V) (r : Addr) (ts : List V) (Hv : Hp) (σ : L2.St) (H : Hp) : Prop where
  len : σ.length = 16
  s6 : σ[6]? = some (some (.ref r))
  keep : KeepS Hv H
  okA : A.ok K Hv
  okB : B.ok K Hv
  okD : D.ok K Hv
  mA : A.dat ∈ menuC
  mB : B.dat ∈ menuC
  mD : D.dat ∈ menuC
  hr : H r = some (.lst ts)
  rows : Paired (Row H) (rowList K A B D va vb vc) ts
theorem RSt.rs {K : PySem.W.Frag} {A B D : Arg} {va vb vc : V} {la p r : Addr} {ts : List V} {Hv : Hp} {n : Nat} {σ : L2.St} {H : Hp} (h : RSt K A B D va vb vc la p r ts Hv n σ H) : RS K A B D va vb vc r ts Hv σ H :=
  ⟨h.len, h.s6, h.keep, h.okA, h.okB, h.okD, h.mA, h.mB, h.mD, h.hr, h.rows⟩
abbrev te3 (K : PySem.W.Frag) : TE := tCl K (tOp (rIxT K) (tOp (rIxL K) (tVar 6) (tVar 12)) (tC (.int 3))) (tCons (tOp (rIxT K) (tOp (rIxL K) (tVar 6) (tVar 12)) (tC (.int 0))) tNil)
/-- one of the tuples that are shown -/
def Shn (H0 H : Hp) (v : V) (r : RowS) : Prop := ∃ p xs, v = .ref p ∧ H p = some (.tup xs) ∧ CpAll r.As H0 xs
section
variable {P : Program} {w : World} {K : PySem.W.Frag} {mg : Str → Option Value} {base : Heap} {f : Addr} {cdv : Value} {s : Shared} {H0 : Hp}
theorem rd_three {A B D : Arg} {va vb vc : V} {r : Addr} {ts : List V} {Hv : Hp} {σ : L2.St} {H : Hp} (W : W16 P w K mg base) (R : RS K A B D va vb vc r ts Hv σ H) {Q : VK} (q : ∀ H', Same H H' → Q (.str (three A.dat B.dat D.dat).shown) H') :
    tCB (rRepr K) (tCons (tLc (iTup K (tTup (tCons (tC (.int 0)) (tCons (tC (.int 3)) (tCons (tC (.int 10)) tNil))))) (gName 12) tYes (te3 K) [12]) tNil) σ H Q := by
  have RG := rows_g (va := va) (vb := vb) (vc := vc) W R.okA R.okB R.okD R.mA R.mB R.mD
  have hts : ts.length = 16 := (paired_len R.rows).symm
  refine ⟨sz 3, fun t ht => ⟨t, rfl, ⟨_, SqT.of upd_same⟩, fun L nL => lc_tup (K := K) (a := t) (xs := [.int 0, .int 3, .int 10]) (fun i H' => ∃ acc, H' L = some (.lst acc) ∧ acc.length = i ∧ Same (upd H t (.tup [.int 0, .int 3, .int 10])) H' ∧
    Paired (Shn H H') acc (([⟨cA K "Area", ["ratio"], [A], [va], lamd 0⟩, ⟨cA K "Profile", ["rows"], [A], [va], lamd 3⟩, ⟨cA K "Model", mnm, [A, B, D], [va, vb, vc], lamd 10⟩] : List RowS).take i)) ?_ ?_ ?_ ?_⟩⟩
  · exact ⟨[], upd_same, rfl, same_upd nL, .nil⟩
  · exact fun i H' _ ⟨_, _, _, sm, _⟩ => SqT.of (sm _ _ upd_same)
  · intro i x H' hx ⟨acc, h1, h2, h3, h4⟩
    have s0 : Same H H' := (same_upd ht).trans h3
    have i3 : i < 3 := (List.getElem?_eq_some_iff.mp hx).1
    obtain ⟨k, rk, rfl, hk, hrk, hrk2⟩ : ∃ (k : Nat) (rk : RowS), x = .int (k : Int) ∧ k < 16 ∧ (rowList K A B D va vb vc)[k]? = some rk ∧ ([⟨cA K "Area", ["ratio"], [A], [va], lamd 0⟩, ⟨cA K "Profile", ["rows"], [A], [va], lamd 3⟩, ⟨cA K "Model", mnm, [A, B, D], [va, vb, vc], lamd 10⟩] : List RowS)[i]? = some rk := by
      rcases i with _ | _ | _ | i
      · cases hx; exact ⟨0, _, rfl, by decide, rfl, rfl⟩
      · cases hx; exact ⟨3, _, rfl, by decide, rfl, rfl⟩
      · cases hx; exact ⟨10, _, rfl, by decide, rfl, rfl⟩
      · omega
    obtain ⟨tk, htk⟩ : ∃ t, ts[k]? = some t := ⟨ts[k]'(by omega), List.getElem?_eq_getElem _⟩
    obtain ⟨rk', hrk', row⟩ := paired_at R.rows htk
    rw [hrk] at hrk'
    cases hrk'
    have G := RG rk (memAt hrk)
    obtain ⟨a, o1, o2, d1, d2, hd, fl, xs, ys, rfl, g1, g2, g3, g4, g5, g6, g7, g8, g9⟩ := row
    refine ⟨by simp [wipe], ?_⟩
    dsimp only [tYes]
    rw [if_pos rfl]
    have v12 : ((wipe σ [12]).set 12 (some (V.int (k : Int))))[12]? = some (some (.int (k : Int))) := List.getElem?_set_self (by rw [wipe_length]; have := R.len; omega)
    have v6 : ((wipe σ [12]).set 12 (some (V.int (k : Int))))[6]? = some (some (.ref r)) := by simpa [wipe, List.getElem?_set] using R.s6
    have hr' := s0 _ _ R.hr
    have ha' := s0 _ _ g1
    have lf := lamAt_ext (extN_of s0) g9
    refine ⟨_, v6, _, v12, r, ts, _, _, rfl, rfl, SqL.of hr', atI_nat htk, a, _, 3, _, rfl, rfl, SqT.of ha', rfl, fl, rk.lam, rfl, lf, _, v6, _, v12, r, ts, _, _, rfl, rfl, SqL.of hr', atI_nat htk, a, _, 0, _, rfl, rfl, SqT.of ha', rfl, lf, rk.nm, o1, rk.C, d1, xs, rfl, G.lam, s0 _ _ g2, g6, G.cf.ic.cl, G.na, fun p hp => ?_⟩
    have nL1 : L ≠ p := ne_of_none h1 hp
    refine ⟨acc, by rw [upd_ne nL1]; exact h1, Nat.lt_of_lt_of_le (by omega : acc.length < 1000) (sz 1000), acc ++ [.ref p], upd_same, by simp [h2], fun b o z => ?_, ?_⟩
    · rw [upd_ne (ne_of_none z nL), upd_ne (ne_of_none (h3 _ _ z) hp)]; exact h3 _ _ z
    · rw [List.take_succ, hrk2]
      refine paired_snoc (Paired.mapP h4 fun u e ⟨p', xs', q1, q2, q3⟩ => ⟨p', xs', q1, ?_, q3⟩) ⟨p, xs, rfl, ?_, g4⟩
      · rw [upd_ne (ne_of q2 h1 (by intro z; cases z)), upd_ne (ne_of_none q2 hp)]; exact q2
      · rw [upd_ne nL1.symm, upd_same]
  · intro H' ⟨acc, h1, h2, h3, h4⟩
    have s0 : Same H H' := (same_upd ht).trans h3
    have kp := R.keep.same s0
    cases h4 with
    | cons a1 h4 => cases h4 with
      | cons a2 h4 => cases h4 with
        | cons a3 h4 =>
          cases h4
          obtain ⟨p1, x1, rfl, b1, c1⟩ := a1
          obtain ⟨p2, x2, rfl, b2, c2⟩ := a2
          obtain ⟨p3, x3, rfl, b3, c3⟩ := a3
          have tt : ∀ b zs, H b = some (.tup zs) → H' b = some (.tup zs) := fun b zs z => s0 _ _ z
          have okA := ok_keep kp R.okA
          have okB := ok_keep kp R.okB
          have okD := ok_keep kp R.okD
          have o1 : ∀ X ∈ [A], X.ok K H' := fun X m => by rw [List.mem_singleton.mp m]; exact okA
          have o3 : ∀ X ∈ [A, B, D], X.ok K H' := fun X m => by
            simp only [List.mem_cons, List.not_mem_nil, or_false] at m
            rcases m with rfl | rfl | rfl <;> assumption
          obtain ⟨z1, z2, z3, z4⟩ := okD_at (d3 R.mA R.mB R.mD).2
          refine ⟨L, three A.dat B.dat D.dat, rfl, .lst (SqL.of h1) (.cons (.tup (SqT.of b1) (cp_all (As := [A]) (CpAll.ext tt c1) o1)) (.cons (.tup (SqT.of b2) (cp_all (As := [A]) (CpAll.ext tt c2) o1)) (.cons (.tup (SqT.of b3) (cp_all (As := [A, B, D]) (CpAll.ext tt c3) o3)) .nil))), z1, z2, z3, z4, q _ s0⟩
def Post7 (K : PySem.W.Frag) (σ : L2.St) (H : Hp) : Prop := ∃ A B D va vb vc la p r ts Hv, RSt K A B D va vb vc la p r ts Hv 19 σ H ∧ HSt K A B D va vb vc σ H ∧ σ[14]? = some (some (.str (three A.dat B.dat D.dat).shown))
def Post8 (K : PySem.W.Frag) (σ : L2.St) (H : Hp) : Prop := ∃ A B D va vb vc r ts Hv, RS K A B D va vb vc r ts Hv σ H ∧ σ[14]? = some (some (.str (three A.dat B.dat D.dat).shown))
theorem st7 (hr : Room 5 (AL f cdv s)) (T : Txt mg) (W : W16 P w K mg base) : Stp (XL P w K mg base f cdv s H0) RT (stm 7) (Post3 K 19) (Post7 K) := by
  have hg : (AL f cdv s).guards = some [] := rfl
  have hu : (AL f cdv s).units + 65 < cLine := by have := hr.un; omega
  refine ⟨_, (ps_set (i := 14) scLaw.nd rfl (Or.inl rfl) (pe_callB (call_reprD hg hu) (by rfl) T.repr (by decide +kernel) (pa_cons (pe_lc (own := [("k", 12)]) (g := (gName 12)) (te := tCl K (tOp (rIxT K) (tOp (rIxL K) (tVar 6) (tVar 12)) (tC (.int 3))) (tCons (tOp (rIxT K) (tOp (rIxL K) (tVar 6) (tVar 12)) (tC (.int 0))) tNil)) (tt := tYes) (by rfl) scLaw.nd (pi_tup (pe_tup (pa_cons pe_int (pa_cons pe_int (pa_cons pe_int pa_nil))))) (blkOk_by (own := [("k", 12)]) (N := NL) (sc := defScope (top 30)) (by decide +kernel)) (fun _ _ _ _ _ => (pg_name (i := 12) scLaw.nd rfl (Or.inl rfl))) (fun _ _ _ _ _ => pts_nil) (fun _ _ _ _ _ => (pe_clS (pe_ix (r := rIxT K) ix_tup (pe_ix (r := rIxL K) ix_list (pv 6) (pv 12) (fun _ _ => rfl)) pe_int (fun _ _ => rfl)) (hr.mono (by decide)) (pa_cons (pe_ix (r := rIxT K) ix_tup (pe_ix (r := rIxL K) ix_list (pv 6) (pv 12) (fun _ _ => rfl)) pe_int (fun _ _ => rfl)) pa_nil)))) pa_nil))), fun D σ H e1 e2 h => ?_⟩
  obtain ⟨A, B, C, va, vb, vc, la, p, r, ts, Hv, R, Q0⟩ := h
  refine rd_three W R.rs fun H' sm => ?_
  show D.nx _ _
  rw [e1]
  exact ⟨A, B, C, va, vb, vc, la, p, r, ts, Hv, (R.same sm).set _ (by decide) (by decide), (Q0.same sm).set _ (by decide), List.getElem?_set_self (by have := R.len; omega)⟩
theorem menu_len : (menuC.all fun d => match d with | .tuple ds => decide (ds.length ≤ 10) | _ => true) = true := by decide +kernel
theorem st8 (hr : Room 5 (AL f cdv s)) (T : Txt mg) (W : W16 P w K mg base) : Stp (XL P w K mg base f cdv s H0) RT (stm 8) (Post7 K) (Post8 K) := by
  refine ⟨_, (ps_if (pt_val (pe_callB call_isi (by rfl) T.isinstance (by decide +kernel) (pa_cons (pv 3) (pa_cons (pe_bltn (v := .ty "list") (u := .type "list") rfl T.list (by decide +kernel) rfl) pa_nil))))
  (pss_one (ps_expr (pe_bm PySem.F.plainAttrs_list PySem.F.slot_list_append PySem.F.type_list_append mt_append (pv 3) (pa_cons pe_int pa_nil))))
  pss_nil), fun D σ H e1 e2 h => ?_⟩
  obtain ⟨A, B, C, va, vb, vc, la, p, r, ts, Hv, R, Q0, s14⟩ := h
  have hts : ts.length = 16 := (paired_len R.rows).symm
  obtain ⟨t, b, ty, kt, eb⟩ := copied_ty Q0.hA
  refine ⟨_, Q0.s3, va, .ty "list", _, _, b, rfl, .ty "list", ty, kt, _, rfl, ?_⟩
  cases A with
  | flat u d =>
    rw [eb]
    refine iteF ?_
    show D.nx _ _
    rw [e1]
    exact ⟨_, B, C, va, vb, vc, r, ts, Hv, R.rs, s14⟩
  | list x xs ds =>
    rw [eb]
    obtain ⟨rfl, hx⟩ := Q0.hA
    have hds : ds.length ≤ 10 := of_decide_eq_true (List.all_eq_true.mp menu_len (.tuple ds) R.mA)
    have hxs : xs.length = ds.length := (dps_len R.okA)
    refine iteT ⟨_, Q0.s3, .inl ⟨rfl, _, SqL.of hx⟩, x, xs, .int 7, rfl, rfl, hx, Nat.lt_of_lt_of_le (by omega : xs.length < 1000) (sz 1000), ?_⟩
    show D.nx _ _
    rw [e1]
    have nr : r ≠ x := fun z => by
      have q := R.hr
      rw [z, hx] at q
      cases q
      omega
    have nv : Hv x = none := R.fr x xs ds rfl
    refine ⟨.list x xs ds, B, C, .ref x, vb, vc, r, ts, Hv, ⟨R.len, R.s6, fun b o z q => ?_, R.okA, R.okB, R.okD, R.mA, R.mB, R.mD, by rw [upd_ne nr]; exact R.hr, Paired.mapP R.rows fun a b q => q.lst hx⟩, s14⟩
    rw [upd_ne (ne_of_none z nv)]
    exact R.keep _ _ z q
theorem st9 (hr : Room 5 (AL f cdv s)) (T : Txt mg) (W : W16 P w K mg base) : ∃ t, PS (XL P w K mg base f cdv s H0) (stm 9) t ∧ ∀ (D : Ends) (σ : L2.St) (H : Hp), D.rt = RT → Post8 K σ H → t D σ H := by
  have hg : (AL f cdv s).guards = some [] := rfl
  have hu : (AL f cdv s).units + 65 < cLine := by have := hr.un; omega
  refine ⟨_, (ps_ret (pe_cmpR op_eq (pe_callB (call_reprD hg hu) (by rfl) T.repr (by decide +kernel) (pa_cons (pe_lc (own := [("k", 12)]) (g := (gName 12)) (te := tCl K (tOp (rIxT K) (tOp (rIxL K) (tVar 6) (tVar 12)) (tC (.int 3))) (tCons (tOp (rIxT K) (tOp (rIxL K) (tVar 6) (tVar 12)) (tC (.int 0))) tNil)) (tt := tYes) (by rfl) scLaw.nd (pi_tup (pe_tup (pa_cons pe_int (pa_cons pe_int (pa_cons pe_int pa_nil))))) (blkOk_by (own := [("k", 12)]) (N := NL) (sc := defScope (top 30)) (by decide +kernel)) (fun _ _ _ _ _ => (pg_name (i := 12) scLaw.nd rfl (Or.inl rfl))) (fun _ _ _ _ _ => pts_nil) (fun _ _ _ _ _ => (pe_clS (pe_ix (r := rIxT K) ix_tup (pe_ix (r := rIxL K) ix_list (pv 6) (pv 12) (fun _ _ => rfl)) pe_int (fun _ _ => rfl)) (hr.mono (by decide)) (pa_cons (pe_ix (r := rIxT K) ix_tup (pe_ix (r := rIxL K) ix_list (pv 6) (pv 12) (fun _ _ => rfl)) pe_int (fun _ _ => rfl)) pa_nil)))) pa_nil)) (pv 14) (nomark _))), fun D σ H e2 h => ?_⟩
  obtain ⟨A, B, C, va, vb, vc, r, ts, Hv, R, s14⟩ := h
  refine rd_three W R fun H' sm => ⟨_, s14, rfl, ?_⟩
  show D.rt _ _
  rw [e2]
  show V.bl _ = V.bl true
  rw [decide_eq_true rfl]
end
end K90

set_option maxHeartbeats 4000000
namespace K90
open PySem PySem.Spec PyProof.Rows L2
theorem paired_app {α β : Type} {F : α → β → Prop} : ∀ {xs : List α} {ys : List β} {xs' : List α} {ys' : List β}, Paired F xs ys → Paired F xs' ys' → Paired F (xs ++ xs') (ys ++ ys')
  | _, _, _, _, .nil, h => h
  | _, _, _, _, .cons g t, h => .cons g (paired_app t h)
theorem vals_rev' {vs : List V} {us : List Value} (h : Vals vs us) : Vals vs.reverse us.reverse := by
  induction h with
  | nil => exact .nil
  | cons h t ih => rw [List.reverse_cons, List.reverse_cons]; exact paired_snoc ih h
theorem ex_parts {K : PySem.W.Frag} (h : ex K = true) : (∀ n ∈ (["Slides", "Turns", "Levels", "Steps", "Uneven"] : List Str), PySem.W.makesIn K (cA K n) = true ∧ PySem.W.findIn K (.ref (cA K n)) "__init__" = some (some (.builtin "object.__init__")) ∧ PySem.W.keepIn K (.ref (cA K n)) = true) ∧
    (PySem.W.specialIn K (.builtin "object.__class__") "__get__" = some (some (.builtin "getset_descriptor.__get__")) ∧ PySem.W.takesIn K (.builtin "object.__class__") = some true) ∧
    ∀ c ∈ names16, (PySem.W.findIn K (.ref (cA K c)) "__class__" = some (some (.builtin "object.__class__")) ∧ PySem.W.mroIn K (cA K c) (.type "object") = some true) ∧
      (PySem.W.kitOne K (.type "str") (.ref (cA K c)) = some false ∧ PySem.W.notFirst K (cA K c) (.type "str") = true) ∧ (PySem.W.kitOne K (.type "int") (.ref (cA K c)) = some false ∧ PySem.W.notFirst K (cA K c) (.type "int") = true) ∧
      ∀ d ∈ names16, PySem.W.kitOne K (.ref (cA K d)) (.ref (cA K c)) = some (decide (c = d)) ∧ PySem.W.notFirst K (cA K c) (.ref (cA K d)) = true := by
  unfold ex at h
  obtain ⟨h1, h⟩ := He.ba h
  obtain ⟨h2, h3⟩ := He.ba h
  refine ⟨fun n hn => ?_, ?_, fun c hc => ?_⟩
  · have m : n ∈ (["Slides", "Turns", "Steps", "Levels", "Uneven"] : List Str) := by
      simp only [List.mem_cons, List.not_mem_nil, or_false] at hn ⊢
      rcases hn with h | h | h | h | h
      · exact .inl h
      · exact .inr (.inl h)
      · exact .inr (.inr (.inr (.inl h)))
      · exact .inr (.inr (.inl h))
      · exact .inr (.inr (.inr (.inr h)))
    have z := List.all_eq_true.mp h1 n m
    unfold exNul at z
    obtain ⟨z1, z⟩ := He.ba z
    obtain ⟨z2, z3⟩ := He.ba z
    exact ⟨z1, He.eqO_ok z2, z3⟩
  · unfold exAll at h2
    obtain ⟨z1, z2⟩ := He.ba h2
    exact ⟨He.eqO_ok z1, of_decide_eq_true z2⟩
  · obtain ⟨z1, z⟩ := He.ba (List.all_eq_true.mp h3 c hc)
    obtain ⟨z2, z⟩ := He.ba z
    obtain ⟨z3, z4⟩ := He.ba z
    unfold exIns at z1
    obtain ⟨y1, y2⟩ := He.ba z1
    unfold exTy at z2 z3
    obtain ⟨x1, x2⟩ := He.ba z2
    obtain ⟨u1, u2⟩ := He.ba z3
    refine ⟨⟨He.eqO_ok y1, of_decide_eq_true y2⟩, ⟨of_decide_eq_true x1, x2⟩, ⟨of_decide_eq_true u1, u2⟩, fun d hd => ?_⟩
    have q := List.all_eq_true.mp z4 d hd
    unfold exTwo at q
    obtain ⟨q1, q2⟩ := He.ba q
    exact ⟨of_decide_eq_true q1, q2⟩
/-- the law's world: the functions, the classes, the free names -/
structure LF (P : Program) (w : World) (K : PySem.W.Frag) (mg : Str → Option Value) (base : Heap) : Prop where
  T : Txt mg
  W : W16 P w K mg base
  pen : ∃ f fd, mg "_law_pen" = some (.ref f) ∧ FnG K "_law_pen" 23 f fd
  draw : ∃ f fd, mg "_law_draw" = some (.ref f) ∧ FnG K "_law_draw" 24 f fd
  pick : ∃ f fd, mg "_law_pick" = some (.ref f) ∧ FnG K "_law_pick" 25 f fd
  value : ∃ f fd, mg "_law_value" = some (.ref f) ∧ FnG K "_law_value" 26 f fd
  copy : ∃ f fd, mg "_law_copy" = some (.ref f) ∧ FnG K "_law_copy" 27 f fd
  rows : ∃ fd, mg "_law_rows" = some (.ref (He.fAd K atR)) ∧ FnG K "_law_rows" 28 (He.fAd K atR) fd
  unlike : ∃ f fd, mg "_law_unlike" = some (.ref f) ∧ FnG K "_law_unlike" 29 f fd
theorem lf {P : Program} {w : World} {K : PySem.W.Frag} {mg : Str → Option Value} {base h : Heap} (X : K.In h) (G : h.Ns mainGlobals mg) (c : He.SaysX fa fn [] tf ex w h K) : LF P w K mg base := by
  have gC0 := He.glo_ok X G (c.t.d.fact 0 (f := .glo "copied") rfl)
  obtain ⟨fdC, FC⟩ := (c.t.d.def_ 0 (d := dG "copied" 1) rfl)
  have gC := He.glo_ok X G (c.t.d.fact 0 (f := .glo "copied") rfl)
  obtain ⟨fdK, FK⟩ := (c.t.d.def_ 1 (d := dG "model_key" 19) rfl)
  have gK := He.glo_ok X G (c.t.d.fact 1 (f := .glo "model_key") rfl)
  obtain ⟨fdp, Fp⟩ := (c.t.d.def_ 2 (d := dG "_law_pen" 23) rfl)
  have gp := He.glo_ok X G (c.t.d.fact 2 (f := .glo "_law_pen") rfl)
  obtain ⟨fdd, Fd⟩ := (c.t.d.def_ 3 (d := dG "_law_draw" 24) rfl)
  have gd := He.glo_ok X G (c.t.d.fact 3 (f := .glo "_law_draw") rfl)
  obtain ⟨fdk, Fk⟩ := (c.t.d.def_ 4 (d := dG "_law_pick" 25) rfl)
  have gk := He.glo_ok X G (c.t.d.fact 4 (f := .glo "_law_pick") rfl)
  obtain ⟨fdv, Fv⟩ := (c.t.d.def_ 5 (d := dG "_law_value" 26) rfl)
  have gv := He.glo_ok X G (c.t.d.fact 5 (f := .glo "_law_value") rfl)
  obtain ⟨fdy, Fy⟩ := (c.t.d.def_ 6 (d := dG "_law_copy" 27) rfl)
  have gy := He.glo_ok X G (c.t.d.fact 6 (f := .glo "_law_copy") rfl)
  obtain ⟨fdr, Fr⟩ := (c.t.d.def_ 7 (d := dG "_law_rows" 28) rfl)
  have gr := He.glo_ok X G (c.t.d.fact 7 (f := .glo "_law_rows") rfl)
  obtain ⟨fdu, Fu⟩ := (c.t.d.def_ 8 (d := dG "_law_unlike" 29) rfl)
  have gu := He.glo_ok X G (c.t.d.fact 8 (f := .glo "_law_unlike") rfl)
  have T : Txt mg := ⟨He.free_ok X G (c.t.d.fact 26 (f := .free "isinstance") rfl), He.free_ok X G (c.t.d.fact 27 (f := .free "list") rfl), He.free_ok X G (c.t.d.fact 28 (f := .free "tuple") rfl), He.free_ok X G (c.t.d.fact 29 (f := .free "int") rfl), He.free_ok X G (c.t.d.fact 30 (f := .free "len") rfl), He.free_ok X G (c.t.d.fact 31 (f := .free "repr") rfl), He.free_ok X G (c.t.d.fact 32 (f := .free "range") rfl), He.free_ok X G (c.t.d.fact 33 (f := .free "any") rfl)⟩
  obtain ⟨nulls, all, rest⟩ := ex_parts c.more
  have two : ∀ c ∈ names16, ∀ d ∈ names16, PySem.W.kitOne K (.ref (cA K d)) (.ref (cA K c)) = some (decide (c = d)) ∧ PySem.W.notFirst K (cA K c) (.ref (cA K d)) = true := fun c hc d hd => (rest c hc).2.2.2 d hd
  have ins : ∀ (c : Str), c ∈ names16 → Cls K (cA K c) → C8.InsC K (cA K c) := fun c hc cl => ⟨cl, (rest c hc).1.1, all.1, all.2, (rest c hc).1.2, by have z := (two c hc c hc).1; rw [decide_eq_true rfl] at z; exact z⟩
  have oneArea : One P w K mg base "Area" "ratio" (cA K "Area") ∧ CF P w K mg base (cA K "Area") ["ratio"] := by
    have gC := He.glo_ok X G (c.t.d.fact 10 (f := .glo "Area") rfl)
    have cl := He.cls_ok (c.t.d.fact 34 (f := .cls "Area") rfl)
    have nF := He.noat_ok (c.t.d.fact 93 (f := .noat "Area" "ratio") rfl)
    have mE := He.meth_ok (c.t.d.fact 61 (f := .meth "Area" "__eq__") rfl)
    have mN := He.meth_ok (c.t.d.fact 62 (f := .meth "Area" "__ne__") rfl)
    obtain ⟨fdI, FI⟩ := (c.t.d.def_ 10 (d := dM "Area" "__init__" 3 0) rfl)
    obtain ⟨fdE, FE⟩ := (c.t.d.def_ 11 (d := dM "Area" "__eq__" 3 1) rfl)
    obtain ⟨fdN, FN⟩ := (c.t.d.def_ 12 (d := dM "Area" "__ne__" 3 2) rfl)
    have OE := ok_Area_e (P := P) (w := w) (base := base) FE T gC cl nF
    have bE : L2.Binds K fdE ["self", "other"] [] := FE.bindsN fun _ _ _ _ _ _ us hl => match us, hl with | [_, _], _ => rfl
    have bN : L2.Binds K fdN ["self", "other"] [] := FN.bindsN fun _ _ _ _ _ _ us hl => match us, hl with | [_, _], _ => rfl
    have m : ("Area" : Str) ∈ names16 := by decide +kernel
    refine ⟨⟨gC, cl, nF, _, fdI, He.mkr_ok (c.t.d.fact 50 (f := .mkr "Area") rfl), ok_Area_i FI FC T gC0 cl nF, FI.bindsN fun _ _ _ _ _ _ us hl => match us, hl with | [_, _], _ => rfl, kbn_of FI 1 (fun us ws => us ++ ws) (fun r1 r2 => paired_app r1 r2) (fun kV doc pm an cdv ct us ws l1 l2 => match us, ws, l1, l2 with | [_], [_], _, _ => rfl)⟩, ins _ m cl, (two _ m _ m).2, ⟨_, fdE, mE.at_, mE.fn, OE.mono (by decide), bE⟩, ⟨_, fdN, mN.at_, mN.fn, (ok_Area_n FN OE bE mE).mono (by decide), bN⟩⟩
  have oneSides : One P w K mg base "Sides" "rows" (cA K "Sides") ∧ CF P w K mg base (cA K "Sides") ["rows"] := by
    have gC := He.glo_ok X G (c.t.d.fact 11 (f := .glo "Sides") rfl)
    have cl := He.cls_ok (c.t.d.fact 35 (f := .cls "Sides") rfl)
    have nF := He.noat_ok (c.t.d.fact 94 (f := .noat "Sides" "rows") rfl)
    have mE := He.meth_ok (c.t.d.fact 63 (f := .meth "Sides" "__eq__") rfl)
    have mN := He.meth_ok (c.t.d.fact 64 (f := .meth "Sides" "__ne__") rfl)
    obtain ⟨fdI, FI⟩ := (c.t.d.def_ 13 (d := dM "Sides" "__init__" 4 0) rfl)
    obtain ⟨fdE, FE⟩ := (c.t.d.def_ 14 (d := dM "Sides" "__eq__" 4 1) rfl)
    obtain ⟨fdN, FN⟩ := (c.t.d.def_ 15 (d := dM "Sides" "__ne__" 4 2) rfl)
    have OE := ok_Sides_e (P := P) (w := w) (base := base) FE T gC cl nF
    have bE : L2.Binds K fdE ["self", "other"] [] := FE.bindsN fun _ _ _ _ _ _ us hl => match us, hl with | [_, _], _ => rfl
    have bN : L2.Binds K fdN ["self", "other"] [] := FN.bindsN fun _ _ _ _ _ _ us hl => match us, hl with | [_, _], _ => rfl
    have m : ("Sides" : Str) ∈ names16 := by decide +kernel
    refine ⟨⟨gC, cl, nF, _, fdI, He.mkr_ok (c.t.d.fact 51 (f := .mkr "Sides") rfl), ok_Sides_i FI FC T gC0 cl nF, FI.bindsN fun _ _ _ _ _ _ us hl => match us, hl with | [_, _], _ => rfl, kbn_of FI 1 (fun us ws => us ++ ws) (fun r1 r2 => paired_app r1 r2) (fun kV doc pm an cdv ct us ws l1 l2 => match us, ws, l1, l2 with | [_], [_], _, _ => rfl)⟩, ins _ m cl, (two _ m _ m).2, ⟨_, fdE, mE.at_, mE.fn, OE.mono (by decide), bE⟩, ⟨_, fdN, mN.at_, mN.fn, (ok_Sides_n FN OE bE mE).mono (by decide), bN⟩⟩
  have oneCovers : One P w K mg base "Covers" "rows" (cA K "Covers") ∧ CF P w K mg base (cA K "Covers") ["rows"] := by
    have gC := He.glo_ok X G (c.t.d.fact 14 (f := .glo "Covers") rfl)
    have cl := He.cls_ok (c.t.d.fact 38 (f := .cls "Covers") rfl)
    have nF := He.noat_ok (c.t.d.fact 97 (f := .noat "Covers" "rows") rfl)
    have mE := He.meth_ok (c.t.d.fact 69 (f := .meth "Covers" "__eq__") rfl)
    have mN := He.meth_ok (c.t.d.fact 70 (f := .meth "Covers" "__ne__") rfl)
    obtain ⟨fdI, FI⟩ := (c.t.d.def_ 22 (d := dM "Covers" "__init__" 12 0) rfl)
    obtain ⟨fdE, FE⟩ := (c.t.d.def_ 23 (d := dM "Covers" "__eq__" 12 1) rfl)
    obtain ⟨fdN, FN⟩ := (c.t.d.def_ 24 (d := dM "Covers" "__ne__" 12 2) rfl)
    have OE := ok_Covers_e (P := P) (w := w) (base := base) FE T gC cl nF
    have bE : L2.Binds K fdE ["self", "other"] [] := FE.bindsN fun _ _ _ _ _ _ us hl => match us, hl with | [_, _], _ => rfl
    have bN : L2.Binds K fdN ["self", "other"] [] := FN.bindsN fun _ _ _ _ _ _ us hl => match us, hl with | [_, _], _ => rfl
    have m : ("Covers" : Str) ∈ names16 := by decide +kernel
    refine ⟨⟨gC, cl, nF, _, fdI, He.mkr_ok (c.t.d.fact 54 (f := .mkr "Covers") rfl), ok_Covers_i FI FC T gC0 cl nF, FI.bindsN fun _ _ _ _ _ _ us hl => match us, hl with | [_, _], _ => rfl, kbn_of FI 1 (fun us ws => us ++ ws) (fun r1 r2 => paired_app r1 r2) (fun kV doc pm an cdv ct us ws l1 l2 => match us, ws, l1, l2 with | [_], [_], _, _ => rfl)⟩, ins _ m cl, (two _ m _ m).2, ⟨_, fdE, mE.at_, mE.fn, OE.mono (by decide), bE⟩, ⟨_, fdN, mN.at_, mN.fn, (ok_Covers_n FN OE bE mE).mono (by decide), bN⟩⟩
  have oneProfile : One P w K mg base "Profile" "rows" (cA K "Profile") ∧ CF P w K mg base (cA K "Profile") ["rows"] := by
    have gC := He.glo_ok X G (c.t.d.fact 15 (f := .glo "Profile") rfl)
    have cl := He.cls_ok (c.t.d.fact 39 (f := .cls "Profile") rfl)
    have nF := He.noat_ok (c.t.d.fact 98 (f := .noat "Profile" "rows") rfl)
    have mE := He.meth_ok (c.t.d.fact 71 (f := .meth "Profile" "__eq__") rfl)
    have mN := He.meth_ok (c.t.d.fact 72 (f := .meth "Profile" "__ne__") rfl)
    obtain ⟨fdI, FI⟩ := (c.t.d.def_ 25 (d := dM "Profile" "__init__" 13 0) rfl)
    obtain ⟨fdE, FE⟩ := (c.t.d.def_ 26 (d := dM "Profile" "__eq__" 13 1) rfl)
    obtain ⟨fdN, FN⟩ := (c.t.d.def_ 27 (d := dM "Profile" "__ne__" 13 2) rfl)
    have OE := ok_Profile_e (P := P) (w := w) (base := base) FE T gC cl nF
    have bE : L2.Binds K fdE ["self", "other"] [] := FE.bindsN fun _ _ _ _ _ _ us hl => match us, hl with | [_, _], _ => rfl
    have bN : L2.Binds K fdN ["self", "other"] [] := FN.bindsN fun _ _ _ _ _ _ us hl => match us, hl with | [_, _], _ => rfl
    have m : ("Profile" : Str) ∈ names16 := by decide +kernel
    refine ⟨⟨gC, cl, nF, _, fdI, He.mkr_ok (c.t.d.fact 55 (f := .mkr "Profile") rfl), ok_Profile_i FI FC T gC0 cl nF, FI.bindsN fun _ _ _ _ _ _ us hl => match us, hl with | [_, _], _ => rfl, kbn_of FI 1 (fun us ws => us ++ ws) (fun r1 r2 => paired_app r1 r2) (fun kV doc pm an cdv ct us ws l1 l2 => match us, ws, l1, l2 with | [_], [_], _, _ => rfl)⟩, ins _ m cl, (two _ m _ m).2, ⟨_, fdE, mE.at_, mE.fn, OE.mono (by decide), bE⟩, ⟨_, fdN, mN.at_, mN.fn, (ok_Profile_n FN OE bE mE).mono (by decide), bN⟩⟩
  have oneMeet : One P w K mg base "Meet" "ratio" (cA K "Meet") ∧ CF P w K mg base (cA K "Meet") ["ratio"] := by
    have gC := He.glo_ok X G (c.t.d.fact 16 (f := .glo "Meet") rfl)
    have cl := He.cls_ok (c.t.d.fact 40 (f := .cls "Meet") rfl)
    have nF := He.noat_ok (c.t.d.fact 99 (f := .noat "Meet" "ratio") rfl)
    have mE := He.meth_ok (c.t.d.fact 73 (f := .meth "Meet" "__eq__") rfl)
    have mN := He.meth_ok (c.t.d.fact 74 (f := .meth "Meet" "__ne__") rfl)
    obtain ⟨fdI, FI⟩ := (c.t.d.def_ 28 (d := dM "Meet" "__init__" 14 0) rfl)
    obtain ⟨fdE, FE⟩ := (c.t.d.def_ 29 (d := dM "Meet" "__eq__" 14 1) rfl)
    obtain ⟨fdN, FN⟩ := (c.t.d.def_ 30 (d := dM "Meet" "__ne__" 14 2) rfl)
    have OE := ok_Meet_e (P := P) (w := w) (base := base) FE T gC cl nF
    have bE : L2.Binds K fdE ["self", "other"] [] := FE.bindsN fun _ _ _ _ _ _ us hl => match us, hl with | [_, _], _ => rfl
    have bN : L2.Binds K fdN ["self", "other"] [] := FN.bindsN fun _ _ _ _ _ _ us hl => match us, hl with | [_, _], _ => rfl
    have m : ("Meet" : Str) ∈ names16 := by decide +kernel
    refine ⟨⟨gC, cl, nF, _, fdI, He.mkr_ok (c.t.d.fact 56 (f := .mkr "Meet") rfl), ok_Meet_i FI FC T gC0 cl nF, FI.bindsN fun _ _ _ _ _ _ us hl => match us, hl with | [_, _], _ => rfl, kbn_of FI 1 (fun us ws => us ++ ws) (fun r1 r2 => paired_app r1 r2) (fun kV doc pm an cdv ct us ws l1 l2 => match us, ws, l1, l2 with | [_], [_], _, _ => rfl)⟩, ins _ m cl, (two _ m _ m).2, ⟨_, fdE, mE.at_, mE.fn, OE.mono (by decide), bE⟩, ⟨_, fdN, mN.at_, mN.fn, (ok_Meet_n FN OE bE mE).mono (by decide), bN⟩⟩
  have oneSpot : One P w K mg base "Spot" "word" (cA K "Spot") ∧ CF P w K mg base (cA K "Spot") ["word"] := by
    have gC := He.glo_ok X G (c.t.d.fact 17 (f := .glo "Spot") rfl)
    have cl := He.cls_ok (c.t.d.fact 41 (f := .cls "Spot") rfl)
    have nF := He.noat_ok (c.t.d.fact 100 (f := .noat "Spot" "word") rfl)
    have mE := He.meth_ok (c.t.d.fact 75 (f := .meth "Spot" "__eq__") rfl)
    have mN := He.meth_ok (c.t.d.fact 76 (f := .meth "Spot" "__ne__") rfl)
    obtain ⟨fdI, FI⟩ := (c.t.d.def_ 31 (d := dM "Spot" "__init__" 15 0) rfl)
    obtain ⟨fdE, FE⟩ := (c.t.d.def_ 32 (d := dM "Spot" "__eq__" 15 1) rfl)
    obtain ⟨fdN, FN⟩ := (c.t.d.def_ 33 (d := dM "Spot" "__ne__" 15 2) rfl)
    have OE := ok_Spot_e (P := P) (w := w) (base := base) FE T gC cl nF
    have bE : L2.Binds K fdE ["self", "other"] [] := FE.bindsN fun _ _ _ _ _ _ us hl => match us, hl with | [_, _], _ => rfl
    have bN : L2.Binds K fdN ["self", "other"] [] := FN.bindsN fun _ _ _ _ _ _ us hl => match us, hl with | [_, _], _ => rfl
    have m : ("Spot" : Str) ∈ names16 := by decide +kernel
    refine ⟨⟨gC, cl, nF, _, fdI, He.mkr_ok (c.t.d.fact 57 (f := .mkr "Spot") rfl), ok_Spot_i FI FC T gC0 cl nF, FI.bindsN fun _ _ _ _ _ _ us hl => match us, hl with | [_, _], _ => rfl, kbn_of FI 1 (fun us ws => us ++ ws) (fun r1 r2 => paired_app r1 r2) (fun kV doc pm an cdv ct us ws l1 l2 => match us, ws, l1, l2 with | [_], [_], _, _ => rfl)⟩, ins _ m cl, (two _ m _ m).2, ⟨_, fdE, mE.at_, mE.fn, OE.mono (by decide), bE⟩, ⟨_, fdN, mN.at_, mN.fn, (ok_Spot_n FN OE bE mE).mono (by decide), bN⟩⟩
  have oneEars : One P w K mg base "Ears" "rows" (cA K "Ears") ∧ CF P w K mg base (cA K "Ears") ["rows"] := by
    have gC := He.glo_ok X G (c.t.d.fact 18 (f := .glo "Ears") rfl)
    have cl := He.cls_ok (c.t.d.fact 42 (f := .cls "Ears") rfl)
    have nF := He.noat_ok (c.t.d.fact 101 (f := .noat "Ears" "rows") rfl)
    have mE := He.meth_ok (c.t.d.fact 77 (f := .meth "Ears" "__eq__") rfl)
    have mN := He.meth_ok (c.t.d.fact 78 (f := .meth "Ears" "__ne__") rfl)
    obtain ⟨fdI, FI⟩ := (c.t.d.def_ 34 (d := dM "Ears" "__init__" 16 0) rfl)
    obtain ⟨fdE, FE⟩ := (c.t.d.def_ 35 (d := dM "Ears" "__eq__" 16 1) rfl)
    obtain ⟨fdN, FN⟩ := (c.t.d.def_ 36 (d := dM "Ears" "__ne__" 16 2) rfl)
    have OE := ok_Ears_e (P := P) (w := w) (base := base) FE T gC cl nF
    have bE : L2.Binds K fdE ["self", "other"] [] := FE.bindsN fun _ _ _ _ _ _ us hl => match us, hl with | [_, _], _ => rfl
    have bN : L2.Binds K fdN ["self", "other"] [] := FN.bindsN fun _ _ _ _ _ _ us hl => match us, hl with | [_, _], _ => rfl
    have m : ("Ears" : Str) ∈ names16 := by decide +kernel
    refine ⟨⟨gC, cl, nF, _, fdI, He.mkr_ok (c.t.d.fact 58 (f := .mkr "Ears") rfl), ok_Ears_i FI FC T gC0 cl nF, FI.bindsN fun _ _ _ _ _ _ us hl => match us, hl with | [_, _], _ => rfl, kbn_of FI 1 (fun us ws => us ++ ws) (fun r1 r2 => paired_app r1 r2) (fun kV doc pm an cdv ct us ws l1 l2 => match us, ws, l1, l2 with | [_], [_], _, _ => rfl)⟩, ins _ m cl, (two _ m _ m).2, ⟨_, fdE, mE.at_, mE.fn, OE.mono (by decide), bE⟩, ⟨_, fdN, mN.at_, mN.fn, (ok_Ears_n FN OE bE mE).mono (by decide), bN⟩⟩
  have oneApart : One P w K mg base "Apart" "direction" (cA K "Apart") ∧ CF P w K mg base (cA K "Apart") ["direction"] := by
    have gC := He.glo_ok X G (c.t.d.fact 12 (f := .glo "Apart") rfl)
    have cl := He.cls_ok (c.t.d.fact 36 (f := .cls "Apart") rfl)
    have nF := He.noat_ok (c.t.d.fact 95 (f := .noat "Apart" "direction") rfl)
    have mE := He.meth_ok (c.t.d.fact 65 (f := .meth "Apart" "__eq__") rfl)
    have mN := He.meth_ok (c.t.d.fact 66 (f := .meth "Apart" "__ne__") rfl)
    obtain ⟨fdI, FI⟩ := (c.t.d.def_ 16 (d := dM "Apart" "__init__" 9 0) rfl)
    obtain ⟨fdE, FE⟩ := (c.t.d.def_ 17 (d := dM "Apart" "__eq__" 9 1) rfl)
    obtain ⟨fdN, FN⟩ := (c.t.d.def_ 18 (d := dM "Apart" "__ne__" 9 2) rfl)
    have OE := ok_Apart_e (P := P) (w := w) (base := base) FE T gC cl nF
    have bE : L2.Binds K fdE ["self", "other"] [] := FE.bindsN fun _ _ _ _ _ _ us hl => match us, hl with | [_, _], _ => rfl
    have bN : L2.Binds K fdN ["self", "other"] [] := FN.bindsN fun _ _ _ _ _ _ us hl => match us, hl with | [_, _], _ => rfl
    have m : ("Apart" : Str) ∈ names16 := by decide +kernel
    refine ⟨⟨gC, cl, nF, _, fdI, He.mkr_ok (c.t.d.fact 52 (f := .mkr "Apart") rfl), ok_Apart_i FI FC T gC0 cl nF, FI.bindsN fun _ _ _ _ _ _ us hl => match us, hl with | [_, _], _ => rfl, kbn_of FI 1 (fun us ws => us ++ ws) (fun r1 r2 => paired_app r1 r2) (fun kV doc pm an cdv ct us ws l1 l2 => match us, ws, l1, l2 with | [_], [_], _, _ => rfl)⟩, ins _ m cl, (two _ m _ m).2, ⟨_, fdE, mE.at_, mE.fn, OE.mono (by decide), bE⟩, ⟨_, fdN, mN.at_, mN.fn, (ok_Apart_n FN OE bE mE).mono (by decide), bN⟩⟩
  have oneTilted : One P w K mg base "Tilted" "height" (cA K "Tilted") ∧ CF P w K mg base (cA K "Tilted") ["height"] := by
    have gC := He.glo_ok X G (c.t.d.fact 13 (f := .glo "Tilted") rfl)
    have cl := He.cls_ok (c.t.d.fact 37 (f := .cls "Tilted") rfl)
    have nF := He.noat_ok (c.t.d.fact 96 (f := .noat "Tilted" "height") rfl)
    have mE := He.meth_ok (c.t.d.fact 67 (f := .meth "Tilted" "__eq__") rfl)
    have mN := He.meth_ok (c.t.d.fact 68 (f := .meth "Tilted" "__ne__") rfl)
    obtain ⟨fdI, FI⟩ := (c.t.d.def_ 19 (d := dM "Tilted" "__init__" 11 0) rfl)
    obtain ⟨fdE, FE⟩ := (c.t.d.def_ 20 (d := dM "Tilted" "__eq__" 11 1) rfl)
    obtain ⟨fdN, FN⟩ := (c.t.d.def_ 21 (d := dM "Tilted" "__ne__" 11 2) rfl)
    have OE := ok_Tilted_e (P := P) (w := w) (base := base) FE T gC cl nF
    have bE : L2.Binds K fdE ["self", "other"] [] := FE.bindsN fun _ _ _ _ _ _ us hl => match us, hl with | [_, _], _ => rfl
    have bN : L2.Binds K fdN ["self", "other"] [] := FN.bindsN fun _ _ _ _ _ _ us hl => match us, hl with | [_, _], _ => rfl
    have m : ("Tilted" : Str) ∈ names16 := by decide +kernel
    refine ⟨⟨gC, cl, nF, _, fdI, He.mkr_ok (c.t.d.fact 53 (f := .mkr "Tilted") rfl), ok_Tilted_i FI FC T gC0 cl nF, FI.bindsN fun _ _ _ _ _ _ us hl => match us, hl with | [_, _], _ => rfl, kbn_of FI 1 (fun us ws => us ++ ws) (fun r1 r2 => paired_app r1 r2) (fun kV doc pm an cdv ct us ws l1 l2 => match us, ws, l1, l2 with | [_], [_], _, _ => rfl)⟩, ins _ m cl, (two _ m _ m).2, ⟨_, fdE, mE.at_, mE.fn, OE.mono (by decide), bE⟩, ⟨_, fdN, mN.at_, mN.fn, (ok_Tilted_n FN OE bE mE).mono (by decide), bN⟩⟩
  have onePaper : One P w K mg base "Paper" "asked" (cA K "Paper") ∧ CF P w K mg base (cA K "Paper") ["asked"] := by
    have gC := He.glo_ok X G (c.t.d.fact 19 (f := .glo "Paper") rfl)
    have cl := He.cls_ok (c.t.d.fact 43 (f := .cls "Paper") rfl)
    have nF := He.noat_ok (c.t.d.fact 102 (f := .noat "Paper" "asked") rfl)
    have mE := He.meth_ok (c.t.d.fact 79 (f := .meth "Paper" "__eq__") rfl)
    have mN := He.meth_ok (c.t.d.fact 80 (f := .meth "Paper" "__ne__") rfl)
    obtain ⟨fdI, FI⟩ := (c.t.d.def_ 37 (d := dM "Paper" "__init__" 21 0) rfl)
    obtain ⟨fdE, FE⟩ := (c.t.d.def_ 38 (d := dM "Paper" "__eq__" 21 1) rfl)
    obtain ⟨fdN, FN⟩ := (c.t.d.def_ 39 (d := dM "Paper" "__ne__" 21 2) rfl)
    have OE := ok_Paper_e (P := P) (w := w) (base := base) FE T gC cl nF
    have bE : L2.Binds K fdE ["self", "other"] [] := FE.bindsN fun _ _ _ _ _ _ us hl => match us, hl with | [_, _], _ => rfl
    have bN : L2.Binds K fdN ["self", "other"] [] := FN.bindsN fun _ _ _ _ _ _ us hl => match us, hl with | [_, _], _ => rfl
    have m : ("Paper" : Str) ∈ names16 := by decide +kernel
    refine ⟨⟨gC, cl, nF, _, fdI, He.mkr_ok (c.t.d.fact 59 (f := .mkr "Paper") rfl), ok_Paper_i FI FC T gC0 cl nF, FI.bindsN fun _ _ _ _ _ _ us hl => match us, hl with | [_, _], _ => rfl, kbn_of FI 1 (fun us ws => us ++ ws) (fun r1 r2 => paired_app r1 r2) (fun kV doc pm an cdv ct us ws l1 l2 => match us, ws, l1, l2 with | [_], [_], _, _ => rfl)⟩, ins _ m cl, (two _ m _ m).2, ⟨_, fdE, mE.at_, mE.fn, OE.mono (by decide), bE⟩, ⟨_, fdN, mN.at_, mN.fn, (ok_Paper_n FN OE bE mE).mono (by decide), bN⟩⟩
  have nulSlides : Nul K mg "Slides" (cA K "Slides") ∧ CF P w K mg base (cA K "Slides") [] := by
    have gC := He.glo_ok X G (c.t.d.fact 21 (f := .glo "Slides") rfl)
    have cl := He.cls_ok (c.t.d.fact 45 (f := .cls "Slides") rfl)
    have mE := He.meth_ok (c.t.d.fact 83 (f := .meth "Slides" "__eq__") rfl)
    have mN := He.meth_ok (c.t.d.fact 84 (f := .meth "Slides" "__ne__") rfl)
    obtain ⟨fdE, FE⟩ := (c.t.d.def_ 43 (d := dM "Slides" "__eq__" 5 0) rfl)
    obtain ⟨fdN, FN⟩ := (c.t.d.def_ 44 (d := dM "Slides" "__ne__" 5 1) rfl)
    have OE := ok_Slides_e (P := P) (w := w) (base := base) FE T gC
    have bE : L2.Binds K fdE ["self", "other"] [] := FE.bindsN fun _ _ _ _ _ _ us hl => match us, hl with | [_, _], _ => rfl
    have bN : L2.Binds K fdN ["self", "other"] [] := FN.bindsN fun _ _ _ _ _ _ us hl => match us, hl with | [_, _], _ => rfl
    have m : ("Slides" : Str) ∈ names16 := by decide +kernel
    obtain ⟨k1, k2, k3⟩ := nulls "Slides" (by decide +kernel)
    refine ⟨⟨gC, cl, k1, k2, k3⟩, ins _ m cl, (two _ m _ m).2, ⟨_, fdE, mE.at_, mE.fn, OE.mono (by decide), bE⟩, ⟨_, fdN, mN.at_, mN.fn, (ok_Slides_n FN OE bE mE).mono (by decide), bN⟩⟩
  have nulTurns : Nul K mg "Turns" (cA K "Turns") ∧ CF P w K mg base (cA K "Turns") [] := by
    have gC := He.glo_ok X G (c.t.d.fact 22 (f := .glo "Turns") rfl)
    have cl := He.cls_ok (c.t.d.fact 46 (f := .cls "Turns") rfl)
    have mE := He.meth_ok (c.t.d.fact 85 (f := .meth "Turns" "__eq__") rfl)
    have mN := He.meth_ok (c.t.d.fact 86 (f := .meth "Turns" "__ne__") rfl)
    obtain ⟨fdE, FE⟩ := (c.t.d.def_ 45 (d := dM "Turns" "__eq__" 6 0) rfl)
    obtain ⟨fdN, FN⟩ := (c.t.d.def_ 46 (d := dM "Turns" "__ne__" 6 1) rfl)
    have OE := ok_Turns_e (P := P) (w := w) (base := base) FE T gC
    have bE : L2.Binds K fdE ["self", "other"] [] := FE.bindsN fun _ _ _ _ _ _ us hl => match us, hl with | [_, _], _ => rfl
    have bN : L2.Binds K fdN ["self", "other"] [] := FN.bindsN fun _ _ _ _ _ _ us hl => match us, hl with | [_, _], _ => rfl
    have m : ("Turns" : Str) ∈ names16 := by decide +kernel
    obtain ⟨k1, k2, k3⟩ := nulls "Turns" (by decide +kernel)
    refine ⟨⟨gC, cl, k1, k2, k3⟩, ins _ m cl, (two _ m _ m).2, ⟨_, fdE, mE.at_, mE.fn, OE.mono (by decide), bE⟩, ⟨_, fdN, mN.at_, mN.fn, (ok_Turns_n FN OE bE mE).mono (by decide), bN⟩⟩
  have nulLevels : Nul K mg "Levels" (cA K "Levels") ∧ CF P w K mg base (cA K "Levels") [] := by
    have gC := He.glo_ok X G (c.t.d.fact 24 (f := .glo "Levels") rfl)
    have cl := He.cls_ok (c.t.d.fact 48 (f := .cls "Levels") rfl)
    have mE := He.meth_ok (c.t.d.fact 89 (f := .meth "Levels" "__eq__") rfl)
    have mN := He.meth_ok (c.t.d.fact 90 (f := .meth "Levels" "__ne__") rfl)
    obtain ⟨fdE, FE⟩ := (c.t.d.def_ 49 (d := dM "Levels" "__eq__" 8 0) rfl)
    obtain ⟨fdN, FN⟩ := (c.t.d.def_ 50 (d := dM "Levels" "__ne__" 8 1) rfl)
    have OE := ok_Levels_e (P := P) (w := w) (base := base) FE T gC
    have bE : L2.Binds K fdE ["self", "other"] [] := FE.bindsN fun _ _ _ _ _ _ us hl => match us, hl with | [_, _], _ => rfl
    have bN : L2.Binds K fdN ["self", "other"] [] := FN.bindsN fun _ _ _ _ _ _ us hl => match us, hl with | [_, _], _ => rfl
    have m : ("Levels" : Str) ∈ names16 := by decide +kernel
    obtain ⟨k1, k2, k3⟩ := nulls "Levels" (by decide +kernel)
    refine ⟨⟨gC, cl, k1, k2, k3⟩, ins _ m cl, (two _ m _ m).2, ⟨_, fdE, mE.at_, mE.fn, OE.mono (by decide), bE⟩, ⟨_, fdN, mN.at_, mN.fn, (ok_Levels_n FN OE bE mE).mono (by decide), bN⟩⟩
  have nulSteps : Nul K mg "Steps" (cA K "Steps") ∧ CF P w K mg base (cA K "Steps") [] := by
    have gC := He.glo_ok X G (c.t.d.fact 23 (f := .glo "Steps") rfl)
    have cl := He.cls_ok (c.t.d.fact 47 (f := .cls "Steps") rfl)
    have mE := He.meth_ok (c.t.d.fact 87 (f := .meth "Steps" "__eq__") rfl)
    have mN := He.meth_ok (c.t.d.fact 88 (f := .meth "Steps" "__ne__") rfl)
    obtain ⟨fdE, FE⟩ := (c.t.d.def_ 47 (d := dM "Steps" "__eq__" 7 0) rfl)
    obtain ⟨fdN, FN⟩ := (c.t.d.def_ 48 (d := dM "Steps" "__ne__" 7 1) rfl)
    have OE := ok_Steps_e (P := P) (w := w) (base := base) FE T gC
    have bE : L2.Binds K fdE ["self", "other"] [] := FE.bindsN fun _ _ _ _ _ _ us hl => match us, hl with | [_, _], _ => rfl
    have bN : L2.Binds K fdN ["self", "other"] [] := FN.bindsN fun _ _ _ _ _ _ us hl => match us, hl with | [_, _], _ => rfl
    have m : ("Steps" : Str) ∈ names16 := by decide +kernel
    obtain ⟨k1, k2, k3⟩ := nulls "Steps" (by decide +kernel)
    refine ⟨⟨gC, cl, k1, k2, k3⟩, ins _ m cl, (two _ m _ m).2, ⟨_, fdE, mE.at_, mE.fn, OE.mono (by decide), bE⟩, ⟨_, fdN, mN.at_, mN.fn, (ok_Steps_n FN OE bE mE).mono (by decide), bN⟩⟩
  have nulUneven : Nul K mg "Uneven" (cA K "Uneven") ∧ CF P w K mg base (cA K "Uneven") [] := by
    have gC := He.glo_ok X G (c.t.d.fact 25 (f := .glo "Uneven") rfl)
    have cl := He.cls_ok (c.t.d.fact 49 (f := .cls "Uneven") rfl)
    have mE := He.meth_ok (c.t.d.fact 91 (f := .meth "Uneven" "__eq__") rfl)
    have mN := He.meth_ok (c.t.d.fact 92 (f := .meth "Uneven" "__ne__") rfl)
    obtain ⟨fdE, FE⟩ := (c.t.d.def_ 51 (d := dM "Uneven" "__eq__" 10 0) rfl)
    obtain ⟨fdN, FN⟩ := (c.t.d.def_ 52 (d := dM "Uneven" "__ne__" 10 1) rfl)
    have OE := ok_Uneven_e (P := P) (w := w) (base := base) FE T gC
    have bE : L2.Binds K fdE ["self", "other"] [] := FE.bindsN fun _ _ _ _ _ _ us hl => match us, hl with | [_, _], _ => rfl
    have bN : L2.Binds K fdN ["self", "other"] [] := FN.bindsN fun _ _ _ _ _ _ us hl => match us, hl with | [_, _], _ => rfl
    have m : ("Uneven" : Str) ∈ names16 := by decide +kernel
    obtain ⟨k1, k2, k3⟩ := nulls "Uneven" (by decide +kernel)
    refine ⟨⟨gC, cl, k1, k2, k3⟩, ins _ m cl, (two _ m _ m).2, ⟨_, fdE, mE.at_, mE.fn, OE.mono (by decide), bE⟩, ⟨_, fdN, mN.at_, mN.fn, (ok_Uneven_n FN OE bE mE).mono (by decide), bN⟩⟩
  have modM : Mod3 P w K mg base (cA K "Model") ∧ CF P w K mg base (cA K "Model") mnm := by
    have gC := He.glo_ok X G (c.t.d.fact 20 (f := .glo "Model") rfl)
    have cl := He.cls_ok (c.t.d.fact 44 (f := .cls "Model") rfl)
    have M : MF K (cA K "Model") := ⟨cl, He.noat_ok (c.t.d.fact 103 (f := .noat "Model" "shapes") rfl), He.noat_ok (c.t.d.fact 104 (f := .noat "Model" "heaps") rfl), He.noat_ok (c.t.d.fact 105 (f := .noat "Model" "asks") rfl)⟩
    have mE := He.meth_ok (c.t.d.fact 81 (f := .meth "Model" "__eq__") rfl)
    have mN := He.meth_ok (c.t.d.fact 82 (f := .meth "Model" "__ne__") rfl)
    obtain ⟨fdI, FI⟩ := (c.t.d.def_ 40 (d := dM "Model" "__init__" 18 0) rfl)
    obtain ⟨fdE, FE⟩ := (c.t.d.def_ 41 (d := dM "Model" "__eq__" 18 1) rfl)
    obtain ⟨fdN, FN⟩ := (c.t.d.def_ 42 (d := dM "Model" "__ne__" 18 2) rfl)
    have OE := ok_Model_e (P := P) (w := w) (base := base) FE FK T gC gK M
    have bE : L2.Binds K fdE ["self", "other"] [] := FE.bindsN fun _ _ _ _ _ _ us hl => match us, hl with | [_, _], _ => rfl
    have bN : L2.Binds K fdN ["self", "other"] [] := FN.bindsN fun _ _ _ _ _ _ us hl => match us, hl with | [_, _], _ => rfl
    have m : ("Model" : Str) ∈ names16 := by decide +kernel
    refine ⟨⟨gC, M, _, fdI, He.mkr_ok (c.t.d.fact 60 (f := .mkr "Model") rfl), ok_Model_i FI FC T gC0 M, FI.bindsN fun _ _ _ _ _ _ us hl => match us, hl with | [_, _, _, _], _ => rfl, kbn_of FI 1 (fun us ws => us ++ ws.reverse) (fun r1 r2 => paired_app r1 (vals_rev' r2)) (fun kV doc pm an cdv ct us ws l1 l2 => match us, ws, l1, l2 with | [_], [_, _, _], _, _ => rfl)⟩, ins _ m cl, (two _ m _ m).2, ⟨_, fdE, mE.at_, mE.fn, OE.mono (by decide), bE⟩, ⟨_, fdN, mN.at_, mN.fn, (ok_Model_n FN OE bE mE).mono (by decide), bN⟩⟩
  refine ⟨T, ⟨?_, modM, ?_, two, fun c hc t ht => ?_⟩, ⟨_, fdp, gp, Fp⟩, ⟨_, fdd, gd, Fd⟩, ⟨_, fdk, gk, Fk⟩, ⟨_, fdv, gv, Fv⟩, ⟨_, fdy, gy, Fy⟩, ⟨fdr, gr, Fr⟩, ⟨_, fdu, gu, Fu⟩⟩
  · intro p hp
    simp only [List.mem_cons, List.not_mem_nil, or_false] at hp
    rcases hp with rfl | rfl | rfl | rfl | rfl | rfl | rfl | rfl | rfl | rfl
    · exact oneArea
    · exact oneSides
    · exact oneCovers
    · exact oneProfile
    · exact oneMeet
    · exact oneSpot
    · exact oneEars
    · exact oneApart
    · exact oneTilted
    · exact onePaper
  · intro n hn
    simp only [List.mem_cons, List.not_mem_nil, or_false] at hn
    rcases hn with rfl | rfl | rfl | rfl | rfl
    · exact nulSlides
    · exact nulTurns
    · exact nulLevels
    · exact nulSteps
    · exact nulUneven
  · have z := rest c hc
    simp only [List.mem_cons, List.not_mem_nil, or_false] at ht
    rcases ht with rfl | rfl
    · exact z.2.1
    · exact z.2.2.1
end K90

set_option maxHeartbeats 4000000
namespace K90
open PySem PySem.Spec PyProof.Rows L2
section
variable {P : Program} {w : World} {K : PySem.W.Frag} {mg : Str → Option Value} {base : Heap}
/-- the law's body, from a heap in which the script is read -/
theorem law_body (L : LF P w K mg base) (TB : LamX.TabB base mg (He.cT K atR).1 (He.cT K atR).2) {f : Addr} {cdv : Value} {s : Shared} {H : Hp} {a : Addr} {ns : List Int} (hr : Room 5 (AL f cdv s)) (hS : SqL K H a (ns.map V.int)) (hl : ns.length ≤ 63) (hT : LamX.Tabs (TT K) H) :
    ∃ t, PSs (cxOf CX0 P w K mg base NL "law" (defScope (top 30)) f cdv callerA [] s H E0) (defBody (top 30)) t ∧ t { nx := fun _ H' => RT .non H', rt := RT } (L2.start NL [.ref a]) H := by
  obtain ⟨T, W, ⟨_, _, gp, Fp⟩, ⟨_, _, gd, Fd⟩, ⟨_, _, gk, Fk⟩, ⟨_, _, gv, Fv⟩, ⟨_, _, gy, Fy⟩, ⟨fdr, gr, Fr⟩, ⟨_, _, gu, Fu⟩⟩ := L
  have Gr : FnOk P w K mg base CX0 4 (He.fAd K atR) fdr ["a", "b", "c"] (spRows K) := by
    have o : ∀ n fl, (n, fl) ∈ ([("Area", "ratio"), ("Sides", "rows"), ("Covers", "rows"), ("Profile", "rows"), ("Meet", "ratio"), ("Spot", "word"), ("Ears", "rows"), ("Apart", "direction"), ("Tilted", "height"), ("Paper", "asked")] : List (Str × Str)) → One P w K mg base n fl (cA K n) := fun n fl m => (W.one (n, fl) m).1
    exact ok_rows Fr rfl TB (o _ _ (by decide +kernel)) (o _ _ (by decide +kernel)) (o _ _ (by decide +kernel)) (o _ _ (by decide +kernel)) (o _ _ (by decide +kernel)) (o _ _ (by decide +kernel)) (o _ _ (by decide +kernel)) (o _ _ (by decide +kernel)) (o _ _ (by decide +kernel)) (o _ _ (by decide +kernel)) W.mod.1
      (W.nul _ (by decide +kernel)).1 (W.nul _ (by decide +kernel)).1 (W.nul _ (by decide +kernel)).1 (W.nul _ (by decide +kernel)).1 (W.nul _ (by decide +kernel)).1
  have all : Stps (XL P w K mg base f cdv s H) RT [stm 0, stm 1, stm 2, stm 3, stm 4, stm 5, stm 6, stm 7, stm 8, stm 9] (fun σ H' => σ = L2.start NL [.ref a] ∧ H' = H) :=
    stps_cons (st0 hr gp Fp T hS hl hT) (stps_cons (st1 hr gv Fv T (ok_value Fv Fd Fk T gd gk)) (stps_cons (st2 hr T) (stps_cons (st3 hr gr Fr Gr) (stps_cons (st4 hr T W gy Fy) (stps_cons (st5 hr T W gd Fd) (stps_cons (st6 hr T W gu Fu (ok_unlike Fu W)) (stps_cons (st7 hr T W) (stps_cons (st8 hr T W) (stps_one (st9 hr T W))))))))))
  obtain ⟨t, p, q⟩ := all
  exact ⟨t, PSs.nox p, q _ _ _ rfl ⟨rfl, rfl⟩⟩
end
/-! ### the end: the law is called on its script -/
/-- what is tracked at the call: the script (unless it stands among the known things), the table -/
def H1 (K : PySem.W.Frag) (a T : Addr) (vs : List Value) (ns : List Int) : Hp := fun b => if b = T then some (.tbl #[]) else if b = a ∧ (K.lookup a).isNone = true then some (.frz { cls := .type "list", data := .seq vs.toArray } (.lst (ns.map V.int))) else none
theorem end_call {P : Program} {w : World} {K : PySem.W.Frag} {mg mb : Str → Option Value} {f a : Addr} {vs : List Value} {ns : List Int} {z : Shared} (inK : K.In z.heap) (top_ : z.heap.Ns mainGlobals mg) (blt : z.heap.Ns builtinsNs mb) (same : ∀ x : Str, x ≠ "__name__" → mb x = bootBuiltins x) (free : z.heap.NoLimit) (noGens : z.gens = #[])
    (mod_ : ∃ (bm : Addr) (ob : Obj), mg "__builtins__" = some (.ref bm) ∧ bm ≠ builtinsNs ∧ z.heap.get? bm = some ob ∧ ob.cls = .type "module" ∧ ob.dict = some builtinsNs ∧ ob.data = .plain)
    (script : z.heap.get? a = some { cls := .type "list", data := .seq vs.toArray }) (nums : IntsAre vs ns) (few : ns.length ≤ 63) (c : He.SaysX fa fn [] tf ex w z.heap K) (at_ : mg "law" = some (.ref f)) :
    codeAny (model P w) callerA (.call (.ref f) ⟨[.ref a], []⟩) (fun r s' => r = .ok (.ret (.bool true)) ∧ OldK z.heap s'.heap ∧ s'.os = z.os ∧ AllBare s'.gens) z := by
  have mT : atR ∈ tf := List.mem_singleton.mpr rfl
  have emp := c.empty atR mT
  have out := c.out atR mT
  have chd := PySem.W.codeHd_of_K inK (c.hd atR mT)
  generalize eT : (He.cT K atR).2 = T at emp out chd
  generalize eC : (He.cT K atR).1 = cc at chd
  have rels := vals_ints nums
  have lens := nums.length
  have aT : a ≠ T := fun q => by
    rw [q, emp] at script
    cases script
  have atT : H1 K a T vs ns T = some (.tbl #[]) := if_pos rfl
  have other : ∀ b o, H1 K a T vs ns b = some o → b = T ∨ (b = a ∧ K.lookup a = none ∧ o = .frz { cls := .type "list", data := .seq vs.toArray } (.lst (ns.map V.int))) := fun b o q => by
    unfold H1 at q
    by_cases h1 : b = T
    · exact .inl h1
    · rw [if_neg h1] at q
      by_cases h2 : b = a ∧ (K.lookup a).isNone = true
      · rw [if_pos h2] at q
        exact .inr ⟨h2.1, Option.isNone_iff_eq_none.mp h2.2, (Option.some.inj q).symm⟩
      · rw [if_neg h2] at q
        cases q
  have scr : SqL K (H1 K a T vs ns) a (ns.map V.int) := by
    cases q : K.lookup a with
    | none => exact .inl (.inr ⟨_, by unfold H1; rw [if_neg aT, if_pos ⟨rfl, by rw [q]; rfl⟩]⟩)
    | some o =>
      have y := inK a o q
      rw [script] at y
      cases y
      exact .inr ⟨_, vs.toArray, _, q, rfl, rfl, rfl, by rw [List.size_toArray, lens]; exact Nat.le_trans few (sz 63), by simpa using rels⟩
  have hok : HOk P w (H1 K a T vs ns) z.heap := fun b o q => by
    rcases other b o q with rfl | ⟨rfl, _, rfl⟩
    · rw [atT] at q
      cases q
      exact emp
    · exact ⟨script, by rw [List.length_map]; exact Nat.le_trans few (sz 63), vs, _, rels, script⟩
  -- what the objects of the module are: none of them is tracked
  have bare : ∀ {b : Addr} {o : Obj}, z.heap.get? b = some o → (b = T → False) → (b = a → False) → H1 K a T vs ns b = none := fun {b o} e n1 n2 => by
    cases q : H1 K a T vs ns b with
    | none => rfl
    | some u =>
      rcases other b u q with h | ⟨h, _⟩
      · exact (n1 h).elim
      · exact (n2 h).elim
  have notT : ∀ {b : Addr} {o : Obj}, z.heap.get? b = some o → o.data ≠ .fields #[] → b = T → False := fun {b o} e n q => by
    rw [q, emp] at e
    cases e
    exact n rfl
  have notA : ∀ {b : Addr} {o : Obj}, z.heap.get? b = some o → (∀ xs n, o.data ≠ .seq xs n) → b = a → False := fun {b o} e n q => by
    rw [q, script] at e
    cases e
    exact n _ _ rfl
  have nsAt : ∀ {b : Addr} {m : Str → Option Value}, z.heap.Ns b m → (hidT z.heap (H1 K a T vs ns)).Ns b m := fun {b m} ⟨o, es, ep, e, d, r⟩ => by
    refine ⟨o, es, ep, hidT_get e (bare e (notT e ?_) (notA e ?_)), d, r⟩
    · rw [d]; intro y; cases y
    · intro xs n y; rw [d] at y; cases y
  have KB : K.In (hidT z.heap (H1 K a T vs ns)) := fun b o e => hidT_get (inK b o e) (by
    cases q : H1 K a T vs ns b with
    | none => rfl
    | some u =>
      rcases other b u q with h | ⟨h, h2, _⟩
      · rw [h, out] at e; cases e
      · rw [h, h2] at e; cases e)
  have M : L2.Mod K mg (hidT z.heap (H1 K a T vs ns)) := ⟨KB, nsAt top_, ⟨mb, nsAt blt, same⟩, by
    obtain ⟨m, h1, h2⟩ := free
    exact ⟨m, nsAt h1, h2⟩⟩
  have tab : LamX.TabB (hidT z.heap (H1 K a T vs ns)) mg cc T := by
    refine ⟨?_, ?_, fun q => ?_⟩
    · obtain ⟨o, us, f1, f2, f3, f4, f5, f6, f7, e1, r1, r2, r3, r⟩ := chd
      refine ⟨o, us, f1, f2, f3, f4, f5, f6, f7, hidT_get e1 (bare e1 (notT e1 fun y => ?_) (notA e1 fun xs n y => ?_)), r1, r2, r3, r⟩
      · rw [r2] at y
        cases y
        simp at r3
      · rw [r2] at y
        cases y
    · obtain ⟨m, ob, b1, b2, b3, b4, b5, b6⟩ := mod_
      have n1 : m = T → False := notT b3 (by rw [b6]; intro y; cases y)
      refine ⟨m, ob, b1, b2, fun q => ?_, n1, hidT_get b3 (bare b3 n1 (notA b3 fun xs n y => by rw [b6] at y; cases y)), b4, b5, b6⟩
      obtain ⟨o, es, ep, e, d, _⟩ := top_
      rw [q, e] at b3
      cases b3
      rw [d] at b6
      cases b6
    · obtain ⟨o, es, ep, e, d, _⟩ := top_
      rw [q, emp] at e
      cases e
      cases d
  have e0 : Env0 P w K mg (hidT z.heap (H1 K a T vs ns)) callerA [] z (H1 K a T vs ns) := ⟨rfl, M, fun b o e => of_hidT e, Nat.le_of_eq (hidT_size _ _), trivial, fun b hb => absurd (show b ∈ ([] : List Addr) from hb) (by simp), hok, .of_eq noGens⟩
  obtain ⟨fd, F⟩ := c.t.d.def_ 9 (d := dG "law" 30) rfl
  have eF := at_.symm.trans (He.glo_ok inK top_ (c.t.d.fact 9 (f := .glo "law") rfl))
  have hb := FunD.bindsA (ps := ["script"]) F (fun _ _ _ _ _ _ us hl => match us, hl with | [_], _ => rfl) z [.ref a] rfl
  obtain ⟨oc, od, dV, kV, doc, pm, an, cdv, ct, osl, rfl, lk, hcd, _, _⟩ := F.ex
  have eF2 : f = He.fAd K ("law", none) := by cases eF; rfl
  have lk : K.lookup f = some ⟨oc, od, .func (PySem.W.fnOf "law" "law" (defArgs (top 30)) (defBody (top 30)) (defScope (top 30)) dV kV doc pm an cdv ct), osl⟩ := by rw [eF2]; exact lk
  have tabs : LamX.Tabs (TT K) (H1 K a T vs ns) := fun q hq => by
    rw [List.mem_singleton.mp hq]
    show LamX.TabS _ (He.cT K atR).2 _
    rw [eT]
    exact ⟨#[], atT, trivial, fun pos cv h => by cases h⟩
  have run := LamX.run_ofS (CX := CX0) (k := 5) (Q := RT) (E := E0) lk hcd scLaw ⟨rfl, by decide, by decide⟩ e0 hb (.cons (show RelV (.ref a) (.ref a) from rfl) .nil) rfl fun hr' => law_body (lf (base := hidT z.heap (H1 K a T vs ns)) inK top_ c) (by rw [eT, eC]; exact tab) hr' scr few tabs
  refine codeAny_mono run fun r s' h => ?_
  cases r with
  | error e => exact False.elim h
  | ok fl =>
    cases fl with
    | next => exact False.elim h
    | brk => exact False.elim h
    | cont => exact False.elim h
    | ret u =>
      obtain ⟨v, H', os, bare', un, hok', r', q⟩ := h
      have q' : v = .bl true := q
      subst q'
      obtain rfl : u = Value.bool true := r'
      obtain ⟨more, grown⟩ := un.tbls T #[] atT
      have gT : s'.heap.get? T = some { cls := .none, data := .fields (#[] ++ more) } := hok' T _ grown
      have stay : ∀ b o, b ≠ T → z.heap.get? b = some o → s'.heap.get? b = some o := fun b o n e => by
        cases y : H1 K a T vs ns b with
        | none => exact un.keep b o e y (by intro x; exact absurd (show b ∈ ([] : List Addr) from x) (by simp)) (by simp)
        | some u =>
          rcases other b u y with h | ⟨h, _, rfl⟩
          · exact (n h).elim
          · obtain ⟨e2, _⟩ := hok' b _ (un.frzs b _ _ y)
            subst h
            rw [script] at e
            cases e
            exact e2
      refine ⟨rfl, ⟨fun b o e => ?_, fun b o e => ?_⟩, os, bare'⟩
      · by_cases hb : b = T
        · subst hb
          rw [emp] at e
          cases e
          exact .inr (.inl ⟨(chd.tab emp).isCodeTable, rfl, #[], more, rfl, gT⟩)
        · exact .inl (stay b o hb e)
      · by_cases hb : b = T
        · subst hb
          exact ⟨_, gT⟩
        · exact ⟨o, stay b o hb e⟩
end K90

set_option maxHeartbeats 0
namespace K90
open PySem PySem.Spec PyProof.Rows L2
theorem walk {q : Program} {lo : List Str} {XP : (Str → Option Value) → Heap → Prop} {d : DefRec} (hdf : d.params.defaults = []) (hn : d.name = ("law" : Str)) :
    PySem.W.WalkO q lo XP (fun w h => ∃ K : PySem.W.Frag, K.In h ∧ He.SaysX fa fn [] tf ex w h K) R.toRowW d [] (fun f vs => PySem.call f vs) := by
  refine Att.attach_callB (l := PySem.Challenge.rw_cutmoves_k90_classes_made_by_hand) (n := 63) rfl hdf fun w s₀ z mg mb f o pm cd doc a vs ns G Y ho hd hcd hmg hobj hints hlen _ hg => ?_
  obtain ⟨K, inK, c⟩ := Y
  rw [hn] at hmg
  exact end_call inK G.T.g G.T.b G.T.builtins G.T.nolimit hg G.T.bmain hobj hints hlen c hmg
end K90
open PySem PySem.W PySem.Calls PyProof.Rows
theorem PySem.Challenge.cw_cutmoves_k90_classes_made_by_hand_holds : PySem.Challenge.rw_cutmoves_k90_classes_made_by_hand.Holds := by
  w_on; o_law
  refine HandSHeadRun.head_any (r := K90.R) (q := view K90.R.prog [30]) (H := K90.hk) (ob := K90.ob) (M := 6000) (loose := K90.loose) (d := HandSHeadRun.topDef K90.R.prog 30) (kwd := []) K90.ob_eq
    (by kernel_rfl) (fun s => by kernel_rfl) K90.run (by kernel_rfl) (by kernel_rfl) (by kernel_rfl) (by rfl) (by first | assumption | decide +kernel) (by decide +kernel) ⟨rfl, rfl, rfl, rfl, rfl, by decide +kernel⟩ ?hw ?hc
  case hw => w_witness2
  case hc => exact K90.walk (by kernel_rfl) (by kernel_rfl)
