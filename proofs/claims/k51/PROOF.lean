import PyProof.Rows.All
import Wide.All
import OpenK.AllK
import Wide.FinOn
import HandS.ForMost
import HandS.StrMore
import HandS.Defaults
import HandS.IsInst
import HandS.Style
import HandS.Exc
import HandS.ExcOwn
import HandS.DictComp
import HandS.DeepEq
import HandS.Slots
import HandS.More
import HandS.HeadHook1
import HandS.HeadHook2
import PySem.Challenge.RW_kinkless_k51_whole_lines_counted
import HandS.HeadHook4
import HandS.SlotsOwn
import HandS.Head0
import HandS.Head1
import HandS.Head2
import KE.KStateDown
import HandS.HeadWalk
import PyProof.StrLawsTight
import HandS.Flow
import KE.GoesMore
import PyProof.Draws
import PyProof.EnumMake
import PyProof.InstSpecial
import HandS.Star
import KE.KEqSeq
import HandS.FltList
import HandS.TryOnly
import HandS.MethStar
import HandS.DictTup
import HandS.GenOver
import PyProof.GenRules
import PyProof.GenQ
import HandS.GenList
import HandS.GenYield
import HandS.Comp
import HandS.Lambda
import PyProof.ReprRoads
import HandS.FStrTup
import HandS.RaiseMore
import PyProof.StrOps2
import HandS.EndTab
section KkStr_text
set_option Elab.async false
set_option linter.all false
set_option maxRecDepth 100000
set_option maxHeartbeats 4000000
/-! Texts of the four letters, as lists -/
namespace Kk
open PySem PySem.Spec PyProof.Rows L2

/-- a letter -/
inductive D where
  | E | N | S | W
  deriving DecidableEq, Repr
def D.cp : D → Nat
  | .E => 69
  | .N => 78
  | .S => 83
  | .W => 87
def D.opp : D → D
  | .E => .W
  | .N => .S
  | .S => .N
  | .W => .E
def D.hd : D → Nat
  | .E => 0
  | .N => 1
  | .W => 2
  | .S => 3
theorem D.cp_inj {a b : D} (h : a.cp = b.cp) : a = b := by
  cases a <;> cases b <;> first | rfl | (exact absurd h (by decide))
theorem D.opp_opp (a : D) : a.opp.opp = a := by cases a <;> rfl
theorem D.opp_ne (a : D) : a.opp ≠ a := by cases a <;> decide
/-- the text of some letters -/
def tx (l : List D) : Str := ⟨(l.map D.cp).toArray⟩
/-- the text of one letter -/
abbrev t1 (a : D) : Str := tx [a]
theorem tx_toList (l : List D) : (tx l).cps.toList = l.map D.cp := by simp [tx]
theorem tx_len (l : List D) : (tx l).length = l.length := by simp [tx, Str.length]
theorem tx_app (a b : List D) : tx (a ++ b) = tx a ++ tx b := by
  show (⟨((a ++ b).map D.cp).toArray⟩ : Str) = ⟨(a.map D.cp).toArray ++ (b.map D.cp).toArray⟩
  rw [List.map_append, List.append_toArray]
theorem tx_app' (a b : List D) : tx a ++ tx b = tx (a ++ b) := (tx_app a b).symm
theorem map_cp_inj : ∀ {a b : List D}, a.map D.cp = b.map D.cp → a = b
  | [], [], _ => rfl
  | [], _ :: _, h => by simp at h
  | _ :: _, [], h => by simp at h
  | x :: r, y :: s, h => by
    simp only [List.map_cons, List.cons.injEq] at h
    rw [D.cp_inj h.1, map_cp_inj h.2]
theorem tx_inj {a b : List D} (h : tx a = tx b) : a = b := by
  apply map_cp_inj
  rw [← tx_toList, ← tx_toList, h]
theorem tx_eq_iff {a b : List D} : tx a = tx b ↔ a = b := ⟨tx_inj, fun h => by rw [h]⟩
theorem tx_dec (a b : List D) : decide (V.str (tx a) = V.str (tx b)) = decide (a = b) := by
  by_cases h : a = b
  · subst h; simp
  · rw [decide_eq_false h, decide_eq_false]
    intro q
    injection q with q
    exact h (tx_inj q)
theorem t1_dec (a b : D) : decide (V.str (tx [a]) = V.str (tx [b])) = decide (a = b) := by
  rw [tx_dec]
  by_cases h : a = b
  · subst h; simp
  · rw [decide_eq_false h, decide_eq_false]
    intro q
    injection q with q
    exact h q
theorem lE : ("E" : Str) = tx [.E] := by decide +kernel
theorem lN : ("N" : Str) = tx [.N] := by decide +kernel
theorem lS : ("S" : Str) = tx [.S] := by decide +kernel
theorem lW : ("W" : Str) = tx [.W] := by decide +kernel
theorem lENWS : ("ENWS" : Str) = tx [.E, .N, .W, .S] := by decide +kernel
theorem lENSW : ("ENSW" : Str) = tx [.E, .N, .S, .W] := by decide +kernel
theorem lWSEN : ("WSEN" : Str) = tx [.W, .S, .E, .N] := by decide +kernel
theorem lNil : ("" : Str) = tx [] := by decide +kernel
/-! ### slices -/
theorem cut_from (l : List D) (k : Nat) : cutS (tx l) (some (k : Int)) none = tx (l.drop k) := by
  unfold cutS
  rw [HT.sIx_none, HT.sIx_nat, tx_toList, tx_len]
  show (⟨_⟩ : Str) = ⟨_⟩
  congr 2
  rw [List.take_of_length_le (by simp), ← List.map_drop]
  congr 1
  by_cases h : k ≤ l.length
  · rw [Nat.min_eq_left h]
  · have h' : l.length ≤ k := by omega
    rw [Nat.min_eq_right h', List.drop_length, List.drop_of_length_le h']
theorem cut_to (l : List D) (k : Nat) : cutS (tx l) none (some (k : Int)) = tx (l.take k) := by
  unfold cutS
  rw [HT.sIx_none, HT.sIx_nat, tx_toList, tx_len]
  show (⟨_⟩ : Str) = ⟨_⟩
  congr 2
  rw [List.drop_zero, Nat.sub_zero, ← List.map_take]
  congr 1
  by_cases h : k ≤ l.length
  · rw [Nat.min_eq_left h]
  · have h' : l.length ≤ k := by omega
    rw [Nat.min_eq_right h', List.take_length, List.take_of_length_le h']
theorem cut_mid (l : List D) (i j : Nat) : cutS (tx l) (some (i : Int)) (some (j : Int)) = tx ((l.drop i).take (j - i)) := by
  unfold cutS
  rw [HT.sIx_nat, HT.sIx_nat, tx_toList, tx_len]
  show (⟨_⟩ : Str) = ⟨_⟩
  congr 2
  rw [← List.map_drop, ← List.map_take]
  congr 1
  by_cases h : i ≤ l.length
  · rw [Nat.min_eq_left h]
    by_cases hj : j ≤ l.length
    · rw [Nat.min_eq_left hj]
    · rw [Nat.min_eq_right (by omega), List.take_of_length_le (by simp), List.take_of_length_le (by simp; omega)]
  · have h' : l.length ≤ i := by omega
    rw [Nat.min_eq_right h', List.drop_length, List.drop_of_length_le h']
    simp
/-! ### order -/
def ltT (a b : List D) : Bool := decide (a.map D.cp < b.map D.cp)
theorem lt_tx (a b : List D) : decide ((tx a).cps.toList < (tx b).cps.toList) = ltT a b := by rw [tx_toList, tx_toList]; rfl
/-! ### an item -/
theorem at_nat (l : List D) (i : Nat) (a : D) (h : l[i]? = some a) : atI (tx l).cps.toList (i : Int) = some a.cp := by
  have hi : i < l.length := (List.getElem?_eq_some_iff.mp h).1
  unfold atI ixN
  rw [tx_toList, if_pos (by omega), if_pos (by simp; omega)]
  simp [h]
theorem at_last (l : List D) (a : D) (h : l[l.length - 1]? = some a) : atI (tx l).cps.toList (-1) = some a.cp := by
  have hi : l.length - 1 < l.length := (List.getElem?_eq_some_iff.mp h).1
  unfold atI ixN
  rw [tx_toList, if_neg (by omega), if_pos (by simp; omega)]
  simp only [List.length_map, Option.bind_some]
  have e : ((-1 : Int) + (l.length : Int)).toNat = l.length - 1 := by omega
  rw [e]
  simp [h]
theorem one_tx (a : D) : (⟨#[a.cp]⟩ : Str) = tx [a] := rfl
end Kk

end KkStr_text
section KkBase_text
set_option Elab.async false
set_option linter.all false
set_option maxRecDepth 100000
set_option maxHeartbeats 4000000
/-! Defs that are called by their names; small rules -/
namespace Kk
open PySem PySem.Spec PyProof.Rows L2
/-- the def of the statement st stands under the name x -/
structure At (K : PySem.W.Frag) (mg : Str → Option Value) (x : Str) (st : Stmt) : Prop where
  ex : ∃ f fd, FunD K x x (defArgs st) (defBody st) (defScope st) [] [] f fd ∧ mg x = some (.ref f)
/-- a def that is called by its name, and lets nothing out -/
structure Df (P : Program) (w : World) (K : PySem.W.Frag) (mg : Str → Option Value) (base : Heap) (k : Nat) (x : Str) (ps : List Str) (sp : Sp) : Prop where
  ex : ∃ f fd, FnOk P w K mg base CX0 k f fd ps sp ∧ mg x = some (.ref f) ∧ PySem.W.keepIn K (.ref f) = true ∧ Binds K fd ps []
section
variable {P : Program} {w : World} {K : PySem.W.Frag} {mg : Str → Option Value} {base : Heap}
theorem Df.mono {j k : Nat} {x : Str} {ps : List Str} {sp : Sp} (D : Df P w K mg base j x ps sp) (h : j ≤ k) : Df P w K mg base k x ps sp := by
  obtain ⟨f, fd, F, r⟩ := D.ex
  exact ⟨f, fd, F.mono h, r⟩
theorem df_of {x : Str} {st : Stmt} {N ps : List Str} {k : Nat} {sp : Sp} (F : At K mg x st) (S : FnScope N ps (defScope st)) (len : ∀ vs H Q E, sp vs H Q E → vs.length = ps.length)
    (hb : ∀ (kV doc pm : Value) (an : Option Addr) (cdv ct : Value) (us : List Value), us.length = ps.length → bindArgs (PySem.W.fnOf x x (defArgs st) (defBody st) (defScope st) .none kV doc pm an cdv ct) ⟨us, []⟩ = pure (ps.zip us))
    (hbody : ∀ (f : Addr) (cdv : Value) (A : Around) (outer : List Env) (s : Shared) (H : Hp) (vs : List V) (Q : VK) (E : XK), Room k (A.deeper (envOfC x (defScope st) s.heap.objs.size f cdv)) → sp vs H Q E →
      ∃ t, PSs (cxOf CX0 P w K mg base N x (defScope st) f cdv A outer s H E).nox (defBody st) t ∧ t { nx := fun _ H' => Q .non H', rt := Q } (start N vs) H) : Df P w K mg base (k + 1) x ps sp := by
  obtain ⟨f, fd, D, m⟩ := F.ex
  refine ⟨f, fd, D.ok S len fun cdv A outer s H vs Q E hr h => ?_, m, D.kp, D.bindsN hb⟩
  obtain ⟨t, h1, h2⟩ := hbody f cdv A outer s H vs Q E hr h
  exact ⟨t, h1.nox, h2⟩
theorem fn_ofD {x : Str} {st : Stmt} {N ps : List Str} {k : Nat} {sp : Sp} {f : Addr} {fd : FuncData} (D : FunD K x x (defArgs st) (defBody st) (defScope st) [] [] f fd) (S : FnScope N ps (defScope st)) (len : ∀ vs H Q E, sp vs H Q E → vs.length = ps.length)
    (hbody : ∀ (f : Addr) (cdv : Value) (A : Around) (outer : List Env) (s : Shared) (H : Hp) (vs : List V) (Q : VK) (E : XK), Room k (A.deeper (envOfC x (defScope st) s.heap.objs.size f cdv)) → sp vs H Q E →
      ∃ t, PSs (cxOf CX0 P w K mg base N x (defScope st) f cdv A outer s H E).nox (defBody st) t ∧ t { nx := fun _ H' => Q .non H', rt := Q } (start N vs) H) : FnOk P w K mg base CX0 (k + 1) f fd ps sp := by
  refine D.ok S len fun cdv A outer s H vs Q E hr h => ?_
  obtain ⟨t, h1, h2⟩ := hbody f cdv A outer s H vs Q E hr h
  exact ⟨t, h1.nox, h2⟩
end
section
variable {X : Cx} {k : Nat} {x : Str} {ps : List Str} {sp : Sp} {p pos : Pos} {e : Expr} {es : List Expr} {t : TA}
theorem pe_df (G : Df X.prog X.w X.K X.mg X.base k x ps sp) (hr : Room k X.A) (ha : PA X (e :: es) t) (hg : Gl X x := by rfl) (hdb : (x == ("__debug__" : Str)) = false := by decide)
    (he : starEach (e :: es) X.env = (false, eval e X.env) :: starEach es X.env := by rfl) (hpl : (backTo pos (starEach es X.env)).any (·.1) = false := by rfl) : PE X (.Call (.Name x p) (e :: es) [] pos) (tCall sp [] E0 t) := by
  obtain ⟨f, fd, F, m, kp, b⟩ := G.ex
  exact pe_call F hr hg m kp b .nil pass0 ha hdb he hpl
theorem pe_globI {i : Int} (h : ∃ t, X.mg x = some (.int i t)) (hg : Gl X x := by rfl) (hd : (x == ("__debug__" : Str)) = false := by decide) : PE X (.Name x pos) (tC (.int i)) := by
  obtain ⟨t, h⟩ := h
  exact pe_glob hg h ⟨t, rfl⟩ hd
theorem pe_globS {z : Str} (h : ∃ t, X.mg x = some (.str z t)) (hg : Gl X x := by rfl) (hd : (x == ("__debug__" : Str)) = false := by decide) : PE X (.Name x pos) (tC (.str z)) := by
  obtain ⟨t, h⟩ := h
  exact pe_glob hg h ⟨t, rfl⟩ hd
end
theorem ix_tupK {X : Cx} {K : PySem.W.Frag} (h : X.K = K) : IxR X (rIxT K) := h ▸ ix_tup
theorem ix_listK {X : Cx} {K : PySem.W.Frag} (h : X.K = K) : IxR X (rIxL K) := h ▸ ix_list
theorem ix_seqK {X : Cx} {K : PySem.W.Frag} (h : X.K = K) : IxR X (rIx K) := h ▸ ix_seq
theorem tk0 {X : Cx} : Takes X (fun _ _ _ _ => False) := fun _ _ x => by
  obtain ⟨_, _, _, _, _, _, _, _, _, _, _, _, _, _, _, _, z⟩ := x
  exact z.elim
theorem iteTb {c : Bool} {A B : Prop} (h : c = true) (a : A) : if c = true then A else B := by
  rw [if_pos h]
  exact a
theorem iteFb {c : Bool} {A B : Prop} (h : c = false) (b : B) : if c = true then A else B := by
  rw [if_neg (by rw [h]; exact Bool.false_ne_true)]
  exact b
theorem same_upd {H : Hp} {p : Addr} {o : HO} (h : H p = none) : Same H (upd H p o) := fun b x e => by
  rw [upd_ne (ne_of_none e h)]
  exact e
theorem Same.upd {H H1 : Hp} {p : Addr} {o : HO} (s : Same H H1) (h : H1 p = none) : Same H (L2.upd H1 p o) := s.trans (same_upd h)
end Kk

end KkBase_text
section K51Txt_text
set_option Elab.async false
set_option linter.all false
set_option maxRecDepth 100000
set_option maxHeartbeats 4000000
namespace K51
open PySem PySem.Spec PyProof.Rows L2 Kk
/-! ### the text by places -/
def top (i : Nat) : Stmt := PySem.Challenge.pw_kinkless_k51_whole_lines_counted.main.body.getD i (.Pass ⟨0, 0, 0, 0⟩)
abbrev s__wall : Stmt := top 0
abbrev s_BadStrokes_init : Stmt := inClass (top 3) 0
abbrev s_Kink_init : Stmt := inClass (top 4) 0
abbrev s_NotClosed_init : Stmt := inClass (top 5) 0
abbrev s_BadHeights_init : Stmt := inClass (top 6) 0
abbrev s_BadDeed_init : Stmt := inClass (top 7) 0
abbrev s_BadNumber_init : Stmt := inClass (top 8) 0
abbrev s_BadText_init : Stmt := inClass (top 9) 0
abbrev s_NoJoin_init : Stmt := inClass (top 10) 0
abbrev s_NothingLeft_init : Stmt := inClass (top 11) 0
abbrev s_TooGreat_init : Stmt := inClass (top 12) 0
abbrev s_is_whole : Stmt := top 18
abbrev s_is_among : Stmt := top 19
abbrev s_heading : Stmt := top 20
abbrev s_opposite : Stmt := top 21
abbrev s_first_kink : Stmt := top 22
abbrev s_end_of : Stmt := top 23
abbrev s_least_beginning : Stmt := top 24
abbrev s_begun : Stmt := top 25
abbrev s_step_between : Stmt := top 26
abbrev s_need_strokes : Stmt := top 27
abbrev s_Line_init : Stmt := inClass (top 28) 1
abbrev s_Line_len : Stmt := inClass (top 28) 2
abbrev s_Line_eq : Stmt := inClass (top 28) 3
abbrev s_Line_str : Stmt := inClass (top 28) 4
abbrev s_Line_letter_at : Stmt := inClass (top 28) 5
abbrev s_Line_heights : Stmt := inClass (top 28) 6
abbrev s_Line_turns : Stmt := inClass (top 28) 7
abbrev s_Line_points : Stmt := inClass (top 28) 8
abbrev s_Line_runs : Stmt := inClass (top 28) 9
abbrev s_Line_stretches : Stmt := inClass (top 28) 10
abbrev s_need_strokes_number : Stmt := top 33
abbrev s_need_whole : Stmt := top 34
abbrev s_Counter_init : Stmt := inClass (top 35) 0
abbrev s_Counter_ways : Stmt := inClass (top 35) 1
abbrev s_Counter_behind : Stmt := inClass (top 35) 2
abbrev s_begun_with : Stmt := top 36
abbrev s_texts_with : Stmt := top 37
abbrev s_own_texts : Stmt := top 38
abbrev s_lines_with : Stmt := top 39
abbrev s_count_lines : Stmt := top 40
abbrev s_next_letters : Stmt := top 41
abbrev s_height_behind : Stmt := top 42
abbrev s_period : Stmt := top 43
abbrev s_texts_on : Stmt := top 44
abbrev s_lines_of : Stmt := top 45
abbrev s__law_mixed : Stmt := top 47
abbrev s__law_folded : Stmt := top 48
abbrev s__law_draw : Stmt := top 49
abbrev s__law_begun : Stmt := top 50
abbrev s__law_like : Stmt := top 51
abbrev s__law_other : Stmt := top 52
abbrev s__law_kinks : Stmt := top 53
abbrev s__law_ends : Stmt := top 54
abbrev s__law_is_loop : Stmt := top 55
abbrev s__law_least : Stmt := top 56
abbrev s__law_made : Stmt := top 57
abbrev s__law_deed : Stmt := top 58
abbrev s__law_text : Stmt := top 59
abbrev s__law_turns : Stmt := top 60
abbrev s__law_heard : Stmt := top 61
abbrev s__law_loops : Stmt := top 62
abbrev s__law_lists_right : Stmt := top 63
abbrev s_law : Stmt := top 64
/-- a tuple of the module's -/
def TupK (K : PySem.W.Frag) (a : Addr) (xs : List V) : Prop := ∃ (o : Obj) (its : Array Value) (n : Nat), K.lookup a = some o ∧ o.cls = .type "tuple" ∧ o.data = .seq its n ∧ its.size ≤ sizeLine ∧ Vals xs its.toList
theorem TupK.sq {K : PySem.W.Frag} {a : Addr} {xs : List V} (h : TupK K a xs) (H : Hp) : SqT K H a xs := .inr h
/-- what the head tells of the names -/
structure Tx (K : PySem.W.Frag) (mg : Str → Option Value) : Prop where
  F_is_whole : At K mg "is_whole" s_is_whole
  F_is_among : At K mg "is_among" s_is_among
  F_heading : At K mg "heading" s_heading
  F_opposite : At K mg "opposite" s_opposite
  F_first_kink : At K mg "first_kink" s_first_kink
  F_end_of : At K mg "end_of" s_end_of
  F_least_beginning : At K mg "least_beginning" s_least_beginning
  F_begun : At K mg "begun" s_begun
  F_step_between : At K mg "step_between" s_step_between
  F_need_strokes : At K mg "need_strokes" s_need_strokes
  F_need_strokes_number : At K mg "need_strokes_number" s_need_strokes_number
  F_need_whole : At K mg "need_whole" s_need_whole
  F_begun_with : At K mg "begun_with" s_begun_with
  F_texts_with : At K mg "texts_with" s_texts_with
  F_own_texts : At K mg "own_texts" s_own_texts
  F_lines_with : At K mg "lines_with" s_lines_with
  F_count_lines : At K mg "count_lines" s_count_lines
  F_next_letters : At K mg "next_letters" s_next_letters
  F_height_behind : At K mg "height_behind" s_height_behind
  F_period : At K mg "period" s_period
  F_texts_on : At K mg "texts_on" s_texts_on
  F_lines_of : At K mg "lines_of" s_lines_of
  F__law_mixed : At K mg "_law_mixed" s__law_mixed
  F__law_folded : At K mg "_law_folded" s__law_folded
  F__law_draw : At K mg "_law_draw" s__law_draw
  F__law_begun : At K mg "_law_begun" s__law_begun
  F__law_like : At K mg "_law_like" s__law_like
  F__law_other : At K mg "_law_other" s__law_other
  F__law_kinks : At K mg "_law_kinks" s__law_kinks
  F__law_ends : At K mg "_law_ends" s__law_ends
  F__law_is_loop : At K mg "_law_is_loop" s__law_is_loop
  F__law_least : At K mg "_law_least" s__law_least
  F__law_made : At K mg "_law_made" s__law_made
  F__law_deed : At K mg "_law_deed" s__law_deed
  F__law_text : At K mg "_law_text" s__law_text
  F__law_turns : At K mg "_law_turns" s__law_turns
  F__law_heard : At K mg "_law_heard" s__law_heard
  F__law_loops : At K mg "_law_loops" s__law_loops
  F__law_lists_right : At K mg "_law_lists_right" s__law_lists_right
  F_law : At K mg "law" s_law
  n_isinstance : mg "isinstance" = none
  n_int : mg "int" = none
  n_bool : mg "bool" = none
  n_str : mg "str" = none
  n_list : mg "list" = none
  n_len : mg "len" = none
  n_range : mg "range" = none
  n_enumerate : mg "enumerate" = none
  n_min : mg "min" = none
  n_abs : mg "abs" = none
  n_sum : mg "sum" = none
  n_repr : mg "repr" = none
  n_zip : mg "zip" = none
  m_MOST_STROKES : ∃ t, mg "MOST_STROKES" = some (.int 80 t)
  m_QUARTERS : ∃ t, mg "QUARTERS" = some (.int 4 t)
  m_MOST_COUNTED : ∃ t, mg "MOST_COUNTED" = some (.int 12 t)
  m_MOST_LISTED : ∃ t, mg "MOST_LISTED" = some (.int 500 t)
  m_LETTERS : ∃ t, mg "LETTERS" = some (.str "ENWS" t)
  m_ALPHABET : ∃ t, mg "ALPHABET" = some (.str "ENSW" t)
  c_Line : mg "Line" = some (.ref (He.ga K "Line"))
  L_cls : SlX.SCls K (He.ga K "Line")
  L_slot : SlX.Slot1 K (He.ga K "Line") "strokes" (He.ma K (He.ga K "Line") "strokes") 0
  L_mk : Mk K (He.ga K "Line") (He.ma K (He.ga K "Line") "__init__")
  L_init : ∃ fd, FunD K "__init__" "Line.__init__" (defArgs s_Line_init) (defBody s_Line_init) (defScope s_Line_init) [] [] (He.ma K (He.ga K "Line") "__init__") fd
  L_lenA : PySem.W.findIn K (.ref (He.ga K "Line")) "__len__" = some (some (.ref (He.ma K (He.ga K "Line") "__len__")))
  L_lenF : PySem.W.isFn K (.ref (He.ma K (He.ga K "Line") "__len__")) = true
  L_len : ∃ fd, FunD K "__len__" "Line.__len__" (defArgs s_Line_len) (defBody s_Line_len) (defScope s_Line_len) [] [] (He.ma K (He.ga K "Line") "__len__") fd
  L_turnsM : Meth K (He.ga K "Line") "turns" (He.ma K (He.ga K "Line") "turns")
  L_turns : ∃ fd, FunD K "turns" "Line.turns" (defArgs s_Line_turns) (defBody s_Line_turns) (defScope s_Line_turns) [] [] (He.ma K (He.ga K "Line") "turns") fd
  c_Counter : mg "Counter" = some (.ref (He.ga K "Counter"))
  C_cls : Cls K (He.ga K "Counter")
  C_goal : NoAttr K (He.ga K "Counter") "goal"
  C_known : NoAttr K (He.ga K "Counter") "known"
  C_mk : Mk K (He.ga K "Counter") (He.ma K (He.ga K "Counter") "__init__")
  C_init : ∃ fd, FunD K "__init__" "Counter.__init__" (defArgs s_Counter_init) (defBody s_Counter_init) (defScope s_Counter_init) [] [] (He.ma K (He.ga K "Counter") "__init__") fd
  C_waysM : BMeth K (He.ga K "Counter") "ways" (He.ma K (He.ga K "Counter") "ways")
  C_ways : ∃ fd, FunD K "ways" "Counter.ways" (defArgs s_Counter_ways) (defBody s_Counter_ways) (defScope s_Counter_ways) [] [] (He.ma K (He.ga K "Counter") "ways") fd
  C_behindM : BMeth K (He.ga K "Counter") "behind" (He.ma K (He.ga K "Counter") "behind")
  C_behind : ∃ fd, FunD K "behind" "Counter.behind" (defArgs s_Counter_behind) (defBody s_Counter_behind) (defScope s_Counter_behind) [] [] (He.ma K (He.ga K "Counter") "behind") fd
  c_STEPS : ∃ a p0 p1 p2 p3 : Addr, mg "STEPS" = some (.ref a) ∧ TupK K a [.ref p0, .ref p1, .ref p2, .ref p3] ∧ TupK K p0 [.int 1, .int 0] ∧ TupK K p1 [.int 0, .int 1] ∧ TupK K p2 [.int (-1), .int 0] ∧ TupK K p3 [.int 0, .int (-1)]
end K51

end K51Txt_text
section K51Ya_text
set_option Elab.async false
set_option linter.all false
set_option maxRecDepth 100000
set_option maxHeartbeats 4000000
namespace K51
open PySem PySem.Spec PyProof.Rows L2 Kk SlX
/-! ### what one Bool tells of the written part -/
abbrev LC (K : PySem.W.Frag) : Addr := He.ga K "Line"
abbrev eo (a b : Option (Option Value)) : Bool := decide (a = b)
def lineB (K : PySem.W.Frag) : Bool :=
  PySem.W.plainGet K (LC K) Str.empty && (PySem.W.isClsIn K (LC K) && (PySem.W.plainOver K (LC K) && (eo (PySem.W.findIn K (.ref (LC K)) "__setattr__") (some (some (.builtin "object.__setattr__"))) &&
  (eo (PySem.W.findIn K (.ref (LC K)) "strokes") (some (some (.ref (He.ma K (LC K) "strokes")))) && (eo (PySem.W.specialIn K (.ref (He.ma K (LC K) "strokes")) "__get__") (some (some (.builtin "member_descriptor.__get__"))) &&
  (decide (PySem.W.takesIn K (.ref (He.ma K (LC K) "strokes")) = some true) && (decide (PySem.W.typeIn K (.ref (He.ma K (LC K) "strokes")) = some (.type "member_descriptor")) && (decide (PySem.W.slotIn K (He.ma K (LC K) "strokes") (LC K) = some 0) &&
  (PySem.W.makesIn K (LC K) && (eo (PySem.W.findIn K (.ref (LC K)) "__init__") (some (some (.ref (He.ma K (LC K) "__init__")))) && (PySem.W.isFn K (.ref (He.ma K (LC K) "__init__")) && (PySem.W.keepIn K (.ref (LC K)) &&
  (eo (PySem.W.findIn K (.ref (LC K)) "__len__") (some (some (.ref (He.ma K (LC K) "__len__")))) && (PySem.W.isFn K (.ref (He.ma K (LC K) "__len__")) &&
  (eo (PySem.W.findIn K (.ref (LC K)) "turns") (some (some (.ref (He.ma K (LC K) "turns")))) && (PySem.W.isFn K (.ref (He.ma K (LC K) "turns")) && PySem.W.keepIn K (.ref (He.ma K (LC K) "turns"))))))))))))))))))
theorem ba2 {a b : Bool} (h : (a && b) = true) : a = true ∧ b = true := Bool.and_eq_true_iff.mp h
structure LineF (K : PySem.W.Frag) : Prop where
  cls : SlX.SCls K (LC K)
  slot : SlX.Slot1 K (LC K) "strokes" (He.ma K (LC K) "strokes") 0
  mkr : Mk K (LC K) (He.ma K (LC K) "__init__")
  lenA : PySem.W.findIn K (.ref (LC K)) "__len__" = some (some (.ref (He.ma K (LC K) "__len__")))
  lenF : PySem.W.isFn K (.ref (He.ma K (LC K) "__len__")) = true
  turns : Meth K (LC K) "turns" (He.ma K (LC K) "turns")
theorem lineB_ok {K : PySem.W.Frag} (h : lineB K = true) : LineF K := by
  unfold lineB at h
  obtain ⟨a1, h⟩ := ba2 h
  obtain ⟨a2, h⟩ := ba2 h
  obtain ⟨a3, h⟩ := ba2 h
  obtain ⟨a4, h⟩ := ba2 h
  obtain ⟨b1, h⟩ := ba2 h
  obtain ⟨b2, h⟩ := ba2 h
  obtain ⟨b3, h⟩ := ba2 h
  obtain ⟨b4, h⟩ := ba2 h
  obtain ⟨b5, h⟩ := ba2 h
  obtain ⟨c1, h⟩ := ba2 h
  obtain ⟨c2, h⟩ := ba2 h
  obtain ⟨c3, h⟩ := ba2 h
  obtain ⟨c4, h⟩ := ba2 h
  obtain ⟨d1, h⟩ := ba2 h
  obtain ⟨d2, h⟩ := ba2 h
  obtain ⟨e1, h⟩ := ba2 h
  obtain ⟨e2, e3⟩ := ba2 h
  exact ⟨⟨a1, a2, a3, of_decide_eq_true a4⟩, ⟨of_decide_eq_true b1, of_decide_eq_true b2, of_decide_eq_true b3, of_decide_eq_true b4, of_decide_eq_true b5, by decide⟩, ⟨c1, of_decide_eq_true c2, c3, c4⟩, of_decide_eq_true d1, d2, ⟨of_decide_eq_true e1, e2, e3⟩⟩
/-- a plain method that can be bound -/
def bmB (K : PySem.W.Frag) (C : Addr) (m : Str) : Bool :=
  eo (PySem.W.findIn K (.ref C) m) (some (some (.ref (He.ma K C m)))) && (PySem.W.isFn K (.ref (He.ma K C m)) && (PySem.W.keepIn K (.ref (He.ma K C m)) && (eo (PySem.W.specialIn K (.ref (He.ma K C m)) "__get__") (some (some (.builtin "function.__get__"))) &&
  (decide (PySem.W.takesIn K (.ref (He.ma K C m)) = some false) && PySem.W.fnIn K (He.ma K C m)))))
theorem bmB_ok {K : PySem.W.Frag} {C : Addr} {m : Str} (cp : PySem.W.copiedNames.contains m = false) (h : bmB K C m = true) : BMeth K C m (He.ma K C m) := by
  unfold bmB at h
  obtain ⟨a1, h⟩ := ba2 h
  obtain ⟨a2, h⟩ := ba2 h
  obtain ⟨a3, h⟩ := ba2 h
  obtain ⟨a4, h⟩ := ba2 h
  obtain ⟨a5, a6⟩ := ba2 h
  exact ⟨⟨of_decide_eq_true a1, a2, a3⟩, of_decide_eq_true a4, of_decide_eq_true a5, cp, a6⟩
def pairB (K : PySem.W.Frag) (p : Addr) (i j : Int) : Bool := match K.lookup p with
  | some o => decide (o.cls = .type "tuple") && (match o.data with
    | .seq its _ => (match its.toList with
      | [.int a _, .int b _] => decide (a = i) && decide (b = j)
      | _ => false)
    | _ => false)
  | _ => false
theorem pairB_ok {K : PySem.W.Frag} {p : Addr} {i j : Int} (h : pairB K p i j = true) : TupK K p [.int i, .int j] := by
  unfold pairB at h
  split at h
  · rename_i o ho
    obtain ⟨h1, h2⟩ := ba2 h
    split at h2
    · rename_i its n hd
      split at h2
      · rename_i a t b u hl
        obtain ⟨h3, h4⟩ := ba2 h2
        have h3 := of_decide_eq_true h3
        have h4 := of_decide_eq_true h4
        subst h3 h4
        refine ⟨o, its, n, ho, of_decide_eq_true h1, hd, ?_, ?_⟩
        · rw [← Array.length_toList, hl]
          exact (by decide : 2 ≤ sizeLine)
        · rw [hl]
          exact .cons ⟨t, rfl⟩ (.cons ⟨u, rfl⟩ .nil)
      · cases h2
    · cases h2
  · cases h
def stepsB (K : PySem.W.Frag) : Bool := match PySem.W.nsIn K mainGlobals "STEPS" with
  | some (some (.ref a)) => (match K.lookup a with
    | some o => decide (o.cls = .type "tuple") && (match o.data with
      | .seq its _ => (match its.toList with
        | [.ref p0, .ref p1, .ref p2, .ref p3] => pairB K p0 1 0 && (pairB K p1 0 1 && (pairB K p2 (-1) 0 && pairB K p3 0 (-1)))
        | _ => false)
      | _ => false)
    | _ => false)
  | _ => false
theorem stepsB_ok {K : PySem.W.Frag} {h : Heap} {mg : Str → Option Value} (X : K.In h) (G : h.Ns mainGlobals mg) (b : stepsB K = true) : ∃ a p0 p1 p2 p3 : Addr, mg "STEPS" = some (.ref a) ∧ TupK K a [.ref p0, .ref p1, .ref p2, .ref p3] ∧ TupK K p0 [.int 1, .int 0] ∧ TupK K p1 [.int 0, .int 1] ∧ TupK K p2 [.int (-1), .int 0] ∧ TupK K p3 [.int 0, .int (-1)] := by
  unfold stepsB at b
  split at b
  · rename_i a ha
    split at b
    · rename_i o ho
      obtain ⟨h1, h2⟩ := ba2 b
      split at h2
      · rename_i its n hd
        split at h2
        · rename_i p0 p1 p2 p3 hl
          obtain ⟨b0, h2⟩ := ba2 h2
          obtain ⟨b1, h2⟩ := ba2 h2
          obtain ⟨b2, b3⟩ := ba2 h2
          refine ⟨a, p0, p1, p2, p3, PySem.W.mg_of X G ha, ⟨o, its, n, ho, of_decide_eq_true h1, hd, ?_, ?_⟩, pairB_ok b0, pairB_ok b1, pairB_ok b2, pairB_ok b3⟩
          · rw [← Array.length_toList, hl]
            exact (by decide : 4 ≤ sizeLine)
          · rw [hl]
            exact .cons rfl (.cons rfl (.cons rfl (.cons rfl .nil)))
        · cases h2
      · cases h2
    · cases b
  · cases b
end K51

end K51Ya_text
section K51HA_text
set_option Elab.async false
set_option linter.all false
set_option maxRecDepth 100000
set_option maxHeartbeats 4000000
namespace K51
open PySem PySem.Spec PyProof.Rows L2 Kk
def hd_is_whole : He.DefD := ⟨("is_whole", none), "is_whole", "is_whole", defArgs s_is_whole, defBody s_is_whole, defScope s_is_whole, [], []⟩
def hd_is_among : He.DefD := ⟨("is_among", none), "is_among", "is_among", defArgs s_is_among, defBody s_is_among, defScope s_is_among, [], []⟩
def hd_heading : He.DefD := ⟨("heading", none), "heading", "heading", defArgs s_heading, defBody s_heading, defScope s_heading, [], []⟩
def hd_opposite : He.DefD := ⟨("opposite", none), "opposite", "opposite", defArgs s_opposite, defBody s_opposite, defScope s_opposite, [], []⟩
def hd_first_kink : He.DefD := ⟨("first_kink", none), "first_kink", "first_kink", defArgs s_first_kink, defBody s_first_kink, defScope s_first_kink, [], []⟩
def hd_end_of : He.DefD := ⟨("end_of", none), "end_of", "end_of", defArgs s_end_of, defBody s_end_of, defScope s_end_of, [], []⟩
def hd_least_beginning : He.DefD := ⟨("least_beginning", none), "least_beginning", "least_beginning", defArgs s_least_beginning, defBody s_least_beginning, defScope s_least_beginning, [], []⟩
def hd_begun : He.DefD := ⟨("begun", none), "begun", "begun", defArgs s_begun, defBody s_begun, defScope s_begun, [], []⟩
def hd_step_between : He.DefD := ⟨("step_between", none), "step_between", "step_between", defArgs s_step_between, defBody s_step_between, defScope s_step_between, [], []⟩
def hd_need_strokes : He.DefD := ⟨("need_strokes", none), "need_strokes", "need_strokes", defArgs s_need_strokes, defBody s_need_strokes, defScope s_need_strokes, [], []⟩
def hd_Line_init : He.DefD := ⟨("Line", some "__init__"), "__init__", "Line.__init__", defArgs s_Line_init, defBody s_Line_init, defScope s_Line_init, [], []⟩
def hd_Line_len : He.DefD := ⟨("Line", some "__len__"), "__len__", "Line.__len__", defArgs s_Line_len, defBody s_Line_len, defScope s_Line_len, [], []⟩
def hd_Line_turns : He.DefD := ⟨("Line", some "turns"), "turns", "Line.turns", defArgs s_Line_turns, defBody s_Line_turns, defScope s_Line_turns, [], []⟩
def hd_need_strokes_number : He.DefD := ⟨("need_strokes_number", none), "need_strokes_number", "need_strokes_number", defArgs s_need_strokes_number, defBody s_need_strokes_number, defScope s_need_strokes_number, [], []⟩
def hd_need_whole : He.DefD := ⟨("need_whole", none), "need_whole", "need_whole", defArgs s_need_whole, defBody s_need_whole, defScope s_need_whole, [], []⟩
def hd_Counter_init : He.DefD := ⟨("Counter", some "__init__"), "__init__", "Counter.__init__", defArgs s_Counter_init, defBody s_Counter_init, defScope s_Counter_init, [], []⟩
def hd_Counter_ways : He.DefD := ⟨("Counter", some "ways"), "ways", "Counter.ways", defArgs s_Counter_ways, defBody s_Counter_ways, defScope s_Counter_ways, [], []⟩
def hd_Counter_behind : He.DefD := ⟨("Counter", some "behind"), "behind", "Counter.behind", defArgs s_Counter_behind, defBody s_Counter_behind, defScope s_Counter_behind, [], []⟩
def hd_begun_with : He.DefD := ⟨("begun_with", none), "begun_with", "begun_with", defArgs s_begun_with, defBody s_begun_with, defScope s_begun_with, [], []⟩
def hd_texts_with : He.DefD := ⟨("texts_with", none), "texts_with", "texts_with", defArgs s_texts_with, defBody s_texts_with, defScope s_texts_with, [], []⟩
def hd_own_texts : He.DefD := ⟨("own_texts", none), "own_texts", "own_texts", defArgs s_own_texts, defBody s_own_texts, defScope s_own_texts, [], []⟩
def hd_lines_with : He.DefD := ⟨("lines_with", none), "lines_with", "lines_with", defArgs s_lines_with, defBody s_lines_with, defScope s_lines_with, [], []⟩
def hd_count_lines : He.DefD := ⟨("count_lines", none), "count_lines", "count_lines", defArgs s_count_lines, defBody s_count_lines, defScope s_count_lines, [], []⟩
def hd_next_letters : He.DefD := ⟨("next_letters", none), "next_letters", "next_letters", defArgs s_next_letters, defBody s_next_letters, defScope s_next_letters, [], []⟩
def hd_height_behind : He.DefD := ⟨("height_behind", none), "height_behind", "height_behind", defArgs s_height_behind, defBody s_height_behind, defScope s_height_behind, [], []⟩
def hd_period : He.DefD := ⟨("period", none), "period", "period", defArgs s_period, defBody s_period, defScope s_period, [], []⟩
def hd_texts_on : He.DefD := ⟨("texts_on", none), "texts_on", "texts_on", defArgs s_texts_on, defBody s_texts_on, defScope s_texts_on, [], []⟩
def hd_lines_of : He.DefD := ⟨("lines_of", none), "lines_of", "lines_of", defArgs s_lines_of, defBody s_lines_of, defScope s_lines_of, [], []⟩
def hd__law_mixed : He.DefD := ⟨("_law_mixed", none), "_law_mixed", "_law_mixed", defArgs s__law_mixed, defBody s__law_mixed, defScope s__law_mixed, [], []⟩
def hd__law_folded : He.DefD := ⟨("_law_folded", none), "_law_folded", "_law_folded", defArgs s__law_folded, defBody s__law_folded, defScope s__law_folded, [], []⟩
def hd__law_draw : He.DefD := ⟨("_law_draw", none), "_law_draw", "_law_draw", defArgs s__law_draw, defBody s__law_draw, defScope s__law_draw, [], []⟩
def hd__law_begun : He.DefD := ⟨("_law_begun", none), "_law_begun", "_law_begun", defArgs s__law_begun, defBody s__law_begun, defScope s__law_begun, [], []⟩
def hd__law_like : He.DefD := ⟨("_law_like", none), "_law_like", "_law_like", defArgs s__law_like, defBody s__law_like, defScope s__law_like, [], []⟩
def hd__law_other : He.DefD := ⟨("_law_other", none), "_law_other", "_law_other", defArgs s__law_other, defBody s__law_other, defScope s__law_other, [], []⟩
def hd__law_kinks : He.DefD := ⟨("_law_kinks", none), "_law_kinks", "_law_kinks", defArgs s__law_kinks, defBody s__law_kinks, defScope s__law_kinks, [], []⟩
def hd__law_ends : He.DefD := ⟨("_law_ends", none), "_law_ends", "_law_ends", defArgs s__law_ends, defBody s__law_ends, defScope s__law_ends, [], []⟩
def hd__law_is_loop : He.DefD := ⟨("_law_is_loop", none), "_law_is_loop", "_law_is_loop", defArgs s__law_is_loop, defBody s__law_is_loop, defScope s__law_is_loop, [], []⟩
def hd__law_least : He.DefD := ⟨("_law_least", none), "_law_least", "_law_least", defArgs s__law_least, defBody s__law_least, defScope s__law_least, [], []⟩
def hd__law_made : He.DefD := ⟨("_law_made", none), "_law_made", "_law_made", defArgs s__law_made, defBody s__law_made, defScope s__law_made, [], []⟩
def hd__law_deed : He.DefD := ⟨("_law_deed", none), "_law_deed", "_law_deed", defArgs s__law_deed, defBody s__law_deed, defScope s__law_deed, [], []⟩
def hd__law_text : He.DefD := ⟨("_law_text", none), "_law_text", "_law_text", defArgs s__law_text, defBody s__law_text, defScope s__law_text, [], []⟩
def hd__law_turns : He.DefD := ⟨("_law_turns", none), "_law_turns", "_law_turns", defArgs s__law_turns, defBody s__law_turns, defScope s__law_turns, [], []⟩
def hd__law_heard : He.DefD := ⟨("_law_heard", none), "_law_heard", "_law_heard", defArgs s__law_heard, defBody s__law_heard, defScope s__law_heard, [], []⟩
def hd__law_loops : He.DefD := ⟨("_law_loops", none), "_law_loops", "_law_loops", defArgs s__law_loops, defBody s__law_loops, defScope s__law_loops, [], []⟩
def hd__law_lists_right : He.DefD := ⟨("_law_lists_right", none), "_law_lists_right", "_law_lists_right", defArgs s__law_lists_right, defBody s__law_lists_right, defScope s__law_lists_right, [], []⟩
def hd_law : He.DefD := ⟨("law", none), "law", "law", defArgs s_law, defBody s_law, defScope s_law, [], []⟩
def fnH : List He.DefD := [hd_is_whole, hd_is_among, hd_heading, hd_opposite, hd_first_kink, hd_end_of, hd_least_beginning, hd_begun, hd_step_between, hd_need_strokes, hd_Line_init, hd_Line_len, hd_Line_turns, hd_need_strokes_number, hd_need_whole, hd_Counter_init, hd_Counter_ways, hd_Counter_behind, hd_begun_with, hd_texts_with, hd_own_texts, hd_lines_with, hd_count_lines, hd_next_letters, hd_height_behind, hd_period, hd_texts_on, hd_lines_of, hd__law_mixed, hd__law_folded, hd__law_draw, hd__law_begun, hd__law_like, hd__law_other, hd__law_kinks, hd__law_ends, hd__law_is_loop, hd__law_least, hd__law_made, hd__law_deed, hd__law_text, hd__law_turns, hd__law_heard, hd__law_loops, hd__law_lists_right, hd_law]
def faH : List He.Fa := [.glo "is_whole", .glo "is_among", .glo "heading", .glo "opposite", .glo "first_kink", .glo "end_of", .glo "least_beginning", .glo "begun", .glo "step_between", .glo "need_strokes", .glo "need_strokes_number", .glo "need_whole", .glo "begun_with", .glo "texts_with", .glo "own_texts", .glo "lines_with", .glo "count_lines", .glo "next_letters", .glo "height_behind", .glo "period", .glo "texts_on", .glo "lines_of", .glo "_law_mixed", .glo "_law_folded", .glo "_law_draw", .glo "_law_begun", .glo "_law_like", .glo "_law_other", .glo "_law_kinks", .glo "_law_ends", .glo "_law_is_loop", .glo "_law_least", .glo "_law_made", .glo "_law_deed", .glo "_law_text", .glo "_law_turns", .glo "_law_heard", .glo "_law_loops", .glo "_law_lists_right", .glo "law", .glo "Line", .glo "Counter", .cls "Counter", .noat "Counter" "goal", .noat "Counter" "known", .mkr "Counter", .free "isinstance", .free "int", .free "bool", .free "str", .free "list", .free "len", .free "range", .free "enumerate", .free "min", .free "abs", .free "sum", .free "repr", .free "zip", .int "MOST_STROKES" 80, .int "QUARTERS" 4, .int "MOST_COUNTED" 12, .int "MOST_LISTED" 500, .str "LETTERS" "ENWS", .str "ALPHABET" "ENSW"]
theorem tx_of {K : PySem.W.Frag} {h : Heap} {mg : Str → Option Value} (X : K.In h) (G : h.Ns mainGlobals mg) (c : He.SaysD faH fnH K) (l : LineF K) (b1 : bmB K (He.ga K "Counter") "ways" = true) (b2 : bmB K (He.ga K "Counter") "behind" = true) (b3 : stepsB K = true) : Tx K mg where
  F_is_whole := by
    obtain ⟨fd, F⟩ := c.def_ 0 (d := hd_is_whole) rfl
    exact ⟨_, fd, F, He.glo_ok X G (c.fact 0 (f := .glo "is_whole") rfl)⟩
  F_is_among := by
    obtain ⟨fd, F⟩ := c.def_ 1 (d := hd_is_among) rfl
    exact ⟨_, fd, F, He.glo_ok X G (c.fact 1 (f := .glo "is_among") rfl)⟩
  F_heading := by
    obtain ⟨fd, F⟩ := c.def_ 2 (d := hd_heading) rfl
    exact ⟨_, fd, F, He.glo_ok X G (c.fact 2 (f := .glo "heading") rfl)⟩
  F_opposite := by
    obtain ⟨fd, F⟩ := c.def_ 3 (d := hd_opposite) rfl
    exact ⟨_, fd, F, He.glo_ok X G (c.fact 3 (f := .glo "opposite") rfl)⟩
  F_first_kink := by
    obtain ⟨fd, F⟩ := c.def_ 4 (d := hd_first_kink) rfl
    exact ⟨_, fd, F, He.glo_ok X G (c.fact 4 (f := .glo "first_kink") rfl)⟩
  F_end_of := by
    obtain ⟨fd, F⟩ := c.def_ 5 (d := hd_end_of) rfl
    exact ⟨_, fd, F, He.glo_ok X G (c.fact 5 (f := .glo "end_of") rfl)⟩
  F_least_beginning := by
    obtain ⟨fd, F⟩ := c.def_ 6 (d := hd_least_beginning) rfl
    exact ⟨_, fd, F, He.glo_ok X G (c.fact 6 (f := .glo "least_beginning") rfl)⟩
  F_begun := by
    obtain ⟨fd, F⟩ := c.def_ 7 (d := hd_begun) rfl
    exact ⟨_, fd, F, He.glo_ok X G (c.fact 7 (f := .glo "begun") rfl)⟩
  F_step_between := by
    obtain ⟨fd, F⟩ := c.def_ 8 (d := hd_step_between) rfl
    exact ⟨_, fd, F, He.glo_ok X G (c.fact 8 (f := .glo "step_between") rfl)⟩
  F_need_strokes := by
    obtain ⟨fd, F⟩ := c.def_ 9 (d := hd_need_strokes) rfl
    exact ⟨_, fd, F, He.glo_ok X G (c.fact 9 (f := .glo "need_strokes") rfl)⟩
  F_need_strokes_number := by
    obtain ⟨fd, F⟩ := c.def_ 13 (d := hd_need_strokes_number) rfl
    exact ⟨_, fd, F, He.glo_ok X G (c.fact 10 (f := .glo "need_strokes_number") rfl)⟩
  F_need_whole := by
    obtain ⟨fd, F⟩ := c.def_ 14 (d := hd_need_whole) rfl
    exact ⟨_, fd, F, He.glo_ok X G (c.fact 11 (f := .glo "need_whole") rfl)⟩
  F_begun_with := by
    obtain ⟨fd, F⟩ := c.def_ 18 (d := hd_begun_with) rfl
    exact ⟨_, fd, F, He.glo_ok X G (c.fact 12 (f := .glo "begun_with") rfl)⟩
  F_texts_with := by
    obtain ⟨fd, F⟩ := c.def_ 19 (d := hd_texts_with) rfl
    exact ⟨_, fd, F, He.glo_ok X G (c.fact 13 (f := .glo "texts_with") rfl)⟩
  F_own_texts := by
    obtain ⟨fd, F⟩ := c.def_ 20 (d := hd_own_texts) rfl
    exact ⟨_, fd, F, He.glo_ok X G (c.fact 14 (f := .glo "own_texts") rfl)⟩
  F_lines_with := by
    obtain ⟨fd, F⟩ := c.def_ 21 (d := hd_lines_with) rfl
    exact ⟨_, fd, F, He.glo_ok X G (c.fact 15 (f := .glo "lines_with") rfl)⟩
  F_count_lines := by
    obtain ⟨fd, F⟩ := c.def_ 22 (d := hd_count_lines) rfl
    exact ⟨_, fd, F, He.glo_ok X G (c.fact 16 (f := .glo "count_lines") rfl)⟩
  F_next_letters := by
    obtain ⟨fd, F⟩ := c.def_ 23 (d := hd_next_letters) rfl
    exact ⟨_, fd, F, He.glo_ok X G (c.fact 17 (f := .glo "next_letters") rfl)⟩
  F_height_behind := by
    obtain ⟨fd, F⟩ := c.def_ 24 (d := hd_height_behind) rfl
    exact ⟨_, fd, F, He.glo_ok X G (c.fact 18 (f := .glo "height_behind") rfl)⟩
  F_period := by
    obtain ⟨fd, F⟩ := c.def_ 25 (d := hd_period) rfl
    exact ⟨_, fd, F, He.glo_ok X G (c.fact 19 (f := .glo "period") rfl)⟩
  F_texts_on := by
    obtain ⟨fd, F⟩ := c.def_ 26 (d := hd_texts_on) rfl
    exact ⟨_, fd, F, He.glo_ok X G (c.fact 20 (f := .glo "texts_on") rfl)⟩
  F_lines_of := by
    obtain ⟨fd, F⟩ := c.def_ 27 (d := hd_lines_of) rfl
    exact ⟨_, fd, F, He.glo_ok X G (c.fact 21 (f := .glo "lines_of") rfl)⟩
  F__law_mixed := by
    obtain ⟨fd, F⟩ := c.def_ 28 (d := hd__law_mixed) rfl
    exact ⟨_, fd, F, He.glo_ok X G (c.fact 22 (f := .glo "_law_mixed") rfl)⟩
  F__law_folded := by
    obtain ⟨fd, F⟩ := c.def_ 29 (d := hd__law_folded) rfl
    exact ⟨_, fd, F, He.glo_ok X G (c.fact 23 (f := .glo "_law_folded") rfl)⟩
  F__law_draw := by
    obtain ⟨fd, F⟩ := c.def_ 30 (d := hd__law_draw) rfl
    exact ⟨_, fd, F, He.glo_ok X G (c.fact 24 (f := .glo "_law_draw") rfl)⟩
  F__law_begun := by
    obtain ⟨fd, F⟩ := c.def_ 31 (d := hd__law_begun) rfl
    exact ⟨_, fd, F, He.glo_ok X G (c.fact 25 (f := .glo "_law_begun") rfl)⟩
  F__law_like := by
    obtain ⟨fd, F⟩ := c.def_ 32 (d := hd__law_like) rfl
    exact ⟨_, fd, F, He.glo_ok X G (c.fact 26 (f := .glo "_law_like") rfl)⟩
  F__law_other := by
    obtain ⟨fd, F⟩ := c.def_ 33 (d := hd__law_other) rfl
    exact ⟨_, fd, F, He.glo_ok X G (c.fact 27 (f := .glo "_law_other") rfl)⟩
  F__law_kinks := by
    obtain ⟨fd, F⟩ := c.def_ 34 (d := hd__law_kinks) rfl
    exact ⟨_, fd, F, He.glo_ok X G (c.fact 28 (f := .glo "_law_kinks") rfl)⟩
  F__law_ends := by
    obtain ⟨fd, F⟩ := c.def_ 35 (d := hd__law_ends) rfl
    exact ⟨_, fd, F, He.glo_ok X G (c.fact 29 (f := .glo "_law_ends") rfl)⟩
  F__law_is_loop := by
    obtain ⟨fd, F⟩ := c.def_ 36 (d := hd__law_is_loop) rfl
    exact ⟨_, fd, F, He.glo_ok X G (c.fact 30 (f := .glo "_law_is_loop") rfl)⟩
  F__law_least := by
    obtain ⟨fd, F⟩ := c.def_ 37 (d := hd__law_least) rfl
    exact ⟨_, fd, F, He.glo_ok X G (c.fact 31 (f := .glo "_law_least") rfl)⟩
  F__law_made := by
    obtain ⟨fd, F⟩ := c.def_ 38 (d := hd__law_made) rfl
    exact ⟨_, fd, F, He.glo_ok X G (c.fact 32 (f := .glo "_law_made") rfl)⟩
  F__law_deed := by
    obtain ⟨fd, F⟩ := c.def_ 39 (d := hd__law_deed) rfl
    exact ⟨_, fd, F, He.glo_ok X G (c.fact 33 (f := .glo "_law_deed") rfl)⟩
  F__law_text := by
    obtain ⟨fd, F⟩ := c.def_ 40 (d := hd__law_text) rfl
    exact ⟨_, fd, F, He.glo_ok X G (c.fact 34 (f := .glo "_law_text") rfl)⟩
  F__law_turns := by
    obtain ⟨fd, F⟩ := c.def_ 41 (d := hd__law_turns) rfl
    exact ⟨_, fd, F, He.glo_ok X G (c.fact 35 (f := .glo "_law_turns") rfl)⟩
  F__law_heard := by
    obtain ⟨fd, F⟩ := c.def_ 42 (d := hd__law_heard) rfl
    exact ⟨_, fd, F, He.glo_ok X G (c.fact 36 (f := .glo "_law_heard") rfl)⟩
  F__law_loops := by
    obtain ⟨fd, F⟩ := c.def_ 43 (d := hd__law_loops) rfl
    exact ⟨_, fd, F, He.glo_ok X G (c.fact 37 (f := .glo "_law_loops") rfl)⟩
  F__law_lists_right := by
    obtain ⟨fd, F⟩ := c.def_ 44 (d := hd__law_lists_right) rfl
    exact ⟨_, fd, F, He.glo_ok X G (c.fact 38 (f := .glo "_law_lists_right") rfl)⟩
  F_law := by
    obtain ⟨fd, F⟩ := c.def_ 45 (d := hd_law) rfl
    exact ⟨_, fd, F, He.glo_ok X G (c.fact 39 (f := .glo "law") rfl)⟩
  n_isinstance := He.free_ok X G (c.fact 46 (f := .free "isinstance") rfl)
  n_int := He.free_ok X G (c.fact 47 (f := .free "int") rfl)
  n_bool := He.free_ok X G (c.fact 48 (f := .free "bool") rfl)
  n_str := He.free_ok X G (c.fact 49 (f := .free "str") rfl)
  n_list := He.free_ok X G (c.fact 50 (f := .free "list") rfl)
  n_len := He.free_ok X G (c.fact 51 (f := .free "len") rfl)
  n_range := He.free_ok X G (c.fact 52 (f := .free "range") rfl)
  n_enumerate := He.free_ok X G (c.fact 53 (f := .free "enumerate") rfl)
  n_min := He.free_ok X G (c.fact 54 (f := .free "min") rfl)
  n_abs := He.free_ok X G (c.fact 55 (f := .free "abs") rfl)
  n_sum := He.free_ok X G (c.fact 56 (f := .free "sum") rfl)
  n_repr := He.free_ok X G (c.fact 57 (f := .free "repr") rfl)
  n_zip := He.free_ok X G (c.fact 58 (f := .free "zip") rfl)
  m_MOST_STROKES := He.int_ok X G (c.fact 59 (f := .int "MOST_STROKES" 80) rfl)
  m_QUARTERS := He.int_ok X G (c.fact 60 (f := .int "QUARTERS" 4) rfl)
  m_MOST_COUNTED := He.int_ok X G (c.fact 61 (f := .int "MOST_COUNTED" 12) rfl)
  m_MOST_LISTED := He.int_ok X G (c.fact 62 (f := .int "MOST_LISTED" 500) rfl)
  m_LETTERS := He.str_ok X G (c.fact 63 (f := .str "LETTERS" "ENWS") rfl)
  m_ALPHABET := He.str_ok X G (c.fact 64 (f := .str "ALPHABET" "ENSW") rfl)
  c_Line := He.glo_ok X G (c.fact 40 (f := .glo "Line") rfl)
  L_cls := l.cls
  L_slot := l.slot
  L_mk := l.mkr
  L_lenA := l.lenA
  L_lenF := l.lenF
  L_turnsM := l.turns
  c_Counter := He.glo_ok X G (c.fact 41 (f := .glo "Counter") rfl)
  C_cls := He.cls_ok (c.fact 42 (f := .cls "Counter") rfl)
  C_goal := He.noat_ok (c.fact 43 (f := .noat "Counter" "goal") rfl)
  C_known := He.noat_ok (c.fact 44 (f := .noat "Counter" "known") rfl)
  C_mk := He.mkr_ok (c.fact 45 (f := .mkr "Counter") rfl)
  C_waysM := bmB_ok (by decide +kernel) b1
  C_behindM := bmB_ok (by decide +kernel) b2
  c_STEPS := stepsB_ok X G b3
  L_init := c.def_ 10 (d := hd_Line_init) rfl
  L_len := c.def_ 11 (d := hd_Line_len) rfl
  L_turns := c.def_ 12 (d := hd_Line_turns) rfl
  C_init := c.def_ 15 (d := hd_Counter_init) rfl
  C_ways := c.def_ 16 (d := hd_Counter_ways) rfl
  C_behind := c.def_ 17 (d := hd_Counter_behind) rfl
end K51

end K51HA_text
section K51HR_text
set_option Elab.async false
set_option linter.all false
set_option maxRecDepth 100000
set_option maxHeartbeats 0
namespace K51
open PySem PySem.Spec PyProof.Rows L2 Kk
abbrev RW : PySem.W.OpenRow := PySem.W.OpenLaw.row PySem.Challenge.rw_kinkless_k51_whole_lines_counted
def exH (K : PySem.W.Frag) : Bool := lineB K && (bmB K (He.ga K "Counter") "ways" && (bmB K (He.ga K "Counter") "behind" && stepsB K))
def tfH : List He.Defn := [("_law_lists_right", none)]
abbrev hkH : PySem.W.Hook := He.hookX 5 faH fnH [] tfH exH
def obH (s : PySem.W.SharedT) : He.AlX := He.obsX 5 faH fnH [] tfH exH (HandSHeadRun.getT s)
theorem obH_eq (s : PySem.W.SharedT) : obH s = hkH.obs s.abs := He.obsX_eq (HandSHeadRun.getT_eq s)
def loose0 : List Str := ["_wall", "__name__", "KinkError", "BadStrokes", "Kink", "NotClosed", "BadHeights", "BadDeed", "BadNumber", "BadText", "NoJoin", "NothingLeft", "TooGreat", "MOST_STROKES", "LETTERS", "STEPS", "QUARTERS", "is_whole", "is_among", "heading", "opposite", "first_kink", "end_of", "least_beginning", "begun", "step_between", "need_strokes", "Line", "MOST_COUNTED", "MOST_LISTED"]
def loose1 : List Str := ["ALPHABET", "need_strokes_number", "need_whole", "Counter", "begun_with", "texts_with", "own_texts", "lines_with", "count_lines", "next_letters", "height_behind", "period", "texts_on", "lines_of", "_law_mixed", "_law_folded", "_law_draw", "_law_begun", "_law_like", "_law_other", "_law_kinks", "_law_ends", "_law_is_loop", "_law_least", "_law_made", "_law_deed", "_law_text", "_law_turns", "_law_heard", "_law_loops"]
def loose2 : List Str := ["_law_lists_right"]
abbrev looseH : List Str := loose0 ++ loose1 ++ loose2
theorem runH (w : World) : HandSHeadRun.RunEq RW (PySem.W.view RW.prog [64]) hkH obH 8000 looseH w := by
  intro os
  kernel_rfl
end K51

end K51HR_text
section KkMath_text
set_option Elab.async false
set_option linter.all false
set_option maxRecDepth 100000
set_option maxHeartbeats 4000000
/-! counts of signs; what the small defs compute -/
namespace Kk
open PySem PySem.Spec PyProof.Rows L2
/-! ### how often a sign stands in a text -/
theorem chain_count (x : Str) (c : Nat) : ∀ (cuts : List Nat) (a f : Nat), PySem.StrLaws.ChainG x ⟨#[c]⟩ x.length a cuts f → (∀ k, f ≤ k → ¬ PySem.StrLaws.At x ⟨#[c]⟩ x.length k) → cuts.length = (x.cps.toList.drop a).count c
  | [], a, f, h, hn => by
    have e : f = a := h
    subst e
    show 0 = _
    rw [eq_comm, List.count_eq_zero]
    intro hm
    obtain ⟨j, hj⟩ := List.getElem?_of_mem hm
    rw [List.getElem?_drop] at hj
    exact hn (f + j) (by omega) ((PySem.StrLaws.subAt_one x c (f + j)).mpr hj)
  | d :: r, a, f, h, hn => by
    obtain ⟨h1, h2, h3, h4⟩ := h
    have ih := chain_count x c r (d + 1) f h4 hn
    have hd : x.cps.toList[d]? = some c := (PySem.StrLaws.subAt_one x c d).mp h2
    have hlt := (List.getElem?_eq_some_iff.mp hd).1
    have hg := (List.getElem?_eq_some_iff.mp hd).2
    have e1 : x.cps.toList.drop a = (x.cps.toList.drop a).take (d - a) ++ x.cps.toList.drop d := by
      conv => lhs; rw [← List.take_append_drop (d - a) (x.cps.toList.drop a)]
      rw [List.drop_drop]
      congr 2
      omega
    have e2 : x.cps.toList.drop d = c :: x.cps.toList.drop (d + 1) := by
      rw [List.drop_eq_getElem_cons hlt, hg]
    have e3 : ((x.cps.toList.drop a).take (d - a)).count c = 0 := by
      rw [List.count_eq_zero]
      intro hm
      obtain ⟨j, hj⟩ := List.getElem?_of_mem hm
      have hj2 : j < d - a := by
        have q := (List.getElem?_eq_some_iff.mp hj).1
        simp at q
        omega
      rw [List.getElem?_take_of_lt hj2, List.getElem?_drop] at hj
      exact h3 (a + j) (by omega) (by omega) ((PySem.StrLaws.subAt_one x c (a + j)).mpr hj)
    rw [e1, List.count_append, e3, e2, List.count_cons_self, List.length_cons, ih]
    omega
theorem count_map (a : D) : ∀ l : List D, (l.map D.cp).count a.cp = l.count a
  | [] => rfl
  | b :: r => by
    rw [List.map_cons, List.count_cons, List.count_cons, count_map a r]
    congr 1
    by_cases h : b = a
    · subst h; simp
    · have h2 : ¬ b.cp = a.cp := fun q => h (D.cp_inj q)
      simp [h, h2]
theorem txt_count (l : List D) (a : D) : Txt.count (tx l) (tx [a]) = ((l.count a : Nat) : Int) := by
  obtain ⟨f, h1, h2⟩ := PySem.StrLaws.occ_tight (tx l) (tx [a]) (by simp [tx_len])
  have h3 := chain_count (tx l) a.cp _ 0 f h1 h2
  rw [List.drop_zero, tx_toList, count_map] at h3
  show ((((Builtin.Str.occurrences (tx l) (tx [a]) 0 (tx l).length ((tx l).length + 1)).length : Nat)) : Int) = _
  rw [h3]
theorem idx0 (a : D) : Txt.index0 (tx [.E, .N, .W, .S]) (tx [a]) = some a.hd := by cases a <;> decide +kernel
/-! ### the small defs -/
/-- begun at a place -/
def rot (l : List D) (k : Nat) : List D := l.drop k ++ l.take k
theorem rot_len (l : List D) (k : Nat) : (rot l k).length = l.length := by
  simp only [rot, List.length_append, List.length_drop, List.length_take]; omega
theorem rot_zero (l : List D) : rot l 0 = l := by simp [rot]
/-- the letter ahead of a place -/
def ahead (l : List D) (i : Nat) : Option D := if i = 0 then l[l.length - 1]? else l[i - 1]?
def kinkP (l : List D) (i : Nat) : Bool := decide (l[i]? = (ahead l i).map D.opp)
/-- the first kink -/
def kinkAt (l : List D) : Option Nat := (List.range l.length).find? (kinkP l)
def endX (l : List D) : Int := (l.count .E : Int) - (l.count .W : Int)
def endY (l : List D) : Int := (l.count .N : Int) - (l.count .S : Int)
/-- the place of the least text among the first n + 1 places -/
def bestUp (l : List D) : Nat → Nat
  | 0 => 0
  | n + 1 => if ltT (rot l (n + 1)) (rot l (bestUp l n)) = true then n + 1 else bestUp l n
def leastB (l : List D) : Nat := bestUp l (l.length - 1)
/-- the least text -/
def norm (l : List D) : List D := rot l (leastB l)
theorem bestUp_le (l : List D) : ∀ n, bestUp l n ≤ n
  | 0 => Nat.le_refl 0
  | n + 1 => by
    unfold bestUp
    split
    · exact Nat.le_refl _
    · exact Nat.le_succ_of_le (bestUp_le l n)
theorem norm_len (l : List D) : (norm l).length = l.length := rot_len _ _
/-- how the height changes -/
def stp (a b : D) : Int := ((b.hd : Int) - (a.hd : Int) + 1) % 4 - 1
theorem ahead_some {l : List D} {i : Nat} (h : i < l.length) : ∃ a, ahead l i = some a := by
  unfold ahead
  split
  · exact ⟨_, List.getElem?_eq_getElem (by omega)⟩
  · exact ⟨_, List.getElem?_eq_getElem (by omega)⟩
theorem at_ahead {l : List D} {i : Nat} {a : D} (h : ahead l i = some a) (hi : i < l.length) : atI (tx l).cps.toList ((i : Int) - 1) = some a.cp := by
  unfold ahead at h
  split at h
  · rename_i e
    subst e
    exact at_last l a h
  · rename_i e
    have e1 : ((i : Int) - 1) = ((i - 1 : Nat) : Int) := by omega
    rw [e1]
    exact at_nat l _ a h
/-- the first place among the first n -/
theorem find_range_none {p : Nat → Bool} : ∀ {n : Nat}, (∀ i, i < n → p i = false) → (List.range n).find? p = none := fun {n} h => by
  rw [List.find?_eq_none]
  intro i hi
  rw [h i (List.mem_range.mp hi)]
  exact Bool.false_ne_true
theorem find_range_some {p : Nat → Bool} {n i : Nat} (hi : i < n) (h1 : p i = true) (h2 : ∀ j, j < i → p j = false) : (List.range n).find? p = some i := by
  rw [List.find?_eq_some_iff_append]
  refine ⟨h1, List.range i, (List.range' (i + 1) (n - i - 1)), ?_, fun j hj => ?_⟩
  · rw [List.range_eq_range', List.range_eq_range']
    have e : n = i + (1 + (n - i - 1)) := by omega
    conv => lhs; rw [e]
    rw [← List.range'_append_1, Nat.zero_add, ← List.range'_append_1]
    rfl
  · rw [h2 j (List.mem_range.mp hj)]
    rfl
end Kk

end KkMath_text
section KkRot_text
set_option Elab.async false
set_option linter.all false
set_option maxRecDepth 100000
set_option maxHeartbeats 4000000
/-! Texts that are begun elsewhere -/
namespace Kk
open PySem PySem.Spec PyProof.Rows L2
theorem rot_at {l : List D} {k j : Nat} (hk : k < l.length) (hj : j < l.length) : (rot l k)[j]? = l[(k + j) % l.length]? := by
  unfold rot
  by_cases h : j < l.length - k
  · rw [List.getElem?_append_left (by rw [List.length_drop]; exact h), List.getElem?_drop, Nat.mod_eq_of_lt (by omega)]
  · rw [List.getElem?_append_right (by rw [List.length_drop]; omega), List.length_drop, List.getElem?_take_of_lt (by omega)]
    have e : (k + j) % l.length = k + j - l.length := by
      rw [Nat.mod_eq_sub_mod (by omega), Nat.mod_eq_of_lt (by omega)]
    rw [e]
    congr 1
    omega
theorem no_kink {l : List D} (h : kinkAt l = none) {i : Nat} (hi : i < l.length) {a b : D} (ha : ahead l i = some a) (hb : l[i]? = some b) : b ≠ a.opp := by
  intro e
  have z := List.find?_eq_none.mp h i (List.mem_range.mpr hi)
  exact z (by unfold kinkP; rw [ha, hb, e]; exact decide_eq_true rfl)
/-- two strokes one behind another, of a text begun elsewhere -/
theorem rot_next {l : List D} {k j : Nat} (h : kinkAt l = none) (hk : k < l.length) (hj : j + 1 < l.length) {a b : D} (ha : (rot l k)[j]? = some a) (hb : (rot l k)[j + 1]? = some b) : b ≠ a.opp := by
  rw [rot_at hk (by omega)] at ha
  rw [rot_at hk hj] at hb
  have hlt : (k + (j + 1)) % l.length < l.length := Nat.mod_lt _ (by omega)
  refine no_kink h hlt ?_ hb
  unfold ahead
  by_cases e : k + (j + 1) < l.length
  · rw [Nat.mod_eq_of_lt e, if_neg (by omega)]
    rw [Nat.mod_eq_of_lt (by omega)] at ha
    rw [← ha]
    congr 1
  · by_cases e2 : k + (j + 1) = l.length
    · rw [e2, Nat.mod_self, if_pos rfl]
      rw [Nat.mod_eq_of_lt (by omega)] at ha
      rw [← ha]
      congr 1
      omega
    · rw [Nat.mod_eq_sub_mod (by omega), Nat.mod_eq_of_lt (by omega), if_neg (by omega)]
      rw [Nat.mod_eq_sub_mod (by omega), Nat.mod_eq_of_lt (by omega)] at ha
      rw [← ha]
      congr 1
      omega
theorem kink_rot {l : List D} {k : Nat} (h : kinkAt l = none) (hk : k < l.length) : kinkAt (rot l k) = none := by
  refine find_range_none fun i hi => ?_
  rw [rot_len] at hi
  obtain ⟨b, hb⟩ : ∃ b, (rot l k)[i]? = some b := ⟨_, List.getElem?_eq_getElem (by rw [rot_len]; exact hi)⟩
  obtain ⟨a, ha⟩ := ahead_some (l := rot l k) (i := i) (by rw [rot_len]; exact hi)
  unfold kinkP
  rw [hb, ha]
  have ne : b ≠ a.opp := by
    unfold ahead at ha
    by_cases h0 : i = 0
    · subst h0
      rw [if_pos rfl, rot_len, rot_at hk (by omega)] at ha
      rw [rot_at hk hi, Nat.add_zero, Nat.mod_eq_of_lt hk] at hb
      refine no_kink h hk ?_ hb
      unfold ahead
      by_cases hk0 : k = 0
      · subst hk0
        rw [if_pos rfl, ← ha, Nat.zero_add, Nat.mod_eq_of_lt (by omega)]
      · rw [if_neg hk0, ← ha, Nat.mod_eq_sub_mod (by omega), Nat.mod_eq_of_lt (by omega)]
        congr 1
        omega
    · rw [if_neg h0] at ha
      obtain ⟨j, rfl⟩ : ∃ j, i = j + 1 := ⟨i - 1, by omega⟩
      exact rot_next h hk hi ha hb
  exact decide_eq_false fun z => ne (Option.some.inj z)
theorem kink_norm {l : List D} (h : kinkAt l = none) (hl : 0 < l.length) : kinkAt (norm l) = none := kink_rot h (by have := bestUp_le l (l.length - 1); unfold leastB; omega)
theorem ltT_irrefl (a : List D) : ltT a a = false := by
  unfold ltT
  exact decide_eq_false (List.lt_irrefl _)
/-- not less, and less: not less -/
theorem ltT_trans {a b c : List D} (h1 : ltT a b = false) (h2 : ltT c b = true) : ltT a c = false := by
  unfold ltT at *
  have h1 := of_decide_eq_false h1
  have h2 := of_decide_eq_true h2
  exact decide_eq_false fun z => h1 (List.lt_trans z h2)
theorem bestUp_least (l : List D) : ∀ n j, j ≤ n → ltT (rot l j) (rot l (bestUp l n)) = false
  | 0, j, h => by
    obtain rfl : j = 0 := by omega
    exact ltT_irrefl _
  | n + 1, j, h => by
    unfold bestUp
    by_cases c : ltT (rot l (n + 1)) (rot l (bestUp l n)) = true
    · rw [if_pos c]
      by_cases e : j = n + 1
      · rw [e]; exact ltT_irrefl _
      · exact ltT_trans (bestUp_least l n j (by omega)) c
    · rw [if_neg c]
      by_cases e : j = n + 1
      · rw [e]; exact Bool.eq_false_iff.mpr c
      · exact bestUp_least l n j (by omega)
theorem rot_rot {l : List D} {k j : Nat} (hk : k < l.length) (hj : j < l.length) : rot (rot l k) j = rot l ((k + j) % l.length) := by
  apply List.ext_getElem?
  intro i
  by_cases hi : i < l.length
  · rw [rot_at (l := rot l k) (by rw [rot_len]; exact hj) (by rw [rot_len]; exact hi), rot_len, rot_at hk (Nat.mod_lt _ (by omega)), rot_at (Nat.mod_lt _ (by omega)) hi]
    congr 1
    rw [Nat.add_mod_mod, Nat.mod_add_mod, Nat.add_assoc]
  · rw [List.getElem?_eq_none (by rw [rot_len, rot_len]; omega), List.getElem?_eq_none (by rw [rot_len]; omega)]
theorem leastB_lt {l : List D} (h : 0 < l.length) : leastB l < l.length := by
  have := bestUp_le l (l.length - 1)
  unfold leastB
  omega
theorem norm_norm {l : List D} (h : 0 < l.length) : norm (norm l) = norm l := by
  have h0 : ∀ n, n < l.length → bestUp (norm l) n = 0 := by
    intro n
    induction n with
    | zero => intro _; rfl
    | succ n ih =>
      intro hn
      unfold bestUp
      rw [ih (by omega), rot_zero]
      have e : rot (norm l) (n + 1) = rot l ((leastB l + (n + 1)) % l.length) := rot_rot (leastB_lt h) hn
      rw [e]
      have lt : (leastB l + (n + 1)) % l.length < l.length := Nat.mod_lt _ h
      have z := bestUp_least l (l.length - 1) ((leastB l + (n + 1)) % l.length) (by omega)
      exact if_neg (by
        have z2 : ltT (rot l ((leastB l + (n + 1)) % l.length)) (norm l) = false := z
        rw [z2]
        exact Bool.false_ne_true)
  show rot (norm l) (leastB (norm l)) = norm l
  unfold leastB
  rw [norm_len, h0 _ (by omega), rot_zero]
theorem count_rot (l : List D) (k : Nat) (a : D) : (rot l k).count a = l.count a := by
  unfold rot
  rw [List.count_append, Nat.add_comm, ← List.count_append, List.take_append_drop]

/-- which places a text stays the same at -/
def pers (l : List D) : List Nat := ((List.range l.length).filterMap fun i => if rot l (i + 1) = l then some (i + 1) else none)
theorem rot_full (l : List D) : rot l l.length = l := by
  unfold rot
  rw [List.drop_length, List.take_length, List.nil_append]
theorem rot_inj {k : Nat} {a b : List D} (ha : a.length = b.length) (e : rot a k = rot b k) : a = b := by
  unfold rot at e
  have h1 : (a.drop k).length = (b.drop k).length := by rw [List.length_drop, List.length_drop, ha]
  obtain ⟨e1, e2⟩ := List.append_inj e h1
  rw [← List.take_append_drop k a, ← List.take_append_drop k b, e1, e2]
theorem rot_comm {l : List D} {j k : Nat} (hj : j < l.length) (hk : k ≤ l.length) : rot (rot l j) k = rot (rot l k) j := by
  by_cases e : k = l.length
  · subst e
    have h2 := rot_full (rot l j)
    rw [rot_len] at h2
    rw [h2, rot_full]
  · have hk' : k < l.length := by omega
    rw [rot_rot hj hk', rot_rot hk' hj, Nat.add_comm]
theorem fmap_congr {α β : Type} {f g : α → Option β} : ∀ {l : List α}, (∀ x ∈ l, f x = g x) → l.filterMap f = l.filterMap g
  | [], _ => rfl
  | x :: r, h => by
    rw [List.filterMap_cons, List.filterMap_cons, h x List.mem_cons_self, fmap_congr fun y hy => h y (List.mem_cons_of_mem _ hy)]
theorem pers_rot {l : List D} {j : Nat} (hj : j < l.length) : pers (rot l j) = pers l := by
  unfold pers
  rw [rot_len]
  refine fmap_congr fun i hi => ?_
  have hi := List.mem_range.mp hi
  have e : (rot (rot l j) (i + 1) = rot l j) ↔ (rot l (i + 1) = l) := by
    rw [rot_comm hj (by omega)]
    exact ⟨fun z => rot_inj (rot_len _ _) z, fun z => by rw [z]⟩
  by_cases c : rot l (i + 1) = l
  · rw [if_pos c, if_pos (e.mpr c)]
  · rw [if_neg c, if_neg fun z => c (e.mp z)]
theorem pers_norm {l : List D} (h : 0 < l.length) : pers (norm l) = pers l := pers_rot (leastB_lt h)
theorem pers_some {l : List D} (h : 0 < l.length) : ∃ p, (pers l)[0]? = some p ∧ p ≤ l.length := by
  have m : l.length ∈ pers l := by
    unfold pers
    refine List.mem_filterMap.mpr ⟨l.length - 1, List.mem_range.mpr (by omega), ?_⟩
    have e : l.length - 1 + 1 = l.length := by omega
    rw [e, if_pos (rot_full l)]
  cases hp : pers l with
  | nil => rw [hp] at m; cases m
  | cons p r =>
    refine ⟨p, rfl, ?_⟩
    have hm : p ∈ pers l := by rw [hp]; exact List.mem_cons_self
    obtain ⟨i, hi, e⟩ := List.mem_filterMap.mp hm
    have := List.mem_range.mp hi
    split at e
    · injection e with e
      omega
    · cases e
end Kk

end KkRot_text
section K51Pd_text
set_option Elab.async false
set_option linter.all false
set_option maxRecDepth 100000
set_option maxHeartbeats 4000000
/-! k51: what is computed, in plain Lean -/
namespace K51
open PySem PySem.Spec PyProof.Rows L2 Kk
/-- a text of a line, whatever its beginning -/
structure Good (l : List D) : Prop where
  ne : l ≠ []
  le : l.length ≤ 80
  kink : kinkAt l = none
  x : endX l = 0
  y : endY l = 0
/-- one step at a height -/
def stpX (h : Int) : Int := if h % 4 = 0 then 1 else if h % 4 = 2 then -1 else 0
def stpY (h : Int) : Int := if h % 4 = 1 then 1 else if h % 4 = 3 then -1 else 0
def hB (h : Int) (a : D) : Int := h + ((a.hd : Nat) - h + 1) % 4 - 1
/-- in how many ways n strokes lead back from there -/
def Wy (g : Int) : Nat → Int → Int → Int → Int
  | 0, x, y, h => if (x.natAbs + y.natAbs : Nat) > 0 ∨ (g - h).natAbs > 1 then 0 else 1
  | n + 1, x, y, h => if (x.natAbs + y.natAbs : Nat) > n + 1 ∨ (g - h).natAbs > n + 2 then 0 else
      Wy g n (x + stpX (h + -1)) (y + stpY (h + -1)) (h + -1) + Wy g n (x + stpX (h + 0)) (y + stpY (h + 0)) (h + 0) + Wy g n (x + stpX (h + 1)) (y + stpY (h + 1)) (h + 1)
/-- the letters that may follow, in the alphabet's order -/
def nextL (a : D) : List D := [D.E, D.N, D.S, D.W].filter fun d => decide ((((d.hd : Nat) : Int) - (a.hd : Nat)) % 4 ≠ 2)
/-! ### how many lines, in plain Lean -/
/-- how many loop texts -/
def tW (s : Nat) (t : Int) : Int := 4 * Wy (4 * t) (s - 1) 1 0 0
def ownUp (s : Nat) (t : Int) : Nat → Int
  | 0 => tW s t
  | n + 1 => if s % (n + 2) = 0 ∧ t % ((n + 2 : Nat) : Int) = 0 then ownUp s t n - tW (s / (n + 2)) (t / ((n + 2 : Nat) : Int)) else ownUp s t n
/-- how many have as many strokes as their period -/
def ownT (s : Nat) (t : Int) : Int := ownUp s t (s / 4 - 1)
theorem own_small {s : Nat} {t : Int} (h : s < 8) : ownT s t = tW s t := by
  unfold ownT
  have e : s / 4 - 1 = 0 := by omega
  rw [e]
  rfl
/-- which numbers divide both -/
def mults (s : Nat) (t : Int) (n : Nat) : List Nat := (List.range n).filterMap fun i => if s % (i + 1) = 0 ∧ t % ((i + 1 : Nat) : Int) = 0 then some (i + 1) else none
/-- how many lines -/
def linesW (s : Nat) (t : Int) : Int := ((mults s t (s / 4)).map fun m => ownT (s / m) (t / ((m : Nat) : Int)) * ((m : Nat) : Int) / ((s : Nat) : Int)).sum
def cntL (s : Nat) (t : Int) : Int := if t.natAbs ≤ s then linesW s t else 0
/-- the loop texts that go on from l, a -/
def onL (g : Int) : Nat → List D → D → Int → Int → Int → List (List D)
  | 0, l, a, _, _, _ => [l ++ [a]]
  | n + 1, l, a, x, y, h => (nextL a).flatMap fun d => if 0 < Wy g n (x + stpX (hB h d)) (y + stpY (hB h d)) (hB h d) then onL g n (l ++ [a]) d (x + stpX (hB h d)) (y + stpY (hB h d)) (hB h d) else []
/-- the lines, each by its text -/
def linesL (s : Nat) (t : Int) : List (List D) := if t.natAbs ≤ s then (onL (4 * t) (s - 1) [] D.E 1 0 0).filter fun l => decide (leastB l = 0) else []
/-- closed, no kink, more than three strokes -/
def isLoop (l : List D) : Bool := decide (3 < l.length) && (decide (kinkAt l = none) && (decide (endX l = 0 ∧ endY l = 0)))
/-- how the law has the pen turn from a stroke to the next one -/
def ltn (a b : D) : Int := match (((b.hd : Nat) : Int) - (a.hd : Nat)) % 4 with
  | 1 => 1
  | 3 => -1
  | _ => 0
def ltnAt (l : List D) (i : Nat) : Int := match ahead l i, l[i]? with
  | some a, some b => ltn a b
  | _, _ => 0
def ltnUp (l : List D) : Nat → Int
  | 0 => 0
  | n + 1 => ltnUp l n + ltnAt l n
def lturns (l : List D) : Int := ltnUp l l.length / 4
/-- a row and one letter more -/
def stepRow (n : Nat) (row : List D) (d : D) : List (List D) := match row.getLast? with
  | some a => if d ≠ a.opp ∧ (endX (row ++ [d])).natAbs + (endY (row ++ [d])).natAbs + row.length < n then [row ++ [d]] else []
  | none => []
def rowsL (n : Nat) : Nat → List (List D)
  | 0 => [[.E], [.N], [.S], [.W]]
  | i + 1 => (rowsL n i).flatMap fun row => [D.E, .N, .S, .W].flatMap (stepRow n row)
def loopsL (n : Nat) : List (List D) := (rowsL n (n - 1)).filter isLoop
theorem flat_le {α β : Type} {k : Nat} {f : α → List β} (h : ∀ a, (f a).length ≤ k) : ∀ l : List α, (l.flatMap f).length ≤ k * l.length
  | [] => Nat.zero_le _
  | a :: r => by
    rw [List.flatMap_cons, List.length_append, List.length_cons, Nat.mul_succ]
    have := flat_le h r
    have := h a
    omega
theorem stepRow_le (n : Nat) (row : List D) (d : D) : (stepRow n row d).length ≤ 1 := by
  unfold stepRow
  split
  · split
    · exact Nat.le_refl _
    · exact Nat.zero_le _
  · exact Nat.zero_le _
theorem rows_le (n : Nat) : ∀ i, (rowsL n i).length ≤ 4 ^ (i + 1)
  | 0 => Nat.le_refl _
  | i + 1 => by
    have h := flat_le (k := 4) (f := fun row => [D.E, .N, .S, .W].flatMap (stepRow n row)) (fun row => Nat.le_trans (flat_le (k := 1) (fun d => stepRow_le n row d) _) (by show 1 * 4 ≤ 4; decide)) (rowsL n i)
    have := rows_le n i
    have e : (4 : Nat) ^ (i + 1 + 1) = 4 * 4 ^ (i + 1) := by rw [Nat.pow_succ, Nat.mul_comm]
    rw [e]
    exact Nat.le_trans h (Nat.mul_le_mul_left 4 this)
theorem rows_len (n : Nat) : ∀ i, ∀ row ∈ rowsL n i, row ≠ [] ∧ row.length = i + 1
  | 0, row, h => by
    simp only [rowsL, List.mem_cons, List.not_mem_nil, or_false] at h
    rcases h with rfl | rfl | rfl | rfl <;> exact ⟨by simp, rfl⟩
  | i + 1, row, h => by
    obtain ⟨r0, h0, h1⟩ := List.mem_flatMap.mp h
    obtain ⟨d, _, h2⟩ := List.mem_flatMap.mp h1
    have ih := rows_len n i r0 h0
    unfold stepRow at h2
    split at h2
    · split at h2
      · rw [List.mem_singleton.mp h2]
        exact ⟨by simp, by rw [List.length_append, ih.2]; rfl⟩
      · cases h2
    · cases h2
/-- what is to be known of a number of strokes, turns, and loop texts -/
structure CaseOK (s : Nat) (t : Int) (ts : List (List D)) : Prop where
  lo : 4 ≤ s
  hi : s ≤ 12
  ev : s % 2 = 0
  len : ∀ l ∈ ts, 1 ≤ l.length ∧ l.length ≤ 100
  few : ts.length ≤ 1048576
  cnt : cntL s t = (((ts.filter fun l => decide (l = norm l)).length : Nat) : Int)
  lines : linesL s t = ts.filter fun l => decide (l = norm l)
  small : (ts.filter fun l => decide (l = norm l)).length ≤ 500
  good : t.natAbs ≤ s → ∀ l ∈ onL (4 * t) (s - 1) [] D.E 1 0 0, Good l
/-! ### the plain law: the listed lines are the law's -/
def goodB (l : List D) : Bool := decide (l ≠ []) && (decide (l.length ≤ 80) && (decide (kinkAt l = none) && (decide (endX l = 0) && decide (endY l = 0))))
theorem goodB_ok {l : List D} (h : goodB l = true) : Good l := by
  unfold goodB at h
  simp only [Bool.and_eq_true, decide_eq_true_eq] at h
  exact ⟨h.1, h.2.1, h.2.2.1, h.2.2.2.1, h.2.2.2.2⟩
def tsOf (s : Nat) (t : Int) : List (List D) := (loopsL s).filter fun l => decide (lturns l = t)
theorem loops_len {s : Nat} (h : 4 ≤ s) : ∀ l ∈ loopsL s, l.length = s := fun l hl => by
  rw [(rows_len s (s - 1) l (List.mem_filter.mp hl).1).2]
  omega
theorem loops_few {s : Nat} (h : 4 ≤ s) (h10 : s ≤ 10) : (loopsL s).length ≤ 1048576 := by
  have h1 := List.length_filter_le isLoop (rowsL s (s - 1))
  have h2 := rows_le s (s - 1)
  have h3 : 4 ^ (s - 1 + 1) ≤ 4 ^ 10 := Nat.pow_le_pow_right (by decide) (by omega)
  have h4 : (4 : Nat) ^ 10 = 1048576 := rfl
  unfold loopsL
  omega
theorem case_of {s : Nat} {t : Int} {can on : List (List D)} (h4 : 4 ≤ s) (h10 : s ≤ 10) (ev : s % 2 = 0) (hc : ((loopsL s).filter fun l => decide (l = norm l)) = can) (ho : onL (4 * t) (s - 1) [] D.E 1 0 0 = on) (good : on.all goodB = true) (hs : t.natAbs ≤ s)
    (lines : (on.filter fun l => decide (leastB l = 0)) = can.filter fun l => decide (lturns l = t)) (small : (can.filter fun l => decide (lturns l = t)).length ≤ 500) (cnt : cntL s t = (((can.filter fun l => decide (lturns l = t)).length : Nat) : Int)) : CaseOK s t (tsOf s t) := by
  have ed : (tsOf s t).filter (fun l => decide (l = norm l)) = can.filter fun l => decide (lturns l = t) := by
    unfold tsOf
    rw [← hc, List.filter_filter, List.filter_filter]
    exact List.filter_congr fun x _ => Bool.and_comm _ _
  refine ⟨h4, by omega, ev, fun l hl => ?_, ?_, ?_, ?_, ?_, fun _ l hl => ?_⟩
  · have := loops_len h4 l (List.mem_filter.mp hl).1
    omega
  · have := loops_few h4 h10
    exact Nat.le_trans (List.length_filter_le _ _) this
  · rw [ed]
    exact cnt
  · rw [ed]
    unfold linesL
    rw [if_pos hs, ho]
    exact lines
  · rw [ed]
    exact small
  · rw [ho] at hl
    exact goodB_ok (List.all_eq_true.mp good l hl)
/-! ### the rows in parts -/
def rowsG (n : Nat) : Nat → List (List D) → List (List D)
  | 0, l => l
  | i + 1, l => rowsG n i (l.flatMap fun row => [D.E, .N, .S, .W].flatMap (stepRow n row))
theorem rowsG_app (n : Nat) : ∀ (i : Nat) (a b : List (List D)), rowsG n i (a ++ b) = rowsG n i a ++ rowsG n i b
  | 0, _, _ => rfl
  | i + 1, a, b => by
    show rowsG n i ((a ++ b).flatMap _) = _
    rw [List.flatMap_append, rowsG_app n i]
    rfl
theorem rowsG_succ (n : Nat) : ∀ (i : Nat) (l : List (List D)), rowsG n (i + 1) l = (rowsG n i l).flatMap fun row => [D.E, .N, .S, .W].flatMap (stepRow n row)
  | 0, _ => rfl
  | i + 1, l => rowsG_succ n i _
theorem rowsL_G (n : Nat) : ∀ i, rowsL n i = rowsG n i [[.E], [.N], [.S], [.W]]
  | 0 => rfl
  | i + 1 => by
    rw [rowsG_succ, ← rowsL_G n i]
    rfl
/-- the least texts of the loops that begin with a letter -/
def canG (s : Nat) (a : D) : List (List D) := ((rowsG s (s - 1) [[a]]).filter isLoop).filter fun l => decide (l = norm l)
theorem can_of {s : Nat} {a b c d : List (List D)} (h1 : canG s .E = a) (h2 : canG s .N = b) (h3 : canG s .S = c) (h4 : canG s .W = d) : ((loopsL s).filter fun l => decide (l = norm l)) = a ++ (b ++ (c ++ d)) := by
  unfold loopsL
  rw [rowsL_G]
  have e : ([[.E], [.N], [.S], [.W]] : List (List D)) = [[.E]] ++ ([[.N]] ++ ([[.S]] ++ [[.W]])) := rfl
  rw [e, rowsG_app, rowsG_app, rowsG_app, List.filter_append, List.filter_append, List.filter_append, List.filter_append, List.filter_append, List.filter_append, ← h1, ← h2, ← h3, ← h4]
  rfl
end K51

end K51Pd_text
section K51Cq_text
set_option Elab.async false
set_option linter.all false
set_option maxRecDepth 100000
set_option maxHeartbeats 4000000
namespace K51
open PySem PySem.Spec PyProof.Rows L2 Kk
def can4 : List (List D) := [[.E, .N, .W, .S], [.E, .S, .W, .N]]
theorem can4_E : canG 4 .E = [[.E, .N, .W, .S], [.E, .S, .W, .N]] := by decide +kernel
theorem can4_N : canG 4 .N = [] := by decide +kernel
theorem can4_S : canG 4 .S = [] := by decide +kernel
theorem can4_W : canG 4 .W = [] := by decide +kernel
theorem can4_ok : ((loopsL 4).filter fun l => decide (l = norm l)) = can4 := can_of can4_E can4_N can4_S can4_W
def on4_0 : List (List D) := []
theorem on4_0_ok : onL (4 * (0)) (4 - 1) [] D.E 1 0 0 = on4_0 := by decide +kernel
theorem case4_0 : CaseOK 4 (0) (tsOf 4 (0)) := case_of (by decide) (by decide) (by decide) can4_ok on4_0_ok (by decide +kernel) (by decide) (by decide +kernel) (by decide +kernel) (by decide +kernel)
def on4_1 : List (List D) := [[.E, .N, .W, .S]]
theorem on4_1_ok : onL (4 * (1)) (4 - 1) [] D.E 1 0 0 = on4_1 := by decide +kernel
theorem case4_1 : CaseOK 4 (1) (tsOf 4 (1)) := case_of (by decide) (by decide) (by decide) can4_ok on4_1_ok (by decide +kernel) (by decide) (by decide +kernel) (by decide +kernel) (by decide +kernel)
def on4_m1 : List (List D) := [[.E, .S, .W, .N]]
theorem on4_m1_ok : onL (4 * (-1)) (4 - 1) [] D.E 1 0 0 = on4_m1 := by decide +kernel
theorem case4_m1 : CaseOK 4 (-1) (tsOf 4 (-1)) := case_of (by decide) (by decide) (by decide) can4_ok on4_m1_ok (by decide +kernel) (by decide) (by decide +kernel) (by decide +kernel) (by decide +kernel)
def on4_2 : List (List D) := []
theorem on4_2_ok : onL (4 * (2)) (4 - 1) [] D.E 1 0 0 = on4_2 := by decide +kernel
theorem case4_2 : CaseOK 4 (2) (tsOf 4 (2)) := case_of (by decide) (by decide) (by decide) can4_ok on4_2_ok (by decide +kernel) (by decide) (by decide +kernel) (by decide +kernel) (by decide +kernel)
def can6 : List (List D) := [[.E, .E, .N, .W, .W, .S], [.E, .E, .S, .W, .W, .N], [.E, .N, .N, .W, .S, .S], [.E, .S, .S, .W, .N, .N]]
theorem can6_E : canG 6 .E = [[.E, .E, .N, .W, .W, .S], [.E, .E, .S, .W, .W, .N], [.E, .N, .N, .W, .S, .S], [.E, .S, .S, .W, .N, .N]] := by decide +kernel
theorem can6_N : canG 6 .N = [] := by decide +kernel
theorem can6_S : canG 6 .S = [] := by decide +kernel
theorem can6_W : canG 6 .W = [] := by decide +kernel
theorem can6_ok : ((loopsL 6).filter fun l => decide (l = norm l)) = can6 := can_of can6_E can6_N can6_S can6_W
def on6_0 : List (List D) := []
theorem on6_0_ok : onL (4 * (0)) (6 - 1) [] D.E 1 0 0 = on6_0 := by decide +kernel
theorem case6_0 : CaseOK 6 (0) (tsOf 6 (0)) := case_of (by decide) (by decide) (by decide) can6_ok on6_0_ok (by decide +kernel) (by decide) (by decide +kernel) (by decide +kernel) (by decide +kernel)
def on6_1 : List (List D) := [[.E, .E, .N, .W, .W, .S], [.E, .N, .N, .W, .S, .S], [.E, .N, .W, .W, .S, .E]]
theorem on6_1_ok : onL (4 * (1)) (6 - 1) [] D.E 1 0 0 = on6_1 := by decide +kernel
theorem case6_1 : CaseOK 6 (1) (tsOf 6 (1)) := case_of (by decide) (by decide) (by decide) can6_ok on6_1_ok (by decide +kernel) (by decide) (by decide +kernel) (by decide +kernel) (by decide +kernel)
def on6_m1 : List (List D) := [[.E, .E, .S, .W, .W, .N], [.E, .S, .S, .W, .N, .N], [.E, .S, .W, .W, .N, .E]]
theorem on6_m1_ok : onL (4 * (-1)) (6 - 1) [] D.E 1 0 0 = on6_m1 := by decide +kernel
theorem case6_m1 : CaseOK 6 (-1) (tsOf 6 (-1)) := case_of (by decide) (by decide) (by decide) can6_ok on6_m1_ok (by decide +kernel) (by decide) (by decide +kernel) (by decide +kernel) (by decide +kernel)
def on6_2 : List (List D) := []
theorem on6_2_ok : onL (4 * (2)) (6 - 1) [] D.E 1 0 0 = on6_2 := by decide +kernel
theorem case6_2 : CaseOK 6 (2) (tsOf 6 (2)) := case_of (by decide) (by decide) (by decide) can6_ok on6_2_ok (by decide +kernel) (by decide) (by decide +kernel) (by decide +kernel) (by decide +kernel)
def can8 : List (List D) := [[.E, .E, .E, .N, .W, .W, .W, .S], [.E, .E, .E, .S, .W, .W, .W, .N], [.E, .E, .N, .N, .W, .S, .W, .S], [.E, .E, .N, .N, .W, .W, .S, .S], [.E, .E, .N, .W, .N, .W, .S, .S], [.E, .E, .N, .W, .S, .S, .W, .N], [.E, .E, .S, .S, .W, .N, .W, .N], [.E, .E, .S, .S, .W, .W, .N, .N], [.E, .E, .S, .W, .N, .N, .W, .S], [.E, .E, .S, .W, .S, .W, .N, .N], [.E, .N, .E, .N, .W, .S, .W, .S], [.E, .N, .E, .N, .W, .W, .S, .S], [.E, .N, .E, .S, .S, .W, .W, .N], [.E, .N, .E, .S, .W, .N, .W, .S], [.E, .N, .E, .S, .W, .S, .W, .N], [.E, .N, .N, .E, .S, .W, .W, .S], [.E, .N, .N, .N, .W, .S, .S, .S], [.E, .N, .N, .W, .W, .S, .E, .S], [.E, .N, .W, .N, .E, .S, .W, .S], [.E, .N, .W, .N, .W, .S, .E, .S], [.E, .N, .W, .S, .E, .N, .W, .S], [.E, .N, .W, .S, .E, .S, .W, .N], [.E, .N, .W, .S, .W, .N, .E, .S], [.E, .N, .W, .W, .N, .E, .S, .S], [.E, .S, .E, .S, .W, .N, .W, .N], [.E, .S, .E, .S, .W, .W, .N, .N], [.E, .S, .S, .S, .W, .N, .N, .N], [.E, .S, .W, .N, .E, .S, .W, .N]]
theorem can8_E : canG 8 .E = [[.E, .E, .E, .N, .W, .W, .W, .S], [.E, .E, .E, .S, .W, .W, .W, .N], [.E, .E, .N, .N, .W, .S, .W, .S], [.E, .E, .N, .N, .W, .W, .S, .S], [.E, .E, .N, .W, .N, .W, .S, .S], [.E, .E, .N, .W, .S, .S, .W, .N], [.E, .E, .S, .S, .W, .N, .W, .N], [.E, .E, .S, .S, .W, .W, .N, .N], [.E, .E, .S, .W, .N, .N, .W, .S], [.E, .E, .S, .W, .S, .W, .N, .N], [.E, .N, .E, .N, .W, .S, .W, .S], [.E, .N, .E, .N, .W, .W, .S, .S], [.E, .N, .E, .S, .S, .W, .W, .N], [.E, .N, .E, .S, .W, .N, .W, .S], [.E, .N, .E, .S, .W, .S, .W, .N], [.E, .N, .N, .E, .S, .W, .W, .S], [.E, .N, .N, .N, .W, .S, .S, .S], [.E, .N, .N, .W, .W, .S, .E, .S], [.E, .N, .W, .N, .E, .S, .W, .S], [.E, .N, .W, .N, .W, .S, .E, .S], [.E, .N, .W, .S, .E, .N, .W, .S], [.E, .N, .W, .S, .E, .S, .W, .N], [.E, .N, .W, .S, .W, .N, .E, .S], [.E, .N, .W, .W, .N, .E, .S, .S], [.E, .S, .E, .S, .W, .N, .W, .N], [.E, .S, .E, .S, .W, .W, .N, .N], [.E, .S, .S, .S, .W, .N, .N, .N], [.E, .S, .W, .N, .E, .S, .W, .N]] := by decide +kernel
theorem can8_N : canG 8 .N = [] := by decide +kernel
theorem can8_S : canG 8 .S = [] := by decide +kernel
theorem can8_W : canG 8 .W = [] := by decide +kernel
theorem can8_ok : ((loopsL 8).filter fun l => decide (l = norm l)) = can8 := can_of can8_E can8_N can8_S can8_W
def on8_0 : List (List D) := [[.E, .E, .N, .W, .S, .S, .W, .N], [.E, .E, .S, .W, .N, .N, .W, .S], [.E, .N, .E, .S, .W, .N, .W, .S], [.E, .N, .N, .E, .S, .W, .W, .S], [.E, .N, .W, .N, .E, .S, .W, .S], [.E, .N, .W, .S, .E, .S, .W, .N], [.E, .N, .W, .S, .S, .W, .N, .E], [.E, .N, .W, .S, .W, .N, .E, .S], [.E, .N, .W, .W, .N, .E, .S, .S], [.E, .S, .E, .N, .W, .S, .W, .N], [.E, .S, .S, .E, .N, .W, .W, .N], [.E, .S, .W, .N, .E, .N, .W, .S], [.E, .S, .W, .N, .N, .W, .S, .E], [.E, .S, .W, .N, .W, .S, .E, .N], [.E, .S, .W, .S, .E, .N, .W, .N], [.E, .S, .W, .W, .S, .E, .N, .N]]
theorem on8_0_ok : onL (4 * (0)) (8 - 1) [] D.E 1 0 0 = on8_0 := by decide +kernel
theorem case8_0 : CaseOK 8 (0) (tsOf 8 (0)) := case_of (by decide) (by decide) (by decide) can8_ok on8_0_ok (by decide +kernel) (by decide) (by decide +kernel) (by decide +kernel) (by decide +kernel)
def on8_1 : List (List D) := [[.E, .E, .E, .N, .W, .W, .W, .S], [.E, .E, .N, .N, .W, .S, .W, .S], [.E, .E, .N, .N, .W, .W, .S, .S], [.E, .E, .N, .W, .N, .W, .S, .S], [.E, .E, .N, .W, .W, .W, .S, .E], [.E, .N, .E, .N, .W, .S, .W, .S], [.E, .N, .E, .N, .W, .W, .S, .S], [.E, .N, .N, .N, .W, .S, .S, .S], [.E, .N, .N, .W, .S, .W, .S, .E], [.E, .N, .N, .W, .W, .S, .E, .S], [.E, .N, .N, .W, .W, .S, .S, .E], [.E, .N, .W, .N, .W, .S, .E, .S], [.E, .N, .W, .N, .W, .S, .S, .E], [.E, .N, .W, .S, .W, .S, .E, .N], [.E, .N, .W, .W, .S, .S, .E, .N], [.E, .N, .W, .W, .W, .S, .E, .E], [.E, .S, .E, .N, .N, .W, .W, .S], [.E, .S, .E, .N, .W, .N, .W, .S]]
theorem on8_1_ok : onL (4 * (1)) (8 - 1) [] D.E 1 0 0 = on8_1 := by decide +kernel
theorem case8_1 : CaseOK 8 (1) (tsOf 8 (1)) := case_of (by decide) (by decide) (by decide) can8_ok on8_1_ok (by decide +kernel) (by decide) (by decide +kernel) (by decide +kernel) (by decide +kernel)
def on8_m1 : List (List D) := [[.E, .E, .E, .S, .W, .W, .W, .N], [.E, .E, .S, .S, .W, .N, .W, .N], [.E, .E, .S, .S, .W, .W, .N, .N], [.E, .E, .S, .W, .S, .W, .N, .N], [.E, .E, .S, .W, .W, .W, .N, .E], [.E, .N, .E, .S, .S, .W, .W, .N], [.E, .N, .E, .S, .W, .S, .W, .N], [.E, .S, .E, .S, .W, .N, .W, .N], [.E, .S, .E, .S, .W, .W, .N, .N], [.E, .S, .S, .S, .W, .N, .N, .N], [.E, .S, .S, .W, .N, .W, .N, .E], [.E, .S, .S, .W, .W, .N, .E, .N], [.E, .S, .S, .W, .W, .N, .N, .E], [.E, .S, .W, .N, .W, .N, .E, .S], [.E, .S, .W, .S, .W, .N, .E, .N], [.E, .S, .W, .S, .W, .N, .N, .E], [.E, .S, .W, .W, .N, .N, .E, .S], [.E, .S, .W, .W, .W, .N, .E, .E]]
theorem on8_m1_ok : onL (4 * (-1)) (8 - 1) [] D.E 1 0 0 = on8_m1 := by decide +kernel
theorem case8_m1 : CaseOK 8 (-1) (tsOf 8 (-1)) := case_of (by decide) (by decide) (by decide) can8_ok on8_m1_ok (by decide +kernel) (by decide) (by decide +kernel) (by decide +kernel) (by decide +kernel)
def on8_2 : List (List D) := [[.E, .N, .W, .S, .E, .N, .W, .S]]
theorem on8_2_ok : onL (4 * (2)) (8 - 1) [] D.E 1 0 0 = on8_2 := by decide +kernel
theorem case8_2 : CaseOK 8 (2) (tsOf 8 (2)) := case_of (by decide) (by decide) (by decide) can8_ok on8_2_ok (by decide +kernel) (by decide) (by decide +kernel) (by decide +kernel) (by decide +kernel)
def can10 : List (List D) := [[.E, .E, .E, .E, .N, .W, .W, .W, .W, .S], [.E, .E, .E, .E, .S, .W, .W, .W, .W, .N], [.E, .E, .E, .N, .N, .W, .S, .W, .W, .S], [.E, .E, .E, .N, .N, .W, .W, .S, .W, .S], [.E, .E, .E, .N, .N, .W, .W, .W, .S, .S], [.E, .E, .E, .N, .W, .N, .W, .S, .W, .S], [.E, .E, .E, .N, .W, .N, .W, .W, .S, .S], [.E, .E, .E, .N, .W, .S, .S, .W, .W, .N], [.E, .E, .E, .N, .W, .S, .W, .N, .W, .S], [.E, .E, .E, .N, .W, .S, .W, .S, .W, .N], [.E, .E, .E, .N, .W, .W, .N, .W, .S, .S], [.E, .E, .E, .N, .W, .W, .S, .S, .W, .N], [.E, .E, .E, .S, .S, .W, .N, .W, .W, .N], [.E, .E, .E, .S, .S, .W, .W, .N, .W, .N], [.E, .E, .E, .S, .S, .W, .W, .W, .N, .N], [.E, .E, .E, .S, .W, .N, .N, .W, .W, .S], [.E, .E, .E, .S, .W, .N, .W, .N, .W, .S], [.E, .E, .E, .S, .W, .N, .W, .S, .W, .N], [.E, .E, .E, .S, .W, .S, .W, .N, .W, .N], [.E, .E, .E, .S, .W, .S, .W, .W, .N, .N], [.E, .E, .E, .S, .W, .W, .N, .N, .W, .S], [.E, .E, .E, .S, .W, .W, .S, .W, .N, .N], [.E, .E, .N, .E, .N, .W, .S, .W, .W, .S], [.E, .E, .N, .E, .N, .W, .W, .S, .W, .S], [.E, .E, .N, .E, .N, .W, .W, .W, .S, .S], [.E, .E, .N, .E, .S, .S, .W, .W, .W, .N], [.E, .E, .N, .E, .S, .W, .N, .W, .W, .S], [.E, .E, .N, .E, .S, .W, .S, .W, .W, .N], [.E, .E, .N, .E, .S, .W, .W, .N, .W, .S], [.E, .E, .N, .E, .S, .W, .W, .S, .W, .N], [.E, .E, .N, .N, .E, .S, .W, .W, .W, .S], [.E, .E, .N, .N, .N, .W, .S, .S, .W, .S], [.E, .E, .N, .N, .N, .W, .S, .W, .S, .S], [.E, .E, .N, .N, .N, .W, .W, .S, .S, .S], [.E, .E, .N, .N, .W, .N, .W, .S, .S, .S], [.E, .E, .N, .N, .W, .S, .S, .S, .W, .N], [.E, .E, .N, .N, .W, .W, .W, .S, .E, .S], [.E, .E, .N, .W, .N, .E, .S, .W, .W, .S], [.E, .E, .N, .W, .N, .N, .W, .S, .S, .S], [.E, .E, .N, .W, .N, .W, .W, .S, .E, .S], [.E, .E, .N, .W, .S, .E, .N, .W, .W, .S], [.E, .E, .N, .W, .S, .E, .S, .W, .W, .N], [.E, .E, .N, .W, .S, .S, .S, .W, .N, .N], [.E, .E, .N, .W, .S, .W, .W, .N, .E, .S], [.E, .E, .N, .W, .S, .W, .W, .S, .E, .N], [.E, .E, .N, .W, .W, .N, .E, .S, .W, .S], [.E, .E, .N, .W, .W, .N, .W, .S, .E, .S], [.E, .E, .N, .W, .W, .S, .E, .N, .W, .S], [.E, .E, .N, .W, .W, .S, .E, .S, .W, .N], [.E, .E, .N, .W, .W, .S, .W, .N, .E, .S], [.E, .E, .N, .W, .W, .S, .W, .S, .E, .N], [.E, .E, .N, .W, .W, .W, .N, .E, .S, .S], [.E, .E, .N, .W, .W, .W, .S, .S, .E, .N], [.E, .E, .S, .E, .N, .N, .W, .W, .W, .S], [.E, .E, .S, .E, .N, .W, .N, .W, .W, .S], [.E, .E, .S, .E, .N, .W, .S, .W, .W, .N], [.E, .E, .S, .E, .N, .W, .W, .N, .W, .S], [.E, .E, .S, .E, .N, .W, .W, .S, .W, .N], [.E, .E, .S, .E, .S, .W, .N, .W, .W, .N], [.E, .E, .S, .E, .S, .W, .W, .N, .W, .N], [.E, .E, .S, .E, .S, .W, .W, .W, .N, .N], [.E, .E, .S, .S, .E, .N, .W, .W, .W, .N], [.E, .E, .S, .S, .S, .W, .N, .N, .W, .N], [.E, .E, .S, .S, .S, .W, .N, .W, .N, .N], [.E, .E, .S, .S, .S, .W, .W, .N, .N, .N], [.E, .E, .S, .S, .W, .N, .N, .N, .W, .S], [.E, .E, .S, .S, .W, .S, .W, .N, .N, .N], [.E, .E, .S, .S, .W, .W, .W, .N, .E, .N], [.E, .E, .S, .W, .N, .E, .N, .W, .W, .S], [.E, .E, .S, .W, .N, .E, .S, .W, .W, .N], [.E, .E, .S, .W, .N, .N, .N, .W, .S, .S], [.E, .E, .S, .W, .N, .W, .W, .N, .E, .S], [.E, .E, .S, .W, .N, .W, .W, .S, .E, .N], [.E, .E, .S, .W, .S, .E, .N, .W, .W, .N], [.E, .E, .S, .W, .S, .S, .W, .N, .N, .N], [.E, .E, .S, .W, .S, .W, .W, .N, .E, .N], [.E, .E, .S, .W, .W, .N, .E, .N, .W, .S], [.E, .E, .S, .W, .W, .N, .E, .S, .W, .N], [.E, .E, .S, .W, .W, .N, .W, .N, .E, .S], [.E, .E, .S, .W, .W, .N, .W, .S, .E, .N], [.E, .E, .S, .W, .W, .S, .E, .N, .W, .N], [.E, .E, .S, .W, .W, .S, .W, .N, .E, .N], [.E, .E, .S, .W, .W, .W, .N, .N, .E, .S], [.E, .E, .S, .W, .W, .W, .S, .E, .N, .N], [.E, .N, .E, .N, .E, .S, .W, .W, .W, .S], [.E, .N, .E, .N, .N, .W, .S, .S, .W, .S], [.E, .N, .E, .N, .N, .W, .S, .W, .S, .S], [.E, .N, .E, .N, .N, .W, .W, .S, .S, .S], [.E, .N, .E, .N, .W, .N, .W, .S, .S, .S], [.E, .N, .E, .N, .W, .S, .S, .S, .W, .N], [.E, .N, .E, .N, .W, .W, .W, .S, .E, .S], [.E, .N, .E, .S, .E, .N, .W, .W, .W, .S], [.E, .N, .E, .S, .E, .S, .W, .W, .W, .N], [.E, .N, .E, .S, .S, .S, .W, .N, .W, .N], [.E, .N, .E, .S, .S, .S, .W, .W, .N, .N], [.E, .N, .E, .S, .S, .W, .N, .N, .W, .S], [.E, .N, .E, .S, .S, .W, .S, .W, .N, .N], [.E, .N, .E, .S, .W, .N, .N, .W, .S, .S], [.E, .N, .E, .S, .W, .S, .S, .W, .N, .N], [.E, .N, .E, .S, .W, .W, .W, .N, .E, .S], [.E, .N, .N, .E, .N, .W, .S, .S, .W, .S], [.E, .N, .N, .E, .N, .W, .S, .W, .S, .S], [.E, .N, .N, .E, .N, .W, .W, .S, .S, .S], [.E, .N, .N, .E, .S, .S, .S, .W, .W, .N], [.E, .N, .N, .E, .S, .S, .W, .N, .W, .S], [.E, .N, .N, .E, .S, .S, .W, .S, .W, .N], [.E, .N, .N, .E, .S, .W, .N, .W, .S, .S], [.E, .N, .N, .E, .S, .W, .S, .S, .W, .N], [.E, .N, .N, .N, .E, .S, .S, .W, .W, .S], [.E, .N, .N, .N, .E, .S, .W, .S, .W, .S], [.E, .N, .N, .N, .E, .S, .W, .W, .S, .S], [.E, .N, .N, .N, .N, .W, .S, .S, .S, .S], [.E, .N, .N, .N, .W, .S, .E, .S, .W, .S], [.E, .N, .N, .N, .W, .S, .W, .S, .E, .S], [.E, .N, .N, .N, .W, .W, .S, .E, .S, .S], [.E, .N, .N, .N, .W, .W, .S, .S, .E, .S], [.E, .N, .N, .W, .N, .E, .S, .S, .W, .S], [.E, .N, .N, .W, .N, .E, .S, .W, .S, .S], [.E, .N, .N, .W, .N, .W, .S, .E, .S, .S], [.E, .N, .N, .W, .N, .W, .S, .S, .E, .S], [.E, .N, .N, .W, .S, .E, .N, .W, .S, .S], [.E, .N, .N, .W, .S, .E, .S, .S, .W, .N], [.E, .N, .N, .W, .S, .S, .E, .N, .W, .S], [.E, .N, .N, .W, .S, .S, .E, .S, .W, .N], [.E, .N, .N, .W, .S, .S, .W, .N, .E, .S], [.E, .N, .N, .W, .S, .W, .N, .E, .S, .S], [.E, .N, .N, .W, .W, .N, .E, .S, .S, .S], [.E, .N, .W, .N, .E, .N, .W, .S, .S, .S], [.E, .N, .W, .N, .E, .S, .S, .S, .W, .N], [.E, .N, .W, .N, .N, .E, .S, .S, .W, .S], [.E, .N, .W, .N, .N, .E, .S, .W, .S, .S], [.E, .N, .W, .N, .N, .W, .S, .E, .S, .S], [.E, .N, .W, .N, .N, .W, .S, .S, .E, .S], [.E, .N, .W, .N, .W, .N, .E, .S, .S, .S], [.E, .N, .W, .S, .E, .S, .S, .W, .N, .N], [.E, .N, .W, .S, .S, .E, .S, .W, .N, .N], [.E, .N, .W, .S, .S, .W, .N, .N, .E, .S], [.E, .N, .W, .S, .W, .N, .N, .E, .S, .S], [.E, .N, .W, .W, .N, .N, .E, .S, .S, .S], [.E, .N, .W, .W, .W, .N, .E, .S, .E, .S], [.E, .S, .E, .S, .S, .W, .N, .N, .W, .N], [.E, .S, .E, .S, .S, .W, .N, .W, .N, .N], [.E, .S, .E, .S, .S, .W, .W, .N, .N, .N], [.E, .S, .E, .S, .W, .N, .N, .N, .W, .S], [.E, .S, .E, .S, .W, .S, .W, .N, .N, .N], [.E, .S, .S, .E, .S, .W, .N, .N, .W, .N], [.E, .S, .S, .E, .S, .W, .N, .W, .N, .N], [.E, .S, .S, .E, .S, .W, .W, .N, .N, .N], [.E, .S, .S, .S, .S, .W, .N, .N, .N, .N], [.E, .S, .S, .W, .N, .E, .S, .W, .N, .N], [.E, .S, .S, .W, .N, .N, .E, .S, .W, .N], [.E, .S, .W, .N, .N, .N, .E, .S, .W, .S]]
theorem can10_E : canG 10 .E = [[.E, .E, .E, .E, .N, .W, .W, .W, .W, .S], [.E, .E, .E, .E, .S, .W, .W, .W, .W, .N], [.E, .E, .E, .N, .N, .W, .S, .W, .W, .S], [.E, .E, .E, .N, .N, .W, .W, .S, .W, .S], [.E, .E, .E, .N, .N, .W, .W, .W, .S, .S], [.E, .E, .E, .N, .W, .N, .W, .S, .W, .S], [.E, .E, .E, .N, .W, .N, .W, .W, .S, .S], [.E, .E, .E, .N, .W, .S, .S, .W, .W, .N], [.E, .E, .E, .N, .W, .S, .W, .N, .W, .S], [.E, .E, .E, .N, .W, .S, .W, .S, .W, .N], [.E, .E, .E, .N, .W, .W, .N, .W, .S, .S], [.E, .E, .E, .N, .W, .W, .S, .S, .W, .N], [.E, .E, .E, .S, .S, .W, .N, .W, .W, .N], [.E, .E, .E, .S, .S, .W, .W, .N, .W, .N], [.E, .E, .E, .S, .S, .W, .W, .W, .N, .N], [.E, .E, .E, .S, .W, .N, .N, .W, .W, .S], [.E, .E, .E, .S, .W, .N, .W, .N, .W, .S], [.E, .E, .E, .S, .W, .N, .W, .S, .W, .N], [.E, .E, .E, .S, .W, .S, .W, .N, .W, .N], [.E, .E, .E, .S, .W, .S, .W, .W, .N, .N], [.E, .E, .E, .S, .W, .W, .N, .N, .W, .S], [.E, .E, .E, .S, .W, .W, .S, .W, .N, .N], [.E, .E, .N, .E, .N, .W, .S, .W, .W, .S], [.E, .E, .N, .E, .N, .W, .W, .S, .W, .S], [.E, .E, .N, .E, .N, .W, .W, .W, .S, .S], [.E, .E, .N, .E, .S, .S, .W, .W, .W, .N], [.E, .E, .N, .E, .S, .W, .N, .W, .W, .S], [.E, .E, .N, .E, .S, .W, .S, .W, .W, .N], [.E, .E, .N, .E, .S, .W, .W, .N, .W, .S], [.E, .E, .N, .E, .S, .W, .W, .S, .W, .N], [.E, .E, .N, .N, .E, .S, .W, .W, .W, .S], [.E, .E, .N, .N, .N, .W, .S, .S, .W, .S], [.E, .E, .N, .N, .N, .W, .S, .W, .S, .S], [.E, .E, .N, .N, .N, .W, .W, .S, .S, .S], [.E, .E, .N, .N, .W, .N, .W, .S, .S, .S], [.E, .E, .N, .N, .W, .S, .S, .S, .W, .N], [.E, .E, .N, .N, .W, .W, .W, .S, .E, .S], [.E, .E, .N, .W, .N, .E, .S, .W, .W, .S], [.E, .E, .N, .W, .N, .N, .W, .S, .S, .S], [.E, .E, .N, .W, .N, .W, .W, .S, .E, .S], [.E, .E, .N, .W, .S, .E, .N, .W, .W, .S], [.E, .E, .N, .W, .S, .E, .S, .W, .W, .N], [.E, .E, .N, .W, .S, .S, .S, .W, .N, .N], [.E, .E, .N, .W, .S, .W, .W, .N, .E, .S], [.E, .E, .N, .W, .S, .W, .W, .S, .E, .N], [.E, .E, .N, .W, .W, .N, .E, .S, .W, .S], [.E, .E, .N, .W, .W, .N, .W, .S, .E, .S], [.E, .E, .N, .W, .W, .S, .E, .N, .W, .S], [.E, .E, .N, .W, .W, .S, .E, .S, .W, .N], [.E, .E, .N, .W, .W, .S, .W, .N, .E, .S], [.E, .E, .N, .W, .W, .S, .W, .S, .E, .N], [.E, .E, .N, .W, .W, .W, .N, .E, .S, .S], [.E, .E, .N, .W, .W, .W, .S, .S, .E, .N], [.E, .E, .S, .E, .N, .N, .W, .W, .W, .S], [.E, .E, .S, .E, .N, .W, .N, .W, .W, .S], [.E, .E, .S, .E, .N, .W, .S, .W, .W, .N], [.E, .E, .S, .E, .N, .W, .W, .N, .W, .S], [.E, .E, .S, .E, .N, .W, .W, .S, .W, .N], [.E, .E, .S, .E, .S, .W, .N, .W, .W, .N], [.E, .E, .S, .E, .S, .W, .W, .N, .W, .N], [.E, .E, .S, .E, .S, .W, .W, .W, .N, .N], [.E, .E, .S, .S, .E, .N, .W, .W, .W, .N], [.E, .E, .S, .S, .S, .W, .N, .N, .W, .N], [.E, .E, .S, .S, .S, .W, .N, .W, .N, .N], [.E, .E, .S, .S, .S, .W, .W, .N, .N, .N], [.E, .E, .S, .S, .W, .N, .N, .N, .W, .S], [.E, .E, .S, .S, .W, .S, .W, .N, .N, .N], [.E, .E, .S, .S, .W, .W, .W, .N, .E, .N], [.E, .E, .S, .W, .N, .E, .N, .W, .W, .S], [.E, .E, .S, .W, .N, .E, .S, .W, .W, .N], [.E, .E, .S, .W, .N, .N, .N, .W, .S, .S], [.E, .E, .S, .W, .N, .W, .W, .N, .E, .S], [.E, .E, .S, .W, .N, .W, .W, .S, .E, .N], [.E, .E, .S, .W, .S, .E, .N, .W, .W, .N], [.E, .E, .S, .W, .S, .S, .W, .N, .N, .N], [.E, .E, .S, .W, .S, .W, .W, .N, .E, .N], [.E, .E, .S, .W, .W, .N, .E, .N, .W, .S], [.E, .E, .S, .W, .W, .N, .E, .S, .W, .N], [.E, .E, .S, .W, .W, .N, .W, .N, .E, .S], [.E, .E, .S, .W, .W, .N, .W, .S, .E, .N], [.E, .E, .S, .W, .W, .S, .E, .N, .W, .N], [.E, .E, .S, .W, .W, .S, .W, .N, .E, .N], [.E, .E, .S, .W, .W, .W, .N, .N, .E, .S], [.E, .E, .S, .W, .W, .W, .S, .E, .N, .N], [.E, .N, .E, .N, .E, .S, .W, .W, .W, .S], [.E, .N, .E, .N, .N, .W, .S, .S, .W, .S], [.E, .N, .E, .N, .N, .W, .S, .W, .S, .S], [.E, .N, .E, .N, .N, .W, .W, .S, .S, .S], [.E, .N, .E, .N, .W, .N, .W, .S, .S, .S], [.E, .N, .E, .N, .W, .S, .S, .S, .W, .N], [.E, .N, .E, .N, .W, .W, .W, .S, .E, .S], [.E, .N, .E, .S, .E, .N, .W, .W, .W, .S], [.E, .N, .E, .S, .E, .S, .W, .W, .W, .N], [.E, .N, .E, .S, .S, .S, .W, .N, .W, .N], [.E, .N, .E, .S, .S, .S, .W, .W, .N, .N], [.E, .N, .E, .S, .S, .W, .N, .N, .W, .S], [.E, .N, .E, .S, .S, .W, .S, .W, .N, .N], [.E, .N, .E, .S, .W, .N, .N, .W, .S, .S], [.E, .N, .E, .S, .W, .S, .S, .W, .N, .N], [.E, .N, .E, .S, .W, .W, .W, .N, .E, .S], [.E, .N, .N, .E, .N, .W, .S, .S, .W, .S], [.E, .N, .N, .E, .N, .W, .S, .W, .S, .S], [.E, .N, .N, .E, .N, .W, .W, .S, .S, .S], [.E, .N, .N, .E, .S, .S, .S, .W, .W, .N], [.E, .N, .N, .E, .S, .S, .W, .N, .W, .S], [.E, .N, .N, .E, .S, .S, .W, .S, .W, .N], [.E, .N, .N, .E, .S, .W, .N, .W, .S, .S], [.E, .N, .N, .E, .S, .W, .S, .S, .W, .N], [.E, .N, .N, .N, .E, .S, .S, .W, .W, .S], [.E, .N, .N, .N, .E, .S, .W, .S, .W, .S], [.E, .N, .N, .N, .E, .S, .W, .W, .S, .S], [.E, .N, .N, .N, .N, .W, .S, .S, .S, .S], [.E, .N, .N, .N, .W, .S, .E, .S, .W, .S], [.E, .N, .N, .N, .W, .S, .W, .S, .E, .S], [.E, .N, .N, .N, .W, .W, .S, .E, .S, .S], [.E, .N, .N, .N, .W, .W, .S, .S, .E, .S], [.E, .N, .N, .W, .N, .E, .S, .S, .W, .S], [.E, .N, .N, .W, .N, .E, .S, .W, .S, .S], [.E, .N, .N, .W, .N, .W, .S, .E, .S, .S], [.E, .N, .N, .W, .N, .W, .S, .S, .E, .S], [.E, .N, .N, .W, .S, .E, .N, .W, .S, .S], [.E, .N, .N, .W, .S, .E, .S, .S, .W, .N], [.E, .N, .N, .W, .S, .S, .E, .N, .W, .S], [.E, .N, .N, .W, .S, .S, .E, .S, .W, .N], [.E, .N, .N, .W, .S, .S, .W, .N, .E, .S], [.E, .N, .N, .W, .S, .W, .N, .E, .S, .S], [.E, .N, .N, .W, .W, .N, .E, .S, .S, .S], [.E, .N, .W, .N, .E, .N, .W, .S, .S, .S], [.E, .N, .W, .N, .E, .S, .S, .S, .W, .N], [.E, .N, .W, .N, .N, .E, .S, .S, .W, .S], [.E, .N, .W, .N, .N, .E, .S, .W, .S, .S], [.E, .N, .W, .N, .N, .W, .S, .E, .S, .S], [.E, .N, .W, .N, .N, .W, .S, .S, .E, .S], [.E, .N, .W, .N, .W, .N, .E, .S, .S, .S], [.E, .N, .W, .S, .E, .S, .S, .W, .N, .N], [.E, .N, .W, .S, .S, .E, .S, .W, .N, .N], [.E, .N, .W, .S, .S, .W, .N, .N, .E, .S], [.E, .N, .W, .S, .W, .N, .N, .E, .S, .S], [.E, .N, .W, .W, .N, .N, .E, .S, .S, .S], [.E, .N, .W, .W, .W, .N, .E, .S, .E, .S], [.E, .S, .E, .S, .S, .W, .N, .N, .W, .N], [.E, .S, .E, .S, .S, .W, .N, .W, .N, .N], [.E, .S, .E, .S, .S, .W, .W, .N, .N, .N], [.E, .S, .E, .S, .W, .N, .N, .N, .W, .S], [.E, .S, .E, .S, .W, .S, .W, .N, .N, .N], [.E, .S, .S, .E, .S, .W, .N, .N, .W, .N], [.E, .S, .S, .E, .S, .W, .N, .W, .N, .N], [.E, .S, .S, .E, .S, .W, .W, .N, .N, .N], [.E, .S, .S, .S, .S, .W, .N, .N, .N, .N], [.E, .S, .S, .W, .N, .E, .S, .W, .N, .N], [.E, .S, .S, .W, .N, .N, .E, .S, .W, .N], [.E, .S, .W, .N, .N, .N, .E, .S, .W, .S]] := by decide +kernel
theorem can10_N : canG 10 .N = [] := by decide +kernel
theorem can10_S : canG 10 .S = [] := by decide +kernel
theorem can10_W : canG 10 .W = [] := by decide +kernel
theorem can10_ok : ((loopsL 10).filter fun l => decide (l = norm l)) = can10 := can_of can10_E can10_N can10_S can10_W
def on10_0 : List (List D) := [[.E, .E, .E, .N, .W, .S, .S, .W, .W, .N], [.E, .E, .E, .N, .W, .S, .W, .S, .W, .N], [.E, .E, .E, .N, .W, .W, .S, .S, .W, .N], [.E, .E, .E, .S, .W, .N, .N, .W, .W, .S], [.E, .E, .E, .S, .W, .N, .W, .N, .W, .S], [.E, .E, .E, .S, .W, .W, .N, .N, .W, .S], [.E, .E, .N, .E, .S, .W, .N, .W, .W, .S], [.E, .E, .N, .E, .S, .W, .W, .N, .W, .S], [.E, .E, .N, .N, .E, .S, .W, .W, .W, .S], [.E, .E, .N, .N, .W, .S, .S, .S, .W, .N], [.E, .E, .N, .W, .N, .E, .S, .W, .W, .S], [.E, .E, .N, .W, .S, .E, .S, .W, .W, .N], [.E, .E, .N, .W, .S, .S, .S, .W, .N, .N], [.E, .E, .N, .W, .S, .S, .W, .W, .N, .E], [.E, .E, .N, .W, .S, .W, .S, .W, .N, .E], [.E, .E, .N, .W, .S, .W, .W, .N, .E, .S], [.E, .E, .N, .W, .W, .N, .E, .S, .W, .S], [.E, .E, .N, .W, .W, .S, .E, .S, .W, .N], [.E, .E, .N, .W, .W, .S, .S, .W, .N, .E], [.E, .E, .N, .W, .W, .S, .W, .N, .E, .S], [.E, .E, .N, .W, .W, .W, .N, .E, .S, .S], [.E, .E, .S, .E, .N, .W, .S, .W, .W, .N], [.E, .E, .S, .E, .N, .W, .W, .S, .W, .N], [.E, .E, .S, .S, .E, .N, .W, .W, .W, .N], [.E, .E, .S, .S, .W, .N, .N, .N, .W, .S], [.E, .E, .S, .W, .N, .E, .N, .W, .W, .S], [.E, .E, .S, .W, .N, .N, .N, .W, .S, .S], [.E, .E, .S, .W, .N, .N, .W, .W, .S, .E], [.E, .E, .S, .W, .N, .W, .N, .W, .S, .E], [.E, .E, .S, .W, .N, .W, .W, .S, .E, .N], [.E, .E, .S, .W, .S, .E, .N, .W, .W, .N], [.E, .E, .S, .W, .W, .N, .E, .N, .W, .S], [.E, .E, .S, .W, .W, .N, .N, .W, .S, .E], [.E, .E, .S, .W, .W, .N, .W, .S, .E, .N], [.E, .E, .S, .W, .W, .S, .E, .N, .W, .N], [.E, .E, .S, .W, .W, .W, .S, .E, .N, .N], [.E, .N, .E, .E, .S, .W, .N, .W, .W, .S], [.E, .N, .E, .E, .S, .W, .W, .N, .W, .S], [.E, .N, .E, .N, .E, .S, .W, .W, .W, .S], [.E, .N, .E, .N, .W, .S, .S, .S, .W, .N], [.E, .N, .E, .S, .S, .W, .N, .N, .W, .S], [.E, .N, .E, .S, .W, .N, .N, .W, .S, .S], [.E, .N, .E, .S, .W, .N, .W, .W, .S, .E], [.E, .N, .E, .S, .W, .W, .N, .W, .S, .E], [.E, .N, .E, .S, .W, .W, .W, .S, .E, .N], [.E, .N, .N, .E, .E, .S, .W, .W, .W, .S], [.E, .N, .N, .E, .S, .S, .W, .N, .W, .S], [.E, .N, .N, .E, .S, .W, .N, .W, .S, .S], [.E, .N, .N, .E, .S, .W, .W, .W, .S, .E], [.E, .N, .N, .N, .E, .S, .S, .W, .W, .S], [.E, .N, .N, .N, .E, .S, .W, .S, .W, .S], [.E, .N, .N, .N, .E, .S, .W, .W, .S, .S], [.E, .N, .N, .W, .N, .E, .S, .S, .W, .S], [.E, .N, .N, .W, .N, .E, .S, .W, .S, .S], [.E, .N, .N, .W, .S, .E, .S, .S, .W, .N], [.E, .N, .N, .W, .S, .S, .E, .S, .W, .N], [.E, .N, .N, .W, .S, .S, .S, .W, .N, .E], [.E, .N, .N, .W, .S, .S, .W, .N, .E, .S], [.E, .N, .N, .W, .S, .W, .N, .E, .S, .S], [.E, .N, .N, .W, .W, .N, .E, .S, .S, .S], [.E, .N, .W, .N, .E, .E, .S, .W, .W, .S], [.E, .N, .W, .N, .E, .S, .W, .W, .S, .E], [.E, .N, .W, .N, .N, .E, .S, .S, .W, .S], [.E, .N, .W, .N, .N, .E, .S, .W, .S, .S], [.E, .N, .W, .N, .W, .N, .E, .S, .S, .S], [.E, .N, .W, .S, .E, .E, .S, .W, .W, .N], [.E, .N, .W, .S, .E, .S, .S, .W, .N, .N], [.E, .N, .W, .S, .E, .S, .W, .W, .N, .E], [.E, .N, .W, .S, .S, .E, .S, .W, .N, .N], [.E, .N, .W, .S, .S, .S, .W, .N, .E, .N], [.E, .N, .W, .S, .S, .S, .W, .N, .N, .E], [.E, .N, .W, .S, .S, .W, .N, .N, .E, .S], [.E, .N, .W, .S, .S, .W, .W, .N, .E, .E], [.E, .N, .W, .S, .W, .N, .N, .E, .S, .S], [.E, .N, .W, .S, .W, .S, .W, .N, .E, .E], [.E, .N, .W, .S, .W, .W, .N, .E, .E, .S], [.E, .N, .W, .S, .W, .W, .N, .E, .S, .E], [.E, .N, .W, .W, .N, .E, .E, .S, .W, .S], [.E, .N, .W, .W, .N, .E, .S, .W, .S, .E], [.E, .N, .W, .W, .N, .N, .E, .S, .S, .S], [.E, .N, .W, .W, .S, .E, .E, .S, .W, .N], [.E, .N, .W, .W, .S, .E, .S, .W, .N, .E], [.E, .N, .W, .W, .S, .S, .W, .N, .E, .E], [.E, .N, .W, .W, .S, .W, .N, .E, .E, .S], [.E, .N, .W, .W, .S, .W, .N, .E, .S, .E], [.E, .N, .W, .W, .W, .N, .E, .E, .S, .S], [.E, .N, .W, .W, .W, .N, .E, .S, .E, .S], [.E, .N, .W, .W, .W, .N, .E, .S, .S, .E], [.E, .S, .E, .E, .N, .W, .S, .W, .W, .N], [.E, .S, .E, .E, .N, .W, .W, .S, .W, .N], [.E, .S, .E, .N, .N, .W, .S, .S, .W, .N], [.E, .S, .E, .N, .W, .S, .S, .W, .N, .N], [.E, .S, .E, .N, .W, .S, .W, .W, .N, .E], [.E, .S, .E, .N, .W, .W, .S, .W, .N, .E], [.E, .S, .E, .N, .W, .W, .W, .N, .E, .S], [.E, .S, .E, .S, .E, .N, .W, .W, .W, .N], [.E, .S, .E, .S, .W, .N, .N, .N, .W, .S], [.E, .S, .S, .E, .E, .N, .W, .W, .W, .N], [.E, .S, .S, .E, .N, .N, .W, .S, .W, .N], [.E, .S, .S, .E, .N, .W, .S, .W, .N, .N], [.E, .S, .S, .E, .N, .W, .W, .W, .N, .E], [.E, .S, .S, .S, .E, .N, .N, .W, .W, .N], [.E, .S, .S, .S, .E, .N, .W, .N, .W, .N], [.E, .S, .S, .S, .E, .N, .W, .W, .N, .N], [.E, .S, .S, .W, .N, .E, .N, .N, .W, .S], [.E, .S, .S, .W, .N, .N, .E, .N, .W, .S], [.E, .S, .S, .W, .N, .N, .N, .W, .S, .E], [.E, .S, .S, .W, .N, .N, .W, .S, .E, .N], [.E, .S, .S, .W, .N, .W, .S, .E, .N, .N], [.E, .S, .S, .W, .S, .E, .N, .N, .W, .N], [.E, .S, .S, .W, .S, .E, .N, .W, .N, .N], [.E, .S, .S, .W, .W, .S, .E, .N, .N, .N], [.E, .S, .W, .N, .E, .E, .N, .W, .W, .S], [.E, .S, .W, .N, .E, .N, .N, .W, .S, .S], [.E, .S, .W, .N, .E, .N, .W, .W, .S, .E], [.E, .S, .W, .N, .N, .E, .N, .W, .S, .S], [.E, .S, .W, .N, .N, .N, .W, .S, .E, .S], [.E, .S, .W, .N, .N, .N, .W, .S, .S, .E], [.E, .S, .W, .N, .N, .W, .S, .S, .E, .N], [.E, .S, .W, .N, .N, .W, .W, .S, .E, .E], [.E, .S, .W, .N, .W, .N, .W, .S, .E, .E], [.E, .S, .W, .N, .W, .S, .S, .E, .N, .N], [.E, .S, .W, .N, .W, .W, .S, .E, .E, .N], [.E, .S, .W, .N, .W, .W, .S, .E, .N, .E], [.E, .S, .W, .S, .E, .E, .N, .W, .W, .N], [.E, .S, .W, .S, .E, .N, .W, .W, .N, .E], [.E, .S, .W, .S, .S, .E, .N, .N, .W, .N], [.E, .S, .W, .S, .S, .E, .N, .W, .N, .N], [.E, .S, .W, .S, .W, .S, .E, .N, .N, .N], [.E, .S, .W, .W, .N, .E, .E, .N, .W, .S], [.E, .S, .W, .W, .N, .E, .N, .W, .S, .E], [.E, .S, .W, .W, .N, .N, .W, .S, .E, .E], [.E, .S, .W, .W, .N, .W, .S, .E, .E, .N], [.E, .S, .W, .W, .N, .W, .S, .E, .N, .E], [.E, .S, .W, .W, .S, .E, .E, .N, .W, .N], [.E, .S, .W, .W, .S, .E, .N, .W, .N, .E], [.E, .S, .W, .W, .S, .S, .E, .N, .N, .N], [.E, .S, .W, .W, .W, .S, .E, .E, .N, .N], [.E, .S, .W, .W, .W, .S, .E, .N, .E, .N], [.E, .S, .W, .W, .W, .S, .E, .N, .N, .E]]
theorem on10_0_ok : onL (4 * (0)) (10 - 1) [] D.E 1 0 0 = on10_0 := by decide +kernel
theorem case10_0 : CaseOK 10 (0) (tsOf 10 (0)) := case_of (by decide) (by decide) (by decide) can10_ok on10_0_ok (by decide +kernel) (by decide) (by decide +kernel) (by decide +kernel) (by decide +kernel)
def on10_1 : List (List D) := [[.E, .E, .E, .E, .N, .W, .W, .W, .W, .S], [.E, .E, .E, .N, .N, .W, .S, .W, .W, .S], [.E, .E, .E, .N, .N, .W, .W, .S, .W, .S], [.E, .E, .E, .N, .N, .W, .W, .W, .S, .S], [.E, .E, .E, .N, .W, .N, .W, .S, .W, .S], [.E, .E, .E, .N, .W, .N, .W, .W, .S, .S], [.E, .E, .E, .N, .W, .S, .W, .N, .W, .S], [.E, .E, .E, .N, .W, .W, .N, .W, .S, .S], [.E, .E, .E, .N, .W, .W, .W, .W, .S, .E], [.E, .E, .N, .E, .N, .W, .S, .W, .W, .S], [.E, .E, .N, .E, .N, .W, .W, .S, .W, .S], [.E, .E, .N, .E, .N, .W, .W, .W, .S, .S], [.E, .E, .N, .N, .N, .W, .S, .S, .W, .S], [.E, .E, .N, .N, .N, .W, .S, .W, .S, .S], [.E, .E, .N, .N, .N, .W, .W, .S, .S, .S], [.E, .E, .N, .N, .W, .N, .W, .S, .S, .S], [.E, .E, .N, .N, .W, .S, .W, .W, .S, .E], [.E, .E, .N, .N, .W, .W, .S, .W, .S, .E], [.E, .E, .N, .N, .W, .W, .W, .S, .E, .S], [.E, .E, .N, .N, .W, .W, .W, .S, .S, .E], [.E, .E, .N, .W, .N, .N, .W, .S, .S, .S], [.E, .E, .N, .W, .N, .W, .S, .W, .S, .E], [.E, .E, .N, .W, .N, .W, .W, .S, .E, .S], [.E, .E, .N, .W, .N, .W, .W, .S, .S, .E], [.E, .E, .N, .W, .S, .W, .N, .W, .S, .E], [.E, .E, .N, .W, .S, .W, .W, .S, .E, .N], [.E, .E, .N, .W, .W, .N, .W, .S, .E, .S], [.E, .E, .N, .W, .W, .N, .W, .S, .S, .E], [.E, .E, .N, .W, .W, .S, .W, .S, .E, .N], [.E, .E, .N, .W, .W, .W, .S, .S, .E, .N], [.E, .E, .N, .W, .W, .W, .W, .S, .E, .E], [.E, .E, .S, .E, .N, .N, .W, .W, .W, .S], [.E, .E, .S, .E, .N, .W, .N, .W, .W, .S], [.E, .E, .S, .E, .N, .W, .W, .N, .W, .S], [.E, .N, .E, .E, .N, .W, .S, .W, .W, .S], [.E, .N, .E, .E, .N, .W, .W, .S, .W, .S], [.E, .N, .E, .E, .N, .W, .W, .W, .S, .S], [.E, .N, .E, .N, .N, .W, .S, .S, .W, .S], [.E, .N, .E, .N, .N, .W, .S, .W, .S, .S], [.E, .N, .E, .N, .N, .W, .W, .S, .S, .S], [.E, .N, .E, .N, .W, .N, .W, .S, .S, .S], [.E, .N, .E, .N, .W, .S, .W, .W, .S, .E], [.E, .N, .E, .N, .W, .W, .S, .W, .S, .E], [.E, .N, .E, .N, .W, .W, .W, .S, .E, .S], [.E, .N, .E, .N, .W, .W, .W, .S, .S, .E], [.E, .N, .E, .S, .E, .N, .W, .W, .W, .S], [.E, .N, .N, .E, .N, .W, .S, .S, .W, .S], [.E, .N, .N, .E, .N, .W, .S, .W, .S, .S], [.E, .N, .N, .E, .N, .W, .W, .S, .S, .S], [.E, .N, .N, .N, .N, .W, .S, .S, .S, .S], [.E, .N, .N, .N, .W, .S, .E, .S, .W, .S], [.E, .N, .N, .N, .W, .S, .S, .W, .S, .E], [.E, .N, .N, .N, .W, .S, .W, .S, .E, .S], [.E, .N, .N, .N, .W, .S, .W, .S, .S, .E], [.E, .N, .N, .N, .W, .W, .S, .E, .S, .S], [.E, .N, .N, .N, .W, .W, .S, .S, .E, .S], [.E, .N, .N, .N, .W, .W, .S, .S, .S, .E], [.E, .N, .N, .W, .N, .W, .S, .E, .S, .S], [.E, .N, .N, .W, .N, .W, .S, .S, .E, .S], [.E, .N, .N, .W, .N, .W, .S, .S, .S, .E], [.E, .N, .N, .W, .S, .S, .W, .S, .E, .N], [.E, .N, .N, .W, .S, .W, .S, .S, .E, .N], [.E, .N, .N, .W, .S, .W, .W, .S, .E, .E], [.E, .N, .N, .W, .W, .S, .S, .S, .E, .N], [.E, .N, .N, .W, .W, .S, .W, .S, .E, .E], [.E, .N, .N, .W, .W, .W, .S, .E, .E, .S], [.E, .N, .N, .W, .W, .W, .S, .E, .S, .E], [.E, .N, .N, .W, .W, .W, .S, .S, .E, .E], [.E, .N, .W, .N, .E, .N, .W, .S, .S, .S], [.E, .N, .W, .N, .N, .W, .S, .E, .S, .S], [.E, .N, .W, .N, .N, .W, .S, .S, .E, .S], [.E, .N, .W, .N, .N, .W, .S, .S, .S, .E], [.E, .N, .W, .N, .W, .S, .S, .S, .E, .N], [.E, .N, .W, .N, .W, .S, .W, .S, .E, .E], [.E, .N, .W, .N, .W, .W, .S, .E, .E, .S], [.E, .N, .W, .N, .W, .W, .S, .E, .S, .E], [.E, .N, .W, .N, .W, .W, .S, .S, .E, .E], [.E, .N, .W, .S, .S, .S, .E, .N, .W, .N], [.E, .N, .W, .S, .S, .W, .S, .E, .N, .N], [.E, .N, .W, .S, .W, .N, .W, .S, .E, .E], [.E, .N, .W, .S, .W, .S, .S, .E, .N, .N], [.E, .N, .W, .S, .W, .W, .S, .E, .E, .N], [.E, .N, .W, .S, .W, .W, .S, .E, .N, .E], [.E, .N, .W, .W, .N, .W, .S, .E, .E, .S], [.E, .N, .W, .W, .N, .W, .S, .E, .S, .E], [.E, .N, .W, .W, .N, .W, .S, .S, .E, .E], [.E, .N, .W, .W, .S, .S, .S, .E, .N, .N], [.E, .N, .W, .W, .S, .W, .S, .E, .E, .N], [.E, .N, .W, .W, .S, .W, .S, .E, .N, .E], [.E, .N, .W, .W, .W, .S, .E, .N, .E, .S], [.E, .N, .W, .W, .W, .S, .E, .S, .E, .N], [.E, .N, .W, .W, .W, .S, .S, .E, .E, .N], [.E, .N, .W, .W, .W, .S, .S, .E, .N, .E], [.E, .N, .W, .W, .W, .W, .S, .E, .E, .E], [.E, .S, .E, .E, .N, .N, .W, .W, .W, .S], [.E, .S, .E, .E, .N, .W, .N, .W, .W, .S], [.E, .S, .E, .E, .N, .W, .W, .N, .W, .S], [.E, .S, .E, .N, .E, .N, .W, .W, .W, .S], [.E, .S, .E, .N, .N, .N, .W, .S, .W, .S], [.E, .S, .E, .N, .N, .N, .W, .W, .S, .S], [.E, .S, .E, .N, .N, .W, .N, .W, .S, .S], [.E, .S, .E, .N, .N, .W, .W, .W, .S, .E], [.E, .S, .E, .N, .W, .N, .N, .W, .S, .S], [.E, .S, .E, .N, .W, .N, .W, .W, .S, .E], [.E, .S, .E, .N, .W, .W, .N, .W, .S, .E], [.E, .S, .E, .N, .W, .W, .W, .S, .E, .N], [.E, .S, .S, .E, .N, .N, .N, .W, .W, .S], [.E, .S, .S, .E, .N, .N, .W, .N, .W, .S], [.E, .S, .S, .E, .N, .W, .N, .N, .W, .S], [.E, .S, .W, .S, .E, .N, .N, .N, .W, .S]]
theorem on10_1_ok : onL (4 * (1)) (10 - 1) [] D.E 1 0 0 = on10_1 := by decide +kernel
theorem case10_1 : CaseOK 10 (1) (tsOf 10 (1)) := case_of (by decide) (by decide) (by decide) can10_ok on10_1_ok (by decide +kernel) (by decide) (by decide +kernel) (by decide +kernel) (by decide +kernel)
def on10_m1 : List (List D) := [[.E, .E, .E, .E, .S, .W, .W, .W, .W, .N], [.E, .E, .E, .S, .S, .W, .N, .W, .W, .N], [.E, .E, .E, .S, .S, .W, .W, .N, .W, .N], [.E, .E, .E, .S, .S, .W, .W, .W, .N, .N], [.E, .E, .E, .S, .W, .N, .W, .S, .W, .N], [.E, .E, .E, .S, .W, .S, .W, .N, .W, .N], [.E, .E, .E, .S, .W, .S, .W, .W, .N, .N], [.E, .E, .E, .S, .W, .W, .S, .W, .N, .N], [.E, .E, .E, .S, .W, .W, .W, .W, .N, .E], [.E, .E, .N, .E, .S, .S, .W, .W, .W, .N], [.E, .E, .N, .E, .S, .W, .S, .W, .W, .N], [.E, .E, .N, .E, .S, .W, .W, .S, .W, .N], [.E, .E, .S, .E, .S, .W, .N, .W, .W, .N], [.E, .E, .S, .E, .S, .W, .W, .N, .W, .N], [.E, .E, .S, .E, .S, .W, .W, .W, .N, .N], [.E, .E, .S, .S, .S, .W, .N, .N, .W, .N], [.E, .E, .S, .S, .S, .W, .N, .W, .N, .N], [.E, .E, .S, .S, .S, .W, .W, .N, .N, .N], [.E, .E, .S, .S, .W, .N, .W, .W, .N, .E], [.E, .E, .S, .S, .W, .S, .W, .N, .N, .N], [.E, .E, .S, .S, .W, .W, .N, .W, .N, .E], [.E, .E, .S, .S, .W, .W, .W, .N, .E, .N], [.E, .E, .S, .S, .W, .W, .W, .N, .N, .E], [.E, .E, .S, .W, .N, .W, .S, .W, .N, .E], [.E, .E, .S, .W, .N, .W, .W, .N, .E, .S], [.E, .E, .S, .W, .S, .S, .W, .N, .N, .N], [.E, .E, .S, .W, .S, .W, .N, .W, .N, .E], [.E, .E, .S, .W, .S, .W, .W, .N, .E, .N], [.E, .E, .S, .W, .S, .W, .W, .N, .N, .E], [.E, .E, .S, .W, .W, .N, .W, .N, .E, .S], [.E, .E, .S, .W, .W, .S, .W, .N, .E, .N], [.E, .E, .S, .W, .W, .S, .W, .N, .N, .E], [.E, .E, .S, .W, .W, .W, .N, .N, .E, .S], [.E, .E, .S, .W, .W, .W, .W, .N, .E, .E], [.E, .N, .E, .E, .S, .S, .W, .W, .W, .N], [.E, .N, .E, .E, .S, .W, .S, .W, .W, .N], [.E, .N, .E, .E, .S, .W, .W, .S, .W, .N], [.E, .N, .E, .S, .E, .S, .W, .W, .W, .N], [.E, .N, .E, .S, .S, .S, .W, .N, .W, .N], [.E, .N, .E, .S, .S, .S, .W, .W, .N, .N], [.E, .N, .E, .S, .S, .W, .S, .W, .N, .N], [.E, .N, .E, .S, .S, .W, .W, .W, .N, .E], [.E, .N, .E, .S, .W, .S, .S, .W, .N, .N], [.E, .N, .E, .S, .W, .S, .W, .W, .N, .E], [.E, .N, .E, .S, .W, .W, .S, .W, .N, .E], [.E, .N, .E, .S, .W, .W, .W, .N, .E, .S], [.E, .N, .N, .E, .S, .S, .S, .W, .W, .N], [.E, .N, .N, .E, .S, .S, .W, .S, .W, .N], [.E, .N, .N, .E, .S, .W, .S, .S, .W, .N], [.E, .N, .W, .N, .E, .S, .S, .S, .W, .N], [.E, .S, .E, .E, .S, .W, .N, .W, .W, .N], [.E, .S, .E, .E, .S, .W, .W, .N, .W, .N], [.E, .S, .E, .E, .S, .W, .W, .W, .N, .N], [.E, .S, .E, .N, .E, .S, .W, .W, .W, .N], [.E, .S, .E, .S, .S, .W, .N, .N, .W, .N], [.E, .S, .E, .S, .S, .W, .N, .W, .N, .N], [.E, .S, .E, .S, .S, .W, .W, .N, .N, .N], [.E, .S, .E, .S, .W, .N, .W, .W, .N, .E], [.E, .S, .E, .S, .W, .S, .W, .N, .N, .N], [.E, .S, .E, .S, .W, .W, .N, .W, .N, .E], [.E, .S, .E, .S, .W, .W, .W, .N, .E, .N], [.E, .S, .E, .S, .W, .W, .W, .N, .N, .E], [.E, .S, .S, .E, .S, .W, .N, .N, .W, .N], [.E, .S, .S, .E, .S, .W, .N, .W, .N, .N], [.E, .S, .S, .E, .S, .W, .W, .N, .N, .N], [.E, .S, .S, .S, .S, .W, .N, .N, .N, .N], [.E, .S, .S, .S, .W, .N, .E, .N, .W, .N], [.E, .S, .S, .S, .W, .N, .N, .W, .N, .E], [.E, .S, .S, .S, .W, .N, .W, .N, .E, .N], [.E, .S, .S, .S, .W, .N, .W, .N, .N, .E], [.E, .S, .S, .S, .W, .W, .N, .E, .N, .N], [.E, .S, .S, .S, .W, .W, .N, .N, .E, .N], [.E, .S, .S, .S, .W, .W, .N, .N, .N, .E], [.E, .S, .S, .W, .N, .N, .W, .N, .E, .S], [.E, .S, .S, .W, .N, .W, .N, .N, .E, .S], [.E, .S, .S, .W, .N, .W, .W, .N, .E, .E], [.E, .S, .S, .W, .S, .W, .N, .E, .N, .N], [.E, .S, .S, .W, .S, .W, .N, .N, .E, .N], [.E, .S, .S, .W, .S, .W, .N, .N, .N, .E], [.E, .S, .S, .W, .W, .N, .N, .N, .E, .S], [.E, .S, .S, .W, .W, .N, .W, .N, .E, .E], [.E, .S, .S, .W, .W, .W, .N, .E, .E, .N], [.E, .S, .S, .W, .W, .W, .N, .E, .N, .E], [.E, .S, .S, .W, .W, .W, .N, .N, .E, .E], [.E, .S, .W, .N, .N, .N, .E, .S, .W, .S], [.E, .S, .W, .N, .N, .W, .N, .E, .S, .S], [.E, .S, .W, .N, .W, .N, .N, .E, .S, .S], [.E, .S, .W, .N, .W, .S, .W, .N, .E, .E], [.E, .S, .W, .N, .W, .W, .N, .E, .E, .S], [.E, .S, .W, .N, .W, .W, .N, .E, .S, .E], [.E, .S, .W, .S, .E, .S, .W, .N, .N, .N], [.E, .S, .W, .S, .S, .W, .N, .E, .N, .N], [.E, .S, .W, .S, .S, .W, .N, .N, .E, .N], [.E, .S, .W, .S, .S, .W, .N, .N, .N, .E], [.E, .S, .W, .S, .W, .N, .N, .N, .E, .S], [.E, .S, .W, .S, .W, .N, .W, .N, .E, .E], [.E, .S, .W, .S, .W, .W, .N, .E, .E, .N], [.E, .S, .W, .S, .W, .W, .N, .E, .N, .E], [.E, .S, .W, .S, .W, .W, .N, .N, .E, .E], [.E, .S, .W, .W, .N, .N, .N, .E, .S, .S], [.E, .S, .W, .W, .N, .W, .N, .E, .E, .S], [.E, .S, .W, .W, .N, .W, .N, .E, .S, .E], [.E, .S, .W, .W, .S, .W, .N, .E, .E, .N], [.E, .S, .W, .W, .S, .W, .N, .E, .N, .E], [.E, .S, .W, .W, .S, .W, .N, .N, .E, .E], [.E, .S, .W, .W, .W, .N, .E, .N, .E, .S], [.E, .S, .W, .W, .W, .N, .E, .S, .E, .N], [.E, .S, .W, .W, .W, .N, .N, .E, .E, .S], [.E, .S, .W, .W, .W, .N, .N, .E, .S, .E], [.E, .S, .W, .W, .W, .W, .N, .E, .E, .E]]
theorem on10_m1_ok : onL (4 * (-1)) (10 - 1) [] D.E 1 0 0 = on10_m1 := by decide +kernel
theorem case10_m1 : CaseOK 10 (-1) (tsOf 10 (-1)) := case_of (by decide) (by decide) (by decide) can10_ok on10_m1_ok (by decide +kernel) (by decide) (by decide +kernel) (by decide +kernel) (by decide +kernel)
def on10_2 : List (List D) := [[.E, .E, .N, .W, .S, .E, .N, .W, .W, .S], [.E, .E, .N, .W, .W, .S, .E, .N, .W, .S], [.E, .N, .N, .W, .S, .E, .N, .W, .S, .S], [.E, .N, .N, .W, .S, .S, .E, .N, .W, .S], [.E, .N, .W, .S, .E, .E, .N, .W, .W, .S], [.E, .N, .W, .S, .E, .N, .N, .W, .S, .S], [.E, .N, .W, .S, .E, .N, .W, .W, .S, .E], [.E, .N, .W, .S, .S, .E, .N, .N, .W, .S], [.E, .N, .W, .W, .S, .E, .E, .N, .W, .S], [.E, .N, .W, .W, .S, .E, .N, .W, .S, .E]]
theorem on10_2_ok : onL (4 * (2)) (10 - 1) [] D.E 1 0 0 = on10_2 := by decide +kernel
theorem case10_2 : CaseOK 10 (2) (tsOf 10 (2)) := case_of (by decide) (by decide) (by decide) can10_ok on10_2_ok (by decide +kernel) (by decide) (by decide +kernel) (by decide +kernel) (by decide +kernel)
end K51

end K51Cq_text
section K51A_text
set_option Elab.async false
set_option linter.all false
set_option maxRecDepth 100000
set_option maxHeartbeats 4000000
namespace K51
open PySem PySem.Spec PyProof.Rows L2 Kk
section
variable {P : Program} {w : World} {K : PySem.W.Frag} {mg : Str → Option Value} {base : Heap}
/-! ### heading -/
def sp_heading : Sp := fun vs H Q _ => ∃ a : D, vs = [.str (tx [a])] ∧ Q (.int (a.hd : Nat)) H
abbrev N_heading : List Str := ["letter"]
abbrev P_heading : List Str := ["letter"]
theorem sc_heading : FnScope N_heading P_heading (defScope s_heading) := ⟨rfl, rfl, rfl, by decide +kernel, rfl, by decide +kernel, by decide +kernel⟩
theorem d_heading (T : Tx K mg) : Df P w K mg base 1 "heading" P_heading sp_heading := by
  refine df_of T.F_heading sc_heading (fun vs H Q E h => ?_) (fun _ _ _ _ _ _ us hl => match us, hl with | [_], _ => rfl) (fun f cdv A outer s H vs Q E hr h => ?_)
  · obtain ⟨a, rfl, _⟩ := h
    rfl
  · obtain ⟨a, rfl, q⟩ := h
    refine ⟨_, (pss_one (ps_ret (pe_bmS PySem.F.plainAttrs_str PySem.F.slot_str_index PySem.F.type_str_index (mt_indexX rfl tk0) (pe_globS T.m_LETTERS) (pa_cons (pv 0) pa_nil)))), ?_⟩
    refine ⟨rfl, _, rfl, _, _, rfl, rfl, fun k hk => ?_, fun hk => ?_⟩
    · rw [lENWS, idx0] at hk
      rw [← Option.some.inj hk]
      exact q
    · rw [lENWS, idx0] at hk
      cases hk
/-! ### opposite -/
def sp_opposite : Sp := fun vs H Q _ => ∃ a : D, vs = [.str (tx [a])] ∧ Q (.str (tx [a.opp])) H
abbrev N_opposite : List Str := ["letter"]
abbrev P_opposite : List Str := ["letter"]
theorem sc_opposite : FnScope N_opposite P_opposite (defScope s_opposite) := ⟨rfl, rfl, rfl, by decide +kernel, rfl, by decide +kernel, by decide +kernel⟩
theorem opp_at (a : D) : atI (tx [.E, .N, .W, .S]).cps.toList (((a.hd : Nat) + 2 : Int) % 4) = some a.opp.cp := by cases a <;> decide +kernel
theorem d_opposite (T : Tx K mg) : Df P w K mg base 2 "opposite" P_opposite sp_opposite := by
  have G_heading : Df P w K mg base 1 "heading" P_heading sp_heading := d_heading T
  refine df_of T.F_opposite sc_opposite (fun vs H Q E h => ?_) (fun _ _ _ _ _ _ us hl => match us, hl with | [_], _ => rfl) (fun f cdv A outer s H vs Q E hr h => ?_)
  · obtain ⟨a, rfl, _⟩ := h
    rfl
  · obtain ⟨a, rfl, q⟩ := h
    refine ⟨_, (pss_one (ps_ret (pe_ix ix_str (pe_globS T.m_LETTERS) (pe_op op_mod (pe_op op_add (pe_df G_heading (hr.mono (by decide)) (pa_cons (pv 0) pa_nil)) pe_int) (pe_globI T.m_QUARTERS)) (fun _ _ => rfl)))), ?_⟩
    refine ⟨_, rfl, a, rfl, _, _, rfl, rfl, _, _, rfl, rfl, (show (0 : Int) < 4 by decide), _, _, a.opp.cp, rfl, rfl, by decide +kernel, ?_, ?_⟩
    · rw [lENWS]
      exact opp_at a
    · exact q
/-! ### first_kink -/
def kV (o : Option Nat) : V := match o with
  | none => .non
  | some i => .int (i : Nat)
def sp_first_kink : Sp := fun vs H Q _ => ∃ l : List D, vs = [.str (tx l)] ∧ l.length ≤ 1000 ∧ Q (kV (kinkAt l)) H
abbrev N_first_kink : List Str := ["strokes", "place"]
abbrev P_first_kink : List Str := ["strokes"]
theorem sc_first_kink : FnScope N_first_kink P_first_kink (defScope s_first_kink) := ⟨rfl, rfl, rfl, by decide +kernel, rfl, by decide +kernel, by decide +kernel⟩
theorem d_first_kink (T : Tx K mg) : Df P w K mg base 3 "first_kink" P_first_kink sp_first_kink := by
  have G_opposite : Df P w K mg base 2 "opposite" P_opposite sp_opposite := d_opposite T
  refine df_of T.F_first_kink sc_first_kink (fun vs H Q E h => ?_) (fun _ _ _ _ _ _ us hl => match us, hl with | [_], _ => rfl) (fun f cdv A outer s H vs Q E hr h => ?_)
  · obtain ⟨l, rfl, _⟩ := h
    rfl
  · obtain ⟨l, rfl, hl, q⟩ := h
    have hz : (tx l).length ≤ sizeLine := by rw [tx_len]; exact Nat.le_of_lt (small1000 hl)
    refine ⟨_, (pss_cons (ps_for PassesOwn.never rfl (pi_range1 (by rfl) T.n_range (pa_cons (pe_callB call_len_str (by rfl) T.n_len (by decide +kernel) (pa_cons (pv 0) pa_nil)) pa_nil)) (pg_name (i := 1) sc_first_kink.nd rfl (Or.inl rfl))
        (pss_one (ps_if (pt_cmpR op_eq (pe_ix ix_str (pv 0) (pv 1) (fun _ _ => rfl)) (pe_df G_opposite (hr.mono (by decide)) (pa_cons (pe_ix ix_str (pv 0) (pe_op op_sub (pv 1) pe_int) (fun _ _ => rfl)) pa_nil)) (nomark _))
          (pss_one (ps_ret (pv 1)))
          pss_nil)))
      (pss_one (ps_ret pe_non))), ?_⟩
    refine ⟨_, rfl, _, rfl, hz, _, rfl, by omega, by rw [tx_len]; omega, ?_⟩
    refine for_range (lo := 0) (n := ((tx l).length : Int).toNat) (fun i σ H' => H' = H ∧ (∃ v, σ = [some (.str (tx l)), v]) ∧ ∀ j, j < i → kinkP l j = false) ⟨rfl, ⟨_, rfl⟩, fun j hj => absurd hj (Nat.not_lt_zero _)⟩ ?_ ?_
    · rintro i σ H' hi ⟨rfl, ⟨v, rfl⟩, hk⟩
      have hi' : i < l.length := by rw [tx_len] at hi; omega
      obtain ⟨a, ha⟩ := ahead_some hi'
      obtain ⟨b, hb⟩ : ∃ b, l[i]? = some b := ⟨_, List.getElem?_eq_getElem hi'⟩
      refine ⟨_, rfl, _, rfl, _, _, b.cp, rfl, rfl, hz, ?_, ?_⟩
      · rw [Int.zero_add]; exact at_nat l i b hb
      refine ⟨_, rfl, _, rfl, _, _, rfl, rfl, _, _, a.cp, rfl, rfl, hz, ?_, ?_⟩
      · rw [Int.zero_add]; exact at_ahead ha hi'
      refine ⟨a, rfl, rfl, _, rfl, ?_⟩
      show if decide (V.str (tx [b]) = V.str (tx [a.opp])) = true then _ else _
      rw [t1_dec]
      have ek : kinkP l i = decide (b = a.opp) := by
        unfold kinkP
        rw [hb, ha]
        by_cases e : b = a.opp
        · rw [e]; simp
        · simp [e]
      refine ite2 (fun c => ?_) (fun c => ?_)
      · refine ⟨_, rfl, ?_⟩
        rw [Int.zero_add]
        have e : kinkAt l = some i := find_range_some hi' (by rw [ek]; exact c) hk
        rw [e] at q
        exact q
      · refine ⟨rfl, ⟨_, rfl⟩, fun j hj => ?_⟩
        by_cases e : j = i
        · subst e
          rw [ek]
          exact Bool.eq_false_iff.mpr c
        · exact hk j (by omega)
    · rintro σ H' ⟨rfl, ⟨v, rfl⟩, hk⟩
      have e : kinkAt l = none := find_range_none (fun i hi => hk i (by rw [tx_len]; omega))
      rw [e] at q
      exact q
end
end K51

end K51A_text
section KkRules_text
set_option Elab.async false
set_option linter.all false
set_option maxRecDepth 100000
set_option maxHeartbeats 4000000
/-! Further rules: enumerate over a text -/
namespace Kk
open PySem PySem.Spec PyProof.Rows L2
/-- the signs of a text, each in a new pair with its number -/
def Iten (x : Str) : It where
  go := fun i _ => i < x.cps.size
  yld := fun i H v H' => ∃ T c, v = .ref T ∧ H T = none ∧ H' = upd H T (.tup [.int (i : Nat), .str ⟨#[c]⟩]) ∧ x.cps[i]? = some c
  stop := fun i _ => x.cps.size ≤ i
theorem turn_enumS {P : Program} {w : World} {K : PySem.W.Frag} {elts : List Expr} {kk : Nat} {tpos : Pos} (e it : Addr) (x : Str) (t : Tok) :
    Turn P w K (.Tuple elts kk tpos) (Iten x) [e, it] e (fun i h => i ≤ x.cps.size ∧ (∃ old, IsEnum h e it ((i : Nat) : Int) old) ∧ h.IsStrIter it (strIterType x) x t i ∧ e ≠ it) := by
  have two : ∀ b : Addr, b ∈ [e, it] → b = e ∨ b = it := fun b hb => by simpa using hb
  constructor
  case mem => simp
  case obj =>
    rintro i h ⟨_, ⟨old, he⟩, ⟨o, ho, hc, hd⟩, _⟩ b hb
    rcases two b hb with z | z
    · subst z; exact ⟨_, he, fun v q => nomatch q⟩
    · subst z; exact ⟨o, ho, fun v q => by rw [hd] at q; cases q⟩
  case keep =>
    rintro i h h' ⟨hle, ⟨old, he⟩, ⟨o, ho, r⟩, hne⟩ k
    exact ⟨hle, ⟨old, k e (by simp) _ he⟩, ⟨o, k it (by simp) o ho, r⟩, hne⟩
  case item =>
    intro X hP hw hK hc i pins s σ H E I hf st hg
    subst hP hw hK
    obtain ⟨_, ⟨old, he⟩, hit, hne⟩ := st
    have hel : e < s.heap.objs.size := Heap.lt_size he
    have hil : it < s.heap.objs.size := by
      obtain ⟨_, q, _⟩ := hit
      exact Heap.lt_size q
    refine wpAny_pyNext_enum_itemD (Draws.text (A := X.A.in1) (I.ok.hd hc) it x t) he hit hg hne (by simpa using hne) fun v h' tk hv ho hit' hT hsz hk => ?_
    obtain ⟨c, u, hx, ev⟩ := hv
    subst ev
    refine ⟨_, rfl, wpAny_letOwnedTupleGo_enum (s := ⟨h', s.gens, s.drawn, tk + 1, s.os⟩) ho fun h2 he2 sb => ?_⟩
    have hT2 : h2.get? s.heap.objs.size = some { cls := .type "tuple", data := .seq #[.int i tk, .str ⟨#[c]⟩ u] } := (sb.2 _ (Nat.ne_of_gt hel)).trans hT
    have new : ObjOk X.prog X.w (upd H s.heap.objs.size (.tup [.int (i : Nat), .str ⟨#[c]⟩])) h2 s.heap.objs.size (.tup [.int (i : Nat), .str ⟨#[c]⟩]) :=
      ⟨(by decide : 2 ≤ sizeLine), [.int i tk, .str ⟨#[c]⟩ u], .cons ⟨_, rfl⟩ (.cons ⟨_, rfl⟩ .nil), ⟨_, hT2, rfl, _, rfl⟩⟩
    have J : Inv X pins σ (upd H s.heap.objs.size (.tup [.int (i : Nat), .str ⟨#[c]⟩])) ⟨h2, s.gens, s.drawn, tk + 1, s.os⟩ :=
      I.turnedNew (ch := [e, it]) (fun b ob hb q => (sb.2 b (fun z => hb (by simp [z]))).trans (hk b ob (fun z => hb (by simp [z])) (fun z => hb (by simp [z])) q)) hf (Nat.le_refl _) new
    refine ⟨.ref s.heap.objs.size, _, J, rfl, ⟨_, c, rfl, I.hok.fresh (Nat.le_refl _), rfl, hx⟩, ⟨hg, ⟨.str ⟨#[c]⟩ u, ?_⟩, ?_, hne⟩, fun b hb => ?_⟩
    · have e1 : ((i + 1 : Nat) : Int) = (i : Int) + 1 := by omega
      rw [e1]
      exact he2
    · obtain ⟨o, q1, q2⟩ := hit'
      exact ⟨o, (sb.2 it (Ne.symm hne)).trans q1, q2⟩
    · have hb2 : b < s.heap.objs.size := by
        rcases two b hb with z | z
        · subst z; exact hel
        · subst z; exact hil
      rw [upd_ne (Nat.ne_of_lt hb2)]
      exact (hf b hb).1
  case done =>
    intro X hP hw hK hc i pins s σ H E I hf st hg
    subst hP hw hK
    obtain ⟨hle, ⟨old, he⟩, hit, hne⟩ := st
    have hi : i = x.cps.size := Nat.le_antisymm hle hg
    subst hi
    obtain ⟨f0, f1, f2, f3, f4, f5⟩ := hf it (by simp)
    exact wpAny_pyNext_enum_endD (Draws.text (A := X.A.in1) (I.ok.hd hc) it x t) he hit fun h' eb => ⟨rfl, I.turned (t' := s.toks) (fun b o hb q => eb b o hb q) f0 f1 f3 f4 f5⟩
  case self =>
    rintro A i s Q E ⟨_, ⟨_, he⟩, _⟩ h
    exact wpAny_pyIter_enum he h
def iEnumS (ta : TA) : TI := fun σ H R => ta σ H fun vs H1 => ∃ x, vs = [.str x] ∧ R (Iten x) H1
theorem pi_enumS {X : Cx} {e : Expr} {ta : TA} {p pos tpos : Pos} {elts : List Expr} {kk : Nat} (hg : Gl X "enumerate") (hm : X.mg "enumerate" = none) (ha : PA X [e] ta) (hs : starEach [e] X.env = [(false, eval e X.env)] := by rfl) :
    PI X (.Tuple elts kk tpos) (.Call (.Name "enumerate" p) [e] [] pos) (iEnumS ta) := by
  constructor
  intro pins s σ H R I h
  refine Call_ (ld_blt I hg hm boot_enumerate (PyProof.Rows.callWith_type1 (thn (ha.run pos pins s σ H _ I h) ?_) hs rfl))
  rintro us s1 ⟨vs, H1, I1, r1, x, ex, q⟩
  subst ex
  obtain ⟨u, rfl, ⟨t, rfl⟩⟩ := vals1 r1
  refine call_enumerate_str fun h' he hit hsz hk => wpAny_pyIter_enum he ?_
  have J : Inv X pins σ H1 ⟨h', s1.gens, s1.drawn, s1.toks, s1.os⟩ := I1.kept (t' := s1.toks) hk
  refine ⟨s1.heap.objs.size + 1, [s1.heap.objs.size + 1, s1.heap.objs.size], _, _, H1, rfl, J, turn_enumS (s1.heap.objs.size + 1) s1.heap.objs.size x t, ⟨Nat.zero_le _, ⟨.none, he⟩, hit, Nat.succ_ne_self _⟩, fun b hb => ?_, q⟩
  have hle : s1.heap.objs.size ≤ b := by
    have z : b = s1.heap.objs.size + 1 ∨ b = s1.heap.objs.size := by simpa using hb
    rcases z with z | z
    · rw [z]; exact Nat.le_succ _
    · rw [z]; exact Nat.le_refl _
  exact I1.fpOk hle (I1.hok.fresh hle)
/-- the rule for such a loop: Pv i holds ahead of turn i -/
theorem for_enumS {x : Str} {g : TG} {tb : TS} {D : Ends} {σ : L2.St} {H : Hp} (Pv : Nat → L2.St → Hp → Prop) (h0 : Pv 0 σ H)
    (hs : ∀ i c σ H T, i < x.cps.size → x.cps[i]? = some c → Pv i σ H → H T = none → g (.ref T) σ (upd H T (.tup [.int (i : Nat), .str ⟨#[c]⟩])) fun σ2 H2 => tb { D with nx := fun σ' H' => Pv (i + 1) σ' H', ct := fun σ' H' => Pv (i + 1) σ' H', bk := D.nx } σ2 H2)
    (hd : ∀ σ H, Pv x.cps.size σ H → D.nx σ H) :
    ∃ W : Nat → Nat → L2.St → Hp → Prop, (∃ m, W 0 m σ H) ∧ ∀ i m σ H, W i m σ H → ((Iten x).stop i H ∧ D.nx σ H) ∨ ((Iten x).go i H ∧ ∃ N : L2.St → Hp → Prop, (∀ σ' H', N σ' H' → ∃ m', m' < m ∧ W (i + 1) m' σ' H') ∧ ∀ v H', (Iten x).yld i H v H' → g v σ H' fun σ2 H2 => tb { D with nx := N, ct := N, bk := D.nx } σ2 H2) := by
  refine ⟨fun i m σ H => i + m = x.cps.size ∧ Pv i σ H, ⟨x.cps.size, Nat.zero_add _, h0⟩, fun i m σ H ⟨em, hp⟩ => ?_⟩
  by_cases hi : i < x.cps.size
  · refine .inr ⟨hi, fun σ' H' => Pv (i + 1) σ' H', fun σ' H' hn => ⟨m - 1, by omega, by omega, hn⟩, fun v H' hy => ?_⟩
    obtain ⟨T, c, rfl, hT, rfl, hc⟩ := hy
    exact hs i c σ H T hi hc hp hT
  · have e : i = x.cps.size := by omega
    subst e
    exact .inl ⟨Nat.le_refl _, hd σ H hp⟩
end Kk

end KkRules_text
section K51B_text
set_option Elab.async false
set_option linter.all false
set_option maxRecDepth 100000
set_option maxHeartbeats 4000000
namespace K51
open PySem PySem.Spec PyProof.Rows L2 Kk
section
variable {P : Program} {w : World} {K : PySem.W.Frag} {mg : Str → Option Value} {base : Heap}
/-! ### end_of -/
def sp_end_of : Sp := fun vs H Q _ => ∃ l : List D, vs = [.str (tx l)] ∧ ∀ p, H p = none → Q (.ref p) (upd H p (.tup [.int (endX l), .int (endY l)]))
abbrev N_end_of : List Str := ["strokes", "x"]
abbrev P_end_of : List Str := ["strokes"]
theorem sc_end_of : FnScope N_end_of P_end_of (defScope s_end_of) := ⟨rfl, rfl, rfl, by decide +kernel, rfl, by decide +kernel, by decide +kernel⟩
theorem d_end_of (T : Tx K mg) : Df P w K mg base 1 "end_of" P_end_of sp_end_of := by
  refine df_of T.F_end_of sc_end_of (fun vs H Q E h => ?_) (fun _ _ _ _ _ _ us hl => match us, hl with | [_], _ => rfl) (fun f cdv A outer s H vs Q E hr h => ?_)
  · obtain ⟨a, rfl, _⟩ := h
    rfl
  · obtain ⟨l, rfl, q⟩ := h
    refine ⟨_, (pss_cons (ps_set (i := 1) sc_end_of.nd rfl (Or.inl rfl) (pe_op op_sub (pe_bm PySem.F.plainAttrs_str PySem.F.slot_str_count PySem.F.type_str_count mt_count (pv 0) (pa_cons pe_str pa_nil)) (pe_bm PySem.F.plainAttrs_str PySem.F.slot_str_count PySem.F.type_str_count mt_count (pv 0) (pa_cons pe_str pa_nil))))
      (pss_one (ps_ret (pe_tup (pa_cons (pv 1) (pa_cons (pe_op op_sub (pe_bm PySem.F.plainAttrs_str PySem.F.slot_str_count PySem.F.type_str_count mt_count (pv 0) (pa_cons pe_str pa_nil)) (pe_bm PySem.F.plainAttrs_str PySem.F.slot_str_count PySem.F.type_str_count mt_count (pv 0) (pa_cons pe_str pa_nil))) pa_nil)))))), ?_⟩
    refine ⟨_, rfl, rfl, _, _, rfl, rfl, _, rfl, rfl, _, _, rfl, rfl, _, _, rfl, rfl, ?_⟩
    refine ⟨_, rfl, _, rfl, rfl, _, _, rfl, rfl, _, rfl, rfl, _, _, rfl, rfl, _, _, rfl, rfl, (by decide : 2 ≤ sizeLine), fun p hp => ?_⟩
    have q := q p hp
    rw [lE, lN, lS, lW, txt_count, txt_count, txt_count, txt_count]
    exact q
/-! ### begun -/
def sp_begun : Sp := fun vs H Q _ => ∃ (l : List D) (k : Nat), vs = [.str (tx l), .int (k : Nat)] ∧ l.length ≤ 1000 ∧ Q (.str (tx (rot l k))) H
abbrev N_begun : List Str := ["strokes", "place"]
abbrev P_begun : List Str := ["strokes", "place"]
theorem sc_begun : FnScope N_begun P_begun (defScope s_begun) := ⟨rfl, rfl, rfl, by decide +kernel, rfl, by decide +kernel, by decide +kernel⟩
theorem d_begun (T : Tx K mg) : Df P w K mg base 1 "begun" P_begun sp_begun := by
  refine df_of T.F_begun sc_begun (fun vs H Q E h => ?_) (fun _ _ _ _ _ _ us hl => match us, hl with | [_, _], _ => rfl) (fun f cdv A outer s H vs Q E hr h => ?_)
  · obtain ⟨l, k, rfl, _⟩ := h
    rfl
  · obtain ⟨l, k, rfl, hl, q⟩ := h
    have hz : (tx l).length ≤ sizeLine := by rw [tx_len]; exact Nat.le_of_lt (small1000 hl)
    refine ⟨_, (pss_one (ps_ret (pe_op op_add_str (pe_slice sl_str (pv 0) (po_some (pv 1)) po_none) (pe_slice sl_str (pv 0) po_none (po_some (pv 1)))))), ?_⟩
    refine ⟨_, rfl, _, rfl, _, rfl, _, rfl, hz, _, rfl, _, rfl, _, rfl, _, rfl, hz, _, _, rfl, rfl, ?_, ?_⟩
    · rw [cut_from, cut_to, tx_len, tx_len, List.length_drop, List.length_take]
      exact Nat.le_of_lt (small1000 (by omega))
    · rw [cut_from, cut_to, tx_app']
      exact q
/-! ### least_beginning -/
def sp_least_beginning : Sp := fun vs H Q _ => ∃ l : List D, vs = [.str (tx l)] ∧ l.length ≤ 1000 ∧ Q (.int (leastB l : Nat)) H
abbrev N_least_beginning : List Str := ["strokes", "best", "place"]
abbrev P_least_beginning : List Str := ["strokes"]
theorem sc_least_beginning : FnScope N_least_beginning P_least_beginning (defScope s_least_beginning) := ⟨rfl, rfl, rfl, by decide +kernel, rfl, by decide +kernel, by decide +kernel⟩
theorem d_least_beginning (T : Tx K mg) : Df P w K mg base 1 "least_beginning" P_least_beginning sp_least_beginning := by
  refine df_of T.F_least_beginning sc_least_beginning (fun vs H Q E h => ?_) (fun _ _ _ _ _ _ us hl => match us, hl with | [_], _ => rfl) (fun f cdv A outer s H vs Q E hr h => ?_)
  · obtain ⟨l, rfl, _⟩ := h
    rfl
  · obtain ⟨l, rfl, hl, q⟩ := h
    have hz : (tx l).length ≤ sizeLine := by rw [tx_len]; exact Nat.le_of_lt (small1000 hl)
    have hc : ∀ k : Nat, (tx (l.drop k)).length + (tx (l.take k)).length ≤ sizeLine := fun k => by
      rw [tx_len, tx_len, List.length_drop, List.length_take]
      exact Nat.le_of_lt (small1000 (by omega))
    refine ⟨_, (pss_cons (ps_set (i := 1) sc_least_beginning.nd rfl (Or.inl rfl) pe_int)
      (pss_cons (ps_for PassesOwn.never rfl (pi_range2 (by rfl) T.n_range (pa_cons pe_int (pa_cons (pe_callB call_len_str (by rfl) T.n_len (by decide +kernel) (pa_cons (pv 0) pa_nil)) pa_nil))) (pg_name (i := 2) sc_least_beginning.nd rfl (Or.inl rfl))
        (pss_one (ps_if (pt_cmpR op_lt_str (pe_op op_add_str (pe_slice sl_str (pv 0) (po_some (pv 2)) po_none) (pe_slice sl_str (pv 0) po_none (po_some (pv 2)))) (pe_op op_add_str (pe_slice sl_str (pv 0) (po_some (pv 1)) po_none) (pe_slice sl_str (pv 0) po_none (po_some (pv 1)))) (nomark _))
          (pss_one (ps_set (i := 1) sc_least_beginning.nd rfl (Or.inl rfl) (pv 2)))
          pss_nil)))
      (pss_one (ps_ret (pv 1))))), ?_⟩
    refine ⟨_, rfl, _, rfl, hz, _, _, rfl, ⟨by decide, by decide, by rw [tx_len]; omega, by rw [tx_len]; omega⟩, ?_⟩
    refine for_range (lo := 1) (n := (((tx l).length : Int) - 1).toNat) (fun i σ H' => H' = H ∧ ∃ v, σ = [some (.str (tx l)), some (.int (bestUp l i : Nat)), v]) ⟨rfl, _, rfl⟩ ?_ ?_
    · rintro i σ H' hi ⟨rfl, v, rfl⟩
      rw [tx_len] at hi
      have e1 : (1 : Int) + (i : Nat) = ((i + 1 : Nat) : Int) := by omega
      rw [e1]
      refine ⟨_, rfl, _, rfl, _, rfl, _, rfl, hz, _, rfl, _, rfl, _, rfl, _, rfl, hz, _, _, rfl, rfl, ?_, ?_⟩
      · rw [cut_from, cut_to]; exact hc _
      refine ⟨_, rfl, _, rfl, _, rfl, _, rfl, hz, _, rfl, _, rfl, _, rfl, _, rfl, hz, _, _, rfl, rfl, ?_, ?_⟩
      · rw [cut_from, cut_to]; exact hc _
      refine ⟨_, _, rfl, rfl, _, rfl, ?_⟩
      rw [cut_from, cut_to, cut_from, cut_to, tx_app', tx_app', lt_tx]
      refine ite2 (fun c => ?_) (fun c => ?_)
      · refine ⟨_, rfl, rfl, some (.int ((i + 1 : Nat) : Int)), ?_⟩
        have e : bestUp l (i + 1) = i + 1 := by unfold bestUp; exact if_pos c
        rw [e]
        rfl
      · refine ⟨rfl, some (.int ((i + 1 : Nat) : Int)), ?_⟩
        have e : bestUp l (i + 1) = bestUp l i := by
          show (if ltT (rot l (i + 1)) (rot l (bestUp l i)) = true then i + 1 else bestUp l i) = _
          exact if_neg c
        rw [e]
        rfl
    · rintro σ H' ⟨rfl, v, rfl⟩
      refine ⟨_, rfl, ?_⟩
      have e : (((tx l).length : Int) - 1).toNat = l.length - 1 := by rw [tx_len]; omega
      rw [e]
      exact q
/-! ### step_between -/
def sp_step_between : Sp := fun vs H Q _ => ∃ a b : D, vs = [.str (tx [a]), .str (tx [b])] ∧ Q (.int (stp a b)) H
abbrev N_step_between : List Str := ["letter", "other"]
abbrev P_step_between : List Str := ["letter", "other"]
theorem sc_step_between : FnScope N_step_between P_step_between (defScope s_step_between) := ⟨rfl, rfl, rfl, by decide +kernel, rfl, by decide +kernel, by decide +kernel⟩
theorem d_step_between (T : Tx K mg) : Df P w K mg base 2 "step_between" P_step_between sp_step_between := by
  have G_heading : Df P w K mg base 1 "heading" P_heading sp_heading := d_heading T
  refine df_of T.F_step_between sc_step_between (fun vs H Q E h => ?_) (fun _ _ _ _ _ _ us hl => match us, hl with | [_, _], _ => rfl) (fun f cdv A outer s H vs Q E hr h => ?_)
  · obtain ⟨a, b, rfl, _⟩ := h
    rfl
  · obtain ⟨a, b, rfl, q⟩ := h
    refine ⟨_, (pss_one (ps_ret (pe_op op_sub (pe_op op_mod (pe_op op_add (pe_op op_sub (pe_df G_heading (hr.mono (by decide)) (pa_cons (pv 1) pa_nil)) (pe_df G_heading (hr.mono (by decide)) (pa_cons (pv 0) pa_nil))) pe_int) (pe_globI T.m_QUARTERS)) pe_int))), ?_⟩
    refine ⟨_, rfl, b, rfl, _, rfl, a, rfl, _, _, rfl, rfl, _, _, rfl, rfl, _, _, rfl, rfl, (show (0 : Int) < 4 by decide), _, _, rfl, rfl, ?_⟩
    exact q
/-! ### is_whole, is_among -/
def sp_is_whole : Sp := fun vs H Q _ => ∃ i : Int, vs = [.int i] ∧ Q (.bl true) H
abbrev N_is_whole : List Str := ["value"]
abbrev P_is_whole : List Str := ["value"]
theorem sc_is_whole : FnScope N_is_whole P_is_whole (defScope s_is_whole) := ⟨rfl, rfl, rfl, by decide +kernel, rfl, by decide +kernel, by decide +kernel⟩
theorem d_is_whole (T : Tx K mg) : Df P w K mg base 1 "is_whole" P_is_whole sp_is_whole := by
  refine df_of T.F_is_whole sc_is_whole (fun vs H Q E h => ?_) (fun _ _ _ _ _ _ us hl => match us, hl with | [_], _ => rfl) (fun f cdv A outer s H vs Q E hr h => ?_)
  · obtain ⟨i, rfl, _⟩ := h
    rfl
  · obtain ⟨i, rfl, q⟩ := h
    refine ⟨_, (pss_one (ps_ret (pe_and (pe_callB call_isi (by rfl) T.n_isinstance (by decide +kernel) (pa_cons (pv 0) (pa_cons (pe_bltn (v := .ty "int") (by rfl) T.n_int (by decide +kernel) rfl) pa_nil))) (pe_one (pe_not (pe_callB call_isi (by rfl) T.n_isinstance (by decide +kernel) (pa_cons (pv 0) (pa_cons (pe_bltn (v := .ty "bool") (by rfl) T.n_bool (by decide +kernel) rfl) pa_nil)))))))), ?_⟩
    refine ⟨_, rfl, _, _, _, _, true, rfl, .ty _, .base (.int _), kit_ty (by decide +kernel), true, rfl, iteT ?_⟩
    refine ⟨_, rfl, _, _, _, _, false, rfl, .ty _, .base (.int _), kit_ty (by decide +kernel), false, rfl, ?_⟩
    exact q
end
end K51

end K51B_text
section KkLine_text
set_option Elab.async false
set_option linter.all false
set_option maxRecDepth 100000
set_option maxHeartbeats 4000000
/-! Rules for an instance of a class with slots: len, methods, making -/
namespace Kk
open PySem PySem.Spec PyProof.Rows L2
/-- a method of such an instance, by its positional promise -/
structure Mt (P : Program) (w : World) (K : PySem.W.Frag) (mg : Str → Option Value) (base : Heap) (k : Nat) (f : Addr) (sp : Sp) : Prop where
  run : FnR P w K mg base CX0 k f sp
section
variable {P : Program} {w : World} {K : PySem.W.Frag} {mg : Str → Option Value} {base : Heap}
theorem mt_of {q x : Str} {st : Stmt} {N ps : List Str} {k : Nat} {sp : Sp} {f : Addr} (F : ∃ fd, FunD K x q (defArgs st) (defBody st) (defScope st) [] [] f fd) (S : FnScope N ps (defScope st)) (len : ∀ vs H Q E, sp vs H Q E → vs.length = ps.length)
    (hb : ∀ (kV doc pm : Value) (an : Option Addr) (cdv ct : Value) (us : List Value), us.length = ps.length → bindArgs (PySem.W.fnOf x q (defArgs st) (defBody st) (defScope st) .none kV doc pm an cdv ct) ⟨us, []⟩ = pure (ps.zip us))
    (hbody : ∀ (cdv : Value) (A : Around) (outer : List Env) (s : Shared) (H : Hp) (vs : List V) (Q : VK) (E : XK), Room k (A.deeper (envOfC q (defScope st) s.heap.objs.size f cdv)) → sp vs H Q E →
      ∃ t, PSs (cxOf CX0 P w K mg base N q (defScope st) f cdv A outer s H E).nox (defBody st) t ∧ t { nx := fun _ H' => Q .non H', rt := Q } (start N vs) H) : Mt P w K mg base (k + 1) f sp := by
  obtain ⟨fd, D⟩ := F
  have G : FnOk P w K mg base CX0 (k + 1) f fd ps sp := D.ok S len fun cdv A outer s H vs Q E hr h => by
    obtain ⟨t, h1, h2⟩ := hbody cdv A outer s H vs Q E hr h
    exact ⟨t, h1.nox, h2⟩
  exact ⟨(G.raw (D.bindsN hb) .nil).imp fun vs H Q E h => by rw [List.append_nil]; exact h⟩
theorem Mt.mono {j k : Nat} {f : Addr} {sp : Sp} (M : Mt P w K mg base j f sp) (h : j ≤ k) : Mt P w K mg base k f sp := ⟨M.run.mono h⟩
end
section
variable {prog : Program} {w : World} {A : Around} {E : Value → Shared → Prop} {s : Shared}
theorem len_inst {x f : Addr} {Q : Value → Shared → Prop} (sp : PySem.W.Looks (model prog w) s.heap (specialOf (.ref x) "__len__") (some (.ref f))) (bd : PySem.W.Looks (model prog w) s.heap (bindSpecial (.ref f) (.ref x)) (.ref f, [.ref x]))
    (hcall : wpAny (model prog w) A.in1 (call (.ref f) [.ref x]) (fun r s' => ∃ n u, r = .int n u ∧ 0 ≤ n ∧ n < 2 ^ 63 ∧ Q (.int n s'.toks) { s' with toks := s'.toks + 1 }) E s) : wpAny (model prog w) A (call (.builtin "len") [.ref x]) Q E s := by
  refine Calls.call_function_entry kind_len plain_len entry_len (args_len1 _) ?_
  unfold Builtin.«len»
  refine wpAny_bind (m := oneArg "len" _) (wpAny_pure ?_)
  refine wpAny_bind (m := callSpecial? (.ref x) (Str.ofString "__len__")) ?_
  simp only [callSpecial?]
  refine wpAny_bind (sp.here (wpAny_holding (wpAny_bind (bd.here ?_))))
  have fin : wpAny (model prog w) A.in1 (call (.ref f) [.ref x]) (fun r s' => ∃ n u, r = .int n u ∧ 0 ≤ n ∧ n < 2 ^ 63 ∧ Q (.int n s'.toks) { s' with toks := s'.toks + 1 }) E s := hcall
  refine wpAny_bind (wpAny_mono fin (fun r s' hr => ?_) fun _ _ y => y)
  obtain ⟨n, u, rfl, h0, h1, hq⟩ := hr
  refine wpAny_pure ?_
  refine wpAny_bind (wpAny_holding (wpAny_pure ?_))
  refine wpAny_bind (wpAny_letGo ?_)
  show wpAny _ _ (if n < 0 then _ else _) _ _ _
  rw [if_neg (by omega)]
  show wpAny _ _ (if n ≥ 2 ^ 63 then _ else _) _ _ _
  rw [if_neg (by omega)]
  exact wpAny_bind (wpAny_mkInt (wpAny_pure ⟨_, rfl, hq⟩))
end
section
variable {X : Cx} {C g : Addr} {n : Nat} {sp : Sp}
/-- len(o), o an instance with slots whose class has its own __len__ -/
def rLenSl (C : Addr) (sp : Sp) : List V → Hp → VK → Prop := fun xs H Q => ∃ a dx vs, xs = [V.ref a] ∧ SlX.Slt H a C dx vs ∧ sp [.ref a] H (fun z H' => ∃ i : Int, z = .int i ∧ 0 ≤ i ∧ i < 2 ^ 63 ∧ Q z H') E0
theorem call_lenSl (hs : PySem.W.findIn X.K (.ref C) "__len__" = some (some (.ref g))) (hf : PySem.W.isFn X.K (.ref g) = true) (F : Mt X.prog X.w X.K X.mg X.base n g sp) (hr : Room (n + 1) X.A) : CallR X (.builtin "len") (rLenSl C sp) := by
  intro pins s σ H xs us Q I r h
  obtain ⟨a, dx, vs, rfl, hsl, q⟩ := h
  obtain ⟨u, rfl, ru⟩ := vals1 r
  cases (show u = Value.ref a from ru)
  obtain ⟨sl, od, _, J, _⟩ := SlX.slt_inst I hsl
  refine len_inst (J.type.andThen (PySem.W.looks_findIn I.kIn hs)) (PySem.W.bind_fn I.kIn (.ref a) (beq_iff_eq.mp hf)) ?_
  refine wpAny_mono (wpAny_call (SlX.run_at (us := [.ref a]) (ws := [.ref a]) F.run hr.in1 I.env0.in1 pass0 I (.cons rfl .nil) q)) (fun z s' hz => ?_) fun _ _ x => x
  obtain ⟨z', H', I', rz, i, ei, h0, h1, qz⟩ := hz
  subst ei
  obtain ⟨t, e⟩ := (show ∃ t, z = Value.int i t from rz)
  cases e
  exact ⟨i, t, rfl, h0, h1, .int i, H', I'.tok _, ⟨_, rfl⟩, qz⟩
end
end Kk

end KkLine_text
section K51C_text
set_option Elab.async false
set_option linter.all false
set_option maxRecDepth 100000
set_option maxHeartbeats 4000000
namespace K51
open PySem PySem.Spec PyProof.Rows L2 Kk SlX
section
variable {P : Program} {w : World} {K : PySem.W.Frag} {mg : Str → Option Value} {base : Heap}
theorem eqv_ii (a b c d : Int) : PyData.eqv (.tuple [.int a, .int b]) (.tuple [.int c, .int d]) = decide (a = c ∧ b = d) := by
  by_cases h1 : a = c
  · by_cases h2 : b = d
    · subst h1 h2; simp [PyData.eqv, PyData.eqvAll]
    · simp [PyData.eqv, PyData.eqvAll, h1, h2]
  · simp [PyData.eqv, PyData.eqvAll, h1]
theorem dp_ii {H : Hp} {p : Addr} {a b : Int} (h : H p = some (.tup [.int a, .int b])) : Dp K H (.ref p) (.tuple [.int a, .int b]) := .tup (SqT.of h) (.cons (.int _) (.cons (.int _) .nil))
/-! ### need_strokes -/
def sp_need_strokes : Sp := fun vs H Q _ => ∃ l : List D, vs = [.str (tx l)] ∧ Good l ∧ ∀ H', Same H H' → Q .non H'
abbrev N_need_strokes : List Str := ["strokes", "place", "letter"]
abbrev P_need_strokes : List Str := ["strokes"]
theorem sc_need_strokes : FnScope N_need_strokes P_need_strokes (defScope s_need_strokes) := ⟨rfl, rfl, rfl, by decide +kernel, rfl, by decide +kernel, by decide +kernel⟩
theorem notin_letters (a : D) : (!(!(Builtin.Str.occurrences (tx [.E, .N, .W, .S]) (tx [a]) 0 (tx [.E, .N, .W, .S]).length 1).isEmpty)) = false := by cases a <;> decide +kernel
theorem d_need_strokes (T : Tx K mg) : Df P w K mg base 4 "need_strokes" P_need_strokes sp_need_strokes := by
  have G_first_kink : Df P w K mg base 3 "first_kink" P_first_kink sp_first_kink := d_first_kink T
  have G_end_of : Df P w K mg base 1 "end_of" P_end_of sp_end_of := d_end_of T
  refine df_of T.F_need_strokes sc_need_strokes (fun vs H Q E h => ?_) (fun _ _ _ _ _ _ us hl => match us, hl with | [_], _ => rfl) (fun f cdv A outer s H vs Q E hr h => ?_)
  · obtain ⟨a, rfl, _⟩ := h
    rfl
  · obtain ⟨l, rfl, g, q⟩ := h
    have hz : (tx l).length ≤ sizeLine := by rw [tx_len]; exact Nat.le_of_lt (small1000 (Nat.le_trans g.le (by decide)))
    refine ⟨_, (pss_cons (ps_if (PW.pt (pw_or (pt_not (pt_val (pe_callB call_isi (by rfl) T.n_isinstance (by decide +kernel) (pa_cons (pv 0) (pa_cons (pe_bltn (v := .ty "str") (by rfl) T.n_str (by decide +kernel) rfl) pa_nil))))) (pw_or1 (pt_cmpR op_eq (pv 0) pe_str (nomark _)))))
        (pss_one ps_never)
        pss_nil)
      (pss_cons (ps_if (pt_cmpR op_gt (pe_callB call_len_str (by rfl) T.n_len (by decide +kernel) (pa_cons (pv 0) pa_nil)) (pe_globI T.m_MOST_STROKES) (nomark _))
        (pss_one ps_never)
        pss_nil)
      (pss_cons (ps_for PassesOwn.never rfl (pi_enumS (by rfl) T.n_enumerate (pa_cons (pv 0) pa_nil)) (pg_tup rfl (pgs_cons (pg_name (i := 1) sc_need_strokes.nd rfl (Or.inl rfl)) (pgs_cons (pg_name (i := 2) sc_need_strokes.nd rfl (Or.inl rfl)) pgs_nil)))
        (pss_one (ps_if (pt_cmpR op_notin_str (pv 2) (pe_globS T.m_LETTERS) (by rfl))
          (pss_one ps_never)
          pss_nil)))
      (pss_cons (ps_set (i := 1) sc_need_strokes.nd rfl (Or.inl rfl) (pe_df G_first_kink (hr.mono (by decide)) (pa_cons (pv 0) pa_nil)))
      (pss_cons (ps_if (pt_cmpR op_notN (pv 1) pe_non (nomark _))
        (pss_one ps_never)
        pss_nil)
      (pss_one (ps_if (pt_cmpR (op_neD hr.units) (pe_df G_end_of (hr.mono (by decide)) (pa_cons (pv 0) pa_nil)) (pe_tup (pa_cons pe_int (pa_cons pe_int pa_nil))) (nomark _))
        (pss_one ps_never)
        pss_nil))))))), ?_⟩
    refine ⟨_, rfl, _, _, _, _, true, rfl, .ty _, .base (.str _), kit_ty (by decide +kernel), true, rfl, ?_⟩
    refine iteF ?_
    refine ⟨_, rfl, rfl, _, rfl, ?_⟩
    have e0 : decide (V.str (tx l) = V.str "") = false := by
      rw [lNil, tx_dec]
      exact decide_eq_false g.ne
    rw [e0]
    refine iteF ?_
    -- len(strokes) > MOST_STROKES
    refine ⟨_, rfl, _, rfl, hz, _, _, rfl, rfl, _, rfl, ?_⟩
    have e1 : decide ((80 : Int) < ((tx l).length : Nat)) = false := by
      rw [tx_len]
      have := g.le
      exact decide_eq_false (by omega)
    rw [e1]
    refine iteF ?_
    -- the letters
    refine ⟨_, rfl, _, rfl, ?_⟩
    refine for_enumS (fun i σ H' => Same H H' ∧ ∃ v1 v2, σ = [some (.str (tx l)), v1, v2]) ⟨Same.refl H, _, _, rfl⟩ ?_ ?_
    · rintro i c σ H' p hi hc ⟨sm, v1, v2, rfl⟩ hp
      obtain ⟨a, ha⟩ : ∃ a : D, c = a.cp := by
        have h2 : (tx l).cps.toList[i]? = some c := by rw [← hc]; simp
        rw [tx_toList, List.getElem?_map] at h2
        cases e : l[i]? with
        | none => rw [e] at h2; cases h2
        | some a => rw [e] at h2; exact ⟨a, (Option.some.inj h2).symm⟩
      subst ha
      refine ⟨p, _, rfl, SqT.of upd_same, rfl, _, _, rfl, _, _, rfl, rfl, ?_⟩
      refine ⟨_, rfl, _, _, rfl, rfl, _, rfl, ?_⟩
      rw [lENWS, one_tx, notin_letters]
      exact iteF ⟨sm.trans (same_upd hp), _, _, rfl⟩
    · rintro σ H' ⟨sm, v1, v2, rfl⟩
      refine ⟨_, rfl, l, rfl, Nat.le_trans g.le (by decide), ?_⟩
      rw [g.kink]
      refine ⟨_, rfl, rfl, _, rfl, iteF ?_⟩
      refine ⟨_, rfl, l, rfl, fun p hp => ?_⟩
      refine ⟨(by decide : 2 ≤ sizeLine), fun p2 hp2 => ?_⟩
      have npp : p ≠ p2 := ne_of_none upd_same hp2
      refine ⟨_, _, dp_ii (a := endX l) (b := endY l) (by rw [upd_ne npp, upd_same]), dp_ii (a := 0) (b := 0) upd_same, rfl, rfl, _, rfl, ?_⟩
      rw [eqv_ii, decide_eq_true ⟨g.x, g.y⟩]
      exact iteF (q _ ((sm.trans (same_upd hp)).trans (same_upd hp2)))
/-! ### Line -/
abbrev CL (K : PySem.W.Frag) : Addr := He.ga K "Line"
/-- a line of the stored text l stands at a -/
def LineAt (K : PySem.W.Frag) (H : Hp) (a : Addr) (l : List D) : Prop := ∃ dx, H a = some (SlO a (CL K) dx [some (.str (tx l))]) ∧ H dx = some (.xd [])
theorem LineAt.same {H H' : Hp} {a : Addr} {l : List D} (h : LineAt K H a l) (s : Same H H') : LineAt K H' a l := by
  obtain ⟨dx, h1, h2⟩ := h
  exact ⟨dx, s _ _ h1, s _ _ h2⟩
theorem LineAt.slt {H : Hp} {a : Addr} {l : List D} (h : LineAt K H a l) : ∃ dx, Slt H a (CL K) dx [some (.str (tx l))] := by
  obtain ⟨dx, h1, h2⟩ := h
  exact ⟨dx, .inr ⟨h1, h2⟩⟩
def sp_Line_init (C : Addr) : Sp := fun vs H Q _ => ∃ (x dx : Addr) (l : List D), vs = [.ref x, .str (tx l)] ∧ Good l ∧ H x = some (.ins C dx []) ∧ H dx = some (.own x) ∧ dx ≠ x ∧
  ∀ H', Same H H' → Q .non (slH H' x C dx [some (.str (tx (norm l)))])
abbrev N_Line_init : List Str := ["self", "strokes"]
abbrev P_Line_init : List Str := ["self", "strokes"]
theorem sc_Line_init : FnScope N_Line_init P_Line_init (defScope s_Line_init) := ⟨rfl, rfl, rfl, by decide +kernel, rfl, by decide +kernel, by decide +kernel⟩
theorem m_init (T : Tx K mg) : Mt P w K mg base 5 (He.ma K (CL K) "__init__") (sp_Line_init (CL K)) := by
  have G_need_strokes : Df P w K mg base 4 "need_strokes" P_need_strokes sp_need_strokes := d_need_strokes T
  have G_least_beginning : Df P w K mg base 1 "least_beginning" P_least_beginning sp_least_beginning := d_least_beginning T
  have G_begun : Df P w K mg base 1 "begun" P_begun sp_begun := d_begun T
  refine mt_of T.L_init sc_Line_init (fun vs H Q E h => ?_) (fun _ _ _ _ _ _ us hl => match us, hl with | [_, _], _ => rfl) (fun cdv A outer s H vs Q E hr h => ?_)
  · obtain ⟨x, dx, l, rfl, _⟩ := h
    rfl
  · obtain ⟨x, dx, l, rfl, g, hx, hdx, hne, q⟩ := h
    refine ⟨_, (pss_cons (ps_expr (pe_df G_need_strokes (hr.mono (by decide)) (pa_cons (pv 1) pa_nil)))
      (pss_one (ps_sl (pv 0) (pe_df G_begun (hr.mono (by decide)) (pa_cons (pv 1) (pa_cons (pe_df G_least_beginning (hr.mono (by decide)) (pa_cons (pv 1) pa_nil)) pa_nil)))))), ?_⟩
    have hl : l.length ≤ 1000 := Nat.le_trans g.le (by decide)
    refine ⟨_, rfl, l, rfl, g, fun H1 s1 => ?_⟩
    refine ⟨_, rfl, _, rfl, l, rfl, hl, l, _, rfl, hl, _, rfl, x, _, dx, _, [], 0, rfl, .inl ⟨s1 _ _ hx, rfl⟩, T.L_cls, T.L_slot, ?_⟩
    exact q H1 s1
def sp_Line_len (K : PySem.W.Frag) : Sp := fun vs H Q _ => ∃ (x : Addr) (l : List D), vs = [.ref x] ∧ LineAt K H x l ∧ l.length ≤ 1000 ∧ Q (.int (l.length : Nat)) H
abbrev N_Line_len : List Str := ["self"]
abbrev P_Line_len : List Str := ["self"]
theorem sc_Line_len : FnScope N_Line_len P_Line_len (defScope s_Line_len) := ⟨rfl, rfl, rfl, by decide +kernel, rfl, by decide +kernel, by decide +kernel⟩
theorem m_len (T : Tx K mg) : Mt P w K mg base 1 (He.ma K (CL K) "__len__") (sp_Line_len K) := by
  refine mt_of T.L_len sc_Line_len (fun vs H Q E h => ?_) (fun _ _ _ _ _ _ us hl => match us, hl with | [_], _ => rfl) (fun cdv A outer s H vs Q E hr h => ?_)
  · obtain ⟨x, l, rfl, _⟩ := h
    rfl
  · obtain ⟨x, l, rfl, hL, hl, q⟩ := h
    have hz : (tx l).length ≤ sizeLine := by rw [tx_len]; exact Nat.le_of_lt (small1000 hl)
    obtain ⟨dx, hs⟩ := hL.slt
    refine ⟨_, (pss_one (ps_ret (pe_callB call_len_str (by rfl) T.n_len (by decide +kernel) (pa_cons (pe_sl (pv 0)) pa_nil)))), ?_⟩
    refine ⟨_, rfl, x, _, dx, _, _, 0, _, rfl, hs, T.L_cls, T.L_slot, rfl, _, rfl, hz, ?_⟩
    rw [tx_len]
    exact q
/-- the sum of the steps of the first n places -/
def stpAt (l : List D) (i : Nat) : Int := match ahead l i, l[i]? with
  | some a, some b => stp a b
  | _, _ => 0
def stpUp (l : List D) : Nat → Int
  | 0 => 0
  | n + 1 => stpUp l n + stpAt l n
def turns (l : List D) : Int := stpUp l l.length / 4
def sp_Line_turns (K : PySem.W.Frag) : Sp := fun vs H Q _ => ∃ (x : Addr) (l : List D), vs = [.ref x] ∧ LineAt K H x l ∧ l.length ≤ 1000 ∧ ∀ H', Same H H' → Q (.int (turns l)) H'
abbrev N_Line_turns : List Str := ["self", "found", "place", "letter"]
abbrev P_Line_turns : List Str := ["self"]
theorem sc_Line_turns : FnScope N_Line_turns P_Line_turns (defScope s_Line_turns) := ⟨rfl, rfl, rfl, by decide +kernel, rfl, by decide +kernel, by decide +kernel⟩
theorem m_turns (T : Tx K mg) : Mt P w K mg base 3 (He.ma K (CL K) "turns") (sp_Line_turns K) := by
  have G_step_between : Df P w K mg base 2 "step_between" P_step_between sp_step_between := d_step_between T
  refine mt_of T.L_turns sc_Line_turns (fun vs H Q E h => ?_) (fun _ _ _ _ _ _ us hl => match us, hl with | [_], _ => rfl) (fun cdv A outer s H vs Q E hr h => ?_)
  · obtain ⟨x, l, rfl, _⟩ := h
    rfl
  · obtain ⟨x, l, rfl, hL, hl, q⟩ := h
    have hz : (tx l).length ≤ sizeLine := by rw [tx_len]; exact Nat.le_of_lt (small1000 hl)
    obtain ⟨dx, hs⟩ := hL.slt
    refine ⟨_, (pss_cons (ps_set (i := 1) sc_Line_turns.nd rfl (Or.inl rfl) pe_int)
      (pss_cons (ps_for PassesOwn.never rfl (pi_enumS (by rfl) T.n_enumerate (pa_cons (pe_sl (pv 0)) pa_nil)) (pg_tup rfl (pgs_cons (pg_name (i := 2) sc_Line_turns.nd rfl (Or.inl rfl)) (pgs_cons (pg_name (i := 3) sc_Line_turns.nd rfl (Or.inl rfl)) pgs_nil)))
        (pss_one (ps_aug (i := 1) sc_Line_turns.nd rfl (Or.inl rfl) (pe_df G_step_between (hr.mono (by decide)) (pa_cons (pe_ix ix_str (pe_sl (pv 0)) (pe_op op_sub (pv 2) pe_int) (fun _ _ => rfl)) (pa_cons (pv 3) pa_nil))) ip_add)))
      (pss_one (ps_ret (pe_op op_fdiv (pv 1) (pe_globI T.m_QUARTERS)))))), ?_⟩
    refine ⟨_, rfl, x, _, dx, _, _, 0, _, rfl, hs, T.L_cls, T.L_slot, rfl, _, rfl, ?_⟩
    refine for_enumS (fun i σ H' => Same H H' ∧ ∃ v1 v2, σ = [some (.ref x), some (.int (stpUp l i)), v1, v2]) ⟨Same.refl H, _, _, rfl⟩ ?_ ?_
    · rintro i c σ H' p hi hc ⟨sm, v1, v2, rfl⟩ hp
      have hi2 : i < l.length := by
        have e : (tx l).cps.size = l.length := by simp [tx]
        omega
      obtain ⟨b, hb⟩ : ∃ b, l[i]? = some b := ⟨_, List.getElem?_eq_getElem hi2⟩
      obtain ⟨a, ha⟩ := ahead_some hi2
      have ec : c = b.cp := by
        have h2 : (tx l).cps.toList[i]? = some c := by rw [← hc]; simp
        rw [tx_toList, List.getElem?_map, hb] at h2
        exact (Option.some.inj h2).symm
      subst ec
      have sm2 : Same H (upd H' p (.tup [.int (i : Nat), .str ⟨#[b.cp]⟩])) := sm.trans (same_upd hp)
      obtain ⟨dx2, hs2⟩ := (hL.same sm2).slt
      refine ⟨p, _, rfl, SqT.of upd_same, rfl, _, _, rfl, _, _, rfl, rfl, ?_⟩
      refine ⟨_, rfl, _, rfl, x, _, dx2, _, _, 0, _, rfl, hs2, T.L_cls, T.L_slot, rfl, _, rfl, _, _, rfl, rfl, _, _, a.cp, rfl, rfl, hz, at_ahead ha hi2, ?_⟩
      refine ⟨_, rfl, a, b, rfl, _, _, rfl, rfl, ?_⟩
      refine ⟨sm2, some (.int (i : Nat)), some (.str ⟨#[b.cp]⟩), ?_⟩
      have e : stpUp l (i + 1) = stpUp l i + stp a b := by
        show stpUp l i + stpAt l i = _
        unfold stpAt
        rw [ha, hb]
      rw [e]
      rfl
    · rintro σ H' ⟨sm, v1, v2, rfl⟩
      have e : (tx l).cps.size = l.length := by simp [tx]
      rw [e]
      refine ⟨_, rfl, _, _, rfl, rfl, (show CDiv _ 4 from ⟨by decide, by decide⟩), ?_⟩
      exact q _ sm
end
/-! ### the rules -/
section
variable {X : Cx}
theorem line_made {K : PySem.W.Frag} {H : Hp} {Q : VK} {l : List D} {v : V} (ev : v = .str (tx l)) (g : Good l) (q : ∀ x H', H x = none → Same H H' → LineAt K H' x (norm l) → Q (.ref x) H') :
    ∀ x dx, H x = none → H dx = none → dx ≠ x → sp_Line_init (CL K) (V.ref x :: [v]) (upd (upd H dx (.own x)) x (.ins (CL K) dx [])) (fun v H2 => v = .non ∧ Q (.ref x) H2) E0 := by
  intro x dx nx ndx ne
  subst ev
  refine ⟨x, dx, l, rfl, g, upd_same, by rw [upd_ne ne, upd_same], ne, fun H' sm => ⟨rfl, q x _ nx (fun b o e => ?_) ⟨dx, upd_same, ?_⟩⟩⟩
  · have n1 : b ≠ x := ne_of_none e nx
    have n2 : b ≠ dx := ne_of_none e ndx
    rw [slH_ne n1 n2]
    exact sm _ _ (by rw [upd_ne n1, upd_ne n2]; exact e)
  · show slH H' x (CL K) dx _ dx = _
    unfold slH
    rw [upd_ne ne, upd_same]
/-- Line(e): e's reading, then line_made -/
theorem pe_line {k : Nat} {e : Expr} {te : TE} {p pos : Pos} (T : Tx X.K X.mg) (G : Mt X.prog X.w X.K X.mg X.base k (He.ma X.K (CL X.K) "__init__") (sp_Line_init (CL X.K))) (hr : Room (k + 1) X.A) (he : PE X e te) (hg : Gl X "Line" := by rfl)
    (hs : starEach (e :: []) X.env = (false, eval e X.env) :: starEach [] X.env := by rfl) (hpl : (backTo pos (starEach [] X.env)).any (·.1) = false := by rfl) :
    PE X (.Call (.Name "Line" p) [e] [] pos) (StX.tMakeR (CL X.K) (sp_Line_init (CL X.K)) E0 (tCons te tNil)) := StX.pe_makeR T.L_mk G.run hr hg T.c_Line pass0 (pa_cons he pa_nil hs) (by decide) hs hpl
/-- len(line) -/
theorem call_lenL {k : Nat} (T : Tx X.K X.mg) (G : Mt X.prog X.w X.K X.mg X.base k (He.ma X.K (CL X.K) "__len__") (sp_Line_len X.K)) (hr : Room (k + 1) X.A) : CallR X (.builtin "len") (rLenSl (CL X.K) (sp_Line_len X.K)) :=
  call_lenSl T.L_lenA T.L_lenF G hr
/-- line.turns() -/
theorem pe_own_turns {k : Nat} {e : Expr} {te : TE} {apos pos : Pos} {pl : Sem Bool} (T : Tx X.K X.mg) (G : Mt X.prog X.w X.K X.mg X.base k (He.ma X.K (CL X.K) "turns") (sp_Line_turns X.K)) (hr : Room k X.A) (he : PE X e te)
    (ht : eval (.Call (.Attribute e "turns" apos) [] [] pos) X.env = (do
      let ov ← eval e X.env
      standAt apos.atName
      let (f, first) ← holding [ov] (getMethod ov "turns" pl)
      callWith pos f first (backTo pos (starEach [] X.env)) (backToKw pos (keywordEach [] X.env))) := by rfl) :
    PE X (.Call (.Attribute e "turns" apos) [] [] pos) (tMethSl (CL X.K) (sp_Line_turns X.K) E0 te tNil) := pe_methSl0 he T.L_cls T.L_turnsM G.run hr pass0 ht
end
end K51

end K51C_text
section K51L_text
set_option Elab.async false
set_option linter.all false
set_option maxRecDepth 100000
set_option maxHeartbeats 4000000
namespace K51
open PySem PySem.Spec PyProof.Rows L2 Kk SlX
section
variable {P : Program} {w : World} {K : PySem.W.Frag} {mg : Str → Option Value} {base : Heap}
/-! ### mixed -/
def sp__law_mixed : Sp := fun vs H Q _ => ∃ (c n : Int), vs = [.int c, .int n] ∧ 0 ≤ n ∧ n < 2 ^ 60 ∧ ∀ r : Int, 0 ≤ r → r < 2 ^ 40 → Q (.int r) H
abbrev N__law_mixed : List Str := ["_law_cell", "_law_n", "_law_blend"]
abbrev P__law_mixed : List Str := ["_law_cell", "_law_n"]
theorem sc__law_mixed : FnScope N__law_mixed P__law_mixed (defScope s__law_mixed) := ⟨rfl, rfl, rfl, by decide +kernel, rfl, by decide +kernel, by decide +kernel⟩
theorem d__law_mixed (T : Tx K mg) : Df P w K mg base 1 "_law_mixed" P__law_mixed sp__law_mixed := by
  refine df_of T.F__law_mixed sc__law_mixed (fun vs H Q E h => ?_) (fun _ _ _ _ _ _ us hl => match us, hl with | [_, _], _ => rfl) (fun f cdv A outer s H vs Q E hr h => ?_)
  · obtain ⟨c, n, rfl, _⟩ := h
    rfl
  · obtain ⟨c, n, rfl, h0, h1, q⟩ := h
    refine ⟨_, (pss_cons (ps_set (i := 2) sc__law_mixed.nd rfl (Or.inl rfl) (pe_op op_add (pe_op op_add (pe_op op_mod (pe_callTy call_int1 (by rfl) T.n_int (by decide +kernel) (pa_cons (pe_op op_mul (pe_op op_mul (pv 0) (pe_op op_add pe_int (pe_op op_mul pe_int (pv 1)))) pe_int) pa_nil)) pe_int) (pe_op op_mul (pe_op op_mul pe_int (pv 1)) (pv 1))) (pe_op op_mul pe_int (pv 1))))
      (pss_one (ps_ret (pe_op op_fdiv (pe_op op_mod (pe_callTy call_int1 (by rfl) T.n_int (by decide +kernel) (pa_cons (pe_op op_mul (pv 2) pe_int) pa_nil)) pe_int) pe_int)))), ?_⟩
    have m1 : ∀ i j : Int, 0 ≤ j → j < 2 ^ 62 → CMul i j := fun i j a b => .inr ⟨by omega, by omega⟩
    have m2 : ∀ i j : Int, 0 ≤ i → i < 2 ^ 62 → CMul i j := fun i j a b => .inl ⟨by omega, by omega⟩
    refine ⟨_, rfl, _, rfl, _, _, rfl, rfl, m2 2 n (by decide) (by decide), _, _, rfl, rfl, _, _, rfl, rfl, m1 _ _ (by omega) (by omega), ?_⟩
    refine ⟨_, _, rfl, rfl, m1 _ _ (by decide) (by decide), .inl ⟨_, rfl, ?_⟩⟩
    refine ⟨_, _, rfl, rfl, (by decide : (0 : Int) < 2147483647), ?_⟩
    refine ⟨_, rfl, _, _, rfl, rfl, m2 _ _ (by decide) (by decide), _, rfl, _, _, rfl, rfl, m1 _ _ h0 (by omega), _, _, rfl, rfl, ?_⟩
    refine ⟨_, rfl, _, _, rfl, rfl, m2 _ _ (by decide) (by decide), _, _, rfl, rfl, ?_⟩
    refine ⟨_, rfl, _, _, rfl, rfl, m1 _ _ (by decide) (by decide), .inl ⟨_, rfl, ?_⟩⟩
    refine ⟨_, _, rfl, rfl, (by decide : (0 : Int) < 2147483629), ?_⟩
    refine ⟨_, _, rfl, rfl, (show CDiv _ 7 from ⟨by decide, by decide⟩), ?_⟩
    exact q _ (by omega) (by omega)
/-! ### the state of the drawing -/
abbrev kc : Key := Sum.inr ("cells" : Str)
abbrev kg : Key := Sum.inr ("great" : Str)
abbrev ks : Key := Sum.inr ("spot" : Str)
structure DrawSt (H : Hp) (pm pc pg : Addr) (n : Nat) : Prop where
  m : H pm = some (.dK [(kc, .ref pc), (kg, .ref pg), (ks, .int (n : Nat))])
  c : ∃ cs : List Int, H pc = some (.lst (cs.map V.int)) ∧ cs.length = 64
  g : ∃ gs : List Int, H pg = some (.lst (gs.map V.int))
  ne : pc ≠ pg
/-- all but the state stands -/
def KeepD (pm pg : Addr) (H H' : Hp) : Prop := ∀ b o, H b = some o → b ≠ pm → b ≠ pg → H' b = some o
theorem ne_cg : (("cells" : Str) = "great") = False := eq_false (by decide +kernel)
theorem ne_cs : (("cells" : Str) = "spot") = False := eq_false (by decide +kernel)
theorem ne_gs : (("great" : Str) = "spot") = False := eq_false (by decide +kernel)
theorem ne_gc : (("great" : Str) = "cells") = False := eq_false (by decide +kernel)
theorem val_c {a b c : V} : valV [(kc, a), (kg, b), (ks, c)] kc = some a := by simp [valV]
theorem val_g {a b c : V} : valV [(kc, a), (kg, b), (ks, c)] kg = some b := by simp [valV, ne_cg]
theorem val_s {a b c : V} : valV [(kc, a), (kg, b), (ks, c)] ks = some c := by simp [valV, ne_cs, ne_gs]
theorem put_s {a b c v : V} : putK [(kc, a), (kg, b), (ks, c)] ks v = [(kc, a), (kg, b), (ks, v)] := by simp [putK, ne_cs, ne_gs]
theorem put_g {a b c v : V} : putK [(kc, a), (kg, b), (ks, c)] kg v = [(kc, a), (kg, v), (ks, c)] := by
  have e1 : (("spot" : Str) = "great") = False := eq_false (by decide +kernel)
  simp [putK, ne_cg, e1]
theorem dp_ints {K : PySem.W.Frag} {H : Hp} : ∀ is : List Int, DpAll K H (is.map V.int) (is.map PyData.int)
  | [] => .nil
  | i :: r => .cons (.int i) (dp_ints r)
theorem eqv_nil (is : List Int) : PyData.eqv (.list (is.map PyData.int)) (.list []) = decide (is = []) := by
  cases is <;> rfl
def sp__law_draw : Sp := fun vs H Q _ => ∃ (pm pc pg : Addr) (n : Nat) (t : Int), vs = [.ref pm, .int t] ∧ DrawSt H pm pc pg n ∧ n < 2 ^ 40 ∧ 0 < t ∧ t < 1000000 ∧ ∀ (r : Int) H', 0 ≤ r → r < t → DrawSt H' pm pc pg (n + 1) → KeepD pm pg H H' → Q (.int r) H'
abbrev N__law_draw : List Str := ["_law_m", "_law_limit", "_law_n", "_law_lot", "_law_here", "_law_cell"]
abbrev P__law_draw : List Str := ["_law_m", "_law_limit"]
theorem sc__law_draw : FnScope N__law_draw P__law_draw (defScope s__law_draw) := ⟨rfl, rfl, rfl, by decide +kernel, rfl, by decide +kernel, by decide +kernel⟩
theorem d__law_draw (T : Tx K mg) : Df P w K mg base 2 "_law_draw" P__law_draw sp__law_draw := by
  have G__law_mixed : Df P w K mg base 1 "_law_mixed" P__law_mixed sp__law_mixed := d__law_mixed T
  refine df_of T.F__law_draw sc__law_draw (fun vs H Q E h => ?_) (fun _ _ _ _ _ _ us hl => match us, hl with | [_, _], _ => rfl) (fun f cdv A outer s H vs Q E hr h => ?_)
  · obtain ⟨pm, pc, pg, n, t, rfl, _⟩ := h
    rfl
  · obtain ⟨pm, pc, pg, n, t, rfl, hS, hn, ht0, ht1, q⟩ := h
    refine ⟨_, (pss_cons (ps_set (i := 2) sc__law_draw.nd rfl (Or.inl rfl) (pe_dget (hu_of hr) (pv 0) pe_str (fun _ _ => rfl)))
      (pss_cons (ps_dput (hu_of hr) (pv 0) pe_str (pe_op op_add (pv 2) pe_int) rfl)
      (pss_cons (ps_if (pt_cmpR (op_neD hr.units) (pe_dget (hu_of hr) (pv 0) pe_str (fun _ _ => rfl)) (pe_lst pa_nil) (nomark _))
        (pss_cons (ps_set (i := 3) sc__law_draw.nd rfl (Or.inl rfl) (pe_dget (hu_of hr) (pv 0) pe_str (fun _ _ => rfl)))
        (pss_cons (ps_set (i := 4) sc__law_draw.nd rfl (Or.inl rfl) (pe_op op_mod (pe_callTy call_int1 (by rfl) T.n_int (by decide +kernel) (pa_cons (pv 2) pa_nil)) (pe_callB call_len_seq (by rfl) T.n_len (by decide +kernel) (pa_cons (pv 3) pa_nil))))
        (pss_cons (ps_set (i := 5) sc__law_draw.nd rfl (Or.inl rfl) (pe_ix (ix_listK (K := K) rfl) (pv 3) (pv 4) (fun _ _ => rfl)))
        (pss_one (ps_if (pt_cmpR op_gt (pv 5) pe_int (nomark _))
          (pss_cons (ps_asg (pe_op op_fdiv (pv 5) (pv 1)) (pg_sub (pv 3) (pv 4) set_list))
          (pss_one (ps_ret (pe_op op_mod (pe_callTy call_int1 (by rfl) T.n_int (by decide +kernel) (pa_cons (pv 5) pa_nil)) (pv 1)))))
          pss_nil)))))
        pss_nil)
      (pss_cons (ps_set (i := 3) sc__law_draw.nd rfl (Or.inl rfl) (pe_dget (hu_of hr) (pv 0) pe_str (fun _ _ => rfl)))
      (pss_one (ps_ret (pe_op op_mod (pe_callTy call_int1 (by rfl) T.n_int (by decide +kernel) (pa_cons (pe_df G__law_mixed (hr.mono (by decide)) (pa_cons (pe_df G__law_mixed (hr.mono (by decide)) (pa_cons (pe_op op_add (pe_ix (ix_listK (K := K) rfl) (pv 3) (pe_op op_mod (pe_callTy call_int1 (by rfl) T.n_int (by decide +kernel) (pa_cons (pv 2) pa_nil)) pe_int) (fun _ _ => rfl)) (pe_op op_mul pe_int (pe_op op_fdiv (pv 2) pe_int))) (pa_cons (pv 2) pa_nil))) (pa_cons (pe_op op_add (pv 2) pe_int) pa_nil))) pa_nil)) (pv 1)))))))), ?_⟩
    obtain ⟨cs, hc, hc64⟩ := hS.c
    obtain ⟨gs, hg⟩ := hS.g
    have dS : DGet H pm (.str "spot") (some (.int (n : Nat))) := by
      have := DGet.k (k := ks) hS.m
      rw [val_s] at this
      exact this
    have dP : DPut H pm (.str "spot") (.int ((n : Nat) + 1 : Int)) (upd H pm (.dK [(kc, .ref pc), (kg, .ref pg), (ks, .int ((n : Nat) + 1 : Int))])) := by
      have := DPut.k (k := ks) (v := .int ((n : Nat) + 1 : Int)) hS.m (show (3 : Nat) < sizeLine by decide)
      rw [put_s] at this
      exact this
    refine ⟨_, rfl, pm, _, rfl, dS, _, rfl, _, _, rfl, rfl, _, rfl, pm, _, rfl, dP, ?_⟩
    have npc : pc ≠ pm := ne_of hc hS.m (fun z => by cases z)
    have npg : pg ≠ pm := ne_of hg hS.m (fun z => by cases z)
    have hm1 : upd H pm (.dK [(kc, .ref pc), (kg, .ref pg), (ks, .int ((n : Nat) + 1 : Int))]) pm = some (.dK [(kc, .ref pc), (kg, .ref pg), (ks, .int (((n + 1 : Nat) : Nat) : Int))]) := upd_same
    have hc1 : upd H pm (.dK [(kc, .ref pc), (kg, .ref pg), (ks, .int ((n : Nat) + 1 : Int))]) pc = some (.lst (cs.map V.int)) := (upd_ne npc).trans hc
    have hg1 : upd H pm (.dK [(kc, .ref pc), (kg, .ref pg), (ks, .int ((n : Nat) + 1 : Int))]) pg = some (.lst (gs.map V.int)) := (upd_ne npg).trans hg
    have k1 : KeepD pm pg H (upd H pm (.dK [(kc, .ref pc), (kg, .ref pg), (ks, .int ((n : Nat) + 1 : Int))])) := fun b o e h1 _ => (upd_ne h1).trans e
    generalize upd H pm (.dK [(kc, .ref pc), (kg, .ref pg), (ks, .int ((n : Nat) + 1 : Int))]) = H1 at hm1 hc1 hg1 k1
    have dC : ∀ {H2 : Hp}, Same H1 H2 → DGet H2 pm (.str "cells") (some (.ref pc)) := fun s => by
      have := DGet.k (k := kc) (s _ _ hm1)
      rw [val_c] at this
      exact this
    have dG : ∀ {H2 : Hp}, Same H1 H2 → DGet H2 pm (.str "great") (some (.ref pg)) := fun s => by
      have := DGet.k (k := kg) (s _ _ hm1)
      rw [val_g] at this
      exact this
    refine ⟨_, rfl, pm, _, rfl, dG (Same.refl H1), Nat.zero_le _, fun p1 np1 => ?_⟩
    have s2 := same_upd (o := .lst []) np1
    have hp1 : upd H1 p1 (.lst []) p1 = some (.lst []) := upd_same
    generalize upd H1 p1 (.lst []) = H2 at s2 hp1
    refine ⟨_, _, .lst (SqL.of (s2 _ _ hg1)) (dp_ints gs), .lst (SqL.of hp1) .nil, PySem.W.ke_shaped_ints gs, rfl, _, rfl, ?_⟩
    rw [eqv_nil]
    by_cases hgs : gs = []
    · refine iteFb (by rw [decide_eq_true hgs]; rfl) ?_
      refine ⟨_, rfl, pm, _, rfl, dC s2, ?_⟩
      obtain ⟨z, hz⟩ : ∃ z, cs[n % 64]? = some z := ⟨_, List.getElem?_eq_getElem (by rw [hc64]; exact Nat.mod_lt _ (by decide))⟩
      refine ⟨_, rfl, _, rfl, .inl ⟨_, rfl, _, _, rfl, rfl, (by decide : (0 : Int) < 64), pc, _, _, .int z, rfl, rfl, SqL.of (s2 _ _ hc1), ?_, ?_⟩⟩
      · have e : ((n : Nat) : Int) % 64 = ((n % 64 : Nat) : Int) := by omega
        rw [e]
        exact atI_nat (by rw [List.getElem?_map, hz]; rfl)
      refine ⟨_, rfl, _, _, rfl, rfl, (show CDiv _ 64 from ⟨by decide, by decide⟩), _, _, rfl, rfl, (show CMul 31 _ from .inl ⟨by decide, by decide⟩), _, _, rfl, rfl, ?_⟩
      refine ⟨_, rfl, _, _, rfl, by omega, by omega, fun r1 h1 h2 => ?_⟩
      refine ⟨_, rfl, _, _, rfl, rfl, _, _, rfl, by omega, by omega, fun r2 h3 h4 => ?_⟩
      refine .inl ⟨_, rfl, ?_⟩
      refine ⟨_, rfl, _, _, rfl, rfl, ht0, ?_⟩
      exact q _ _ (Int.emod_nonneg _ (by omega)) (Int.emod_lt_of_pos _ ht0) ⟨s2 _ _ hm1, ⟨cs, s2 _ _ hc1, hc64⟩, ⟨gs, s2 _ _ hg1⟩, hS.ne⟩ (fun b o e b1 b2 => s2 _ _ (k1 b o e b1 b2))
    · refine iteTb (by rw [decide_eq_false hgs]; rfl) ?_
      have hglen : 0 < gs.length := List.length_pos_iff.mpr hgs
      refine ⟨_, rfl, pm, _, rfl, dG s2, ?_⟩
      refine ⟨_, rfl, .inl ⟨_, rfl, ?_⟩⟩
      refine ⟨_, rfl, pg, _, rfl, .inl (SqL.of (s2 _ _ hg1)), ?_⟩
      rw [List.length_map]
      refine ⟨_, _, rfl, rfl, (by omega : (0 : Int) < (gs.length : Nat)), ?_⟩
      obtain ⟨z, hz⟩ : ∃ z, gs[n % gs.length]? = some z := ⟨_, List.getElem?_eq_getElem (Nat.mod_lt _ hglen)⟩
      have e : ((n : Nat) : Int) % ((gs.length : Nat) : Int) = ((n % gs.length : Nat) : Int) := (Int.natCast_emod _ _).symm
      have ez : (gs.map V.int)[n % gs.length]? = some (.int z) := by rw [List.getElem?_map, hz]; rfl
      refine ⟨_, rfl, _, rfl, pg, _, _, .int z, rfl, rfl, SqL.of (s2 _ _ hg1), (by have ea := atI_nat ez; rw [← e] at ea; exact ea), ?_⟩
      refine ⟨_, rfl, _, _, rfl, rfl, _, rfl, ?_⟩
      by_cases hpos : 0 < z
      · refine iteTb (decide_eq_true hpos) ?_
        refine ⟨_, rfl, _, rfl, _, _, rfl, rfl, (show CDiv z t from ⟨ht0, by omega⟩), _, rfl, _, rfl, pg, _, _, n % gs.length, rfl, rfl, s2 _ _ hg1, ?_, ?_⟩
        · show ixN _ (((n : Nat) : Int) % ((gs.length : Nat) : Int)) = _
          rw [e]
          unfold ixN
          rw [List.length_map, if_pos (by omega), if_pos (by have := Nat.mod_lt n hglen; omega)]
          simp only [Int.toNat_natCast]
        refine ⟨_, rfl, .inl ⟨_, rfl, _, rfl, _, _, rfl, rfl, ht0, ?_⟩⟩
        have hmp : pm ≠ pg := npg.symm
        refine q _ _ (Int.emod_nonneg _ (by omega)) (Int.emod_lt_of_pos _ ht0) ⟨(upd_ne hmp).trans (s2 _ _ hm1), ⟨cs, (upd_ne hS.ne).trans (s2 _ _ hc1), hc64⟩, ⟨gs.set (n % gs.length) (z / t), ?_⟩, hS.ne⟩ (fun b o e b1 b2 => (upd_ne b2).trans (s2 _ _ (k1 b o e b1 b2)))
        rw [upd_same, List.map_set]
      · refine iteFb (decide_eq_false hpos) ?_
        refine ⟨_, rfl, pm, _, rfl, dC s2, ?_⟩
        obtain ⟨z, hz⟩ : ∃ z, cs[n % 64]? = some z := ⟨_, List.getElem?_eq_getElem (by rw [hc64]; exact Nat.mod_lt _ (by decide))⟩
        refine ⟨_, rfl, _, rfl, .inl ⟨_, rfl, _, _, rfl, rfl, (by decide : (0 : Int) < 64), pc, _, _, .int z, rfl, rfl, SqL.of (s2 _ _ hc1), ?_, ?_⟩⟩
        · have e : ((n : Nat) : Int) % 64 = ((n % 64 : Nat) : Int) := by omega
          rw [e]
          exact atI_nat (by rw [List.getElem?_map, hz]; rfl)
        refine ⟨_, rfl, _, _, rfl, rfl, (show CDiv _ 64 from ⟨by decide, by decide⟩), _, _, rfl, rfl, (show CMul 31 _ from .inl ⟨by decide, by decide⟩), _, _, rfl, rfl, ?_⟩
        refine ⟨_, rfl, _, _, rfl, by omega, by omega, fun r1 h1 h2 => ?_⟩
        refine ⟨_, rfl, _, _, rfl, rfl, _, _, rfl, by omega, by omega, fun r2 h3 h4 => ?_⟩
        refine .inl ⟨_, rfl, ?_⟩
        refine ⟨_, rfl, _, _, rfl, rfl, ht0, ?_⟩
        exact q _ _ (Int.emod_nonneg _ (by omega)) (Int.emod_lt_of_pos _ ht0) ⟨s2 _ _ hm1, ⟨cs, s2 _ _ hc1, hc64⟩, ⟨gs, s2 _ _ hg1⟩, hS.ne⟩ (fun b o e b1 b2 => s2 _ _ (k1 b o e b1 b2))

end
end K51

end K51L_text
section KkWalk_text
set_option Elab.async false
set_option linter.all false
set_option maxRecDepth 100000
set_option maxHeartbeats 4000000
/-! one lemma for each thing that is walked, whatever is done with the items: for comprehensions -/
namespace Kk
open PySem PySem.Spec PyProof.Rows L2
section
variable {K : PySem.W.Frag} {a : Addr} {xs : List V} {H0 : Hp} {Qd : Hp → Prop} {body : (Hp → Prop) → V → Hp → Prop}
theorem walk_list (xs : List V) (Pv : Nat → Hp → Prop) (h0 : Pv 0 H0) (hl : ∀ i H, i ≤ xs.length → Pv i H → SqL K H a xs) (hs : ∀ i x H, xs[i]? = some x → Pv i H → body (Pv (i + 1)) x H) (hd : ∀ H, Pv xs.length H → Qd H) :
    ∃ W : Nat → Nat → Hp → Prop, (∃ m, W 0 m H0) ∧ ∀ i m H, W i m H → ((Itl K a).stop i H ∧ Qd H) ∨ ((Itl K a).go i H ∧ ∃ Nx : Hp → Prop, (∀ H', Nx H' → ∃ m', m' < m ∧ W (i + 1) m' H') ∧ ∀ x H', (Itl K a).yld i H x H' → body Nx x H') := by
  refine ⟨fun i m H => i + m = xs.length ∧ Pv i H, ⟨xs.length, Nat.zero_add _, h0⟩, fun i m H ⟨em, p⟩ => ?_⟩
  by_cases hi : i < xs.length
  · have q := hl i H (by omega) p
    refine .inr ⟨⟨xs, xs[i], q, List.getElem?_eq_getElem hi⟩, Pv (i + 1), fun H' p' => ⟨m - 1, by omega, by omega, p'⟩, ?_⟩
    rintro x H' ⟨rfl, hy⟩
    exact hs i x _ (hy xs q) p
  · have e : i = xs.length := by omega
    subst e
    exact .inl ⟨⟨xs, hl _ H (Nat.le_refl _) p, Nat.le_refl _⟩, hd H p⟩
theorem walk_tup (xs : List V) (Pv : Nat → Hp → Prop) (h0 : Pv 0 H0) (hl : ∀ i H, i ≤ xs.length → Pv i H → SqT K H a xs) (hs : ∀ i x H, xs[i]? = some x → Pv i H → body (Pv (i + 1)) x H) (hd : ∀ H, Pv xs.length H → Qd H) :
    ∃ W : Nat → Nat → Hp → Prop, (∃ m, W 0 m H0) ∧ ∀ i m H, W i m H → ((Itt K a).stop i H ∧ Qd H) ∨ ((Itt K a).go i H ∧ ∃ Nx : Hp → Prop, (∀ H', Nx H' → ∃ m', m' < m ∧ W (i + 1) m' H') ∧ ∀ x H', (Itt K a).yld i H x H' → body Nx x H') := by
  refine ⟨fun i m H => i + m = xs.length ∧ Pv i H, ⟨xs.length, Nat.zero_add _, h0⟩, fun i m H ⟨em, p⟩ => ?_⟩
  by_cases hi : i < xs.length
  · have q := hl i H (by omega) p
    refine .inr ⟨⟨xs, xs[i], q, List.getElem?_eq_getElem hi⟩, Pv (i + 1), fun H' p' => ⟨m - 1, by omega, by omega, p'⟩, ?_⟩
    rintro x H' ⟨rfl, hy⟩
    exact hs i x _ (hy xs q) p
  · have e : i = xs.length := by omega
    subst e
    exact .inl ⟨⟨xs, hl _ H (Nat.le_refl _) p, Nat.le_refl _⟩, hd H p⟩
theorem walk_rng {lo : Int} {n : Nat} (Pv : Nat → Hp → Prop) (h0 : Pv 0 H0) (hs : ∀ i H, i < n → Pv i H → body (Pv (i + 1)) (.int (lo + (i : Nat))) H) (hd : ∀ H, Pv n H → Qd H) :
    ∃ W : Nat → Nat → Hp → Prop, (∃ m, W 0 m H0) ∧ ∀ i m H, W i m H → ((Itr lo n).stop i H ∧ Qd H) ∨ ((Itr lo n).go i H ∧ ∃ Nx : Hp → Prop, (∀ H', Nx H' → ∃ m', m' < m ∧ W (i + 1) m' H') ∧ ∀ x H', (Itr lo n).yld i H x H' → body Nx x H') := by
  refine ⟨fun i m H => i + m = n ∧ Pv i H, ⟨n, Nat.zero_add _, h0⟩, fun i m H ⟨em, p⟩ => ?_⟩
  by_cases hi : i < n
  · refine .inr ⟨hi, Pv (i + 1), fun H' p' => ⟨m - 1, by omega, by omega, p'⟩, ?_⟩
    rintro x H' ⟨rfl, rfl⟩
    exact hs i _ hi p
  · have e : i = n := by omega
    subst e
    exact .inl ⟨Nat.le_refl _, hd H p⟩
theorem walk_str {z : Str} (Pv : Nat → Hp → Prop) (h0 : Pv 0 H0) (hs : ∀ i c H, z.cps[i]? = some c → Pv i H → body (Pv (i + 1)) (.str ⟨#[c]⟩) H) (hd : ∀ H, Pv z.cps.size H → Qd H) :
    ∃ W : Nat → Nat → Hp → Prop, (∃ m, W 0 m H0) ∧ ∀ i m H, W i m H → ((Its z).stop i H ∧ Qd H) ∨ ((Its z).go i H ∧ ∃ Nx : Hp → Prop, (∀ H', Nx H' → ∃ m', m' < m ∧ W (i + 1) m' H') ∧ ∀ x H', (Its z).yld i H x H' → body Nx x H') := by
  refine ⟨fun i m H => i + m = z.cps.size ∧ Pv i H, ⟨z.cps.size, Nat.zero_add _, h0⟩, fun i m H ⟨em, p⟩ => ?_⟩
  by_cases hi : i < z.cps.size
  · refine .inr ⟨hi, Pv (i + 1), fun H' p' => ⟨m - 1, by omega, by omega, p'⟩, ?_⟩
    rintro x H' ⟨rfl, c, hc, rfl⟩
    exact hs i c _ hc p
  · have e : i = z.cps.size := by omega
    subst e
    exact .inl ⟨Nat.le_refl _, hd H p⟩
theorem walk_vals {d : Addr} {o : Obj} (kvs : List (Key × V)) (Pv : Nat → Hp → Prop) (h0 : Pv 0 H0) (hl : ∀ i H, Pv i H → H d = some (.frz o (.dK kvs))) (hs : ∀ i k x H, kvs[i]? = some (k, x) → Pv i H → body (Pv (i + 1)) x H) (hd : ∀ H, Pv kvs.length H → Qd H) :
    ∃ W : Nat → Nat → Hp → Prop, (∃ m, W 0 m H0) ∧ ∀ i m H, W i m H → ((Itd d o kvs).stop i H ∧ Qd H) ∨ ((Itd d o kvs).go i H ∧ ∃ Nx : Hp → Prop, (∀ H', Nx H' → ∃ m', m' < m ∧ W (i + 1) m' H') ∧ ∀ x H', (Itd d o kvs).yld i H x H' → body Nx x H') := by
  refine ⟨fun i m H => i + m = kvs.length ∧ Pv i H, ⟨kvs.length, Nat.zero_add _, h0⟩, fun i m H ⟨em, p⟩ => ?_⟩
  by_cases hi : i < kvs.length
  · refine .inr ⟨⟨hl i H p, hi⟩, Pv (i + 1), fun H' p' => ⟨m - 1, by omega, by omega, p'⟩, ?_⟩
    rintro x H' ⟨rfl, k, hk⟩
    exact hs i k x _ hk p
  · have e : i = kvs.length := by omega
    subst e
    exact .inl ⟨⟨hl _ H p, Nat.le_refl _⟩, hd H p⟩
end
/-- the list at D grows by a value; all else that was tracked stands -/
structure Grow (H0 : Hp) (D : Addr) (xs : List V) (H : Hp) : Prop where
  same : Same H0 H
  lst : H D = some (.lst xs)
  free : H0 D = none
theorem Grow.start {H0 : Hp} {D : Addr} (h : H0 D = none) : Grow H0 D [] (upd H0 D (.lst [])) := ⟨same_upd h, upd_same, h⟩
theorem Grow.more {H0 H H1 : Hp} {D : Addr} {xs : List V} (g : Grow H0 D xs H) (s : Same H H1) : Grow H0 D xs H1 := ⟨g.same.trans s, s _ _ g.lst, g.free⟩
theorem Grow.push {H0 H : Hp} {D : Addr} {xs : List V} {x : V} (g : Grow H0 D xs H) : Grow H0 D (xs ++ [x]) (upd H D (.lst (xs ++ [x]))) :=
  ⟨fun b o e => by rw [upd_ne (ne_of_none e g.free)]; exact g.same _ _ e, upd_same, g.free⟩
theorem take_more {α : Type} {l : List α} {i : Nat} {x : α} (h : l[i]? = some x) : l.take (i + 1) = l.take i ++ [x] := by
  rw [List.take_add_one, h]
  rfl
end Kk

end KkWalk_text
section KkMin_text
set_option Elab.async false
set_option linter.all false
set_option maxRecDepth 100000
set_option maxHeartbeats 4000000
/-! min(list of texts) -/
namespace Kk
open PySem PySem.Spec PyProof.Rows L2
theorem best_rot (l : List D) : ∀ n, argBest (fun i j => ltT (rot l i) (rot l j)) n = bestUp l n
  | 0 => rfl
  | n + 1 => by
    unfold argBest bestUp
    rw [best_rot l n]
theorem argBest_le (bt : Nat → Nat → Bool) : ∀ n, argBest bt n ≤ n
  | 0 => Nat.le_refl _
  | n + 1 => by
    unfold argBest
    split
    · exact Nat.le_refl _
    · exact Nat.le_succ_of_le (argBest_le bt n)
theorem argBest_congr {bt bu : Nat → Nat → Bool} : ∀ {n : Nat}, (∀ i j, i ≤ n → j ≤ n → bt i j = bu i j) → argBest bt n = argBest bu n
  | 0, _ => rfl
  | n + 1, h => by
    have ih := argBest_congr (n := n) fun i j hi hj => h i j (Nat.le_succ_of_le hi) (Nat.le_succ_of_le hj)
    unfold argBest
    rw [ih, h _ _ (Nat.le_refl _) (Nat.le_succ_of_le (argBest_le bu n))]
section
variable {X : Cx}
def rMinS (K : PySem.W.Frag) : List V → Hp → VK → Prop := fun vs H Q => ∃ (a : Addr) (ys : List Str), vs = [.ref a] ∧ SqL K H a (ys.map V.str) ∧ 0 < ys.length ∧
  ∀ m, ys[argBest (fun i j => decide (((ys[i]?).getD Str.empty).cps.toList < ((ys[j]?).getD Str.empty).cps.toList)) (ys.length - 1)]? = some m → Q (.str m) H
theorem vals_str_at : ∀ {ys : List Str} {us : List Value} {i : Nat} {u : Value}, Vals (ys.map V.str) us → us[i]? = some u → ∃ y t, ys[i]? = some y ∧ u = .str y t
  | [], _, _, _, .nil, h => by simp at h
  | y :: r, _, 0, u, .cons h _, e => by
    obtain rfl := Option.some.inj e
    obtain ⟨t, rfl⟩ := h
    exact ⟨y, t, rfl, rfl⟩
  | y :: r, _, i + 1, u, .cons _ h, e => vals_str_at (i := i) h e
theorem cr_minS (hc : X.calm = true) : CallR X (.builtin "min") (rMinS X.K) := by
  intro pins s σ H vs us Q I r h
  obtain ⟨a, ys, rfl, hs, hne, q⟩ := h
  obtain ⟨its, rv, hl, _⟩ := I.list hs
  rw [Vals.ref1 r]
  have len : its.length = ys.length := by rw [← rv.length, List.length_map]
  refine call_min_walk (iter_anyList hl.isList fun s₂ e st hfp hlI => ?_)
  subst e
  refine ⟨_, _, _, _, _, _, fun i j => decide (((ys[i]?).getD Str.empty).cps.toList < ((ys[j]?).getD Str.empty).cps.toList), rfl, Walks.list (A := X.A.in1) (I.ok.hd hc) _ a hlI its.toArray, st, hfp, ?_, ?_, fun v h' tk hP hk => ?_⟩
  · rw [List.size_toArray, len]
    exact hne
  · intro i j vi vj s' Q' E' hi hj hq
    obtain ⟨x, t, e1, rfl⟩ := vals_str_at rv (by simpa using hi)
    obtain ⟨y, u, e2, rfl⟩ := vals_str_at rv (by simpa using hj)
    dsimp only at hq
    rw [e1, e2] at hq
    exact PyProof.Rows.lt_str hq
  · rw [List.getElem?_toArray, List.size_toArray, len] at hP
    obtain ⟨x, t, e1, rfl⟩ := vals_str_at rv hP
    exact ⟨.str x, H, I.kept (PySem.old_kept hk), ⟨t, rfl⟩, q x e1⟩
end
theorem for_enumL {K : PySem.W.Frag} {a : Addr} {xs : List V} {g : TG} {tb : TS} {D : Ends} {σ : L2.St} {H : Hp} (Pv : Nat → L2.St → Hp → Prop) (h0 : Pv 0 σ H) (hl : ∀ i σ H, i ≤ xs.length → Pv i σ H → SqL K H a xs)
    (hs : ∀ i x σ H T, xs[i]? = some x → Pv i σ H → H T = none → g (.ref T) σ (upd H T (.tup [.int (i : Nat), x])) fun σ2 H2 => tb { D with nx := Pv (i + 1), ct := Pv (i + 1), bk := D.nx } σ2 H2) (hd : ∀ σ H, Pv xs.length σ H → D.nx σ H) :
    ∃ W : Nat → Nat → L2.St → Hp → Prop, (∃ m, W 0 m σ H) ∧ ∀ i m σ H, W i m σ H →
      ((Ite K a).stop i H ∧ D.nx σ H) ∨ ((Ite K a).go i H ∧ ∃ N : L2.St → Hp → Prop, (∀ σ' H', N σ' H' → ∃ m', m' < m ∧ W (i + 1) m' σ' H') ∧ ∀ x H', (Ite K a).yld i H x H' → g x σ H' fun σ2 H2 => tb { D with nx := N, ct := N, bk := D.nx } σ2 H2) := by
  refine ⟨fun i m σ H => m = xs.length - i ∧ i ≤ xs.length ∧ Pv i σ H, ⟨xs.length, by simp, Nat.zero_le _, h0⟩, ?_⟩
  rintro i m σ H ⟨rfl, hi, p⟩
  have q := hl i σ H hi p
  by_cases hlt : i < xs.length
  · refine .inr ⟨⟨xs, xs[i], q, by simp [hlt]⟩, Pv (i + 1), fun σ' H' p' => ⟨xs.length - (i + 1), by omega, rfl, hlt, p'⟩, ?_⟩
    rintro v H' ⟨T, x, rfl, hT, rfl, y⟩
    exact hs i x σ H T (y xs q) p hT
  · have e : i = xs.length := by omega
    subst e
    exact .inl ⟨⟨xs, q, Nat.le_refl _⟩, hd σ H p⟩
end Kk

end KkMin_text
section K51M_text
set_option Elab.async false
set_option linter.all false
set_option maxRecDepth 100000
set_option maxHeartbeats 4000000
namespace K51
open PySem PySem.Spec PyProof.Rows L2 Kk SlX
section
variable {P : Program} {w : World} {K : PySem.W.Frag} {mg : Str → Option Value} {base : Heap}
/-! ### folded -/
def sp__law_folded (K : PySem.W.Frag) : Sp := fun vs H Q _ => ∃ (a : Addr) (ns : List Int), vs = [.ref a] ∧ SqL K H a (ns.map V.int) ∧ ∀ p H' cs, H p = none → Same H H' → H' p = some (.lst (List.map V.int cs)) → cs.length = 64 → Q (.ref p) H'
abbrev N__law_folded : List Str := ["_law_script", "_law_found", "_law_n", "_law_cell"]
abbrev P__law_folded : List Str := ["_law_script"]
theorem sc__law_folded : FnScope N__law_folded P__law_folded (defScope s__law_folded) := ⟨rfl, rfl, rfl, by decide +kernel, rfl, by decide +kernel, by decide +kernel⟩
theorem set64 {cs : List Int} {j : Nat} {x : Int} (h : cs.length = 64) : (cs.set j x).length = 64 := by rw [List.length_set]; exact h
theorem ix64 {j : Nat} (h : j < 64) : ixN 64 ((j : Nat) : Int) = some j := by
  unfold ixN
  rw [if_pos (by omega), if_pos (by omega)]
  simp only [Int.toNat_natCast]
theorem at64 {cs : List Int} {j : Nat} (h : cs.length = 64) (hj : j < 64) : ∃ z, atI (cs.map V.int) ((j : Nat) : Int) = some (.int z) := by
  obtain ⟨z, hz⟩ : ∃ z, cs[j]? = some z := ⟨_, List.getElem?_eq_getElem (by omega)⟩
  exact ⟨z, atI_nat (by rw [List.getElem?_map, hz]; rfl)⟩
theorem d__law_folded (T : Tx K mg) : Df P w K mg base 1 "_law_folded" P__law_folded (sp__law_folded K) := by
  refine df_of T.F__law_folded sc__law_folded (fun vs H Q E h => ?_) (fun _ _ _ _ _ _ us hl => match us, hl with | [_], _ => rfl) (fun f cdv A outer s H vs Q E hr h => ?_)
  · obtain ⟨a, ns, rfl, _⟩ := h
    rfl
  · obtain ⟨a, ns, rfl, hs, q⟩ := h
    refine ⟨_, (pss_cons (ps_setLc (i := 1) (own := [("_law_n", 2)]) (g := gName 2) (tt := tYes) rfl sc__law_folded.nd rfl rfl (sw_true rfl rfl rfl (by decide +kernel)) (pi_range1 (by rfl) T.n_range (pa_cons pe_int pa_nil)) (blkOk_by (N := N__law_folded) (sc := defScope s__law_folded) (by decide +kernel)) (fun _ _ _ _ _ => (pg_name (i := 2) sc__law_folded.nd rfl (Or.inl rfl))) (fun _ _ _ _ _ => pts_nil) (fun _ _ _ _ _ => (pe_op op_add pe_int (pv 2))))
      (pss_cons (ps_for PassesOwn.never rfl (pi_enum (by rfl) T.n_enumerate (pa_cons (pv 0) pa_nil)) (pg_tup rfl (pgs_cons (pg_name (i := 2) sc__law_folded.nd rfl (Or.inl rfl)) (pgs_cons (pg_name (i := 3) sc__law_folded.nd rfl (Or.inl rfl)) pgs_nil)))
        (pss_one (ps_asg (pe_op op_mod (pe_callTy call_int1 (by rfl) T.n_int (by decide +kernel) (pa_cons (pe_op op_add (pe_op op_mul (pe_ix (ix_listK (K := K) rfl) (pv 1) (pe_op op_mod (pe_callTy call_int1 (by rfl) T.n_int (by decide +kernel) (pa_cons (pv 2) pa_nil)) pe_int) (fun _ _ => rfl)) pe_int) (pv 3)) pa_nil)) pe_int) (pg_sub (pv 1) (pe_op op_mod (pe_callTy call_int1 (by rfl) T.n_int (by decide +kernel) (pa_cons (pv 2) pa_nil)) pe_int) set_list))))
      (pss_cons (ps_for PassesOwn.never rfl (pi_range2 (by rfl) T.n_range (pa_cons pe_int (pa_cons pe_int pa_nil))) (pg_name (i := 2) sc__law_folded.nd rfl (Or.inl rfl))
        (pss_one (ps_asg (pe_op op_mod (pe_callTy call_int1 (by rfl) T.n_int (by decide +kernel) (pa_cons (pe_op op_add (pe_ix (ix_listK (K := K) rfl) (pv 1) (pv 2) (fun _ _ => rfl)) (pe_op op_mul (pe_ix (ix_listK (K := K) rfl) (pv 1) (pe_op op_sub (pv 2) pe_int) (fun _ _ => rfl)) pe_int)) pa_nil)) pe_int) (pg_sub (pv 1) (pv 2) set_list))))
      (pss_one (ps_ret (pv 1)))))), ?_⟩
    refine ⟨_, rfl, by decide, by decide, fun dd nD => walk_rng (fun i H' => Grow H dd (((List.range i).map fun k : Nat => (17 : Int) + (k : Nat)).map V.int) H') (Grow.start nD) ?_ ?_⟩
    · intro i H' hi g
      refine ⟨rfl, ?_⟩
      rw [Int.zero_add]
      refine ⟨_, rfl, _, _, rfl, rfl, _, g.lst, ?_, ?_⟩
      · rw [List.length_map, List.length_map, List.length_range]
        exact small1000 (by have : ((64 : Int)).toNat = 64 := rfl; omega)
      · rw [List.range_succ, List.map_append, List.map_append]
        exact g.push
    · intro H1 g1
      have s1 := g1.same
      have hdd := g1.lst
      have l64 : ((List.range (64 : Int).toNat).map fun k : Nat => (17 : Int) + (k : Nat)).length = 64 := by rw [List.length_map, List.length_range]; rfl
      generalize ((List.range (64 : Int).toNat).map fun k : Nat => (17 : Int) + (k : Nat)) = cs0 at hdd l64
      -- the script's cells
      refine ⟨_, rfl, a, ns.map V.int, rfl, s1.seq hs, for_enumL (K := K) (a := a) (xs := ns.map V.int) (fun i σ H' => ∃ cs v2 v3, σ = [some (.ref a), some (.ref dd), v2, v3] ∧ Same H H' ∧ H' dd = some (.lst (List.map V.int cs)) ∧ cs.length = 64)
        ⟨cs0, none, none, rfl, s1, hdd, l64⟩ (fun i σ H' _ ⟨_, _, _, _, s, _⟩ => s.seq hs) ?_ ?_⟩
      · rintro i x σ H2 T1 hi ⟨cs, v2, v3, rfl, s2, hd2, h64⟩ nT
        rw [List.getElem?_map] at hi
        obtain ⟨z, hz, rfl⟩ : ∃ z, ns[i]? = some z ∧ x = V.int z := by
          cases e : ns[i]? with
          | none => rw [e] at hi; cases hi
          | some z => rw [e] at hi; exact ⟨z, rfl, (Option.some.inj hi).symm⟩
        have sT := same_upd (o := .tup [.int (i : Nat), .int z]) nT
        have hT : upd H2 T1 (.tup [.int (i : Nat), .int z]) T1 = some (.tup [.int (i : Nat), .int z]) := upd_same
        generalize upd H2 T1 (.tup [.int (i : Nat), .int z]) = H3 at sT hT
        have hd3 := sT _ _ hd2
        refine ⟨T1, _, rfl, SqT.of hT, rfl, _, _, rfl, _, _, rfl, rfl, ?_⟩
        obtain ⟨c, hc⟩ := at64 (j := i % 64) h64 (Nat.mod_lt _ (by decide))
        have e : ((i : Nat) : Int) % 64 = ((i % 64 : Nat) : Int) := by omega
        rw [← e] at hc
        refine ⟨_, rfl, _, rfl, .inl ⟨_, rfl, _, _, rfl, rfl, (by decide : (0 : Int) < 64), dd, _, _, _, rfl, rfl, SqL.of hd3, hc, ?_⟩⟩
        refine ⟨_, _, rfl, rfl, .inr ⟨by decide, by decide⟩, _, rfl, _, _, rfl, rfl, .inl ⟨_, rfl, ?_⟩⟩
        refine ⟨_, _, rfl, rfl, (by decide : (0 : Int) < 2147483647), ?_⟩
        refine ⟨_, rfl, _, rfl, .inl ⟨_, rfl, _, _, rfl, rfl, (by decide : (0 : Int) < 64), dd, _, _, i % 64, rfl, rfl, hd3, ?_, ?_⟩⟩
        · show ixN _ (((i : Nat) : Int) % 64) = _
          rw [e, List.length_map, h64]
          exact ix64 (Nat.mod_lt _ (by decide))
        · refine ⟨cs.set (i % 64) ((c * 48271 + z) % 2147483647), _, _, rfl, ?_, ?_, set64 h64⟩
          · intro b o eb
            rw [upd_ne (ne_of_none eb nD)]
            exact sT _ _ (s2 _ _ eb)
          · rw [upd_same, List.map_set]
      · rintro σ H2 ⟨cs, v2, v3, rfl, s2, hd2, h64⟩
        refine ⟨_, _, rfl, ⟨by decide, by decide, by decide, by decide⟩, ?_⟩
        refine for_range (lo := 1) (n := 63) (fun i σ H' => ∃ cs v2 v3, σ = [some (.ref a), some (.ref dd), v2, v3] ∧ Same H H' ∧ H' dd = some (.lst (List.map V.int cs)) ∧ cs.length = 64)
          ⟨cs, v2, v3, rfl, s2, hd2, h64⟩ ?_ ?_
        · rintro i σ H3 hi ⟨cs, v2, v3, rfl, s3, hd3, h64⟩
          have e1 : (1 : Int) + (i : Nat) = ((i + 1 : Nat) : Int) := by omega
          rw [e1]
          obtain ⟨c, hc⟩ := at64 (j := i + 1) h64 (by omega)
          obtain ⟨c2, hc2⟩ := at64 (j := i) h64 (by omega)
          have e2 : ((i + 1 : Nat) : Int) - 1 = ((i : Nat) : Int) := by omega
          rw [← e2] at hc2
          refine ⟨_, rfl, _, rfl, dd, _, _, _, rfl, rfl, SqL.of hd3, hc, ?_⟩
          refine ⟨_, rfl, _, rfl, _, _, rfl, rfl, dd, _, _, _, rfl, rfl, SqL.of hd3, hc2, ?_⟩
          refine ⟨_, _, rfl, rfl, .inr ⟨by decide, by decide⟩, _, _, rfl, rfl, .inl ⟨_, rfl, ?_⟩⟩
          refine ⟨_, _, rfl, rfl, (by decide : (0 : Int) < 2147483647), ?_⟩
          refine ⟨_, rfl, _, rfl, dd, _, _, i + 1, rfl, rfl, hd3, ?_, ?_⟩
          · rw [List.length_map, h64]
            exact ix64 (by omega)
          · refine ⟨cs.set (i + 1) ((c + c2 * 16807) % 2147483647), _, _, rfl, ?_, ?_, set64 h64⟩
            · intro b o eb
              rw [upd_ne (ne_of_none eb nD)]
              exact s3 _ _ eb
            · rw [upd_same, List.map_set]
        · rintro σ H3 ⟨cs, v2, v3, rfl, s3, hd3, h64⟩
          exact ⟨_, rfl, q dd H3 cs nD s3 hd3 h64⟩
/-! ### begun -/
def sp__law_begun (K : PySem.W.Frag) : Sp := fun vs H Q _ => ∃ (a : Addr) (ns : List Int), vs = [.ref a] ∧ SqL K H a (ns.map V.int) ∧ ns.length ≤ sizeLine ∧ ∀ pm pc pg H', Same H H' → DrawSt H' pm pc pg 0 → H pm = none → H pg = none → Q (.ref pm) H'
abbrev N__law_begun : List Str := ["_law_script", "_law_m", "_law_cell"]
abbrev P__law_begun : List Str := ["_law_script"]
theorem sc__law_begun : FnScope N__law_begun P__law_begun (defScope s__law_begun) := ⟨rfl, rfl, rfl, by decide +kernel, rfl, by decide +kernel, by decide +kernel⟩
theorem d__law_begun (T : Tx K mg) : Df P w K mg base 2 "_law_begun" P__law_begun (sp__law_begun K) := by
  have G__law_folded : Df P w K mg base 1 "_law_folded" P__law_folded (sp__law_folded K) := d__law_folded T
  refine df_of T.F__law_begun sc__law_begun (fun vs H Q E h => ?_) (fun _ _ _ _ _ _ us hl => match us, hl with | [_], _ => rfl) (fun f cdv A outer s H vs Q E hr h => ?_)
  · obtain ⟨a, ns, rfl, _⟩ := h
    rfl
  · obtain ⟨a, ns, rfl, hs, hlen, q⟩ := h
    refine ⟨_, (pss_cons (ps_set (i := 1) sc__law_begun.nd rfl (Or.inl rfl) (pe_disp (pps_cons pe_str (pe_df G__law_folded (hr.mono (by decide)) (pa_cons (pv 0) pa_nil)) (pps_cons pe_str (pe_lst pa_nil) (pps_cons pe_str pe_int pps_nil))) (by rfl) (by rfl) (fun z => by cases z) (by decide)))
      (pss_cons (ps_dput (hu_of hr) (pv 1) pe_str (pe_lc (own := [("_law_cell", 2)]) (g := gName 2) (tt := tYes) rfl sc__law_begun.nd (pi_list (pv 0)) (blkOk_by (N := N__law_begun) (sc := defScope s__law_begun) (by decide +kernel)) (fun _ _ _ _ _ => (pg_name (i := 2) sc__law_begun.nd rfl (Or.inl rfl))) (fun _ _ _ _ _ => pts_nil) (fun _ _ _ _ _ => (pe_ifExp (pt_cmpR op_ge (pv 2) (pe_op op_pow pe_int pe_int) (nomark _)) (pv 2) pe_int))) rfl)
      (pss_one (ps_ret (pv 1))))), ?_⟩
    intro pm npm
    have s0 := same_upd (o := .dK []) npm
    have hm0 : upd H pm (.dK []) pm = some (.dK []) := upd_same
    generalize upd H pm (.dK []) = H0 at s0 hm0
    refine ⟨_, rfl, a, ns, rfl, s0.seq hs, fun pc H1 cs npc s1 hpc h64 => ?_⟩
    refine ⟨Nat.zero_le _, fun pz npz => ?_⟩
    have sz := same_upd (o := .lst []) npz
    have hpz : upd H1 pz (.lst []) pz = some (.lst []) := upd_same
    generalize upd H1 pz (.lst []) = H2 at sz hpz
    have hm2 := sz _ _ (s1 _ _ hm0)
    have hc2 := sz _ _ hpc
    refine ⟨hm2, [(kc, .ref pc), (kg, .ref pz), (ks, .int 0)], rfl, Nat.le_of_ble_eq_true rfl, ?_⟩
    have em : mergeK [] [(kc, V.ref pc), (kg, .ref pz), (ks, .int 0)] = [(kc, .ref pc), (kg, .ref pz), (ks, .int 0)] := by
      have e1 : (("great" : Str) = "cells") = False := eq_false (by decide +kernel)
      have e2 : (("spot" : Str) = "cells") = False := eq_false (by decide +kernel)
      have e3 : (("spot" : Str) = "great") = False := eq_false (by decide +kernel)
      simp [mergeK, putK, ne_cg, ne_cs, ne_gs]
    rw [em]
    have npcm : pc ≠ pm := ne_of hc2 hm2 (fun z => by cases z)
    have hm3 : upd H2 pm (.dK [(kc, .ref pc), (kg, .ref pz), (ks, .int 0)]) pm = some (.dK [(kc, .ref pc), (kg, .ref pz), (ks, .int 0)]) := upd_same
    have hc3 : upd H2 pm (.dK [(kc, .ref pc), (kg, .ref pz), (ks, .int 0)]) pc = some (.lst (cs.map V.int)) := (upd_ne npcm).trans hc2
    have s3 : Same H (upd H2 pm (.dK [(kc, .ref pc), (kg, .ref pz), (ks, .int 0)])) := fun b o eb => by
      rw [upd_ne (ne_of_none eb npm)]
      exact sz _ _ (s1 _ _ (s0 _ _ eb))
    generalize upd H2 pm (.dK [(kc, .ref pc), (kg, .ref pz), (ks, .int 0)]) = H3 at hm3 hc3 s3
    refine ⟨_, rfl, a, rfl, ⟨_, s3.seq hs⟩, fun pg npg => walk_list (ns.map V.int) (fun i H' => ∃ gs : List Int, Grow H3 pg (gs.map V.int) H' ∧ gs.length = i) ⟨[], Grow.start npg, rfl⟩ (fun i H' _ ⟨_, g, _⟩ => (s3.trans g.same).seq hs) ?_ ?_⟩
    · rintro i x H4 hi ⟨gs, g, hgl⟩
      rw [List.getElem?_map] at hi
      obtain ⟨z, hz, rfl⟩ : ∃ z, ns[i]? = some z ∧ x = V.int z := by
        cases e : ns[i]? with
        | none => rw [e] at hi; cases hi
        | some z => rw [e] at hi; exact ⟨z, rfl, (Option.some.inj hi).symm⟩
      have il := (List.getElem?_eq_some_iff.mp hz).1
      refine ⟨rfl, ?_⟩
      refine ⟨_, rfl, _, _, rfl, rfl, ⟨by decide, by decide, by decide⟩, _, _, rfl, rfl, _, rfl, ?_⟩
      refine ite2 (fun c => ?_) (fun c => ?_)
      · refine ⟨_, rfl, gs.map V.int, g.lst, by rw [List.length_map, hgl]; omega, gs ++ [z], ?_, by rw [List.length_append, hgl]; rfl⟩
        rw [List.map_append]
        exact g.push
      · refine ⟨gs.map V.int, g.lst, by rw [List.length_map, hgl]; omega, gs ++ [0], ?_, by rw [List.length_append, hgl]; rfl⟩
        rw [List.map_append]
        exact g.push
    · rintro H4 ⟨gs, g, hgl⟩
      have hm4 := g.same _ _ hm3
      have dP : DPut H4 pm (.str "great") (.ref pg) (upd H4 pm (.dK [(kc, .ref pc), (kg, .ref pg), (ks, .int 0)])) := by
        have := DPut.k (k := kg) (v := .ref pg) hm4 (show (3 : Nat) < sizeLine by decide)
        rw [put_g] at this
        exact this
      refine ⟨_, rfl, pm, _, rfl, dP, ?_⟩
      have npgm : pg ≠ pm := ne_of g.lst hm4 (fun z => by cases z)
      have npcg : pc ≠ pg := ne_of_none hc3 npg
      refine ⟨_, rfl, q pm pc pg _ (fun b o eb => ?_) ⟨upd_same, ⟨cs, (upd_ne npcm).trans (g.same _ _ hc3), h64⟩, ⟨gs, (upd_ne npgm).trans g.lst⟩, npcg⟩ npm (s3.free npg)⟩
      rw [upd_ne (ne_of_none eb npm)]
      exact g.same _ _ (s3 _ _ eb)
end
end K51

end K51M_text
section KkSort_text
set_option Elab.async false
set_option linter.all false
set_option maxRecDepth 100000
set_option maxHeartbeats 4000000
/-! the four letters, sorted -/
namespace Kk
open PySem PySem.Spec PyProof.Rows L2
def num (x : Str) : Nat := x.cps.toList.headD 0
theorem num_t1 (a : D) : num (tx [a]) = a.cp := rfl
theorem lt_t1 (a b : D) : ltCps (tx [a]).cps.toList (tx [b]).cps.toList = decide (a.cp < b.cp) := by cases a <;> cases b <;> decide +kernel
theorem rising_pw : ∀ (r : List Str) (p : Str), (∀ x ∈ p :: r, ∃ a : D, x = tx [a]) → risingS p r = true → (p :: r).Pairwise (fun x y => num x ≤ num y)
  | [], p, _, _ => List.pairwise_singleton _ _
  | x :: r, p, hm, h => by
    unfold risingS at h
    obtain ⟨h1, h2⟩ := Bool.and_eq_true_iff.mp h
    have ih := rising_pw r x (fun y hy => hm y (List.mem_cons_of_mem _ hy)) h2
    obtain ⟨a, ea⟩ := hm p List.mem_cons_self
    obtain ⟨b, eb⟩ := hm x (List.mem_cons_of_mem _ List.mem_cons_self)
    have hpx : num p ≤ num x := by
      rw [ea, eb] at h1 ⊢
      rw [lt_t1] at h1
      rw [num_t1, num_t1]
      have h3 : ¬ b.cp < a.cp := by
        intro z
        rw [decide_eq_true z] at h1
        exact absurd h1 (by decide)
      omega
    refine List.pairwise_cons.mpr ⟨fun y hy => ?_, ih⟩
    rcases List.mem_cons.mp hy with z | z
    · rw [z]; exact hpx
    · exact Nat.le_trans hpx ((List.pairwise_cons.mp ih).1 y z)
theorem sorted4 {ys : List Str} (hp : ys.Perm [tx [.E], tx [.N], tx [.W], tx [.S]]) (hs : sortedS ys = true) : ys = [tx [.E], tx [.N], tx [.S], tx [.W]] := by
  have hm : ∀ x ∈ ys, ∃ a : D, x = tx [a] := fun x hx => by
    have h := hp.mem_iff.mp hx
    simp only [List.mem_cons, List.not_mem_nil, or_false] at h
    rcases h with z | z | z | z
    · exact ⟨_, z⟩
    · exact ⟨_, z⟩
    · exact ⟨_, z⟩
    · exact ⟨_, z⟩
  have h1 : ys.Pairwise (fun x y => num x ≤ num y) := by
    cases ys with
    | nil => exact List.Pairwise.nil
    | cons p r => exact rising_pw r p hm hs
  have h2 : ([tx [.E], tx [.N], tx [.S], tx [.W]] : List Str).Pairwise (fun x y => num x ≤ num y) := by decide
  have hp2 : ys.Perm [tx [.E], tx [.N], tx [.S], tx [.W]] := hp.trans (by
    refine List.Perm.cons _ (List.Perm.cons _ (List.Perm.swap _ _ _)))
  refine hp2.eq_of_pairwise (fun x y hx hy a b => ?_) h1 h2
  obtain ⟨u, eu⟩ := hm x hx
  obtain ⟨v, ev⟩ := hm y (hp2.mem_iff.mpr hy)
  rw [eu, ev, num_t1, num_t1] at a
  rw [eu, ev, num_t1, num_t1] at b
  rw [eu, ev, D.cp_inj (Nat.le_antisymm a b)]
end Kk

end KkSort_text
section K51Cj_text
set_option Elab.async false
set_option linter.all false
set_option maxRecDepth 100000
set_option maxHeartbeats 4000000
namespace K51
open PySem PySem.Spec PyProof.Rows L2 Kk SlX
section
variable {P : Program} {w : World} {K : PySem.W.Frag} {mg : Str → Option Value} {base : Heap}
/-! ### the law's own words -/
def sp__law_other : Sp := fun vs H Q _ => ∃ a : D, vs = [.str (tx [a])] ∧ ∀ H', Same H H' → Q (.str (tx [a.opp])) H'
theorem other_val (a : D) : valV (mergeK [] [((Sum.inr "E" : Key), V.str "W"), (Sum.inr "W", .str "E"), (Sum.inr "N", .str "S"), (Sum.inr "S", .str "N")]) (Sum.inr (tx [a])) = some (V.str (tx [a.opp])) := by cases a <;> decide +kernel
abbrev N__law_other : List Str := ["_law_letter"]
abbrev P__law_other : List Str := ["_law_letter"]
theorem sc__law_other : FnScope N__law_other P__law_other (defScope s__law_other) := ⟨rfl, rfl, rfl, by decide +kernel, rfl, by decide +kernel, by decide +kernel⟩
theorem d__law_other (T : Tx K mg) : Df P w K mg base 1 "_law_other" P__law_other sp__law_other := by
  refine df_of T.F__law_other sc__law_other (fun vs H Q E h => ?_) (fun _ _ _ _ _ _ us hl => match us, hl with | [_], _ => rfl) (fun f cdv A outer s H vs Q E hr h => ?_)
  · obtain ⟨a, rfl, _⟩ := h
    rfl
  · obtain ⟨a, rfl, q⟩ := h
    refine ⟨_, (pss_one (ps_ret (pe_dget (hu_of hr) (pe_disp (pps_cons pe_str pe_str (pps_cons pe_str pe_str (pps_cons pe_str pe_str (pps_cons pe_str pe_str pps_nil)))) (by rfl) (by rfl) (fun z => by cases z) (by decide)) (pv 0) (fun _ _ => rfl)))), ?_⟩
    intro pm npm
    refine ⟨upd_same, [((Sum.inr "E" : Key), V.str "W"), (Sum.inr "W", .str "E"), (Sum.inr "N", .str "S"), (Sum.inr "S", .str "N")], rfl, Nat.le_of_ble_eq_true rfl, ?_⟩
    refine ⟨_, rfl, pm, _, rfl, ?_, q _ ?_⟩
    · have z := DGet.k (H := upd (upd H pm (.dK [])) pm (.dK (mergeK [] [((Sum.inr "E" : Key), V.str "W"), (Sum.inr "W", .str "E"), (Sum.inr "N", .str "S"), (Sum.inr "S", .str "N")]))) (k := (Sum.inr (tx [a]) : Key)) upd_same
      rw [other_val] at z
      exact z
    · exact fun b o e => by rw [upd_ne (ne_of_none e npm), upd_ne (ne_of_none e npm)]; exact e
theorem eqvL_ii (a b c d : Int) : PyData.eqv (.list [.int a, .int b]) (.list [.int c, .int d]) = decide (a = c ∧ b = d) := by
  by_cases h1 : a = c
  · by_cases h2 : b = d
    · subst h1 h2; simp [PyData.eqv, PyData.eqvAll]
    · simp [PyData.eqv, PyData.eqvAll, h1, h2]
  · simp [PyData.eqv, PyData.eqvAll, h1]
def sp__law_kinks : Sp := fun vs H Q _ => ∃ l : List D, vs = [.str (tx l)] ∧ l.length ≤ 1000 ∧ ∀ H', Same H H' → Q (.bl (decide (kinkAt l ≠ none))) H'
abbrev N__law_kinks : List Str := ["_law_text_here", "_law_k"]
abbrev P__law_kinks : List Str := ["_law_text_here"]
theorem sc__law_kinks : FnScope N__law_kinks P__law_kinks (defScope s__law_kinks) := ⟨rfl, rfl, rfl, by decide +kernel, rfl, by decide +kernel, by decide +kernel⟩
theorem d__law_kinks (T : Tx K mg) : Df P w K mg base 3 "_law_kinks" P__law_kinks sp__law_kinks := by
  have G__law_other : Df P w K mg base 1 "_law_other" P__law_other sp__law_other := d__law_other T
  refine df_of T.F__law_kinks sc__law_kinks (fun vs H Q E h => ?_) (fun _ _ _ _ _ _ us hl => match us, hl with | [_], _ => rfl) (fun f cdv A outer s H vs Q E hr h => ?_)
  · obtain ⟨l, rfl, _⟩ := h
    rfl
  · obtain ⟨l, rfl, hl, q⟩ := h
    have hz : (tx l).length ≤ sizeLine := by rw [tx_len]; exact Nat.le_of_lt (small1000 hl)
    refine ⟨_, (pss_one (ps_ret (pe_cmpR (op_neD hr.units) (pe_lc (own := [("_law_k", 1)]) (g := gName 1) rfl sc__law_kinks.nd (pi_range1 (by rfl) T.n_range (pa_cons (pe_callB call_len_str (by rfl) T.n_len (by decide +kernel) (pa_cons (pv 0) pa_nil)) pa_nil)) (blkOk_by (N := N__law_kinks) (sc := defScope s__law_kinks) (by decide +kernel)) (fun _ _ _ _ _ => (pg_name (i := 1) sc__law_kinks.nd rfl (Or.inl rfl))) (fun _ _ _ _ _ => pts_one (pt_cmpR op_eq (pe_ix ix_str (pv 0) (pv 1) (fun _ _ => rfl)) (pe_df G__law_other (hr.mono (by decide)) (pa_cons (pe_ix ix_str (pv 0) (pe_op op_sub (pv 1) pe_int) (fun _ _ => rfl)) pa_nil)) (nomark _))) (fun _ _ _ _ _ => (pv 1))) (pe_lst pa_nil) (nomark _)))), ?_⟩
    have hlN : ((tx l).length : Int).toNat = l.length := by rw [tx_len]; omega
    refine ⟨_, rfl, _, rfl, hz, _, rfl, by omega, by rw [tx_len]; omega, fun dd nD => walk_rng (fun i H' => Grow H dd (((List.range i).filter (kinkP l)).map fun m => V.int ((m : Nat) : Int)) H') (Grow.start nD) ?_ ?_⟩
    · intro i H' hi g
      have hi' : i < l.length := by omega
      obtain ⟨a, ha⟩ := ahead_some hi'
      obtain ⟨b, hb⟩ : ∃ b, l[i]? = some b := ⟨_, List.getElem?_eq_getElem hi'⟩
      have ek : kinkP l i = decide (b = a.opp) := by
        unfold kinkP
        rw [hb, ha]
        by_cases e : b = a.opp
        · rw [e]; simp
        · simp [e]
      have up : (List.range (i + 1)).filter (kinkP l) = (List.range i).filter (kinkP l) ++ (if kinkP l i = true then [i] else []) := by
        rw [List.range_succ, List.filter_append]
        congr 1
        rw [List.filter_cons, List.filter_nil]
      rw [Int.zero_add]
      refine ⟨rfl, _, rfl, _, rfl, _, _, b.cp, rfl, rfl, hz, at_nat l i b hb, ?_⟩
      refine ⟨_, rfl, _, rfl, _, _, rfl, rfl, _, _, a.cp, rfl, rfl, hz, at_ahead ha hi', ?_⟩
      refine ⟨a, rfl, fun H2 s2 => ⟨rfl, _, rfl, ?_⟩⟩
      show if decide (V.str (tx [b]) = V.str (tx [a.opp])) = true then _ else _
      rw [t1_dec, ← ek]
      refine ite2 (fun c => ?_) (fun c => ?_)
      · rw [if_pos c] at up
        refine ⟨_, rfl, _, s2 _ _ g.lst, ?_, ?_⟩
        · rw [List.length_map]
          exact small1000 (Nat.le_trans (List.length_filter_le _ _) (by rw [List.length_range]; omega))
        · rw [up, List.map_append]
          exact (g.more s2).push
      · rw [if_neg c, List.append_nil] at up
        rw [up]
        exact g.more s2
    · intro H' g
      rw [hlN] at g
      refine ⟨Nat.zero_le _, fun pz npz => ?_⟩
      have sz := same_upd (o := .lst []) npz
      have e0 : ((List.range l.length).filter (kinkP l)).map (fun m => V.int ((m : Nat) : Int)) = (((List.range l.length).filter (kinkP l)).map fun m => ((m : Nat) : Int)).map V.int := by rw [List.map_map]; rfl
      have gl := sz _ _ g.lst
      rw [e0] at gl
      refine ⟨_, _, .lst (SqL.of gl) (dp_ints _), .lst (SqL.of upd_same) .nil, PySem.W.ke_shaped_ints _, rfl, ?_⟩
      rw [eqv_nil]
      have z := q _ (g.same.trans sz)
      have ef : (!decide (((List.range l.length).filter (kinkP l)).map (fun m => ((m : Nat) : Int)) = [])) = decide (kinkAt l ≠ none) := by
        rw [← decide_not]
        refine decide_eq_decide.mpr (not_congr ?_)
        rw [List.map_eq_nil_iff, List.filter_eq_nil_iff]
        unfold kinkAt
        rw [List.find?_eq_none]
      rw [ef]
      exact z
def sp__law_ends : Sp := fun vs H Q _ => ∃ l : List D, vs = [.str (tx l)] ∧ ∀ p, H p = none → Q (.ref p) (upd H p (.lst [.int (endX l), .int (endY l)]))
abbrev N__law_ends : List Str := ["_law_text_here"]
abbrev P__law_ends : List Str := ["_law_text_here"]
theorem sc__law_ends : FnScope N__law_ends P__law_ends (defScope s__law_ends) := ⟨rfl, rfl, rfl, by decide +kernel, rfl, by decide +kernel, by decide +kernel⟩
theorem d__law_ends (T : Tx K mg) : Df P w K mg base 1 "_law_ends" P__law_ends sp__law_ends := by
  refine df_of T.F__law_ends sc__law_ends (fun vs H Q E h => ?_) (fun _ _ _ _ _ _ us hl => match us, hl with | [_], _ => rfl) (fun f cdv A outer s H vs Q E hr h => ?_)
  · obtain ⟨a, rfl, _⟩ := h
    rfl
  · obtain ⟨l, rfl, q⟩ := h
    refine ⟨_, (pss_one (ps_ret (pe_lst (pa_cons (pe_op op_sub (pe_bm PySem.F.plainAttrs_str PySem.F.slot_str_count PySem.F.type_str_count mt_count (pv 0) (pa_cons pe_str pa_nil)) (pe_bm PySem.F.plainAttrs_str PySem.F.slot_str_count PySem.F.type_str_count mt_count (pv 0) (pa_cons pe_str pa_nil))) (pa_cons (pe_op op_sub (pe_bm PySem.F.plainAttrs_str PySem.F.slot_str_count PySem.F.type_str_count mt_count (pv 0) (pa_cons pe_str pa_nil)) (pe_bm PySem.F.plainAttrs_str PySem.F.slot_str_count PySem.F.type_str_count mt_count (pv 0) (pa_cons pe_str pa_nil))) pa_nil))))), ?_⟩
    refine ⟨_, rfl, rfl, _, _, rfl, rfl, _, rfl, rfl, _, _, rfl, rfl, _, _, rfl, rfl, ?_⟩
    refine ⟨_, rfl, rfl, _, _, rfl, rfl, _, rfl, rfl, _, _, rfl, rfl, _, _, rfl, rfl, (by decide : 2 ≤ sizeLine), fun p hp => ?_⟩
    have q := q p hp
    rw [lE, lN, lS, lW, txt_count, txt_count, txt_count, txt_count]
    exact q
def sp__law_is_loop : Sp := fun vs H Q _ => ∃ l : List D, vs = [.str (tx l)] ∧ l.length ≤ 1000 ∧ ∀ H', Same H H' → Q (.bl (isLoop l)) H'
abbrev N__law_is_loop : List Str := ["_law_text_here"]
abbrev P__law_is_loop : List Str := ["_law_text_here"]
theorem sc__law_is_loop : FnScope N__law_is_loop P__law_is_loop (defScope s__law_is_loop) := ⟨rfl, rfl, rfl, by decide +kernel, rfl, by decide +kernel, by decide +kernel⟩
theorem d__law_is_loop (T : Tx K mg) : Df P w K mg base 4 "_law_is_loop" P__law_is_loop sp__law_is_loop := by
  have G__law_kinks := d__law_kinks (P := P) (w := w) (base := base) T
  have G__law_ends := d__law_ends (P := P) (w := w) (base := base) T
  refine df_of T.F__law_is_loop sc__law_is_loop (fun vs H Q E h => ?_) (fun _ _ _ _ _ _ us hl => match us, hl with | [_], _ => rfl) (fun f cdv A outer s H vs Q E hr h => ?_)
  · obtain ⟨l, rfl, _⟩ := h
    rfl
  · obtain ⟨l, rfl, hl, q⟩ := h
    have hz : (tx l).length ≤ sizeLine := by rw [tx_len]; exact Nat.le_of_lt (small1000 hl)
    refine ⟨_, (pss_one (ps_ret (pe_and (pe_cmpR op_gt (pe_callB call_len_str (by rfl) T.n_len (by decide +kernel) (pa_cons (pv 0) pa_nil)) pe_int (nomark _)) (pe_and (pe_not (pe_df G__law_kinks (hr.mono (by decide)) (pa_cons (pv 0) pa_nil))) (pe_one (pe_cmpR (op_eqD hr.units) (pe_df G__law_ends (hr.mono (by decide)) (pa_cons (pv 0) pa_nil)) (pe_lst (pa_cons pe_int (pa_cons pe_int pa_nil))) (nomark _))))))), ?_⟩
    have z0 : ∀ H', Same H H' → ∀ b : Bool, isLoop l = b → Q (.bl b) H' := fun H' s b e => e ▸ q H' s
    refine ⟨_, rfl, _, rfl, hz, _, _, rfl, rfl, _, rfl, ?_⟩
    by_cases c1 : 3 < l.length
    · refine iteTb (decide_eq_true (by rw [tx_len]; omega)) ?_
      refine ⟨_, rfl, l, rfl, hl, fun H1 s1 => ⟨_, rfl, _, rfl, ?_⟩⟩
      by_cases c2 : kinkAt l = none
      · refine iteTb (by rw [decide_eq_false (fun z => z c2)]; rfl) ?_
        refine ⟨_, rfl, l, rfl, fun p1 hp1 => ⟨(by decide : 2 ≤ sizeLine), fun p2 hp2 => ?_⟩⟩
        have n12 : p1 ≠ p2 := ne_of_none upd_same hp2
        have sm := (s1.trans (same_upd (o := .lst [.int (endX l), .int (endY l)]) hp1)).trans (same_upd (o := .lst [.int 0, .int 0]) hp2)
        refine ⟨_, _, .lst (SqL.of ((upd_ne n12).trans upd_same)) (.cons (.int _) (.cons (.int _) .nil)), .lst (SqL.of upd_same) (.cons (.int 0) (.cons (.int 0) .nil)), rfl, rfl, ?_⟩
        refine z0 _ sm _ ?_
        unfold isLoop
        rw [decide_eq_true c1, decide_eq_true c2, Bool.true_and, Bool.true_and]
        exact (eqvL_ii _ _ _ _).symm
      · refine iteFb (by rw [decide_eq_true c2]; rfl) ?_
        refine z0 _ s1 _ ?_
        unfold isLoop
        rw [decide_eq_false c2, Bool.false_and, Bool.and_false]
    · refine iteFb (decide_eq_false (by rw [tx_len]; omega)) ?_
      refine z0 _ (Same.refl H) _ ?_
      unfold isLoop
      rw [decide_eq_false c1, Bool.false_and]
end
end K51

end K51Cj_text
section KkDeed_text
set_option Elab.async false
set_option linter.all false
set_option maxRecDepth 100000
set_option maxHeartbeats 4000000
/-! Deeds, as data -/
namespace Kk
open PySem PySem.Spec PyProof.Rows L2
inductive Deed where
  | inn (k : Nat) (b : D)
  | out (k : Nat)
  | sw (k : Nat)
  deriving DecidableEq, Repr
def Deed.pl : Deed → Nat
  | .inn k _ => k
  | .out k => k
  | .sw k => k
def Deed.v : Deed → List V
  | .inn k b => [.str "in", .int (k : Nat), .str (tx [b])]
  | .out k => [.str "out", .int (k : Nat)]
  | .sw k => [.str "swap", .int (k : Nat)]
/-- a deed stands at p -/
def DeedAt (H : Hp) (p : Addr) (d : Deed) : Prop := H p = some (.tup d.v)
theorem DeedAt.same {H H' : Hp} {p : Addr} {d : Deed} (h : DeedAt H p d) (s : Same H H') : DeedAt H' p d := s _ _ h
def DeedsAt (H : Hp) (as : List Addr) (ds : List Deed) : Prop := Paired (DeedAt H) as ds
theorem DeedsAt.same {H H' : Hp} {as : List Addr} {ds : List Deed} (h : DeedsAt H as ds) (s : Same H H') : DeedsAt H' as ds := Paired.mapP h fun _ _ z => z.same s
theorem paired_snoc {α β : Type} {F : α → β → Prop} : ∀ {as : List α} {bs : List β} {a : α} {b : β}, Paired F as bs → F a b → Paired F (as ++ [a]) (bs ++ [b])
  | _, _, _, _, .nil, h => .cons h .nil
  | _, _, _, _, .cons r t, h => .cons r (paired_snoc t h)
theorem paired_append {α β : Type} {F : α → β → Prop} : ∀ {as as' : List α} {bs bs' : List β}, Paired F as bs → Paired F as' bs' → Paired F (as ++ as') (bs ++ bs')
  | _, _, _, _, .nil, h => h
  | _, _, _, _, .cons r t, h => .cons r (paired_append t h)
theorem paired_len {α β : Type} {F : α → β → Prop} : ∀ {as : List α} {bs : List β}, Paired F as bs → as.length = bs.length
  | _, _, .nil => rfl
  | _, _, .cons _ t => by rw [List.length_cons, List.length_cons, paired_len t]
theorem paired_at {α β : Type} {F : α → β → Prop} : ∀ {as : List α} {bs : List β} {i : Nat} {a : α}, Paired F as bs → as[i]? = some a → ∃ b, bs[i]? = some b ∧ F a b
  | _, _, _, _, .nil, h => by simp at h
  | _, _, 0, _, .cons r _, h => by
    have e := Option.some.inj h
    subst e
    exact ⟨_, rfl, r⟩
  | _, _, i + 1, _, .cons _ t, h => paired_at (i := i) t h
/-- the text behind a deed and whether it may be, from the text begun at the deed's place -/
def cand : Deed → List D → Option (List D × Bool)
  | .sw _, a :: b :: r => some (b :: a :: r, decide (b ≠ a ∧ b ≠ a.opp))
  | .inn _ e, a :: r => some (e :: a :: e.opp :: r, decide (e ≠ a ∧ e ≠ a.opp))
  | .out _, a :: b :: c :: r => some (b :: r, decide (c = a.opp))
  | _, _ => none
def okT (f : List D) : Bool := decide (kinkAt f = none) && (decide (endX f = 0) && decide (endY f = 0))
def made (l : List D) (d : Deed) : Option (List D) := match cand d (rot l d.pl) with
  | some (f, g) => if (g && okT f) = true then some f else none
  | none => none
def canD (l : List D) (d : Deed) : Bool := match made l d with
  | some f => decide (f.length ≤ 80)
  | none => false
def allDeeds (n : Nat) : List Deed := (List.range n).flatMap (fun k => [.inn k .E, .inn k .N, .inn k .S, .inn k .W]) ++ (List.range n).map .out ++ (List.range n).map .sw
def deedsOf (l : List D) : List Deed := (allDeeds l.length).filter (canD l)
def textV (o : Option (List D)) : V := match o with
  | some f => .str (tx f)
  | none => .non
theorem made_ne {l f : List D} {d : Deed} (h : made l d = some f) : f ≠ [] := by
  unfold made at h
  cases e : cand d (rot l d.pl) with
  | none => rw [e] at h; cases h
  | some p =>
    obtain ⟨f', g⟩ := p
    rw [e] at h
    have h2 : (if (g && okT f') = true then some f' else none) = some f := h
    split at h2
    · have ef := Option.some.inj h2
      subst ef
      intro z
      subst z
      cases d with
      | inn k b =>
        unfold cand at e
        split at e <;> simp_all
      | out k =>
        unfold cand at e
        split at e <;> simp_all
      | sw k =>
        unfold cand at e
        split at e <;> simp_all
    · cases h2
theorem made_ok {l f : List D} {d : Deed} (h : made l d = some f) : okT f = true := by
  unfold made at h
  cases e : cand d (rot l d.pl) with
  | none => rw [e] at h; cases h
  | some p =>
    obtain ⟨f', g⟩ := p
    rw [e] at h
    have h2 : (if (g && okT f') = true then some f' else none) = some f := h
    split at h2
    · rename_i c
      have ef := Option.some.inj h2
      subst ef
      exact (Bool.and_eq_true_iff.mp c).2
    · cases h2
theorem cand_len {d : Deed} {t f : List D} {g : Bool} (h : cand d t = some (f, g)) : f.length ≤ t.length + 2 := by
  cases d with
  | inn k b =>
    unfold cand at h
    split at h <;> simp_all <;> (obtain ⟨h1, _⟩ := h; subst h1; simp)
  | out k =>
    unfold cand at h
    split at h <;> simp_all <;> (obtain ⟨h1, _⟩ := h; subst h1; simp)
  | sw k =>
    unfold cand at h
    split at h <;> simp_all <;> (obtain ⟨h1, _⟩ := h; subst h1; simp)
theorem made_len {l f : List D} {d : Deed} (h : made l d = some f) : f.length ≤ l.length + 2 := by
  unfold made at h
  cases e : cand d (rot l d.pl) with
  | none => rw [e] at h; cases h
  | some p =>
    obtain ⟨f', g⟩ := p
    rw [e] at h
    have h2 : (if (g && okT f') = true then some f' else none) = some f := h
    split at h2
    · have ef := Option.some.inj h2
      subst ef
      have := cand_len e
      rw [rot_len] at this
      exact this
    · cases h2
end Kk

end KkDeed_text
section K51Ck_text
set_option Elab.async false
set_option linter.all false
set_option maxRecDepth 100000
set_option maxHeartbeats 4000000
namespace K51
open PySem PySem.Spec PyProof.Rows L2 Kk SlX
section
variable {P : Program} {w : World} {K : PySem.W.Frag} {mg : Str → Option Value} {base : Heap}
theorem KeepD.refl {pm pg : Addr} {H : Hp} : KeepD pm pg H H := fun _ _ e _ _ => e
theorem KeepD.trans {pm pg : Addr} {H H1 H2 : Hp} (a : KeepD pm pg H H1) (b : KeepD pm pg H1 H2) : KeepD pm pg H H2 := fun x o e h1 h2 => b x o (a x o e h1 h2) h1 h2
theorem KeepD.of {pm pg : Addr} {H H1 : Hp} (s : Same H H1) : KeepD pm pg H H1 := fun x o e _ _ => s x o e
theorem DrawSt.same {H H' : Hp} {pm pc pg : Addr} {n : Nat} (h : DrawSt H pm pc pg n) (s : Same H H') : DrawSt H' pm pc pg n := by
  obtain ⟨cs, h1, h2⟩ := h.c
  obtain ⟨gs, h3⟩ := h.g
  exact ⟨s _ _ h.m, ⟨cs, s _ _ h1, h2⟩, ⟨gs, s _ _ h3⟩, h.ne⟩
theorem DrawSt.two {H : Hp} {pm pc pg : Addr} {n : Nat} (h : DrawSt H pm pc pg n) : (∃ o, H pm = some o) ∧ ∃ o, H pg = some o := ⟨⟨_, h.m⟩, by obtain ⟨gs, e⟩ := h.g; exact ⟨_, e⟩⟩
/-- new ones stand apart from the state -/
theorem DrawSt.apart {H : Hp} {pm pc pg : Addr} {n : Nat} (h : DrawSt H pm pc pg n) {p : Addr} (np : H p = none) : p ≠ pm ∧ p ≠ pg := by
  obtain ⟨⟨o, e⟩, o2, e2⟩ := h.two
  exact ⟨(ne_of_none e np).symm, (ne_of_none e2 np).symm⟩
theorem KeepD.tup {pm pg pc : Addr} {n : Nat} {H H' : Hp} (k : KeepD pm pg H H') (h : DrawSt H pm pc pg n) {p : Addr} {xs : List V} (e : H p = some (.tup xs)) : H' p = some (.tup xs) := by
  obtain ⟨gs, e2⟩ := h.g
  exact k _ _ e (ne_of e h.m (fun z => by cases z)) (ne_of e e2 (fun z => by cases z))
/-! ### a drawn deed, what it makes -/
def six : List (List D) := [[.E, .N, .W, .S], [.E, .S, .W, .N], [.E, .E, .N, .W, .S, .S, .W, .N], [.E, .N, .W, .S, .E, .N, .W, .S], [.E, .E, .N, .W, .W, .S], [.E, .S, .W, .N, .E, .S, .W, .N, .E, .S, .W, .N]]
theorem six_tx : ([.str "ENWS", .str "ESWN", .str "EENWSSWN", .str "ENWSENWS", .str "EENWWS", .str "ESWNESWNESWN"] : List V) = six.map fun l => V.str (tx l) := by decide +kernel
theorem six_loop : ∀ s ∈ six, isLoop s = true ∧ s.length ≤ 20 := by decide +kernel
theorem pick6 {r : Int} (h0 : 0 ≤ r) (h6 : r < 6) : ∃ s ∈ six, atI (six.map fun l => V.str (tx l)) r = some (.str (tx s)) := by
  obtain ⟨m, rfl⟩ : ∃ m : Nat, r = m := ⟨r.toNat, by omega⟩
  have hn : m < six.length := by have : six.length = 6 := rfl; omega
  exact ⟨six[m], List.getElem_mem hn, atI_nat (by rw [List.getElem?_map, List.getElem?_eq_getElem hn]; rfl)⟩
theorem isLoop_len {l : List D} (h : isLoop l = true) : 3 < l.length := by
  unfold isLoop at h
  exact of_decide_eq_true (Bool.and_eq_true_iff.mp h).1
theorem isLoop_rot {l : List D} {k : Nat} (h : isLoop l = true) (hk : k < l.length) : isLoop (rot l k) = true := by
  unfold isLoop at *
  simp only [Bool.and_eq_true, decide_eq_true_eq] at *
  obtain ⟨h1, h2, h3, h4⟩ := h
  refine ⟨by rw [rot_len]; exact h1, kink_rot h2 hk, ?_, ?_⟩
  · unfold endX at *
    rw [count_rot, count_rot]
    exact h3
  · unfold endY at *
    rw [count_rot, count_rot]
    exact h4
theorem isLoop_good {l : List D} (h : isLoop l = true) (le : l.length ≤ 80) : Good l := by
  unfold isLoop at h
  simp only [Bool.and_eq_true, decide_eq_true_eq] at h
  exact ⟨fun z => (by rw [z] at h; exact absurd h.1 (by decide)), le, h.2.1, h.2.2.1, h.2.2.2⟩
def sp__law_made : Sp := fun vs H Q _ => ∃ (p : Addr) (l : List D) (d : Deed), vs = [.str (tx l), .ref p] ∧ DeedAt H p d ∧ 4 ≤ l.length ∧ l.length ≤ 900 ∧ ∀ (o : Option (List D)) H', (∀ f, o = some f → isLoop f = true ∧ f.length ≤ 950) → Same H H' → Q (textV o) H'
abbrev N__law_made : List Str := ["_law_text_here", "_law_deed_here", "_law_here", "_law_found", "_law_is_good"]
abbrev P__law_made : List Str := ["_law_text_here", "_law_deed_here"]
theorem sc__law_made : FnScope N__law_made P__law_made (defScope s__law_made) := ⟨rfl, rfl, rfl, by decide +kernel, rfl, by decide +kernel, by decide +kernel⟩
theorem d__law_made (T : Tx K mg) : Df P w K mg base 5 "_law_made" P__law_made sp__law_made := by
  have G__law_other := d__law_other (P := P) (w := w) (base := base) T
  have G__law_is_loop := d__law_is_loop (P := P) (w := w) (base := base) T
  refine df_of T.F__law_made sc__law_made (fun vs H Q E h => ?_) (fun _ _ _ _ _ _ us hl => match us, hl with | [_, _], _ => rfl) (fun f cdv A outer s H vs Q E hr h => ?_)
  · obtain ⟨p, l, d, rfl, _⟩ := h
    rfl
  · obtain ⟨p, l, d, rfl, hD, h3, hl, q⟩ := h
    refine ⟨_, (pss_cons (ps_set (i := 2) sc__law_made.nd rfl (Or.inl rfl) (pe_op op_add_str (pe_slice sl_str (pv 0) (po_some (pe_ix (ix_tupK (K := K) rfl) (pv 1) pe_int (fun _ _ => rfl))) po_none) (pe_slice sl_str (pv 0) po_none (po_some (pe_ix (ix_tupK (K := K) rfl) (pv 1) pe_int (fun _ _ => rfl))))))
      (pss_cons (ps_if (pt_cmpR op_eq (pe_ix (ix_tupK (K := K) rfl) (pv 1) pe_int (fun _ _ => rfl)) pe_str (nomark _))
        (pss_one (ps_par (i := 3) (j := 4) (by rfl) sc__law_made.nd rfl rfl (by decide) rfl rfl (pa_cons (pe_op op_add_str (pe_op op_add_str (pe_ix ix_str (pv 2) pe_int (fun _ _ => rfl)) (pe_ix ix_str (pv 2) pe_int (fun _ _ => rfl))) (pe_slice sl_str (pv 2) (po_some pe_int) po_none)) (pa_cons (pe_cmpR op_notIn_seq (pe_ix ix_str (pv 2) pe_int (fun _ _ => rfl)) (pe_tup (pa_cons (pe_ix ix_str (pv 2) pe_int (fun _ _ => rfl)) (pa_cons (pe_df G__law_other (hr.mono (by decide)) (pa_cons (pe_ix ix_str (pv 2) pe_int (fun _ _ => rfl)) pa_nil)) pa_nil))) (by rfl)) pa_nil)) (by rfl)))
        (pss_one (ps_if (pt_cmpR op_eq (pe_ix (ix_tupK (K := K) rfl) (pv 1) pe_int (fun _ _ => rfl)) pe_str (nomark _))
          (pss_cons (ps_set (i := 3) sc__law_made.nd rfl (Or.inl rfl) (pe_op op_add_str (pe_op op_add_str (pe_op op_add_str (pe_ix (ix_tupK (K := K) rfl) (pv 1) pe_int (fun _ _ => rfl)) (pe_ix ix_str (pv 2) pe_int (fun _ _ => rfl))) (pe_df G__law_other (hr.mono (by decide)) (pa_cons (pe_ix (ix_tupK (K := K) rfl) (pv 1) pe_int (fun _ _ => rfl)) pa_nil))) (pe_slice sl_str (pv 2) (po_some pe_int) po_none)))
          (pss_one (ps_set (i := 4) sc__law_made.nd rfl (Or.inl rfl) (pe_cmpR op_notIn_seq (pe_ix (ix_tupK (K := K) rfl) (pv 1) pe_int (fun _ _ => rfl)) (pe_tup (pa_cons (pe_ix ix_str (pv 2) pe_int (fun _ _ => rfl)) (pa_cons (pe_df G__law_other (hr.mono (by decide)) (pa_cons (pe_ix ix_str (pv 2) pe_int (fun _ _ => rfl)) pa_nil)) pa_nil))) (by rfl)))))
          (pss_one (ps_par (i := 3) (j := 4) (by rfl) sc__law_made.nd rfl rfl (by decide) rfl rfl (pa_cons (pe_op op_add_str (pe_ix ix_str (pv 2) pe_int (fun _ _ => rfl)) (pe_slice sl_str (pv 2) (po_some pe_int) po_none)) (pa_cons (pe_cmpR op_eq (pe_ix ix_str (pv 2) pe_int (fun _ _ => rfl)) (pe_df G__law_other (hr.mono (by decide)) (pa_cons (pe_ix ix_str (pv 2) pe_int (fun _ _ => rfl)) pa_nil)) (nomark _)) pa_nil)) (by rfl))))))
      (pss_one (ps_ret (pe_ifExp (PW.pt (pw_and (pt_val (pv 4)) (pw_and1 (pt_val (pe_df G__law_is_loop (hr.mono (by decide)) (pa_cons (pv 3) pa_nil)))))) (pv 3) pe_non))))), ?_⟩
    have at1 : atI d.v 1 = some (.int (d.pl : Nat)) := by cases d <;> rfl
    have lt : (rot l d.pl).length = l.length := rot_len _ _
    have hz0 : (tx l).length ≤ sizeLine := by rw [tx_len]; exact Nat.le_of_lt (small1000 (by omega))
    refine ⟨_, rfl, _, rfl, p, _, _, _, rfl, rfl, SqT.of hD, at1, _, rfl, _, rfl, hz0, _, rfl, _, rfl, p, _, _, _, rfl, rfl, SqT.of hD, at1, _, rfl, _, rfl, hz0, _, _, rfl, rfl, ?_, ?_⟩
    · rw [cut_from, cut_to, tx_len, tx_len, List.length_drop, List.length_take]
      exact Nat.le_of_lt (small1000 (by omega))
    rw [cut_from, cut_to, tx_app']
    show tSeq _ _ _ [_, _, some (V.str (tx (rot l d.pl))), _, _] _
    generalize ht : rot l d.pl = t at lt
    obtain ⟨a, b, c, r, rfl⟩ : ∃ a b c r, t = a :: b :: c :: r := by
      match t, lt with
      | [], e => simp at e; omega
      | [_], e => simp at e; omega
      | [_, _], e => simp at e; omega
      | a :: b :: c :: r, _ => exact ⟨a, b, c, r, rfl⟩
    have lr : r.length + 3 = l.length := by rw [← lt]; rfl
    have hz : (tx (a :: b :: c :: r)).length ≤ sizeLine := by rw [tx_len]; exact Nat.le_of_lt (small1000 (by simp; omega))
    have fin : ∀ (H1 : Hp) (ff : List D) (g : Bool), Same H H1 → ff.length ≤ 950 →
        (tRet (tIf (tAnd (tB (tVar 4)) (tB (tCall sp__law_is_loop [] E0 (tCons (tVar 3) tNil)))) (tVar 3) (tC V.non)))
          { nx := fun _ H' => Q .non H', rt := Q } [some (.str (tx l)), some (.ref p), some (.str (tx (a :: b :: c :: r))), some (.str (tx ff)), some (.bl g)] H1 := by
      intro H1 ff g sm hff
      refine ⟨_, rfl, g, rfl, ?_⟩
      cases g with
      | false => exact iteF (q none _ (fun f z => by cases z) sm)
      | true =>
        refine iteT ⟨_, rfl, ff, rfl, by omega, fun H2 s2 => ⟨_, rfl, ?_⟩⟩
        by_cases c0 : isLoop ff = true
        · refine iteTb c0 ?_
          exact ⟨_, rfl, q (some ff) _ (fun f z => by injection z with z; rw [← z]; exact ⟨c0, hff⟩) (sm.trans s2)⟩
        · refine iteFb (Bool.eq_false_iff.mpr c0) ?_
          exact q none _ (fun f z => by cases z) (sm.trans s2)
    cases d with
    | sw k =>
      refine ⟨_, rfl, p, _, 0, _, rfl, rfl, SqT.of hD, rfl, rfl, _, rfl, iteTb (by decide +kernel) ?_⟩
      have c2 : cutS (tx (a :: b :: c :: r)) (some 2) none = tx (c :: r) := cut_from _ 2
      refine ⟨_, rfl, _, 1, b.cp, rfl, rfl, hz, at_nat _ 1 b rfl, _, rfl, _, 0, a.cp, rfl, rfl, hz, at_nat _ 0 a rfl, _, _, rfl, rfl, (by show 1 + 1 ≤ sizeLine; decide), _, rfl, _, rfl, _, rfl, hz, _, _, rfl, rfl, ?_, ?_⟩
      · rw [c2]
        show 2 + (tx (c :: r)).length ≤ sizeLine
        rw [tx_len]
        exact Nat.le_of_lt (small1000 (by simp; omega))
      rw [c2]
      have et : (⟨#[b.cp]⟩ : Str) ++ ⟨#[a.cp]⟩ ++ tx (c :: r) = tx (b :: a :: c :: r) := by
        rw [one_tx, one_tx, tx_app', tx_app']
        rfl
      rw [et]
      refine ⟨_, rfl, _, 0, a.cp, rfl, rfl, hz, at_nat _ 0 a rfl, _, rfl, _, 1, b.cp, rfl, rfl, hz, at_nat _ 1 b rfl, _, rfl, _, 1, b.cp, rfl, rfl, hz, at_nat _ 1 b rfl, b, rfl, fun H1 s1 => ⟨(by decide : 2 ≤ sizeLine), fun p1 hp1 => ?_⟩⟩
      refine ⟨p1, _, rfl, .inr (SqT.of upd_same), rfl, rfl, _, _, rfl, ?_⟩
      exact fin _ (b :: a :: c :: r) _ (s1.trans (same_upd hp1)) (by simp; omega)
    | inn k e =>
      refine ⟨_, rfl, p, _, 0, _, rfl, rfl, SqT.of hD, rfl, rfl, _, rfl, iteFb (by decide +kernel) ?_⟩
      refine ⟨_, rfl, p, _, 0, _, rfl, rfl, SqT.of hD, rfl, rfl, _, rfl, iteTb (by decide +kernel) ?_⟩
      have c1 : cutS (tx (a :: b :: c :: r)) (some 1) none = tx (b :: c :: r) := cut_from _ 1
      refine ⟨_, rfl, p, _, 2, _, rfl, rfl, SqT.of hD, rfl, _, rfl, _, 0, a.cp, rfl, rfl, hz, at_nat _ 0 a rfl, _, _, rfl, rfl, (by show 1 + 1 ≤ sizeLine; decide), ?_⟩
      refine ⟨_, rfl, p, _, 2, _, rfl, rfl, SqT.of hD, rfl, e, rfl, fun H1 s1 => ⟨_, _, rfl, rfl, (by show 2 + 1 ≤ sizeLine; decide), ?_⟩⟩
      refine ⟨_, rfl, _, rfl, _, rfl, hz, _, _, rfl, rfl, ?_, ?_⟩
      · rw [c1]
        show 3 + (tx (b :: c :: r)).length ≤ sizeLine
        rw [tx_len]
        exact Nat.le_of_lt (small1000 (by simp; omega))
      rw [c1]
      have et : tx [e] ++ ⟨#[a.cp]⟩ ++ tx [e.opp] ++ tx (b :: c :: r) = tx (e :: a :: e.opp :: b :: c :: r) := by
        rw [one_tx, tx_app', tx_app', tx_app']
        rfl
      rw [et]
      have hD1 := hD.same s1
      refine ⟨_, rfl, p, _, 2, _, rfl, rfl, SqT.of hD1, rfl, _, rfl, _, 0, a.cp, rfl, rfl, hz, at_nat _ 0 a rfl, _, rfl, _, 0, a.cp, rfl, rfl, hz, at_nat _ 0 a rfl, a, rfl, fun H2 s2 => ⟨(by decide : 2 ≤ sizeLine), fun p1 hp1 => ?_⟩⟩
      refine ⟨p1, _, rfl, .inr (SqT.of upd_same), rfl, rfl, ?_⟩
      exact fin _ (e :: a :: e.opp :: b :: c :: r) _ ((s1.trans s2).trans (same_upd hp1)) (by simp; omega)
    | out k =>
      refine ⟨_, rfl, p, _, 0, _, rfl, rfl, SqT.of hD, rfl, rfl, _, rfl, iteFb (by decide +kernel) ?_⟩
      refine ⟨_, rfl, p, _, 0, _, rfl, rfl, SqT.of hD, rfl, rfl, _, rfl, iteFb (by decide +kernel) ?_⟩
      have c3 : cutS (tx (a :: b :: c :: r)) (some 3) none = tx r := cut_from _ 3
      refine ⟨_, rfl, _, 1, b.cp, rfl, rfl, hz, at_nat _ 1 b rfl, _, rfl, _, rfl, _, rfl, hz, _, _, rfl, rfl, ?_, ?_⟩
      · rw [c3]
        show 1 + (tx r).length ≤ sizeLine
        rw [tx_len]
        exact Nat.le_of_lt (small1000 (by omega))
      rw [c3]
      have et : (⟨#[b.cp]⟩ : Str) ++ tx r = tx (b :: r) := by
        rw [one_tx, tx_app']
        rfl
      rw [et]
      refine ⟨_, rfl, _, 2, c.cp, rfl, rfl, hz, at_nat _ 2 c rfl, _, rfl, _, 0, a.cp, rfl, rfl, hz, at_nat _ 0 a rfl, a, rfl, fun H1 s1 => ⟨rfl, _, _, rfl, ?_⟩⟩
      exact fin _ (b :: r) _ s1 (by simp; omega)
def sp__law_deed : Sp := fun vs H Q _ => ∃ (pm pc pg : Addr) (n : Nat) (l : List D), vs = [.ref pm, .str (tx l)] ∧ DrawSt H pm pc pg n ∧ n < 2 ^ 39 ∧ 1 ≤ l.length ∧ l.length ≤ 1000 ∧ ∀ (p : Addr) (d : Deed) H', DeedAt H' p d → DrawSt H' pm pc pg (n + 3) → KeepD pm pg H H' → Q (.ref p) H'
abbrev N__law_deed : List Str := ["_law_m", "_law_text_here", "_law_place"]
abbrev P__law_deed : List Str := ["_law_m", "_law_text_here"]
theorem sc__law_deed : FnScope N__law_deed P__law_deed (defScope s__law_deed) := ⟨rfl, rfl, rfl, by decide +kernel, rfl, by decide +kernel, by decide +kernel⟩
theorem d__law_deed (T : Tx K mg) : Df P w K mg base 3 "_law_deed" P__law_deed sp__law_deed := by
  have G__law_draw := d__law_draw (P := P) (w := w) (base := base) T
  refine df_of T.F__law_deed sc__law_deed (fun vs H Q E h => ?_) (fun _ _ _ _ _ _ us hl => match us, hl with | [_, _], _ => rfl) (fun f cdv A outer s H vs Q E hr h => ?_)
  · obtain ⟨pm, pc, pg, n, l, rfl, _⟩ := h
    rfl
  · obtain ⟨pm, pc, pg, n, l, rfl, hS, hn, h1, hl, q⟩ := h
    have hz : (tx l).length ≤ sizeLine := by rw [tx_len]; exact Nat.le_of_lt (small1000 hl)
    refine ⟨_, (pss_cons (ps_set (i := 2) sc__law_deed.nd rfl (Or.inl rfl) (pe_df G__law_draw (hr.mono (by decide)) (pa_cons (pv 0) (pa_cons (pe_callB call_len_str (by rfl) T.n_len (by decide +kernel) (pa_cons (pv 1) pa_nil)) pa_nil))))
      (pss_one (ps_ret (pe_ix (ix_listK (K := K) rfl) (pe_lst (pa_cons (pe_tup (pa_cons pe_str (pa_cons (pv 2) pa_nil))) (pa_cons (pe_tup (pa_cons pe_str (pa_cons (pv 2) pa_nil))) (pa_cons (pe_tup (pa_cons pe_str (pa_cons (pv 2) (pa_cons (pe_ix ix_str pe_str (pe_df G__law_draw (hr.mono (by decide)) (pa_cons (pv 0) (pa_cons pe_int pa_nil))) (fun _ _ => rfl)) pa_nil)))) pa_nil)))) (pe_df G__law_draw (hr.mono (by decide)) (pa_cons (pv 0) (pa_cons pe_int pa_nil))) (fun _ _ => rfl))))), ?_⟩
    refine ⟨_, rfl, _, rfl, _, rfl, hz, pm, pc, pg, n, _, rfl, hS, by omega, by rw [tx_len]; omega, by rw [tx_len]; omega, fun r0 H1 r00 r01 S1 k1 => ?_⟩
    obtain ⟨k, rfl⟩ : ∃ k : Nat, r0 = k := ⟨r0.toNat, by omega⟩
    refine ⟨_, rfl, (by decide : 2 ≤ sizeLine), fun p1 n1 => ?_⟩
    have a1 := same_upd (o := .tup [.str "swap", .int ((k : Nat) : Int)]) n1
    have e1 := upd_same (H := H1) (a := p1) (o := .tup [.str "swap", .int ((k : Nat) : Int)])
    have b1 := S1.apart n1
    generalize upd H1 p1 (.tup [.str "swap", .int ((k : Nat) : Int)]) = H2 at a1 e1
    refine ⟨_, rfl, (by decide : 2 ≤ sizeLine), fun p2 n2 => ?_⟩
    have a2 := same_upd (o := .tup [.str "out", .int ((k : Nat) : Int)]) n2
    have e2 := upd_same (H := H2) (a := p2) (o := .tup [.str "out", .int ((k : Nat) : Int)])
    have b2 := (S1.same a1).apart n2
    generalize upd H2 p2 (.tup [.str "out", .int ((k : Nat) : Int)]) = H3 at a2 e2
    have S3 := (S1.same a1).same a2
    refine ⟨_, rfl, _, rfl, pm, pc, pg, n + 1, 4, rfl, S3, by omega, by decide, by decide, fun r1 H4 r10 r11 S4 k4 => ?_⟩
    obtain ⟨m, rfl⟩ : ∃ m : Nat, r1 = m := ⟨r1.toNat, by omega⟩
    obtain ⟨c, hc⟩ : ∃ c : D, [D.E, .N, .W, .S][m]? = some c := ⟨_, List.getElem?_eq_getElem (by show m < 4; omega)⟩
    refine ⟨_, _, c.cp, rfl, rfl, by decide +kernel, by rw [lENWS]; exact at_nat _ m c hc, (by decide : 3 ≤ sizeLine), fun p3 n3 => ?_⟩
    have a3 := same_upd (o := .tup [.str "in", .int ((k : Nat) : Int), .str (tx [c])]) n3
    have e3 : upd H4 p3 (.tup [.str "in", .int ((k : Nat) : Int), .str ⟨#[c.cp]⟩]) p3 = some (.tup [.str "in", .int ((k : Nat) : Int), .str (tx [c])]) := upd_same
    have b3 := S4.apart n3
    have f1 : H4 p1 = _ := k4 _ _ (a2 _ _ e1) b1.1 b1.2
    have f2 : H4 p2 = _ := k4 _ _ e2 b2.1 b2.2
    have g1 : upd H4 p3 (.tup [.str "in", .int ((k : Nat) : Int), .str ⟨#[c.cp]⟩]) p1 = _ := a3 _ _ f1
    have g2 : upd H4 p3 (.tup [.str "in", .int ((k : Nat) : Int), .str ⟨#[c.cp]⟩]) p2 = _ := a3 _ _ f2
    have a3' : Same H4 (upd H4 p3 (.tup [.str "in", .int ((k : Nat) : Int), .str ⟨#[c.cp]⟩])) := a3
    generalize upd H4 p3 (.tup [.str "in", .int ((k : Nat) : Int), .str ⟨#[c.cp]⟩]) = H5 at a3' e3 g1 g2
    refine ⟨(by decide : 3 ≤ sizeLine), fun p4 n4 => ?_⟩
    have a4 := same_upd (o := .lst [.ref p1, .ref p2, .ref p3]) n4
    have e4 := upd_same (H := H5) (a := p4) (o := .lst [.ref p1, .ref p2, .ref p3])
    have S5 := S4.same a3'
    have b4 := S5.apart n4
    generalize upd H5 p4 (.lst [.ref p1, .ref p2, .ref p3]) = H6 at a4 e4
    refine ⟨_, rfl, pm, pc, pg, n + 2, 3, rfl, S5.same a4, by omega, by decide, by decide, fun r2 H7 r20 r21 S7 k7 => ?_⟩
    have K7 : KeepD pm pg H H7 := k1.trans ((KeepD.of a1).trans ((KeepD.of a2).trans (k4.trans ((KeepD.of a3').trans ((KeepD.of a4).trans k7)))))
    have h4 : H7 p4 = _ := k7 _ _ e4 b4.1 b4.2
    have h1' : H7 p1 = _ := k7 _ _ (a4 _ _ g1) b1.1 b1.2
    have h2' : H7 p2 = _ := k7 _ _ (a4 _ _ g2) b2.1 b2.2
    have h3' : H7 p3 = _ := k7 _ _ (a4 _ _ e3) b3.1 b3.2
    have cs : r2 = 0 ∨ r2 = 1 ∨ r2 = 2 := by omega
    rcases cs with rfl | rfl | rfl
    · exact ⟨p4, _, _, .ref p1, rfl, rfl, SqL.of h4, rfl, q p1 (.sw k) H7 h1' S7 K7⟩
    · exact ⟨p4, _, _, .ref p2, rfl, rfl, SqL.of h4, rfl, q p2 (.out k) H7 h2' S7 K7⟩
    · exact ⟨p4, _, _, .ref p3, rfl, rfl, SqL.of h4, rfl, q p3 (.inn k c) H7 h3' S7 K7⟩
def sp__law_text : Sp := fun vs H Q _ => ∃ (pm pc pg : Addr) (n : Nat), vs = [.ref pm, .int 12, .int 20] ∧ DrawSt H pm pc pg n ∧ n < 2 ^ 38 ∧ ∀ (l : List D) (n' : Nat) H', isLoop l = true → l.length ≤ 20 → DrawSt H' pm pc pg n' → n' ≤ n + 60 → KeepD pm pg H H' → Q (.str (tx l)) H'
abbrev N__law_text : List Str := ["_law_m", "_law_many", "_law_most", "_law_text_here", "_law_again", "_law_found", "_law_place"]
abbrev P__law_text : List Str := ["_law_m", "_law_many", "_law_most"]
theorem sc__law_text : FnScope N__law_text P__law_text (defScope s__law_text) := ⟨rfl, rfl, rfl, by decide +kernel, rfl, by decide +kernel, by decide +kernel⟩
theorem d__law_text (T : Tx K mg) : Df P w K mg base 6 "_law_text" P__law_text sp__law_text := by
  have G__law_draw := d__law_draw (P := P) (w := w) (base := base) T
  have G__law_deed := d__law_deed (P := P) (w := w) (base := base) T
  have G__law_made := d__law_made (P := P) (w := w) (base := base) T
  refine df_of T.F__law_text sc__law_text (fun vs H Q E h => ?_) (fun _ _ _ _ _ _ us hl => match us, hl with | [_, _, _], _ => rfl) (fun f cdv A outer s H vs Q E hr h => ?_)
  · obtain ⟨pm, pc, pg, n, rfl, _⟩ := h
    rfl
  · obtain ⟨pm, pc, pg, n, rfl, hS, hn, q⟩ := h
    refine ⟨_, (pss_cons (ps_set (i := 3) sc__law_text.nd rfl (Or.inl rfl) (pe_ix (ix_listK (K := K) rfl) (pe_lst (pa_cons pe_str (pa_cons pe_str (pa_cons pe_str (pa_cons pe_str (pa_cons pe_str (pa_cons pe_str pa_nil))))))) (pe_df G__law_draw (hr.mono (by decide)) (pa_cons (pv 0) (pa_cons pe_int pa_nil))) (fun _ _ => rfl)))
      (pss_cons (ps_for PassesOwn.never rfl (pi_range1 (by rfl) T.n_range (pa_cons (pe_df G__law_draw (hr.mono (by decide)) (pa_cons (pv 0) (pa_cons (pe_op op_add (pv 1) pe_int) pa_nil))) pa_nil)) (pg_name (i := 4) sc__law_text.nd rfl (Or.inl rfl))
        (pss_cons (ps_set (i := 5) sc__law_text.nd rfl (Or.inl rfl) (pe_df G__law_made (hr.mono (by decide)) (pa_cons (pv 3) (pa_cons (pe_df G__law_deed (hr.mono (by decide)) (pa_cons (pv 0) (pa_cons (pv 3) pa_nil))) pa_nil))))
        (pss_one (ps_set (i := 3) sc__law_text.nd rfl (Or.inl rfl) (pe_ifExp (PW.pt (pw_and (pt_cmpR op_notN (pv 5) pe_non (nomark _)) (pw_and1 (pt_cmpR op_le (pe_callB call_len_str (by rfl) T.n_len (by decide +kernel) (pa_cons (pv 5) pa_nil)) (pv 2) (nomark _))))) (pv 5) (pv 3))))))
      (pss_cons (ps_set (i := 6) sc__law_text.nd rfl (Or.inl rfl) (pe_df G__law_draw (hr.mono (by decide)) (pa_cons (pv 0) (pa_cons (pe_callB call_len_str (by rfl) T.n_len (by decide +kernel) (pa_cons (pv 3) pa_nil)) pa_nil))))
      (pss_one (ps_ret (pe_op op_add_str (pe_slice sl_str (pv 3) (po_some (pv 6)) po_none) (pe_slice sl_str (pv 3) po_none (po_some (pv 6))))))))), ?_⟩
    refine ⟨(by decide : 6 ≤ sizeLine), fun p0 n0 => ?_⟩
    rw [six_tx]
    have a0 := same_upd (o := .lst (six.map fun l => V.str (tx l))) n0
    have e0 := upd_same (H := H) (a := p0) (o := .lst (six.map fun l => V.str (tx l)))
    generalize upd H p0 (.lst (six.map fun l => V.str (tx l))) = H1 at a0 e0
    have p0a := hS.apart n0
    refine ⟨_, rfl, pm, pc, pg, n, 6, rfl, hS.same a0, by omega, by decide, by decide, fun r H2 r0 r6 hS2 k2 => ?_⟩
    obtain ⟨s0, hs0, hat⟩ := pick6 r0 r6
    have k02 := (KeepD.of (pm := pm) (pg := pg) a0).trans k2
    refine ⟨p0, _, r, _, rfl, rfl, SqL.of (k2 _ _ e0 p0a.1 p0a.2), hat, ?_⟩
    have six0 := six_loop s0 hs0
    refine ⟨_, rfl, _, rfl, _, _, rfl, rfl, pm, pc, pg, n + 1, _, rfl, hS2, by omega, by decide, by decide, fun r2 H3 r20 r24 hS3 k3 => ?_⟩
    refine ⟨_, rfl, by omega, by omega, ?_⟩
    refine for_range (lo := 0) (n := r2.toNat) (fun i σ H' => ∃ (n' : Nat) (s : List D) (v4 v5 v6 : Option V), σ = [some (.ref pm), some (.int 12), some (.int 20), some (.str (tx s)), v4, v5, v6] ∧ isLoop s = true ∧ s.length ≤ 20 ∧ n' ≤ n + 2 + 3 * i ∧ DrawSt H' pm pc pg n' ∧ KeepD pm pg H H')
      ⟨n + 2, s0, _, _, _, rfl, six0.1, six0.2, by omega, hS3, k02.trans k3⟩ ?_ ?_
    · rintro i σ H4 hi ⟨n', s, v4, v5, v6, rfl, hs, hs20, hn', hS4, k4⟩
      have hi4 : i < 13 := by omega
      have s4 := isLoop_len hs
      refine ⟨_, rfl, _, rfl, _, rfl, pm, pc, pg, n', s, rfl, hS4, by omega, by omega, by omega, fun p d H5 hD hS5 k5 => ?_⟩
      refine ⟨p, s, d, rfl, hD, by omega, by omega, fun o H6 ho s6 => ?_⟩
      have S6 := hS5.same s6
      have K6 := k4.trans (k5.trans (KeepD.of s6))
      cases o with
      | none =>
        refine ⟨_, rfl, rfl, _, rfl, iteF ⟨_, rfl, ?_⟩⟩
        exact ⟨n' + 3, s, _, _, _, rfl, hs, hs20, by omega, S6, K6⟩
      | some f =>
        obtain ⟨f1, f2⟩ := ho f rfl
        have hz : (tx f).length ≤ sizeLine := by rw [tx_len]; exact Nat.le_of_lt (small1000 (by omega))
        refine ⟨_, rfl, rfl, _, rfl, iteT ⟨_, rfl, _, rfl, hz, _, rfl, _, _, rfl, rfl, _, rfl, ?_⟩⟩
        by_cases c : f.length ≤ 20
        · refine iteTb (decide_eq_true (by rw [tx_len]; omega)) ⟨_, rfl, ?_⟩
          exact ⟨n' + 3, f, _, _, _, rfl, f1, c, by omega, S6, K6⟩
        · refine iteFb (decide_eq_false (by rw [tx_len]; omega)) ⟨_, rfl, ?_⟩
          exact ⟨n' + 3, s, _, _, _, rfl, hs, hs20, by omega, S6, K6⟩
    · rintro σ H4 ⟨n', s, v4, v5, v6, rfl, hs, hs20, hn', hS4, k4⟩
      have s4 := isLoop_len hs
      have hz : (tx s).length ≤ sizeLine := by rw [tx_len]; exact Nat.le_of_lt (small1000 (by omega))
      refine ⟨_, rfl, _, rfl, _, rfl, hz, pm, pc, pg, n', _, rfl, hS4, by omega, by rw [tx_len]; omega, by rw [tx_len]; omega, fun r3 H5 r30 r31 hS5 k5 => ?_⟩
      obtain ⟨k, rfl⟩ : ∃ k : Nat, r3 = k := ⟨r3.toNat, by omega⟩
      refine ⟨_, rfl, _, rfl, _, rfl, _, rfl, hz, _, rfl, _, rfl, _, rfl, _, rfl, hz, _, _, rfl, rfl, ?_, ?_⟩
      · rw [cut_from, cut_to, tx_len, tx_len, List.length_drop, List.length_take]
        exact Nat.le_of_lt (small1000 (by omega))
      · rw [cut_from, cut_to, tx_app']
        rw [tx_len] at r31
        exact q (rot s k) (n' + 1) H5 (isLoop_rot hs (by omega)) (by rw [rot_len]; exact hs20) hS5 (by omega) (k4.trans k5)
end
end K51

end K51Ck_text
section K51Cl_text
set_option Elab.async false
set_option linter.all false
set_option maxRecDepth 100000
set_option maxHeartbeats 4000000
namespace K51
open PySem PySem.Spec PyProof.Rows L2 Kk SlX
section
variable {P : Program} {w : World} {K : PySem.W.Frag} {mg : Str → Option Value} {base : Heap}
def sp__law_turns : Sp := fun vs H Q _ => ∃ l : List D, vs = [.str (tx l)] ∧ l.length ≤ 1000 ∧ ∀ H', Same H H' → Q (.int (lturns l)) H'
abbrev N__law_turns : List Str := ["_law_text_here", "_law_found", "_law_order", "_law_k"]
abbrev P__law_turns : List Str := ["_law_text_here"]
theorem sc__law_turns : FnScope N__law_turns P__law_turns (defScope s__law_turns) := ⟨rfl, rfl, rfl, by decide +kernel, rfl, by decide +kernel, by decide +kernel⟩
theorem d__law_turns (T : Tx K mg) : Df P w K mg base 1 "_law_turns" P__law_turns sp__law_turns := by
  refine df_of T.F__law_turns sc__law_turns (fun vs H Q E h => ?_) (fun _ _ _ _ _ _ us hl => match us, hl with | [_], _ => rfl) (fun f cdv A outer s H vs Q E hr h => ?_)
  · obtain ⟨l, rfl, _⟩ := h
    rfl
  · obtain ⟨l, rfl, hl, q⟩ := h
    have hz : (tx l).length ≤ sizeLine := by rw [tx_len]; exact Nat.le_of_lt (small1000 hl)
    refine ⟨_, (pss_cons (ps_asg (pe_tup (pa_cons pe_int (pa_cons pe_str pa_nil))) (pg_tup rfl (pgs_cons (pg_name (i := 1) sc__law_turns.nd rfl (Or.inl rfl)) (pgs_cons (pg_name (i := 2) sc__law_turns.nd rfl (Or.inl rfl)) pgs_nil))))
      (pss_cons (ps_for PassesOwn.never rfl (pi_range1 (by rfl) T.n_range (pa_cons (pe_callB call_len_str (by rfl) T.n_len (by decide +kernel) (pa_cons (pv 0) pa_nil)) pa_nil)) (pg_name (i := 3) sc__law_turns.nd rfl (Or.inl rfl))
        (pss_one (ps_set (i := 1) sc__law_turns.nd rfl (Or.inl rfl) (pe_op op_add (pv 1) (pe_ix (ix_listK (K := K) rfl) (pe_lst (pa_cons pe_int (pa_cons pe_int (pa_cons pe_int (pa_cons (pe_un un_neg pe_int) pa_nil))))) (pe_op op_mod (pe_op op_sub (pe_bmS PySem.F.plainAttrs_str PySem.F.slot_str_index PySem.F.type_str_index (mt_indexX rfl tk0) (pv 2) (pa_cons (pe_ix ix_str (pv 0) (pv 3) (fun _ _ => rfl)) pa_nil)) (pe_bmS PySem.F.plainAttrs_str PySem.F.slot_str_index PySem.F.type_str_index (mt_indexX rfl tk0) (pv 2) (pa_cons (pe_ix ix_str (pv 0) (pe_op op_sub (pv 3) pe_int) (fun _ _ => rfl)) pa_nil))) pe_int) (fun _ _ => rfl))))))
      (pss_one (ps_ret (pe_op op_fdiv (pv 1) pe_int))))), ?_⟩
    have hlN : ((tx l).length : Int).toNat = l.length := by rw [tx_len]; omega
    refine ⟨(by decide : 2 ≤ sizeLine), fun p hp => ⟨p, _, rfl, SqT.of upd_same, rfl, _, _, rfl, _, _, rfl, rfl, ?_⟩⟩
    have sp := same_upd (o := .tup [.int 0, .str "ENWS"]) hp
    refine ⟨_, rfl, _, rfl, hz, _, rfl, by omega, by rw [tx_len]; omega, ?_⟩
    refine for_range (lo := 0) (n := ((tx l).length : Int).toNat) (fun i σ H' => Same H H' ∧ ∃ v, σ = [some (.str (tx l)), some (.int (ltnUp l i)), some (.str "ENWS"), v]) ⟨sp, _, rfl⟩ ?_ ?_
    · rintro i σ H' hi ⟨sm, v, rfl⟩
      have hi' : i < l.length := by omega
      obtain ⟨a, ha⟩ := ahead_some hi'
      obtain ⟨b, hb⟩ : ∃ b, l[i]? = some b := ⟨_, List.getElem?_eq_getElem hi'⟩
      rw [Int.zero_add]
      refine ⟨_, rfl, _, rfl, (by decide : 4 ≤ sizeLine), fun p1 np1 => ?_⟩
      have s1 := same_upd (o := .lst [.int 0, .int 1, .int 0, .int (-1)]) np1
      have e1 : upd H' p1 (.lst [.int 0, .int 1, .int 0, .int (-1)]) p1 = _ := upd_same
      refine ⟨_, rfl, rfl, _, rfl, _, rfl, _, _, b.cp, rfl, rfl, hz, at_nat l i b hb, _, _, rfl, rfl, fun k hk => ?_, fun hk => ?_⟩
      · rw [lENWS] at hk
        have hk : Txt.index0 (tx [.E, .N, .W, .S]) (tx [b]) = some k := hk
        rw [idx0] at hk
        obtain rfl := Option.some.inj hk
        refine ⟨_, rfl, rfl, _, rfl, _, rfl, _, _, rfl, rfl, _, _, a.cp, rfl, rfl, hz, at_ahead ha hi', _, _, rfl, rfl, fun k hk => ?_, fun hk => ?_⟩
        · rw [lENWS] at hk
          have hk : Txt.index0 (tx [.E, .N, .W, .S]) (tx [a]) = some k := hk
          rw [idx0] at hk
          obtain rfl := Option.some.inj hk
          refine ⟨_, _, rfl, rfl, _, _, rfl, rfl, (show (0 : Int) < 4 by decide), p1, _, _, .int (ltn a b), rfl, rfl, SqL.of e1, ?_, _, _, rfl, rfl, ?_⟩
          · cases a <;> cases b <;> rfl
          · refine ⟨sm.trans s1, some (.int (i : Nat)), ?_⟩
            have e : ltnUp l (i + 1) = ltnUp l i + ltn a b := by
              show ltnUp l i + ltnAt l i = _
              unfold ltnAt
              rw [ha, hb]
            rw [e]
            rfl
        · rw [lENWS] at hk
          have hk : Txt.index0 (tx [.E, .N, .W, .S]) (tx [a]) = none := hk
          rw [idx0] at hk
          cases hk
      · rw [lENWS] at hk
        have hk : Txt.index0 (tx [.E, .N, .W, .S]) (tx [b]) = none := hk
        rw [idx0] at hk
        cases hk
    · rintro σ H' ⟨sm, v, rfl⟩
      rw [hlN]
      refine ⟨_, rfl, _, _, rfl, rfl, (show CDiv _ 4 from ⟨by decide, by decide⟩), ?_⟩
      exact q _ sm
end
end K51

end K51Cl_text
section K51Ckl_text
set_option Elab.async false
set_option linter.all false
set_option maxRecDepth 100000
set_option maxHeartbeats 4000000
namespace K51
open PySem PySem.Spec PyProof.Rows L2 Kk SlX
section
variable {P : Program} {w : World} {K : PySem.W.Frag} {mg : Str → Option Value} {base : Heap}
/-! ### least -/
def sp__law_least : Sp := fun vs H Q _ => ∃ l : List D, vs = [.str (tx l)] ∧ 1 ≤ l.length ∧ l.length ≤ 1000 ∧ ∀ H', Same H H' → Q (.str (tx (norm l))) H'
abbrev N__law_least : List Str := ["_law_text_here", "_law_k"]
abbrev P__law_least : List Str := ["_law_text_here"]
theorem sc__law_least : FnScope N__law_least P__law_least (defScope s__law_least) := ⟨rfl, rfl, rfl, by decide +kernel, rfl, by decide +kernel, by decide +kernel⟩
theorem d__law_least (T : Tx K mg) : Df P w K mg base 1 "_law_least" P__law_least sp__law_least := by
  refine df_of T.F__law_least sc__law_least (fun vs H Q E h => ?_) (fun _ _ _ _ _ _ us hl => match us, hl with | [_], _ => rfl) (fun f cdv A outer s H vs Q E hr h => ?_)
  · obtain ⟨l, rfl, _⟩ := h
    rfl
  · obtain ⟨l, rfl, h1, hl, q⟩ := h
    have hz : (tx l).length ≤ sizeLine := by rw [tx_len]; exact Nat.le_of_lt (small1000 hl)
    refine ⟨_, (pss_one (ps_ret (pe_callB (cr_minS rfl) (by rfl) T.n_min (by decide +kernel) (pa_cons (pe_lc (own := [("_law_k", 1)]) (g := gName 1) (tt := tYes) rfl sc__law_least.nd (pi_range1 (by rfl) T.n_range (pa_cons (pe_callB call_len_str (by rfl) T.n_len (by decide +kernel) (pa_cons (pv 0) pa_nil)) pa_nil)) (blkOk_by (N := N__law_least) (sc := defScope s__law_least) (by decide +kernel)) (fun _ _ _ _ _ => (pg_name (i := 1) sc__law_least.nd rfl (Or.inl rfl))) (fun _ _ _ _ _ => pts_nil) (fun _ _ _ _ _ => (pe_op op_add_str (pe_slice sl_str (pv 0) (po_some (pv 1)) po_none) (pe_slice sl_str (pv 0) po_none (po_some (pv 1)))))) pa_nil)))), ?_⟩
    have hc : ∀ k : Nat, (tx (l.drop k)).length + (tx (l.take k)).length ≤ sizeLine := fun k => by
      rw [tx_len, tx_len, List.length_drop, List.length_take]
      exact Nat.le_of_lt (small1000 (by omega))
    refine ⟨_, rfl, _, rfl, hz, _, rfl, by omega, by rw [tx_len]; omega, fun dd nD => walk_rng (fun i H' => Grow H dd ((List.range i).map fun k => V.str (tx (rot l k))) H') (Grow.start nD) ?_ ?_⟩
    · intro i H' hi g
      have hi' : i < l.length := by rw [tx_len] at hi; omega
      refine ⟨rfl, ?_⟩
      rw [Int.zero_add]
      refine ⟨_, rfl, _, rfl, _, rfl, _, rfl, hz, _, rfl, _, rfl, _, rfl, _, rfl, hz, _, _, rfl, rfl, ?_, ?_⟩
      · rw [cut_from, cut_to]
        exact hc _
      · rw [cut_from, cut_to, tx_app']
        refine ⟨_, g.lst, ?_, ?_⟩
        · rw [List.length_map, List.length_range]
          exact small1000 (by omega)
        · rw [List.range_succ, List.map_append]
          exact g.push
    · intro H' g
      have e : ((tx l).length : Int).toNat = l.length := by rw [tx_len]; omega
      have len : ((List.range l.length).map fun k => tx (rot l k)).length = l.length := by rw [List.length_map, List.length_range]
      refine ⟨dd, (List.range l.length).map fun k => tx (rot l k), rfl, SqL.of ?_, by rw [len]; omega, fun m hm => ?_⟩
      · rw [g.lst, e, List.map_map]
        rfl
      · rw [len] at hm
        have eb : argBest (fun i j => decide (((((List.range l.length).map fun k => tx (rot l k))[i]?).getD Str.empty).cps.toList < ((((List.range l.length).map fun k => tx (rot l k))[j]?).getD Str.empty).cps.toList)) (l.length - 1) = leastB l := by
          rw [argBest_congr (bu := fun i j => ltT (rot l i) (rot l j))]
          · exact best_rot l _
          · intro i j hi hj
            rw [List.getElem?_map, List.getElem?_map, List.getElem?_range (by omega), List.getElem?_range (by omega)]
            exact lt_tx _ _
        rw [eb, List.getElem?_map, List.getElem?_range (by have := bestUp_le l (l.length - 1); unfold leastB; omega)] at hm
        obtain rfl := Option.some.inj hm
        exact q H' g.same
end
end K51

end K51Ckl_text
section K51Cll_text
set_option Elab.async false
set_option linter.all false
set_option maxRecDepth 100000
set_option maxHeartbeats 4000000
namespace K51
open PySem PySem.Spec PyProof.Rows L2 Kk SlX
theorem first4 : ([.str "E", .str "N", .str "S", .str "W"] : List V) = ([[.E], [.N], [.S], [.W]] : List (List D)).map fun l => V.str (tx l) := by decide +kernel
theorem for_strK {z : Str} {g : TG} {tb : TS} {D : Ends} {σ : L2.St} {H : Hp} (Pv : Nat → L2.St → Hp → Prop) (h0 : Pv 0 σ H) (hs : ∀ i c σ H, z.cps[i]? = some c → Pv i σ H → g (.str ⟨#[c]⟩) σ H fun σ2 H2 => tb { D with nx := Pv (i + 1), ct := Pv (i + 1), bk := D.nx } σ2 H2)
    (hd : ∀ σ H, Pv z.cps.size σ H → D.nx σ H) : ∃ W : Nat → Nat → L2.St → Hp → Prop, (∃ m, W 0 m σ H) ∧ ∀ i m σ H, W i m σ H →
      ((Its z).stop i H ∧ D.nx σ H) ∨ ((Its z).go i H ∧ ∃ N : L2.St → Hp → Prop, (∀ σ' H', N σ' H' → ∃ m', m' < m ∧ W (i + 1) m' σ' H') ∧ ∀ x H', (Its z).yld i H x H' → g x σ H' fun σ2 H2 => tb { D with nx := N, ct := N, bk := D.nx } σ2 H2) := by
  refine ⟨fun i m σ H => i + m = z.cps.size ∧ Pv i σ H, ⟨z.cps.size, Nat.zero_add _, h0⟩, fun i m σ H ⟨em, p⟩ => ?_⟩
  by_cases hi : i < z.cps.size
  · refine .inr ⟨hi, Pv (i + 1), fun σ' H' p' => ⟨m - 1, by omega, by omega, p'⟩, ?_⟩
    rintro x H' ⟨rfl, c, hc, rfl⟩
    exact hs i c σ _ hc p
  · have e : i = z.cps.size := by omega
    subst e
    exact .inl ⟨Nat.le_refl _, hd σ H p⟩
section
variable {P : Program} {w : World} {K : PySem.W.Frag} {mg : Str → Option Value} {base : Heap}
def sp__law_loops : Sp := fun vs H Q _ => ∃ n : Nat, vs = [.int (n : Nat)] ∧ 4 ≤ n ∧ n ≤ 10 ∧ ∀ p H', H p = none → Same H H' → H' p = some (.lst ((loopsL n).map fun l => V.str (tx l))) → Q (.ref p) H'
abbrev N__law_loops : List Str := ["_law_strokes", "_law_rows", "_law_again", "_law_longer", "_law_row", "_law_left", "_law_letter", "_law_x", "_law_y"]
abbrev P__law_loops : List Str := ["_law_strokes"]
theorem sc__law_loops : FnScope N__law_loops P__law_loops (defScope s__law_loops) := ⟨rfl, rfl, rfl, by decide +kernel, rfl, by decide +kernel, by decide +kernel⟩
theorem d__law_loops (T : Tx K mg) : Df P w K mg base 5 "_law_loops" P__law_loops sp__law_loops := by
  have G__law_other := d__law_other (P := P) (w := w) (base := base) T
  have G__law_ends := d__law_ends (P := P) (w := w) (base := base) T
  have G__law_is_loop := d__law_is_loop (P := P) (w := w) (base := base) T
  refine df_of T.F__law_loops sc__law_loops (fun vs H Q E h => ?_) (fun _ _ _ _ _ _ us hl => match us, hl with | [_], _ => rfl) (fun f cdv A outer s H vs Q E hr h => ?_)
  · obtain ⟨n, rfl, _⟩ := h
    rfl
  · obtain ⟨n, rfl, h4, h10, q⟩ := h
    refine ⟨_, (pss_cons (ps_set (i := 1) sc__law_loops.nd rfl (Or.inl rfl) (pe_lst (pa_cons pe_str (pa_cons pe_str (pa_cons pe_str (pa_cons pe_str pa_nil))))))
      (pss_cons (ps_for PassesOwn.never rfl (pi_range1 (by rfl) T.n_range (pa_cons (pe_op op_sub (pv 0) pe_int) pa_nil)) (pg_name (i := 2) sc__law_loops.nd rfl (Or.inl rfl))
        (pss_cons (ps_set (i := 3) sc__law_loops.nd rfl (Or.inl rfl) (pe_lst pa_nil))
        (pss_cons (ps_for PassesOwn.never rfl (pi_list (pv 1)) (pg_name (i := 4) sc__law_loops.nd rfl (Or.inl rfl))
          (pss_cons (ps_set (i := 5) sc__law_loops.nd rfl (Or.inl rfl) (pe_op op_sub (pv 0) (pe_callB call_len_str (by rfl) T.n_len (by decide +kernel) (pa_cons (pv 4) pa_nil))))
          (pss_one (ps_for PassesOwn.never rfl (pi_str pe_str) (pg_name (i := 6) sc__law_loops.nd rfl (Or.inl rfl))
            (pss_cons (ps_asg (pe_df G__law_ends (hr.mono (by decide)) (pa_cons (pe_op op_add_str (pv 4) (pv 6)) pa_nil)) (pg_lst rfl (pgs_cons (pg_name (i := 7) sc__law_loops.nd rfl (Or.inl rfl)) (pgs_cons (pg_name (i := 8) sc__law_loops.nd rfl (Or.inl rfl)) pgs_nil))))
            (pss_one (ps_if (PW.pt (pw_and (pt_cmpR op_ne (pv 6) (pe_df G__law_other (hr.mono (by decide)) (pa_cons (pe_ix ix_str (pv 4) (pe_un un_neg pe_int) (fun _ _ => rfl)) pa_nil)) (nomark _)) (pw_and1 (pt_cmpR op_lt (pe_op op_add (pe_callB call_abs (by rfl) T.n_abs (by decide +kernel) (pa_cons (pv 7) pa_nil)) (pe_callB call_abs (by rfl) T.n_abs (by decide +kernel) (pa_cons (pv 8) pa_nil))) (pv 5) (nomark _)))))
              (pss_one (ps_expr (pe_bm PySem.F.plainAttrs_list PySem.F.slot_list_append PySem.F.type_list_append mt_append (pv 3) (pa_cons (pe_op op_add_str (pv 4) (pv 6)) pa_nil))))
              pss_nil)))))))
        (pss_one (ps_set (i := 1) sc__law_loops.nd rfl (Or.inl rfl) (pv 3))))))
      (pss_one (ps_ret (pe_lc (own := [("_law_row", 4)]) (g := gName 4) rfl sc__law_loops.nd (pi_list (pv 1)) (blkOk_by (N := N__law_loops) (sc := defScope s__law_loops) (by decide +kernel)) (fun _ _ _ _ _ => (pg_name (i := 4) sc__law_loops.nd rfl (Or.inl rfl))) (fun _ _ _ _ _ => pts_one (pt_val (pe_df G__law_is_loop (hr.mono (by decide)) (pa_cons (pv 4) pa_nil)))) (fun _ _ _ _ _ => (pv 4))))))), ?_⟩
    have sz : 2000000 < sizeLine := by decide
    refine ⟨(by decide : 4 ≤ sizeLine), fun R0 nR0 => ?_⟩
    have e00 : ([.str "E", .str "N", .str "S", .str "W"] : List V) = (rowsL n 0).map fun l => V.str (tx l) := first4
    rw [e00]
    have e0 := upd_same (H := H) (a := R0) (o := .lst ((rowsL n 0).map fun l => V.str (tx l)))
    have s0 := same_upd (o := .lst ((rowsL n 0).map fun l => V.str (tx l))) nR0
    generalize upd H R0 (.lst ((rowsL n 0).map fun l => V.str (tx l))) = H1 at s0 e0
    refine ⟨_, rfl, _, _, rfl, rfl, _, rfl, by omega, by omega, ?_⟩
    refine for_range (lo := 0) (n := (((n : Nat) : Int) - 1).toNat) (fun i σ H' => ∃ R v2 v3 v4 v5 v6 v7 v8, σ = [some (.int (n : Nat)), some (.ref R), v2, v3, v4, v5, v6, v7, v8] ∧ Same H H' ∧ H' R = some (.lst ((rowsL n i).map fun l => V.str (tx l)))) ⟨R0, _, _, _, _, _, _, _, rfl, s0, e0⟩ ?_ ?_
    · rintro i σ H2 hi ⟨R, v2, v3, v4, v5, v6, v7, v8, rfl, s2, eR⟩
      have hi' : i + 1 < n := by omega
      refine ⟨Nat.zero_le _, fun Lg nL => ?_⟩
      have g0 := Grow.start nL
      generalize upd H2 Lg (.lst []) = H3 at g0
      refine ⟨_, rfl, R, rfl, ⟨_, SqL.of (g0.same _ _ eR)⟩, ?_⟩
      refine for_list (K := K) (a := R) (xs := (rowsL n i).map fun l => V.str (tx l)) (fun j σ H' => ∃ v4 v5 v6 v7 v8, σ = [some (.int (n : Nat)), some (.ref R), some (.int (0 + (i : Nat))), some (.ref Lg), v4, v5, v6, v7, v8] ∧ Grow H2 Lg ((((rowsL n i).take j).flatMap fun row => [D.E, .N, .S, .W].flatMap (stepRow n row)).map fun l => V.str (tx l)) H') ⟨_, _, _, _, _, rfl, g0⟩ ?_ ?_ ?_
      · rintro j σ H' _ ⟨_, _, _, _, _, _, g⟩
        exact SqL.of (g.same _ _ eR)
      · rintro j z σ H4 hz ⟨v4, v5, v6, v7, v8, rfl, g⟩
        rw [List.getElem?_map] at hz
        obtain ⟨row, hrow, ez⟩ := Option.map_eq_some_iff.mp hz
        subst ez
        obtain ⟨rl, rlen⟩ := rows_len n i row (List.mem_of_getElem? hrow)
        obtain ⟨r0, a, er⟩ : ∃ r0 a, row = r0 ++ [a] := ⟨row.dropLast, row.getLast rl, (List.dropLast_concat_getLast rl).symm⟩
        have hzr : (tx row).length ≤ sizeLine := by rw [tx_len]; exact Nat.le_of_lt (small1000 (by omega))
        refine ⟨_, rfl, _, rfl, _, rfl, hzr, _, _, rfl, rfl, ?_⟩
        have pre : ((rowsL n i).take (j + 1)).flatMap (fun row => [D.E, .N, .S, .W].flatMap (stepRow n row)) = ((rowsL n i).take j).flatMap (fun row => [D.E, .N, .S, .W].flatMap (stepRow n row)) ++ [D.E, .N, .S, .W].flatMap (stepRow n row) := by
          rw [take_more hrow, List.flatMap_append, List.flatMap_singleton]
        rw [pre]
        have bnd : (((rowsL n i).take j).flatMap fun row => [D.E, .N, .S, .W].flatMap (stepRow n row)).length ≤ 4 * (rowsL n i).length := Nat.le_trans (flat_le (k := 4) (fun row => by
          refine Nat.le_trans (flat_le (k := 1) (fun d => stepRow_le n row d) _) ?_
          show 1 * 4 ≤ 4
          decide) _) (Nat.mul_le_mul_left 4 (List.length_take_le' _ _))
        have rb := rows_le n i
        have rb2 : 4 ^ (i + 1) ≤ 4 ^ 9 := Nat.pow_le_pow_right (by decide) (by omega)
        have rb3 : (4 : Nat) ^ 9 = 262144 := rfl
        generalize (((rowsL n i).take j).flatMap fun row => [D.E, .N, .S, .W].flatMap (stepRow n row)) = acc at g bnd
        refine ⟨_, rfl, ?_⟩
        refine for_strK (z := "ENSW") (fun c σ H' => ∃ v6 v7 v8, σ = [some (.int (n : Nat)), some (.ref R), some (.int (0 + (i : Nat))), some (.ref Lg), some (.str (tx row)), some (.int (((n : Nat) : Int) - ((tx row).length : Nat))), v6, v7, v8] ∧ Grow H2 Lg ((acc ++ ([D.E, .N, .S, .W].take c).flatMap (stepRow n row)).map fun l => V.str (tx l)) H') ⟨_, _, _, rfl, by rw [List.take_zero, List.flatMap_nil, List.append_nil]; exact g⟩ ?_ ?_
        · rintro c ch σ H5 hc ⟨v6, v7, v8, rfl, g5⟩
          have hsz : ("ENSW" : Str).cps.size = 4 := by decide +kernel
          have hlt := (Array.getElem?_eq_some_iff.mp hc).1
          obtain ⟨d, hd, ech⟩ : ∃ d, [D.E, D.N, D.S, D.W][c]? = some d ∧ ch = d.cp := by
            rcases c with _ | _ | _ | _ | c
            · exact ⟨_, rfl, (Option.some.inj hc).symm⟩
            · exact ⟨_, rfl, (Option.some.inj hc).symm⟩
            · exact ⟨_, rfl, (Option.some.inj hc).symm⟩
            · exact ⟨_, rfl, (Option.some.inj hc).symm⟩
            · rw [hsz] at hlt
              omega
          subst ech
          have cb : (acc ++ ([D.E, .N, .S, .W].take c).flatMap (stepRow n row)).length < sizeLine := by
            rw [List.length_append]
            have := flat_le (k := 1) (fun d => stepRow_le n row d) ([D.E, .N, .S, .W].take c)
            rw [List.length_take] at this
            have : min c [D.E, .N, .S, .W].length ≤ 4 := Nat.min_le_right _ _
            omega
          have hz2 : (tx row).length + (tx [d]).length ≤ sizeLine := by
            rw [tx_len, tx_len]
            exact Nat.le_of_lt (small1000 (by simp only [List.length_singleton]; omega))
          have at_ : atI (tx row).cps.toList (-1) = some a.cp := at_last _ a (by rw [er]; simp)
          have eS : stepRow n row d = if d ≠ a.opp ∧ (endX (row ++ [d])).natAbs + (endY (row ++ [d])).natAbs + row.length < n then [row ++ [d]] else [] := by
            unfold stepRow
            rw [er, List.getLast?_concat]
          rw [take_more hd, List.flatMap_append, List.flatMap_singleton]
          refine ⟨_, rfl, _, rfl, _, _, rfl, rfl, hz2, row ++ [d], by rw [tx_app]; rfl, fun p hp => ?_⟩
          refine ⟨p, _, rfl, SqL.of upd_same, rfl, _, _, rfl, _, _, rfl, rfl, ?_⟩
          have g6 := g5.more (same_upd (o := .lst [.int (endX (row ++ [d])), .int (endY (row ++ [d]))]) hp)
          generalize upd H5 p (.lst [.int (endX (row ++ [d])), .int (endY (row ++ [d]))]) = H6 at g6
          refine ⟨_, rfl, _, rfl, _, rfl, _, _, a.cp, rfl, rfl, hzr, at_, a, rfl, fun H7 s7 => ⟨rfl, _, rfl, ?_⟩⟩
          have g7 := g6.more s7
          show if (!decide (V.str (tx [d]) = V.str (tx [a.opp]))) = true then _ else _
          rw [t1_dec]
          by_cases c1 : d = a.opp
          · refine iteFb (by rw [decide_eq_true c1]; rfl) (iteF ?_)
            rw [if_neg (fun z => z.1 c1)] at eS
            rw [eS, List.append_nil]
            exact ⟨_, _, _, rfl, g7⟩
          · refine iteTb (by rw [decide_eq_false c1]; rfl) ?_
            refine ⟨_, rfl, _, rfl, _, rfl, _, rfl, _, _, rfl, rfl, _, rfl, _, _, rfl, rfl, _, rfl, ?_⟩
            by_cases c2 : (endX (row ++ [d])).natAbs + (endY (row ++ [d])).natAbs + row.length < n
            · refine iteTb (decide_eq_true (by rw [tx_len]; split <;> split <;> omega)) ?_
              rw [if_pos ⟨c1, c2⟩] at eS
              rw [eS]
              refine ⟨_, rfl, .inl ⟨rfl, _, SqL.of g7.lst⟩, _, rfl, _, rfl, _, _, rfl, rfl, hz2, Lg, _, _, rfl, rfl, g7.lst, by rw [List.length_map]; exact cb, _, _, _, rfl, ?_⟩
              have z := g7.push (x := V.str (tx (row ++ [d])))
              rw [← List.append_assoc, List.map_append (l₁ := acc ++ _)]
              have et : tx row ++ tx [d] = tx (row ++ [d]) := tx_app' _ _
              show Grow H2 Lg _ (upd H7 Lg (.lst (_ ++ [V.str (tx row ++ tx [d])])))
              rw [et]
              exact z
            · refine iteFb (decide_eq_false (by rw [tx_len]; split <;> split <;> omega)) ?_
              rw [if_neg (fun z => c2 z.2)] at eS
              rw [eS, List.append_nil]
              exact ⟨_, _, _, rfl, g7⟩
        · rintro σ H5 ⟨v6, v7, v8, rfl, g5⟩
          have hsz : ("ENSW" : Str).cps.size = 4 := by decide +kernel
          rw [hsz] at g5
          exact ⟨_, _, _, _, _, rfl, g5⟩
      · rintro σ H4 ⟨v4, v5, v6, v7, v8, rfl, g⟩
        rw [List.length_map, List.take_length] at g
        exact ⟨_, rfl, Lg, _, _, _, _, _, _, _, rfl, s2.trans g.same, g.lst⟩
    · rintro σ H2 ⟨R, v2, v3, v4, v5, v6, v7, v8, rfl, s2, eR⟩
      have en : (((n : Nat) : Int) - 1).toNat = n - 1 := by omega
      rw [en] at eR
      refine ⟨_, rfl, R, rfl, ⟨_, SqL.of eR⟩, fun dd nD => walk_list (K := K) (a := R) ((rowsL n (n - 1)).map fun l => V.str (tx l)) (fun j H' => Grow H2 dd ((((rowsL n (n - 1)).take j).filter isLoop).map fun l => V.str (tx l)) H') (Grow.start nD) (fun j H' _ g => SqL.of (g.same _ _ eR)) ?_ ?_⟩
      · rintro j z H4 hz g
        rw [List.getElem?_map] at hz
        obtain ⟨row, hrow, ez⟩ := Option.map_eq_some_iff.mp hz
        subst ez
        obtain ⟨rl, rlen⟩ := rows_len n (n - 1) row (List.mem_of_getElem? hrow)
        refine ⟨rfl, _, rfl, row, rfl, by omega, fun H5 s5 => ⟨_, rfl, ?_⟩⟩
        have g5 := g.more s5
        rw [take_more hrow, List.filter_append, List.map_append]
        by_cases c0 : isLoop row = true
        · refine iteTb c0 ?_
          have ef : [row].filter isLoop = [row] := by rw [List.filter_cons, if_pos c0, List.filter_nil]
          rw [ef]
          refine ⟨_, rfl, _, g5.lst, ?_, g5.push⟩
          rw [List.length_map]
          have rb := rows_le n (n - 1)
          have rb2 : 4 ^ (n - 1 + 1) ≤ 4 ^ 10 := Nat.pow_le_pow_right (by decide) (by omega)
          have rb3 : (4 : Nat) ^ 10 = 1048576 := rfl
          have f1 := List.length_filter_le isLoop ((rowsL n (n - 1)).take j)
          have f2 := List.length_take_le' j (rowsL n (n - 1))
          omega
        · refine iteFb (Bool.eq_false_iff.mpr c0) ?_
          have ef : [row].filter isLoop = [] := by rw [List.filter_cons, if_neg c0, List.filter_nil]
          rw [ef, List.map_nil, List.append_nil]
          exact g5
      · intro H4 g
        rw [List.length_map, List.take_length] at g
        exact q dd H4 (s2.free nD) (s2.trans g.same) g.lst
end
end K51

end K51Cll_text
section K51Ca_text
set_option Elab.async false
set_option linter.all false
set_option maxRecDepth 100000
set_option maxHeartbeats 4000000
namespace K51
open PySem PySem.Spec PyProof.Rows L2 Kk SlX
section
variable {P : Program} {w : World} {K : PySem.W.Frag} {mg : Str → Option Value} {base : Heap}
/-! ### is_among -/
def sp_is_among : Sp := fun vs H Q _ => ∃ v a b : Int, vs = [.int v, .int a, .int b] ∧ a ≤ v ∧ v ≤ b ∧ Q (.bl true) H
abbrev N_is_among : List Str := ["value", "least", "most"]
abbrev P_is_among : List Str := ["value", "least", "most"]
theorem sc_is_among : FnScope N_is_among P_is_among (defScope s_is_among) := ⟨rfl, rfl, rfl, by decide +kernel, rfl, by decide +kernel, by decide +kernel⟩
theorem d_is_among (T : Tx K mg) : Df P w K mg base 2 "is_among" P_is_among sp_is_among := by
  have G_is_whole : Df P w K mg base 1 "is_whole" P_is_whole sp_is_whole := d_is_whole T
  refine df_of T.F_is_among sc_is_among (fun vs H Q E h => ?_) (fun _ _ _ _ _ _ us hl => match us, hl with | [_, _, _], _ => rfl) (fun f cdv A outer s H vs Q E hr h => ?_)
  · obtain ⟨v, a, b, rfl, _⟩ := h
    rfl
  · obtain ⟨v, a, b, rfl, h1, h2, q⟩ := h
    refine ⟨_, (pss_one (ps_ret (pe_and (pe_df G_is_whole (hr.mono (by decide)) (pa_cons (pv 0) pa_nil)) (pe_one (pe_chain op_le op_le (pv 1) (pv 0) (pv 2)))))), ?_⟩
    refine ⟨_, rfl, v, rfl, true, rfl, iteT ?_⟩
    refine ⟨_, rfl, _, rfl, _, _, rfl, rfl, _, rfl, iteTb (decide_eq_true h1) ?_⟩
    refine ⟨_, rfl, _, _, rfl, rfl, ?_⟩
    show Q (.bl (decide (v ≤ b))) H
    rw [decide_eq_true h2]
    exact q
/-! ### need_strokes_number, need_whole -/
def sp_need_strokes_number : Sp := fun vs H Q _ => ∃ v : Int, vs = [.int v] ∧ 4 ≤ v ∧ v ≤ 12 ∧ v % 2 = 0 ∧ Q .non H
abbrev N_need_strokes_number : List Str := ["strokes"]
abbrev P_need_strokes_number : List Str := ["strokes"]
theorem sc_need_strokes_number : FnScope N_need_strokes_number P_need_strokes_number (defScope s_need_strokes_number) := ⟨rfl, rfl, rfl, by decide +kernel, rfl, by decide +kernel, by decide +kernel⟩
theorem d_need_strokes_number (T : Tx K mg) : Df P w K mg base 3 "need_strokes_number" P_need_strokes_number sp_need_strokes_number := by
  have G_is_among : Df P w K mg base 2 "is_among" P_is_among sp_is_among := d_is_among T
  refine df_of T.F_need_strokes_number sc_need_strokes_number (fun vs H Q E h => ?_) (fun _ _ _ _ _ _ us hl => match us, hl with | [_], _ => rfl) (fun f cdv A outer s H vs Q E hr h => ?_)
  · obtain ⟨v, rfl, _⟩ := h
    rfl
  · obtain ⟨v, rfl, h1, h2, h3, q⟩ := h
    refine ⟨_, (pss_one (ps_if (PW.pt (pw_or (pt_not (pt_val (pe_df G_is_among (hr.mono (by decide)) (pa_cons (pv 0) (pa_cons (pe_globI T.m_QUARTERS) (pa_cons (pe_globI T.m_MOST_COUNTED) pa_nil)))))) (pw_or1 (pt_cmpR op_eq (pe_op op_mod (pv 0) pe_int) pe_int (nomark _)))))
        (pss_one ps_never)
        pss_nil)), ?_⟩
    refine ⟨_, rfl, v, 4, 12, rfl, h1, h2, true, rfl, iteF ?_⟩
    refine ⟨_, rfl, _, _, rfl, rfl, (by decide : (0 : Int) < 2), rfl, _, rfl, ?_⟩
    show if decide (V.int (v % 2) = V.int 1) = true then _ else _
    refine iteFb (decide_eq_false fun z => ?_) q
    injection z with z
    omega
def sp_need_whole : Sp := fun vs H Q _ => ∃ v : Int, vs = [.int v] ∧ Q .non H
abbrev N_need_whole : List Str := ["value"]
abbrev P_need_whole : List Str := ["value"]
theorem sc_need_whole : FnScope N_need_whole P_need_whole (defScope s_need_whole) := ⟨rfl, rfl, rfl, by decide +kernel, rfl, by decide +kernel, by decide +kernel⟩
theorem d_need_whole (T : Tx K mg) : Df P w K mg base 2 "need_whole" P_need_whole sp_need_whole := by
  have G_is_whole : Df P w K mg base 1 "is_whole" P_is_whole sp_is_whole := d_is_whole T
  refine df_of T.F_need_whole sc_need_whole (fun vs H Q E h => ?_) (fun _ _ _ _ _ _ us hl => match us, hl with | [_], _ => rfl) (fun f cdv A outer s H vs Q E hr h => ?_)
  · obtain ⟨v, rfl, _⟩ := h
    rfl
  · obtain ⟨v, rfl, q⟩ := h
    refine ⟨_, (pss_one (ps_if (pt_not (pt_val (pe_df G_is_whole (hr.mono (by decide)) (pa_cons (pv 0) pa_nil))))
        (pss_one ps_never)
        pss_nil)), ?_⟩
    exact ⟨_, rfl, v, rfl, true, rfl, iteF q⟩
/-! ### height_behind -/
def sp_height_behind : Sp := fun vs H Q _ => ∃ (h : Int) (a : D), vs = [.int h, .str (tx [a])] ∧ Q (.int (hB h a)) H
abbrev N_height_behind : List Str := ["height", "letter"]
abbrev P_height_behind : List Str := ["height", "letter"]
theorem sc_height_behind : FnScope N_height_behind P_height_behind (defScope s_height_behind) := ⟨rfl, rfl, rfl, by decide +kernel, rfl, by decide +kernel, by decide +kernel⟩
theorem d_height_behind (T : Tx K mg) : Df P w K mg base 2 "height_behind" P_height_behind sp_height_behind := by
  have G_heading : Df P w K mg base 1 "heading" P_heading sp_heading := d_heading T
  refine df_of T.F_height_behind sc_height_behind (fun vs H Q E h => ?_) (fun _ _ _ _ _ _ us hl => match us, hl with | [_, _], _ => rfl) (fun f cdv A outer s H vs Q E hr h => ?_)
  · obtain ⟨h, a, rfl, _⟩ := h
    rfl
  · obtain ⟨h, a, rfl, q⟩ := h
    refine ⟨_, (pss_one (ps_ret (pe_op op_sub (pe_op op_add (pv 0) (pe_op op_mod (pe_op op_add (pe_op op_sub (pe_df G_heading (hr.mono (by decide)) (pa_cons (pv 1) pa_nil)) (pv 0)) pe_int) (pe_globI T.m_QUARTERS))) pe_int))), ?_⟩
    refine ⟨_, rfl, _, rfl, a, rfl, _, rfl, _, _, rfl, rfl, _, _, rfl, rfl, _, _, rfl, rfl, (show (0 : Int) < 4 by decide), _, _, rfl, rfl, _, _, rfl, rfl, ?_⟩
    exact q
end
end K51

end K51Ca_text
section K51Cb_text
set_option Elab.async false
set_option linter.all false
set_option maxRecDepth 100000
set_option maxHeartbeats 4000000
namespace K51
open PySem PySem.Spec PyProof.Rows L2 Kk SlX
section
variable {P : Program} {w : World} {K : PySem.W.Frag} {mg : Str → Option Value} {base : Heap}
abbrev CC (K : PySem.W.Frag) : Addr := He.ga K "Counter"
/-! ### Counter.behind -/
def sp_behind : Sp := fun vs H Q _ => ∃ (x : Addr) (a b h : Int), vs = [.ref x, .int a, .int b, .int h] ∧ ∀ p, H p = none → Q (.ref p) (upd H p (.tup [.int (a + stpX h), .int (b + stpY h), .int h]))
abbrev N_Counter_behind : List Str := ["self", "x", "y", "height", "step"]
abbrev P_Counter_behind : List Str := ["self", "x", "y", "height"]
theorem sc_Counter_behind : FnScope N_Counter_behind P_Counter_behind (defScope s_Counter_behind) := ⟨rfl, rfl, rfl, by decide +kernel, rfl, by decide +kernel, by decide +kernel⟩
theorem m_behind (T : Tx K mg) : Mt P w K mg base 1 (He.ma K (CC K) "behind") sp_behind := by
  obtain ⟨a_STEPS, p0, p1, p2, p3, h_STEPS, hS, h0, h1, h2, h3⟩ := T.c_STEPS
  refine mt_of T.C_behind sc_Counter_behind (fun vs H Q E h => ?_) (fun _ _ _ _ _ _ us hl => match us, hl with | [_, _, _, _], _ => rfl) (fun cdv A outer s H vs Q E hr h => ?_)
  · obtain ⟨x, a, b, h, rfl, _⟩ := h
    rfl
  · obtain ⟨x, a, b, h, rfl, q⟩ := h
    refine ⟨_, (pss_cons (ps_set (i := 4) sc_Counter_behind.nd rfl (Or.inl rfl) (pe_ix (ix_tupK (K := K) rfl) (pe_glob (v := .ref a_STEPS) (by rfl) h_STEPS rfl) (pe_op op_mod (pv 3) (pe_globI T.m_QUARTERS)) (fun _ _ => rfl)))
      (pss_one (ps_ret (pe_tup (pa_cons (pe_op op_add (pv 1) (pe_ix (ix_tupK (K := K) rfl) (pv 4) pe_int (fun _ _ => rfl))) (pa_cons (pe_op op_add (pv 2) (pe_ix (ix_tupK (K := K) rfl) (pv 4) pe_int (fun _ _ => rfl))) (pa_cons (pv 3) pa_nil))))))), ?_⟩
    refine ⟨_, rfl, _, _, rfl, rfl, (show (0 : Int) < 4 by decide), ?_⟩
    have r4 : h % 4 = 0 ∨ h % 4 = 1 ∨ h % 4 = 2 ∨ h % 4 = 3 := by omega
    have fin : ∀ (pk : Addr) (u v : Int), TupK K pk [.int u, .int v] → u = stpX h → v = stpY h → gName 4 (.ref pk) (L2.start N_Counter_behind [V.ref x, V.int a, V.int b, V.int h]) H (fun σ H => tRet (tTup (tCons (tOp (rI0 fun i j => V.int (i + j)) (tVar 1) (tOp (rIxT K) (tVar 4) (tC (V.int 0)))) (tCons (tOp (rI0 fun i j => V.int (i + j)) (tVar 2) (tOp (rIxT K) (tVar 4) (tC (V.int 1)))) (tCons (tVar 3) tNil)))) { nx := fun _ H' => Q V.non H', rt := Q } σ H) := by
      intro pk u v hk hu hv
      refine ⟨_, rfl, _, rfl, _, _, _, .int u, rfl, rfl, hk.sq _, rfl, _, _, rfl, rfl, _, rfl, _, rfl, _, _, _, .int v, rfl, rfl, hk.sq _, rfl, _, _, rfl, rfl, _, rfl, (by decide : 3 ≤ sizeLine), fun p hp => ?_⟩
      rw [hu, hv]
      exact q p hp
    show rIxT K (V.ref a_STEPS) (V.int (h % 4)) H _
    rcases r4 with e | e | e | e <;> rw [e]
    · exact ⟨_, _, _, .ref p0, rfl, rfl, hS.sq _, rfl, fin p0 1 0 h0 (by unfold stpX; rw [e]; rfl) (by unfold stpY; rw [e]; rfl)⟩
    · exact ⟨_, _, _, .ref p1, rfl, rfl, hS.sq _, rfl, fin p1 0 1 h1 (by unfold stpX; rw [e]; rfl) (by unfold stpY; rw [e]; rfl)⟩
    · exact ⟨_, _, _, .ref p2, rfl, rfl, hS.sq _, rfl, fin p2 (-1) 0 h2 (by unfold stpX; rw [e]; rfl) (by unfold stpY; rw [e]; rfl)⟩
    · exact ⟨_, _, _, .ref p3, rfl, rfl, hS.sq _, rfl, fin p3 0 (-1) h3 (by unfold stpX; rw [e]; rfl) (by unfold stpY; rw [e]; rfl)⟩
/-! ### Counter.__init__ -/
def sp_Counter_init (C : Addr) : Sp := fun vs H Q _ => ∃ (x dx : Addr) (g : Int), vs = [.ref x, .int g] ∧ H x = some (.ins C dx []) ∧ ∀ p, p ≠ x → H p = none → Q .non (upd (upd (upd H x (.ins C dx [("goal", .int g)])) p (.dT [])) x (.ins C dx [("goal", .int g), ("known", .ref p)]))
abbrev N_Counter_init : List Str := ["self", "goal"]
abbrev P_Counter_init : List Str := ["self", "goal"]
theorem sc_Counter_init : FnScope N_Counter_init P_Counter_init (defScope s_Counter_init) := ⟨rfl, rfl, rfl, by decide +kernel, rfl, by decide +kernel, by decide +kernel⟩
theorem m_Counter_init (T : Tx K mg) : Mt P w K mg base 1 (He.ma K (CC K) "__init__") (sp_Counter_init (CC K)) := by
  refine mt_of T.C_init sc_Counter_init (fun vs H Q E h => ?_) (fun _ _ _ _ _ _ us hl => match us, hl with | [_, _], _ => rfl) (fun cdv A outer s H vs Q E hr h => ?_)
  · obtain ⟨x, dx, g, rfl, _⟩ := h
    rfl
  · obtain ⟨x, dx, g, rfl, hx, q⟩ := h
    refine ⟨_, (pss_cons (ps_fld (pv 0) (pv 1) rfl)
      (pss_one (ps_fld (pv 0) pe_dnewT rfl))), ?_⟩
    refine ⟨_, rfl, _, rfl, x, _, dx, _, rfl, hx, T.C_cls, T.C_goal, by decide, ?_⟩
    intro p hp
    have ne : p ≠ x := fun z => by rw [z, upd_same] at hp; cases hp
    refine ⟨_, rfl, x, _, dx, _, rfl, by rw [upd_ne (Ne.symm ne), upd_same], T.C_cls, T.C_known, (by show 1 < 1000; decide), ?_⟩
    exact q p ne (by rw [upd_ne ne] at hp; exact hp)
end
section
variable {X : Cx} {k : Nat} {e1 o : Expr} {es : List Expr} {te : TE} {t : TA} {apos pos : Pos} {pl : Sem Bool}
theorem pe_own_behind {P : Program} {w : World} {K : PySem.W.Frag} {mg : Str → Option Value} {base : Heap} (T : Tx K mg) (G : Mt P w K mg base k (He.ma K (CC K) "behind") sp_behind) (hr : Room k X.A) (he : PE X o te) (ha : PA X (e1 :: es) t)
    (hst : starEach (e1 :: es) X.env = (false, eval e1 X.env) :: starEach es X.env := by rfl) (hpl : (backTo pos (starEach es X.env)).any (·.1) = false := by rfl)
    (ht : eval (.Call (.Attribute o "behind" apos) (e1 :: es) [] pos) X.env = (do
      let ov ← eval o X.env
      standAt apos.atName
      let (f, first) ← holding [ov] (getMethod ov "behind" pl)
      callWith pos f first (backTo pos (starEach (e1 :: es) X.env)) (backToKw pos (keywordEach [] X.env))) := by rfl) (hX : X.prog = P ∧ X.w = w ∧ X.K = K ∧ X.mg = mg ∧ X.base = base := by exact ⟨rfl, rfl, rfl, rfl, rfl⟩) :
    PE X (.Call (.Attribute o "behind" apos) (e1 :: es) [] pos) (tMethR (CC K) "behind" sp_behind E0 te t) := by
  obtain ⟨e1, e2, e3, e4, e5⟩ := hX
  subst e1 e2 e3 e4 e5
  exact pe_methR he T.C_cls T.C_behindM.mt G.run hr pass0 ha hst hpl ht
theorem pe_own_ways {sp : Sp} {P : Program} {w : World} {K : PySem.W.Frag} {mg : Str → Option Value} {base : Heap} (T : Tx K mg) (G : Mt P w K mg base k (He.ma K (CC K) "ways") sp) (hr : Room k X.A) (he : PE X o te) (ha : PA X (e1 :: es) t)
    (hst : starEach (e1 :: es) X.env = (false, eval e1 X.env) :: starEach es X.env := by rfl) (hpl : (backTo pos (starEach es X.env)).any (·.1) = false := by rfl)
    (ht : eval (.Call (.Attribute o "ways" apos) (e1 :: es) [] pos) X.env = (do
      let ov ← eval o X.env
      standAt apos.atName
      let (f, first) ← holding [ov] (getMethod ov "ways" pl)
      callWith pos f first (backTo pos (starEach (e1 :: es) X.env)) (backToKw pos (keywordEach [] X.env))) := by rfl) (hX : X.prog = P ∧ X.w = w ∧ X.K = K ∧ X.mg = mg ∧ X.base = base := by exact ⟨rfl, rfl, rfl, rfl, rfl⟩) :
    PE X (.Call (.Attribute o "ways" apos) (e1 :: es) [] pos) (tMethR (CC K) "ways" sp E0 te t) := by
  obtain ⟨e1, e2, e3, e4, e5⟩ := hX
  subst e1 e2 e3 e4 e5
  exact pe_methR he T.C_cls T.C_waysM.mt G.run hr pass0 ha hst hpl ht
end
end K51

end K51Cb_text
section KqUn_text
set_option Elab.async false
set_option linter.all false
set_option maxRecDepth 100000
set_option maxHeartbeats 4000000
/-! A model like the given one but that «yield from» over a generator hands its values on unguarded; what runs there runs in the given machine (KqReal) -/
namespace KQ
open PySem
open Sem (wp)
/-- a generator's object -/
def isGen : Option Obj → Bool
  | some o => o.genNumber?.isSome
  | none => false
/-- a tree whose guarded yields are unguarded (and marked) where d is a generator, and nothing elsewhere -/
def un {α : Type} (d : Addr) : Sem α → Sem α
  | .pure a => .pure a
  | .raise e => .raise e
  | .unsupported z => .unsupported z
  | .finish e => .finish e
  | .rule t k => .rule t fun x => un d (k x)
  | .at p k => .at p fun x => un d (k x)
  | .load a p k => .load a p fun x => un d (k x)
  | .update a p g k => .update a p g fun x => un d (k x)
  | .alloc o k => .alloc o fun x => un d (k x)
  | .loadIfAlive a k => .loadIfAlive a fun x => un d (k x)
  | .point l k => .point l fun x => un d (k x)
  | .register a k => .register a fun x => un d (k x)
  | .fresh k => .fresh fun x => un d (k x)
  | .ask k => .ask fun x => un d (k x)
  | .choose s n k => .choose s n fun x => un d (k x)
  | .os q l k => .os q l fun x => un d (k x)
  | .call c h g l k => .call c h g l fun x => un d (k x)
  | .handled o k => .handled o fun x => un d (k x)
  | .newGen c k => .newGen c fun x => un d (k x)
  | .genState g k => .genState g fun x => un d (k x)
  | .resume g r l k => .resume g r l fun x => un d (k x)
  | .yield v true l k => .loadIfAlive d fun o => match isGen o with
    | true => .yield v false [.ellipsis] fun x => un d (k x)
    | false => .unsupported ""
  | .yield v false l k => .yield v false [] fun x => un d (k x)
  | .stack k => .stack fun x => un d (k x)
  | .fork c k => .fork c fun x => un d (k x)
  | .thread k => .thread fun x => un d (k x)
  | .await a f t l k => .await a f t l fun x => un d (k x)
theorem un_bind {α β : Type} {d : Addr} (m : Sem α) (f : α → Sem β) : un d (m.bind f) = (un d m).bind fun x => un d (f x) := by
  induction m with
  | yield v g l k ih =>
    cases g with
    | false =>
      simp only [Sem.bind, un]
      congr 1
      funext x
      exact ih x
    | true =>
      simp only [Sem.bind, un]
      congr 1
      funext o
      cases isGen o with
      | true =>
        simp only [Sem.bind]
        congr 1
        funext x
        exact ih x
      | false => rfl
  | _ => first | rfl | (simp only [Sem.bind, un]; congr 1; funext x; first | exact ih x | (rename_i ih; exact ih x))
theorem un_bind' {α β : Type} {d : Addr} (m : Sem α) (f : α → Sem β) : un d (m >>= f) = un d m >>= fun x => un d (f x) := un_bind m f
/-- what ends without a yield ends likewise -/
theorem wp_un {α : Type} {M : Model} {Γ : Ctx} {d : Addr} (t : Sem α) : ∀ {Q : α → Pos → Shared → Prop} {E : Value → Pos → Shared → Prop} {p : Pos} {s : Shared}, wp M Γ t Q E p s → wp M Γ (un d t) Q E p s := by
  induction t with
  | pure a => intro Q E p s h; exact h
  | raise e => intro Q E p s h; exact h
  | unsupported z => intro Q E p s h; exact h
  | finish e => intro Q E p s h; exact h
  | register a k ih => intro Q E p s h; exact h.elim
  | yield v g l k ih => intro Q E p s h; exact h.elim
  | fork c k ih => intro Q E p s h; exact h.elim
  | await a f t l k ih => intro Q E p s h; exact h.elim
  | load a p k ih => intro Q E p s h; obtain ⟨o, ho, h⟩ := h; exact ⟨o, ho, ih o h⟩
  | update a p f k ih => intro Q E p s h; exact ⟨h.1, ih () h.2⟩
  | choose src n k ih => intro Q E p s h; exact ⟨h.1, ih _ h.2⟩
  | call c h g l k ih => intro Q E p s h; obtain ⟨r, s', hr, h⟩ := h; exact ⟨r, s', hr, ih r h⟩
  | genState g k ih => intro Q E p s h; obtain ⟨st, hg, h⟩ := h; exact ⟨st, hg, ih _ h⟩
  | resume g r l k ih => intro Q E p s h; obtain ⟨x, s', hw, h⟩ := h; exact ⟨x, s', hw, ih x h⟩
  | rule t k ih => intro Q E p s h; exact ih _ h
  | «at» p k ih => intro Q E p s h; exact ih _ h
  | alloc o k ih => intro Q E p s h; exact ih _ h
  | loadIfAlive a k ih => intro Q E p s h; exact ih _ h
  | point l k ih => intro Q E p s h; exact ih _ h
  | fresh k ih => intro Q E p s h; exact ih _ h
  | ask k ih => intro Q E p s h; exact ih _ h
  | os q l k ih => intro Q E p s h; exact ih _ h
  | handled o k ih => intro Q E p s h; exact ih _ h
  | newGen c k ih => intro Q E p s h; exact ih _ h
  | stack k ih => intro Q E p s h; exact ih _ h
  | thread k ih => intro Q E p s h; exact ih _ h
theorem wpAny_un {α : Type} {M : Model} {A : Around} {d : Addr} {t : Sem α} {Q : α → Shared → Prop} {E : Value → Shared → Prop} {s : Shared} (h : wpAny M A t Q E s) : wpAny M A (un d t) Q E s := fun Γ p hΓ => wp_un t (h Γ p hΓ)
/-- the code of «yield from» over what stands at an address -/
def yfAt : Code → Option Addr
  | .builtin id ⟨.ref d :: _, _⟩ => if id = "proto.yield_from" then some d else none
  | _ => none
/-- a tree of a code -/
def vw {α : Type} (c : Code) (t : Sem α) : Sem α := match yfAt c with
  | some d => un d t
  | none => t
theorem vw_bind {α β : Type} {c : Code} (m : Sem α) (f : α → Sem β) : vw c (m.bind f) = (vw c m).bind fun x => vw c (f x) := by
  unfold vw
  cases yfAt c with
  | none => rfl
  | some d => exact un_bind m f
def M2 (prog : Program) (w : World) : Model := ⟨fun c => vw c (denote table c), prog, w⟩
theorem den2 {prog : Program} {w : World} {c : Code} : (M2 prog w).den c = vw c ((model prog w).den c) := rfl
theorem den2_of {prog : Program} {w : World} {c : Code} (h : yfAt c = none) : (M2 prog w).den c = (model prog w).den c := by
  rw [den2]
  unfold vw
  rw [h]
end KQ

end KqUn_text
section KqLift_text
set_option Elab.async false
set_option linter.all false
set_option maxRecDepth 100000
set_option maxHeartbeats 4000000
/-! What runs in the given model while some generators can't be woken runs in M2 too, and these sleep on as they were -/
namespace KQ
open PySem
open Sem (wp)
section
variable {α : Type} {c : Code}
theorem vw_pure {a : α} : vw c (.pure a) = .pure a := by unfold vw; cases yfAt c <;> rfl
theorem vw_raise {e : Value} : vw c (.raise e : Sem α) = .raise e := by unfold vw; cases yfAt c <;> rfl
theorem vw_rule {t k} : vw c (.rule t k : Sem α) = .rule t fun x => vw c (k x) := by unfold vw; cases yfAt c <;> rfl
theorem vw_at {t k} : vw c (.at t k : Sem α) = .at t fun x => vw c (k x) := by unfold vw; cases yfAt c <;> rfl
theorem vw_load {a p k} : vw c (.load a p k : Sem α) = .load a p fun x => vw c (k x) := by unfold vw; cases yfAt c <;> rfl
theorem vw_update {a p f k} : vw c (.update a p f k : Sem α) = .update a p f fun x => vw c (k x) := by unfold vw; cases yfAt c <;> rfl
theorem vw_alloc {o k} : vw c (.alloc o k : Sem α) = .alloc o fun x => vw c (k x) := by unfold vw; cases yfAt c <;> rfl
theorem vw_loadIfAlive {a k} : vw c (.loadIfAlive a k : Sem α) = .loadIfAlive a fun x => vw c (k x) := by unfold vw; cases yfAt c <;> rfl
theorem vw_point {l k} : vw c (.point l k : Sem α) = .point l fun x => vw c (k x) := by unfold vw; cases yfAt c <;> rfl
theorem vw_fresh {k} : vw c (.fresh k : Sem α) = .fresh fun x => vw c (k x) := by unfold vw; cases yfAt c <;> rfl
theorem vw_ask {k} : vw c (.ask k : Sem α) = .ask fun x => vw c (k x) := by unfold vw; cases yfAt c <;> rfl
theorem vw_choose {s n k} : vw c (.choose s n k : Sem α) = .choose s n fun x => vw c (k x) := by unfold vw; cases yfAt c <;> rfl
theorem vw_os {q l k} : vw c (.os q l k : Sem α) = .os q l fun x => vw c (k x) := by unfold vw; cases yfAt c <;> rfl
theorem vw_call {d h g l k} : vw c (.call d h g l k : Sem α) = .call d h g l fun x => vw c (k x) := by unfold vw; cases yfAt c <;> rfl
theorem vw_handled {o k} : vw c (.handled o k : Sem α) = .handled o fun x => vw c (k x) := by unfold vw; cases yfAt c <;> rfl
theorem vw_newGen {d k} : vw c (.newGen d k : Sem α) = .newGen d fun x => vw c (k x) := by unfold vw; cases yfAt c <;> rfl
theorem vw_genState {g k} : vw c (.genState g k : Sem α) = .genState g fun x => vw c (k x) := by unfold vw; cases yfAt c <;> rfl
theorem vw_resume {g r l k} : vw c (.resume g r l k : Sem α) = .resume g r l fun x => vw c (k x) := by unfold vw; cases yfAt c <;> rfl
/-- what lives while a code sleeps: nothing is told of it at «yield from» -/
def vl (c : Code) (l : List Value) : List Value := match yfAt c with
  | some _ => []
  | none => l
theorem vw_yield {v l k} : vw c (.yield v false l k : Sem α) = .yield v false (vl c l) fun x => vw c (k x) := by unfold vw vl; cases yfAt c <;> rfl
theorem vw_stack {k} : vw c (.stack k : Sem α) = .stack fun x => vw c (k x) := by unfold vw; cases yfAt c <;> rfl
theorem vw_thread {k} : vw c (.thread k : Sem α) = .thread fun x => vw c (k x) := by unfold vw; cases yfAt c <;> rfl
end
def vF : Frame → Frame
  | .ret k h g l c p kp => .ret (fun r => vw c (k r)) h g l c p kp
  | .gen g k l c p => .gen g (fun r => vw c (k r)) l c p
def vG : GenState → GenState
  | .suspended k l c p fs cl => .suspended (fun r => vw c (k r)) (vl c l) c p (fs.map vF) cl
  | x => x
def vE : End → End
  | .ret r => .ret r
  | .susp v g l k c p fs => .susp v g (vl c l) (fun r => vw c (k r)) c p (fs.map vF)
theorem vF_marks (F : Frame) : (vF F).marks = F.marks := by cases F <;> rfl
theorem vF_where (F : Frame) : (vF F).where_ = F.where_ := by cases F <;> rfl
theorem vF_guarded (F : Frame) : (vF F).guarded = F.guarded := by cases F <;> rfl
theorem map_any (fs : List Frame) : (fs.map vF).any Frame.guarded = fs.any Frame.guarded := by
  rw [List.any_map]
  congr 1
  funext F
  exact vF_guarded F
theorem map_where (fs : List Frame) : (fs.map vF).map Frame.where_ = fs.map Frame.where_ := by
  rw [List.map_map]
  congr 1
  funext F
  exact vF_where F
theorem map_marks (fs : List Frame) (x : Option Value × Option Value) : marksOver (fs.map vF) x = marksOver fs x := by
  induction fs with
  | nil => rfl
  | cons F r ih =>
    show (vF F).marks (marksOver (r.map vF) x) = F.marks (marksOver r x)
    rw [ih, vF_marks]
theorem nogen_cons {F : Frame} {fs : List Frame} (h : splitAtGen (F :: fs) = none) : (∃ k hd g l c p kp, F = .ret k hd g l c p kp) ∧ splitAtGen fs = none := by
  cases F with
  | gen g k l c p => exact absurd h (by simp [splitAtGen])
  | ret k hd g l c p kp =>
    refine ⟨⟨k, hd, g, l, c, p, kp, rfl⟩, ?_⟩
    have h2 : (splitAtGen fs).map (fun x : List Frame × (Nat × (GenResult → Sem PySem.Fin) × Code × Pos) × List Frame => (Frame.ret k hd g l c p kp :: x.1, x.2.1, x.2.2)) = none := h
    exact Option.map_eq_none_iff.mp h2
theorem nogen_map {fs : List Frame} (h : splitAtGen fs = none) : splitAtGen (fs.map vF) = none := by
  induction fs with
  | nil => rfl
  | cons F r ih =>
    obtain ⟨⟨k, hd, g, l, c, p, kp, rfl⟩, h2⟩ := nogen_cons h
    show (splitAtGen (r.map vF)).map _ = none
    rw [ih h2]
    rfl
theorem nogen_append {a b : List Frame} (h : splitAtGen a = none) (h2 : splitAtGen b = none) : splitAtGen (a ++ b) = none := by
  induction a with
  | nil => exact h2
  | cons F r ih =>
    obtain ⟨⟨k, hd, g, l, c, p, kp, rfl⟩, h3⟩ := nogen_cons h
    show (splitAtGen (r ++ b)).map _ = none
    rw [ih h3]
    rfl
theorem over_map {Γ : Ctx} {fs : List Frame} (h : splitAtGen fs = none) : Γ.over (fs.map vF) = Γ.over fs := by
  unfold Ctx.over
  rw [map_marks, map_where, nogen_map h, h]
  dsimp only
  rw [map_marks]
theorem vE_result (e : End) : (vE e).result = e.result := by
  cases e with
  | ret r => cases r <;> rfl
  | susp v g l k c p fs => rfl
theorem vE_quiet (e : End) : (vE e).quiet = e.quiet := by
  cases e with
  | ret r => rfl
  | susp v g l k c p fs =>
    show (!(g || (fs.map vF).any Frame.guarded)) = !(g || fs.any Frame.guarded)
    rw [map_any]
theorem vE_genState (e : End) : (vE e).genState = vG e.genState := by
  cases e with
  | ret r => rfl
  | susp v g l k c p fs =>
    show GenState.suspended _ (vl c l) c p (fs.map vF) (g || (fs.map vF).any Frame.guarded) = _
    rw [map_any]
    rfl
theorem vG_seen (x : GenState) : (vG x).seen = x.seen := by
  cases x with
  | suspended k l c p fs cl =>
    show (GenStatus.suspended, some ((c, p) :: (fs.map vF).map Frame.where_)) = _
    rw [map_where]
    rfl
  | _ => rfl
/-- it can't be woken -/
def stuckG : GenState → GenState
  | .suspended _ l c p fs _ => .suspended (fun _ => .unsupported "") l c p fs false
  | x => x
theorem no_run {M : Model} {z : String} {Γ : Ctx} {p : Pos} {t : Sem PySem.Fin} {fs : List Frame} {s s' : Shared} {e : End} (h : Runs M Γ p t fs s e s') : t ≠ .unsupported z := by
  induction h with
  | segRet h1 h2 ih1 ih2 => exact ih1
  | segGen h1 h2 ih1 ih2 => exact ih1
  | segSuspOut h1 h2 ih => exact ih
  | segSuspGen h1 h2 h3 h4 ih1 ih2 => exact ih1
  | _ => intro q; cases q
/-- the generators that sleep on (G), here and in M2 -/
structure AS (G : Nat → Option GenState) (a b : Array GenState) : Prop where
  size : b.size = a.size
  dom : ∀ i x, G i = some x → x.status = .suspended ∧ b[i]? = some x ∧ a[i]? = some (stuckG x)
  oth : ∀ i, G i = none → b[i]? = (a[i]?).map vG
  nog : ∀ i k l c p fs cl, G i = none → a[i]? = some (.suspended k l c p fs cl) → splitAtGen fs = none
section
variable {G : Nat → Option GenState} {a b : Array GenState}
theorem AS.set (h : AS G a b) {i : Nat} {y : GenState} (hi : G i = none) (hy : ∀ k l c p fs cl, y = .suspended k l c p fs cl → splitAtGen fs = none) : AS G (a.setIfInBounds i y) (b.setIfInBounds i (vG y)) := by
  refine ⟨by rw [Array.size_setIfInBounds, Array.size_setIfInBounds, h.size], fun j x hj => ?_, fun j hj => ?_, fun j k l c p fs cl hj e => ?_⟩
  · have ne : i ≠ j := fun z => by rw [z, hj] at hi; cases hi
    rw [Array.getElem?_setIfInBounds_ne ne, Array.getElem?_setIfInBounds_ne ne]
    exact h.dom j x hj
  · by_cases e : i = j
    · subst e
      rw [Array.getElem?_setIfInBounds, Array.getElem?_setIfInBounds, if_pos rfl, if_pos rfl, h.size]
      split <;> rfl
    · rw [Array.getElem?_setIfInBounds_ne e, Array.getElem?_setIfInBounds_ne e]
      exact h.oth j hj
  · by_cases q : i = j
    · subst q
      rw [Array.getElem?_setIfInBounds, if_pos rfl] at e
      split at e
      · exact hy _ _ _ _ _ _ (Option.some.inj e)
      · cases e
    · rw [Array.getElem?_setIfInBounds_ne q] at e
      exact h.nog j k l c p fs cl hj e
theorem AS.push (h : AS G a b) {c : Code} : AS G (a.push (.fresh c)) (b.push (.fresh c)) := by
  have nG : ∀ i x, G i = some x → i < a.size := fun i x e => (Array.getElem?_eq_some_iff.mp (h.dom i x e).2.2).1
  refine ⟨by rw [Array.size_push, Array.size_push, h.size], fun j x hj => ?_, fun j hj => ?_, fun j k l d p fs cl hj e => ?_⟩
  · obtain ⟨d1, d2, d3⟩ := h.dom j x hj
    have lt := nG j x hj
    refine ⟨d1, ?_, ?_⟩
    · rw [Array.getElem?_push_lt (by rw [h.size]; exact lt)]
      rw [← d2, Array.getElem?_eq_getElem (by rw [h.size]; exact lt)]
    · rw [Array.getElem?_push_lt lt]
      rw [← d3, Array.getElem?_eq_getElem lt]
  · rw [Array.getElem?_push, Array.getElem?_push, h.size]
    split
    · rfl
    · exact h.oth j hj
  · rw [Array.getElem?_push] at e
    split at e
    · cases e
    · exact h.nog j k l d p fs cl hj e
theorem AS.at_ (h : AS G a b) {i : Nat} {x : GenState} (e : a[i]? = some x) : (G i = none ∧ b[i]? = some (vG x)) ∨ ∃ y, G i = some y ∧ x = stuckG y ∧ y.status = .suspended ∧ b[i]? = some y := by
  cases q : G i with
  | none => exact .inl ⟨rfl, by rw [h.oth i q, e]; rfl⟩
  | some y =>
    obtain ⟨d1, d2, d3⟩ := h.dom i y q
    rw [e] at d3
    exact .inr ⟨y, rfl, Option.some.inj d3, d1, d2⟩
end
theorem stuckG_seen (x : GenState) : (stuckG x).seen = x.seen := by cases x <;> rfl
theorem stuckG_shape {x : GenState} (h : x.status = .suspended) : ∃ l c p fs, stuckG x = .suspended (fun _ => .unsupported "") l c p fs false := by
  cases x with
  | suspended k l c p fs cl => exact ⟨l, c, p, fs, rfl⟩
  | _ => cases h
theorem quiet_front {v : Value} {g : Bool} {l : List Value} {k : Resume → Sem PySem.Fin} {c : Code} {p : Pos} {a b : List Frame} (h : (End.susp v g l k c p (a ++ b)).quiet = true) : (End.susp v g l k c p a).quiet = true := by
  have h : (!(g || (a ++ b).any Frame.guarded)) = true := h
  show (!(g || a.any Frame.guarded)) = true
  rw [List.any_append] at h
  cases g <;> cases q : a.any Frame.guarded <;> simp_all
def withG (s : Shared) (g : Array GenState) : Shared := { s with gens := g }
abbrev NoG (e : End) : Prop := ∀ v g l k c p fs, e = .susp v g l k c p fs → splitAtGen fs = none
theorem genState_nog {e : End} (h : NoG e) : ∀ k l c p fs cl, e.genState = .suspended k l c p fs cl → splitAtGen fs = none := by
  intro k l c p fs cl q
  cases e with
  | ret r => cases q
  | susp v g l2 k2 c2 p2 fs2 =>
    injection q with q1 q2 q3 q4 q5 q6
    subst q5
    exact h _ _ _ _ _ _ _ rfl
theorem lift {prog : Program} {w : World} {G : Nat → Option GenState} {Γ : Ctx} {p : Pos} {t : Sem PySem.Fin} {fs : List Frame} {s s' : Shared} {e : End} (h : Runs (model prog w) Γ p t fs s e s') :
    e.quiet = true → splitAtGen fs = none → ∀ g2, AS G s.gens g2 → ∃ g3, Runs (M2 prog w) Γ p (vw Γ.code t) (fs.map vF) (withG s g2) (vE e) (withG s' g3) ∧ AS G s'.gens g3 ∧ NoG e := by
  induction h with
  | done => exact fun _ _ g2 a => ⟨g2, by rw [vw_pure]; exact .done, a, fun _ _ _ _ _ _ _ q => by cases q⟩
  | raise => exact fun _ _ g2 a => ⟨g2, by rw [vw_raise]; exact .raise, a, fun _ _ _ _ _ _ _ q => by cases q⟩
  | again hq h ih =>
    intro q n g2 a
    obtain ⟨g3, r, a3, z⟩ := ih q rfl g2 a
    exact ⟨g3, by rw [vw_pure]; exact .again hq r, a3, z⟩
  | rule h ih =>
    intro q n g2 a
    obtain ⟨g3, r, a3, z⟩ := ih q rfl g2 a
    exact ⟨g3, by rw [vw_rule]; exact .rule r, a3, z⟩
  | «at» h ih =>
    intro q n g2 a
    obtain ⟨g3, r, a3, z⟩ := ih q rfl g2 a
    exact ⟨g3, by rw [vw_at]; exact .at r, a3, z⟩
  | load ho h ih =>
    intro q n g2 a
    obtain ⟨g3, r, a3, z⟩ := ih q rfl g2 a
    exact ⟨g3, by rw [vw_load]; exact .load (s := withG _ g2) ho r, a3, z⟩
  | update ho h ih =>
    intro q n g2 a
    obtain ⟨g3, r, a3, z⟩ := ih q rfl g2 a
    exact ⟨g3, by rw [vw_update]; exact .update (s := withG _ g2) ho r, a3, z⟩
  | loadIfAlive h ih =>
    intro q n g2 a
    obtain ⟨g3, r, a3, z⟩ := ih q rfl g2 a
    exact ⟨g3, by rw [vw_loadIfAlive]; exact .loadIfAlive (s := withG _ g2) r, a3, z⟩
  | point h ih =>
    intro q n g2 a
    obtain ⟨g3, r, a3, z⟩ := ih q rfl g2 a
    exact ⟨g3, by rw [vw_point]; exact .point r, a3, z⟩
  | alloc h ih =>
    intro q n g2 a
    obtain ⟨g3, r, a3, z⟩ := ih q rfl g2 a
    exact ⟨g3, by rw [vw_alloc]; exact .alloc (s := withG _ g2) r, a3, z⟩
  | fresh h ih =>
    intro q n g2 a
    obtain ⟨g3, r, a3, z⟩ := ih q rfl g2 a
    exact ⟨g3, by rw [vw_fresh]; exact .fresh (s := withG _ g2) r, a3, z⟩
  | ask h ih =>
    intro q n g2 a
    obtain ⟨g3, r, a3, z⟩ := ih q rfl g2 a
    exact ⟨g3, by rw [vw_ask]; exact .ask r, a3, z⟩
  | choose hn h ih =>
    intro q n g2 a
    obtain ⟨g3, r, a3, z⟩ := ih q rfl g2 a
    exact ⟨g3, by rw [vw_choose]; exact .choose (s := withG _ g2) hn r, a3, z⟩
  | os h ih =>
    intro q n g2 a
    obtain ⟨g3, r, a3, z⟩ := ih q rfl g2 a
    exact ⟨g3, by rw [vw_os]; exact .os (s := withG _ g2) r, a3, z⟩
  | handled h ih =>
    intro q n g2 a
    obtain ⟨g3, r, a3, z⟩ := ih q rfl g2 a
    exact ⟨g3, by rw [vw_handled]; exact .handled r, a3, z⟩
  | genState hg h ih =>
    intro q n g2 a
    obtain ⟨g3, r, a3, z⟩ := ih q rfl g2 a
    refine ⟨g3, ?_, a3, z⟩
    rw [vw_genState]
    rcases a.at_ hg with ⟨_, e2⟩ | ⟨y, _, e1, _, e2⟩
    · refine .genState (s := withG _ g2) e2 ?_
      rw [vG_seen]
      exact r
    · refine .genState (s := withG _ g2) e2 ?_
      rw [← stuckG_seen, ← e1]
      exact r
  | stack h ih =>
    intro q n g2 a
    obtain ⟨g3, r, a3, z⟩ := ih q rfl g2 a
    exact ⟨g3, by rw [vw_stack]; exact .stack r, a3, z⟩
  | thread h ih =>
    intro q n g2 a
    obtain ⟨g3, r, a3, z⟩ := ih q rfl g2 a
    exact ⟨g3, by rw [vw_thread]; exact .thread r, a3, z⟩
  | newGen h ih =>
    intro q n g2 a
    obtain ⟨g3, r, a3, z⟩ := ih q rfl _ a.push
    refine ⟨g3, ?_, a3, z⟩
    rw [vw_newGen]
    rw [← a.size] at r
    exact .newGen (s := withG _ g2) r
  | call h1 h2 ih1 ih2 =>
    intro q n g2 a
    obtain ⟨g3, r1, a3, _⟩ := ih1 rfl rfl g2 a
    obtain ⟨g4, r2, a4, z⟩ := ih2 q rfl g3 a3
    exact ⟨g4, by rw [vw_call]; exact .call r1 r2, a4, z⟩
  | callSusp h ih =>
    intro q n g2 a
    obtain ⟨g3, r, a3, z⟩ := ih (quiet_front q) rfl g2 a
    refine ⟨g3, ?_, a3, fun v g l k c p fs e => ?_⟩
    · rw [vw_call]
      unfold vE at r ⊢
      dsimp only at r ⊢
      rw [List.map_append]
      exact .callSusp r
    · injection e with e1 e2 e3 e4 e5 e6 e7
      rw [← e7]
      exact nogen_append (z _ _ _ _ _ _ _ rfl) rfl
  | yield =>
    intro q n g2 a
    rename_i v g l k s
    refine ⟨g2, ?_, a, fun v g l k c p fs e => ?_⟩
    · have hg : g = false := by
        cases g with
        | false => rfl
        | true => cases q
      subst hg
      rw [vw_yield]
      exact .yield
    · injection e with e1 e2 e3 e4 e5 e6 e7
      rw [← e7]
      rfl
  | resumeFresh hg h1 hq h2 ih1 ih2 =>
    intro q n g2 a
    rcases a.at_ hg with ⟨hG, e2⟩ | ⟨y, _, e1, hy, _⟩
    · obtain ⟨g3, r1, a3, z1⟩ := ih1 hq rfl _ (a.set (y := .running) hG (fun _ _ _ _ _ _ q => by cases q))
      have hG' := hG
      obtain ⟨g4, r2, a4, z⟩ := ih2 q rfl _ (a3.set hG' (genState_nog z1))
      refine ⟨g4, ?_, a4, z⟩
      rw [vw_resume]
      refine .resumeFresh (s := withG _ g2) e2 r1 (by rw [vE_quiet]; exact hq) ?_
      rw [vE_result, vE_genState]
      exact r2
    · obtain ⟨l, c, p, fs, e3⟩ := stuckG_shape hy
      rw [e3] at e1
      cases e1
  | resumeSuspended hg h1 hq h2 ih1 ih2 =>
    intro q n g2 a
    rcases a.at_ hg with ⟨hG, e2⟩ | ⟨y, _, e1, hy, _⟩
    · obtain ⟨g3, r1, a3, z1⟩ := ih1 hq (a.nog _ _ _ _ _ _ _ hG hg) _ (a.set (y := .running) hG (fun _ _ _ _ _ _ q => by cases q))
      have hG' := hG
      obtain ⟨g4, r2, a4, z⟩ := ih2 q rfl _ (a3.set hG' (genState_nog z1))
      refine ⟨g4, ?_, a4, z⟩
      rw [vw_resume]
      refine .resumeSuspended (s := withG _ g2) e2 r1 (by rw [vE_quiet]; exact hq) ?_
      rw [vE_result, vE_genState]
      exact r2
    · obtain ⟨l, c, p, fs, e3⟩ := stuckG_shape hy
      rw [e3] at e1
      injection e1 with e1
      subst e1
      exact absurd rfl (no_run h1)
  | resumeJustStarted hg hv h ih =>
    intro q n g2 a
    rcases a.at_ hg with ⟨hG, e2⟩ | ⟨y, _, e1, hy, _⟩
    · obtain ⟨g3, r, a3, z⟩ := ih q rfl g2 a
      exact ⟨g3, by rw [vw_resume]; exact .resumeJustStarted (s := withG _ g2) e2 hv r, a3, z⟩
    · obtain ⟨l, c, p, fs, e3⟩ := stuckG_shape hy
      rw [e3] at e1
      cases e1
  | resumeThrowFresh hg h ih =>
    intro q n g2 a
    rcases a.at_ hg with ⟨hG, e2⟩ | ⟨y, _, e1, hy, _⟩
    · obtain ⟨g3, r, a3, z⟩ := ih q rfl _ (a.set (y := .finished) hG (fun _ _ _ _ _ _ q => by cases q))
      exact ⟨g3, by rw [vw_resume]; exact .resumeThrowFresh (s := withG _ g2) e2 r, a3, z⟩
    · obtain ⟨l, c, p, fs, e3⟩ := stuckG_shape hy
      rw [e3] at e1
      cases e1
  | resumeRunning hg h ih =>
    intro q n g2 a
    rcases a.at_ hg with ⟨hG, e2⟩ | ⟨y, _, e1, hy, _⟩
    · obtain ⟨g3, r, a3, z⟩ := ih q rfl g2 a
      exact ⟨g3, by rw [vw_resume]; exact .resumeRunning (s := withG _ g2) e2 r, a3, z⟩
    · obtain ⟨l, c, p, fs, e3⟩ := stuckG_shape hy
      rw [e3] at e1
      cases e1
  | resumeFinished hg h ih =>
    intro q n g2 a
    rcases a.at_ hg with ⟨hG, e2⟩ | ⟨y, _, e1, hy, _⟩
    · obtain ⟨g3, r, a3, z⟩ := ih q rfl g2 a
      exact ⟨g3, by rw [vw_resume]; exact .resumeFinished (s := withG _ g2) e2 r, a3, z⟩
    · obtain ⟨l, c, p, fs, e3⟩ := stuckG_shape hy
      rw [e3] at e1
      cases e1
  | segRet h1 h2 ih1 ih2 =>
    intro q n g2 a
    obtain ⟨_, n2⟩ := nogen_cons n
    obtain ⟨g3, r1, a3, _⟩ := ih1 rfl rfl g2 a
    obtain ⟨g4, r2, a4, z⟩ := ih2 q n2 g3 a3
    refine ⟨g4, ?_, a4, z⟩
    refine .segRet ?_ r2
    have e := over_map (Γ := ‹Ctx›) n
    exact e ▸ r1
  | segGen h1 h2 ih1 ih2 =>
    intro q n
    obtain ⟨⟨k, hd, g, l, c, p, kp, z⟩, _⟩ := nogen_cons n
    cases z
  | segSuspOut hn h ih =>
    intro q n g2 a
    obtain ⟨g3, r, a3, z⟩ := ih (quiet_front q) rfl g2 a
    refine ⟨g3, ?_, a3, fun v g l k c p fs e => ?_⟩
    · unfold vE at r ⊢
      dsimp only at r ⊢
      rw [List.map_append]
      refine .segSuspOut (nogen_map n) ?_
      have e := over_map (Γ := ‹Ctx›) n
      exact e ▸ r
    · injection e with e1 e2 e3 e4 e5 e6 e7
      rw [← e7]
      exact nogen_append (z _ _ _ _ _ _ _ rfl) n
  | segSuspGen hn h1 hq h2 ih1 ih2 =>
    intro q n
    rw [n] at hn
    cases hn
theorem wp_lift {prog : Program} {w : World} {α : Type} {G : Nat → Option GenState} {Γ : Ctx} (t : Sem α) : ∀ {Q : α → Pos → Shared → Prop} {E : Value → Pos → Shared → Prop} {p : Pos} {s : Shared} {g2 : Array GenState}, AS G s.gens g2 → wp (model prog w) Γ t Q E p s →
    wp (M2 prog w) Γ t (fun a p' s' => ∃ s1, s' = withG s1 s'.gens ∧ AS G s1.gens s'.gens ∧ Q a p' s1) (fun e p' s' => ∃ s1, s' = withG s1 s'.gens ∧ AS G s1.gens s'.gens ∧ E e p' s1) p (withG s g2) := by
  induction t with
  | pure a => intro Q E p s g2 h x; exact ⟨s, rfl, h, x⟩
  | raise e => intro Q E p s g2 h x; exact ⟨s, rfl, h, x⟩
  | unsupported z => intro Q E p s g2 h x; exact x
  | finish e => intro Q E p s g2 h x; exact x
  | register a k ih => intro Q E p s g2 h x; exact x.elim
  | yield v g l k ih => intro Q E p s g2 h x; exact x.elim
  | fork c k ih => intro Q E p s g2 h x; exact x.elim
  | await a f t l k ih => intro Q E p s g2 h x; exact x.elim
  | load a q k ih => intro Q E p s g2 h x; obtain ⟨o, ho, x⟩ := x; exact ⟨o, ho, ih o h x⟩
  | update a q f k ih => intro Q E p s g2 h x; exact ⟨x.1, ih () (s := { s with heap := s.heap.update a f }) h x.2⟩
  | choose src n k ih => intro Q E p s g2 h x; exact ⟨x.1, ih _ (s := { s with drawn := s.drawn.bump src }) h x.2⟩
  | rule t k ih => intro Q E p s g2 h x; exact ih _ h x
  | «at» q k ih => intro Q E p s g2 h x; exact ih _ h x
  | alloc o k ih => intro Q E p s g2 h x; exact ih _ (s := { s with heap := s.heap.push o }) h x
  | loadIfAlive a k ih => intro Q E p s g2 h x; exact ih _ h x
  | point l k ih => intro Q E p s g2 h x; exact ih _ h x
  | fresh k ih => intro Q E p s g2 h x; exact ih _ (s := { s with toks := s.toks + 1 }) h x
  | ask k ih => intro Q E p s g2 h x; exact ih _ h x
  | os q l k ih => intro Q E p s g2 h x; exact ih _ (s := { s with os := (Os.step s.os q).1 }) h x
  | handled o k ih => intro Q E p s g2 h x; exact ih _ h x
  | stack k ih => intro Q E p s g2 h x; exact ih _ h x
  | thread k ih => intro Q E p s g2 h x; exact ih _ h x
  | newGen c k ih =>
    intro Q E p s g2 h x
    have x : wp (model prog w) Γ (k s.gens.size) Q E p { s with gens := s.gens.push (.fresh c) } := x
    show wp (M2 prog w) Γ (k g2.size) _ _ p { withG s g2 with gens := g2.push (.fresh c) }
    rw [h.size]
    exact ih _ (s := { s with gens := s.gens.push (.fresh c) }) h.push x
  | genState g k ih =>
    intro Q E p s g2 h x
    obtain ⟨st, hg, x⟩ := x
    rcases h.at_ hg with ⟨_, e2⟩ | ⟨y, _, e1, _, e2⟩
    · refine ⟨vG st, e2, ?_⟩
      rw [vG_seen]
      exact ih _ h x
    · refine ⟨y, e2, ?_⟩
      rw [← stuckG_seen, ← e1]
      exact ih _ h x
  | call c hd gd l k ih =>
    intro Q E p s g2 h x
    obtain ⟨r, s', hr, x⟩ := x
    obtain ⟨g3, r2, a3, _⟩ := lift hr rfl rfl g2 h
    exact ⟨r, withG s' g3, r2, ih r a3 x⟩
  | resume g r l k ih =>
    intro Q E p s g2 h x
    obtain ⟨res, s', hw, x⟩ := x
    suffices hs : ∃ g3, Wakes (M2 prog w) Γ p g r (withG s g2) res (withG s' g3) ∧ AS G s'.gens g3 by
      obtain ⟨g3, h3, a3⟩ := hs
      exact ⟨res, withG s' g3, h3, ih res a3 x⟩
    unfold Wakes at hw ⊢
    split at hw
    · exact hw.elim
    · rename_i c hg
      rcases h.at_ hg with ⟨hG, e2⟩ | ⟨y, _, e1, hy, _⟩
      · rw [show (withG s g2).gens[g]? = some (vG (.fresh c)) from e2]
        split at hw
        · obtain ⟨e, s1, h1, hq, e3, e4⟩ := hw
          obtain ⟨g3, r1, a3, z1⟩ := lift h1 hq rfl _ (h.set (y := .running) hG (fun _ _ _ _ _ _ q => by cases q))
          refine ⟨g3.setIfInBounds g (vG e.genState), ⟨vE e, withG s1 g3, r1, by rw [vE_quiet]; exact hq, by rw [vE_result]; exact e3, ?_⟩, ?_⟩
          · rw [e4, vE_genState]; rfl
          · rw [e4]; exact a3.set hG (genState_nog z1)
        · rename_i v hv
          obtain ⟨e3, e4⟩ := hw
          refine ⟨g2, ?_, by rw [e4]; exact h⟩
          rw [e4]
          cases v with
          | none => exact absurd rfl hv
          | _ => exact ⟨e3, rfl⟩
        · obtain ⟨e3, e4⟩ := hw
          refine ⟨g2.setIfInBounds g (vG .finished), ⟨e3, by rw [e4]; rfl⟩, ?_⟩
          rw [e4]
          exact h.set (y := .finished) hG (fun _ _ _ _ _ _ q => by cases q)
      · obtain ⟨l, c, p, fs, e3⟩ := stuckG_shape hy
        rw [e3] at e1
        cases e1
    · rename_i k0 l0 c0 p0 fs0 cl0 hg
      rcases h.at_ hg with ⟨hG, e2⟩ | ⟨y, _, e1, hy, _⟩
      · rw [show (withG s g2).gens[g]? = some (vG (.suspended k0 l0 c0 p0 fs0 cl0)) from e2]
        obtain ⟨e, s1, h1, hq, e3, e4⟩ := hw
        obtain ⟨g3, r1, a3, z1⟩ := lift h1 hq (h.nog _ _ _ _ _ _ _ hG hg) _ (h.set (y := .running) hG (fun _ _ _ _ _ _ q => by cases q))
        refine ⟨g3.setIfInBounds g (vG e.genState), ⟨vE e, withG s1 g3, r1, by rw [vE_quiet]; exact hq, by rw [vE_result]; exact e3, ?_⟩, ?_⟩
        · rw [e4, vE_genState]; rfl
        · rw [e4]; exact a3.set hG (genState_nog z1)
      · obtain ⟨l, c, p, fs, e3⟩ := stuckG_shape hy
        rw [e3] at e1
        injection e1 with e1
        subst e1
        obtain ⟨e, s1, h1, _⟩ := hw
        exact absurd rfl (no_run h1)
    · rename_i hg
      rcases h.at_ hg with ⟨hG, e2⟩ | ⟨y, _, e1, hy, _⟩
      · rw [show (withG s g2).gens[g]? = some (vG .running) from e2]
        obtain ⟨e3, e4⟩ := hw
        exact ⟨g2, ⟨e3, by rw [e4]⟩, by rw [e4]; exact h⟩
      · obtain ⟨l, c, p, fs, e3⟩ := stuckG_shape hy
        rw [e3] at e1
        cases e1
    · rename_i hg
      rcases h.at_ hg with ⟨hG, e2⟩ | ⟨y, _, e1, hy, _⟩
      · rw [show (withG s g2).gens[g]? = some (vG .finished) from e2]
        obtain ⟨e3, e4⟩ := hw
        exact ⟨g2, ⟨e3, by rw [e4]⟩, by rw [e4]; exact h⟩
      · obtain ⟨l, c, p, fs, e3⟩ := stuckG_shape hy
        rw [e3] at e1
        cases e1
/-! ### what sleeps sleeps on -/
def asleep (s : Shared) : Nat → Option GenState := fun i => (s.gens[i]?).bind fun x => if x.status = .suspended then some x else none
/-- the same, but nobody can be woken -/
def stuckS (s : Shared) : Shared := withG s (s.gens.map stuckG)
theorem vG_other {x : GenState} (h : x.status ≠ .suspended) : vG x = x ∧ stuckG x = x := by
  cases x with
  | suspended k l c p fs cl => exact absurd rfl h
  | _ => exact ⟨rfl, rfl⟩
theorem as_stuck (s : Shared) : AS (asleep s) (stuckS s).gens s.gens := by
  refine ⟨by show _ = (s.gens.map stuckG).size; rw [Array.size_map], fun i x e => ?_, fun i e => ?_, fun i k l c p fs cl e h => ?_⟩
  · unfold asleep at e
    cases q : s.gens[i]? with
    | none => rw [q] at e; cases e
    | some y =>
      rw [q] at e
      have e : (if y.status = .suspended then some y else none) = some x := e
      split at e
      · rename_i hy
        obtain rfl := Option.some.inj e
        refine ⟨hy, rfl, ?_⟩
        show (s.gens.map stuckG)[i]? = _
        rw [Array.getElem?_map, q]
        rfl
      · cases e
  · unfold asleep at e
    show _ = ((s.gens.map stuckG)[i]?).map vG
    rw [Array.getElem?_map]
    cases q : s.gens[i]? with
    | none => rfl
    | some y =>
      rw [q] at e
      have e : (if y.status = .suspended then some y else none) = none := e
      split at e
      · cases e
      · rename_i hy
        show some y = some (vG (stuckG y))
        rw [(vG_other hy).2, (vG_other hy).1]
  · have h : (s.gens.map stuckG)[i]? = some (.suspended k l c p fs cl) := h
    rw [Array.getElem?_map] at h
    unfold asleep at e
    cases q : s.gens[i]? with
    | none => rw [q] at h; cases h
    | some y =>
      rw [q] at h e
      have h := Option.some.inj h
      have e : (if y.status = .suspended then some y else none) = none := e
      split at e
      · cases e
      · rename_i hy
        rw [(vG_other hy).2] at h
        rw [h] at hy
        exact absurd rfl hy
/-- no generator sleeps with a marked yield -/
def unmarkedG : GenState → Bool
  | .suspended _ l c _ _ cl => (match yfAt c with
    | some _ => l.isEmpty
    | none => true) && !cl
  | _ => true
theorem vG_bare (x : GenState) : (vG x).bare = x.bare := by cases x <;> rfl
theorem vG_unmarked {x : GenState} (h : x.bare = true) : unmarkedG (vG x) = true := by
  cases x with
  | suspended k l c p fs cl =>
    show ((match yfAt c with | some _ => (vl c l).isEmpty | none => true) && !cl) = true
    have h : (!cl) = true := h
    rw [h, Bool.and_true]
    unfold vl
    cases yfAt c <;> rfl
  | _ => rfl
theorem stuckG_bare (x : GenState) : (stuckG x).bare = true := by cases x <;> rfl
/-- s: ahead; s1: behind, with nobody woken; s': behind, in M2 -/
structure Woke (s s1 s' : Shared) : Prop where
  eq : s' = withG s1 s'.gens
  size : s.gens.size ≤ s'.gens.size
  kept : ∀ (i : Nat) (x : GenState), s.gens[i]? = some x → x.status = .suspended → s'.gens[i]? = some x
  new : ∀ (i : Nat) (x : GenState), s'.gens[i]? = some x → (s.gens[i]? = some x ∧ x.status = .suspended) ∨ ∃ y, s1.gens[i]? = some y ∧ x = vG y
theorem woke_of {s s1 s' : Shared} (e : s' = withG s1 s'.gens) (a : AS (asleep s) s1.gens s'.gens) (n : s.gens.size ≤ s'.gens.size) : Woke s s1 s' := by
  refine ⟨e, n, fun i x h hx => ?_, fun i x h => ?_⟩
  · have q : asleep s i = some x := by
      unfold asleep
      rw [h]
      show (if x.status = .suspended then some x else none) = _
      rw [if_pos hx]
    exact (a.dom i x q).2.1
  · cases q : asleep s i with
    | none =>
      have e2 := a.oth i q
      rw [h] at e2
      cases q2 : s1.gens[i]? with
      | none => rw [q2] at e2; cases e2
      | some y =>
        rw [q2] at e2
        exact .inr ⟨y, rfl, Option.some.inj e2⟩
    | some y =>
      obtain ⟨d1, d2, _⟩ := a.dom i y q
      rw [h] at d2
      obtain rfl := Option.some.inj d2
      refine .inl ⟨?_, d1⟩
      unfold asleep at q
      cases q2 : s.gens[i]? with
      | none => rw [q2] at q; cases q
      | some z =>
        rw [q2] at q
        have q : (if z.status = .suspended then some z else none) = some x := q
        split at q
        · rw [Option.some.inj q]
        · cases q
/-- here and in M2, in the midst of a run: n generators at least -/
def Lk (G : Nat → Option GenState) (n : Nat) (s1 s' : Shared) : Prop := s' = withG s1 s'.gens ∧ AS G s1.gens s'.gens ∧ n ≤ s'.gens.size
theorem lk_stuck (s : Shared) : Lk (asleep s) s.gens.size (stuckS s) s := ⟨rfl, as_stuck s, Nat.le_refl _⟩
theorem Lk.woke {s s1 s' : Shared} (k : Lk (asleep s) s.gens.size s1 s') : Woke s s1 s' := woke_of k.1 k.2.1 k.2.2
theorem wpAny_go {prog : Program} {w : World} {α : Type} {A : Around} {t : Sem α} {Q : α → Shared → Prop} {E : Value → Shared → Prop} {G : Nat → Option GenState} {n : Nat} {s1 s : Shared} (k : Lk G n s1 s) (h : wpAny (model prog w) A t Q E s1) :
    wpAny (M2 prog w) A t (fun a s' => ∃ s2, Lk G n s2 s' ∧ Q a s2) (fun e s' => ∃ s2, Lk G n s2 s' ∧ E e s2) s := by
  refine GenW.wpAny_gsz k.2.2 ?_
  intro Γ p hΓ
  have r := wp_lift (prog := prog) (w := w) t k.2.1 (h Γ p hΓ)
  rw [← k.1] at r
  exact Sem.wp_mono _ _ _ (fun a p' s' ⟨s2, e, b, q⟩ m => ⟨s2, ⟨e, b, m⟩, q⟩) (fun a p' s' ⟨s2, e, b, q⟩ m => ⟨s2, ⟨e, b, m⟩, q⟩) _ _ r
theorem wpAny_use {prog : Program} {w : World} {α : Type} {A : Around} {t : Sem α} {Q : α → Shared → Prop} {E : Value → Shared → Prop} {s : Shared} (h : wpAny (model prog w) A t Q E (stuckS s)) :
    wpAny (M2 prog w) A t (fun a s' => ∃ s1, Woke s s1 s' ∧ Q a s1) (fun e s' => ∃ s1, Woke s s1 s' ∧ E e s1) s :=
  wpAny_mono (wpAny_go (lk_stuck s) h) (fun a s' ⟨s1, k, q⟩ => ⟨s1, k.woke, q⟩) fun a s' ⟨s1, k, q⟩ => ⟨s1, k.woke, q⟩
end KQ

end KqLift_text
section KqSeg_text
set_option Elab.async false
set_option linter.all false
set_option maxRecDepth 100000
set_option maxHeartbeats 4000000
/-! One run of a generator, from where it is woken to where it sleeps or ends -/
namespace KQ
open PySem
open Sem (wp)
variable {M : Model}
/-- the run from t under the frames fs ends, and z holds of its end -/
def SegP (M : Model) (A : Around) (z : End → Shared → Prop) (c : Code) (t : Sem PySem.Fin) (fs : List Frame) (s : Shared) : Prop :=
  ∀ Γ p, Γ.code = c → Γ.Woken A → ∃ e s', Runs M Γ p t fs s e s' ∧ z e s'
section
variable {A : Around} {z : End → Shared → Prop} {c : Code} {fs : List Frame} {s : Shared}
theorem sp_wrap {α : Type} {m : Sem α} {K : α → Sem PySem.Fin} {J : Value → Sem PySem.Fin} {gd lv} (h : wpAny M (A.over c fs) m (fun a s' => SegP M A z c (K a) fs s') (fun x s' => SegP M A z c (J x) fs s') s) : SegP M A z c (m.wrap K J gd lv) fs s := by
  intro Γ p hc hw
  subst hc
  exact runs_wrap_of_wp K J gd lv m (h (Γ.over fs) p (hw.over fs)) (fun a q s' r => r Γ q rfl hw) fun x q s' r => r Γ q rfl hw
theorem sp_bind {α : Type} {m : Sem α} {K : α → Sem PySem.Fin} (h : wpAny M (A.over c fs) m (fun a s' => SegP M A z c (K a) fs s') (fun x s' => SegP M A z c (.raise x) fs s') s) : SegP M A z c (m >>= K) fs s := by
  rw [Sem.bind_eq_wrap']
  exact sp_wrap h
theorem sp_bindw {α β : Type} {m : Sem α} {f : α → Sem β} {K : β → Sem PySem.Fin} {J : Value → Sem PySem.Fin} {gd lv} (h : wpAny M (A.over c fs) m (fun a s' => SegP M A z c ((f a).wrap K J gd lv) fs s') (fun x s' => SegP M A z c (J x) fs s') s) : SegP M A z c ((m >>= f).wrap K J gd lv) fs s := by
  rw [Sem.bind_eq_wrap', Sem.wrap_wrap]
  exact sp_wrap h
/-- the head of two binds -/
theorem sp_bindw2 {α β γ : Type} {m : Sem α} {f : α → Sem β} {f2 : β → Sem γ} {K : γ → Sem PySem.Fin} {J : Value → Sem PySem.Fin} {gd : Bool → Bool} {lv : List Value → List Value}
    (h : wpAny M (A.over c fs) m (fun a s' => SegP M A z c ((f a).wrap (fun b => (f2 b).wrap K J gd lv) J gd lv) fs s') (fun x s' => SegP M A z c (J x) fs s') s) : SegP M A z c (((m >>= f) >>= f2).wrap K J gd lv) fs s := by
  rw [Sem.bind_eq_wrap' (m >>= f), Sem.wrap_wrap]
  exact sp_bindw h
theorem sp_at {p' : Pos} {k : Unit → Sem PySem.Fin} (h : SegP M A z c (k ()) fs s) : SegP M A z c (.at p' k) fs s :=
  sp_wrap (m := standAt p') (K := k) (J := .raise) (gd := id) (lv := id) (wpAny_standAt h)
theorem sp_point {l : List Value} {k : Unit → Sem PySem.Fin} (h : SegP M A z c (k ()) fs s) : SegP M A z c (.point l k) fs s :=
  sp_wrap (m := point) (K := k) (J := .raise) (gd := id) (lv := fun _ => l) (wpAny_point h)
theorem sp_alive {a : Addr} {k : Option Obj → Sem PySem.Fin} (h : SegP M A z c (k (s.heap.get? a)) fs s) : SegP M A z c (.loadIfAlive a k) fs s := by
  refine sp_wrap (m := .loadIfAlive a .pure) (K := k) (J := .raise) (gd := id) (lv := id) ?_
  intro Γ p hw
  exact h
theorem sp_call {d : Code} {h : Option Value} {g : Bool} {l : List Value} {k : Result → Sem PySem.Fin} (hc : ∀ p, SegP M A z d (M.den d) (.ret k h g l c p [] :: fs) s) : SegP M A z c (.call d h g l k) fs s := by
  intro Γ p hc' hw
  subst hc'
  obtain ⟨e, s', r, q⟩ := hc p (Γ.goto d) p rfl (hw.goto d)
  exact ⟨e, s', runs_call_seg r, q⟩
theorem sp_leaf {k : Result → Sem PySem.Fin} {h : Option Value} {g : Bool} {l : List Value} {d : Code} {p1 : Pos} {kp : List Value} (r : Result) (hk : SegP M A z d (k r) fs s) : SegP M A z c (leafOf r) (.ret k h g l d p1 kp :: fs) s := by
  intro Γ p hc hw
  subst hc
  obtain ⟨e, s', q, y⟩ := hk (Γ.goto d) p1 rfl (hw.goto d)
  exact ⟨e, s', Runs.pop r q, y⟩
theorem sp_again {d : Code} (hq : d.quiet = true) (h : SegP M A z d (M.den d) fs s) : SegP M A z c (.pure (.again d)) fs s := by
  intro Γ p hc hw
  subst hc
  obtain ⟨e, s', q, y⟩ := h (Γ.goto d) p rfl (hw.goto d)
  exact ⟨e, s', Runs.head (c₁ := d) (fun _ _ x => .again hq x) q, y⟩
theorem sp_end (r : Result) (h : z (.ret r) s) : SegP M A z c (leafOf r) [] s := fun Γ p hc hw => ⟨.ret r, s, Runs.leaf r, h⟩
theorem sp_yield {v : Value} {l : List Value} {k : Resume → Sem PySem.Fin} (hf : splitAtGen fs = none) (h : ∀ p, z (.susp v false l k c p fs) s) : SegP M A z c (.yield v false l k) fs s := by
  intro Γ p hc hw
  subst hc
  exact ⟨_, s, Runs.yield' fs hf, h p⟩
theorem sp_imp {z' : End → Shared → Prop} {t : Sem PySem.Fin} (h : SegP M A z c t fs s) (i : ∀ e s', z e s' → z' e s') : SegP M A z' c t fs s := fun Γ p hc hw =>
  let ⟨e, s', r, q⟩ := h Γ p hc hw
  ⟨e, s', r, i e s' q⟩
end
/-- a generator is woken by next() -/
def GoesP (M : Model) (A : Around) (z : End → Shared → Prop) (x : GenState) (s : Shared) : Prop := match x with
  | .fresh c => SegP M A z c (M.den c) [] s
  | .suspended k _ c _ fs _ => SegP M A z c (k (.send .none)) fs s
  | _ => False
theorem wp_resumeP {A : Around} {z : End → Shared → Prop} {E : Value → Shared → Prop} {s : Shared} {g : Nat} {x : GenState} {l : List Value} {α : Type} {k : GenResult → Sem α} {Q : α → Shared → Prop} (hg : s.gens[g]? = some x)
    (go : GoesP M A z x (s.setGen g .running)) (hq : ∀ e s', z e s' → e.quiet = true) (hR : ∀ r s', z (.ret r) s' → wpAny M A (k (End.ret r).result) Q E (s'.setGen g .finished))
    (hY : ∀ v g0 l k0 c p fs s', z (.susp v g0 l k0 c p fs) s' → wpAny M A (k (.yielded v)) Q E (s'.setGen g (End.susp v g0 l k0 c p fs).genState)) : wpAny M A (.resume g (.send .none) l k) Q E s := by
  intro Γ p hw
  rw [Sem.wp_resume]
  have fin : ∀ e s', z e s' → wp M Γ (k e.result) (fun a _ s' => Q a s') (fun e _ s' => E e s') p (s'.setGen g e.genState) := by
    intro e s' h
    cases e with
    | ret r => exact hR r s' h Γ p hw
    | susp v g0 l0 k0 c0 p0 fs0 => exact hY v g0 l0 k0 c0 p0 fs0 s' h Γ p hw
  unfold Wakes
  rw [hg]
  cases x with
  | fresh c =>
    obtain ⟨e, s', r, q⟩ := go (Γ.wake c p) p rfl (hw.wake c p)
    exact ⟨_, _, ⟨e, s', r, hq _ _ q, rfl, rfl⟩, fin e s' q⟩
  | suspended k0 l0 c0 p0 fs0 cl =>
    obtain ⟨e, s', r, q⟩ := go (Γ.wake c0 p) p0 rfl (hw.wake c0 p)
    exact ⟨_, _, ⟨e, s', r, hq _ _ q, rfl, rfl⟩, fin e s' q⟩
  | running => exact go.elim
  | finished => exact go.elim
end KQ

end KqSeg_text
section KqGen_text
set_option Elab.async false
set_option linter.all false
set_option maxRecDepth 100000
set_option maxHeartbeats 4000000
/-! A generator def's frame: from one waking to the next -/
namespace KQ
open PySem PySem.Spec PyProof.Rows L2
/-! ### the heap below an address -/
def cutH (n : Nat) (h : Heap) : Heap := { h with objs := h.objs.extract 0 n }
def cutS (n : Nat) (s : Shared) : Shared := { s with heap := cutH n s.heap }
theorem cut_at {n b : Nat} {h : Heap} : (cutH n h).objs[b]? = if b < n then h.objs[b]? else none := by
  show (h.objs.extract 0 n)[b]? = _
  rw [Array.getElem?_extract]
  by_cases q : b < n
  · rw [if_pos q]
    by_cases q2 : b < h.objs.size
    · rw [if_pos (by omega)]
      simp
    · rw [if_neg (by omega)]
      exact (Array.getElem?_eq_none (by omega)).symm
  · rw [if_neg q, if_neg (by omega)]
theorem cut_get {n b : Nat} {h : Heap} (q : b < n) : (cutH n h).get? b = h.get? b := by
  unfold Heap.get?
  rw [cut_at, if_pos q]
theorem of_cut {n b : Nat} {h : Heap} {o : Obj} (e : (cutH n h).get? b = some o) : b < n ∧ h.get? b = some o := by
  by_cases q : b < n
  · rw [cut_get q] at e
    exact ⟨q, e⟩
  · unfold Heap.get? at e
    rw [cut_at, if_neg q] at e
    cases e
theorem cut_size {n : Nat} {h : Heap} : (cutH n h).objs.size = min n h.objs.size := by
  show (h.objs.extract 0 n).size = _
  rw [Array.size_extract]
  omega
/-- what is fixed of a generator's frame: A is the waker's around -/
structure Gd where
  prog : Program
  w : World
  K : PySem.W.Frag
  mg : Str → Option Value
  base : Heap
  A : Around
  N : List Str
  env : Env
  outer : List Env
  gn : Nat
  os : OsState
/-- the context from the waking at s on: what stood below the frame, as it stands then; pn: what the waker wants kept -/
def Gd.cx (d : Gd) (s : Shared) (H : Hp) (pn : List (Addr × Obj)) : Cx where
  prog := d.prog
  w := d.w
  K := d.K
  mg := d.mg
  base := d.base
  A := d.A.deeper d.env
  N := d.N
  s_0 := cutS d.env.locals s
  H_0 := H
  env := d.env
  outer := d.outer
  stack := d.env :: d.outer
  ex := []
  fn := fun _ => true
  calm := true
  pn := pn
  xe := fun _ _ => False
structure Gd.Ok (d : Gd) : Prop where
  mod : Mod d.K d.mg d.base
  kind : d.env.scope.kind = .function
  glob : d.env.globals = mainGlobals
  blt : d.env.builtins = builtinsNs
  cells : d.env.cells = []
  nocell : ∀ x, d.env.kindOf x ≠ some .cell ∧ d.env.kindOf x ≠ some .free
  hd : d.A.handled = none
  frames : d.A.frames = some d.outer
  fr : d.env.frame = some d.env.locals
  bsz : d.base.objs.size ≤ d.env.locals
  olt : ∀ b ∈ frs d.outer, b < d.env.locals
abbrev Gz : Type := List (Nat × GenState)
/-- what a sleeping generator asks of its waker: the objects at own stand as they stood, untracked; the inner generators sleep on; H: the tracked objects when it fell asleep -/
structure Wk (d : Gd) (own : List (Addr × Obj)) (gz : Gz) (H : Hp) (s' : Shared) (H' : Hp) (pn' : List (Addr × Obj)) : Prop where
  e0 : Env0 d.prog d.w d.K d.mg d.base d.A d.outer s' H'
  os : s'.os = d.os
  keep : ∀ p ∈ own, s'.heap.get? p.1 = some p.2 ∧ H' p.1 = none
  gens : ∀ q ∈ gz, s'.gens[q.1]? = some q.2
  rel : Same H H'
  num : d.gn < s'.gens.size
  pins : ∀ p ∈ pn', s'.heap.get? p.1 = some p.2 ∧ H' p.1 = none ∧ p.1 ∉ frs d.outer ∧ (∀ v, p.2.data ≠ .cell v) ∧ ∀ q ∈ own, p.1 ≠ q.1
/-- what the waker gets back -/
structure After (d : Gd) (s' : Shared) (H' : Hp) (pn' : List (Addr × Obj)) (s1 : Shared) (H1 : Hp) : Prop where
  os : s1.os = s'.os
  bare : AllBare s1.gens
  un : Un (frs d.outer) [] H' H1 (cutH d.env.locals s'.heap) s1.heap
  pins : ∀ p ∈ pn', s1.heap.get? p.1 = some p.2 ∧ H1 p.1 = none
  hok : HOk d.prog d.w H1 s1.heap
/-- the table of generators: a at the waking, b now; gz0, gz: the inner ones that slept then, and now -/
structure GRel (a b : Array GenState) (gz0 gz : Gz) : Prop where
  size : a.size ≤ b.size
  kept : ∀ (i : Nat) (y : GenState), a[i]? = some y → y.status = .suspended → i ∉ gz0.map (·.1) → b[i]? = some y
  mark : ∀ (i : Nat) (y : GenState), b[i]? = some y → unmarkedG y = false → i ∈ gz.map (·.1) ∨ (a[i]? = some y ∧ i ∉ gz0.map (·.1))
/-- all tracked objects stay, but dicts keyed by tuples -/
def SameT (H H' : Hp) : Prop := ∀ b o, H b = some o → (∀ kvs, o ≠ .dT kvs) → H' b = some o
theorem SameT.refl {H : Hp} : SameT H H := fun _ _ h _ => h
theorem SameT.of {H H' : Hp} (h : Same H H') : SameT H H' := fun b o e _ => h b o e
theorem SameT.trans {H H1 H2 : Hp} (a : SameT H H1) (b : SameT H1 H2) : SameT H H2 := fun c o e n => b c o (a c o e n) n
/-- a value handed out, the tracked objects then -/
abbrev Item : Type := V → Hp → Prop
/-- the end of a run -/
def Stops (d : Gd) (Fin : Hp → Prop) (gz0 : Gz) (s' : Shared) (H' : Hp) (pn' : List (Addr × Obj)) (e : End) (s1 : Shared) : Prop :=
  (e = .ret (.ok (.ret .none))) ∧ ∃ H1, After d s' H' pn' s1 H1 ∧ GRel s'.gens s1.gens gz0 [] ∧ SameT H' H1 ∧ Fin H1
abbrev Next : Type := GenState → List (Addr × Obj) → Gz → Hp → Prop
/-- a run that hands out a value; N: what holds of the sleeping generator -/
def Hands (d : Gd) (it : Item) (N : Next) (gz0 : Gz) (s' : Shared) (H' : Hp) (pn' : List (Addr × Obj)) (e : End) (s1 : Shared) : Prop :=
  e.quiet = true ∧ ∃ v g l k c p fs, e = .susp v g l k c p fs ∧ ∃ x H1 own gz, RelV x v ∧ it x H1 ∧ After d s' H' pn' s1 H1 ∧ GRel s'.gens s1.gens gz0 gz ∧ SameT H' H1 ∧
    (∀ p ∈ own, s1.heap.get? p.1 = some p.2 ∧ H1 p.1 = none ∧ (∀ v, p.2.data ≠ .cell v) ∧ d.env.locals ≤ p.1 ∧ ∀ q ∈ pn', q.1 ≠ p.1) ∧ (∀ q ∈ gz, s1.gens[q.1]? = some q.2 ∧ q.2.status = .suspended ∧ d.gn < q.1 ∧ (q.1 ∈ gz0.map (·.1) ∨ s'.gens.size ≤ q.1)) ∧ N e.genState own gz H1
/-- a sleeping generator that will hand out such values, and then end -/
def Sleep (d : Gd) (Fin : Hp → Prop) : List Item → Next
  | [] => fun x own gz H => ∀ s' H' pn', Wk d own gz H s' H' pn' → GoesP (M2 d.prog d.w) d.A (Stops d Fin gz s' H' pn') x s'
  | it :: its => fun x own gz H => ∀ s' H' pn', Wk d own gz H s' H' pn' → GoesP (M2 d.prog d.w) d.A (Hands d it (Sleep d Fin its) gz s' H' pn') x s'
/-- what a run has still to show -/
def Phi (d : Gd) (Fin : Hp → Prop) (its : List Item) (gz0 : Gz) (s' : Shared) (H' : Hp) (pn' : List (Addr × Obj)) : End → Shared → Prop := match its with
  | [] => Stops d Fin gz0 s' H' pn'
  | it :: its => Hands d it (Sleep d Fin its) gz0 s' H' pn'
theorem sleep_iff {d : Gd} {Fin : Hp → Prop} {its : List Item} {x : GenState} {own : List (Addr × Obj)} {gz : Gz} {H : Hp} :
    Sleep d Fin its x own gz H ↔ ∀ s' H' pn', Wk d own gz H s' H' pn' → GoesP (M2 d.prog d.w) d.A (Phi d Fin its gz s' H' pn') x s' := by
  cases its <;> exact Iff.rfl
theorem phi_quiet {d : Gd} {Fin : Hp → Prop} {its : List Item} {gz0 : Gz} {s' : Shared} {H' : Hp} {pn' : List (Addr × Obj)} {e : End} {s1 : Shared} (h : Phi d Fin its gz0 s' H' pn' e s1) : e.quiet = true := by
  cases its with
  | nil => rw [h.1]; rfl
  | cons it r => exact h.1
/-- a generator's frame, running: s0, H0, pn, gz0: at the waking; ip: its iterators; gz: its inner generators that sleep -/
structure Gs (d : Gd) (s0 : Shared) (H0 : Hp) (pn : List (Addr × Obj)) (gz0 : Gz) (ip : List (Addr × Obj)) (gz : Gz) (σ : L2.St) (H : Hp) (s : Shared) : Prop where
  inv : Inv (d.cx s0 H0 pn) ip σ H s
  dis : ∀ p ∈ ip, (∀ q ∈ pn, q.1 ≠ p.1) ∧ d.env.locals ≤ p.1
  gens : ∀ q ∈ gz, s.gens[q.1]? = some q.2 ∧ q.2.status = .suspended ∧ d.gn < q.1 ∧ (q.1 ∈ gz0.map (·.1) ∨ s0.gens.size ≤ q.1)
  gr : GRel s0.gens s.gens gz0 gz
  lt : d.env.locals < s0.heap.objs.size
  num : d.gn < s0.gens.size
  os : s0.os = d.os
theorem ns_keep {h h' : Heap} {L : Addr} {m : Str → Option Value} (n : h.Ns L m) (k : ∀ o, h.get? L = some o → h'.get? L = some o) : h'.Ns L m := by
  obtain ⟨o, es, ep, e, r⟩ := n
  exact ⟨o, es, ep, k o e, r⟩
theorem cut_frames {n : Nat} {h base : Heap} : ∀ {l : List Env}, h.FunFrames base l → (∀ b ∈ frs l, b < n) → (cutH n h).FunFrames base l
  | [], _, _ => trivial
  | env :: r, hl, lt => by
    obtain ⟨hk, ⟨L, o, hf, hn, ho, hd⟩, hr⟩ := hl
    have e : frs (env :: r) = L :: frs r := by
      unfold frs
      rw [List.filterMap_cons, hf]
    rw [e] at lt
    exact ⟨hk, ⟨L, o, hf, hn, by rw [cut_get (lt L List.mem_cons_self)]; exact ho, hd⟩, cut_frames hr fun b hb => lt b (List.mem_cons_of_mem _ hb)⟩
/-- woken -/
theorem gs_wake {d : Gd} (ok : d.Ok) {s0 : Shared} {H0 : Hp} {pn : List (Addr × Obj)} {ip : List (Addr × Obj)} {gz : Gz} {σ : L2.St} {H : Hp} {s : Shared} {oL : Obj} {s' : Shared} {H' : Hp} {pn' : List (Addr × Obj)}
    (I : Inv (d.cx s0 H0 pn) ip σ H s) (hL : s.heap.get? d.env.locals = some oL) (dis : ∀ p ∈ ip, d.env.locals ≤ p.1) (hgz : ∀ q ∈ gz, q.2.status = .suspended ∧ d.gn < q.1)
    (w : Wk d ((d.env.locals, oL) :: ip) gz H s' H' pn') : Gs d s' H' pn' gz ip gz σ H' s' := by
  have own := w.keep
  obtain ⟨eL, fL⟩ := own (d.env.locals, oL) List.mem_cons_self
  have lt : d.env.locals < s'.heap.objs.size := Heap.lt_size eL
  have nc : ∀ x c, d.env.cells.lookup x = some c → False := fun x c e => by
    rw [ok.cells] at e
    cases e
  have bl : ∀ {b o}, d.base.get? b = some o → b < d.env.locals := fun {b o} e => Nat.lt_of_lt_of_le (Heap.lt_size e) ok.bsz
  refine ⟨⟨⟨ok.mod, ok.kind, ok.glob, ok.blt, ?_, fun x y c e _ => (nc x c e).elim, fun x e => ?_, fun x c _ e => (nc x c e).elim, fun _ => ok.hd, ?_, .inr ⟨rfl, ok.fr⟩, fun b hb => absurd (show b ∈ ([] : List Addr) from hb) (by simp), fun b o e => ?_, ?_, fun b o _ hb => absurd (show b ∈ ([] : List Addr) from hb) (by simp),
      fun b hb => absurd (show b ∈ ([] : List Addr) from hb) (by simp), cut_frames w.e0.funs ok.olt, w.e0.frf⟩, rfl, w.e0.bare, Un.kept fun b u e => (of_cut e).2, ?_, fun x c e => (nc x c e).elim, fL, fun x c e => (nc x c e).elim, fun p hp => ?_, w.e0.hok, I.len⟩,
    fun p hp => ⟨fun q hq => (w.pins q hq).2.2.2.2 p (List.mem_cons_of_mem _ hp), dis p hp⟩, fun q hq => ⟨w.gens q hq, (hgz q hq).1, (hgz q hq).2, .inl (List.mem_map.mpr ⟨q, hq, rfl⟩)⟩, ⟨Nat.le_refl _, fun i y e _ _ => e, fun i y e _ => ?_⟩, lt, w.num, w.os⟩
  · show (cutH d.env.locals s'.heap).objs.size ≤ d.env.locals
    rw [cut_size]
    omega
  · rcases e with e | e
    · exact absurd e (ok.nocell x).1
    · exact absurd e (ok.nocell x).2
  · exact Around.frames_deeper ok.frames
  · obtain ⟨e1, e2⟩ := w.e0.bs b o e
    exact ⟨by show (cutH d.env.locals s'.heap).get? b = _; rw [cut_get (bl e)]; exact e1, e2⟩
  · show d.base.objs.size ≤ (cutH d.env.locals s'.heap).objs.size
    rw [cut_size]
    exact Nat.le_min.mpr ⟨ok.bsz, Nat.le_trans ok.bsz (Nat.le_of_lt lt)⟩
  · obtain ⟨m, hn, hl⟩ := I.loc
    refine ⟨m, ns_keep hn fun o e => ?_, fun i x v e1 e2 e3 => ?_⟩
    · have e : s.heap.get? d.env.locals = some o := e
      rw [hL] at e
      rw [← Option.some.inj e]
      exact eL
    · obtain ⟨u, r, l⟩ := hl i x v e1 e2 e3
      refine ⟨u, r, ?_⟩
      rcases l with l | ⟨_, c, e, _⟩
      · exact .inl l
      · exact (nc x c e).elim
  · rcases List.mem_append.mp hp with hp | hp
    · obtain ⟨a1, a2, a3, a4, a5⟩ := w.pins p hp
      exact ⟨a1, a2, a5 _ List.mem_cons_self, a3, a4⟩
    · obtain ⟨a1, a2⟩ := own p (List.mem_cons_of_mem _ hp)
      obtain ⟨_, _, b3, b4, b5⟩ := I.pin p (List.mem_append_right _ hp)
      exact ⟨a1, a2, b3, b4, b5⟩
  · by_cases q : i ∈ gz.map (·.1)
    · exact .inl q
    · exact .inr ⟨e, q⟩
/-- what the waker gets of a state of the frame -/
theorem Gs.after {d : Gd} {s0 : Shared} {H0 : Hp} {pn : List (Addr × Obj)} {gz0 : Gz} {ip : List (Addr × Obj)} {gz : Gz} {σ : L2.St} {H : Hp} {s : Shared} (g : Gs d s0 H0 pn gz0 ip gz σ H s) : After d s0 H0 pn s H :=
  ⟨g.inv.os, g.inv.bare, g.inv.base, fun p hp => ⟨(g.inv.pin p (List.mem_append_left _ hp)).1, (g.inv.pin p (List.mem_append_left _ hp)).2.1⟩, g.inv.hok⟩
end KQ

end KqGen_text
section KkNodup_text
set_option linter.all false
/-! lists of numbers without doubles -/
namespace Kk
theorem nodup_le : ∀ (n : Nat) (l : List Nat), l.Nodup → (∀ x ∈ l, x < n) → l.length ≤ n
  | 0, [], _, _ => Nat.le_refl _
  | 0, x :: _, _, h => absurd (h x List.mem_cons_self) (Nat.not_lt_zero _)
  | n + 1, l, hd, h => by
    have h2 : (l.erase n).length ≤ n := nodup_le n (l.erase n) (hd.erase n) fun x hx => by
      have m := List.mem_of_mem_erase hx
      have ne : x ≠ n := fun z => by
        rw [z] at hx
        exact (List.Nodup.not_mem_erase hd) hx
      have := h x m
      omega
    have := List.length_erase (a := n) (l := l)
    by_cases hm : n ∈ l
    · rw [if_pos hm] at this
      omega
    · rw [if_neg hm] at this
      omega
end Kk

end KkNodup_text
section K51Cc_text
set_option Elab.async false
set_option linter.all false
set_option maxRecDepth 100000
set_option maxHeartbeats 4000000
namespace K51
open PySem PySem.Spec PyProof.Rows L2 Kk SlX KQ
def keyL (n : Nat) (x y h : Int) : List Key := [.inl (n : Int), .inl x, .inl y, .inl h]
/-- what is known -/
structure Memo (g : Int) (kvs : List (List Key × V)) : Prop where
  ok : ∀ p ∈ kvs, ∃ n x y h, p = (keyL n x y h, .int (Wy g n x y h)) ∧ n ≤ 12 ∧ x.natAbs ≤ 12 ∧ y.natAbs ≤ 12 ∧ (g - h).natAbs ≤ 13
  nd : (kvs.map (·.1)).Nodup
/-- a key by a number -/
def enc (g : Int) (k : List Key) : Nat := match k with
  | [.inl n, .inl x, .inl y, .inl h] => ((n.toNat * 25 + (x + 12).toNat) * 25 + (y + 12).toNat) * 27 + (h - g + 13).toNat
  | _ => 0
theorem enc_at {g : Int} {n : Nat} {x y h : Int} : enc g (keyL n x y h) = ((n * 25 + (x + 12).toNat) * 25 + (y + 12).toNat) * 27 + (h - g + 13).toNat := by
  show (((n : Int).toNat * 25 + (x + 12).toNat) * 25 + (y + 12).toNat) * 27 + (h - g + 13).toNat = _
  rw [Int.toNat_natCast]
theorem enc_inj (a b c d a' b' c' d' : Nat) (h1 : b < 25) (h2 : c < 25) (h3 : d < 27) (h1' : b' < 25) (h2' : c' < 25) (h3' : d' < 27) (e : ((a * 25 + b) * 25 + c) * 27 + d = ((a' * 25 + b') * 25 + c') * 27 + d') : a = a' ∧ b = b' ∧ c = c' ∧ d = d' := by
  omega
theorem keyL_inj {n n' : Nat} {x x' y y' h h' : Int} (e : keyL n x y h = keyL n' x' y' h') : n = n' ∧ x = x' ∧ y = y' ∧ h = h' := by
  unfold keyL at e
  simp only [List.cons.injEq, Sum.inl.injEq, and_true] at e
  obtain ⟨e1, e2, e3, e4⟩ := e
  exact ⟨by omega, e2, e3, e4⟩
theorem Memo.len {g : Int} {kvs : List (List Key × V)} (m : Memo g kvs) : kvs.length < sizeLine := by
  have h1 : (kvs.map fun p => enc g p.1).Nodup := by
    have nd := m.nd
    unfold List.Nodup at nd ⊢
    rw [List.pairwise_map] at nd ⊢
    refine nd.imp_of_mem fun {p q} hp hq hne z => hne ?_
    obtain ⟨n, x, y, h, ep, b1, b2, b3, b4⟩ := m.ok p hp
    obtain ⟨n', x', y', h', eq, c1, c2, c3, c4⟩ := m.ok q hq
    subst ep eq
    have z : enc g (keyL n x y h) = enc g (keyL n' x' y' h') := z
    rw [enc_at, enc_at] at z
    obtain ⟨e1, e2, e3, e4⟩ := enc_inj _ _ _ _ _ _ _ _ (by omega) (by omega) (by omega) (by omega) (by omega) (by omega) z
    have f2 : x = x' := by omega
    have f3 : y = y' := by omega
    have f4 : h = h' := by omega
    rw [e1, f2, f3, f4]
  have h2 := nodup_le 219375 _ h1 fun k hk => by
    obtain ⟨p, hp, e⟩ := List.mem_map.mp hk
    obtain ⟨n, x, y, h, ep, b1, b2, b3, b4⟩ := m.ok p hp
    subst ep
    rw [← e, enc_at]
    omega
  rw [List.length_map] at h2
  exact Nat.lt_of_le_of_lt h2 (by decide)
theorem Memo.nil {g : Int} : Memo g [] := ⟨fun p hp => (by cases hp), List.Pairwise.nil⟩
theorem Memo.get {g : Int} {kvs : List (List Key × V)} (m : Memo g kvs) {n : Nat} {x y h : Int} {v : V} (e : valV kvs (keyL n x y h) = some v) : v = .int (Wy g n x y h) := by
  unfold valV at e
  obtain ⟨p, e1, e2⟩ := Option.map_eq_some_iff.mp e
  have hm := List.mem_of_find?_eq_some e1
  have hk0 := List.find?_some e1
  have hk : p.1 = keyL n x y h := of_decide_eq_true hk0
  obtain ⟨n', x', y', h', ep, _⟩ := m.ok p hm
  rw [ep] at hk e2
  obtain ⟨f1, f2, f3, f4⟩ := keyL_inj hk
  rw [← e2, f1, f2, f3, f4]
theorem Memo.put {g : Int} {kvs : List (List Key × V)} (m : Memo g kvs) {n : Nat} {x y h : Int} (e : valV kvs (keyL n x y h) = none) (b1 : n ≤ 12) (b2 : x.natAbs ≤ 12) (b3 : y.natAbs ≤ 12) (b4 : (g - h).natAbs ≤ 13) : Memo g (putK kvs (keyL n x y h) (.int (Wy g n x y h))) := by
  have no : ∀ p ∈ kvs, p.1 ≠ keyL n x y h := fun p hp z => by
    unfold valV at e
    have e2 := Option.map_eq_none_iff.mp e
    have := List.find?_eq_none.mp e2 p hp
    simp [z] at this
  have hp : putK kvs (keyL n x y h) (.int (Wy g n x y h)) = kvs ++ [(keyL n x y h, .int (Wy g n x y h))] := by
    unfold putK
    rw [if_neg]
    intro z
    obtain ⟨p, hp, hz⟩ := List.any_eq_true.mp z
    exact no p hp (of_decide_eq_true hz)
  rw [hp]
  refine ⟨fun p hm => ?_, ?_⟩
  · rcases List.mem_append.mp hm with hm | hm
    · exact m.ok p hm
    · rw [List.mem_singleton.mp hm]
      exact ⟨n, x, y, h, rfl, b1, b2, b3, b4⟩
  · rw [List.map_append]
    refine List.nodup_append.mpr ⟨m.nd, List.pairwise_singleton _ _, fun a ha b hb z => ?_⟩
    obtain ⟨p, hp', e3⟩ := List.mem_map.mp ha
    have hb : b = keyL n x y h := List.mem_singleton.mp hb
    exact no p hp' (e3.trans (z.trans hb))
theorem Memo.put_val {g : Int} {kvs : List (List Key × V)} {k : List Key} {v : V} (e : valV kvs k = none) : valV (putK kvs k v) k = some v := by
  have no : ∀ p ∈ kvs, p.1 ≠ k := fun p hp z => by
    unfold valV at e
    have e2 := Option.map_eq_none_iff.mp e
    have := List.find?_eq_none.mp e2 p hp
    simp [z] at this
  unfold putK
  rw [if_neg (fun z => by
    obtain ⟨p, hp, hz⟩ := List.any_eq_true.mp z
    exact no p hp (of_decide_eq_true hz))]
  unfold valV at e ⊢
  have e2 := Option.map_eq_none_iff.mp e
  rw [List.find?_append, e2]
  simp
theorem Memo.put2 {g : Int} {kvs : List (List Key × V)} (m : Memo g kvs) {n : Nat} {x y h : Int} (b1 : n ≤ 12) (b2 : x.natAbs ≤ 12) (b3 : y.natAbs ≤ 12) (b4 : (g - h).natAbs ≤ 13) :
    Memo g (putK kvs (keyL n x y h) (.int (Wy g n x y h))) ∧ valV (putK kvs (keyL n x y h) (.int (Wy g n x y h))) (keyL n x y h) = some (.int (Wy g n x y h)) := by
  cases e : valV kvs (keyL n x y h) with
  | none => exact ⟨m.put e b1 b2 b3 b4, Memo.put_val (g := g) e⟩
  | some v =>
    have ev := m.get e
    subst ev
    have ep : putK kvs (keyL n x y h) (.int (Wy g n x y h)) = kvs := by
      unfold putK
      split
      · rw [List.map_congr_left (g := id), List.map_id]
        intro p hp
        obtain ⟨n', x', y', h', ep, _⟩ := m.ok p hp
        subst ep
        show (if keyL n' x' y' h' = keyL n x y h then _ else _) = _
        split
        · rename_i z
          obtain ⟨f1, f2, f3, f4⟩ := keyL_inj z
          subst f1 f2 f3 f4
          rfl
        · rfl
      · rename_i z
        exfalso
        unfold valV at e
        obtain ⟨p, e1, _⟩ := Option.map_eq_some_iff.mp e
        exact z (List.any_eq_true.mpr ⟨p, List.mem_of_find?_eq_some e1, List.find?_some (p := fun kv : List Key × V => decide (kv.1 = keyL n x y h)) e1⟩)
    rw [ep]
    exact ⟨m, e⟩
/-- a counter with its goal stands at c -/
def CtrAt (C : Addr) (H : Hp) (c : Addr) (g : Int) : Prop := ∃ dx p kvs, H c = some (.ins C dx [("goal", .int g), ("known", .ref p)]) ∧ H p = some (.dT kvs) ∧ Memo g kvs
section
variable {P : Program} {w : World} {K : PySem.W.Frag} {mg : Str → Option Value} {base : Heap}
def sp_ways (C : Addr) (N : Nat) : Sp := fun vs H Q _ => ∃ (c : Addr) (g : Int) (n : Nat) (x y h : Int), vs = [.ref c, .int (n : Nat), .int x, .int y, .int h] ∧ n ≤ N ∧ CtrAt C H c g ∧ ∀ H', SameT H H' → CtrAt C H' c g → Q (.int (Wy g n x y h)) H'
abbrev N_Counter_ways : List Str := ["self", "left", "x", "y", "height", "key", "rows", "step", "row"]
abbrev P_Counter_ways : List Str := ["self", "left", "x", "y", "height"]
theorem sc_Counter_ways : FnScope N_Counter_ways P_Counter_ways (defScope s_Counter_ways) := ⟨rfl, rfl, rfl, by decide +kernel, rfl, by decide +kernel, by decide +kernel⟩
theorem abs_lt {n : Nat} {x y : Int} : ((n : Nat) : Int) < (if x < 0 then -x else x) + (if y < 0 then -y else y) ↔ n < x.natAbs + y.natAbs := by
  split <;> split <;> omega
theorem abs_lt1 {n : Nat} {z : Int} : ((n : Nat) : Int) + 1 < (if z < 0 then -z else z) ↔ n + 1 < z.natAbs := by
  split <;> omega
theorem Wy_out {g : Int} {n : Nat} {x y h : Int} (c : n < x.natAbs + y.natAbs ∨ n + 1 < (g - h).natAbs) : Wy g n x y h = 0 := by
  cases n with
  | zero =>
    unfold Wy
    exact if_pos c
  | succ n =>
    unfold Wy
    exact if_pos c
theorem Wy_zero {g x y h : Int} (c : ¬ (0 < x.natAbs + y.natAbs ∨ 0 + 1 < (g - h).natAbs)) : Wy g 0 x y h = 1 := by
  unfold Wy
  exact if_neg c
theorem Wy_succ {g : Int} {n : Nat} {x y h : Int} (c : ¬ (n + 1 < x.natAbs + y.natAbs ∨ n + 1 + 1 < (g - h).natAbs)) :
    Wy g (n + 1) x y h = Wy g n (x + stpX (h + -1)) (y + stpY (h + -1)) (h + -1) + Wy g n (x + stpX (h + 0)) (y + stpY (h + 0)) (h + 0) + Wy g n (x + stpX (h + 1)) (y + stpY (h + 1)) (h + 1) := by
  conv => lhs; unfold Wy
  exact if_neg c
def rowAt (x y h : Int) (j : Nat) : List V := [.int (x + stpX (h + ((j : Nat) - 1 : Int))), .int (y + stpY (h + ((j : Nat) - 1 : Int))), .int (h + ((j : Nat) - 1 : Int))]
theorem ways_step (T : Tx K mg) {k N : Nat} {spR : Sp} (hk : 1 ≤ k) (hN : N ≤ 12) (G_ways : Mt P w K mg base k (He.ma K (CC K) "ways") spR)
    (rec_ : ∀ (c : Addr) (g : Int) (m : Nat) (x y h : Int) (H : Hp) (Q : VK), m < N → CtrAt (CC K) H c g → (∀ H', SameT H H' → CtrAt (CC K) H' c g → Q (.int (Wy g m x y h)) H') → spR [.ref c, .int (m : Nat), .int x, .int y, .int h] H Q E0) :
    Mt P w K mg base (k + 1) (He.ma K (CC K) "ways") (sp_ways (CC K) N) := by
  have G_behind : Mt P w K mg base 1 (He.ma K (CC K) "behind") sp_behind := m_behind T
  refine mt_of T.C_ways sc_Counter_ways (fun vs H Q E h => ?_) (fun _ _ _ _ _ _ us hl => match us, hl with | [_, _, _, _, _], _ => rfl) (fun cdv A outer s H vs Q E hr h => ?_)
  · obtain ⟨c, g, n, x, y, h, rfl, _⟩ := h
    rfl
  · obtain ⟨c, g, n, x, y, h, rfl, hn, hc, q⟩ := h
    refine ⟨_, (pss_cons (ps_if (PW.pt (pw_or (pt_cmpR op_gt (pe_op op_add (pe_callB call_abs (by rfl) T.n_abs (by decide +kernel) (pa_cons (pv 2) pa_nil)) (pe_callB call_abs (by rfl) T.n_abs (by decide +kernel) (pa_cons (pv 3) pa_nil))) (pv 1) (nomark _)) (pw_or1 (pt_cmpR op_gt (pe_callB call_abs (by rfl) T.n_abs (by decide +kernel) (pa_cons (pe_op op_sub (pe_fld (pv 0) rfl) (pv 4)) pa_nil)) (pe_op op_add (pv 1) pe_int) (nomark _)))))
        (pss_one (ps_ret pe_int))
        pss_nil)
      (pss_cons (ps_if (pt_cmpR op_eq (pv 1) pe_int (nomark _))
        (pss_one (ps_ret pe_int))
        pss_nil)
      (pss_cons (ps_set (i := 5) sc_Counter_ways.nd rfl (Or.inl rfl) (pe_tup (pa_cons (pv 1) (pa_cons (pv 2) (pa_cons (pv 3) (pa_cons (pv 4) pa_nil))))))
      (pss_cons (ps_if (pt_cmp (pc_dnotin (hu_of hr) (pv 5) (pe_fld (pv 0) rfl)))
        (pss_cons (ps_setLc (i := 6) (own := [("step", 7)]) (g := gName 7) (tt := tYes) rfl sc_Counter_ways.nd rfl rfl (sw_true rfl rfl rfl (by decide +kernel)) (pi_tup (pe_tup (pa_cons (pe_un un_neg pe_int) (pa_cons pe_int (pa_cons pe_int pa_nil))))) (blkOk_by (N := N_Counter_ways) (sc := defScope s_Counter_ways) (by decide +kernel)) (fun _ _ _ _ _ => (pg_name (i := 7) sc_Counter_ways.nd rfl (Or.inl rfl))) (fun _ _ _ _ _ => pts_nil) (fun _ _ _ _ _ => (by exact (pe_own_behind T G_behind (hr.mono (by omega)) (pv 0) (pa_cons (pv 2) (pa_cons (pv 3) (pa_cons (pe_op op_add (pv 4) (pv 7)) pa_nil)))))))
        (pss_one (ps_dput (hu_of hr) (pe_fld (pv 0) rfl) (pv 5) (pe_callB (cr_sum rfl) (by rfl) T.n_sum (by decide +kernel) (pa_cons (pe_lc (own := [("row", 8)]) (g := gName 8) (tt := tYes) rfl sc_Counter_ways.nd (pi_list (pv 6)) (blkOk_by (N := N_Counter_ways) (sc := defScope s_Counter_ways) (by decide +kernel)) (fun _ _ _ _ _ => (pg_name (i := 8) sc_Counter_ways.nd rfl (Or.inl rfl))) (fun _ _ _ _ _ => pts_nil) (fun _ _ _ _ _ => (by exact (pe_own_ways T G_ways (hr.mono (by omega)) (pv 0) (pa_cons (pe_op op_sub (pv 1) pe_int) (pa_cons (pe_ix (ix_tupK (K := K) rfl) (pv 8) pe_int (fun _ _ => rfl)) (pa_cons (pe_ix (ix_tupK (K := K) rfl) (pv 8) pe_int (fun _ _ => rfl)) (pa_cons (pe_ix (ix_tupK (K := K) rfl) (pv 8) pe_int (fun _ _ => rfl)) pa_nil)))))))) pa_nil)) rfl)))
        pss_nil)
      (pss_one (ps_ret (pe_dget (hu_of hr) (pe_fld (pv 0) rfl) (pv 5) (fun _ _ => rfl)))))))), ?_⟩
    obtain ⟨dx, p, kvs, hcx, hp, hm⟩ := id hc
    refine ⟨_, rfl, _, rfl, _, rfl, _, rfl, _, _, rfl, rfl, _, rfl, _, _, rfl, rfl, _, rfl, ?_⟩
    by_cases c1 : n < x.natAbs + y.natAbs
    · refine iteTb (decide_eq_true (abs_lt.mpr c1)) (iteTb rfl ?_)
      have z := q H SameT.refl hc
      rw [Wy_out (.inl c1)] at z
      exact z
    refine iteFb (decide_eq_false fun z => c1 (abs_lt.mp z)) ?_
    refine ⟨_, rfl, _, _, dx, _, _, rfl, hcx, T.C_cls, T.C_goal, rfl, _, rfl, _, _, rfl, rfl, _, rfl, _, rfl, _, _, rfl, rfl, _, _, rfl, rfl, _, rfl, ?_⟩
    by_cases c2 : n + 1 < (g - h).natAbs
    · refine iteTb (decide_eq_true (abs_lt1.mpr c2)) ?_
      have z := q H SameT.refl hc
      rw [Wy_out (.inr c2)] at z
      exact z
    refine iteFb (decide_eq_false fun z => c2 (abs_lt1.mp z)) ?_
    refine ⟨_, rfl, rfl, _, rfl, ?_⟩
    by_cases c3 : n = 0
    · subst c3
      refine iteTb (decide_eq_true rfl) ?_
      have z := q H SameT.refl hc
      rw [Wy_zero (fun w => w.elim c1 c2)] at z
      exact z
    refine iteFb (decide_eq_false fun z => by injection z with z; omega) ?_
    obtain ⟨m, rfl⟩ : ∃ m, n = m + 1 := ⟨n - 1, by omega⟩
    refine ⟨_, rfl, _, rfl, _, rfl, _, rfl, (by decide : 4 ≤ sizeLine), fun pk hpk => ?_⟩
    have n1 : c ≠ pk := ne_of_none hcx hpk
    have n2 : p ≠ pk := ne_of_none hp hpk
    have hcx1 : upd H pk (.tup [.int ((m + 1 : Nat) : Int), .int x, .int y, .int h]) c = _ := (upd_ne n1).trans hcx
    have hp1 : upd H pk (.tup [.int ((m + 1 : Nat) : Int), .int x, .int y, .int h]) p = _ := (upd_ne n2).trans hp
    have hk1 : upd H pk (.tup [.int ((m + 1 : Nat) : Int), .int x, .int y, .int h]) pk = some (.tup ((keyL (m + 1) x y h).map L2.kV)) := upd_same
    have s1 : SameT H (upd H pk (.tup [.int ((m + 1 : Nat) : Int), .int x, .int y, .int h])) := SameT.of (same_upd hpk)
    generalize upd H pk (.tup [.int ((m + 1 : Nat) : Int), .int x, .int y, .int h]) = H1 at hcx1 hp1 hk1 s1
    refine ⟨_, rfl, _, rfl, _, _, dx, _, _, rfl, hcx1, T.C_cls, T.C_known, rfl, p, _, rfl, DGet.t hp1 hk1, ?_⟩
    cases e : valV kvs (keyL (m + 1) x y h) with
    | some v =>
      refine ⟨_, rfl, iteFb rfl ?_⟩
      have d1 := DGet.t hp1 hk1
      rw [e] at d1
      refine ⟨_, rfl, c, _, dx, _, _, rfl, hcx1, T.C_cls, T.C_known, rfl, _, rfl, p, v, rfl, d1, ?_⟩
      rw [hm.get e]
      exact q H1 s1 ⟨dx, p, kvs, hcx1, hp1, hm⟩
    | none =>
      refine ⟨_, rfl, iteTb rfl ?_⟩
      have rowOk : ∀ (i : Nat) (z : V), ([V.int (-1), V.int 0, V.int 1] : List V)[i]? = some z → z = .int ((i : Nat) - 1 : Int) := by
        intro i z hz
        rcases i with _ | _ | _ | i
        · exact (Option.some.inj hz).symm
        · exact (Option.some.inj hz).symm
        · exact (Option.some.inj hz).symm
        · cases hz
      refine ⟨_, rfl, (by decide : 3 ≤ sizeLine), fun pt hpt => ⟨pt, rfl, ⟨_, SqT.of upd_same⟩, fun D hD => walk_tup (K := K) (a := pt) [V.int (-1), V.int 0, V.int 1] (fun i H' => ∃ ps : List Addr, Grow (upd H1 pt (.tup [V.int (-1), V.int 0, V.int 1])) D (ps.map V.ref) H' ∧ ps.length = i ∧ ∀ j b, ps[j]? = some b → H' b = some (.tup (rowAt x y h j))) ⟨[], Grow.start hD, rfl, fun j b z => by cases z⟩ ?_ ?_ ?_⟩⟩
      · rintro i H' hi ⟨ps, gr, _, _⟩
        exact SqT.of (gr.same _ _ upd_same)
      · rintro i z H' hz ⟨ps, gr, hl, hps⟩
        obtain rfl := rowOk i z hz
        have hi : i < 3 := (List.getElem?_eq_some_iff.mp hz).1
        have hcx2 : H' c = _ := gr.same _ _ ((upd_ne (ne_of_none hcx1 hpt)).trans hcx1)
        refine ⟨rfl, _, rfl, c, dx, _, rfl, hcx2, rfl, _, rfl, _, rfl, _, rfl, _, rfl, _, _, rfl, rfl, c, x, y, h + ((i : Nat) - 1 : Int), rfl, fun b hb => ?_⟩
        have nD : D ≠ b := ne_of_none gr.lst hb
        refine ⟨_, (upd_ne nD).trans gr.lst, ?_, ps ++ [b], ?_, ?_, ?_⟩
        · rw [List.length_map, hl]
          exact Nat.lt_trans hi (by decide)
        · rw [List.map_append]
          exact (gr.more (same_upd hb)).push
        · rw [List.length_append, hl]
          rfl
        · intro j b' hj
          rw [List.getElem?_append] at hj
          split at hj
          · have z := hps j b' hj
            have nb : b' ≠ b := ne_of_none z hb
            have nb2 : b' ≠ D := fun w => by rw [w, gr.lst] at z; cases z
            rw [upd_ne nb2, upd_ne nb]
            exact z
          · rename_i hji
            have ej : j = i := by
              have := (List.getElem?_eq_some_iff.mp hj).1
              rw [List.length_singleton] at this
              omega
            subst ej
            rw [hl, Nat.sub_self] at hj
            obtain rfl : b = b' := Option.some.inj hj
            rw [upd_ne (Ne.symm nD), upd_same]
            rfl
      · rintro H3 ⟨ps, gr, hl, hps⟩
        have hcx3 : H3 c = _ := gr.same _ _ ((upd_ne (ne_of_none hcx1 hpt)).trans hcx1)
        have hp3 : H3 p = _ := gr.same _ _ ((upd_ne (ne_of_none hp1 hpt)).trans hp1)
        have hk3 : H3 pk = _ := gr.same _ _ ((upd_ne (ne_of_none hk1 hpt)).trans hk1)
        have s3 : SameT H H3 := s1.trans ((SameT.of (same_upd hpt)).trans (SameT.of gr.same))
        have lD := gr.lst
        let wv : Nat → Int := fun j => Wy g m (x + stpX (h + ((j : Nat) - 1 : Int))) (y + stpY (h + ((j : Nat) - 1 : Int))) (h + ((j : Nat) - 1 : Int))
        have em : (((m + 1 : Nat) : Int) - 1) = ((m : Nat) : Int) := by omega
        refine ⟨_, rfl, D, rfl, ⟨_, SqL.of lD⟩, fun D2 hD2 => walk_list (K := K) (a := D) (ps.map V.ref) (fun i H' => ∃ kvs', H' p = some (.dT kvs') ∧ Memo g kvs' ∧ SameT H3 H' ∧ H' D2 = some (.lst (((List.range i).map wv).map V.int))) ⟨kvs, (upd_ne (ne_of_none hp3 hD2)).trans hp3, hm, SameT.of (same_upd hD2), upd_same⟩ ?_ ?_ ?_⟩
        · rintro i H' hi ⟨_, _, _, sm, _⟩
          exact SqL.of (sm _ _ lD fun kvs z => by cases z)
        · rintro i z H' hz ⟨kvs', hp', hm', sm, hl2⟩
          rw [List.getElem?_map] at hz
          obtain ⟨b, hb, ez⟩ := Option.map_eq_some_iff.mp hz
          subst ez
          have hi : i < 3 := by
            have := (List.getElem?_eq_some_iff.mp hb).1
            rw [hl] at this
            exact this
          have hrow : H' b = some (.tup (rowAt x y h i)) := sm _ _ (hps i b hb) fun kvs z => by cases z
          have hc' : H' c = _ := sm _ _ hcx3 fun kvs z => by cases z
          refine ⟨rfl, _, rfl, c, dx, _, rfl, hc', rfl, _, rfl, _, _, rfl, rfl, _, rfl, _, _, _, _, rfl, rfl, SqT.of hrow, rfl, _, rfl, _, _, _, _, rfl, rfl, SqT.of hrow, rfl, _, rfl, _, _, _, _, rfl, rfl, SqT.of hrow, rfl, ?_⟩
          show spR [.ref c, .int (((m + 1 : Nat) : Int) - 1), _, _, _] _ _ _
          rw [em]
          refine rec_ c g m _ _ _ H' _ (by omega) ⟨dx, p, kvs', hc', hp', hm'⟩ fun H'' sm2 ct => ?_
          obtain ⟨dx2, p2, kvs2, q1, q2, q3⟩ := ct
          have hc2 := sm2 _ _ hc' fun kvs z => by cases z
          rw [hc2] at q1
          have ep : p2 = p := by
            injection q1 with q1
            injection q1 with _ _ q1
            simp only [List.cons.injEq, Prod.mk.injEq, V.ref.injEq, and_true, true_and] at q1
            exact q1.symm
          subst ep
          have l2 := sm2 _ _ hl2 fun kvs z => by cases z
          have np : p2 ≠ D2 := fun w => by rw [w, l2] at q2; cases q2
          refine ⟨_, l2, ?_, kvs2, (upd_ne np).trans q2, q3, fun b' o e' n' => ?_, ?_⟩
          · rw [List.length_map, List.length_map, List.length_range]
            exact Nat.lt_trans hi (by decide)
          · have nb : b' ≠ D2 := ne_of_none e' hD2
            rw [upd_ne nb]
            exact sm2 _ _ (sm _ _ e' n') n'
          · rw [upd_same, List.range_succ, List.map_append, List.map_append]
            rfl
        · rintro H4 ⟨kvs', hp', hm', sm, hl2⟩
          have l3 : (ps.map V.ref).length = 3 := by
            rw [List.length_map, hl]
            rfl
          rw [l3] at hl2
          have hc4 := sm _ _ hcx3 fun kvs z => by cases z
          have hk4 := sm _ _ hk3 fun kvs z => by cases z
          have es : ((List.range 3).map wv).sum = Wy g (m + 1) x y h := by
            have e0 : ((List.range 3).map wv).sum = wv 0 + (wv 1 + (wv 2 + 0)) := rfl
            have e1 : Wy g (m + 1) x y h = wv 0 + wv 1 + wv 2 := Wy_succ fun w => w.elim c1 c2
            rw [e0, e1]
            omega
          obtain ⟨m1, m2⟩ := hm'.put2 (n := m + 1) (x := x) (y := y) (h := h) (by omega) (by omega) (by omega) (by omega)
          refine ⟨D2, (List.range 3).map wv, rfl, SqL.of hl2, ?_⟩
          rw [es]
          refine ⟨_, rfl, c, _, dx, _, _, rfl, hc4, T.C_cls, T.C_known, rfl, _, rfl, p, _, rfl, DPut.t hp' hk4 hm'.len, ?_⟩
          have ncp : c ≠ p := fun w => by rw [w, hp'] at hc4; cases hc4
          have nkp : pk ≠ p := fun w => by rw [w, hp'] at hk4; cases hk4
          have hc5 := (upd_ne (H := H4) (o := .dT (putK kvs' (keyL (m + 1) x y h) (.int (Wy g (m + 1) x y h)))) ncp).trans hc4
          have hk5 := (upd_ne (H := H4) (o := .dT (putK kvs' (keyL (m + 1) x y h) (.int (Wy g (m + 1) x y h)))) nkp).trans hk4
          have d5 := DGet.t (upd_same (H := H4) (a := p) (o := .dT (putK kvs' (keyL (m + 1) x y h) (.int (Wy g (m + 1) x y h))))) hk5
          rw [m2] at d5
          refine ⟨_, rfl, c, _, dx, _, _, rfl, hc5, T.C_cls, T.C_known, rfl, _, rfl, p, _, rfl, d5, ?_⟩
          refine q _ (fun b o e' n' => ?_) ⟨dx, p, _, hc5, upd_same, m1⟩
          have z := sm _ _ (s3 _ _ e' n') n'
          have nb : b ≠ p := fun w => by
            rw [w, hp'] at z
            exact n' _ (Option.some.inj z).symm
          rw [upd_ne nb]
          exact z
/-- Counter.ways, the strokes left at most 12 -/
theorem m_ways (T : Tx K mg) : ∀ N : Nat, N ≤ 12 → Mt P w K mg base (N + 3) (He.ma K (CC K) "ways") (sp_ways (CC K) N) := by
  intro N
  induction N with
  | zero =>
    intro _
    have G0 : Mt P w K mg base 1 (He.ma K (CC K) "ways") (fun _ _ _ _ => False) := mt_of T.C_ways sc_Counter_ways (fun vs H Q E h => h.elim) (fun _ _ _ _ _ _ us hl => match us, hl with | [_, _, _, _, _], _ => rfl) fun cdv A outer s H vs Q E hr h => h.elim
    exact (ways_step T (k := 1) (Nat.le_refl _) (by decide) G0 fun c g m x y h H Q hm => absurd hm (Nat.not_lt_zero _)).mono (by decide)
  | succ N ih =>
    intro hN
    exact ways_step T (k := N + 3) (by omega) hN (ih (by omega)) fun c g m x y h H Q hm ct hq => ⟨c, g, m, x, y, h, rfl, by omega, ct, hq⟩
end
end K51

end K51Cc_text
section K51Cd_text
set_option Elab.async false
set_option linter.all false
set_option maxRecDepth 100000
set_option maxHeartbeats 4000000
namespace K51
open PySem PySem.Spec PyProof.Rows L2 Kk SlX KQ
section
variable {X : Cx} {k : Nat} {e : Expr} {te : TE} {p pos : Pos}
theorem pe_ctr {P : Program} {w : World} {K : PySem.W.Frag} {mg : Str → Option Value} {base : Heap} (T : Tx K mg) (G : Mt P w K mg base k (He.ma K (CC K) "__init__") (sp_Counter_init (CC K))) (hr : Room (k + 1) X.A) (he : PE X e te) (hg : Gl X "Counter" := by rfl)
    (hs : starEach (e :: []) X.env = (false, eval e X.env) :: starEach [] X.env := by rfl) (hpl : (backTo pos (starEach [] X.env)).any (·.1) = false := by rfl) (hX : X.prog = P ∧ X.w = w ∧ X.K = K ∧ X.mg = mg ∧ X.base = base := by exact ⟨rfl, rfl, rfl, rfl, rfl⟩) :
    PE X (.Call (.Name "Counter" p) [e] [] pos) (StX.tMakeR (CC K) (sp_Counter_init (CC K)) E0 (tCons te tNil)) := by
  obtain ⟨e1, e2, e3, e4, e5⟩ := hX
  subst e1 e2 e3 e4 e5
  exact StX.pe_makeR T.C_mk G.run hr hg T.c_Counter pass0 (pa_cons he pa_nil hs) (by decide) hs hpl
theorem ctr_at {K : PySem.W.Frag} {H : Hp} {R : Hp → Prop} {g : Int} {x dx : Addr} (nx : H x = none) (ndx : H dx = none) (ne : dx ≠ x) (q : ∀ H', Same H H' → CtrAt (CC K) H' x g → R H') :
    sp_Counter_init (CC K) [V.ref x, V.int g] (upd (upd H dx (.own x)) x (.ins (CC K) dx [])) (fun v H2 => v = .non ∧ R H2) E0 := by
  refine ⟨x, dx, g, rfl, upd_same, fun p np hp => ⟨rfl, q _ (fun b o e => ?_) ⟨dx, p, [], upd_same, ?_, Memo.nil⟩⟩⟩
  · have n1 : b ≠ x := ne_of_none e nx
    have n2 : b ≠ dx := ne_of_none e ndx
    have hp' : H p = none := by
      by_cases h2 : p = dx
      · rw [h2]; exact ndx
      · rw [upd_ne np, upd_ne h2] at hp
        exact hp
    have n3 : b ≠ p := ne_of_none e hp'
    rw [upd_ne n1, upd_ne n3, upd_ne n1, upd_ne n1, upd_ne n2]
    exact e
  · rw [upd_ne np, upd_same]
end
section
variable {P : Program} {w : World} {K : PySem.W.Frag} {mg : Str → Option Value} {base : Heap}
/-! ### begun_with -/
def sp_begun_with (C : Addr) : Sp := fun vs H Q _ => ∃ (a : D) (n t : Int), vs = [.str (tx [a]), .int n, .int t] ∧ ∀ H' c b, Same H H' → CtrAt C H' c ((a.hd : Nat) + 4 * t) → H' b = some (.tup [.ref c, .int (n - 1), .int (0 + stpX (a.hd : Nat)), .int (0 + stpY (a.hd : Nat)), .int (a.hd : Nat)]) → Q (.ref b) H'
abbrev N_begun_with : List Str := ["letter", "strokes", "turns", "counter", "x", "y", "height"]
abbrev P_begun_with : List Str := ["letter", "strokes", "turns"]
theorem sc_begun_with : FnScope N_begun_with P_begun_with (defScope s_begun_with) := ⟨rfl, rfl, rfl, by decide +kernel, rfl, by decide +kernel, by decide +kernel⟩
theorem d_begun_with (T : Tx K mg) : Df P w K mg base 3 "begun_with" P_begun_with (sp_begun_with (CC K)) := by
  have G_heading : Df P w K mg base 1 "heading" P_heading sp_heading := d_heading T
  have G_Counter := m_Counter_init (P := P) (w := w) (base := base) T
  have G_behind : Mt P w K mg base 1 (He.ma K (CC K) "behind") sp_behind := m_behind T
  refine df_of T.F_begun_with sc_begun_with (fun vs H Q E h => ?_) (fun _ _ _ _ _ _ us hl => match us, hl with | [_, _, _], _ => rfl) (fun f cdv A outer s H vs Q E hr h => ?_)
  · obtain ⟨a, n, t, rfl, _⟩ := h
    rfl
  · obtain ⟨a, n, t, rfl, q⟩ := h
    refine ⟨_, (pss_cons (ps_set (i := 3) sc_begun_with.nd rfl (Or.inl rfl) (pe_ctr T G_Counter (hr.mono (by decide)) (pe_op op_add (pe_df G_heading (hr.mono (by decide)) (pa_cons (pv 0) pa_nil)) (pe_op op_mul (pe_globI T.m_QUARTERS) (pv 2)))))
      (pss_cons (ps_asg (pe_own_behind T G_behind (hr.mono (by decide)) (pv 3) (pa_cons pe_int (pa_cons pe_int (pa_cons (pe_df G_heading (hr.mono (by decide)) (pa_cons (pv 0) pa_nil)) pa_nil)))) (pg_tup rfl (pgs_cons (pg_name (i := 4) sc_begun_with.nd rfl (Or.inl rfl)) (pgs_cons (pg_name (i := 5) sc_begun_with.nd rfl (Or.inl rfl)) (pgs_cons (pg_name (i := 6) sc_begun_with.nd rfl (Or.inl rfl)) pgs_nil)))))
      (pss_one (ps_ret (pe_tup (pa_cons (pv 3) (pa_cons (pe_op op_sub (pv 1) pe_int) (pa_cons (pv 4) (pa_cons (pv 5) (pa_cons (pv 6) pa_nil)))))))))), ?_⟩
    refine ⟨_, rfl, a, rfl, _, rfl, _, _, rfl, rfl, (.inl ⟨by decide, by decide⟩), _, _, rfl, rfl, ?_⟩
    intro c dx nx ndx ne
    refine ctr_at (K := K) nx ndx ne fun H1 sm ct => ?_
    obtain ⟨dx1, p1, kvs1, h1, h2, h3⟩ := id ct
    refine ⟨_, rfl, c, dx1, _, rfl, h1, rfl, _, rfl, a, rfl, c, 0, 0, _, rfl, fun b hb => ?_⟩
    refine ⟨b, _, rfl, SqT.of upd_same, rfl, _, _, rfl, _, _, rfl, _, _, rfl, rfl, ?_⟩
    refine ⟨_, rfl, _, rfl, _, _, rfl, rfl, _, rfl, _, rfl, _, rfl, (by decide : 5 ≤ sizeLine), fun b2 hb2 => ?_⟩
    have n1 : c ≠ b := ne_of_none h1 hb
    have n2 : p1 ≠ b := ne_of_none h2 hb
    have sb := same_upd (H := H1) (o := .tup [.int (0 + stpX (a.hd : Nat)), .int (0 + stpY (a.hd : Nat)), .int (a.hd : Nat)]) hb
    have h1' := sb _ _ h1
    have h2' := sb _ _ h2
    exact q _ c b2 ((sm.trans sb).trans (same_upd hb2)) ⟨dx1, p1, kvs1, same_upd hb2 _ _ h1', same_upd hb2 _ _ h2', h3⟩ upd_same
/-! ### texts_with -/
def sp_texts_with : Sp := fun vs H Q _ => ∃ (m : Nat) (t : Int), vs = [.int ((m + 1 : Nat) : Int), .int t] ∧ m ≤ 11 ∧ ∀ H', SameT H H' → Q (.int (4 * Wy (4 * t) m 1 0 0)) H'
abbrev N_texts_with : List Str := ["strokes", "turns", "counter", "left", "x", "y", "height"]
abbrev P_texts_with : List Str := ["strokes", "turns"]
theorem sc_texts_with : FnScope N_texts_with P_texts_with (defScope s_texts_with) := ⟨rfl, rfl, rfl, by decide +kernel, rfl, by decide +kernel, by decide +kernel⟩
theorem d_texts_with (T : Tx K mg) : Df P w K mg base 16 "texts_with" P_texts_with sp_texts_with := by
  have G_begun_with := d_begun_with (P := P) (w := w) (base := base) T
  have G_ways := m_ways (P := P) (w := w) (base := base) T 12 (by decide)
  refine df_of T.F_texts_with sc_texts_with (fun vs H Q E h => ?_) (fun _ _ _ _ _ _ us hl => match us, hl with | [_, _], _ => rfl) (fun f cdv A outer s H vs Q E hr h => ?_)
  · obtain ⟨m, t, rfl, _⟩ := h
    rfl
  · obtain ⟨m, t, rfl, hm, q⟩ := h
    refine ⟨_, (pss_cons (ps_asg (pe_df G_begun_with (hr.mono (by decide)) (pa_cons (pe_ix ix_str (pe_globS T.m_LETTERS) pe_int (fun _ _ => rfl)) (pa_cons (pv 0) (pa_cons (pv 1) pa_nil)))) (pg_tup rfl (pgs_cons (pg_name (i := 2) sc_texts_with.nd rfl (Or.inl rfl)) (pgs_cons (pg_name (i := 3) sc_texts_with.nd rfl (Or.inl rfl)) (pgs_cons (pg_name (i := 4) sc_texts_with.nd rfl (Or.inl rfl)) (pgs_cons (pg_name (i := 5) sc_texts_with.nd rfl (Or.inl rfl)) (pgs_cons (pg_name (i := 6) sc_texts_with.nd rfl (Or.inl rfl)) pgs_nil)))))))
      (pss_one (ps_ret (pe_op op_mul (pe_globI T.m_QUARTERS) (pe_own_ways T G_ways (hr.mono (by decide)) (pv 2) (pa_cons (pv 3) (pa_cons (pv 4) (pa_cons (pv 5) (pa_cons (pv 6) pa_nil))))))))), ?_⟩
    refine ⟨_, _, D.E.cp, rfl, rfl, by decide +kernel, by decide +kernel, _, rfl, _, rfl, D.E, _, _, rfl, fun H1 c b sm ct hb => ?_⟩
    rw [show (((m + 1 : Nat) : Int) - 1) = ((m : Nat) : Int) by omega] at hb
    obtain ⟨dx1, p1, kvs1, h1, h2, h3⟩ := id ct
    refine ⟨b, _, rfl, SqT.of hb, rfl, _, _, rfl, _, _, rfl, _, _, rfl, _, _, rfl, _, _, rfl, rfl, ?_⟩
    refine ⟨_, rfl, c, dx1, _, rfl, h1, rfl, _, rfl, _, rfl, _, rfl, _, rfl, c, _, m, _, _, _, rfl, by omega, ct, fun H2 s2 _ => ⟨_, _, rfl, rfl, .inl ⟨by decide, by decide⟩, ?_⟩⟩
    have z := q H2 ((SameT.of sm).trans s2)
    have eg : (((D.E.hd : Nat) : Int) + 4 * t) = 4 * t := by
      show ((0 : Nat) : Int) + 4 * t = 4 * t
      omega
    rw [eg]
    exact z
end
end K51

end K51Cd_text
section K51Ce_text
set_option Elab.async false
set_option linter.all false
set_option maxRecDepth 100000
set_option maxHeartbeats 4000000
namespace K51
open PySem PySem.Spec PyProof.Rows L2 Kk SlX KQ
section
variable {P : Program} {w : World} {K : PySem.W.Frag} {mg : Str → Option Value} {base : Heap}
def sp_next_letters : Sp := fun vs H Q _ => ∃ (l : List D) (a : D), vs = [.str (tx (l ++ [a]))] ∧ l.length ≤ 1000 ∧ ∀ H' b, Same H H' → H' b = some (.lst ((nextL a).map fun d => V.str (tx [d]))) → Q (.ref b) H'
abbrev N_next_letters : List Str := ["text", "letter"]
abbrev P_next_letters : List Str := ["text"]
theorem sc_next_letters : FnScope N_next_letters P_next_letters (defScope s_next_letters) := ⟨rfl, rfl, rfl, by decide +kernel, rfl, by decide +kernel, by decide +kernel⟩
theorem d_next_letters (T : Tx K mg) : Df P w K mg base 2 "next_letters" P_next_letters sp_next_letters := by
  have G_heading : Df P w K mg base 1 "heading" P_heading sp_heading := d_heading T
  refine df_of T.F_next_letters sc_next_letters (fun vs H Q E h => ?_) (fun _ _ _ _ _ _ us hl => match us, hl with | [_], _ => rfl) (fun f cdv A outer s H vs Q E hr h => ?_)
  · obtain ⟨l, a, rfl, _⟩ := h
    rfl
  · obtain ⟨l, a, rfl, hl, q⟩ := h
    refine ⟨_, (pss_one (ps_ret (pe_lc (own := [("letter", 1)]) (g := gName 1) rfl sc_next_letters.nd (pi_str (pe_globS T.m_ALPHABET)) (blkOk_by (N := N_next_letters) (sc := defScope s_next_letters) (by decide +kernel)) (fun _ _ _ _ _ => (pg_name (i := 1) sc_next_letters.nd rfl (Or.inl rfl))) (fun _ _ _ _ _ => pts_one (pt_cmpR op_ne (pe_op op_mod (pe_op op_sub (pe_df G_heading (hr.mono (by decide)) (pa_cons (pv 1) pa_nil)) (pe_df G_heading (hr.mono (by decide)) (pa_cons (pe_ix ix_str (pv 0) (pe_un un_neg pe_int) (fun _ _ => rfl)) pa_nil))) (pe_globI T.m_QUARTERS)) pe_int (nomark _))) (fun _ _ _ _ _ => (pv 1))))), ?_⟩
    refine ⟨_, rfl, fun b hb => walk_str (z := "ENSW") (fun i H' => Grow H b (((([D.E, D.N, D.S, D.W].take i).filter fun d => decide ((((d.hd : Nat) : Int) - (a.hd : Nat)) % 4 ≠ 2)).map fun d => V.str (tx [d]))) H') (Grow.start hb) ?_ ?_⟩
    · intro i ch H' hc g
      have hsz : ("ENSW" : Str).cps.size = 4 := by decide +kernel
      have hlt := (Array.getElem?_eq_some_iff.mp hc).1
      obtain ⟨d, hd, ech⟩ : ∃ d, [D.E, D.N, D.S, D.W][i]? = some d ∧ ch = d.cp := by
        rcases i with _ | _ | _ | _ | i
        · exact ⟨_, rfl, (Option.some.inj hc).symm⟩
        · exact ⟨_, rfl, (Option.some.inj hc).symm⟩
        · exact ⟨_, rfl, (Option.some.inj hc).symm⟩
        · exact ⟨_, rfl, (Option.some.inj hc).symm⟩
        · rw [hsz] at hlt
          omega
      subst ech
      have hz : (tx (l ++ [a])).length ≤ sizeLine := by
        rw [tx_len, List.length_append]
        exact Nat.le_trans (Nat.add_le_add_right hl 1) (by decide)
      have hat : atI (tx (l ++ [a])).cps.toList (-1) = some a.cp := at_last _ a (by simp)
      rw [take_more hd, List.filter_append, List.map_append]
      refine ⟨rfl, _, rfl, d, rfl, _, rfl, _, rfl, _, _, a.cp, rfl, rfl, hz, hat, a, rfl, _, _, rfl, rfl, _, _, rfl, rfl, (show (0 : Int) < 4 by decide), ?_⟩
      refine ⟨rfl, _, rfl, ?_⟩
      by_cases c4 : (((d.hd : Nat) : Int) - (a.hd : Nat)) % 4 = 2
      · have ef : [d].filter (fun d : D => decide ((((d.hd : Nat) : Int) - (a.hd : Nat)) % 4 ≠ 2)) = [] := by simp [List.filter, c4]
        rw [ef, List.map_nil, List.append_nil]
        refine iteFb ?_ g
        show (!decide (V.int _ = V.int 2)) = false
        rw [decide_eq_true (congrArg V.int c4)]
        rfl
      · have ef : [d].filter (fun d : D => decide ((((d.hd : Nat) : Int) - (a.hd : Nat)) % 4 ≠ 2)) = [d] := by simp [List.filter, c4]
        rw [ef]
        refine iteTb ?_ ⟨_, rfl, _, g.lst, ?_, g.push⟩
        · show (!decide (V.int _ = V.int 2)) = true
          rw [decide_eq_false fun z => c4 (by injection z)]
          rfl
        · rw [List.length_map]
          refine Nat.lt_of_le_of_lt (Nat.le_trans (List.length_filter_le _ _) (List.length_take_le _ _)) ?_
          exact Nat.lt_of_lt_of_le hlt (by rw [hsz]; decide)
    · intro H' g
      exact q H' b g.same g.lst
end
end K51

end K51Ce_text
section K51Cf_text
set_option Elab.async false
set_option linter.all false
set_option maxRecDepth 100000
set_option maxHeartbeats 4000000
namespace K51
open PySem PySem.Spec PyProof.Rows L2 Kk SlX KQ
section
variable {P : Program} {w : World} {K : PySem.W.Frag} {mg : Str → Option Value} {base : Heap}
def sp_own_texts (N : Nat) : Sp := fun vs H Q _ => ∃ (s : Nat) (t : Int), vs = [.int (s : Nat), .int t] ∧ 1 ≤ s ∧ s ≤ N ∧ ∀ H', SameT H H' → Q (.int (ownT s t)) H'
abbrev N_own_texts : List Str := ["strokes", "turns", "found", "many"]
abbrev P_own_texts : List Str := ["strokes", "turns"]
theorem sc_own_texts : FnScope N_own_texts P_own_texts (defScope s_own_texts) := ⟨rfl, rfl, rfl, by decide +kernel, rfl, by decide +kernel, by decide +kernel⟩
theorem own_step (T : Tx K mg) {k N : Nat} {spR : Sp} (hk : 16 ≤ k) (hN : N ≤ 12) (G_own_texts : Df P w K mg base k "own_texts" P_own_texts spR)
    (rec_ : 8 ≤ N → ∀ (s : Nat) (t : Int) (H : Hp) (Q : VK), 1 ≤ s → s < 8 → (∀ H', SameT H H' → Q (.int (tW s t)) H') → spR [.int (s : Nat), .int t] H Q E0) : Df P w K mg base (k + 1) "own_texts" P_own_texts (sp_own_texts N) := by
  have G_texts_with : Df P w K mg base 16 "texts_with" P_texts_with sp_texts_with := d_texts_with T
  refine df_of T.F_own_texts sc_own_texts (fun vs H Q E h => ?_) (fun _ _ _ _ _ _ us hl => match us, hl with | [_, _], _ => rfl) (fun f cdv A outer s H vs Q E hr h => ?_)
  · obtain ⟨s, t, rfl, _⟩ := h
    rfl
  · obtain ⟨s, t, rfl, h1, h2, q⟩ := h
    refine ⟨_, (pss_cons (ps_set (i := 2) sc_own_texts.nd rfl (Or.inl rfl) (pe_df G_texts_with (hr.mono (by omega)) (pa_cons (pv 0) (pa_cons (pv 1) pa_nil))))
      (pss_cons (ps_for PassesOwn.never rfl (pi_range2 (by rfl) T.n_range (pa_cons pe_int (pa_cons (pe_op op_add (pe_op op_fdiv (pv 0) (pe_globI T.m_QUARTERS)) pe_int) pa_nil))) (pg_name (i := 3) sc_own_texts.nd rfl (Or.inl rfl))
        (pss_one (ps_if (PW.pt (pw_and (pt_cmpR op_eq (pe_op op_mod (pv 0) (pv 3)) pe_int (nomark _)) (pw_and1 (pt_cmpR op_eq (pe_op op_mod (pv 1) (pv 3)) pe_int (nomark _)))))
          (pss_one (ps_aug (i := 2) sc_own_texts.nd rfl (Or.inl rfl) (pe_df G_own_texts (hr.mono (by omega)) (pa_cons (pe_op op_fdiv (pv 0) (pv 3)) (pa_cons (pe_op op_fdiv (pv 1) (pv 3)) pa_nil))) ip_sub))
          pss_nil)))
      (pss_one (ps_ret (pv 2))))), ?_⟩
    have es : ((s : Nat) : Int) = ((s - 1 + 1 : Nat) : Int) := by omega
    refine ⟨_, rfl, _, rfl, s - 1, t, congrArg (fun z => [V.int z, V.int t]) es, by omega, fun H1 s1 => ?_⟩
    refine ⟨_, rfl, _, _, rfl, rfl, (show CDiv _ 4 from ⟨by decide, by decide⟩), _, _, rfl, rfl, _, _, rfl, ⟨by decide, by decide, by omega, by omega⟩, ?_⟩
    refine for_range (lo := 2) (n := (((s : Nat) : Int) / 4 + 1 - 2).toNat) (fun i σ H' => SameT H H' ∧ ∃ v, σ = [some (.int (s : Nat)), some (.int t), some (.int (ownUp s t i)), v]) ⟨s1, _, rfl⟩ ?_ ?_
    · rintro i σ H' hi ⟨sm, v, rfl⟩
      have e2 : (2 : Int) + ((i : Nat) : Int) = ((i + 2 : Nat) : Int) := by omega
      have i8 : 8 ≤ s := by omega
      have i3 : i + 2 ≤ 3 := by omega
      have em : ((s : Nat) : Int) % ((i + 2 : Nat) : Int) = ((s % (i + 2) : Nat) : Int) := (Int.natCast_emod _ _).symm
      have ed : ((s : Nat) : Int) / ((i + 2 : Nat) : Int) = ((s / (i + 2) : Nat) : Int) := (Int.natCast_ediv _ _).symm
      have pos : (0 : Int) < ((i + 2 : Nat) : Int) := by omega
      rw [e2]
      refine ⟨_, rfl, _, rfl, _, _, rfl, rfl, pos, rfl, _, rfl, ?_⟩
      show if decide (V.int (((s : Nat) : Int) % ((i + 2 : Nat) : Int)) = V.int 0) = true then _ else _
      rw [em]
      have up : ownUp s t (i + 1) = if s % (i + 2) = 0 ∧ t % ((i + 2 : Nat) : Int) = 0 then ownUp s t i - tW (s / (i + 2)) (t / ((i + 2 : Nat) : Int)) else ownUp s t i := rfl
      by_cases c1 : s % (i + 2) = 0
      · refine iteTb (decide_eq_true (by rw [c1]; rfl)) ?_
        refine ⟨_, rfl, _, rfl, _, _, rfl, rfl, pos, rfl, _, rfl, ?_⟩
        show if decide (V.int (t % ((i + 2 : Nat) : Int)) = V.int 0) = true then _ else _
        by_cases c2 : t % ((i + 2 : Nat) : Int) = 0
        · refine iteTb (decide_eq_true (by rw [c2])) ?_
          rw [if_pos ⟨c1, c2⟩] at up
          refine ⟨_, rfl, _, rfl, _, rfl, _, _, rfl, rfl, (show CDiv _ _ from ⟨pos, by omega⟩), _, rfl, _, rfl, _, _, rfl, rfl, (show CDiv _ _ from ⟨pos, by omega⟩), ?_⟩
          show spR [V.int (((s : Nat) : Int) / ((i + 2 : Nat) : Int)), V.int (t / ((i + 2 : Nat) : Int))] _ _ _
          rw [ed]
          have b1 : 1 ≤ s / (i + 2) := (Nat.le_div_iff_mul_le (by omega)).mpr (by omega)
          have b2 : s / (i + 2) < 8 := Nat.lt_of_le_of_lt (Nat.div_le_div_left (show 2 ≤ i + 2 by omega) (by decide)) (by omega)
          refine rec_ (by omega) _ _ _ _ b1 b2 fun H2 s2 => ?_
          refine ⟨_, _, rfl, rfl, sm.trans s2, some (.int ((i + 2 : Nat) : Int)), ?_⟩
          rw [up]
          rfl
        · refine iteFb (decide_eq_false fun z => c2 (by injection z)) ?_
          rw [if_neg (fun z => c2 z.2)] at up
          refine ⟨sm, some (.int ((i + 2 : Nat) : Int)), ?_⟩
          rw [up]
          rfl
      · refine iteFb (decide_eq_false fun z => c1 (by injection z with z; omega)) (iteF ?_)
        rw [if_neg (fun z => c1 z.1)] at up
        refine ⟨sm, some (.int ((i + 2 : Nat) : Int)), ?_⟩
        rw [up]
        rfl
    · rintro σ H' ⟨sm, v, rfl⟩
      refine ⟨_, rfl, ?_⟩
      have e : (((s : Nat) : Int) / 4 + 1 - 2).toNat = s / 4 - 1 := by omega
      rw [e]
      exact q _ sm
theorem d_own7 (T : Tx K mg) : Df P w K mg base 17 "own_texts" P_own_texts (sp_own_texts 7) := by
  have G0 : Df P w K mg base 16 "own_texts" P_own_texts (fun _ _ _ _ => False) := (df_of (k := 15) T.F_own_texts sc_own_texts (fun vs H Q E h => h.elim) (fun _ _ _ _ _ _ us hl => match us, hl with | [_, _], _ => rfl) fun f cdv A outer s H vs Q E hr h => h.elim)
  exact own_step T (Nat.le_refl _) (by decide) G0 fun h => absurd h (by decide)
theorem d_own_texts (T : Tx K mg) : Df P w K mg base 18 "own_texts" P_own_texts (sp_own_texts 12) :=
  own_step T (by decide) (by decide) (d_own7 T) fun _ s t H Q h1 h2 hq => ⟨s, t, rfl, h1, by omega, fun H' s' => by rw [own_small h2]; exact hq H' s'⟩
end
end K51

end K51Cf_text
section K51Cg_text
set_option Elab.async false
set_option linter.all false
set_option maxRecDepth 100000
set_option maxHeartbeats 4000000
namespace K51
open PySem PySem.Spec PyProof.Rows L2 Kk SlX KQ
section
variable {P : Program} {w : World} {K : PySem.W.Frag} {mg : Str → Option Value} {base : Heap}
/-! ### lines_with, count_lines -/
def sp_lines_with : Sp := fun vs H Q _ => ∃ (s : Nat) (t : Int), vs = [.int (s : Nat), .int t] ∧ 4 ≤ s ∧ s ≤ 12 ∧ ∀ H', SameT H H' → Q (.int (linesW s t)) H'
abbrev N_lines_with : List Str := ["strokes", "turns", "some", "many"]
abbrev P_lines_with : List Str := ["strokes", "turns"]
theorem sc_lines_with : FnScope N_lines_with P_lines_with (defScope s_lines_with) := ⟨rfl, rfl, rfl, by decide +kernel, rfl, by decide +kernel, by decide +kernel⟩
theorem d_lines_with (T : Tx K mg) : Df P w K mg base 19 "lines_with" P_lines_with sp_lines_with := by
  have G_own_texts : Df P w K mg base 18 "own_texts" P_own_texts (sp_own_texts 12) := d_own_texts T
  refine df_of T.F_lines_with sc_lines_with (fun vs H Q E h => ?_) (fun _ _ _ _ _ _ us hl => match us, hl with | [_, _], _ => rfl) (fun f cdv A outer s H vs Q E hr h => ?_)
  · obtain ⟨s, t, rfl, _⟩ := h
    rfl
  · obtain ⟨s, t, rfl, h1, h2, q⟩ := h
    refine ⟨_, (pss_cons (ps_setLc (i := 2) (own := [("many", 3)]) (g := gName 3) rfl sc_lines_with.nd rfl rfl (sw_true rfl rfl rfl (by decide +kernel)) (pi_range2 (by rfl) T.n_range (pa_cons pe_int (pa_cons (pe_op op_add (pe_op op_fdiv (pv 0) (pe_globI T.m_QUARTERS)) pe_int) pa_nil))) (blkOk_by (N := N_lines_with) (sc := defScope s_lines_with) (by decide +kernel)) (fun _ _ _ _ _ => (pg_name (i := 3) sc_lines_with.nd rfl (Or.inl rfl))) (fun _ _ _ _ _ => pts_one (PW.pt (pw_and (pt_cmpR op_eq (pe_op op_mod (pv 0) (pv 3)) pe_int (nomark _)) (pw_and1 (pt_cmpR op_eq (pe_op op_mod (pv 1) (pv 3)) pe_int (nomark _)))))) (fun _ _ _ _ _ => (pv 3)))
      (pss_one (ps_ret (pe_callB (cr_sum rfl) (by rfl) T.n_sum (by decide +kernel) (pa_cons (pe_lc (own := [("many", 3)]) (g := gName 3) (tt := tYes) rfl sc_lines_with.nd (pi_list (pv 2)) (blkOk_by (N := N_lines_with) (sc := defScope s_lines_with) (by decide +kernel)) (fun _ _ _ _ _ => (pg_name (i := 3) sc_lines_with.nd rfl (Or.inl rfl))) (fun _ _ _ _ _ => pts_nil) (fun _ _ _ _ _ => (pe_op op_fdiv (pe_op op_mul (pe_df G_own_texts (hr.mono (by decide)) (pa_cons (pe_op op_fdiv (pv 0) (pv 3)) (pa_cons (pe_op op_fdiv (pv 1) (pv 3)) pa_nil))) (pv 3)) (pv 0)))) pa_nil))))), ?_⟩
    have div4 : (((s : Nat) : Int) / 4 + 1 - 1).toNat = s / 4 := by omega
    have mlt : ∀ n, n ≤ s / 4 → ∀ m ∈ mults s t n, 1 ≤ m ∧ m ≤ n := fun n hn m hm => by
      obtain ⟨i, hi, e⟩ := List.mem_filterMap.mp hm
      have := List.mem_range.mp hi
      split at e
      · injection e with e
        omega
      · cases e
    have mlen : ∀ n, (mults s t n).length ≤ n := fun n => Nat.le_trans (List.length_filterMap_le _ _) (by rw [List.length_range]; exact Nat.le_refl _)
    refine ⟨_, rfl, _, _, rfl, rfl, (show CDiv _ 4 from ⟨by decide, by decide⟩), _, _, rfl, rfl, _, _, rfl, ⟨by decide, by decide, by omega, by omega⟩, fun dd nD => walk_rng (fun i H' => Grow H dd ((mults s t i).map fun m => V.int ((m : Nat) : Int)) H') (Grow.start nD) ?_ ?_⟩
    · intro i H' hi g
      have hi' : i < s / 4 := by omega
      have i3 : i < 3 := by omega
      have e2 : (1 : Int) + ((i : Nat) : Int) = ((i + 1 : Nat) : Int) := by omega
      have em : ((s : Nat) : Int) % ((i + 1 : Nat) : Int) = ((s % (i + 1) : Nat) : Int) := (Int.natCast_emod _ _).symm
      have pos : (0 : Int) < ((i + 1 : Nat) : Int) := by omega
      have up : mults s t (i + 1) = mults s t i ++ (if s % (i + 1) = 0 ∧ t % ((i + 1 : Nat) : Int) = 0 then [i + 1] else []) := by
        unfold mults
        rw [List.range_succ, List.filterMap_append]
        congr 1
        rw [List.filterMap_cons, List.filterMap_nil]
        split <;> rename_i z <;> split at z <;> rename_i c
        · cases z
        · rw [if_neg c]
        · rw [if_pos c]
          injection z with z
          rw [z]
        · cases z
      rw [e2]
      refine ⟨rfl, _, rfl, _, rfl, _, _, rfl, rfl, pos, rfl, _, rfl, ?_⟩
      show if decide (V.int (((s : Nat) : Int) % ((i + 1 : Nat) : Int)) = V.int 0) = true then _ else _
      rw [em]
      by_cases c1 : s % (i + 1) = 0
      · refine iteTb (decide_eq_true (by rw [c1]; rfl)) ?_
        refine ⟨_, rfl, _, rfl, _, _, rfl, rfl, pos, rfl, _, rfl, ?_⟩
        show if decide (V.int (t % ((i + 1 : Nat) : Int)) = V.int 0) = true then _ else _
        by_cases c2 : t % ((i + 1 : Nat) : Int) = 0
        · refine iteTb (decide_eq_true (by rw [c2])) ?_
          rw [if_pos ⟨c1, c2⟩] at up
          refine ⟨_, rfl, _, g.lst, ?_, ?_⟩
          · rw [List.length_map]
            exact small1000 (Nat.le_trans (mlen i) (by omega))
          · rw [up, List.map_append]
            exact g.push
        · refine iteFb (decide_eq_false fun z => c2 (by injection z)) ?_
          rw [if_neg (fun z => c2 z.2), List.append_nil] at up
          rw [up]
          exact g
      · refine iteFb (decide_eq_false fun z => c1 (by injection z with z; omega)) (iteF ?_)
        rw [if_neg (fun z => c1 z.1), List.append_nil] at up
        rw [up]
        exact g
    · intro H' g
      rw [div4] at g
      have ld := g.lst
      have s0 := SameT.of g.same
      refine ⟨_, rfl, dd, rfl, ⟨_, SqL.of ld⟩, fun D2 hD2 => walk_list (K := K) (a := dd) ((mults s t (s / 4)).map fun m => V.int ((m : Nat) : Int)) (fun i H2 => SameT H' H2 ∧ H2 D2 = some (.lst ((((mults s t (s / 4)).take i).map fun m => ownT (s / m) (t / ((m : Nat) : Int)) * ((m : Nat) : Int) / ((s : Nat) : Int)).map V.int))) ⟨SameT.of (same_upd hD2), upd_same⟩ ?_ ?_ ?_⟩
      · rintro i H2 hi ⟨sm, _⟩
        exact SqL.of (sm _ _ ld fun kvs z => by cases z)
      · rintro i z H2 hz ⟨sm, hl2⟩
        rw [List.getElem?_map] at hz
        obtain ⟨m, hm, ez⟩ := Option.map_eq_some_iff.mp hz
        subst ez
        have mb := mlt (s / 4) (Nat.le_refl _) m (List.mem_of_getElem? hm)
        have hi : i < s / 4 := Nat.lt_of_lt_of_le (List.getElem?_eq_some_iff.mp hm).1 (mlen _)
        have pos : (0 : Int) < ((m : Nat) : Int) := by omega
        have ed : ((s : Nat) : Int) / ((m : Nat) : Int) = ((s / m : Nat) : Int) := (Int.natCast_ediv _ _).symm
        refine ⟨rfl, ?_⟩
        refine ⟨_, rfl, _, rfl, _, _, rfl, rfl, (show CDiv _ _ from ⟨pos, by omega⟩), _, rfl, _, rfl, _, _, rfl, rfl, (show CDiv _ _ from ⟨pos, by omega⟩), ?_⟩
        refine ⟨s / m, t / ((m : Nat) : Int), congrArg (fun z => [V.int z, V.int (t / ((m : Nat) : Int))]) ed, (Nat.le_div_iff_mul_le (by omega)).mpr (by omega), Nat.le_trans (Nat.div_le_self _ _) h2, fun H3 s3 => ?_⟩
        refine ⟨_, rfl, _, _, rfl, rfl, (show CMul _ _ from .inr ⟨by omega, by omega⟩), _, rfl, _, _, rfl, rfl, (show CDiv _ _ from ⟨by omega, by omega⟩), ?_⟩
        have l3 := s3 _ _ hl2 fun kvs z => by cases z
        refine ⟨_, l3, ?_, fun b o e' n' => ?_, ?_⟩
        · rw [List.length_map, List.length_map]
          exact small1000 (Nat.le_trans (List.length_take_le _ _) (by omega))
        · rw [upd_ne (ne_of_none e' (g.same.free hD2 |> fun _ => hD2))]
          exact s3 _ _ (sm _ _ e' n') n'
        · rw [upd_same, take_more hm, List.map_append, List.map_append]
          rfl
      · rintro H2 ⟨sm, hl2⟩
        rw [List.length_map, List.take_length] at hl2
        refine ⟨D2, _, rfl, SqL.of hl2, ?_⟩
        exact q _ (s0.trans sm)
def sp_count_lines : Sp := fun vs H Q _ => ∃ (s : Nat) (t : Int), vs = [.int (s : Nat), .int t] ∧ 4 ≤ s ∧ s ≤ 12 ∧ s % 2 = 0 ∧ ∀ H', SameT H H' → Q (.int (cntL s t)) H'
abbrev N_count_lines : List Str := ["strokes", "turns"]
abbrev P_count_lines : List Str := ["strokes", "turns"]
theorem sc_count_lines : FnScope N_count_lines P_count_lines (defScope s_count_lines) := ⟨rfl, rfl, rfl, by decide +kernel, rfl, by decide +kernel, by decide +kernel⟩
theorem d_count_lines (T : Tx K mg) : Df P w K mg base 20 "count_lines" P_count_lines sp_count_lines := by
  have G_need_strokes_number := d_need_strokes_number (P := P) (w := w) (base := base) T
  have G_need_whole := d_need_whole (P := P) (w := w) (base := base) T
  have G_lines_with := d_lines_with (P := P) (w := w) (base := base) T
  refine df_of T.F_count_lines sc_count_lines (fun vs H Q E h => ?_) (fun _ _ _ _ _ _ us hl => match us, hl with | [_, _], _ => rfl) (fun f cdv A outer s H vs Q E hr h => ?_)
  · obtain ⟨s, t, rfl, _⟩ := h
    rfl
  · obtain ⟨s, t, rfl, h1, h2, h3, q⟩ := h
    refine ⟨_, (pss_cons (ps_expr (pe_df G_need_strokes_number (hr.mono (by decide)) (pa_cons (pv 0) pa_nil)))
      (pss_cons (ps_expr (pe_df G_need_whole (hr.mono (by decide)) (pa_cons (pv 1) pa_nil)))
      (pss_one (ps_ret (pe_ifExp (pt_cmpR op_le (pe_callB call_abs (by rfl) T.n_abs (by decide +kernel) (pa_cons (pv 1) pa_nil)) (pv 0) (nomark _)) (pe_df G_lines_with (hr.mono (by decide)) (pa_cons (pv 0) (pa_cons (pv 1) pa_nil))) pe_int))))), ?_⟩
    refine ⟨_, rfl, s, rfl, by omega, by omega, by omega, ?_⟩
    refine ⟨_, rfl, t, rfl, ?_⟩
    refine ⟨_, rfl, _, rfl, _, rfl, _, _, rfl, rfl, _, rfl, ?_⟩
    by_cases c : t.natAbs ≤ s
    · refine iteTb (decide_eq_true (by split <;> omega)) ?_
      refine ⟨_, rfl, _, rfl, s, t, rfl, h1, h2, fun H' s' => ?_⟩
      have z := q H' s'
      unfold cntL at z
      rw [if_pos c] at z
      exact z
    · refine iteFb (decide_eq_false (by split <;> omega)) ?_
      have z := q H SameT.refl
      unfold cntL at z
      rw [if_neg c] at z
      exact z
/-! ### period -/
def sp_period (K : PySem.W.Frag) : Sp := fun vs H Q _ => ∃ (x : Addr) (l : List D) (p : Nat), vs = [.ref x] ∧ LineAt K H x l ∧ l.length ≤ 1000 ∧ (pers l)[0]? = some p ∧ ∀ H', Same H H' → Q (.int (p : Nat)) H'
abbrev N_period : List Str := ["line", "text", "many"]
abbrev P_period : List Str := ["line"]
theorem sc_period : FnScope N_period P_period (defScope s_period) := ⟨rfl, rfl, rfl, by decide +kernel, rfl, by decide +kernel, by decide +kernel⟩
theorem d_period (T : Tx K mg) : Df P w K mg base 2 "period" P_period (sp_period K) := by
  refine df_of T.F_period sc_period (fun vs H Q E h => ?_) (fun _ _ _ _ _ _ us hl => match us, hl with | [_], _ => rfl) (fun f cdv A outer s H vs Q E hr h => ?_)
  · obtain ⟨x, l, p, rfl, _⟩ := h
    rfl
  · obtain ⟨x, l, p, rfl, hL, hl, hp, q⟩ := h
    have hz : (tx l).length ≤ sizeLine := by rw [tx_len]; exact Nat.le_of_lt (small1000 hl)
    obtain ⟨dx, hs⟩ := hL.slt
    refine ⟨_, (pss_cons (ps_set (i := 1) sc_period.nd rfl (Or.inr rfl) (pe_sl (pv 0)))
      (pss_one (ps_ret (pe_ix (ix_listK (K := K) rfl) (pe_lc (own := [("many", 2)]) (g := gName 2) rfl sc_period.nd (pi_range2 (by rfl) T.n_range (pa_cons pe_int (pa_cons (pe_op op_add (pe_callB call_len_str (by rfl) T.n_len (by decide +kernel) (pa_cons (pv 1) pa_nil)) pe_int) pa_nil))) (blkOk_by (N := N_period) (sc := defScope s_period) (by decide +kernel)) (fun _ _ _ _ _ => (pg_name (i := 2) sc_period.nd rfl (Or.inl rfl))) (fun _ _ _ _ _ => pts_one (pt_cmpR op_eq (pe_op op_add_str (pe_slice sl_str (pv 1) (po_some (pv 2)) po_none) (pe_slice sl_str (pv 1) po_none (po_some (pv 2)))) (pv 1) (nomark _))) (fun _ _ _ _ _ => (pv 2))) pe_int (fun _ _ => rfl))))), ?_⟩
    have per_up : ∀ i, ((List.range (i + 1)).filterMap fun i => if rot l (i + 1) = l then some (i + 1) else none) = ((List.range i).filterMap fun i => if rot l (i + 1) = l then some (i + 1) else none) ++ (if rot l (i + 1) = l then [i + 1] else []) := fun i => by
      rw [List.range_succ, List.filterMap_append]
      congr 1
      rw [List.filterMap_cons, List.filterMap_nil]
      split <;> rename_i z <;> split at z <;> rename_i c
      · cases z
      · rw [if_neg c]
      · rw [if_pos c]
        injection z with z
        rw [z]
      · cases z
    have plen : ∀ n, ((List.range n).filterMap fun i => if rot l (i + 1) = l then some (i + 1) else none).length ≤ n := fun n => Nat.le_trans (List.length_filterMap_le _ _) (by rw [List.length_range]; exact Nat.le_refl _)
    have hc : ∀ k : Nat, (tx (l.drop k)).length + (tx (l.take k)).length ≤ sizeLine := fun k => by
      rw [tx_len, tx_len, List.length_drop, List.length_take]
      exact Nat.le_of_lt (small1000 (by omega))
    have ll : (((tx l).length : Int) + 1 - 1).toNat = l.length := by rw [tx_len]; omega
    refine ⟨_, rfl, x, _, dx, _, _, 0, _, rfl, hs, T.L_cls, T.L_slot, rfl, ?_⟩
    refine ⟨_, rfl, _, rfl, hz, _, _, rfl, rfl, _, _, rfl, ⟨by decide, by decide, by rw [tx_len]; omega, by rw [tx_len]; omega⟩, fun dd nD => walk_rng (fun i H' => Grow H dd (((List.range i).filterMap fun i => if rot l (i + 1) = l then some (i + 1) else none).map fun m => V.int ((m : Nat) : Int)) H') (Grow.start nD) ?_ ?_⟩
    · intro i H' hi g
      have hi' : i < l.length := by omega
      have e2 : (1 : Int) + ((i : Nat) : Int) = ((i + 1 : Nat) : Int) := by omega
      rw [e2]
      refine ⟨rfl, _, rfl, _, rfl, _, rfl, _, rfl, hz, _, rfl, _, rfl, _, rfl, _, rfl, hz, _, _, rfl, rfl, ?_, ?_⟩
      · rw [cut_from, cut_to]
        exact hc _
      rw [cut_from, cut_to, tx_app']
      refine ⟨_, rfl, rfl, _, rfl, ?_⟩
      show if decide (V.str (tx (rot l (i + 1))) = V.str (tx l)) = true then _ else _
      rw [tx_dec]
      have up := per_up i
      by_cases c : rot l (i + 1) = l
      · refine iteTb (decide_eq_true c) ?_
        rw [if_pos c] at up
        refine ⟨_, rfl, _, g.lst, ?_, ?_⟩
        · rw [List.length_map]
          exact small1000 (Nat.le_trans (plen i) (by omega))
        · rw [up, List.map_append]
          exact g.push
      · refine iteFb (decide_eq_false c) ?_
        rw [if_neg c, List.append_nil] at up
        rw [up]
        exact g
    · intro H' g
      rw [ll] at g
      refine ⟨dd, _, _, .int (p : Nat), rfl, rfl, SqL.of g.lst, ?_, ?_⟩
      · have z : ((pers l).map fun m => V.int ((m : Nat) : Int))[0]? = some (.int (p : Nat)) := by rw [List.getElem?_map, hp]; rfl
        exact atI_nat z
      · exact q H' g.same
end
end K51

end K51Cg_text
section KqGenS_text
set_option Elab.async false
set_option linter.all false
set_option maxRecDepth 100000
set_option maxHeartbeats 4000000
/-! A generator def's statements -/
namespace KQ
open PySem PySem.Spec PyProof.Rows L2
/-! ### the same state, nobody to be woken -/
section
variable {X : Cx} {pins : List (Addr × Obj)} {σ : L2.St} {H : Hp} {s s1 s' : Shared}
theorem bare_stuck : AllBare (stuckS s).gens := by
  intro x hx
  obtain ⟨y, _, e⟩ := Array.mem_map.mp (show x ∈ s.gens.map stuckG from hx)
  rw [← e]
  exact stuckG_bare y
theorem inv_stuck (I : Inv X pins σ H s) : Inv X pins σ H (stuckS s) := ⟨I.ok, I.os, bare_stuck, I.base, I.loc, I.cell, I.free, I.freeC, I.pin, I.hok, I.len⟩
theorem woke_heap (k : Woke s s1 s') : s'.heap = s1.heap ∧ s'.os = s1.os := by
  have e := k.eq
  constructor
  · rw [e]; rfl
  · rw [e]; rfl
theorem woke_bare (k : Woke s s1 s') (b : AllBare s.gens) (b1 : AllBare s1.gens) : AllBare s'.gens := by
  intro x hx
  obtain ⟨i, hi, e⟩ := Array.mem_iff_getElem.mp hx
  rcases k.new i x (by rw [Array.getElem?_eq_getElem hi, e]) with ⟨e1, _⟩ | ⟨y, e1, rfl⟩
  · exact b x (Array.mem_of_getElem? e1)
  · rw [vG_bare]
    exact b1 y (Array.mem_of_getElem? e1)
theorem inv_woke {σ' : L2.St} {H' : Hp} (b : AllBare s.gens) (I : Inv X pins σ' H' s1) (k : Woke s s1 s') : Inv X pins σ' H' s' := by
  have hb := woke_bare k b I.bare
  have e := k.eq
  generalize s'.gens = g at e hb
  subst e
  exact ⟨I.ok, I.os, hb, I.base, I.loc, I.cell, I.free, I.freeC, I.pin, I.hok, I.len⟩
end
theorem grel_woke {a : Array GenState} {gz0 gz : Gz} {s s1 s' : Shared} (r : GRel a s.gens gz0 gz) (b1 : AllBare s1.gens) (k : Woke s s1 s') : GRel a s'.gens gz0 gz := by
  refine ⟨Nat.le_trans r.size k.size, fun i y e hy hn => k.kept i y (r.kept i y e hy hn) hy, fun i y e hm => ?_⟩
  rcases k.new i y e with ⟨e1, _⟩ | ⟨y1, e1, rfl⟩
  · exact r.mark i y e1 hm
  · rw [vG_unmarked (b1 y1 (Array.mem_of_getElem? e1))] at hm
    cases hm
section
variable {d : Gd} {Fin : Hp → Prop} {s0 : Shared} {H0 : Hp} {pn : List (Addr × Obj)} {gz0 : Gz} {ip : List (Addr × Obj)} {gz : Gz} {σ : L2.St} {H : Hp} {s : Shared}
theorem gs_woke {σ' : L2.St} {H' : Hp} {s1 s' : Shared} (g : Gs d s0 H0 pn gz0 ip gz σ H s) (I : Inv (d.cx s0 H0 pn) ip σ' H' s1) (k : Woke s s1 s') : Gs d s0 H0 pn gz0 ip gz σ' H' s' :=
  ⟨inv_woke g.inv.bare I k, g.dis, fun q hq => ⟨k.kept q.1 q.2 (g.gens q hq).1 (g.gens q hq).2.1, (g.gens q hq).2⟩, grel_woke g.gr I.bare k, g.lt, g.num, g.os⟩
end
/-- what is wanted behind a statement; the items still to come, the tracked objects at the waking -/
structure GE where
  nx : List Item → Hp → L2.St → Hp → Prop
  rt : List Item → Hp → VK
  bk : List Item → Hp → L2.St → Hp → Prop := fun _ _ _ _ => False
  ct : List Item → Hp → L2.St → Hp → Prop := fun _ _ _ _ => False
def GE.at (D : GE) (its : List Item) (Hw : Hp) : Ends := { nx := D.nx its Hw, rt := D.rt its Hw, bk := D.bk its Hw, ct := D.ct its Hw }
abbrev TG2 := GE → List Item → Hp → L2.St → Hp → Prop
def GPost (d : Gd) (D : GE) (its : List Item) (s0 : Shared) (H0 : Hp) (pn : List (Addr × Obj)) (gz0 : Gz) (ip : List (Addr × Obj)) (gz : Gz) (f : Flow) (s : Shared) : Prop := match f with
  | .next => ∃ σ H, Gs d s0 H0 pn gz0 ip gz σ H s ∧ D.nx its H0 σ H
  | .brk => ∃ σ H, Gs d s0 H0 pn gz0 ip gz σ H s ∧ D.bk its H0 σ H
  | .cont => ∃ σ H, Gs d s0 H0 pn gz0 ip gz σ H s ∧ D.ct its H0 σ H
  | .ret u => ∃ v σ H, Gs d s0 H0 pn gz0 ip gz σ H s ∧ RelV v u ∧ D.rt its H0 v H
/-- where the code stands -/
structure GC2 (d : Gd) (c : Code) (fs : List Frame) (gd : Bool → Bool) : Prop where
  over : d.A.over c fs = d.A.deeper d.env
  split : splitAtGen fs = none
  guard : fs.any Frame.guarded = false
  gd : gd false = false
abbrev Run2 (d : Gd) (Fin : Hp → Prop) (its : List Item) (s0 : Shared) (H0 : Hp) (pn : List (Addr × Obj)) (gz0 : Gz) := SegP (M2 d.prog d.w) d.A (Phi d Fin its gz0 s0 H0 pn)
/-- what follows -/
abbrev GK2 (d : Gd) (Fin : Hp → Prop) (ip : List (Addr × Obj)) (gz : Gz) (c : Code) (fs : List Frame) (K : Flow → Sem PySem.Fin) (D : GE) : Prop :=
  ∀ its s0 H0 pn gz0 f s, GPost d D its s0 H0 pn gz0 ip gz f s → Run2 d Fin its s0 H0 pn gz0 c (K f) fs s
structure GT (d : Gd) (st : Stmt) (t : TG2) : Prop where
  run : ∀ Fin its s0 H0 pn gz0 ip gz σ H s c fs K J gd lv (D : GE), GC2 d c fs gd → GK2 d Fin ip gz c fs K D → Gs d s0 H0 pn gz0 ip gz σ H s → t D its H0 σ H →
    Run2 d Fin its s0 H0 pn gz0 c ((exec st d.env).wrap K J gd lv) fs s
structure GTs (d : Gd) (st : List Stmt) (t : TG2) : Prop where
  run : ∀ Fin its s0 H0 pn gz0 ip gz σ H s c fs K J gd lv (D : GE), GC2 d c fs gd → GK2 d Fin ip gz c fs K D → Gs d s0 H0 pn gz0 ip gz σ H s → t D its H0 σ H →
    Run2 d Fin its s0 H0 pn gz0 c ((execs st d.env).wrap K J gd lv) fs s
section
variable {d : Gd} {st : Stmt} {rest : List Stmt}
def gP (t : TS) : TG2 := fun D its Hw σ H => t (D.at its Hw) σ H
theorem gpost_of {D : GE} {its : List Item} {s0 : Shared} {H0 : Hp} {pn : List (Addr × Obj)} {gz0 : Gz} {ip : List (Addr × Obj)} {gz : Gz} {σ : L2.St} {H : Hp} {s s1 s' : Shared} {f : Flow} (g : Gs d s0 H0 pn gz0 ip gz σ H s) (k : Woke s s1 s')
    (h : SP (d.cx s0 H0 pn) ip (D.at its H0) f s1) : GPost d D its s0 H0 pn gz0 ip gz f s' := by
  cases f with
  | next => obtain ⟨σ', H', I, q⟩ := h; exact ⟨σ', H', gs_woke g I k, q⟩
  | brk => obtain ⟨σ', H', I, q⟩ := h; exact ⟨σ', H', gs_woke g I k, q⟩
  | cont => obtain ⟨σ', H', I, q⟩ := h; exact ⟨σ', H', gs_woke g I k, q⟩
  | ret u => obtain ⟨v, σ', H', I, r, q⟩ := h; exact ⟨v, σ', H', gs_woke g I k, r, q⟩
/-- a statement that hands out nothing -/
theorem gt_ps {t : TS} (h : ∀ s0 H0 pn, PS (d.cx s0 H0 pn) st t) : GT d st (gP t) := by
  refine ⟨fun Fin its s0 H0 pn gz0 ip gz σ H s c fs K J gd lv D gc k g ht => ?_⟩
  refine sp_wrap ?_
  rw [gc.over]
  exact wpAny_mono (wpAny_use ((h s0 H0 pn).run ip (stuckS s) σ H (D.at its H0) (inv_stuck g.inv) ht)) (fun f s' ⟨s1, wk, q⟩ => k its s0 H0 pn gz0 f s' (gpost_of g wk q)) fun x s2 ⟨_, _, z⟩ => (show False from z).elim
theorem gts_pss {t : TS} (h : ∀ s0 H0 pn, PSs (d.cx s0 H0 pn) rest t) : GTs d rest (gP t) := by
  refine ⟨fun Fin its s0 H0 pn gz0 ip gz σ H s c fs K J gd lv D gc k g ht => ?_⟩
  refine sp_wrap ?_
  rw [gc.over]
  exact wpAny_mono (wpAny_use ((h s0 H0 pn).run ip (stuckS s) σ H (D.at its H0) (inv_stuck g.inv) ht)) (fun f s' ⟨s1, wk, q⟩ => k its s0 H0 pn gz0 f s' (gpost_of g wk q)) fun x s2 ⟨_, _, z⟩ => (show False from z).elim
def gNil : TG2 := fun D its Hw σ H => D.nx its Hw σ H
theorem gts_nil : GTs d [] gNil := by
  refine ⟨fun Fin its s0 H0 pn gz0 ip gz σ H s c fs K J gd lv D gc k g ht => ?_⟩
  exact k its s0 H0 pn gz0 .next s ⟨σ, H, g, ht⟩
def gThen (t u : TG2) : TG2 := fun D its Hw σ H => t { D with nx := u D } its Hw σ H
theorem gts_cons {t u : TG2} (a : GT d st t) (b : GTs d rest u) : GTs d (st :: rest) (gThen t u) := by
  refine ⟨fun Fin its s0 H0 pn gz0 ip gz σ H s c fs K J gd lv D gc k g ht => ?_⟩
  rw [execs_cons_wrap]
  refine a.run Fin its s0 H0 pn gz0 ip gz σ H s c fs _ J gd lv { D with nx := u D } gc (fun its' s0' H0' pn' gz0' f s' hp => ?_) g ht
  cases f with
  | next =>
    obtain ⟨σ', H', g', q⟩ := hp
    exact b.run Fin its' s0' H0' pn' gz0' ip gz σ' H' s' c fs K J gd lv D gc k g' q
  | brk => exact k its' s0' H0' pn' gz0' .brk s' hp
  | cont => exact k its' s0' H0' pn' gz0' .cont s' hp
  | ret u => exact k its' s0' H0' pn' gz0' (.ret u) s' hp
theorem gts_one {t : TG2} (a : GT d st t) : GTs d [st] t := by
  have h := gts_cons a (gts_nil (d := d))
  exact ⟨fun Fin its s0 H0 pn gz0 ip gz σ H s c fs K J gd lv D gc k g ht => h.run Fin its s0 H0 pn gz0 ip gz σ H s c fs K J gd lv D gc k g ht⟩
/-! ### if -/
def gIf (c : TT) (t u : TG2) : TG2 := fun D its Hw σ H => c σ H fun b H1 => if b = true then t D its Hw σ H1 else u D its Hw σ H1
theorem gt_if {test : Expr} {body orelse : List Stmt} {pos : Pos} {tc : TT} {t u : TG2} (hc : ∀ s0 H0 pn, PT (d.cx s0 H0 pn) test tc) (hb : GTs d body t) (ho : GTs d orelse u) : GT d (.If test body orelse pos) (gIf tc t u) := by
  refine ⟨fun Fin its s0 H0 pn gz0 ip gz σ H s c fs K J gd lv D gc k g ht => ?_⟩
  rw [exec_If]
  refine sp_bindw (wpAny_standAt ?_)
  refine sp_bindw ?_
  rw [gc.over]
  refine wpAny_mono (wpAny_use ((hc s0 H0 pn).run ip (stuckS s) σ H _ (inv_stuck g.inv) ht)) (fun b s' ⟨s1, wk, H1, I1, q⟩ => ?_) fun x s2 ⟨_, _, z⟩ => (show False from z).elim
  have g' := gs_woke g I1 wk
  cases b with
  | true =>
    rw [if_pos rfl] at q ⊢
    exact hb.run Fin its s0 H0 pn gz0 ip gz σ H1 s' c fs K J gd lv D gc k g' q
  | false =>
    rw [if_neg Bool.false_ne_true] at q ⊢
    exact ho.run Fin its s0 H0 pn gz0 ip gz σ H1 s' c fs K J gd lv D gc k g' q
/-! ### yield -/
/-- x is handed out; the generator sleeps, and is woken with all that is tracked as it was -/
def gYield (te : TE) : TG2 := fun D its Hw σ H => te σ H fun x H1 => ∃ it r, its = it :: r ∧ it x H1 ∧ SameT Hw H1 ∧ ∀ H2, Same H1 H2 → D.nx r H2 σ H2
theorem gt_yield {e : Expr} {yp pos : Pos} {te : TE} (ok : d.Ok) (he : ∀ s0 H0 pn, PE (d.cx s0 H0 pn) e te) (hco : d.env.scope.isCoroutine = false) (hi : interactive d.env = false) : GT d (.Expr (.Yield (some e) yp) pos) (gYield te) := by
  refine ⟨fun Fin its s0 H0 pn gz0 ip gz σ H s c fs K J gd lv D gc k g ht => ?_⟩
  rw [exec_Expr d.env _ pos hi rfl]
  refine sp_bindw (wpAny_standAt ?_)
  show SegP _ _ _ _ (Sem.wrap K J gd lv ((eval e d.env >>= fun v => standAt yp >>= fun _ => yieldOut d.env v) >>= fun x => dropValue (.Yield (some e) yp) pos x)) _ _
  refine sp_bindw2 ?_
  rw [gc.over]
  refine wpAny_mono (wpAny_use ((he s0 H0 pn).run ip (stuckS s) σ H _ (inv_stuck g.inv) ht)) (fun v s' ⟨s1, wk, x, H1, I1, rx, it, r, e1, hx, hsame, q⟩ => ?_) fun x s2 ⟨_, _, z⟩ => (show False from z).elim
  subst e1
  have g' := gs_woke g I1 wk
  refine sp_bindw (wpAny_standAt ?_)
  have hy : yieldOut d.env v = yieldValue v := by
    unfold yieldOut
    rw [hco]
    rfl
  rw [hy]
  obtain ⟨m, ⟨oL, es, ep, eL, nr⟩, hl⟩ := g'.inv.loc
  have eL : s'.heap.get? d.env.locals = some oL := eL
  have hcell : ∀ v, oL.data ≠ .cell v := fun v z => by rw [nr.1] at z; cases z
  have fr : H1 d.env.locals = none := g'.inv.free
  have lmem : ∀ q ∈ pn, q.1 ≠ d.env.locals := fun q hq => (g'.inv.pin q (List.mem_append_left _ hq)).2.2.1
  have hgd : gd false = false := gc.gd
  show SegP _ _ _ _ (Sem.yield v (gd false) (lv []) _) _ _
  rw [hgd]
  refine sp_yield gc.split fun p => ?_
  refine ⟨?_, v, false, _, _, c, p, fs, rfl, x, H1, (d.env.locals, oL) :: ip, gz, rx, hx, g'.after, g'.gr, hsame, ?_, g'.gens, ?_⟩
  · show (!(false || fs.any Frame.guarded)) = true
    rw [gc.guard]
    rfl
  · intro p hp
    rcases List.mem_cons.mp hp with hp | hp
    · rw [hp]
      exact ⟨eL, fr, hcell, Nat.le_refl _, lmem⟩
    · obtain ⟨a1, a2, a3, a4, a5⟩ := g'.inv.pin p (List.mem_append_right _ hp)
      exact ⟨a1, a2, a5, (g'.dis p hp).2, (g'.dis p hp).1⟩
  · rw [sleep_iff]
    intro s2 H2 pn2 w
    have g2 := gs_wake ok g'.inv eL (fun p hp => (g'.dis p hp).2) (fun q hq => ⟨(g'.gens q hq).2.1, (g'.gens q hq).2.2.1⟩) w
    exact k r s2 H2 pn2 gz .next s2 ⟨σ, H2, g2, q H2 w.rel⟩
/-! ### for -/
def gFor (wi : TI) (g : TG) (tb : TG2) : TG2 := fun D its Hw σ H => wi σ H fun J H1 => ∃ W : Nat → Nat → List Item → Hp → L2.St → Hp → Prop, (∃ m, W 0 m its Hw σ H1) ∧ ∀ i m its Hw σ H, W i m its Hw σ H →
  (J.stop i H ∧ D.nx its Hw σ H) ∨ (J.go i H ∧ ∃ N : List Item → Hp → L2.St → Hp → Prop, (∀ its' Hw' σ' H', N its' Hw' σ' H' → ∃ m', m' < m ∧ W (i + 1) m' its' Hw' σ' H') ∧
    ∀ x H', J.yld i H x H' → g x σ H' fun σ2 H2 => tb { D with nx := N, ct := N, bk := D.nx } its Hw σ2 H2)
theorem den_for {prog : Program} {w : World} {tg : Expr} {it : Value} {body orelse : List Stmt} {env : Env} : (M2 prog w).den (.forLoop tg it body orelse env) = (forTurn tg it body orelse env).onRaise (fun x => do noteFrame x env; theTreesLotGoes x) := rfl
theorem den_block {prog : Program} {w : World} {env : Env} : (M2 prog w).den (.block [] env) = (do return Fin.done (← (execs [] env).onRaise (fun x => do noteFrame x env; theTreesLotGoes x))) := rfl
theorem gc_loop2 {c c' : Code} {fs : List Frame} {gd : Bool → Bool} {k : Result → Sem PySem.Fin} {l kp : List Value} {p : Pos} (g : GC2 d c fs gd) (hw : c'.weight = 0) (hu : c'.cUnits = 0) : GC2 d c' (.ret k none (gd false) l c p kp :: fs) id where
  over := (GenW.over_loop hw hu).trans g.over
  split := by
    show (splitAtGen fs).map _ = none
    rw [g.split]
    rfl
  guard := by
    show (gd false || fs.any Frame.guarded) = false
    rw [g.gd, g.guard]
    rfl
  gd := rfl
def loopK (tg : Expr) (it : Value) (body : List Stmt) (env : Env) : Flow → Sem PySem.Fin
  | .next | .cont => .pure (.again (.forLoop tg it body [] env))
  | .brk => .pure (.done .next)
  | .ret v => .pure (.done (.ret v))
/-- one turn of a for loop -/
theorem sp_turn {M : Model} {A : Around} {z : End → Shared → Prop} {fs : List Frame} {s : Shared} {tg : Expr} {it : Value} {body : List Stmt} {env : Env} {c : Code} {J : Value → Sem PySem.Fin}
    (h : wpAny M (A.over c fs) (pyNext it) (fun r s1 => match r with
      | none => SegP M A z c (.pure (.again (.block [] env))) fs s1
      | some v => wpAny M (A.over c fs) (letOwnedTupleGo tg it v) (fun _ s2 => wpAny M (A.over c fs) (assign tg env v) (fun _ s3 => SegP M A z c ((execs body env).wrap (loopK tg it body env) J id id) fs s3)
          (fun _ _ => False) s2) (fun _ _ => False) s1) (fun _ _ => False) s) :
    SegP M A z c ((forTurn tg it body [] env).wrap .pure J id id) fs s := by
  unfold forTurn
  refine sp_bindw (wpAny_standAt ?_)
  refine sp_bindw (wpAny_onRaise (wpAny_mono h (fun r s1 h1 => ?_) fun _ _ x => x.elim))
  cases r with
  | none => exact h1
  | some v =>
    refine sp_bindw (wpAny_mono h1 (fun _ s2 h2 => ?_) fun _ _ x => x.elim)
    refine sp_bindw (wpAny_mono h2 (fun _ s3 h3 => ?_) fun _ _ x => x.elim)
    rw [Sem.bind_eq_wrap', Sem.wrap_wrap]
    exact (congrArg (fun t => SegP M A z c t fs s3) (Sem.wrap_congr (execs body env) (fun g => id (id g)) (fun l => id (id l)) (K' := loopK tg it body env) (H' := J) (fun f => by cases f <;> rfl) (fun e => rfl))).mpr h3
/-- behind the last turn -/
theorem sp_block {prog : Program} {w : World} {A : Around} {z : End → Shared → Prop} {fs : List Frame} {s : Shared} {env : Env} {c : Code} (h : SegP (M2 prog w) A z (.block [] env) (.pure (.done .next)) fs s) : SegP (M2 prog w) A z c (.pure (.again (.block [] env))) fs s :=
  sp_again rfl h
/-- a loop's code, from the statement's run -/
theorem sp_own {prog : Program} {w : World} {A : Around} {z : End → Shared → Prop} {fs : List Frame} {s : Shared} {env : Env} {c c' : Code} {K : Flow → Sem PySem.Fin} {J : Value → Sem PySem.Fin} {gd : Bool → Bool} {lv : List Value → List Value}
    (h : ∀ p (k : Result → Sem PySem.Fin), (∀ f, k (.ok f) = K f) → SegP (M2 prog w) A z c' ((M2 prog w).den c') (.ret k none (gd false) (lv []) c p [] :: fs) s) : SegP (M2 prog w) A z c ((runOwn c' env).wrap K J gd lv) fs s :=
  sp_call fun p => h p _ fun f => rfl
theorem gt_for {tg iter : Expr} {body : List Stmt} {wi : TI} {g : TG} {tb : TG2} {pos : Pos} (hi : ∀ s0 H0 pn, PI (d.cx s0 H0 pn) tg iter wi) (hg : ∀ s0 H0 pn, PG (d.cx s0 H0 pn) tg g) (hb : GTs d body tb)
    (hs : ∀ x, foldedSetIterable iter d.env x = pure x) : GT d (.For tg iter body [] pos) (gFor wi g tb) := by
  refine ⟨fun Fin its s0 H0 pn gz0 ip gz σ H s c fs K J gd lv D gc k gs ht => ?_⟩
  rw [exec_For]
  refine sp_bindw (wpAny_standAt ?_)
  refine sp_bindw ?_
  rw [gc.over]
  refine wpAny_mono (wpAny_go (lk_stuck s) ((hi s0 H0 pn).run ip (stuckS s) σ H _ (inv_stuck gs.inv) ht)) (fun v s' ⟨s1, lk, h1⟩ => ?_) fun x s2 ⟨_, _, z⟩ => (show False from z).elim
  refine sp_bindw (wpAny_of_eq (hs v) ?_)
  refine sp_bindw (wpAny_standAt ?_)
  refine sp_bindw (wpAny_holding ?_)
  rw [gc.over]
  refine wpAny_mono (wpAny_go lk h1) (fun itv s2 ⟨s3, lk3, it, fp, tn, Jt, H2, e, I2, T, st2, f2, W, ⟨m0, w0⟩, turn⟩ => ?_) fun x s2 ⟨_, _, z⟩ => (show False from z).elim
  subst e
  have g2 := gs_woke gs I2 lk3.woke
  have hh := (woke_heap lk3.woke).1
  rw [← hh] at st2
  have cs : (cutS d.env.locals s0).heap.objs.size = d.env.locals := by
    show (cutH d.env.locals s0.heap).objs.size = _
    rw [cut_size]
    exact Nat.min_eq_left (Nat.le_of_lt gs.lt)
  have low : ∀ b ∈ fp, b ≠ d.env.locals ∧ b ∉ frs d.outer ∧ d.env.locals ≤ b ∧ (∀ x c, d.env.cells.lookup x = some c → c ≠ b) ∧ ∀ p ∈ ip, p.1 ≠ b := fun b hb => by
    obtain ⟨_, f1, f3, f4, f5, f6⟩ := f2 b hb
    refine ⟨f1, f3, ?_, f5, fun p hp => f6 p (List.mem_append_right _ hp)⟩
    rcases f4 with z | z
    · exact absurd (show b ∈ ([] : List Addr) from z) (by simp)
    · have z : (cutS d.env.locals s0).heap.objs.size ≤ b := z
      rw [cs] at z
      exact z
  have stat : ∀ {s0' : Shared} {H0' : Hp} {pn' : List (Addr × Obj)} {H' : Hp}, d.env.locals < s0'.heap.objs.size → (∀ b ∈ fp, H' b = none) → (∀ b ∈ fp, ∀ q ∈ pn', q.1 ≠ b) → ∀ b ∈ fp, FpOk (d.cx s0' H0' pn') ip H' b := by
    intro s0' H0' pn' H' hl hn hp b hb
    obtain ⟨l1, l2, l3, l4, l5⟩ := low b hb
    refine ⟨hn b hb, l1, l2, .inr ?_, l4, fun p q => ?_⟩
    · show (cutH d.env.locals s0'.heap).objs.size ≤ b
      rw [cut_size]
      exact Nat.le_trans (Nat.min_le_left _ _) l3
    · rcases List.mem_append.mp q with q | q
      · exact hp b hb p q
      · exact l5 p q
  refine sp_own fun p0 kk hkk => ?_
  have gl := gc_loop2 (k := kk) (c' := .forLoop tg (.ref it) body [] d.env) (l := lv []) (kp := []) (p := p0) gc rfl rfl
  have leave : ∀ {f : Flow} {its' s0' H0' pn' gz0' s'}, GPost d D its' s0' H0' pn' gz0' ip gz f s' → ∀ c2, Run2 d Fin its' s0' H0' pn' gz0' c2 (.pure (.done f)) (.ret kk none (gd false) (lv []) c p0 [] :: fs) s' := fun {f its' s0' H0' pn' gz0' s'} q c2 =>
    sp_leaf (.ok f) (by rw [hkk]; exact k its' s0' H0' pn' gz0' f s' q)
  have loop : ∀ n its s0 H0 pn gz0 i σ H s, W i n its H0 σ H → Gs d s0 H0 pn gz0 ip gz σ H s → tn i s.heap → (∀ b ∈ fp, H b = none) → (∀ b ∈ fp, ∀ q ∈ pn, q.1 ≠ b) →
      Run2 d Fin its s0 H0 pn gz0 (.forLoop tg (.ref it) body [] d.env) ((M2 d.prog d.w).den (.forLoop tg (.ref it) body [] d.env)) (.ret kk none (gd false) (lv []) c p0 [] :: fs) s := by
    intro n
    induction n using Nat.strongRecOn with
    | ind n ih =>
      intro its s0 H0 pn gz0 i σ H s wi3 gs3 st3 fr3 pf3
      rw [den_for, Sem.onRaise_eq_wrap]
      refine sp_turn ?_
      rw [gl.over]
      have ss := stat (H0' := H0) gs3.lt fr3 pf3
      rcases turn i n its H0 σ H wi3 with ⟨stop, qn⟩ | ⟨go, N, hN, step⟩
      · refine wpAny_mono (wpAny_use (T.done (d.cx s0 H0 pn) rfl rfl rfl rfl i ip (stuckS s) σ H (fun _ _ => False) (inv_stuck gs3.inv) ss st3 stop)) (fun r s4 ⟨s5, wk, hr, I5⟩ => ?_) fun _ _ ⟨_, _, z⟩ => (show False from z).elim
        subst hr
        exact sp_block (leave (f := .next) ⟨σ, H, gs_woke gs3 I5 wk, qn⟩ _)
      · refine wpAny_mono (wpAny_go (lk_stuck s) (T.item (d.cx s0 H0 pn) rfl rfl rfl rfl i ip (stuckS s) σ H (fun _ _ => False) (inv_stuck gs3.inv) ss st3 go)) (fun r s4 ⟨s5, lk, u, hr, h5⟩ => ?_) fun _ _ ⟨_, _, z⟩ => (show False from z).elim
        subst hr
        refine wpAny_mono (wpAny_go lk h5) (fun _ s6 ⟨s7, lk7, x, H7, I7, r7, y7, st7, fr7⟩ => ?_) fun _ _ ⟨_, _, z⟩ => (show False from z).elim
        have ss7 := stat (H0' := H0) gs3.lt fr7 pf3
        have I7' := I7.pinned ss7 (T.obj _ _ st7)
        refine wpAny_mono (wpAny_go lk7 ((hg s0 H0 pn).run _ s7 σ H7 x u _ I7' r7 (step x H7 y7))) (fun _ s8 ⟨s9, lk9, σ9, H9, I9, q9⟩ => ?_) fun _ _ ⟨_, _, z⟩ => (show False from z).elim
        have g9 : Gs d s0 H0 pn gz0 (ip ++ pinsAt fp s7.heap) gz σ9 H9 s8 := by
          refine ⟨inv_woke gs3.inv.bare I9 lk9.woke, fun p hp => ?_, fun q hq => ⟨lk9.woke.kept q.1 q.2 (gs3.gens q hq).1 (gs3.gens q hq).2.1, (gs3.gens q hq).2⟩, grel_woke gs3.gr I9.bare lk9.woke, gs3.lt, gs3.num, gs3.os⟩
          rcases List.mem_append.mp hp with hp | hp
          · exact gs3.dis p hp
          · have hb := (of_pinsAt hp).1
            exact ⟨pf3 p.1 hb, (low p.1 hb).2.2.1⟩
        have back : ∀ {s0' H0' pn' gz0' σ' H' s'}, Gs d s0' H0' pn' gz0' (ip ++ pinsAt fp s7.heap) gz σ' H' s' → Gs d s0' H0' pn' gz0' ip gz σ' H' s' := fun {s0' H0' pn' gz0' σ' H' s'} g' =>
          ⟨g'.inv.unpinned, fun p hp => g'.dis p (List.mem_append_left _ hp), g'.gens, g'.gr, g'.lt, g'.num, g'.os⟩
        have again : ∀ {its' s0' H0' pn' gz0' σ' H' s'}, Gs d s0' H0' pn' gz0' (ip ++ pinsAt fp s7.heap) gz σ' H' s' → N its' H0' σ' H' → ∀ c2, Run2 d Fin its' s0' H0' pn' gz0' c2 (.pure (.again (.forLoop tg (.ref it) body [] d.env))) (.ret kk none (gd false) (lv []) c p0 [] :: fs) s' := by
          intro its' s0' H0' pn' gz0' σ' H' s' g' n' c2
          obtain ⟨m', hm, w'⟩ := hN its' H0' σ' H' n'
          have at_ : ∀ b ∈ fp, ∃ o, s7.heap.get? b = some o ∧ (b, o) ∈ ip ++ pinsAt fp s7.heap := fun b hb => by
            obtain ⟨o, e, _⟩ := T.obj _ _ st7 b hb
            exact ⟨o, e, List.mem_append_right _ (mem_pinsAt hb e)⟩
          refine sp_again rfl (ih m' hm its' s0' H0' pn' gz0' (i + 1) σ' H' s' w' (back g') (T.keep _ _ _ st7 fun b hb o e => (g'.inv.pin (b, o) (List.mem_append_right _ (List.mem_append_right _ (mem_pinsAt hb e)))).1) (fun b hb => ?_) fun b hb q hq => ?_)
          · obtain ⟨o, e, m⟩ := at_ b hb
            exact (g'.inv.pin (b, o) (List.mem_append_right _ m)).2.1
          · obtain ⟨o, e, m⟩ := at_ b hb
            exact (g'.dis (b, o) m).1 q hq
        refine hb.run Fin its s0 H0 pn gz0 _ gz σ9 H9 s8 _ _ _ _ id id { D with nx := N, ct := N, bk := D.nx } gl (fun its' s0' H0' pn' gz0' f s' hp => ?_) g9 q9
        cases f with
        | next => obtain ⟨σ', H', g', n'⟩ := hp; exact again g' n' _
        | cont => obtain ⟨σ', H', g', n'⟩ := hp; exact again g' n' _
        | brk => obtain ⟨σ', H', g', q'⟩ := hp; exact leave (f := .next) ⟨σ', H', back g', q'⟩ _
        | ret v => obtain ⟨x', σ', H', g', r', q'⟩ := hp; exact leave (f := .ret v) ⟨x', σ', H', back g', r', q'⟩ _
  exact loop m0 its s0 H0 pn gz0 0 σ H2 s2 w0 g2 st2 (fun b hb => (f2 b hb).1) fun b hb q hq => (f2 b hb).2.2.2.2.2 q (List.mem_append_left _ hq)
end
end KQ

end KqGenS_text
section KqNext_text
set_option Elab.async false
set_option linter.all false
set_option maxRecDepth 100000
set_option maxHeartbeats 4000000
/-! next() of a sleeping generator -/
namespace KQ
open PySem PySem.Spec PyProof.Rows L2
section
variable {prog : Program} {w : World} {A : Around} {E : Value → Shared → Prop} {s : Shared}
theorem code2_builtin {id : String} {args : Args} {b : Builtin} {R : Result → Shared → Prop} (hq : plainId id = true) (hy : yfAt (.builtin id args) = none) (hb : entryFor table id = some b)
    (h : wpAny (M2 prog w) A.in1 (b args) (fun fin s' => match fin with | .done f => R (.ok f) s' | .again c' => c'.quiet = true ∧ codeAny (M2 prog w) A c' R s') (fun e s' => R (.error e) s') s) : codeAny (M2 prog w) A (.builtin id args) R s := by
  refine codeAny_of_tree ?_
  rw [den2_of hy, Around.under_plainId hq args]
  have e : (model prog w).den (.builtin id args) = b args := by
    show (match entryFor table id with | some b => b args | none => unsupported ((withoutEnding? id "#data").getD id)) = _
    rw [hb]
  rw [e]
  exact h
theorem call2_builtin {id : String} {args : Args} {b : Builtin} {R : Result → Shared → Prop} (hq : plainId id = true) (hy : yfAt (.builtin id args) = none) (hb : entryFor table id = some b)
    (h : wpAny (M2 prog w) A.in1 (checkBuiltinCall id args) (fun _ s1 => wpAny (M2 prog w) A.in1 (b args) (fun fin s' => match fin with | .done f => R (.ok f) s' | .again c' => c'.quiet = true ∧ codeAny (M2 prog w) A c' R s') (fun e s' => R (.error e) s') s1)
      (fun e s' => R (.error e) s') s) : codeAny (M2 prog w) A (.call (.builtin id) args) R s := by
  refine codeAny_of_tree ?_
  show wpAny _ A.in1 (do checkBuiltinCall id args; again (.builtin id args)) _ _ s
  exact wpAny_bind (wpAny_mono h (fun _ s1 h1 => wpAny_pure (And.intro (plainId_quiet hq args) (code2_builtin hq hy hb h1))) fun _ _ z => z)
theorem call2_entry {T : String} {name : Str} {id : String} {b : Builtin} {self : Value} {rest : List Value} {Q : Value → Shared → Prop} (h : Slot T name id) (hT : s.TypeIs self T) (hb : entryFor table id = some b) (hy : yfAt (.builtin id ⟨self :: rest, []⟩) = none)
    (hc : wpAny (M2 prog w) A.in1 (b ⟨self :: rest, []⟩) (fun fin s' => ∃ v, fin = .done (.ret v) ∧ Q v s') E s) (ha : argsOk id ⟨self :: rest, []⟩) : wpAny (M2 prog w) A (call (.builtin id) (self :: rest)) Q E s := by
  refine wpAny_call (call2_builtin h.plain hy hb (h.check _ _ _ _ _ _ _ _ hT ha (wpAny_mono hc (fun fin s' z => ?_) fun _ _ z => z)))
  obtain ⟨v, rfl, hv⟩ := z
  exact hv
/-- the generator with the number g at a: nobody sleeps over it -/
structure GenO (h : Heap) (a : Addr) (g : Nat) (o : Obj) : Prop where
  at_ : h.get? a = some o
  cls : o.cls = .type "generator"
  dat : ∃ nm qn, o.data = .fields #[.int g 0, nm, qn]
  slots : o.slots = #[] ∨ o.slots = #[some (.int 0 0)]
theorem GenO.typeIs {a : Addr} {g : Nat} {o : Obj} (h : GenO s.heap a g o) : s.TypeIs (.ref a) "generator" := ⟨o, h.at_, h.cls⟩
theorem gen_number {a : Addr} {g : Nat} {o : Obj} {M : Model} {Q : Nat → Shared → Prop} (ho : GenO s.heap a g o) (h : Q g s) : wpAny M A (Builtin.Generator.genNumber (.ref a)) Q E s := by
  obtain ⟨e, _, ⟨nm, qn, hd⟩, hs⟩ := ho
  unfold Builtin.Generator.genNumber
  refine wpAny_bind (wpAny_load e ?_)
  have fin : wpAny M A (pure ((g : Int).toNat)) Q E s := by
    rw [Int.toNat_natCast]
    exact wpAny_pure h
  rcases hs with hs | hs
  · rw [hs, hd]
    exact fin
  · rw [hs, hd]
    exact fin
/-- behind next(): it yields, or StopIteration comes -/
theorem specialP {a : Addr} {g : Nat} {o : Obj} {x : GenState} {z : End → Shared → Prop} {Q : Option Value → Shared → Prop} (hh : A.handled = none) (hl : s.heap.NoLimit) (hroom : A.depth < recursionLimit) (ho : GenO s.heap a g o) (hgs : s.gens[g]? = some x)
    (go : GoesP (M2 prog w) A.in1 z x (s.setGen g .running)) (hq : ∀ e s', z e s' → e.quiet = true)
    (hR : ∀ r s', z (.ret r) s' → r = .ok (.ret .none) ∧ ∀ e h', StopX e h' → (∀ b o, s'.heap.get? b = some o → h'.get? b = some o) → E e { s'.setGen g .finished with heap := h' })
    (hY : ∀ v g0 l k0 c p fs s', z (.susp v g0 l k0 c p fs) s' → Q (some v) (s'.setGen g (End.susp v g0 l k0 c p fs).genState)) : wpAny (M2 prog w) A (callSpecial? (.ref a) "__next__") Q E s := by
  refine wpAny_callSpecial?_slot (name := Str.ofString "__next__") ho.typeIs slot_gen_next (call2_entry slot_gen_next ho.typeIs entry_gen_next rfl ?_ (args_gen_next _))
  show wpAny _ A.in1 (Builtin.Generator.genWake (.ref a) (.send .none)) _ _ s
  unfold Builtin.Generator.genWake
  refine wpAny_bind (wpAny_holding (gen_number ho (wpAny_bind (wpAny_genState hgs ?_))))
  have run : wpAny (M2 prog w) A.in1 (do
      match ← resume g (.send .none) with
      | .yielded v => ret v
      | .returned v =>
        if v == .none then raiseNew (← newExc (.type "StopIteration") [])
        rule "generator.return-value"; throw (← newExc (.type "StopIteration") [v])
      | .raised e => Builtin.Generator.genLeft (.ref a) e
      | .running => rule "generator.already-executing"; raiseError "ValueError" "generator already executing"
      | .justStarted => rule "generator.send-to-fresh"; raiseError "TypeError" "can't send non-None value to a just-started generator"
      | .finished => raiseNew (← newExc (.type "StopIteration") [])) (fun fin s' => ∃ v, fin = .done (.ret v) ∧ Q (some v) s') E s := by
    refine wp_resumeP hgs go hq (fun r s' h => ?_) fun v g0 l k0 c p fs s' h => wpAny_pure ⟨v, rfl, hY v g0 l k0 c p fs s' h⟩
    obtain ⟨rfl, hE⟩ := hR r s' h
    show wpAny _ A.in1 (newExc (.type "StopIteration") [] >>= _) _ _ _
    refine wpAny_bind ?_
    simp only [newExc, newTuple]
    refine wpAny_bind (wpAny_newObj_type ?_ (by size_fits))
    refine wpAny_bind (m := firstArgMember _ _) (wpAny_of_eq (a := Value.none) (by first | rfl | (simp only [firstArgMember]; rfl)) ?_)
    refine wpAny_newObj_type ?_ (by size_fits)
    simp only [raiseNew]
    refine wpAny_bind (wpAny_bind (wpAny_handled ?_))
    rw [show A.in1.handled = none from hh]
    refine wpAny_throw ?_
    refine hE _ _ ⟨_, _, _, rfl, Heap.get?_push_size _ rfl, rfl, rfl, ?_⟩ fun b o hb => Heap.get?_push_of_some _ (Heap.get?_push_of_some _ hb)
    first
      | rfl
      | (rw [Array.getElem?_append_left (by decide)]; rfl)
      | kernel_rfl
  cases x with
  | running => exact go.elim
  | finished => exact go.elim
  | fresh c => exact wpAny_bind (wpAny_roomToWake hl hroom run)
  | suspended k l c p fs cl => exact wpAny_bind (wpAny_roomToWake hl hroom run)
end
end KQ

end KqNext_text
section KqFor_text
set_option Elab.async false
set_option linter.all false
set_option maxRecDepth 100000
set_option maxHeartbeats 4000000
/-! A generator that another def walks -/
namespace KQ
open PySem PySem.Spec PyProof.Rows L2
/-- the waker's state behind a run of the generator's -/
theorem inv_after {X : Cx} {pins pins1 pn' : List (Addr × Obj)} {σ : L2.St} {H H1 : Hp} {s sw s1 : Shared} {d : Gd} (I : Inv X pins σ H s) (hw : sw.heap = s.heap ∧ sw.os = s.os) (ho : d.outer = X.stack) (hp : d.prog = X.prog ∧ d.w = X.w) (lt : X.env.locals < d.env.locals)
    (hc : ∀ x c, X.env.cells.lookup x = some c → c < d.env.locals) (hx : X.ex = []) (af : After d sw H pn' s1 H1) (hpin : ∀ p ∈ X.pn ++ pins1, s1.heap.get? p.1 = some p.2 ∧ H1 p.1 = none ∧ p.1 ≠ X.env.locals ∧ p.1 ∉ X.fs ∧ ∀ v, p.2.data ≠ .cell v) : Inv X pins1 σ H1 s1 := by
  have un := af.un
  rw [ho, hw.1] at un
  have z0 : ∀ b o, X.s_0.heap.get? b = some o → b < d.env.locals ∧ b ≠ X.env.locals := fun b o e => by
    have h1 := Heap.lt_size e
    have h2 := I.ok.above
    have h3 : b < X.env.locals := Nat.lt_of_lt_of_le h1 h2
    exact ⟨Nat.lt_trans h3 lt, Nat.ne_of_lt h3⟩
  have ex : ∀ b, b ∉ X.ex := fun b hb => by rw [hx] at hb; cases hb
  have stk : ∀ b, b ≠ X.env.locals → b ∉ X.fs → b ∉ frs X.stack := fun b h1 h2 hb => (List.mem_cons.mp (I.stkSub b hb)).elim h1 h2
  have any : ∀ {b o}, s.heap.get? b = some o → b < d.env.locals → H b = none → ∃ sl, s1.heap.get? b = some { o with slots := sl } := fun {b o} e l n => un.any (by rw [cut_get l]; exact e) n (by simp)
  have cellK : ∀ x c, X.env.cells.lookup x = some c → ∀ v, s.heap.IsCell c v → s1.heap.IsCell c v := fun x c e v ⟨o, ho, hd⟩ => by
    obtain ⟨sl, q⟩ := any ho (hc x c e) (I.freeC x c e)
    exact ⟨_, q, hd⟩
  obtain ⟨m, ⟨oL, es, ep, eL, nr⟩, hl⟩ := I.loc
  obtain ⟨sl, eL1⟩ := any eL lt I.free
  refine ⟨I.ok, ?_, af.bare, ⟨fun b o e n hb _ => ?_, fun b o e n hb _ => ?_, fun b o e n _ => ?_, fun b o e _ => ?_, fun b xs e => un.tups b xs (I.base.tups b xs e), fun b o u e => un.frzs b o u (I.base.frzs b o u e), fun b ps e => ?_⟩, ⟨m, ⟨_, es, ep, eL1, nr⟩, fun i x v e1 e2 e3 => ?_⟩,
    fun x c e => ?_, ?_, fun x c e => ?_, hpin, ?_, I.len⟩
  · rw [af.os, hw.2, I.os]
  · obtain ⟨l, nl⟩ := z0 b o e
    exact un.keep b o (by rw [cut_get l]; exact I.base.keep b o e n hb (ex b)) (I.base.free b o e n (ex b)) (stk b nl hb) (by simp)
  · obtain ⟨l, nl⟩ := z0 b o e
    obtain ⟨sl1, e1⟩ := I.base.slot b o e n hb (ex b)
    obtain ⟨sl2, e2⟩ := any e1 l (I.base.free b o e n (ex b))
    exact ⟨sl2, e2⟩
  · obtain ⟨l, nl⟩ := z0 b o e
    obtain ⟨o', e1⟩ := I.base.there b o e (ex b)
    exact un.free b o' (by rw [cut_get l]; exact e1) (I.base.free b o e n (ex b)) (by simp)
  · obtain ⟨l, nl⟩ := z0 b o e
    obtain ⟨o', e1⟩ := I.base.there b o e (ex b)
    exact un.there b o' (by rw [cut_get l]; exact e1) (by simp)
  · obtain ⟨m1, e1⟩ := I.base.tbls b ps e
    obtain ⟨m2, e2⟩ := un.tbls b _ e1
    exact ⟨m1 ++ m2, by rw [e2, Array.append_assoc]⟩
  · obtain ⟨u, r, l⟩ := hl i x v e1 e2 e3
    refine ⟨u, r, ?_⟩
    rcases l with l | ⟨k, c, e, z⟩
    · exact .inl l
    · exact .inr ⟨k, c, e, cellK x c e _ z⟩
  · obtain ⟨v, z⟩ := I.cell x c e
    exact ⟨v, cellK x c e v z⟩
  · exact un.free _ oL (by rw [cut_get lt]; exact eL) I.free (by simp)
  · obtain ⟨v, o, ho2, hd⟩ := I.cell x c e
    exact un.free c o (by rw [cut_get (hc x c e)]; exact ho2) (I.freeC x c e) (by simp)
  · have h := af.hok
    rw [hp.1, hp.2] at h
    exact h
/-- a generator that has not begun, or sleeps: by whom it is woken, what it will hand out -/
structure Inner (X : Cx) (B : Around) (a g L : Nat) (d : Gd) : Prop where
  A : d.A = B.in1
  hd : B.handled = none
  dp : B.depth < recursionLimit
  frames : B.frames = some X.stack
  prog : d.prog = X.prog
  w : d.w = X.w
  K : d.K = X.K
  mg : d.mg = X.mg
  base : d.base = X.base
  outer : d.outer = X.stack
  loc : d.env.locals = L
  num : d.gn = g
  os : d.os = X.s_0.os
  lt : X.env.locals < L
  la : L < a
  cells : ∀ x c, X.env.cells.lookup x = some c → c < L
/-- .. in a state: own: what it wants kept; gz: what sleeps within it -/
structure Asl (a g L : Nat) (o : Obj) (d : Gd) (Fin : Hp → Prop) (its : List Item) (x : GenState) (own : List (Addr × Obj)) (gz : Gz) (H : Hp) (s : Shared) : Prop where
  gen : GenO s.heap a g o
  free : H a = none
  st : s.gens[g]? = some x
  keep : ∀ p ∈ own, s.heap.get? p.1 = some p.2 ∧ H p.1 = none ∧ (∀ v, p.2.data ≠ .cell v) ∧ L ≤ p.1 ∧ p.1 ≠ a
  gens : ∀ q ∈ gz, s.gens[q.1]? = some q.2 ∧ q.2.status = .suspended ∧ g < q.1
  sleeps : ∃ Hs, Same Hs H ∧ Sleep d Fin its x own gz Hs
theorem setGen_self {s : Shared} {g : Nat} {x : GenState} (h : g < s.gens.size) : (s.setGen g x).gens[g]? = some x := by
  show (s.gens.setIfInBounds g x)[g]? = some x
  rw [Array.getElem?_setIfInBounds, if_pos rfl, if_pos h]
theorem setGen_ne {s : Shared} {g i : Nat} {x : GenState} (h : g ≠ i) : (s.setGen g x).gens[i]? = s.gens[i]? := by
  show (s.gens.setIfInBounds g x)[i]? = _
  rw [Array.getElem?_setIfInBounds_ne h]
theorem setGen_bare {s : Shared} {g : Nat} {x : GenState} (h : AllBare s.gens) (hx : x.bare = true) : AllBare (s.setGen g x).gens := by
  intro y hy
  obtain ⟨i, hi, e⟩ := Array.mem_iff_getElem.mp hy
  have e2 : (s.setGen g x).gens[i]? = some y := by rw [Array.getElem?_eq_getElem hi, e]
  by_cases q : g = i
  · subst q
    rw [setGen_self (by have := GenW.setGen_size s g x; omega)] at e2
    rw [← Option.some.inj e2]
    exact hx
  · rw [setGen_ne q] at e2
    exact h y (Array.mem_of_getElem? e2)
/-- behind next(): a value, or the end -/
def Nexts (X : Cx) (a g L : Nat) (o : Obj) (d : Gd) (Fin : Hp → Prop) (pins : List (Addr × Obj)) (σ : L2.St) (H : Hp) (s : Shared) (x : GenState) (gz : Gz) (its : List Item) (r : Option Value) (s2 : Shared) : Prop := match its, r with
  | [], none => ∃ H1, Inv X pins σ H1 s2 ∧ H1 a = none ∧ GRel s.gens s2.gens ((g, x) :: gz) [] ∧ SameT H H1 ∧ Fin H1
  | it :: rest, some v => ∃ x' own' gz' y H1, Inv X pins σ H1 s2 ∧ RelV y v ∧ it y H1 ∧ SameT H H1 ∧ Asl a g L o d Fin rest x' own' gz' H1 s2 ∧ x'.status = .suspended ∧ (∀ p ∈ own', ∀ q ∈ X.pn ++ pins, q.1 ≠ p.1) ∧
      GRel s.gens s2.gens ((g, x) :: gz) ((g, x') :: gz') ∧ ∀ q ∈ gz', q.1 ∈ gz.map (·.1) ∨ s.gens.size ≤ q.1
  | _, _ => False
theorem inner_special {X : Cx} {B : Around} {a g L : Nat} {o : Obj} {d : Gd} {Fin : Hp → Prop} {its : List Item} {x : GenState} {own : List (Addr × Obj)} {gz : Gz} {pins : List (Addr × Obj)} {σ : L2.St} {H : Hp} {s : Shared} (I : Inv X pins σ H s) (n : Inner X B a g L d)
    (as : Asl a g L o d Fin its x own gz H s) (hex : X.ex = []) (hp : ∀ p ∈ X.pn ++ pins, p.1 ≠ a ∧ ∀ q ∈ own, p.1 ≠ q.1) : wpAny (M2 X.prog X.w) B (callSpecial? (.ref a) "__next__") (fun r s2 => ∃ v, r = some v ∧ Nexts X a g L o d Fin pins σ H s x gz its (some v) s2)
      (fun e s2 => StopX e s2.heap ∧ Nexts X a g L o d Fin pins σ H s x gz its none s2) s := by
  obtain ⟨Hs, rel, sl⟩ := as.sleeps
  have glt : g < s.gens.size := (Array.getElem?_eq_some_iff.mp as.st).1
  have hpn : ∀ p ∈ X.pn ++ pins ++ [(a, o)], s.heap.get? p.1 = some p.2 ∧ H p.1 = none ∧ p.1 ∉ frs X.stack ∧ (∀ v, p.2.data ≠ .cell v) ∧ ∀ q ∈ own, p.1 ≠ q.1 := fun p m => by
    rcases List.mem_append.mp m with m | m
    · obtain ⟨p1, p2, p3, p4, p5⟩ := I.pin p m
      exact ⟨p1, p2, fun hb => (List.mem_cons.mp (I.stkSub _ hb)).elim p3 p4, p5, (hp p m).2⟩
    · rw [List.mem_singleton.mp m]
      refine ⟨as.gen.at_, as.free, fun hb => ?_, fun v z => ?_, fun q hq => Ne.symm (as.keep q hq).2.2.2.2⟩
      · have h1 : a ≤ X.env.locals := by
          rcases List.mem_cons.mp (I.stkSub _ hb) with z | z
          · exact Nat.le_of_eq z
          · obtain ⟨_, ob, hob, _⟩ := I.ok.funs.mem z
            exact Nat.le_trans (Nat.le_of_lt (Heap.lt_size hob)) I.ok.above
        exact absurd (Nat.lt_trans n.lt n.la) (Nat.not_lt.mpr h1)
      · obtain ⟨nm, qn, hd⟩ := as.gen.dat
        rw [hd] at z
        cases z
  have wk : Wk d own gz Hs (s.setGen g .running) H (X.pn ++ pins ++ [(a, o)]) := by
    refine ⟨?_, by show s.os = d.os; rw [n.os, I.os], fun p m => ⟨(as.keep p m).1, (as.keep p m).2.1⟩, fun q m => ?_, rel, ?_, fun p m => ?_⟩
    · have e0 := I.env0
      rw [n.prog, n.w, n.K, n.mg, n.base, n.outer, n.A]
      exact ⟨n.frames, e0.mod, e0.bs, e0.bsz, e0.funs, e0.frf, e0.hok, setGen_bare e0.bare rfl⟩
    · have := as.gens q m
      rw [setGen_ne (Nat.ne_of_lt this.2.2)]
      exact this.1
    · show d.gn < _
      rw [n.num, GenW.setGen_size]
      exact glt
    · show _ ∧ _ ∧ p.1 ∉ frs d.outer ∧ _
      rw [n.outer]
      exact hpn p m
  have go := sleep_iff.mp sl (s.setGen g .running) H _ wk
  have go : GoesP (M2 X.prog X.w) B.in1 (Phi d Fin its gz (s.setGen g .running) H (X.pn ++ pins ++ [(a, o)])) x (s.setGen g .running) := by
    rw [n.prog, n.w, n.A] at go
    exact go
  have pins_ok : ∀ {H1 s1}, After d (s.setGen g .running) H (X.pn ++ pins ++ [(a, o)]) s1 H1 → ∀ p ∈ X.pn ++ pins, s1.heap.get? p.1 = some p.2 ∧ H1 p.1 = none ∧ p.1 ≠ X.env.locals ∧ p.1 ∉ X.fs ∧ ∀ v, p.2.data ≠ .cell v := fun af p m => by
    obtain ⟨q1, q2⟩ := af.pins p (List.mem_append_left _ m)
    obtain ⟨_, _, p3, p4, p5⟩ := I.pin p m
    exact ⟨q1, q2, p3, p4, p5⟩
  have invA : ∀ {H1 s1}, After d (s.setGen g .running) H (X.pn ++ pins ++ [(a, o)]) s1 H1 → Inv X pins σ H1 s1 := fun {H1 s1} af =>
    inv_after (sw := s.setGen g .running) I ⟨rfl, rfl⟩ n.outer ⟨n.prog, n.w⟩ (by show _ < d.env.locals; rw [n.loc]; exact n.lt) (fun y c e => by show _ < d.env.locals; rw [n.loc]; exact n.cells y c e) hex af (pins_ok af)
  have grel : ∀ {s1 : Shared} {gz1 : Gz} {y : GenState}, GRel (s.setGen g .running).gens s1.gens gz gz1 → (unmarkedG y = true ∨ True) → GRel s.gens (s1.setGen g y).gens ((g, x) :: gz) ((g, y) :: gz1) := fun {s1 gz1 y} r _ => by
    refine ⟨?_, fun i z e hz hn => ?_, fun i z e hm => ?_⟩
    · have h1 := r.size
      rw [GenW.setGen_size] at h1
      rw [GenW.setGen_size]
      exact h1
    · have ne : g ≠ i := fun q => hn (by rw [q]; exact List.mem_cons_self)
      rw [setGen_ne ne]
      exact r.kept i z (by rw [setGen_ne ne]; exact e) hz fun q => hn (List.mem_cons_of_mem _ q)
    · by_cases ne : g = i
      · exact .inl (by rw [← ne]; exact List.mem_cons_self)
      · rw [setGen_ne ne] at e
        rcases r.mark i z e hm with q | ⟨q1, q2⟩
        · exact .inl (List.mem_cons_of_mem _ q)
        · rw [setGen_ne ne] at q1
          exact .inr ⟨q1, fun q3 => (List.mem_cons.mp q3).elim (fun q => ne q.symm) q2⟩
  have lt1 : ∀ {s1 : Shared} {gz1 : Gz}, GRel (s.setGen g .running).gens s1.gens gz gz1 → g < s1.gens.size := fun {s1 gz1} r => by
    have h1 := r.size
    rw [GenW.setGen_size] at h1
    exact Nat.lt_of_lt_of_le glt h1
  refine specialP n.hd I.nolimit n.dp as.gen as.st go (fun e s' h => phi_quiet h) (fun r s1 h => ?_) fun v g0 l k0 c p fs s1 h => ⟨v, rfl, ?_⟩
  · cases its with
    | cons it rest =>
      obtain ⟨_, _, _, _, _, _, _, _, e, _⟩ := h
      cases e
    | nil =>
      obtain ⟨e, H1, af, gr, sm, fn⟩ := h
      injection e with e
      refine ⟨e, fun e' h' hx hk => ⟨hx, ?_⟩⟩
      have J := invA af
      refine ⟨H1, ?_, (af.pins (a, o) (List.mem_append_right _ List.mem_cons_self)).2, ?_, sm, fn⟩
      · have J2 : Inv X pins σ H1 { s1 with heap := h', toks := s1.toks } := J.kept hk
        exact ⟨J2.ok, J2.os, setGen_bare J2.bare rfl, J2.base, J2.loc, J2.cell, J2.free, J2.freeC, J2.pin, J2.hok, J2.len⟩
      · have r := grel (y := .finished) gr (.inr trivial)
        refine ⟨r.size, r.kept, fun i z e hm => ?_⟩
        rcases r.mark i z e hm with q | q
        · rcases List.mem_cons.mp q with q | q
          · have q : i = g := q
            subst q
            rw [setGen_self (lt1 gr)] at e
            rw [← Option.some.inj e] at hm
            cases hm
          · exact absurd q (by simp)
        · exact .inr q
  · cases its with
    | nil =>
      obtain ⟨e, _⟩ := h
      cases e
    | cons it rest =>
      obtain ⟨hq, v', g', l', k', c', p', fs', e, y, H1, own1, gz1, rv, hit, af, gr, sm, ho1, hz1, nx⟩ := h
      injection e with e1 e2 e3 e4 e5 e6 e7
      subst e1
      have J := invA af
      have hb : (End.susp v g0 l k0 c p fs).genState.bare = true := End.bare_of_quiet hq
      refine ⟨_, own1, gz1, y, H1, ⟨J.ok, J.os, setGen_bare J.bare hb, J.base, J.loc, J.cell, J.free, J.freeC, J.pin, J.hok, J.len⟩, rv, hit, sm, ⟨?_, ?_, setGen_self (lt1 gr), fun p hp' => ?_, fun q hq' => ?_, ?_⟩, rfl, fun p hp' q hq' => ?_, grel gr (.inr trivial), fun q hq' => ?_⟩
      · obtain ⟨q1, _⟩ := af.pins (a, o) (List.mem_append_right _ List.mem_cons_self)
        exact ⟨q1, as.gen.cls, as.gen.dat, as.gen.slots⟩
      · exact (af.pins (a, o) (List.mem_append_right _ List.mem_cons_self)).2
      · obtain ⟨q1, q2, q3, q4, q5⟩ := ho1 p hp'
        refine ⟨q1, q2, q3, ?_, fun z => q5 (a, o) (List.mem_append_right _ List.mem_cons_self) z.symm⟩
        rw [← n.loc]
        exact q4
      · obtain ⟨q1, q2, q3, _⟩ := hz1 q hq'
        have q3 : d.gn < q.1 := q3
        rw [n.num] at q3
        rw [setGen_ne (Nat.ne_of_lt q3)]
        exact ⟨q1, q2, q3⟩
      · exact ⟨H1, Same.refl H1, nx⟩
      · exact (ho1 p hp').2.2.2.2 q (List.mem_append_left _ hq')
      · obtain ⟨_, _, _, q4⟩ := hz1 q hq'
        rw [GenW.setGen_size] at q4
        exact q4
theorem inner_next {X : Cx} {B : Around} {a g L : Nat} {o : Obj} {d : Gd} {Fin : Hp → Prop} {its : List Item} {x : GenState} {own : List (Addr × Obj)} {gz : Gz} {pins : List (Addr × Obj)} {σ : L2.St} {H : Hp} {s : Shared} {E : Value → Shared → Prop} (I : Inv X pins σ H s) (n : Inner X B a g L d)
    (as : Asl a g L o d Fin its x own gz H s) (hex : X.ex = []) (hp : ∀ p ∈ X.pn ++ pins, p.1 ≠ a ∧ ∀ q ∈ own, p.1 ≠ q.1) : wpAny (M2 X.prog X.w) B (pyNext (.ref a)) (Nexts X a g L o d Fin pins σ H s x gz its) E s := by
  unfold pyNext
  refine wpAny_bind (wpAny_attempt (wpAny_mono (inner_special I n as hex hp) (fun r s2 ⟨v, e, h⟩ => ?_) fun e s2 ⟨hx, h⟩ => ?_))
  · subst e
    exact wpAny_pure h
  · obtain ⟨b, ob, vs, rfl, h1, h2, _, _⟩ := hx
    refine wpAny_bind (wpAny_isInstance (T := "StopIteration") (b := true) ⟨_, h1, h2⟩ isSubtype_stop ?_)
    exact wpAny_pure h
end KQ

end KqFor_text
section KqForG_text
set_option Elab.async false
set_option linter.all false
set_option maxRecDepth 100000
set_option maxHeartbeats 4000000
/-! for x in g, g a generator, within a generator def -/
namespace KQ
open PySem PySem.Spec PyProof.Rows L2
/-- what a generator def's call leaves: a generator that has not begun -/
structure Made (X : Cx) (k : Nat) (pins : List (Addr × Obj)) (σ : L2.St) (H : Hp) (its : List Item) (Fin : Hp → Prop) (s : Shared) (a g L : Nat) (c : Code) (o oL : Obj) (d : Gd) : Prop where
  inv : Inv X pins σ H s
  gen : s.heap.IsGen a g
  at_ : s.heap.get? a = some o
  free : H a = none
  st : s.gens[g]? = some (.fresh c)
  ns : s.heap.get? L = some oL
  nfree : H L = none
  ncell : ∀ v, oL.data ≠ .cell v
  lt : X.env.locals < L
  la : L < a
  cells : ∀ x c, X.env.cells.lookup x = some c → c < L
  pins : ∀ p ∈ X.pn ++ pins, p.1 < L
  prog : d.prog = X.prog
  w : d.w = X.w
  K : d.K = X.K
  mg : d.mg = X.mg
  base : d.base = X.base
  outer : d.outer = X.stack
  loc : d.env.locals = L
  num : d.gn = g
  os : d.os = X.s_0.os
  sleeps : ∀ A, Room k A → A.frames = some X.stack → Sleep { d with A := A } Fin its (.fresh c) [(L, oL)] [] H
abbrev TMk := L2.St → Hp → (List Item → (Hp → Prop) → Hp → Prop) → Prop
/-- an expression that makes a generator -/
structure PMk (X : Cx) (k : Nat) (e : Expr) (tg : TMk) : Prop where
  run : ∀ (pins : List (Addr × Obj)) (s : Shared) (σ : L2.St) (H : Hp) (cont : List Item → (Hp → Prop) → Hp → Prop), Inv X pins σ H s → (∀ x ∈ s.gens, x.status ≠ .suspended ∨ True) → tg σ H cont →
    wpAny (model X.prog X.w) X.A (eval e X.env) (fun u s' => ∃ its Fin H1 a g L c o oL d, u = .ref a ∧ s.gens.size ≤ g ∧ Made X k pins σ H1 its Fin s' a g L c o oL d ∧ cont its Fin H1) X.xe s
theorem GenO.of {h : Heap} {a g : Nat} {o : Obj} (h1 : h.IsGen a g) (h2 : h.get? a = some o) : GenO h a g o := by
  obtain ⟨o', nm, qn, e, hc, hd, hs⟩ := h1
  rw [h2] at e
  obtain rfl := Option.some.inj e
  exact ⟨h2, hc, ⟨nm, qn, hd⟩, .inl hs⟩
def zs (g : Nat) (x : GenState) (gz : Gz) : Gz := match x.status with
  | .suspended => (g, x) :: gz
  | _ => []
def gForG (tg : TMk) (g : TG) (tb : TG2) : TG2 := fun D its Hw σ H => tg σ H fun jts Fin H1 => ∃ W : Nat → Hp → List Item → Hp → L2.St → Hp → Prop, (∃ Hs, Same Hs H1 ∧ W 0 H1 its Hw σ H1) ∧ (∀ j Hs its Hw σ H, W j Hs its Hw σ H → Same Hs H) ∧
  ∀ j Hs its Hw σ H, W j Hs its Hw σ H → ∀ H1, SameT H H1 → (j = jts.length → Fin H1 → D.nx its Hw σ H1) ∧
    ∀ it y, jts[j]? = some it → it y H1 → g y σ H1 fun σ2 H2 => tb { nx := W (j + 1) H1, rt := fun _ _ _ _ => False, ct := W (j + 1) H1 } its Hw σ2 H2
section
variable {d : Gd}
/-- a generator's frame, with another generator that it walks -/
structure GsI (d d' : Gd) (a g L : Nat) (o : Obj) (Fin : Hp → Prop) (jts : List Item) (x : GenState) (own : List (Addr × Obj)) (gzi : Gz) (s0 : Shared) (H0 : Hp) (pn : List (Addr × Obj)) (gz0 : Gz) (ip : List (Addr × Obj)) (gz : Gz) (σ : L2.St) (H : Hp) (s : Shared) : Prop where
  gs : Gs d s0 H0 pn gz0 (ip ++ (a, o) :: own) (gz ++ zs g x gzi) σ H s
  st : s.gens[g]? = some x
  gen : GenO s.heap a g o
  keep : ∀ p ∈ own, L ≤ p.1 ∧ p.1 ≠ a
  nums : ∀ q ∈ gzi, g < q.1 ∧ x.status = .suspended
  nw : x.status = .suspended ∨ s0.gens.size ≤ g
theorem gs_base {s0 : Shared} {H0 : Hp} {pn : List (Addr × Obj)} {gz0 : Gz} {ip ip' : List (Addr × Obj)} {gz gz' : Gz} {σ : L2.St} {H H1 : Hp} {s s2 : Shared} (gs : Gs d s0 H0 pn gz0 ip' gz' σ H s) (I : Inv (d.cx s0 H0 pn) ip σ H1 s2) (dis : ∀ p ∈ ip, (∀ q ∈ pn, q.1 ≠ p.1) ∧ d.env.locals ≤ p.1)
    {Z0 Z : Gz} (gr : GRel s.gens s2.gens Z0 Z) (hz0 : ∀ i y, s.gens[i]? = some y → y.status = .suspended → i ∈ Z0.map (·.1) → i ∈ gz'.map (·.1)) (hz : ∀ i, i ∈ gz'.map (·.1) → i ∈ gz.map (·.1) ∨ i ∈ Z0.map (·.1)) (hzn : ∀ i, i ∈ Z.map (·.1) → i ∈ gz.map (·.1))
    (gens : ∀ q ∈ gz, s2.gens[q.1]? = some q.2 ∧ q.2.status = .suspended ∧ d.gn < q.1 ∧ (q.1 ∈ gz0.map (·.1) ∨ s0.gens.size ≤ q.1)) : Gs d s0 H0 pn gz0 ip gz σ H1 s2 := by
  refine ⟨I, dis, gens, ⟨Nat.le_trans gs.gr.size gr.size, fun i y e hy hn => ?_, fun i y e hm => ?_⟩, gs.lt, gs.num, gs.os⟩
  · have e1 := gs.gr.kept i y e hy hn
    refine gr.kept i y e1 hy fun q => ?_
    obtain ⟨p, hp, ep⟩ := List.mem_map.mp (hz0 i y e1 hy q)
    rcases (gs.gens p hp).2.2.2 with z | z
    · rw [ep] at z
      exact hn z
    · rw [ep] at z
      exact absurd (Array.getElem?_eq_some_iff.mp e).1 (Nat.not_lt.mpr z)
  · rcases gr.mark i y e hm with q | ⟨q1, q2⟩
    · exact .inl (hzn i q)
    · rcases gs.gr.mark i y q1 hm with q | q
      · rcases hz i q with z | z
        · exact .inl z
        · exact absurd z q2
      · exact .inr q
theorem zs_mem {g : Nat} {x : GenState} {gz : Gz} {i : Nat} (h : i ∈ (zs g x gz).map (·.1)) : i ∈ ((g, x) :: gz).map (·.1) := by
  unfold zs at h
  split at h
  · exact h
  · exact absurd h (by simp)
theorem zs_susp {g : Nat} {x : GenState} {gz : Gz} (h : x.status = .suspended) : zs g x gz = (g, x) :: gz := by
  unfold zs
  rw [h]
theorem gt_forG {tg iter : Expr} {body : List Stmt} {wg : TMk} {g : TG} {tb : TG2} {pos : Pos} {k : Nat} (ok : d.Ok) (hr : Room (k + 1) (d.A.deeper d.env)) (hi : ∀ s0 H0 pn, PMk (d.cx s0 H0 pn) k iter wg) (hg : ∀ s0 H0 pn, PG (d.cx s0 H0 pn) tg g) (hb : GTs d body tb)
    (hs : ∀ x, foldedSetIterable iter d.env x = pure x) : GT d (.For tg iter body [] pos) (gForG wg g tb) := by
  refine ⟨fun Fin its s0 H0 pn gz0 ip gz σ H s c fs K J gd lv D gc kc gs ht => ?_⟩
  rw [exec_For]
  refine sp_bindw (wpAny_standAt ?_)
  refine sp_bindw ?_
  rw [gc.over]
  refine wpAny_mono (wpAny_go (lk_stuck s) ((hi s0 H0 pn).run ip (stuckS s) σ H _ (inv_stuck gs.inv) (fun _ _ => .inr trivial) ht)) (fun v s' ⟨s1, lk, jts, Fin', H1, a, gn, L, cc, o, oL, d', ev, hgn, mk, W, ⟨Hs0, _, w0⟩, same, turn⟩ => ?_) fun x s2 ⟨_, _, z⟩ => (show False from z).elim
  subst ev
  refine sp_bindw (wpAny_of_eq (hs _) ?_)
  refine sp_bindw (wpAny_standAt ?_)
  refine sp_bindw (wpAny_holding ?_)
  rw [gc.over]
  refine wpAny_mono (wpAny_go lk (wpAny_pyIter_gen (E := fun _ _ => False) (Q := fun u s3 => u = .ref a ∧ s3 = s1) mk.gen ⟨rfl, rfl⟩)) (fun itv s2 ⟨s3, lk2, e1, e2⟩ => ?_) fun x s2 ⟨_, _, z⟩ => (show False from z).elim
  subst e1 e2
  have gs2 := gs_woke gs mk.inv lk2.woke
  have hgn : s.gens.size ≤ gn := by
    have e : (stuckS s).gens.size = s.gens.size := Array.size_map ..
    rw [← e]
    exact hgn
  have st2 : s2.gens[gn]? = some (.fresh cc) := by
    have e : asleep s gn = none := by
      unfold asleep
      rw [Array.getElem?_eq_none hgn]
      rfl
    rw [lk2.2.1.oth gn e, mk.st]
    rfl
  have hh := (woke_heap lk2.woke).1
  have go2 : GenO s2.heap a gn o := by
    rw [hh]
    exact GenO.of mk.gen mk.at_
  have nocell : ∀ x c, d.env.cells.lookup x = some c → c < L := fun x c e => by
    rw [ok.cells] at e
    cases e
  have inn : ∀ s0 H0 pn, s0.os = d.os → Inner (d.cx s0 H0 pn) (d.A.deeper d.env) a gn L { d' with A := (d.A.deeper d.env).in1 } := fun s0' H0 pn e =>
    ⟨rfl, hr.hd, by have := hr.dp; omega, Around.frames_deeper ok.frames, mk.prog, mk.w, mk.K, mk.mg, mk.base, mk.outer, mk.loc, mk.num, (mk.os.trans gs.os).trans e.symm, mk.lt, mk.la, nocell⟩
  have hL : d.env.locals < L := mk.lt
  have ipL : ∀ p ∈ ip, p.1 < L := fun p hp => mk.pins p (List.mem_append_right _ hp)
  have gzL : ∀ q ∈ gz, q.1 < gn := fun q hq => Nat.lt_of_lt_of_le (Array.getElem?_eq_some_iff.mp (gs.gens q hq).1).1 hgn
  have ndat : ∀ v, o.data ≠ .cell v := fun v z => by
    obtain ⟨nm, qn, e⟩ := go2.dat
    rw [e] at z
    cases z
  refine sp_own fun p0 kk hkk => ?_
  have gl := gc_loop2 (k := kk) (c' := .forLoop tg (.ref a) body [] d.env) (l := lv []) (kp := []) (p := p0) gc rfl rfl
  have leave : ∀ {f : Flow} {its' s0' H0' pn' gz0' s'}, GPost d D its' s0' H0' pn' gz0' ip gz f s' → ∀ c2, Run2 d Fin its' s0' H0' pn' gz0' c2 (.pure (.done f)) (.ret kk none (gd false) (lv []) c p0 [] :: fs) s' := fun {f its' s0' H0' pn' gz0' s'} q c2 =>
    sp_leaf (.ok f) (by rw [hkk]; exact kc its' s0' H0' pn' gz0' f s' q)
  have d2e : ∃ d2 : Gd, d2 = { d' with A := (d.A.deeper d.env).in1 } := ⟨_, rfl⟩
  obtain ⟨d2, ed2⟩ := d2e
  rw [← ed2] at inn
  have hgn0 : d.gn < gn := Nat.lt_of_lt_of_le gs.num (Nat.le_trans gs.gr.size hgn)
  have loop : ∀ rest j x own gzi Hs its s0 H0 pn gz0 σ H s, jts.drop j = rest → j ≤ jts.length → W j Hs its H0 σ H → GsI d d2 a gn L o Fin' rest x own gzi s0 H0 pn gz0 ip gz σ H s → (∃ Hs', Same Hs' Hs ∧ Sleep d2 Fin' rest x own gzi Hs') →
      Run2 d Fin its s0 H0 pn gz0 (.forLoop tg (.ref a) body [] d.env) ((M2 d.prog d.w).den (.forLoop tg (.ref a) body [] d.env)) (.ret kk none (gd false) (lv []) c p0 [] :: fs) s := by
    intro rest
    induction rest with
    | nil =>
      intro j x own gzi Hs its s0 H0 pn gz0 σ H s hj hjl hw G ⟨Hs', sm', sl⟩
      have base : Inv (d.cx s0 H0 pn) ip σ H s := G.gs.inv.pins_of fun p hp => G.gs.inv.pin p (List.mem_append_right _ (List.mem_append_left _ hp))
      have pinA := G.gs.inv.pin (a, o) (List.mem_append_right _ (List.mem_append_right _ List.mem_cons_self))
      have pinO : ∀ p ∈ own, _ := fun p hp => G.gs.inv.pin p (List.mem_append_right _ (List.mem_append_right _ (List.mem_cons_of_mem _ hp)))
      have zsm : ∀ q ∈ gzi, q ∈ gz ++ zs gn x gzi := fun q hq => by
        rw [zs_susp (G.nums q hq).2]
        exact List.mem_append_right _ (List.mem_cons_of_mem _ hq)
      have as : Asl a gn L o d2 Fin' ([]) x own gzi H s := ⟨G.gen, pinA.2.1, G.st, fun p hp => ⟨(pinO p hp).1, (pinO p hp).2.1, (pinO p hp).2.2.2.2, G.keep p hp⟩,
        fun q hq => ⟨(G.gs.gens q (zsm q hq)).1, (G.gs.gens q (zsm q hq)).2.1, (G.nums q hq).1⟩, Hs', sm'.trans (same _ _ _ _ _ _ hw), sl⟩
      have hp0 : ∀ p ∈ (d.cx s0 H0 pn).pn ++ ip, p.1 ≠ a ∧ ∀ q ∈ own, p.1 ≠ q.1 := fun p hp => by
        rcases List.mem_append.mp hp with hp | hp
        · exact ⟨(G.gs.dis (a, o) (List.mem_append_right _ List.mem_cons_self)).1 p hp, fun q hq => (G.gs.dis q (List.mem_append_right _ (List.mem_cons_of_mem _ hq))).1 p hp⟩
        · exact ⟨Nat.ne_of_lt (Nat.lt_trans (ipL p hp) mk.la), fun q hq => Nat.ne_of_lt (Nat.lt_of_lt_of_le (ipL p hp) (G.keep q hq).1)⟩
      have hz0 : ∀ i y, s.gens[i]? = some y → y.status = .suspended → i ∈ ((gn, x) :: gzi).map (·.1) → i ∈ (gz ++ zs gn x gzi).map (·.1) := fun i y e hy hi => by
        have hx : x.status = .suspended := by
          rcases List.mem_cons.mp hi with z | z
          · have z : i = gn := z
            rw [z, G.st] at e
            rw [Option.some.inj e]
            exact hy
          · obtain ⟨q, hq, _⟩ := List.mem_map.mp z
            exact (G.nums q hq).2
        rw [zs_susp hx, List.map_append]
        exact List.mem_append_right _ hi
      have hz1 : ∀ i, i ∈ (gz ++ zs gn x gzi).map (·.1) → i ∈ gz.map (·.1) ∨ i ∈ ((gn, x) :: gzi).map (·.1) := fun i hi => by
        rw [List.map_append] at hi
        rcases List.mem_append.mp hi with z | z
        · exact .inl z
        · exact .inr (zs_mem z)
      have keepG : ∀ {s5 : Shared} {Z : Gz}, GRel s.gens s5.gens ((gn, x) :: gzi) Z → ∀ q ∈ gz, s5.gens[q.1]? = some q.2 ∧ q.2.status = .suspended ∧ d.gn < q.1 ∧ (q.1 ∈ gz0.map (·.1) ∨ s0.gens.size ≤ q.1) := fun {s5 Z} gr q hq => by
        have h := G.gs.gens q (List.mem_append_left _ hq)
        refine ⟨gr.kept q.1 q.2 h.1 h.2.1 fun z => ?_, h.2⟩
        have lt := gzL q hq
        rcases List.mem_cons.mp z with z | z
        · exact Nat.ne_of_lt lt z
        · obtain ⟨q2, hq2, e⟩ := List.mem_map.mp z
          have e : q2.1 = q.1 := e
          have := (G.nums q2 hq2).1
          omega
      rw [den_for, Sem.onRaise_eq_wrap]
      refine sp_turn ?_
      rw [gl.over]
      refine wpAny_mono (inner_next (E := fun _ _ => False) base (inn s0 H0 pn G.gs.os) as rfl hp0) (fun r s4 h4 => ?_) fun _ _ z => z.elim
      cases r with
      | some v => exact h4.elim
      | none =>
        obtain ⟨H2, I2, _, gr, sm, hf⟩ := h4
        have gb : Gs d s0 H0 pn gz0 ip gz σ H2 s4 := gs_base G.gs I2 (fun p hp => G.gs.dis p (List.mem_append_left _ hp)) gr hz0 hz1 (fun i hi => absurd hi (by simp)) (keepG gr)
        have je : j = jts.length := by
          have := List.drop_eq_nil_iff.mp hj
          omega
        exact sp_block (leave (f := .next) ⟨σ, H2, gb, (turn j Hs its H0 σ H hw H2 sm).1 je hf⟩ _)
    | cons it rest ih =>
      intro j x own gzi Hs its s0 H0 pn gz0 σ H s hj hjl hw G ⟨Hs', sm', sl⟩
      have base : Inv (d.cx s0 H0 pn) ip σ H s := G.gs.inv.pins_of fun p hp => G.gs.inv.pin p (List.mem_append_right _ (List.mem_append_left _ hp))
      have pinA := G.gs.inv.pin (a, o) (List.mem_append_right _ (List.mem_append_right _ List.mem_cons_self))
      have pinO : ∀ p ∈ own, _ := fun p hp => G.gs.inv.pin p (List.mem_append_right _ (List.mem_append_right _ (List.mem_cons_of_mem _ hp)))
      have zsm : ∀ q ∈ gzi, q ∈ gz ++ zs gn x gzi := fun q hq => by
        rw [zs_susp (G.nums q hq).2]
        exact List.mem_append_right _ (List.mem_cons_of_mem _ hq)
      have as : Asl a gn L o d2 Fin' (it :: rest) x own gzi H s := ⟨G.gen, pinA.2.1, G.st, fun p hp => ⟨(pinO p hp).1, (pinO p hp).2.1, (pinO p hp).2.2.2.2, G.keep p hp⟩,
        fun q hq => ⟨(G.gs.gens q (zsm q hq)).1, (G.gs.gens q (zsm q hq)).2.1, (G.nums q hq).1⟩, Hs', sm'.trans (same _ _ _ _ _ _ hw), sl⟩
      have hp0 : ∀ p ∈ (d.cx s0 H0 pn).pn ++ ip, p.1 ≠ a ∧ ∀ q ∈ own, p.1 ≠ q.1 := fun p hp => by
        rcases List.mem_append.mp hp with hp | hp
        · exact ⟨(G.gs.dis (a, o) (List.mem_append_right _ List.mem_cons_self)).1 p hp, fun q hq => (G.gs.dis q (List.mem_append_right _ (List.mem_cons_of_mem _ hq))).1 p hp⟩
        · exact ⟨Nat.ne_of_lt (Nat.lt_trans (ipL p hp) mk.la), fun q hq => Nat.ne_of_lt (Nat.lt_of_lt_of_le (ipL p hp) (G.keep q hq).1)⟩
      have hz0 : ∀ i y, s.gens[i]? = some y → y.status = .suspended → i ∈ ((gn, x) :: gzi).map (·.1) → i ∈ (gz ++ zs gn x gzi).map (·.1) := fun i y e hy hi => by
        have hx : x.status = .suspended := by
          rcases List.mem_cons.mp hi with z | z
          · have z : i = gn := z
            rw [z, G.st] at e
            rw [Option.some.inj e]
            exact hy
          · obtain ⟨q, hq, _⟩ := List.mem_map.mp z
            exact (G.nums q hq).2
        rw [zs_susp hx, List.map_append]
        exact List.mem_append_right _ hi
      have hz1 : ∀ i, i ∈ (gz ++ zs gn x gzi).map (·.1) → i ∈ gz.map (·.1) ∨ i ∈ ((gn, x) :: gzi).map (·.1) := fun i hi => by
        rw [List.map_append] at hi
        rcases List.mem_append.mp hi with z | z
        · exact .inl z
        · exact .inr (zs_mem z)
      have keepG : ∀ {s5 : Shared} {Z : Gz}, GRel s.gens s5.gens ((gn, x) :: gzi) Z → ∀ q ∈ gz, s5.gens[q.1]? = some q.2 ∧ q.2.status = .suspended ∧ d.gn < q.1 ∧ (q.1 ∈ gz0.map (·.1) ∨ s0.gens.size ≤ q.1) := fun {s5 Z} gr q hq => by
        have h := G.gs.gens q (List.mem_append_left _ hq)
        refine ⟨gr.kept q.1 q.2 h.1 h.2.1 fun z => ?_, h.2⟩
        have lt := gzL q hq
        rcases List.mem_cons.mp z with z | z
        · exact Nat.ne_of_lt lt z
        · obtain ⟨q2, hq2, e⟩ := List.mem_map.mp z
          have e : q2.1 = q.1 := e
          have := (G.nums q2 hq2).1
          omega
      rw [den_for, Sem.onRaise_eq_wrap]
      refine sp_turn ?_
      rw [gl.over]
      refine wpAny_mono (inner_next (E := fun _ _ => False) base (inn s0 H0 pn G.gs.os) as rfl hp0) (fun r s4 h4 => ?_) fun _ _ z => z.elim
      cases r with
      | none => exact h4.elim
      | some v =>
        obtain ⟨x', own', gz', y, H2, I2, rv, hit, sm, as', xs', dj, gr, nw⟩ := h4
        have ge := as'.gen
        have hnf : ∀ b, d.env.locals < b → b ≠ d.env.locals ∧ b ∉ frs d.outer := fun b hb => ⟨Nat.ne_of_gt hb, fun z => absurd (ok.olt b z) (Nat.not_lt.mpr (Nat.le_of_lt hb))⟩
        have hLa : d.env.locals < a := Nat.lt_trans hL mk.la
        have I3 : Inv (d.cx s0 H0 pn) (ip ++ (a, o) :: own') σ H2 s4 := I2.pins_of fun p hp => by
          rcases List.mem_append.mp hp with hp | hp
          · exact I2.pin p (List.mem_append_right _ hp)
          · rcases List.mem_cons.mp hp with hp | hp
            · rw [hp]
              exact ⟨ge.at_, as'.free, (hnf a hLa).1, (hnf a hLa).2, ndat⟩
            · obtain ⟨q1, q2, q3, q4, _⟩ := as'.keep p hp
              have lt : d.env.locals < p.1 := Nat.lt_of_lt_of_le hL q4
              exact ⟨q1, q2, (hnf _ lt).1, (hnf _ lt).2, q3⟩
        have dis' : ∀ p ∈ ip ++ (a, o) :: own', (∀ q ∈ pn, q.1 ≠ p.1) ∧ d.env.locals ≤ p.1 := fun p hp => by
          rcases List.mem_append.mp hp with hp | hp
          · exact G.gs.dis p (List.mem_append_left _ hp)
          · rcases List.mem_cons.mp hp with hp | hp
            · rw [hp]
              exact ⟨(G.gs.dis (a, o) (List.mem_append_right _ List.mem_cons_self)).1, Nat.le_of_lt hLa⟩
            · exact ⟨fun q hq => dj p hp q (List.mem_append_left _ hq), Nat.le_trans (Nat.le_of_lt hL) (as'.keep p hp).2.2.2.1⟩
        have newA : gn ∈ gz0.map (·.1) ∨ s0.gens.size ≤ gn := by
          rcases G.nw with z | z
          · exact (G.gs.gens (gn, x) (by rw [zs_susp z]; exact List.mem_append_right _ List.mem_cons_self)).2.2.2
          · exact .inr z
        have gs4 : Gs d s0 H0 pn gz0 (ip ++ (a, o) :: own') (gz ++ zs gn x' gz') σ H2 s4 := by
          refine gs_base G.gs I3 dis' gr hz0 (fun i hi => ?_) (fun i hi => ?_) fun q hq => ?_
          · rcases hz1 i hi with z | z
            · exact .inl (by rw [List.map_append]; exact List.mem_append_left _ z)
            · exact .inr z
          · rw [zs_susp xs', List.map_append]
            exact List.mem_append_right _ hi
          · rw [zs_susp xs'] at hq
            rcases List.mem_append.mp hq with hq | hq
            · exact keepG gr q hq
            · rcases List.mem_cons.mp hq with hq | hq
              · rw [hq]
                exact ⟨as'.st, xs', hgn0, newA⟩
              · obtain ⟨q1, q2, q3⟩ := as'.gens q hq
                refine ⟨q1, q2, Nat.lt_trans hgn0 q3, ?_⟩
                rcases nw q hq with z | z
                · obtain ⟨q', hq', e⟩ := List.mem_map.mp z
                  have e : q'.1 = q.1 := e
                  rw [← e]
                  exact (G.gs.gens q' (zsm q' hq')).2.2.2
                · exact .inr (Nat.le_trans G.gs.gr.size z)
        obtain ⟨nm, qn, hdat⟩ := ge.dat
        refine go_of ge.at_ ge.cls hdat (by decide) ?_
        have jit : jts[j]? = some it := by
          have e := congrArg (·[0]?) hj
          simpa using e
        refine wpAny_mono (wpAny_use ((hg s0 H0 pn).run (ip ++ (a, o) :: own') (stuckS s4) σ H2 y v _ (inv_stuck I3) rv ((turn j Hs its H0 σ H hw H2 sm).2 it y jit hit))) (fun _ s5 ⟨s6, wk, σ5, H5, I5, q5⟩ => ?_) fun _ _ ⟨_, _, z⟩ => (show False from z).elim
        have gs5 := gs_woke gs4 I5 wk
        have jlt : j + 1 ≤ jts.length := (List.getElem?_eq_some_iff.mp jit).1
        have again : ∀ {its' s0' H0' pn' gz0' σ' H' s'}, Gs d s0' H0' pn' gz0' (ip ++ (a, o) :: own') (gz ++ zs gn x' gz') σ' H' s' → W (j + 1) H2 its' H0' σ' H' → ∀ c2, Run2 d Fin its' s0' H0' pn' gz0' c2 (.pure (.again (.forLoop tg (.ref a) body [] d.env))) (.ret kk none (gd false) (lv []) c p0 [] :: fs) s' := by
          intro its' s0' H0' pn' gz0' σ' H' s' g' w' c2
          have pa := g'.inv.pin (a, o) (List.mem_append_right _ (List.mem_append_right _ List.mem_cons_self))
          obtain ⟨Hs2, sm2, sl2⟩ := as'.sleeps
          refine sp_again rfl (ih (j + 1) x' own' gz' H2 its' s0' H0' pn' gz0' σ' H' s' ?_ jlt w' ⟨g', ?_, ⟨pa.1, ge.cls, ge.dat, ge.slots⟩, fun p hp => (as'.keep p hp).2.2.2, fun q hq => ⟨(as'.gens q hq).2.2, xs'⟩, .inl xs'⟩ ⟨Hs2, sm2, sl2⟩)
          · rw [← List.drop_drop, hj]
            rfl
          · exact (g'.gens (gn, x') (by rw [zs_susp xs']; exact List.mem_append_right _ List.mem_cons_self)).1
        refine hb.run Fin its s0 H0 pn gz0 _ _ σ5 H5 s5 _ _ _ _ id id { nx := W (j + 1) H2, rt := fun _ _ _ _ => False, ct := W (j + 1) H2 } gl (fun its' s0' H0' pn' gz0' f s' hp => ?_) gs5 q5
        cases f with
        | next => obtain ⟨σ', H', g', w'⟩ := hp; exact again g' w' _
        | cont => obtain ⟨σ', H', g', w'⟩ := hp; exact again g' w' _
        | brk => obtain ⟨_, _, _, z⟩ := hp; exact (show False from z).elim
        | ret v => obtain ⟨_, _, _, _, _, z⟩ := hp; exact (show False from z).elim
  have hnf : ∀ b, d.env.locals < b → b ≠ d.env.locals ∧ b ∉ frs d.outer := fun b hb => ⟨Nat.ne_of_gt hb, fun z => absurd (ok.olt b z) (Nat.not_lt.mpr (Nat.le_of_lt hb))⟩
  have hLa : d.env.locals < a := Nat.lt_trans hL mk.la
  have pnL : ∀ q ∈ pn, q.1 < L := fun q hq => mk.pins q (List.mem_append_left _ hq)
  have i2 : Inv (d.cx s0 H0 pn) (ip ++ (a, o) :: [(L, oL)]) σ H1 s2 := gs2.inv.pins_of fun p hp => by
    rcases List.mem_append.mp hp with hp | hp
    · exact gs2.inv.pin p (List.mem_append_right _ hp)
    · rcases List.mem_cons.mp hp with hp | hp
      · rw [hp]
        exact ⟨go2.at_, mk.free, (hnf a hLa).1, (hnf a hLa).2, ndat⟩
      · rw [List.mem_singleton.mp hp]
        exact ⟨by rw [hh]; exact mk.ns, mk.nfree, (hnf L hL).1, (hnf L hL).2, mk.ncell⟩
  have zs0 : zs gn (.fresh cc) [] = [] := rfl
  refine loop jts 0 (.fresh cc) [(L, oL)] [] H1 its s0 H0 pn gz0 σ H1 s2 rfl (Nat.zero_le _) w0 ⟨⟨i2, fun p hp => ?_, fun q hq => ?_, ?_, gs2.lt, gs2.num, gs2.os⟩, st2, go2, fun p hp => ?_, fun q hq => by simp at hq, .inr (Nat.le_trans gs.gr.size hgn)⟩ ⟨H1, Same.refl H1, ?_⟩
  · rcases List.mem_append.mp hp with hp | hp
    · exact gs2.dis p hp
    · rcases List.mem_cons.mp hp with hp | hp
      · rw [hp]
        exact ⟨fun q hq => Nat.ne_of_lt (Nat.lt_trans (pnL q hq) mk.la), Nat.le_of_lt hLa⟩
      · rw [List.mem_singleton.mp hp]
        exact ⟨fun q hq => Nat.ne_of_lt (pnL q hq), Nat.le_of_lt hL⟩
  · rw [zs0, List.append_nil] at hq
    exact gs2.gens q hq
  · rw [zs0, List.append_nil]
    exact gs2.gr
  · rw [List.mem_singleton.mp hp]
    exact ⟨Nat.le_refl _, Nat.ne_of_lt mk.la⟩
  · rw [ed2]
    exact mk.sleeps _ (hr.in1) (Around.frames_deeper ok.frames)
end
end KQ

end KqForG_text
section KqYf_text
set_option Elab.async false
set_option linter.all false
set_option maxRecDepth 100000
set_option maxHeartbeats 4000000
/-! yield from a generator, within a generator def -/
namespace KQ
open PySem PySem.Spec PyProof.Rows L2
section
variable {d d2 : Gd} {a g L : Nat} {o : Obj} {Fin : Hp → Prop} {jts : List Item} {x : GenState} {own : List (Addr × Obj)} {gzi : Gz} {s0 : Shared} {H0 : Hp} {pn : List (Addr × Obj)} {gz0 : Gz} {ip : List (Addr × Obj)} {gz : Gz} {σ : L2.St} {H : Hp} {s : Shared}
/-- what an inner generator's frame is to the walker's -/
structure Sep (d : Gd) (ip : List (Addr × Obj)) (gz : Gz) (a gn L : Nat) : Prop where
  lt : d.env.locals < L
  la : L < a
  pins : ∀ p ∈ ip, p.1 < L
  gens : ∀ q ∈ gz, q.1 < gn
  num : d.gn < gn
  olt : ∀ b ∈ frs d.outer, b < d.env.locals
theorem gsi_base (G : GsI d d2 a g L o Fin jts x own gzi s0 H0 pn gz0 ip gz σ H s) : Inv (d.cx s0 H0 pn) ip σ H s := G.gs.inv.pins_of fun p hp => G.gs.inv.pin p (List.mem_append_right _ (List.mem_append_left _ hp))
theorem gsi_asl (G : GsI d d2 a g L o Fin jts x own gzi s0 H0 pn gz0 ip gz σ H s) (sl : ∃ Hs', Same Hs' H ∧ Sleep d2 Fin jts x own gzi Hs') : Asl a g L o d2 Fin jts x own gzi H s := by
  obtain ⟨Hs', sm', sl⟩ := sl
  have pinA := G.gs.inv.pin (a, o) (List.mem_append_right _ (List.mem_append_right _ List.mem_cons_self))
  have pinO : ∀ p ∈ own, _ := fun p hp => G.gs.inv.pin p (List.mem_append_right _ (List.mem_append_right _ (List.mem_cons_of_mem _ hp)))
  have zsm : ∀ q ∈ gzi, q ∈ gz ++ zs g x gzi := fun q hq => by
    rw [zs_susp (G.nums q hq).2]
    exact List.mem_append_right _ (List.mem_cons_of_mem _ hq)
  exact ⟨G.gen, pinA.2.1, G.st, fun p hp => ⟨(pinO p hp).1, (pinO p hp).2.1, (pinO p hp).2.2.2.2, G.keep p hp⟩, fun q hq => ⟨(G.gs.gens q (zsm q hq)).1, (G.gs.gens q (zsm q hq)).2.1, (G.nums q hq).1⟩, Hs', sm', sl⟩
theorem gsi_hp (G : GsI d d2 a g L o Fin jts x own gzi s0 H0 pn gz0 ip gz σ H s) (S : Sep d ip gz a g L) : ∀ p ∈ (d.cx s0 H0 pn).pn ++ ip, p.1 ≠ a ∧ ∀ q ∈ own, p.1 ≠ q.1 := fun p hp => by
  rcases List.mem_append.mp hp with hp | hp
  · exact ⟨(G.gs.dis (a, o) (List.mem_append_right _ List.mem_cons_self)).1 p hp, fun q hq => (G.gs.dis q (List.mem_append_right _ (List.mem_cons_of_mem _ hq))).1 p hp⟩
  · exact ⟨Nat.ne_of_lt (Nat.lt_trans (S.pins p hp) S.la), fun q hq => Nat.ne_of_lt (Nat.lt_of_lt_of_le (S.pins p hp) (G.keep q hq).1)⟩
theorem gsi_z0 (G : GsI d d2 a g L o Fin jts x own gzi s0 H0 pn gz0 ip gz σ H s) : ∀ i y, s.gens[i]? = some y → y.status = .suspended → i ∈ ((g, x) :: gzi).map (·.1) → i ∈ (gz ++ zs g x gzi).map (·.1) := fun i y e hy hi => by
  have hx : x.status = .suspended := by
    rcases List.mem_cons.mp hi with z | z
    · have z : i = g := z
      rw [z, G.st] at e
      rw [Option.some.inj e]
      exact hy
    · obtain ⟨q, hq, _⟩ := List.mem_map.mp z
      exact (G.nums q hq).2
  rw [zs_susp hx, List.map_append]
  exact List.mem_append_right _ hi
theorem gsi_z1 {gz : Gz} {g : Nat} {x : GenState} {gzi : Gz} : ∀ i, i ∈ (gz ++ zs g x gzi).map (·.1) → i ∈ gz.map (·.1) ∨ i ∈ ((g, x) :: gzi).map (·.1) := fun i hi => by
  rw [List.map_append] at hi
  rcases List.mem_append.mp hi with z | z
  · exact .inl z
  · exact .inr (zs_mem z)
theorem gsi_keep (G : GsI d d2 a g L o Fin jts x own gzi s0 H0 pn gz0 ip gz σ H s) (S : Sep d ip gz a g L) {s5 : Shared} {Z : Gz} (gr : GRel s.gens s5.gens ((g, x) :: gzi) Z) :
    ∀ q ∈ gz, s5.gens[q.1]? = some q.2 ∧ q.2.status = .suspended ∧ d.gn < q.1 ∧ (q.1 ∈ gz0.map (·.1) ∨ s0.gens.size ≤ q.1) := fun q hq => by
  have h := G.gs.gens q (List.mem_append_left _ hq)
  refine ⟨gr.kept q.1 q.2 h.1 h.2.1 fun z => ?_, h.2⟩
  have lt := S.gens q hq
  rcases List.mem_cons.mp z with z | z
  · exact Nat.ne_of_lt lt z
  · obtain ⟨q2, hq2, e⟩ := List.mem_map.mp z
    have e : q2.1 = q.1 := e
    have := (G.nums q2 hq2).1
    omega
/-- the inner generator has ended -/
theorem gsi_end (G : GsI d d2 a g L o Fin jts x own gzi s0 H0 pn gz0 ip gz σ H s) (S : Sep d ip gz a g L) {H2 : Hp} {s4 : Shared} (I2 : Inv (d.cx s0 H0 pn) ip σ H2 s4) (gr : GRel s.gens s4.gens ((g, x) :: gzi) []) : Gs d s0 H0 pn gz0 ip gz σ H2 s4 :=
  gs_base G.gs I2 (fun p hp => G.gs.dis p (List.mem_append_left _ hp)) gr (gsi_z0 G) gsi_z1 (fun i hi => absurd hi (by simp)) (gsi_keep G S gr)
/-- the inner generator has handed out a value -/
theorem gsi_next (G : GsI d d2 a g L o Fin jts x own gzi s0 H0 pn gz0 ip gz σ H s) (S : Sep d ip gz a g L) {H2 : Hp} {s4 : Shared} {jts' : List Item} {x' : GenState} {own' : List (Addr × Obj)} {gzi' : Gz} (I2 : Inv (d.cx s0 H0 pn) ip σ H2 s4)
    (as' : Asl a g L o d2 Fin jts' x' own' gzi' H2 s4) (xs' : x'.status = .suspended) (dj : ∀ p ∈ own', ∀ q ∈ (d.cx s0 H0 pn).pn ++ ip, q.1 ≠ p.1) (gr : GRel s.gens s4.gens ((g, x) :: gzi) ((g, x') :: gzi')) (nw : ∀ q ∈ gzi', q.1 ∈ gzi.map (·.1) ∨ s.gens.size ≤ q.1) :
    Gs d s0 H0 pn gz0 (ip ++ (a, o) :: own') (gz ++ zs g x' gzi') σ H2 s4 := by
  have ge := as'.gen
  have hnf : ∀ b, d.env.locals < b → b ≠ d.env.locals ∧ b ∉ frs d.outer := fun b hb => ⟨Nat.ne_of_gt hb, fun z => absurd (S.olt b z) (Nat.not_lt.mpr (Nat.le_of_lt hb))⟩
  have hLa : d.env.locals < a := Nat.lt_trans S.lt S.la
  have ndat : ∀ v, o.data ≠ .cell v := fun v z => by
    obtain ⟨nm, qn, e⟩ := ge.dat
    rw [e] at z
    cases z
  have zsm : ∀ q ∈ gzi, q ∈ gz ++ zs g x gzi := fun q hq => by
    rw [zs_susp (G.nums q hq).2]
    exact List.mem_append_right _ (List.mem_cons_of_mem _ hq)
  have I3 : Inv (d.cx s0 H0 pn) (ip ++ (a, o) :: own') σ H2 s4 := I2.pins_of fun p hp => by
    rcases List.mem_append.mp hp with hp | hp
    · exact I2.pin p (List.mem_append_right _ hp)
    · rcases List.mem_cons.mp hp with hp | hp
      · rw [hp]
        exact ⟨ge.at_, as'.free, (hnf a hLa).1, (hnf a hLa).2, ndat⟩
      · obtain ⟨q1, q2, q3, q4, _⟩ := as'.keep p hp
        have lt : d.env.locals < p.1 := Nat.lt_of_lt_of_le S.lt q4
        exact ⟨q1, q2, (hnf _ lt).1, (hnf _ lt).2, q3⟩
  have dis' : ∀ p ∈ ip ++ (a, o) :: own', (∀ q ∈ pn, q.1 ≠ p.1) ∧ d.env.locals ≤ p.1 := fun p hp => by
    rcases List.mem_append.mp hp with hp | hp
    · exact G.gs.dis p (List.mem_append_left _ hp)
    · rcases List.mem_cons.mp hp with hp | hp
      · rw [hp]
        exact ⟨(G.gs.dis (a, o) (List.mem_append_right _ List.mem_cons_self)).1, Nat.le_of_lt hLa⟩
      · exact ⟨fun q hq => dj p hp q (List.mem_append_left _ hq), Nat.le_trans (Nat.le_of_lt S.lt) (as'.keep p hp).2.2.2.1⟩
  have newA : g ∈ gz0.map (·.1) ∨ s0.gens.size ≤ g := by
    rcases G.nw with z | z
    · exact (G.gs.gens (g, x) (by rw [zs_susp z]; exact List.mem_append_right _ List.mem_cons_self)).2.2.2
    · exact .inr z
  refine gs_base G.gs I3 dis' gr (gsi_z0 G) (fun i hi => ?_) (fun i hi => ?_) fun q hq => ?_
  · rcases gsi_z1 i hi with z | z
    · exact .inl (by rw [List.map_append]; exact List.mem_append_left _ z)
    · exact .inr z
  · rw [zs_susp xs', List.map_append]
    exact List.mem_append_right _ hi
  · rw [zs_susp xs'] at hq
    rcases List.mem_append.mp hq with hq | hq
    · exact gsi_keep G S gr q hq
    · rcases List.mem_cons.mp hq with hq | hq
      · rw [hq]
        exact ⟨as'.st, xs', S.num, newA⟩
      · obtain ⟨q1, q2, q3⟩ := as'.gens q hq
        refine ⟨q1, q2, Nat.lt_trans S.num q3, ?_⟩
        rcases nw q hq with z | z
        · obtain ⟨q', hq', e⟩ := List.mem_map.mp z
          have e : q'.1 = q.1 := e
          rw [← e]
          exact (G.gs.gens q' (zsm q' hq')).2.2.2
        · exact .inr (Nat.le_trans G.gs.gr.size z)
end
/-! ### the mark on a generator that a sleeper waits for -/
def mark (o : Obj) (n : Int) : Obj := { o with slots := (o.slots ++ Array.replicate (0 + 1 - o.slots.size) none).setIfInBounds 0 (some (rawInt n)) }
theorem wp_slept {M : Model} {A : Around} {E : Value → Shared → Prop} {s : Shared} {a : Addr} {o : Obj} {b : Bool} {Q : Unit → Shared → Prop} {n : Int} (ho : s.heap.get? a = some o) (hc : o.cls = .type "generator")
    (hn : (match (o.slots[0]? : Option (Option Value)) with | some (some (Value.int n _)) => n | _ => 0) = n)
    (h : Q () { s with heap := s.heap.update a fun o => mark o (if b then n + 1 else n - 1) }) : wpAny M A (Builtin.Generator.sleptOver (.ref a) b) Q E s := by
  unfold Builtin.Generator.sleptOver
  refine wpAny_bind (wpAny_load ho ?_)
  rw [hc, if_neg (by decide)]
  dsimp only
  unfold setSlotAt
  rw [if_neg (by decide)]
  refine wpAny_updatePart ho ?_
  subst hn
  exact h
theorem close_gen : ∃ v, typeLookup (.type "generator") "close" = pure (some v) := by
  refine ⟨.builtin "generator.close", ?_⟩
  rw [typeLookup_type, builtinLookup_eq_fast]
  kernel_rfl
theorem turned_pins {X : Cx} {pins pl : List (Addr × Obj)} {σ : L2.St} {H : Hp} {s : Shared} {a : Addr} {o : Obj} {f : Obj → Obj} (I : Inv X (pins ++ (a, o) :: pl) σ H s) (hex : X.ex = []) (hl : X.s_0.heap.objs.size ≤ a) (hc : ∀ x c, X.env.cells.lookup x = some c → c ≠ a) (h3 : ∀ p ∈ X.pn ++ pins ++ pl, p.1 ≠ a)
    (hd : (f o).data = o.data) (hv : ∃ vs, o.data = .fields vs) : Inv X (pins ++ (a, f o) :: pl) σ H { s with heap := s.heap.update a f } := by
  obtain ⟨e, n, n1, n2, n3⟩ := I.pin (a, o) (List.mem_append_right _ (List.mem_append_right _ List.mem_cons_self))
  have I0 : Inv X (pins ++ pl) σ H s := I.pins_of fun p hp => I.pin p (List.mem_append_right _ ((List.mem_append.mp hp).elim (fun z => List.mem_append_left _ z) fun z => List.mem_append_right _ (List.mem_cons_of_mem _ z)))
  have hk : ∀ b o', b ≠ a → s.heap.get? b = some o' → (s.heap.update a f).get? b = some o' := fun b o' hb eb => by
    rw [Heap.get?_update_ne _ _ _ _ hb]
    exact eb
  have I1 : Inv X (pins ++ pl) σ H { s with heap := s.heap.update a f } := I0.turned (t' := s.toks) hk n n1 (.inr hl) hc fun p hp => h3 p (by rw [List.append_assoc]; exact hp)
  refine I1.pins_of fun p hp => ?_
  rcases List.mem_append.mp hp with hp | hp
  · exact I1.pin p (List.mem_append_right _ (List.mem_append_left _ hp))
  · rcases List.mem_cons.mp hp with hp | hp
    · rw [hp]
      refine ⟨Heap.get?_update_self _ e ?_, n, n1, n2, fun v z => n3 v (by rw [← hd]; exact z)⟩
      obtain ⟨vs, hv⟩ := hv
      exact Obj.isFreed_of_fields (hd.trans hv)
    · exact I1.pin p (List.mem_append_right _ (List.mem_append_right _ hp))
/-- a plain builtin's code over the frame that it came from -/
theorem over_yf {A : Around} {c c' : Code} {fs : List Frame} {k : Result → Sem PySem.Fin} {g : Bool} {l kp : List Value} {p : Pos} (hw : c'.weight = 0) (hu : c'.cUnits = 1) :
    A.over c' (.ret k none g l c p kp :: fs) = (A.over c fs).in1 := by
  have e2 : A.depth + frameCount ((Frame.ret k none g l c p kp :: fs).map Frame.where_) + c'.weight = A.depth + frameCount (fs.map Frame.where_) + c.weight := by
    show A.depth + frameCount ((c, p) :: fs.map Frame.where_) + c'.weight = _
    rw [frameCount_cons, hw]; omega
  have e3 : pushEnvs c'.envs (pushEnvs (envsOf ((Frame.ret k none g l c p kp :: fs).map Frame.where_)) A.frames) = pushEnvs c.envs (pushEnvs (envsOf (fs.map Frame.where_)) A.frames) := by
    show pushEnvs c'.envs (pushEnvs (envsOf ((c, p) :: fs.map Frame.where_)) A.frames) = _
    rw [Code.envs_of_weight hw, envsOf_cons]
    simp only [pushEnvs_eq]
    cases A.frames <;> simp [List.append_assoc]
  have e4 : pushGuards c'.guards (pushGuards (guardsOf ((Frame.ret k none g l c p kp :: fs).map Frame.where_)) A.guards) = pushGuards c.guards (pushGuards (guardsOf (fs.map Frame.where_)) A.guards) := by
    show pushGuards c'.guards (pushGuards (guardsOf ((c, p) :: fs.map Frame.where_)) A.guards) = _
    rw [Code.guards_of_weight hw, guardsOf_cons]
    simp only [pushGuards_eq]
    cases A.guards <;> simp [List.append_assoc]
  have e5 : A.units + unitsOf ((Frame.ret k none g l c p kp :: fs).map Frame.where_) + c'.cUnits = A.units + unitsOf (fs.map Frame.where_) + c.cUnits + 1 := by
    show A.units + unitsOf ((c, p) :: fs.map Frame.where_) + c'.cUnits = _
    rw [unitsOf_cons, hu]; omega
  have e1 : (marksOver (Frame.ret k none g l c p kp :: fs) (A.handled, A.handled)).1 = (marksOver fs (A.handled, A.handled)).1 := rfl
  show (⟨(marksOver (Frame.ret k none g l c p kp :: fs) (A.handled, A.handled)).1, A.depth + frameCount ((Frame.ret k none g l c p kp :: fs).map Frame.where_) + c'.weight,
    pushEnvs c'.envs (pushEnvs (envsOf ((Frame.ret k none g l c p kp :: fs).map Frame.where_)) A.frames), pushGuards c'.guards (pushGuards (guardsOf ((Frame.ret k none g l c p kp :: fs).map Frame.where_)) A.guards),
    A.units + unitsOf ((Frame.ret k none g l c p kp :: fs).map Frame.where_) + c'.cUnits⟩ : Around) = _
  rw [e1, e2, e3, e4, e5]
  rfl
abbrev yfCode (a : Addr) : Code := .builtin "proto.yield_from" ⟨[.ref a, .bool false, .none], []⟩
theorem den_yf2 {prog : Program} {w : World} {a : Addr} : (M2 prog w).den (yfCode a) = un a (Builtin.«proto.yield_from» ⟨[.ref a, .bool false, .none], []⟩) := by
  rw [den2]
  have e : (model prog w).den (yfCode a) = Builtin.«proto.yield_from» ⟨[.ref a, .bool false, .none], []⟩ := by
    show (match entryFor table "proto.yield_from" with | some b => b ⟨[.ref a, .bool false, .none], []⟩ | none => unsupported ((withoutEnding? "proto.yield_from" "#data").getD "proto.yield_from")) = _
    rw [entry_yf]
  rw [e]
  rfl
section
variable {M : Model} {A : Around} {z : End → Shared → Prop} {c : Code} {fs : List Frame} {s : Shared}
theorem sp_un {α : Type} {m : Sem α} {f : α → Sem PySem.Fin} {a : Addr} (h : wpAny M (A.over c fs) m (fun x s' => SegP M A z c (un a (f x)) fs s') (fun e s' => SegP M A z c (.raise e) fs s') s) : SegP M A z c (un a (m >>= f)) fs s := by
  rw [un_bind']
  exact sp_bind (wpAny_un h)
/-- a turn that ends the inner generator -/
theorem sp_yf_end {a : Addr} (h : wpAny M (A.over c fs) (callSpecial? (.ref a) "__next__") (fun _ _ => False) (fun e s2 => StopX e s2.heap ∧ SegP M A z c (.pure (.done (.ret .none))) fs s2) s) : SegP M A z c (un a (Builtin.«proto.yield_from» ⟨[.ref a, .bool false, .none], []⟩)) fs s := by
  unfold Builtin.«proto.yield_from»
  try dsimp only
  refine sp_un (wpAny_pure ?_)
  try dsimp only
  refine sp_un (wpAny_attempt (wpAny_holding ?_))
  rw [if_neg Bool.false_ne_true, if_pos (show (Value.none == Value.none) = true from rfl)]
  refine wpAny_bind (wpAny_rule (wpAny_bind ?_))
  refine wpAny_mono h (fun _ _ x => x.elim) fun e s2 ⟨hx, h⟩ => ?_
  obtain ⟨b, o, vs, rfl, hoa, hcls, hdat, h5⟩ := hx
  try dsimp only
  refine sp_un (wpAny_endsTurn hoa hcls ?_)
  try dsimp only
  rw [if_pos rfl]
  first
    | refine sp_un (wpAny_rule ?_)
    | (rw [if_neg Bool.false_ne_true]; refine sp_un (wpAny_rule ?_))
    | (rw [if_neg Bool.false_ne_true]; refine sp_un (wpAny_pure ?_); refine sp_un (wpAny_rule ?_))
  refine sp_un (wpAny_field hoa hdat h5 ?_)
  exact h
end
end KQ

end KqYf_text
section KqYfT_text
set_option Elab.async false
set_option linter.all false
set_option maxRecDepth 100000
set_option maxHeartbeats 4000000
/-! a turn of «yield from» over a generator that hands a value on -/
namespace KQ
open PySem PySem.Spec PyProof.Rows L2
section
variable {prog : Program} {w : World} {A : Around} {z : End → Shared → Prop} {fs : List Frame} {s : Shared}
theorem mark_cls {o : Obj} {n : Int} : (mark o n).cls = o.cls := rfl
theorem mark_data {o : Obj} {n : Int} : (mark o n).data = o.data := rfl
theorem mark_gen {o : Obj} {n : Int} (hc : o.cls = .type "generator") (hd : ∃ (g : Nat) (nm qn : Value), o.data = .fields #[.int g 0, nm, qn]) : isGen (some (mark o n)) = true := by
  obtain ⟨g, nm, qn, hd⟩ := hd
  obtain ⟨c, di, da, sl⟩ := o
  have hc : c = .type "generator" := hc
  have hd : da = .fields #[.int g 0, nm, qn] := hd
  subst hc hd
  rfl
theorem mark_slots {o : Obj} {n : Int} (h : o.slots = #[] ∨ ∃ m, o.slots = #[some (.int m 0)]) : (mark o n).slots = #[some (.int n 0)] := by
  show (o.slots ++ Array.replicate (0 + 1 - o.slots.size) none).setIfInBounds 0 (some (rawInt n)) = _
  rcases h with h | ⟨m, h⟩
  · rw [h]; rfl
  · rw [h]; rfl
theorem un_yield {a : Addr} {v : Value} {α : Type} {k : Resume → Sem α} : un a (.yield v true [] k) = .loadIfAlive a fun o => match isGen o with
    | true => .yield v false [.ellipsis] fun x => un a (k x)
    | false => .unsupported "" := by
  simp only [un] <;> rfl
theorem un_pure {a : Addr} {α : Type} {x : α} : un a (.pure x) = .pure x := by simp only [un]
/-- the state when it sleeps: own mark 1; when woken: mark 0 -/
theorem sp_yf_turn {a : Addr} (hsp : splitAtGen fs = none) (h : wpAny (M2 prog w) (A.over (yfCode a) fs) (callSpecial? (.ref a) "__next__") (fun r s2 => ∃ v o, r = some v ∧ s2.heap.get? a = some o ∧ o.cls = .type "generator" ∧ (∃ (g : Nat) (nm qn : Value), o.data = .fields #[.int g 0, nm, qn]) ∧ (o.slots = #[] ∨ o.slots = #[some (.int 0 0)]) ∧
    ∀ (k : Resume → Sem PySem.Fin), (∀ s3 z', s3.heap.get? a = some (mark o 1) → SegP (M2 prog w) A z' (yfCode a) (.pure (.again (yfCode a))) fs { s3 with heap := s3.heap.update a fun o => mark o 0 } → SegP (M2 prog w) A z' (yfCode a) (k (.send .none)) fs s3) →
      ∀ p, z (.susp v false [.ellipsis] k (yfCode a) p fs) { s2 with heap := s2.heap.update a fun o => mark o 1 }) (fun e s2 => False) s) :
    SegP (M2 prog w) A z (yfCode a) (un a (Builtin.«proto.yield_from» ⟨[.ref a, .bool false, .none], []⟩)) fs s := by
  unfold Builtin.«proto.yield_from»
  try dsimp only
  refine sp_un (wpAny_pure ?_)
  try dsimp only
  refine sp_un (wpAny_attempt (wpAny_holding ?_))
  rw [if_neg Bool.false_ne_true, if_pos (show (Value.none == Value.none) = true from rfl)]
  refine wpAny_bind (wpAny_rule (wpAny_bind ?_))
  refine wpAny_mono h (fun r s2 ⟨v, o, e, ho, hc, hd, hs, hy⟩ => ?_) fun _ _ x => x.elim
  subst e
  refine wpAny_pure ?_
  try dsimp only
  refine sp_un (wpAny_typeOf (T := "generator") ⟨o, ho, hc⟩ ?_)
  try dsimp only
  obtain ⟨cl, hcl⟩ := close_gen
  first
    | (refine sp_un (wpAny_of_eq hcl ?_); refine sp_un (wpAny_pure ?_))
    | refine sp_un (wpAny_bind (wpAny_of_eq hcl (wpAny_pure ?_)))
    | refine sp_un (wpAny_of_eq hcl ?_)
  try dsimp only
  have n0 : (match (o.slots[0]? : Option (Option Value)) with | some (some (Value.int n _)) => n | _ => 0) = 0 := by
    rcases hs with hs | hs <;> rw [hs] <;> rfl
  refine sp_un (wp_slept (n := 0) ho hc n0 ?_)
  rw [if_pos rfl]
  have hfr : ∀ n : Int, (mark o n).isFreed = false := fun n => by
    obtain ⟨g, nm, qn, hd⟩ := hd
    exact Obj.isFreed_of_fields (show (mark o n).data = _ from hd)
  have h2 : ((s2.heap.update a fun o => mark o 1).get? a) = some (mark o 1) := Heap.get?_update_self _ ho (hfr 1)
  rw [un_bind']
  show SegP _ _ _ _ ((un a (.yield v true [] .pure)).bind _) _ _
  rw [un_yield]
  show SegP _ _ _ _ (.loadIfAlive a _) _ _
  refine sp_alive ?_
  show SegP _ _ _ _ (Sem.bind (match isGen ((s2.heap.update a fun o => mark o 1).get? a) with | true => .yield v false [.ellipsis] fun x => un a (.pure x) | false => .unsupported "") _) _ _
  rw [h2, mark_gen hc hd]
  show SegP _ _ _ _ (.yield v false [.ellipsis] _) _ _
  refine sp_yield hsp fun p => hy _ (fun s3 z' h3 hw => ?_) p
  show SegP _ _ _ _ ((un a (.pure (Resume.send .none))).bind _) _ _
  rw [un_pure]
  show SegP _ _ _ _ (un a (Builtin.Generator.sleptOver (.ref a) false >>= fun _ => _)) _ _
  have n1 : (match ((mark o 1).slots[0]? : Option (Option Value)) with | some (some (Value.int n _)) => n | _ => 0) = 1 := by
    rw [mark_slots (hs.imp id fun z => ⟨0, z⟩)]
    rfl
  refine sp_un (wp_slept (n := 1) h3 hc n1 ?_)
  rw [if_neg Bool.false_ne_true]
  try dsimp only
  refine sp_un (wpAny_pure ?_)
  exact hw
end
end KQ

end KqYfT_text
section KqYfG_text
set_option Elab.async false
set_option linter.all false
set_option maxRecDepth 100000
set_option maxHeartbeats 4000000
/-! «yield from» over a generator, within a generator def -/
namespace KQ
open PySem PySem.Spec PyProof.Rows L2
def gYf (tg : TMk) : TG2 := fun D its Hw σ H => tg σ H fun jts Fin H1 => SameT Hw H1 ∧ ∃ r, its = jts ++ r ∧ ∀ Hw' H', SameT Hw' H' → SameT H1 H' → Fin H' → D.nx r Hw' σ H'
theorem sp_ownv {prog : Program} {w : World} {A : Around} {z : End → Shared → Prop} {fs : List Frame} {s : Shared} {c c' : Code} {K : Value → Sem PySem.Fin} {J : Value → Sem PySem.Fin} {gd : Bool → Bool} {lv : List Value → List Value}
    (h : ∀ p (k : Result → Sem PySem.Fin), k (.ok (.ret .none)) = K .none → SegP (M2 prog w) A z c' ((M2 prog w).den c') (.ret k none (gd false) (lv []) c p [] :: fs) s) : SegP (M2 prog w) A z c ((runValue c').wrap K J gd lv) fs s :=
  sp_call fun p => h p _ rfl
/-- the mark changes -/
theorem gs_mark {d : Gd} {s0 : Shared} {H0 : Hp} {pn : List (Addr × Obj)} {gz0 : Gz} {ip own : List (Addr × Obj)} {gz : Gz} {σ : L2.St} {H : Hp} {s : Shared} {a : Addr} {o : Obj} {n : Int} (ok : d.Ok) (g : Gs d s0 H0 pn gz0 (ip ++ (a, o) :: own) gz σ H s) (hl : d.env.locals < a)
    (h3 : ∀ p ∈ ip ++ own, p.1 ≠ a) (hv : ∃ vs, o.data = .fields vs) : Gs d s0 H0 pn gz0 (ip ++ (a, mark o n) :: own) gz σ H { s with heap := s.heap.update a fun o => mark o n } := by
  have pa := g.dis (a, o) (List.mem_append_right _ List.mem_cons_self)
  refine ⟨turned_pins (f := fun o => mark o n) g.inv rfl ?_ (fun x c e => ?_) (fun p hp => ?_) rfl hv, fun p hp => ?_, g.gens, g.gr, g.lt, g.num, g.os⟩
  · show (cutH d.env.locals s0.heap).objs.size ≤ a
    rw [cut_size]
    exact Nat.le_trans (Nat.min_le_left _ _) (Nat.le_of_lt hl)
  · have e : d.env.cells.lookup x = some c := e
    rw [ok.cells] at e
    cases e
  · rw [List.append_assoc] at hp
    rcases List.mem_append.mp hp with hp | hp
    · exact pa.1 p hp
    · exact h3 p hp
  · rcases List.mem_append.mp hp with hp | hp
    · exact g.dis p (List.mem_append_left _ hp)
    · rcases List.mem_cons.mp hp with hp | hp
      · rw [hp]
        exact pa
      · exact g.dis p (List.mem_append_right _ (List.mem_cons_of_mem _ hp))
section
variable {d : Gd}
theorem gt_yf {e : Expr} {yp pos : Pos} {tg : TMk} {k : Nat} (ok : d.Ok) (hr : Room (k + 2) (d.A.deeper d.env)) (he : ∀ s0 H0 pn, PMk (d.cx s0 H0 pn) k e tg) (hi : interactive d.env = false) : GT d (.Expr (.YieldFrom e yp) pos) (gYf tg) := by
  refine ⟨fun Fin its s0 H0 pn gz0 ip gz σ H s c fs K J gd lv D gc kc gs ht => ?_⟩
  rw [exec_Expr d.env _ pos hi rfl]
  refine sp_bindw (wpAny_standAt ?_)
  show SegP _ _ _ _ (Sem.wrap K J gd lv ((eval e d.env >>= fun v => standAt yp >>= fun _ => yieldFrom d.env v) >>= fun x => dropValue (.YieldFrom e yp) pos x)) _ _
  refine sp_bindw2 ?_
  rw [gc.over]
  refine wpAny_mono (wpAny_go (lk_stuck s) ((he s0 H0 pn).run ip (stuckS s) σ H _ (inv_stuck gs.inv) (fun _ _ => .inr trivial) ht)) (fun v s' ⟨s1, lk, jts, Fin', H1, a, gn, L, cc, o, oL, d', ev, hgn, mk, sm0, r, eits, last⟩ => ?_) fun x s2 ⟨_, _, z⟩ => (show False from z).elim
  subst ev
  refine sp_bindw (wpAny_standAt ?_)
  unfold yieldFrom
  refine sp_bindw ?_
  rw [gc.over]
  refine wpAny_mono (wpAny_go lk (show wpAny (model d.prog d.w) (d.A.deeper d.env) (typeOf (.ref a)) (fun t s3 => t = .type "generator" ∧ s3 = s1) (fun _ _ => False) s1 from wpAny_typeOf (T := "generator") (GenO.of mk.gen mk.at_).typeIs ⟨rfl, rfl⟩)) (fun t s' ⟨s3, lk1, e1, e2⟩ => ?_) fun x s2 ⟨_, _, z⟩ => (show False from z).elim
  subst e1 e2
  rw [if_neg (by decide)]
  refine sp_bindw (wpAny_holding ?_)
  rw [gc.over]
  refine wpAny_mono (wpAny_go lk1 (wpAny_pyIter_gen (E := fun _ _ => False) (Q := fun u s4 => u = .ref a ∧ s4 = s3) mk.gen ⟨rfl, rfl⟩)) (fun itv s2 ⟨s4, lk2, e1, e2⟩ => ?_) fun x s2 ⟨_, _, z⟩ => (show False from z).elim
  subst e1 e2
  have gs2 := gs_woke gs mk.inv lk2.woke
  have hgn : s.gens.size ≤ gn := by
    have e : (stuckS s).gens.size = s.gens.size := Array.size_map ..
    rw [← e]
    exact hgn
  have st2 : s2.gens[gn]? = some (.fresh cc) := by
    have e : asleep s gn = none := by
      unfold asleep
      rw [Array.getElem?_eq_none hgn]
      rfl
    rw [lk2.2.1.oth gn e, mk.st]
    rfl
  have hh := (woke_heap lk2.woke).1
  have go2 : GenO s2.heap a gn o := by
    rw [hh]
    exact GenO.of mk.gen mk.at_
  have nocell : ∀ x c, d.env.cells.lookup x = some c → c < L := fun x c e => by
    rw [ok.cells] at e
    cases e
  have inn : ∀ s0 H0 pn, s0.os = d.os → Inner (d.cx s0 H0 pn) (d.A.deeper d.env).in1 a gn L { d' with A := (d.A.deeper d.env).in1.in1 } := fun s0' H0 pn e =>
    ⟨rfl, hr.hd, by have := hr.dp; show (d.A.deeper d.env).depth < _; omega, Around.frames_deeper ok.frames, mk.prog, mk.w, mk.K, mk.mg, mk.base, mk.outer, mk.loc, mk.num, (mk.os.trans gs.os).trans e.symm, mk.lt, mk.la, nocell⟩
  have hL : d.env.locals < L := mk.lt
  have S : Sep d ip gz a gn L := ⟨mk.lt, mk.la, fun p hp => mk.pins p (List.mem_append_right _ hp), fun q hq => Nat.lt_of_lt_of_le (Array.getElem?_eq_some_iff.mp (gs.gens q hq).1).1 hgn, Nat.lt_of_lt_of_le gs.num (Nat.le_trans gs.gr.size hgn), ok.olt⟩
  have hnf : ∀ b, d.env.locals < b → b ≠ d.env.locals ∧ b ∉ frs d.outer := fun b hb => ⟨Nat.ne_of_gt hb, fun z => absurd (ok.olt b z) (Nat.not_lt.mpr (Nat.le_of_lt hb))⟩
  have hLa : d.env.locals < a := Nat.lt_trans hL mk.la
  have d2e : ∃ d2 : Gd, d2 = { d' with A := (d.A.deeper d.env).in1.in1 } := ⟨_, rfl⟩
  obtain ⟨d2, ed2⟩ := d2e
  rw [← ed2] at inn
  have hgd : gd false = false := gc.gd
  refine sp_ownv fun p0 kk hkk => ?_
  have hkn : kk (.ok (.ret .none)) = K .next := hkk
  have hsp : splitAtGen (Frame.ret kk none (gd false) (lv []) c p0 [] :: fs) = none := by
    show (splitAtGen fs).map _ = none
    rw [gc.split]
    rfl
  have ov : d.A.over (yfCode a) (.ret kk none (gd false) (lv []) c p0 [] :: fs) = (d.A.deeper d.env).in1 := by
    rw [over_yf (plainId_weight plain_yf _) (plainId_units plain_yf _), gc.over]
  have loop : ∀ rest o x own gzi s0 H0 pn gz0 H s, SameT H0 H → SameT H1 H → GsI d d2 a gn L o Fin' rest x own gzi s0 H0 pn gz0 ip gz σ H s → (∃ Hs', Same Hs' H ∧ Sleep d2 Fin' rest x own gzi Hs') →
      Run2 d Fin (rest ++ r) s0 H0 pn gz0 (yfCode a) ((M2 d.prog d.w).den (yfCode a)) (.ret kk none (gd false) (lv []) c p0 [] :: fs) s := by
    intro rest
    induction rest with
    | nil =>
      intro o x own gzi s0 H0 pn gz0 H s m0 m1 G sl
      rw [den_yf2]
      refine sp_yf_end ?_
      rw [ov]
      refine wpAny_mono (inner_special (gsi_base G) (inn s0 H0 pn G.gs.os) (gsi_asl G sl) rfl (gsi_hp G S)) (fun _ s4 ⟨v, _, h4⟩ => h4.elim) (fun e s4 ⟨hx, H2, I2, _, gr, sm, hf⟩ => ⟨hx, ?_⟩)
      exact sp_leaf (.ok (.ret .none)) (by rw [hkn]; exact kc r s0 H0 pn gz0 .next s4 ⟨σ, H2, gsi_end G S I2 gr, last H0 H2 (m0.trans sm) (m1.trans sm) hf⟩)
    | cons it rest ih =>
      intro o x own gzi s0 H0 pn gz0 H s m0 m1 G sl
      rw [den_yf2]
      refine sp_yf_turn hsp ?_
      rw [ov]
      refine wpAny_mono (inner_special (gsi_base G) (inn s0 H0 pn G.gs.os) (gsi_asl G sl) rfl (gsi_hp G S)) (fun _ s4 ⟨v, e, h4⟩ => ?_) (fun e s4 ⟨_, h4⟩ => h4.elim)
      obtain ⟨x', own', gz', y, H2, I2, rv, hit, sm, as', xs', dj, gr, nw⟩ := h4
      have ge := as'.gen
      obtain ⟨nm, qn, hdat⟩ := ge.dat
      refine ⟨v, o, e, ge.at_, ge.cls, ⟨gn, nm, qn, hdat⟩, ge.slots, fun kz hkz p => ?_⟩
      have gs4 := gsi_next G S I2 as' xs' dj gr nw
      have h3 : ∀ p ∈ ip ++ own', p.1 ≠ a := fun p hp => by
        rcases List.mem_append.mp hp with hp | hp
        · exact Nat.ne_of_lt (Nat.lt_trans (S.pins p hp) S.la)
        · exact (as'.keep p hp).2.2.2.2
      have gs5 := gs_mark (n := 1) ok gs4 hLa h3 ⟨_, hdat⟩
      obtain ⟨m, ⟨oL5, es, ep, eL5, nr⟩, hl⟩ := gs5.inv.loc
      have eL5 : (s4.heap.update a fun o => mark o 1).get? d.env.locals = some oL5 := eL5
      have hcell : ∀ v, oL5.data ≠ .cell v := fun v z => by rw [nr.1] at z; cases z
      have fr : H2 d.env.locals = none := gs5.inv.free
      have lmem : ∀ q ∈ pn, q.1 ≠ d.env.locals := fun q hq => (gs5.inv.pin q (List.mem_append_left _ hq)).2.2.1
      refine ⟨?_, v, false, _, _, yfCode a, p, _, rfl, y, H2, (d.env.locals, oL5) :: (ip ++ (a, mark o 1) :: own'), gz ++ zs gn x' gz', rv, hit, gs5.after, gs5.gr, m0.trans sm, ?_, gs5.gens, ?_⟩
      · show (!(false || (gd false || fs.any Frame.guarded))) = true
        rw [gc.guard, hgd]
        rfl
      · intro p hp
        rcases List.mem_cons.mp hp with hp | hp
        · rw [hp]
          exact ⟨eL5, fr, hcell, Nat.le_refl _, lmem⟩
        · obtain ⟨a1, a2, a3, a4, a5⟩ := gs5.inv.pin p (List.mem_append_right _ hp)
          exact ⟨a1, a2, a5, (gs5.dis p hp).2, (gs5.dis p hp).1⟩
      · show Sleep d Fin (rest ++ r) _ _ _ _
        rw [sleep_iff]
        intro s6 H6 pn6 w
        have g6 := gs_wake ok gs5.inv eL5 (fun p hp => (gs5.dis p hp).2) (fun q hq => ⟨(gs5.gens q hq).2.1, (gs5.gens q hq).2.2.1⟩) w
        have pa := g6.inv.pin (a, mark o 1) (List.mem_append_right _ (List.mem_append_right _ List.mem_cons_self))
        refine hkz s6 _ pa.1 (sp_again (plainId_quiet plain_yf _) ?_)
        have g7 := gs_mark (n := 0) ok g6 hLa h3 ⟨_, hdat⟩
        have pa7 := g7.inv.pin (a, mark (mark o 1) 0) (List.mem_append_right _ (List.mem_append_right _ List.mem_cons_self))
        have mw : SameT H2 H6 := SameT.of w.rel
        obtain ⟨Hs2, sm2, sl2⟩ := as'.sleeps
        refine ih (mark (mark o 1) 0) x' own' gz' s6 H6 pn6 (gz ++ zs gn x' gz') H6 _ (SameT.refl) ((m1.trans sm).trans mw) ⟨g7, ?_, ⟨pa7.1, ge.cls, ⟨nm, qn, hdat⟩, .inr (mark_slots (.inr ⟨1, mark_slots ?_⟩))⟩, fun p hp => (as'.keep p hp).2.2.2, fun q hq => ⟨(as'.gens q hq).2.2, xs'⟩, .inl xs'⟩ ⟨Hs2, sm2.trans w.rel, sl2⟩
        · exact (g7.gens (gn, x') (by rw [zs_susp xs']; exact List.mem_append_right _ List.mem_cons_self)).1
        · exact ge.slots.imp id fun z => ⟨0, z⟩
  have ndat : ∀ v, o.data ≠ .cell v := fun v z => by
    obtain ⟨nm, qn, e⟩ := go2.dat
    rw [e] at z
    cases z
  have pnL : ∀ q ∈ pn, q.1 < L := fun q hq => mk.pins q (List.mem_append_left _ hq)
  have i2 : Inv (d.cx s0 H0 pn) (ip ++ (a, o) :: [(L, oL)]) σ H1 s2 := gs2.inv.pins_of fun p hp => by
    rcases List.mem_append.mp hp with hp | hp
    · exact gs2.inv.pin p (List.mem_append_right _ hp)
    · rcases List.mem_cons.mp hp with hp | hp
      · rw [hp]
        exact ⟨go2.at_, mk.free, (hnf a hLa).1, (hnf a hLa).2, ndat⟩
      · rw [List.mem_singleton.mp hp]
        exact ⟨by rw [hh]; exact mk.ns, mk.nfree, (hnf L hL).1, (hnf L hL).2, mk.ncell⟩
  have zs0 : zs gn (.fresh cc) [] = [] := rfl
  rw [eits]
  refine loop jts o (.fresh cc) [(L, oL)] [] s0 H0 pn gz0 H1 s2 sm0 SameT.refl ⟨⟨i2, fun p hp => ?_, fun q hq => ?_, ?_, gs2.lt, gs2.num, gs2.os⟩, st2, go2, fun p hp => ?_, fun q hq => by simp at hq, .inr (Nat.le_trans gs.gr.size hgn)⟩ ⟨H1, Same.refl H1, ?_⟩
  · rcases List.mem_append.mp hp with hp | hp
    · exact gs2.dis p hp
    · rcases List.mem_cons.mp hp with hp | hp
      · rw [hp]
        exact ⟨fun q hq => Nat.ne_of_lt (Nat.lt_trans (pnL q hq) mk.la), Nat.le_of_lt hLa⟩
      · rw [List.mem_singleton.mp hp]
        exact ⟨fun q hq => Nat.ne_of_lt (pnL q hq), Nat.le_of_lt hL⟩
  · rw [zs0, List.append_nil] at hq
    exact gs2.gens q hq
  · rw [zs0, List.append_nil]
    exact gs2.gr
  · rw [List.mem_singleton.mp hp]
    exact ⟨Nat.le_refl _, Nat.ne_of_lt mk.la⟩
  · rw [ed2]
    exact mk.sleeps _ (hr.in1.in1) (Around.frames_deeper ok.frames)
end
end KQ

end KqYfG_text
section KqCall_text
set_option Elab.async false
set_option linter.all false
set_option maxRecDepth 100000
set_option maxHeartbeats 4000000
/-! A generator def's promise by its body -/
namespace KQ
open PySem PySem.Spec PyProof.Rows L2
/-- a generator def's names -/
structure GSc (N P : List Str) (sc : Scope) : Prop where
  kind : sc.kind = .function
  co : sc.isCoroutine = false
  gen : sc.isGenerator = true
  nd : N.Nodup
  pre : N.take P.length = P
  par : ∀ x ∈ P, sc.names.lookup x = some .local
  nocell : ∀ y ∈ sc.names, y.2 ≠ .cell ∧ y.2 ≠ .free
theorem cells_nil : ∀ (l : List (Str × NameKind)) (n : Nat), (∀ y ∈ l, y.2 ≠ .cell) → cellsFrom n l [] = []
  | [], _, _ => rfl
  | (x, k) :: r, n, h => by
    have hk : (k == NameKind.cell) = false := by
      have := h (x, k) List.mem_cons_self
      cases k <;> first | rfl | exact absurd rfl this
    show (if (k == .cell) = true then _ else _) = _
    rw [hk, if_neg Bool.false_ne_true]
    exact cells_nil r n fun y hy => h y (List.mem_cons_of_mem _ hy)
/-- the arguments, the heap; what will be handed out, what holds at the end -/
abbrev SpM := List V → Hp → List Item → (Hp → Prop) → Prop
def GE.fin (Fin : Hp → Prop) : GE := { nx := fun its Hw _ H => its = [] ∧ SameT Hw H ∧ Fin H, rt := fun its Hw v H => v = .non ∧ its = [] ∧ SameT Hw H ∧ Fin H }
def MMade (P : Program) (w : World) (K : PySem.W.Frag) (mg : Str → Option Value) (base : Heap) (k : Nat) (outer : List Env) (H : Hp) (s : Shared) (its : List Item) (Fin : Hp → Prop) (u : Value) (s' : Shared) : Prop :=
  ∃ a L c o oL, ∃ d : Gd, u = .ref a ∧ s.heap.objs.size ≤ L ∧ L < a ∧ s'.heap.IsGen a s.gens.size ∧ s'.heap.get? a = some o ∧ s'.gens = s.gens.push (.fresh c) ∧ s'.heap.get? L = some oL ∧ (∀ v, oL.data ≠ .cell v) ∧ s'.os = s.os ∧ (∀ b o, s.heap.get? b = some o → s'.heap.get? b = some o) ∧
    (d.prog = P ∧ d.w = w ∧ d.K = K ∧ d.mg = mg ∧ d.base = base ∧ d.outer = outer ∧ d.env.locals = L ∧ d.gn = s.gens.size ∧ d.os = s.os) ∧ s.heap.objs.size ≤ a ∧ ∀ A, Room k A → A.frames = some outer → Sleep { d with A := A } Fin its (.fresh c) [(L, oL)] [] H
structure MFn (P : Program) (w : World) (K : PySem.W.Frag) (mg : Str → Option Value) (base : Heap) (k : Nat) (f : Addr) (fd : FuncData) (ps : List Str) (sp : SpM) : Prop where
  len : ∀ vs H its Fin, sp vs H its Fin → vs.length = ps.length
  run : ∀ (A : Around) (outer : List Env) (s : Shared) (H : Hp) (args : Args) (us : List Value) (vs : List V) (its : List Item) (Fin : Hp → Prop), Room k A → Env0 P w K mg base A outer s H → BindsTo s fd args (ps.zip us) → Vals vs us → sp vs H its Fin →
    codeAny (model P w) A (.call (.ref f) args) (fun r s' => match r with | .ok (.ret u) => MMade P w K mg base k outer H s its Fin u s' | _ => False) s
theorem sp_func {prog : Program} {w : World} {A : Around} {z : End → Shared → Prop} {s : Shared} {env : Env} {body : List Stmt} {fs : List Frame}
    (h : SegP (M2 prog w) A z (.func body env) ((execs body env).wrap (fun f => .pure (.done (.ret (match f with | .ret v => v | _ => .none)))) (fun e => (leaving env e).wrap (fun _ => .raise e) .raise id id) id id) fs s) :
    SegP (M2 prog w) A z (.func body env) ((M2 prog w).den (.func body env)) fs s := by
  show SegP _ A z _ (.point [] fun _ => ((execs body env).onRaise (leaving env)) >>= _) fs s
  refine sp_point ?_
  rw [Sem.onRaise_eq_wrap, Sem.bind_eq_wrap', Sem.wrap_wrap]
  rw [Sem.wrap_congr (execs body env) _ _ (K' := fun f => .pure (.done (.ret (match f with | .ret v => v | _ => .none)))) (H' := fun e => (leaving env e).wrap (fun _ => .raise e) .raise id id) (fun f => by cases f <;> rfl)
    (fun e => by rw [Sem.bind_eq_wrap, Sem.wrap_wrap]; rfl)]
  exact h
/-- THE RULE: a generator def, by its body -/
theorem mfn_of {P : Program} {w : World} {K : PySem.W.Frag} {mg : Str → Option Value} {base : Heap} {k : Nat} {f : Addr} {name qual : Str} {params : Arguments} {body : List Stmt} {scope : Scope} {dV kV doc pm cdv ct oc : Value} {an od : Option Addr}
    {osl : Array (Option Value)} {N ps : List Str} {sp : SpM} (lk : K.lookup f = some ⟨oc, od, .func (PySem.W.fnOf name qual params body scope dV kV doc pm an cdv ct), osl⟩) (hcd : PySem.W.codeIn K cdv qual = true) (S : GSc N ps scope)
    (len : ∀ vs H its Fin, sp vs H its Fin → vs.length = ps.length)
    (hbody : ∀ (d : Gd) (L : Addr) (vs : List V) (H : Hp) (its : List Item) (Fin : Hp → Prop), d.prog = P → d.w = w → d.K = K → d.mg = mg → d.base = base → d.N = N → d.env = envOfC qual scope L f cdv → d.Ok → Room k (d.A.deeper d.env) → sp vs H its Fin →
      ∃ t, GTs d body t ∧ ∀ H', Same H H' → t (GE.fin Fin) its H' (L2.start N vs) H') :
    MFn P w K mg base (k + 1) f (PySem.W.fnOf name qual params body scope dV kV doc pm an cdv ct) ps sp := by
  refine ⟨len, fun A outer s H args us vs its Fin hr e0 hb r hsp => ?_⟩
  have hl := len _ _ _ _ hsp
  have KX : K.In s.heap := e0.mod.kin.keeps fun b o e => (e0.bs b o e).1
  have lim : s.heap.NoLimit := e0.mod.nolimit.keeps fun b o e => (e0.bs b o e).1
  have hkind : ∀ y ∈ ps.zip us, scope.names.lookup y.1 = some .local ∨ (scope.names.lookup y.1 = some .cell ∧ ((cellsFrom (s.heap.objs.size + 1) scope.names []).lookup y.1).isSome = true) := fun ⟨n, v⟩ hy => .inl (S.par n (List.of_mem_zip hy).1)
  refine codeAny_call_generator hr.depth (KX _ _ lk) rfl S.co S.gen rfl (PySem.W.codeRec_of KX hcd) (hb _ _ _ _ ?_)
  refine wpAny_newFunctionEnv_cells S.kind hkind fun env he s1 x => ?_
  subst he
  have lim1 : s1.heap.NoLimit := lim.keeps x.toInCall.keep
  refine ⟨lim1, ?_⟩
  obtain ⟨h1, tk, es1, hk1⟩ := x.done
  have os1 : s1.os = s.os := by rw [es1]
  have gen1 : s1.gens = s.gens := by rw [es1]
  have lt1 : s.heap.objs.size < s1.heap.objs.size := x.toInCall.ns.lt
  have sz1 : s.heap.objs.size ≤ s1.heap.objs.size := Nat.le_of_lt lt1
  have kp1 : ∀ b o, s.heap.get? b = some o → s1.heap.get? b = some o := x.toInCall.keep
  have cn : cellsFrom (s.heap.objs.size + 1) scope.names [] = [] := cells_nil _ _ fun y hy => (S.nocell y hy).1
  have nk : ∀ y, scope.names.lookup y ≠ some .cell ∧ scope.names.lookup y ≠ some .free := fun y => ⟨fun z => (S.nocell _ (PySem.mem_of_lookup z)).1 rfl, fun z => (S.nocell _ (PySem.mem_of_lookup z)).2 rfl⟩
  obtain ⟨oL, es, ep, eL, nr⟩ := id x.toInCall.ns
  have main : ∀ (go : Obj) (nm qn : Value) (tk2 : Nat), go.cls = .type "generator" → go.data = .fields #[.int s1.gens.size 0, nm, qn] → go.slots = #[] → (∀ h : Heap, (h.push go).get? h.objs.size = some go) →
      MMade P w K mg base (k + 1) outer H s its Fin (.ref s1.heap.objs.size) { s1 with gens := s1.gens.push (.fresh (.func body (envOfC qual scope s.heap.objs.size f cdv))), toks := tk2, heap := s1.heap.push go } := by
    intro go nm qn tk2 hgc hgd0 hgs hgp
    have hpushed : (s1.heap.push go).get? s1.heap.objs.size = some go := hgp _
    refine ⟨s1.heap.objs.size, s.heap.objs.size, _, go, oL, ⟨P, w, K, mg, base, A, N, envOfC qual scope s.heap.objs.size f cdv, outer, s.gens.size, s.os⟩, rfl, Nat.le_refl _, lt1, ⟨go, nm, qn, hpushed, hgc, by rw [← gen1]; exact hgd0, hgs⟩, hpushed, by rw [← gen1], Heap.get?_push_of_some _ eL, fun v z => ?_, os1,
      fun b o e => Heap.get?_push_of_some _ (kp1 b o e), ⟨rfl, rfl, rfl, rfl, rfl, rfl, rfl, rfl, rfl⟩, sz1, fun Aw hrw hfr => ?_⟩
    · rw [nr.1] at z
      cases z
    have d2 : ∃ d : Gd, d = ⟨P, w, K, mg, base, Aw, N, envOfC qual scope s.heap.objs.size f cdv, outer, s.gens.size, s.os⟩ := ⟨_, rfl⟩
    obtain ⟨d, ed⟩ := d2
    show Sleep ⟨P, w, K, mg, base, Aw, N, envOfC qual scope s.heap.objs.size f cdv, outer, s.gens.size, s.os⟩ Fin its _ _ _ _
    rw [← ed]
    have dok : d.Ok := by
      rw [ed]
      refine ⟨e0.mod, S.kind, rfl, rfl, cn, nk, hrw.hd, hfr, rfl, e0.bsz, fun b hb => ?_⟩
      obtain ⟨_, o, e, _⟩ := Heap.FunFrames.mem e0.funs hb
      exact Heap.lt_size e
    obtain ⟨t, ht, hq⟩ := hbody d s.heap.objs.size vs H its Fin (by rw [ed]) (by rw [ed]) (by rw [ed]) (by rw [ed]) (by rw [ed]) (by rw [ed]) (by rw [ed]) dok (by rw [ed]; exact hrw.deeper _) hsp
    have hokS : HOk d.prog d.w H s1.heap := by
      rw [ed]
      exact e0.hok.kept kp1
    have e0' : Env0 d.prog d.w d.K d.mg d.base d.A d.outer s1 H := by
      rw [ed]
      exact ⟨hfr, e0.mod, fun b o e => ⟨kp1 b o (e0.bs b o e).1, (e0.bs b o e).2⟩, Nat.le_trans e0.bsz sz1, e0.funs.of_keeps fun b o e _ => ⟨o, kp1 b o e, rfl⟩, e0.frf, e0.hok.kept kp1, by rw [gen1]; exact e0.bare⟩
    have noA : ∀ b : Addr, b ∉ (d.cx s1 H []).ex := fun b z => absurd (show b ∈ ([] : List Addr) from z) (by simp)
    have eloc : d.env.locals = s.heap.objs.size := by rw [ed]; rfl
    have nc : ∀ y c, d.env.cells.lookup y = some c → False := fun y c e => by
      rw [dok.cells] at e
      cases e
    have bl : ∀ {b o}, d.base.get? b = some o → b < d.env.locals := fun {b o} e => Nat.lt_of_lt_of_le (Heap.lt_size e) dok.bsz
    have hpl : ps.length ≤ N.length := by have := congrArg List.length S.pre; rw [List.length_take] at this; omega
    have dN : (d.cx s1 H []).N = N := by rw [ed]; rfl
    have I : Inv (d.cx s1 H []) [] (L2.start N vs) H s1 := by
      refine ⟨⟨dok.mod, dok.kind, dok.glob, dok.blt, ?_, fun y z c e _ => (nc y c e).elim, fun y e => ?_, fun y c _ e => (nc y c e).elim, fun _ => dok.hd, Around.frames_deeper dok.frames, .inr ⟨rfl, dok.fr⟩, fun b hb => absurd hb (noA b), fun b o e => ?_, ?_, fun b o _ hb => absurd hb (noA b), fun b hb => absurd hb (noA b),
        cut_frames e0'.funs dok.olt, e0'.frf⟩, rfl, e0'.bare, Un.kept fun b u e => (of_cut e).2, ?_, fun y c e => (nc y c e).elim, ?_, fun y c e => (nc y c e).elim, fun p hp => absurd (show p ∈ ([] : List (Addr × Obj)) from hp) (by simp), hokS, ?_⟩
      · show (cutH d.env.locals s1.heap).objs.size ≤ d.env.locals
        rw [cut_size]
        exact Nat.min_le_left _ _
      · rcases e with e | e
        · exact absurd e (dok.nocell y).1
        · exact absurd e (dok.nocell y).2
      · obtain ⟨e1, e2⟩ := e0'.bs b o e
        exact ⟨by show (cutH d.env.locals s1.heap).get? b = _; rw [cut_get (bl e)]; exact e1, e2⟩
      · show d.base.objs.size ≤ (cutH d.env.locals s1.heap).objs.size
        rw [cut_size]
        exact Nat.le_min.mpr ⟨dok.bsz, e0'.bsz⟩
      · refine ⟨bindL (envOfC qual scope s.heap.objs.size f cdv).kindOf (ps.zip us) fun _ => none, ?_, fun i y v h1 h2 h3 => ?_⟩
        · show s1.heap.Ns d.env.locals _
          rw [eloc]
          exact x.toInCall.ns
        · rw [dN] at h1
          have hi : i < vs.length := by
            unfold L2.start at h2
            by_cases hi : i < vs.length
            · exact hi
            · rw [List.getElem?_append_right (by simpa using hi)] at h2
              rw [List.getElem?_replicate] at h2
              split at h2 <;> cases h2
          have ha : vs[i]? = some v := by
            unfold L2.start at h2
            rw [List.getElem?_append_left (by simpa using hi), List.getElem?_map] at h2
            cases e : vs[i]? with
            | none => rw [e] at h2; cases h2
            | some a => rw [e] at h2; cases h2; rfl
          obtain ⟨u, hu, rv⟩ := r.get ha
          have hp : ps[i]? = some y := by
            rw [← S.pre, List.getElem?_take_of_lt (by omega)]; exact h1
          have ndP : ps.Nodup := by rw [← S.pre]; exact S.nd.sublist (List.take_sublist _ _)
          have kk := S.par y (List.mem_of_getElem? hp)
          refine ⟨u, rv, .inl ⟨?_, bindL_get ndP hp hu kk⟩⟩
          show d.env.kindOf y = some .local
          rw [ed]
          exact kk
      · show H d.env.locals = none
        rw [eloc]
        exact e0.hok.fresh (Nat.le_refl _)
      · rw [dN]
        unfold L2.start
        rw [List.length_append, List.length_map, List.length_replicate]
        omega
    rw [sleep_iff]
    intro s' H' pn' wk
    have g := gs_wake (ip := []) (gz := []) dok I (by show s1.heap.get? d.env.locals = _; rw [eloc]; exact eL) (fun p hp => by cases hp) (fun q hq => by cases hq) (by rw [eloc]; exact wk)
    show SegP (M2 d.prog d.w) d.A (Phi d Fin its [] s' H' pn') (.func body (envOfC qual scope s.heap.objs.size f cdv)) ((M2 d.prog d.w).den (.func body (envOfC qual scope s.heap.objs.size f cdv))) [] s'
    have ee : envOfC qual scope s.heap.objs.size f cdv = d.env := by rw [ed]
    rw [ee]
    refine sp_func ?_
    refine ht.run Fin its s' H' pn' [] [] [] (L2.start N vs) H' s' _ [] _ _ id id (GE.fin Fin) ⟨GenW.over_func, rfl, rfl, rfl⟩ (fun its2 s2 H2 pn2 gz2 fl s3 hp => ?_) g (hq H' wk.rel)
    cases fl with
    | next =>
      obtain ⟨σ', H3, g3, e, sm, hf⟩ := hp
      subst e
      exact sp_end (.ok (.ret .none)) ⟨rfl, H3, g3.after, g3.gr, sm, hf⟩
    | brk => obtain ⟨_, _, _, q⟩ := hp; exact (show False from q).elim
    | cont => obtain ⟨_, _, _, q⟩ := hp; exact (show False from q).elim
    | ret u =>
      obtain ⟨v, σ', H3, g3, rv, ev, e, sm, hf⟩ := hp
      subst ev e
      obtain rfl : u = Value.none := rv
      exact sp_end (.ok (.ret .none)) ⟨rfl, H3, g3.after, g3.gr, sm, hf⟩
  exact main _ _ _ _ rfl rfl rfl fun h => Heap.get?_push_size _ rfl
end KQ

end KqCall_text
section KqMk_text
set_option Elab.async false
set_option linter.all false
set_option maxRecDepth 100000
set_option maxHeartbeats 4000000
/-! Calls of generator defs -/
namespace KQ
open PySem PySem.Spec PyProof.Rows L2
theorem wpAny_gens {M : Model} {α : Type} {A : Around} {t : Sem α} {Q : α → Shared → Prop} {E : Value → Shared → Prop} {s : Shared} (h : wpAny M A t Q E s) : wpAny M A t (fun a s' => s.gens.size ≤ s'.gens.size ∧ Q a s') E s :=
  GenW.wpAny_gsz (Nat.le_refl _) (wpAny_mono h (fun a s' q m => ⟨m, q⟩) fun _ _ q _ => q)
section
variable {X : Cx} {k f : Nat} {fd : FuncData} {ps : List Str} {ds : List Value} {dvs : List V} {sp : SpM} {x : Str} {p pos : Pos}
theorem run_mfn {pins : List (Addr × Obj)} {σ : L2.St} {H : Hp} {s : Shared} {us : List Value} {vs : List V} {its : List Item} {Fin : Hp → Prop} {E1 : Value → Shared → Prop} {Q : Value → Shared → Prop} (F : MFn X.prog X.w X.K X.mg X.base k f fd ps sp) (hr : Room k X.A) (hb : Binds X.K fd ps ds) (hd : Vals dvs ds)
    (I : Inv X pins σ H s) (r : Vals vs us) (h : sp (vs ++ dvs) H its Fin) (hQ : ∀ a g L c o oL d s', s.gens.size ≤ g → Made X k pins σ H its Fin s' a g L c o oL d → Q (.ref a) s') :
    wpAny (model X.prog X.w) X.A (call (.ref f) us) Q E1 s := by
  have r2 : Vals (vs ++ dvs) (us ++ ds) := r.append hd
  have hl2 : (us ++ ds).length = ps.length := by rw [← r2.length]; exact F.len _ _ _ _ h
  refine wpAny_call (codeAny_mono (F.run X.A X.stack s H ⟨us, []⟩ (us ++ ds) (vs ++ dvs) its Fin hr I.env0 (hb s us I.kIn hl2) r2 h) fun r s' hq => ?_)
  cases r with
  | error e => exact False.elim hq
  | ok fl =>
    cases fl with
    | next => exact False.elim hq
    | brk => exact False.elim hq
    | cont => exact False.elim hq
    | ret u =>
      obtain ⟨a, L, c, o, oL, d, eu, hL, hLa, hg, ho, hgs, hoL, hcell, hos, hk, ⟨d1, d2, d3, d4, d5, d6, d7, d8, d9⟩, ha, hs⟩ := hq
      subst eu
      refine hQ a s.gens.size L c o oL d s' (Nat.le_refl _) ⟨?_, hg, ho, I.hok.fresh ha, by rw [hgs]; exact Array.getElem?_push_size .., hoL, I.hok.fresh hL, hcell, Nat.lt_of_lt_of_le I.lt hL, hLa, fun y c e => ?_, fun p hp => ?_, d1, d2, d3, d4, d5, d6, d7, d8, d9.trans I.os, hs⟩
      · refine I.call' (ch := []) hos (Un.kept hk) (I.hok.kept hk) ?_ fun b z => by simp at z
        rw [hgs]
        exact AllBare.push I.bare rfl
      · obtain ⟨v, oc, e1, _⟩ := I.cell y c e
        exact Nat.lt_of_lt_of_le (Heap.lt_size e1) hL
      · exact Nat.lt_of_lt_of_le (Heap.lt_size (I.pin p hp).1) hL
def mCall (sp : SpM) (dvs : List V) (t : TA) : TMk := fun σ H cont => t σ H fun vs H1 => ∃ its Fin, sp (vs ++ dvs) H1 its Fin ∧ cont its Fin H1
/-- f(e, ..) -/
theorem pm_call {e : Expr} {es : List Expr} {t : TA} (F : MFn X.prog X.w X.K X.mg X.base k f fd ps sp) (hr : Room k X.A) (hg : Gl X x) (hm : X.mg x = some (.ref f)) (hk : PySem.W.keepIn X.K (.ref f) = true) (hb : Binds X.K fd ps ds) (hd : Vals dvs ds)
    (ha : PA X (e :: es) t) (hdb : (x == ("__debug__" : Str)) = false := by decide) (he : starEach (e :: es) X.env = (false, eval e X.env) :: starEach es X.env := by rfl) (hpl : (backTo pos (starEach es X.env)).any (·.1) = false := by rfl) :
    PMk X k (.Call (.Name x p) (e :: es) [] pos) (mCall sp dvs t) := by
  refine ⟨fun pins s σ H cont I _ h => ?_⟩
  refine wpAny_Call_Name_kw (ld_glob I hg hm ?_ hdb)
  refine PySem.W.callWith_K (h₀ := X.base) I.ok.mod.kin hk (thn (wpAny_gens (ha.run pos pins s σ H _ I h)) fun us s1 ⟨hgs, vs, H1, I1, r, its, Fi, q, qc⟩ => ⟨I1.kIn, ?_⟩) he hpl
  exact run_mfn F hr hb hd I1 r q fun a g L c o oL d s' hgl m => ⟨its, Fi, H1, a, g, L, c, o, oL, d, rfl, Nat.le_trans hgs hgl, m, qc⟩
/-- f(e, .., *y) -/
theorem pm_callS2 {e : Expr} {es : List Expr} {t : TA} (F : MFn X.prog X.w X.K X.mg X.base k f fd ps sp) (hr : Room k X.A) (hg : Gl X x) (hm : X.mg x = some (.ref f)) (hk : PySem.W.keepIn X.K (.ref f) = true) (hb : Binds X.K fd ps ds) (hd : Vals dvs ds)
    (ha : PA X (e :: es) t) (hdb : (x == ("__debug__" : Str)) = false := by decide) (he : starEach (e :: es) X.env = (false, eval e X.env) :: starEach es X.env := by rfl) (hst : (backTo pos (starEach es X.env)).any (·.1) = true := by rfl) :
    PMk X k (.Call (.Name x p) (e :: es) [] pos) (mCall sp dvs t) := by
  refine ⟨fun pins s σ H cont I _ h => ?_⟩
  refine wpAny_Call_Name_kw (ld_glob I hg hm ?_ hdb)
  refine PySem.W.callWith_S2 (h₀ := X.base) I.ok.mod.kin hk (thn (wpAny_gens (ha.run pos pins s σ H _ I h)) fun us s1 ⟨hgs, vs, H1, I1, r, its, Fi, q, qc⟩ => ⟨I1.kIn, ?_⟩) he hst
  exact run_mfn F hr hb hd I1 r q fun a g L c o oL d s' hgl m => ⟨its, Fi, H1, a, g, L, c, o, oL, d, rfl, Nat.le_trans hgs hgl, m, qc⟩
end
end KQ

end KqMk_text
section KqDf_text
set_option Elab.async false
set_option linter.all false
set_option maxRecDepth 100000
set_option maxHeartbeats 4000000
/-! Generator defs that are called by their names -/
namespace KQ
open PySem PySem.Spec PyProof.Rows L2 Kk
/-- a generator def that is called by its name -/
structure MDf (P : Program) (w : World) (K : PySem.W.Frag) (mg : Str → Option Value) (base : Heap) (k : Nat) (x : Str) (ps : List Str) (sp : SpM) : Prop where
  ex : ∃ f fd, MFn P w K mg base k f fd ps sp ∧ mg x = some (.ref f) ∧ PySem.W.keepIn K (.ref f) = true ∧ Binds K fd ps []
theorem mdf_of {P : Program} {w : World} {K : PySem.W.Frag} {mg : Str → Option Value} {base : Heap} {x : Str} {st : Stmt} {N ps : List Str} {k : Nat} {sp : SpM} (F : At K mg x st) (S : GSc N ps (defScope st)) (len : ∀ vs H its Fin, sp vs H its Fin → vs.length = ps.length)
    (hb : ∀ (kV doc pm : Value) (an : Option Addr) (cdv ct : Value) (us : List Value), us.length = ps.length → bindArgs (PySem.W.fnOf x x (defArgs st) (defBody st) (defScope st) .none kV doc pm an cdv ct) ⟨us, []⟩ = pure (ps.zip us))
    (hbody : ∀ (A : Around) (outer : List Env) (gn : Nat) (os : OsState) (f : Addr) (cdv : Value) (L : Addr) (vs : List V) (H : Hp) (its : List Item) (Fin : Hp → Prop), Gd.Ok ⟨P, w, K, mg, base, A, N, envOfC x (defScope st) L f cdv, outer, gn, os⟩ → Room k (A.deeper (envOfC x (defScope st) L f cdv)) → sp vs H its Fin →
      ∃ t, GTs ⟨P, w, K, mg, base, A, N, envOfC x (defScope st) L f cdv, outer, gn, os⟩ (defBody st) t ∧ ∀ H', Same H H' → t (GE.fin Fin) its H' (L2.start N vs) H') : MDf P w K mg base (k + 1) x ps sp := by
  obtain ⟨f, fd, D, m⟩ := F.ex
  obtain ⟨oc, od, dV, kV, doc, pm, an, cdv, ct, osl, e, lk, hcd, _, _⟩ := D.ex
  refine ⟨f, fd, ?_, m, D.kp, D.bindsN hb⟩
  subst e
  refine mfn_of (N := N) (ps := ps) (sp := sp) lk hcd S len fun d L vs H its Fin e1 e2 e3 e4 e5 e6 e7 ok hr hsp => ?_
  obtain ⟨dp, dw, dK, dmg, dbase, dA, dN, denv, douter, dgn, dos⟩ := d
  dsimp only at e1 e2 e3 e4 e5 e6 e7
  subst e1 e2 e3 e4 e5 e6 e7
  exact hbody dA douter dgn dos f cdv L vs H its Fin ok hr hsp
section
variable {X : Cx} {k : Nat} {ps : List Str} {sp : SpM} {x : Str} {e : Expr} {es : List Expr} {t : TA} {p pos : Pos}
theorem pm_df (G : MDf X.prog X.w X.K X.mg X.base k x ps sp) (hr : Room k X.A) (ha : PA X (e :: es) t) (hg : Gl X x := by rfl) (hdb : (x == ("__debug__" : Str)) = false := by decide)
    (he : starEach (e :: es) X.env = (false, eval e X.env) :: starEach es X.env := by rfl) (hpl : (backTo pos (starEach es X.env)).any (·.1) = false := by rfl) : PMk X k (.Call (.Name x p) (e :: es) [] pos) (mCall sp [] t) := by
  obtain ⟨f, fd, F, m, kp, b⟩ := G.ex
  exact pm_call F hr hg m kp b .nil ha hdb he hpl
theorem pm_dfS (G : MDf X.prog X.w X.K X.mg X.base k x ps sp) (hr : Room k X.A) (ha : PA X (e :: es) t) (hg : Gl X x := by rfl) (hdb : (x == ("__debug__" : Str)) = false := by decide)
    (he : starEach (e :: es) X.env = (false, eval e X.env) :: starEach es X.env := by rfl) (hst : (backTo pos (starEach es X.env)).any (·.1) = true := by rfl) : PMk X k (.Call (.Name x p) (e :: es) [] pos) (mCall sp [] t) := by
  obtain ⟨f, fd, F, m, kp, b⟩ := G.ex
  exact pm_callS2 F hr hg m kp b .nil ha hdb he hst
end
section
variable {X : Cx} {K : PySem.W.Frag}
theorem pe_slK {e : Expr} {ta : TE} {f : Str} {pos : Pos} (h : X.K = K) (he : PE X e ta) (hb : attributeBase e f X.env (eval e X.env) = eval e X.env := by rfl) : PE X (.Attribute e f pos) (SlX.tSl K ta f) := h ▸ SlX.pe_sl he hb
theorem pi_listK {tg l : Expr} {tl : TE} (h : X.K = K) (hl : PE X l tl) : PI X tg l (iList K tl) := h ▸ pi_list hl
theorem pa_starK {e : Expr} {es : List Expr} {te : TE} {t : TA} {p : Pos} (h : X.K = K) (he : PE X e te) (hr : PA X es t) (hs : starEach (.Starred e p :: es) X.env = (true, eval e X.env) :: starEach es X.env := by rfl) : PA X (.Starred e p :: es) (StX.tStar K te t) := h ▸ StX.pa_star he hr hs
theorem pe_methSBK {CX : CXT} {k : Nat} {C g : Addr} {m : Str} {sp : Sp} {E : XK} {o e1 e2 : Expr} {ta t1 t2 : TE} {p apos pos : Pos} (h : X.K = K) (he : PE X o ta) (c : Cls X.K C) (b : BMeth X.K C m g) (F : FnR X.prog X.w X.K X.mg X.base CX k g sp) (hr : Room k X.A)
    (hx : Passes CX X E) (h1 : PE X e1 t1) (h2 : PE X e2 t2) (hbase : attributeBase o m X.env (eval o X.env) = eval o X.env := by rfl)
    (hst : starEach [e1, .Starred e2 p] X.env = [(false, eval e1 X.env), (true, eval e2 X.env)] := by rfl) : PE X (.Call (.Attribute o m apos) [e1, .Starred e2 p] [] pos) (tMethSB K C m g sp E ta t1 t2) := h ▸ pe_methSB he c b F hr hx h1 h2 hbase hst
end
end KQ

end KqDf_text
section KqWalk_text
set_option Elab.async false
set_option linter.all false
set_option maxRecDepth 100000
set_option maxHeartbeats 4000000
/-! for over a list within a generator def -/
namespace KQ
open PySem PySem.Spec PyProof.Rows L2
theorem gfor_list {K : PySem.W.Frag} {a : Addr} {xs : List V} {g : TG} {tb : TG2} {D : GE} {its : List Item} {Hw : Hp} {σ : L2.St} {H : Hp} (Pv : Nat → List Item → Hp → L2.St → Hp → Prop) (h0 : Pv 0 its Hw σ H) (hl : ∀ i its Hw σ H, i ≤ xs.length → Pv i its Hw σ H → SqL K H a xs)
    (hs : ∀ i x its Hw σ H, xs[i]? = some x → Pv i its Hw σ H → g x σ H fun σ2 H2 => tb { D with nx := Pv (i + 1), ct := Pv (i + 1), bk := D.nx } its Hw σ2 H2) (hd : ∀ its Hw σ H, Pv xs.length its Hw σ H → D.nx its Hw σ H) :
    ∃ W : Nat → Nat → List Item → Hp → L2.St → Hp → Prop, (∃ m, W 0 m its Hw σ H) ∧ ∀ i m its Hw σ H, W i m its Hw σ H →
      ((Itl K a).stop i H ∧ D.nx its Hw σ H) ∨ ((Itl K a).go i H ∧ ∃ N : List Item → Hp → L2.St → Hp → Prop, (∀ its' Hw' σ' H', N its' Hw' σ' H' → ∃ m', m' < m ∧ W (i + 1) m' its' Hw' σ' H') ∧
        ∀ x H', (Itl K a).yld i H x H' → g x σ H' fun σ2 H2 => tb { D with nx := N, ct := N, bk := D.nx } its Hw σ2 H2) := by
  refine ⟨fun i m its Hw σ H => m = xs.length - i ∧ i ≤ xs.length ∧ Pv i its Hw σ H, ⟨xs.length, by simp, Nat.zero_le _, h0⟩, ?_⟩
  rintro i m its Hw σ H ⟨rfl, hi, p⟩
  have q := hl i its Hw σ H hi p
  by_cases hlt : i < xs.length
  · refine .inr ⟨⟨xs, xs[i], q, by simp [hlt]⟩, Pv (i + 1), fun its' Hw' σ' H' p' => ⟨xs.length - (i + 1), by omega, rfl, hlt, p'⟩, fun x H' y => ?_⟩
    obtain ⟨e, y⟩ := y
    subst e
    exact hs i x its Hw σ _ (y xs q) p
  · have e : i = xs.length := by omega
    subst e
    exact .inl ⟨⟨xs, q, Nat.le_refl _⟩, hd its Hw σ H p⟩
end KQ

end KqWalk_text
section K51Ch_text
set_option Elab.async false
set_option linter.all false
set_option maxRecDepth 100000
set_option maxHeartbeats 4000000
namespace K51
open PySem PySem.Spec PyProof.Rows L2 Kk SlX KQ
def itT (t : List D) : Item := fun v _ => v = .str (tx t)
def sp_texts_on (C : Addr) (N : Nat) : SpM := fun vs H its Fin => ∃ (l : List D) (a : D) (c : Addr) (g : Int) (n : Nat) (x y h : Int), vs = [.str (tx (l ++ [a])), .ref c, .int (n : Nat), .int x, .int y, .int h] ∧ n ≤ N ∧ l.length + n ≤ 100 ∧ CtrAt C H c g ∧
  its = (onL g n l a x y h).map itT ∧ Fin = fun H' => CtrAt C H' c g
section
variable {P : Program} {w : World} {K : PySem.W.Frag} {mg : Str → Option Value} {base : Heap}
abbrev N_texts_on : List Str := ["text", "counter", "left", "x", "y", "height", "letter", "here"]
abbrev P_texts_on : List Str := ["text", "counter", "left", "x", "y", "height"]
theorem sc_texts_on : GSc N_texts_on P_texts_on (defScope s_texts_on) := ⟨rfl, rfl, rfl, by decide +kernel, rfl, by decide +kernel, by decide +kernel⟩
theorem on_step (T : Tx K mg) {k N : Nat} {spR : SpM} (hk : 15 ≤ k) (hN : N ≤ 12) (G_texts_on : MDf P w K mg base k "texts_on" P_texts_on spR)
    (rec_ : ∀ (l : List D) (a : D) (c : Addr) (g : Int) (m : Nat) (x y h : Int) (H : Hp), m < N → l.length + m ≤ 100 → CtrAt (CC K) H c g → spR [.str (tx (l ++ [a])), .ref c, .int (m : Nat), .int x, .int y, .int h] H ((onL g m l a x y h).map itT) fun H' => CtrAt (CC K) H' c g) :
    MDf P w K mg base (k + 2 + 1) "texts_on" P_texts_on (sp_texts_on (CC K) N) := by
  have G_behind : Mt P w K mg base 1 (He.ma K (CC K) "behind") sp_behind := m_behind T
  have G_ways : Mt P w K mg base 15 (He.ma K (CC K) "ways") (sp_ways (CC K) 12) := m_ways (P := P) (w := w) (base := base) T 12 (by decide)
  have G_next_letters := d_next_letters (P := P) (w := w) (base := base) T
  have G_height_behind := d_height_behind (P := P) (w := w) (base := base) T
  refine mdf_of T.F_texts_on sc_texts_on (fun vs H its Fin h => ?_) (fun _ _ _ _ _ _ us hl => match us, hl with | [_, _, _, _, _, _], _ => rfl) (fun A outer gn os f cdv L vs H its Fin ok hr h => ?_)
  · obtain ⟨l, a, c, g, n, x, y, h, rfl, _⟩ := h
    rfl
  · obtain ⟨l, a, c, g, n, x, y, h, rfl, hn, hl, ct, rfl, rfl⟩ := h
    refine ⟨_, (gts_cons (gt_if (fun _ _ _ => (pt_cmpR op_eq (pv 2) pe_int (nomark _)))
        (gts_cons (gt_yield ok (fun _ _ _ => (pv 0)) rfl rfl)
        (gts_one (gt_ps fun _ _ _ => ps_retN)))
        gts_nil)
      (gts_one (gt_for (fun _ _ _ => (pi_listK (K := K) rfl (pe_df G_next_letters (hr.mono (by omega)) (pa_cons (pv 0) pa_nil)))) (fun _ _ _ => (pg_name (i := 6) sc_texts_on.nd rfl (Or.inl rfl)))
        (gts_cons (gt_ps fun _ _ _ => (ps_set (i := 7) sc_texts_on.nd rfl (Or.inl rfl) (pe_own_behind T G_behind (hr.mono (by omega)) (pv 1) (pa_cons (pv 3) (pa_cons (pv 4) (pa_cons (pe_df G_height_behind (hr.mono (by omega)) (pa_cons (pv 5) (pa_cons (pv 6) pa_nil))) pa_nil))))))
        (gts_one (gt_if (fun _ _ _ => (pt_cmpR op_gt (pe_methSBK (K := K) rfl (pv 1) T.C_cls T.C_waysM G_ways.run (hr.mono (by omega)) pass0 (pe_op op_sub (pv 2) pe_int) (pv 7)) pe_int (nomark _)))
          (gts_one (gt_yf ok (hr.mono (by omega)) (fun _ _ _ => (pm_dfS G_texts_on (hr.mono (by omega)) (pa_cons (pe_op op_add_str (pv 0) (pv 6)) (pa_cons (pv 1) (pa_cons (pe_op op_sub (pv 2) pe_int) (pa_starK (K := K) rfl (pv 7) pa_nil)))))) rfl))
          gts_nil))) (fun _ => rfl)))), fun H0 s0 => ?_⟩
    have hlen : ∀ m, (tx (l ++ [a])).length ≤ m + 101 := fun m => by
      rw [tx_len, List.length_append]
      show l.length + 1 ≤ _
      omega
    have ct0 : CtrAt (CC K) H0 c g := by
      obtain ⟨dx, p, kvs, e1, e2, e3⟩ := ct
      exact ⟨dx, p, kvs, s0 _ _ e1, s0 _ _ e2, e3⟩
    refine ⟨_, rfl, rfl, _, rfl, ?_⟩
    cases n with
    | zero =>
      refine iteTb (decide_eq_true rfl) ?_
      refine ⟨_, rfl, itT (l ++ [a]), [], rfl, rfl, SameT.refl, fun H2 s2 => ?_⟩
      refine ⟨rfl, rfl, SameT.refl, ?_⟩
      obtain ⟨dx, p, kvs, e1, e2, e3⟩ := ct0
      exact ⟨dx, p, kvs, s2 _ _ e1, s2 _ _ e2, e3⟩
    | succ m =>
      refine iteFb (decide_eq_false fun z => by injection z with z; omega) ?_
      refine ⟨_, rfl, l, a, rfl, by omega, fun H1 b s1 hb => ?_⟩
      refine ⟨b, rfl, ⟨_, SqL.of hb⟩, ?_⟩
      have s01 : SameT H0 H1 := SameT.of s1
      have ct1 : CtrAt (CC K) H1 c g := by
        obtain ⟨dx, p, kvs, e1, e2, e3⟩ := ct0
        exact ⟨dx, p, kvs, s1 _ _ e1, s1 _ _ e2, e3⟩
      let F : D → List (List D) := fun d => if 0 < Wy g m (x + stpX (hB h d)) (y + stpY (hB h d)) (hB h d) then onL g m (l ++ [a]) d (x + stpX (hB h d)) (y + stpY (hB h d)) (hB h d) else []
      refine gfor_list (K := K) (a := b) (xs := (nextL a).map fun d => V.str (tx [d])) (fun i its Hw σ H => its = (((nextL a).drop i).flatMap F).map itT ∧ SameT Hw H ∧ CtrAt (CC K) H c g ∧ H b = some (.lst ((nextL a).map fun d => V.str (tx [d]))) ∧
        ∃ v1 v2, σ = [some (.str (tx (l ++ [a]))), some (.ref c), some (.int ((m + 1 : Nat) : Int)), some (.int x), some (.int y), some (.int h), v1, v2]) ⟨rfl, s01, ct1, hb, _, _, rfl⟩ ?_ ?_ ?_
      · rintro i its Hw σ H2 hi ⟨_, _, _, e, _⟩
        exact SqL.of e
      · rintro i z its Hw σ H2 hz ⟨eits, sw, ctw, eb, v1, v2, rfl⟩
        rw [List.getElem?_map] at hz
        obtain ⟨d, hd, ez⟩ := Option.map_eq_some_iff.mp hz
        subst ez
        have il := (List.getElem?_eq_some_iff.mp hd).1
        have ed : (nextL a).drop i = d :: (nextL a).drop (i + 1) := by
          rw [List.drop_eq_getElem_cons il, (List.getElem?_eq_some_iff.mp hd).2]
        rw [ed, List.flatMap_cons, List.map_append] at eits
        obtain ⟨dx, pk, kvs, hcx, hpk, hm⟩ := id ctw
        refine ⟨_, rfl, c, dx, _, rfl, hcx, rfl, _, rfl, _, rfl, _, rfl, _, rfl, h, d, rfl, c, x, y, hB h d, rfl, fun p hp => ?_⟩
        have sp := same_upd (o := .tup [.int (x + stpX (hB h d)), .int (y + stpY (hB h d)), .int (hB h d)]) hp
        have ep : upd H2 p (.tup [.int (x + stpX (hB h d)), .int (y + stpY (hB h d)), .int (hB h d)]) p = some (.tup [.int (x + stpX (hB h d)), .int (y + stpY (hB h d)), .int (hB h d)]) := upd_same
        generalize upd H2 p (.tup [.int (x + stpX (hB h d)), .int (y + stpY (hB h d)), .int (hB h d)]) = H3 at sp ep
        refine ⟨_, rfl, c, dx, _, rfl, sp _ _ hcx, rfl, fun q hq => ?_⟩
        have sq := same_upd (o := .met (He.ma K (He.ga K "Counter") "ways") c) hq
        have eq : upd H3 q (.met (He.ma K (He.ga K "Counter") "ways") c) q = some (.met (He.ma K (He.ga K "Counter") "ways") c) := upd_same
        generalize upd H3 q (.met (He.ma K (He.ga K "Counter") "ways") c) = H4 at sq eq
        have em : (((m + 1 : Nat) : Int) - 1) = ((m : Nat) : Int) := by omega
        have s24 : Same H2 H4 := sp.trans sq
        refine ⟨_, rfl, _, _, rfl, rfl, _, rfl, p, _, rfl, .inl (SqT.of (sq _ _ ep)), eq, ?_⟩
        show sp_ways (CC K) 12 [.ref c, .int (((m + 1 : Nat) : Int) - 1), _, _, _] _ _ _
        rw [em]
        refine ⟨c, g, m, _, _, _, rfl, by omega, ⟨dx, pk, kvs, s24 _ _ hcx, s24 _ _ hpk, hm⟩, fun H5 s5 ct5 => ?_⟩
        refine ⟨_, _, rfl, rfl, _, rfl, ?_⟩
        have sw5 : SameT Hw H5 := sw.trans ((SameT.of s24).trans s5)
        have eb5 : H5 b = _ := s5 _ _ (s24 _ _ eb) fun kvs z => by cases z
        by_cases c0 : 0 < Wy g m (x + stpX (hB h d)) (y + stpY (hB h d)) (hB h d)
        · refine iteTb (decide_eq_true c0) ?_
          have eF : F d = onL g m (l ++ [a]) d (x + stpX (hB h d)) (y + stpY (hB h d)) (hB h d) := if_pos c0
          rw [eF] at eits
          have ep5 : H5 p = _ := s5 _ _ (sq _ _ ep) fun kvs z => by cases z
          have hz2 : (tx (l ++ [a])).length + (tx [d]).length ≤ sizeLine := by
            rw [tx_len, tx_len, List.length_append]
            exact Nat.le_of_lt (small1000 (by simp only [List.length_singleton]; omega))
          refine ⟨_, rfl, _, rfl, _, _, rfl, rfl, hz2, _, rfl, _, rfl, _, _, rfl, rfl, _, rfl, p, _, rfl, .inl (SqT.of ep5), ?_⟩
          show ∃ its Fin, spR [.str (tx (l ++ [a]) ++ tx [d]), .ref c, .int (((m + 1 : Nat) : Int) - 1), _, _, _] _ its Fin ∧ _
          rw [em, tx_app']
          refine ⟨_, _, rec_ (l ++ [a]) d c g m _ _ _ H5 (by omega) (by rw [List.length_append]; simp only [List.length_singleton]; omega) ct5, sw5, _, eits, fun Hw' H6 a1 a2 ct6 => ?_⟩
          exact ⟨rfl, a1, ct6, a2 _ _ eb5 (fun kvs z => by cases z), _, _, rfl⟩
        · refine iteFb (decide_eq_false c0) ?_
          have eF : F d = [] := if_neg c0
          rw [eF, List.map_nil, List.nil_append] at eits
          exact ⟨eits, sw5, ct5, eb5, _, _, rfl⟩
      · rintro its Hw σ H2 ⟨eits, sw, ctw, _, _, _, _⟩
        rw [List.length_map, List.drop_length] at eits
        exact ⟨eits, sw, ctw⟩
theorem m_texts_on (T : Tx K mg) : ∀ N : Nat, N ≤ 12 → MDf P w K mg base (18 + 3 * N) "texts_on" P_texts_on (sp_texts_on (CC K) N) := by
  intro N
  induction N with
  | zero =>
    intro _
    have G0 : MDf P w K mg base 15 "texts_on" P_texts_on (fun _ _ _ _ => False) := mdf_of (k := 14) T.F_texts_on sc_texts_on (fun vs H its Fin h => h.elim) (fun _ _ _ _ _ _ us hl => match us, hl with | [_, _, _, _, _, _], _ => rfl) fun A outer gn os f cdv L vs H its Fin ok hr h => h.elim
    exact on_step T (k := 15) (Nat.le_refl _) (by decide) G0 fun l a c g m x y h H hm => absurd hm (Nat.not_lt_zero _)
  | succ N ih =>
    intro hN
    exact on_step T (k := 18 + 3 * N) (by omega) hN (ih (by omega)) fun l a c g m x y h H hm hl ct => ⟨l, a, c, g, m, x, y, h, rfl, by omega, hl, ct, rfl, rfl⟩
end
end K51

end K51Ch_text
section K51Ci_text
set_option Elab.async false
set_option linter.all false
set_option maxRecDepth 100000
set_option maxHeartbeats 4000000
namespace K51
open PySem PySem.Spec PyProof.Rows L2 Kk SlX KQ
theorem pe_lineK {X : Cx} {k : Nat} {e : Expr} {te : TE} {p pos : Pos} {P : Program} {w : World} {K : PySem.W.Frag} {mg : Str → Option Value} {base : Heap} (T : Tx K mg) (G : Mt P w K mg base k (He.ma K (CL K) "__init__") (sp_Line_init (CL K))) (hr : Room (k + 1) X.A) (he : PE X e te) (hg : Gl X "Line" := by rfl)
    (hs : starEach (e :: []) X.env = (false, eval e X.env) :: starEach [] X.env := by rfl) (hpl : (backTo pos (starEach [] X.env)).any (·.1) = false := by rfl) (hX : X.prog = P ∧ X.w = w ∧ X.K = K ∧ X.mg = mg ∧ X.base = base := by exact ⟨rfl, rfl, rfl, rfl, rfl⟩) :
    PE X (.Call (.Name "Line" p) [e] [] pos) (StX.tMakeR (CL K) (sp_Line_init (CL K)) E0 (tCons te tNil)) := by
  obtain ⟨e1, e2, e3, e4, e5⟩ := hX
  subst e1 e2 e3 e4 e5
  exact pe_line T G hr he hg hs hpl
theorem mk_lineV {K : PySem.W.Frag} {i : Nat} {σ : L2.St} {H : Hp} {Q : VK} {l : List D} (h0 : σ[i]? = some (some (V.str (tx l)))) (g : Good l) (q : ∀ x H', H x = none → Same H H' → LineAt K H' x (norm l) → Q (.ref x) H') :
    StX.tMakeR (CL K) (sp_Line_init (CL K)) E0 (tCons (tVar i) tNil) σ H Q := ⟨_, h0, line_made rfl g q⟩
def itL (K : PySem.W.Frag) (l : List D) : Item := fun v H => ∃ a, v = .ref a ∧ LineAt K H a l
def sp_lines_of (K : PySem.W.Frag) : SpM := fun vs H its Fin => ∃ (s : Nat) (t : Int), vs = [.int (s : Nat), .int t] ∧ 4 ≤ s ∧ s ≤ 12 ∧ s % 2 = 0 ∧ cntL s t ≤ 500 ∧ (t.natAbs ≤ s → ∀ l ∈ onL (4 * t) (s - 1) [] D.E 1 0 0, Good l) ∧ its = (linesL s t).map (itL K) ∧ Fin = fun _ => True
section
variable {P : Program} {w : World} {K : PySem.W.Frag} {mg : Str → Option Value} {base : Heap}
abbrev N_lines_of : List Str := ["strokes", "turns", "begun", "text"]
abbrev P_lines_of : List Str := ["strokes", "turns"]
theorem sc_lines_of : GSc N_lines_of P_lines_of (defScope s_lines_of) := ⟨rfl, rfl, rfl, by decide +kernel, rfl, by decide +kernel, by decide +kernel⟩
theorem m_lines_of (T : Tx K mg) : MDf P w K mg base 60 "lines_of" P_lines_of (sp_lines_of K) := by
  have G_count_lines := d_count_lines (P := P) (w := w) (base := base) T
  have G_begun_with := d_begun_with (P := P) (w := w) (base := base) T
  have G_least_beginning := d_least_beginning (P := P) (w := w) (base := base) T
  have G_texts_on := m_texts_on (P := P) (w := w) (base := base) T 12 (by decide)
  have G_Line := m_init (P := P) (w := w) (base := base) T
  refine mdf_of T.F_lines_of sc_lines_of (fun vs H its Fin h => ?_) (fun _ _ _ _ _ _ us hl => match us, hl with | [_, _], _ => rfl) (fun A outer gn os f cdv L vs H its Fin ok hr h => ?_)
  · obtain ⟨s, t, rfl, _⟩ := h
    rfl
  · obtain ⟨s, t, rfl, h1, h2, h3, h4, hg, rfl, rfl⟩ := h
    refine ⟨_, (gts_cons (gt_ps fun _ _ _ => (ps_if (pt_cmpR op_gt (pe_df G_count_lines (hr.mono (by decide)) (pa_cons (pv 0) (pa_cons (pv 1) pa_nil))) (pe_globI T.m_MOST_LISTED) (nomark _))
        (pss_one ps_never)
        pss_nil))
      (gts_one (gt_if (fun _ _ _ => (pt_cmpR op_le (pe_callB call_abs (by rfl) T.n_abs (by decide +kernel) (pa_cons (pv 1) pa_nil)) (pv 0) (nomark _)))
        (gts_cons (gt_ps fun _ _ _ => (ps_set (i := 2) sc_lines_of.nd rfl (Or.inl rfl) (pe_df G_begun_with (hr.mono (by decide)) (pa_cons (pe_ix ix_str (pe_globS T.m_LETTERS) pe_int (fun _ _ => rfl)) (pa_cons (pv 0) (pa_cons (pv 1) pa_nil))))))
        (gts_one (gt_forG ok (hr.mono (by decide)) (fun _ _ _ => (pm_dfS G_texts_on (hr.mono (by decide)) (pa_cons (pe_ix ix_str (pe_globS T.m_LETTERS) pe_int (fun _ _ => rfl)) (pa_starK (K := K) rfl (pv 2) pa_nil)))) (fun _ _ _ => (pg_name (i := 3) sc_lines_of.nd rfl (Or.inl rfl)))
          (gts_one (gt_if (fun _ _ _ => (pt_cmpR op_eq (pe_df G_least_beginning (hr.mono (by decide)) (pa_cons (pv 3) pa_nil)) pe_int (nomark _)))
            (gts_one (gt_yield ok (fun _ _ _ => (pe_lineK T G_Line (hr.mono (by decide)) (pv 3))) rfl rfl))
            gts_nil)) (fun _ => rfl))))
        gts_nil))), fun H0 s0 => ?_⟩
    refine ⟨_, rfl, _, rfl, s, t, rfl, h1, h2, h3, fun H1 s1 => ?_⟩
    refine ⟨_, _, rfl, rfl, _, rfl, iteFb (decide_eq_false (by omega)) ?_⟩
    refine ⟨_, rfl, _, rfl, _, rfl, _, _, rfl, rfl, _, rfl, ?_⟩
    by_cases c : t.natAbs ≤ s
    · refine iteTb (decide_eq_true (by split <;> omega)) ?_
      have hg := hg c
      have el : linesL s t = (onL (4 * t) (s - 1) [] D.E 1 0 0).filter fun l => decide (leastB l = 0) := if_pos c
      rw [el]
      refine ⟨_, _, D.E.cp, rfl, rfl, by decide +kernel, by decide +kernel, _, rfl, _, rfl, D.E, _, _, rfl, fun H2 c2 b s2 ct hb => ?_⟩
      have es : ((s : Nat) : Int) - 1 = ((s - 1 : Nat) : Int) := by omega
      have eg : (((D.E.hd : Nat) : Int) + 4 * t) = 4 * t := by
        show ((0 : Nat) : Int) + 4 * t = 4 * t
        omega
      rw [es] at hb
      rw [eg] at ct
      refine ⟨_, _, D.E.cp, rfl, rfl, by decide +kernel, by decide +kernel, _, rfl, b, _, rfl, .inl (SqT.of hb), ?_⟩
      have s02 : SameT H0 H2 := s1.trans (SameT.of s2)
      generalize hA : onL (4 * t) (s - 1) [] D.E 1 0 0 = all at hg
      refine ⟨_, _, ⟨[], D.E, c2, 4 * t, s - 1, 1, 0, 0, rfl, by omega, by show 0 + (s - 1) ≤ 100; omega, ct, rfl, rfl⟩, ?_⟩
      rw [hA]
      refine ⟨fun j Hs its Hw σ H => Same Hs H ∧ SameT Hw H ∧ its = ((all.drop j).filter fun l => decide (leastB l = 0)).map (itL K) ∧ ∃ v, σ = [some (.int (s : Nat)), some (.int t), some (.ref b), v], ⟨H2, Same.refl H2, Same.refl H2, s02, rfl, _, rfl⟩, fun j Hs its Hw σ H h => h.1, ?_⟩
      rintro j Hs its Hw σ H ⟨_, sw, eits, v, rfl⟩ H3 s3
      have sw3 := sw.trans s3
      refine ⟨fun ej _ => ?_, fun it y hit hy => ?_⟩
      · rw [List.length_map] at ej
        rw [ej, List.drop_length] at eits
        exact ⟨eits, sw3, trivial⟩
      · rw [List.getElem?_map] at hit
        obtain ⟨l, hl, ez⟩ := Option.map_eq_some_iff.mp hit
        subst ez
        obtain rfl : y = .str (tx l) := hy
        have il := (List.getElem?_eq_some_iff.mp hl).1
        have ed : all.drop j = l :: all.drop (j + 1) := by
          rw [List.drop_eq_getElem_cons il, (List.getElem?_eq_some_iff.mp hl).2]
        rw [ed, List.filter_cons] at eits
        have g := hg l (List.mem_of_getElem? hl)
        refine ⟨_, rfl, l, rfl, Nat.le_trans g.le (by decide), rfl, _, rfl, ?_⟩
        by_cases c0 : leastB l = 0
        · refine iteTb (decide_eq_true (by rw [c0]; rfl)) ?_
          rw [if_pos (decide_eq_true c0), List.map_cons] at eits
          refine mk_lineV (i := 3) rfl g fun x H4 nx s4 la => ?_
          refine ⟨_, _, eits, ⟨x, rfl, ?_⟩, sw3.trans (SameT.of s4), fun H5 s5 => ⟨s4.trans s5, SameT.refl, rfl, _, rfl⟩⟩
          have en : norm l = l := by
            unfold norm
            rw [c0, rot_zero]
          rw [en] at la
          exact la
        · refine iteFb (decide_eq_false fun z => c0 (by injection z with z; omega)) ?_
          rw [if_neg (fun z => c0 (of_decide_eq_true z))] at eits
          exact ⟨Same.refl H3, sw3, eits, _, rfl⟩
    · refine iteFb (decide_eq_false (by split <;> omega)) ?_
      have el : linesL s t = [] := if_neg c
      rw [el]
      exact ⟨rfl, s1, trivial⟩
end
end K51

end K51Ci_text
section Kq2_text
set_option Elab.async false
set_option linter.all false
set_option maxRecDepth 100000
set_option maxHeartbeats 4000000
/-! Promises in M2 of a plain def's statements and expressions; nothing is let out -/
namespace KQ
open PySem PySem.Spec PyProof.Rows L2
abbrev Unm (s : Shared) : Prop := ∀ x ∈ s.gens, unmarkedG x = true
theorem unm_woke {s s1 s' : Shared} (u : Unm s) (b : AllBare s1.gens) (k : Woke s s1 s') : Unm s' := fun x hx => by
  obtain ⟨i, hi, e⟩ := Array.mem_iff_getElem.mp hx
  have e2 : s'.gens[i]? = some x := by rw [Array.getElem?_eq_getElem hi, e]
  rcases k.new i x e2 with ⟨h, _⟩ | ⟨y, h, e3⟩
  · exact u x (Array.mem_of_getElem? h)
  · rw [e3]
    exact vG_unmarked (b y (Array.mem_of_getElem? h))
/-- no exception may come -/
abbrev NoX (X : Cx) : Prop := ∀ e s, ¬ X.xe e s
abbrev F0 : Value → Shared → Prop := fun _ _ => False
section
variable {X : Cx}
structure PE2 (X : Cx) (e : Expr) (t : TE) : Prop where
  run : ∀ (pins : List (Addr × Obj)) (s : Shared) (σ : L2.St) (H : Hp) (Q : VK), Inv X pins σ H s → Unm s → t σ H Q → wpAny (M2 X.prog X.w) X.A (eval e X.env) (fun u s' => EP X pins σ Q u s' ∧ Unm s') F0 s
structure PT2 (X : Cx) (e : Expr) (t : TT) : Prop where
  run : ∀ (pins : List (Addr × Obj)) (s : Shared) (σ : L2.St) (H : Hp) (Q : Bool → Hp → Prop), Inv X pins σ H s → Unm s → t σ H Q → wpAny (M2 X.prog X.w) X.A (isTrue e X.env (eval e X.env)) (fun b s' => TP X pins σ Q b s' ∧ Unm s') F0 s
structure PW2 (X : Cx) (e : Expr) (t : TT) : Prop where
  run : ∀ (whole : Sem Value) (pins : List (Addr × Obj)) (s : Shared) (σ : L2.St) (H : Hp) (Q : Bool → Hp → Prop), Inv X pins σ H s → Unm s → t σ H Q → wpAny (M2 X.prog X.w) X.A (isTrue e X.env whole) (fun b s' => TP X pins σ Q b s' ∧ Unm s') F0 s
theorem PW2.pt {e : Expr} {t : TT} (h : PW2 X e t) : PT2 X e t := ⟨h.run _⟩
structure PA2 (X : Cx) (es : List Expr) (t : TA) : Prop where
  run : ∀ (pos : Pos) (pins : List (Addr × Obj)) (s : Shared) (σ : L2.St) (H : Hp) (Q : List V → Hp → Prop), Inv X pins σ H s → Unm s → t σ H Q → wpAny (M2 X.prog X.w) X.A (spliced (backTo pos (starEach es X.env))) (fun us s' => AP X pins σ Q us s' ∧ Unm s') F0 s
structure PS2 (X : Cx) (st : Stmt) (t : TS) : Prop where
  run : ∀ (pins : List (Addr × Obj)) (s : Shared) (σ : L2.St) (H : Hp) (D : Ends), Inv X pins σ H s → Unm s → t D σ H → wpAny (M2 X.prog X.w) X.A (exec st X.env) (fun f s' => SP X pins D f s' ∧ Unm s') F0 s
structure PSs2 (X : Cx) (st : List Stmt) (t : TS) : Prop where
  run : ∀ (pins : List (Addr × Obj)) (s : Shared) (σ : L2.St) (H : Hp) (D : Ends), Inv X pins σ H s → Unm s → t D σ H → wpAny (M2 X.prog X.w) X.A (execs st X.env) (fun f s' => SP X pins D f s' ∧ Unm s') F0 s
/-! ### what holds in the given model holds in M2 -/
theorem lift2 {α : Type} {t : Sem α} {Q Q' : α → Shared → Prop} {s : Shared} (nx : NoX X) (h : wpAny (model X.prog X.w) X.A t Q X.xe (stuckS s)) (hQ : ∀ a s1 s', Woke s s1 s' → Q a s1 → Q' a s') : wpAny (M2 X.prog X.w) X.A t Q' F0 s :=
  wpAny_mono (wpAny_use h) (fun a s' ⟨s1, k, q⟩ => hQ a s1 s' k q) fun e s' ⟨s1, _, q⟩ => nx e s1 q
theorem ep_woke {pins : List (Addr × Obj)} {σ : L2.St} {Q : VK} {s s1 s' : Shared} {u : Value} (b : AllBare s.gens) (hu : Unm s) (k : Woke s s1 s') (h : EP X pins σ Q u s1) : EP X pins σ Q u s' ∧ Unm s' := by
  obtain ⟨v, H', I, r, q⟩ := h
  exact ⟨⟨v, H', inv_woke b I k, r, q⟩, unm_woke hu I.bare k⟩
theorem tp_woke {pins : List (Addr × Obj)} {σ : L2.St} {Q : Bool → Hp → Prop} {s s1 s' : Shared} {c : Bool} (b : AllBare s.gens) (hu : Unm s) (k : Woke s s1 s') (h : TP X pins σ Q c s1) : TP X pins σ Q c s' ∧ Unm s' := by
  obtain ⟨H', I, q⟩ := h
  exact ⟨⟨H', inv_woke b I k, q⟩, unm_woke hu I.bare k⟩
theorem ap_woke {pins : List (Addr × Obj)} {σ : L2.St} {Q : List V → Hp → Prop} {s s1 s' : Shared} {us : List Value} (b : AllBare s.gens) (hu : Unm s) (k : Woke s s1 s') (h : AP X pins σ Q us s1) : AP X pins σ Q us s' ∧ Unm s' := by
  obtain ⟨vs, H', I, r, q⟩ := h
  exact ⟨⟨vs, H', inv_woke b I k, r, q⟩, unm_woke hu I.bare k⟩
theorem sp_woke {pins : List (Addr × Obj)} {D : Ends} {s s1 s' : Shared} {f : Flow} (b : AllBare s.gens) (hu : Unm s) (k : Woke s s1 s') (h : SP X pins D f s1) : SP X pins D f s' ∧ Unm s' := by
  cases f with
  | next => obtain ⟨σ', H', I, q⟩ := h; exact ⟨⟨σ', H', inv_woke b I k, q⟩, unm_woke hu I.bare k⟩
  | brk => obtain ⟨σ', H', I, q⟩ := h; exact ⟨⟨σ', H', inv_woke b I k, q⟩, unm_woke hu I.bare k⟩
  | cont => obtain ⟨σ', H', I, q⟩ := h; exact ⟨⟨σ', H', inv_woke b I k, q⟩, unm_woke hu I.bare k⟩
  | ret u => obtain ⟨v, σ', H', I, r, q⟩ := h; exact ⟨⟨v, σ', H', inv_woke b I k, r, q⟩, unm_woke hu I.bare k⟩
theorem pe2_of {e : Expr} {t : TE} (nx : NoX X) (h : PE X e t) : PE2 X e t := ⟨fun pins s σ H Q I hu ht => lift2 nx (h.run pins (stuckS s) σ H Q (inv_stuck I) ht) fun u s1 s' k q => ep_woke I.bare hu k q⟩
theorem pt2_of {e : Expr} {t : TT} (nx : NoX X) (h : PT X e t) : PT2 X e t := ⟨fun pins s σ H Q I hu ht => lift2 nx (h.run pins (stuckS s) σ H Q (inv_stuck I) ht) fun u s1 s' k q => tp_woke I.bare hu k q⟩
theorem pa2_of {es : List Expr} {t : TA} (nx : NoX X) (h : PA X es t) : PA2 X es t := ⟨fun pos pins s σ H Q I hu ht => lift2 nx (h.run pos pins (stuckS s) σ H Q (inv_stuck I) ht) fun u s1 s' k q => ap_woke I.bare hu k q⟩
theorem ps2_of {st : Stmt} {t : TS} (nx : NoX X) (h : PS X st t) : PS2 X st t := ⟨fun pins s σ H D I hu ht => lift2 nx (h.run pins (stuckS s) σ H D (inv_stuck I) ht) fun u s1 s' k q => sp_woke I.bare hu k q⟩
theorem pss2_of {st : List Stmt} {t : TS} (nx : NoX X) (h : PSs X st t) : PSs2 X st t := ⟨fun pins s σ H D I hu ht => lift2 nx (h.run pins (stuckS s) σ H D (inv_stuck I) ht) fun u s1 s' k q => sp_woke I.bare hu k q⟩
/-! ### statements -/
variable {st : Stmt} {rest : List Stmt} {t u : TS} {pos : Pos} {a b e : Expr} {te ta tb : TE} {tA tB' : TT}
theorem pss2_nil : PSs2 X [] tNext := ⟨fun _ s σ H _ I hu h => wpAny_execs_nil ⟨⟨σ, H, I, h⟩, hu⟩⟩
theorem pss2_cons (h1 : PS2 X st t) (h2 : PSs2 X rest u) : PSs2 X (st :: rest) (tSeq t u) := by
  refine ⟨fun pins s σ H D I hu h => ?_⟩
  refine wpAny_execs_cons (thn (h1.run pins s σ H { D with nx := u D } I hu h) fun f s1 ⟨q, hu1⟩ => ?_)
  cases f with
  | next =>
    obtain ⟨σ', H', I', q⟩ := q
    exact h2.run pins s1 σ' H' D I' hu1 q
  | ret v => exact ⟨q, hu1⟩
  | brk => exact ⟨q, hu1⟩
  | cont => exact ⟨q, hu1⟩
theorem pss2_one (h1 : PS2 X st t) : PSs2 X [st] t := by
  refine ⟨fun pins s σ H D I hu h => ?_⟩
  refine wpAny_execs_cons (thn (h1.run pins s σ H D I hu h) fun f s1 ⟨q, hu1⟩ => ?_)
  cases f with
  | next => exact wpAny_execs_nil ⟨q, hu1⟩
  | ret v => exact ⟨q, hu1⟩
  | brk => exact ⟨q, hu1⟩
  | cont => exact ⟨q, hu1⟩
theorem ps2_ret (he : PE2 X e te) : PS2 X (.Return (some e) pos) (tRet te) := by
  refine ⟨fun pins s σ H D I hu h => ?_⟩
  exact wpAny_Return_some (thn (he.run pins s σ H _ I hu h) fun v s1 ⟨⟨x, H1, I1, r1, q1⟩, hu1⟩ => ⟨⟨x, σ, H1, I1, r1, q1⟩, hu1⟩)
theorem ps2_if {c : Expr} {a b : List Stmt} {tc : TT} (hc : PT2 X c tc) (ha : PSs2 X a t) (hb : PSs2 X b u) : PS2 X (.If c a b pos) (tIfS tc t u) := by
  refine ⟨fun pins s σ H D I hu h => ?_⟩
  refine wpAny_If (thn (hc.run pins s σ H _ I hu h) fun d s1 ⟨⟨H1, I1, q1⟩, hu1⟩ => ?_)
  cases d with
  | true => exact ha.run pins s1 σ H1 D I1 hu1 q1
  | false => exact hb.run pins s1 σ H1 D I1 hu1 q1
theorem same_gens {a : Addr} {h h' : Heap} (_ : Heap.SameBut a h h') : True := trivial
theorem ps2_set {i : Nat} {x : Str} {pos' : Pos} (hN : X.N.Nodup) (hi : X.N[i]? = some x) (hx : Loc X.env.scope x) (he : PE2 X e te) (hs : swapsWith e (some (.Name x pos')) pos.line X.env = pure false := by rfl) (hf : X.fn x = true ∨ X.env.scope.names.lookup x = some .local := by first | exact .inl rfl | exact .inr rfl | assumption) :
    PS2 X (.Assign [.Name x pos'] e pos) (tAsg te (gName i)) := by
  refine ⟨fun pins s σ H D I hu h => ?_⟩
  refine wpAny_Assign_Name (thn (he.run pins s σ H _ I hu h) fun v s1 ⟨⟨y, H1, I1, r1, q1⟩, hu1⟩ => ?_) hs
  have z : wpAny (model X.prog X.w) X.A (storeName X.env x v) (fun _ s2 => SP X pins D .next s2) F0 (stuckS s1) := store_ok (inv_stuck I1) hN hi hx r1 (fun s2 I2 => ⟨_, H1, I2, q1⟩) hf
  exact wpAny_mono (wpAny_use z) (fun _ s' ⟨s2, k, q⟩ => sp_woke I1.bare hu1 k q) fun _ _ ⟨_, _, z⟩ => z
/-! ### tests, values -/
theorem pt2_val (h : PE2 X e te) (he : ∀ whole, isTrue e X.env whole = (do let v ← whole; standAt e.pos; holding [v] (truthy v)) := by intro _; rfl) : PT2 X e (tB te) := by
  refine ⟨fun pins s σ H Q I hu hw => ?_⟩
  refine isTrue_plain (thn (h.run pins s σ H _ I hu hw) fun v s1 ⟨⟨x, H1, I1, r1, q1⟩, hu1⟩ => ?_) (he _)
  obtain ⟨d, rfl, q⟩ := q1
  cases r1
  exact wpAny_truthy_bool ⟨⟨H1, I1, q⟩, hu1⟩
theorem pw2_or1 (ha : PT2 X a tA) : PW2 X (.BoolOp .Or [a] pos) tA := by
  refine ⟨fun wh pins s σ H Q I hu h => ?_⟩
  refine isTrue_or (thn (ha.run pins s σ H Q I hu h) fun c s1 e => ?_)
  cases c with
  | false => exact isTrue_or_nil e
  | true => exact e
theorem pw2_or {rest : List Expr} (ha : PT2 X a tA) (hb : PW2 X (.BoolOp .Or (b :: rest) pos) tB') : PW2 X (.BoolOp .Or (a :: b :: rest) pos) (tOr tA tB') := by
  refine ⟨fun wh pins s σ H Q I hu h => ?_⟩
  refine isTrue_or (thn (ha.run pins s σ H _ I hu h) fun c s1 ⟨⟨H1, I1, q1⟩, hu1⟩ => ?_)
  cases c with
  | true => exact ⟨⟨H1, I1, q1⟩, hu1⟩
  | false => exact hb.run wh pins s1 σ H1 Q I1 hu1 q1
theorem pt2_not (ha : PT2 X a tA) : PT2 X (.UnaryOp .Not a pos) (tNot tA) := by
  refine ⟨fun pins s σ H Q I hu h => ?_⟩
  exact isTrue_not (ha.run pins s σ H (fun c H1 => Q (!c) H1) I hu h)
theorem pe2_one {op} (h : PE2 X a te) : PE2 X (.BoolOp op [a] pos) te := ⟨fun pins s σ H Q I hu hw => BoolOp_one (h.run pins s σ H Q I hu hw)⟩
theorem pe2_and {rest : List Expr} (ha : PE2 X a ta) (hb : PE2 X (.BoolOp .And (b :: rest) pos) tb) : PE2 X (.BoolOp .And (a :: b :: rest) pos) (tAndV ta tb) := by
  refine ⟨fun pins s σ H Q I hu h => ?_⟩
  refine BoolOp_and (thn (ha.run pins s σ H _ I hu h) fun v s1 ⟨⟨x, H1, I1, r1, q1⟩, hu1⟩ => ?_)
  obtain ⟨c, rfl, q1⟩ := q1
  cases r1
  refine wpAny_truthy_bool ?_
  cases c with
  | true => exact hb.run pins s1 σ H1 Q I1 hu1 q1
  | false => exact ⟨⟨.bl false, H1, I1, rfl, q1⟩, hu1⟩
theorem op2 {op : CmpOp} {r : R2} (nx : NoX X) (ho : OpR X (compareOp op) r) {pins : List (Addr × Obj)} {s : Shared} {σ : L2.St} {H : Hp} {x y : V} {v u : Value} {Q : VK} (I : Inv X pins σ H s) (hu : Unm s) (rx : RelV x v) (ry : RelV y u) (q : r x y H Q) :
    wpAny (M2 X.prog X.w) X.A (compareOp op v u) (fun c s' => EP X pins σ Q c s' ∧ Unm s') F0 s := lift2 nx (ho pins (stuckS s) σ H x y v u Q (inv_stuck I) rx ry q) fun u s1 s' k q => ep_woke I.bare hu k q
theorem pe2_cmpR {op : CmpOp} {r : R2} (nx : NoX X) (ho : OpR X (compareOp op) r) (ha : PE2 X a ta) (hb : PE2 X b tb) (hm : behindInMarks op b = false) : PE2 X (.Compare a [op] [b] pos) (tOp r ta tb) := by
  refine ⟨fun pins s σ H Q I hu h => ?_⟩
  refine wpAny_Compare1 (thn (ha.run pins s σ H _ I hu h) fun v s1 ⟨⟨x, H1, I1, r1, q1⟩, hu1⟩ => thn (hb.run pins s1 σ H1 _ I1 hu1 q1) fun u s2 ⟨⟨y, H2, I2, r2, q2⟩, hu2⟩ => ?_) hm
  exact op2 nx ho I2 hu2 r1 r2 q2
theorem pt2_cmpR {op : CmpOp} {r : R2} (nx : NoX X) (ho : OpR X (compareOp op) r) (ha : PE2 X a ta) (hb : PE2 X b tb) (hm : behindInMarks op b = false) : PT2 X (.Compare a [op] [b] pos) (tTest (tOp r ta tb)) := by
  refine ⟨fun pins s σ H Q I hu h => ?_⟩
  refine wpAny_isTrue_Compare1 (thn (ha.run pins s σ H _ I hu h) fun v s1 ⟨⟨x, H1, I1, r1, q1⟩, hu1⟩ => thn (hb.run pins s1 σ H1 _ I1 hu1 q1) fun u s2 ⟨⟨y, H2, I2, r2, q2⟩, hu2⟩ =>
    thn (op2 nx ho I2 hu2 r1 r2 q2) fun c s3 ⟨⟨z, H3, I3, r3, k, e, q3⟩, hu3⟩ => ?_) hm
  subst e
  cases r3
  exact wpAny_truthy_bool ⟨⟨H3, I3, q3⟩, hu3⟩
/-! ### argument lists, lists -/
theorem pa2_nil : PA2 X [] tNil := ⟨fun pos pins s σ H Q I hu h => Calls.spliced_nil ⟨⟨[], H, I, .nil, h⟩, hu⟩⟩
theorem pa2_cons {es : List Expr} {ta : TA} (ha : PE2 X e te) (hr : PA2 X es ta) (hs : starEach (e :: es) X.env = (false, eval e X.env) :: starEach es X.env := by rfl) : PA2 X (e :: es) (tCons te ta) := by
  refine ⟨fun pos pins s σ H Q I hu h => ?_⟩
  rw [hs]
  show wpAny _ _ (spliced ((false, eval e X.env) :: backTo pos (starEach es X.env))) _ _ s
  refine Calls.spliced_cons (thn (ha.run pins s σ H _ I hu h) fun u s1 ⟨⟨x, H1, I1, r1, q1⟩, hu1⟩ => ?_)
  exact thn (hr.run pos pins s1 σ H1 _ I1 hu1 q1) fun us s2 ⟨⟨xs, H2, I2, r2, q2⟩, hu2⟩ => ⟨⟨x :: xs, H2, I2, .cons r1 r2, q2⟩, hu2⟩
theorem list_spliced {M : Model} {A : Around} {E : Value → Shared → Prop} {s : Shared} {env : Env} {elts : List Expr} {pos : Pos} {Q : Value → Shared → Prop}
    (h : wpAny M A (spliced (backTo pos (starEach elts env))) (fun vs s₁ => vs.length ≤ sizeLine ∧ Q (.ref s₁.heap.objs.size) { s₁ with heap := s₁.heap.push { cls := .type "list", data := .seq vs.toArray } }) E s) : wpAny M A (eval (.List elts pos) env) Q E s := by
  rw [arm_eval_List]
  exact wpAny_bind (wpAny_standAt (wpAny_bind (wpAny_mono h (fun vs s₁ h₁ => wpAny_newList h₁.2 h₁.1) fun _ _ e => e)))
theorem pe2_lst {es : List Expr} {ta : TA} (h : PA2 X es ta) : PE2 X (.List es pos) (tLst ta) := by
  refine ⟨fun pins s σ H Q I hu hq => ?_⟩
  refine list_spliced (thn (h.run pos pins s σ H _ I hu hq) fun us s1 ⟨⟨xs, H1, I1, r, z, q⟩, hu1⟩ => ⟨by rw [← r.length]; exact z, ?_⟩)
  have hf : H1 s1.heap.objs.size = none := I1.hok.fresh (Nat.le_refl _)
  refine ⟨⟨.ref s1.heap.objs.size, upd H1 s1.heap.objs.size (.lst xs), I1.laid (t' := s1.toks) (fun b u e => Heap.get?_push_of_some _ e) (Nat.le_refl _) ?_, rfl, q _ hf⟩, hu1⟩
  exact ⟨z, us, 0, r, Heap.get?_push_size _ rfl⟩
end
/-! ### codes -/
section
variable {prog : Program} {w : World} {A : Around} {R : Result → Shared → Prop} {s : Shared}
theorem code2_func {body : List Stmt} {env : Env} (h : wpAny (M2 prog w) (A.deeper env) (execs body env) (fun f s' => R (.ok (.ret (match f with | .ret v => v | _ => .none))) s') F0 s) : codeAny (M2 prog w) A (.func body env) R s := by
  refine codeAny_of_tree ?_
  show wpAny _ (A.deeper env) (do point; match ← (execs body env).onRaise (leaving env) with | .ret v => ret v | _ => ret .none) _ _ s
  refine wpAny_bind (wpAny_point (wpAny_bind (wpAny_onRaise (wpAny_mono h (fun f s' h' => ?_) fun _ _ h' => h'.elim))))
  cases f <;> exact wpAny_pure h'
theorem code2_call_function {a : Addr} {args : Args} {o : Obj} {fd : FuncData} {body : List Stmt} (hroom : A.depth < recursionLimit) (ho : s.heap.get? a = some o)
    (hd' : o.data = .func fd) (hco : fd.scope.isCoroutine = false) (hgen : fd.scope.isGenerator = false) (hbody : fd.body = .stmts body) (hcd : s.heap.CodeRec fd.code fd.qualname)
    (h : wpAny (M2 prog w) A.in1 (bindArgs fd args) (fun binds s₁ =>
      wpAny (M2 prog w) A.in1 (newFunctionEnv fd.scope fd.globals fd.closure binds (fd.qualname ++ ".<locals>.") (some a) fd.code none fd.builtins)
        (fun env s₂ => s₂.heap.NoLimit ∧ codeAny (M2 prog w) A (.func body env) R s₂) (fun e s' => R (.error e) s') s₁) (fun e s' => R (.error e) s') s) :
    codeAny (M2 prog w) A (.call (.ref a) args) R s := by
  refine codeAny_of_tree ?_
  show wpAny _ A.in1 (callAny (.ref a) args) _ _ s
  simp only [callAny]
  refine wpAny_bind (wpAny_load ho ?_)
  obtain ⟨c, oc, vs, tq, hc, hoc, hdc, hq⟩ := hcd
  simp only [hd', callFunction, hco, hgen, hbody, hc]
  rw [hc] at h
  refine wpAny_bind (m := field (.ref c) 1) (wpAny_field hoc hdc hq (wpAny_bind (wpAny_pure ?_)))
  exact wpAny_bind (wpAny_mono h (fun binds s₁ h₁ => wpAny_bind (wpAny_mono h₁ (fun env s₂ h₂ => wpAny_bind (wpAny_enterFrame h₂.1 hroom
    (wpAny_pure (And.intro rfl h₂.2)))) fun _ _ h' => h')) fun _ _ h' => h')
end
/-! ### defs -/
abbrev Sp2 := List V → Hp → VK → Prop
structure Fn2 (P : Program) (w : World) (K : PySem.W.Frag) (mg : Str → Option Value) (base : Heap) (k : Nat) (f : Addr) (fd : FuncData) (ps : List Str) (sp : Sp2) : Prop where
  len : ∀ vs H Q, sp vs H Q → vs.length = ps.length
  run : ∀ (A : Around) (outer : List Env) (s : Shared) (H : Hp) (args : Args) (us : List Value) (vs : List V) (Q : VK), Room k A → A.guards = some [] → Env0 P w K mg base A outer s H → Unm s → BindsTo s fd args (ps.zip us) → Vals vs us → sp vs H Q →
    codeAny (M2 P w) A (.call (.ref f) args) (fun r s' => match r with | .ok (.ret u) => CE outer P w H s Q u s' ∧ Unm s' | _ => False) s
theorem fn2_of {P : Program} {w : World} {K : PySem.W.Frag} {mg : Str → Option Value} {base : Heap} {k : Nat} {f : Addr} {name qual : Str} {params : Arguments} {body : List Stmt} {scope : Scope} {dV kV doc pm cdv ct oc : Value} {an od : Option Addr}
    {osl : Array (Option Value)} {N ps : List Str} {sp : Sp2} (lk : K.lookup f = some ⟨oc, od, .func (PySem.W.fnOf name qual params body scope dV kV doc pm an cdv ct), osl⟩) (hcd : PySem.W.codeIn K cdv qual = true) (S : FnScope N ps scope)
    (len : ∀ vs H Q, sp vs H Q → vs.length = ps.length)
    (hbody : ∀ (A : Around) (outer : List Env) (s : Shared) (H : Hp) (vs : List V) (Q : VK), Room k (A.deeper (envOfC qual scope s.heap.objs.size f cdv)) → (A.deeper (envOfC qual scope s.heap.objs.size f cdv)).guards = some [] → sp vs H Q →
      ∃ t, PSs2 (cxOf CX0 P w K mg base N qual scope f cdv A outer s H (fun _ _ _ => False)).nox body t ∧ t { nx := fun _ H' => Q .non H', rt := Q } (L2.start N vs) H) :
    Fn2 P w K mg base (k + 1) f (PySem.W.fnOf name qual params body scope dV kV doc pm an cdv ct) ps sp := by
  refine ⟨len, fun A outer s H args us vs Q hr hgu e0 hu hb r hsp => ?_⟩
  have hl := len _ _ _ hsp
  have KX : K.In s.heap := e0.mod.kin.keeps fun b o e => (e0.bs b o e).1
  have lim : s.heap.NoLimit := e0.mod.nolimit.keeps fun b o e => (e0.bs b o e).1
  have hkind : ∀ y ∈ ps.zip us, scope.names.lookup y.1 = some .local ∨ (scope.names.lookup y.1 = some .cell ∧ ((cellsFrom (s.heap.objs.size + 1) scope.names []).lookup y.1).isSome = true) := fun ⟨n, v⟩ hy => by
    rcases S.par n (List.of_mem_zip hy).1 with q | q
    · exact .inl q
    · exact .inr ⟨q, PySem.W.cellsFrom_some _ _ _ (.inl q)⟩
  refine code2_call_function hr.depth (KX _ _ lk) rfl S.co S.gen rfl (PySem.W.codeRec_of KX hcd) (hb _ _ _ _ ?_)
  refine wpAny_newFunctionEnv_cells S.kind hkind fun env he s1 x => ?_
  subst he
  refine ⟨lim.keeps x.toInCall.keep, code2_func ?_⟩
  obtain ⟨t, ht, hq⟩ := hbody A outer s H vs Q (hr.deeper _) hgu hsp
  have I : Inv (cxOf CX0 P w K mg base N qual scope f cdv A outer s H (fun _ _ _ => False)) [] (L2.start N vs) H s1 := inv_start S hr.hd e0 hl r x
  have I' : Inv (cxOf CX0 P w K mg base N qual scope f cdv A outer s H (fun _ _ _ => False)).nox [] (L2.start N vs) H s1 := I.wish _
  have hu1 : Unm s1 := by
    obtain ⟨h1, tk, e, _⟩ := x.done
    rw [e]
    exact hu
  refine wpAny_mono (ht.run [] s1 (L2.start N vs) H _ I' hu1 hq) (fun fl s' ⟨hs, hu'⟩ => ?_) fun e s' hs => hs
  have fin : ∀ {σ' : L2.St} {H' : Hp} {v : V} {u : Value}, Inv (cxOf CX0 P w K mg base N qual scope f cdv A outer s H (fun _ _ _ => False)).nox [] σ' H' s' → RelV v u → Q v H' → CE outer P w H s Q u s' :=
    fun {σ' H' v u} J rv q => ⟨v, H', J.os, J.bare, J.base, J.hok, rv, q⟩
  cases fl with
  | ret u =>
    obtain ⟨v, σ', H', J, rv, q⟩ := hs
    exact ⟨fin J rv q, hu'⟩
  | next =>
    obtain ⟨σ', H', J, q⟩ := hs
    exact ⟨fin (v := V.non) (u := Value.none) J rfl q, hu'⟩
  | brk =>
    obtain ⟨_, _, _, q⟩ := hs
    exact (show False from q).elim
  | cont =>
    obtain ⟨_, _, _, q⟩ := hs
    exact (show False from q).elim
end KQ

end Kq2_text
section KqList_text
set_option Elab.async false
set_option linter.all false
set_option maxRecDepth 100000
set_option maxHeartbeats 4000000
/-! list(g) in M2 -/
namespace KQ
open PySem PySem.Spec PyProof.Rows L2
section
variable {prog : Program} {w : World} {A : Around} {E : Value → Shared → Prop} {s : Shared} {R : Result → Shared → Prop}
theorem code2_builtin_at {id : String} {args : Args} {b : Builtin} (hy : yfAt (.builtin id args) = none) (hb : entryFor table id = some b)
    (h : wpAny (M2 prog w) (A.under (.builtin id args)) (b args) (fun fin s' => match fin with | .done f => R (.ok f) s' | .again c' => c'.quiet = true ∧ codeAny (M2 prog w) A c' R s') (fun e s' => R (.error e) s') s) : codeAny (M2 prog w) A (.builtin id args) R s := by
  refine codeAny_of_tree ?_
  rw [den2_of hy]
  have e : (model prog w).den (.builtin id args) = b args := by
    show (match entryFor table id with | some b => b args | none => unsupported ((withoutEnding? id "#data").getD id)) = _
    rw [hb]
  rw [e]
  exact h
theorem code2_builtin_stack {id : String} {args : Args} {b : Builtin} {k : List (Code × Pos) → Sem PySem.Fin} (hy : yfAt (.builtin id args) = none) (hb : entryFor table id = some b) (hk : b args = stack >>= k)
    (h : ∀ p st, wpAny (M2 prog w) (A.under (.builtin id args)) (k ((.builtin id args, p) :: st))
      (fun fin s' => match fin with | .done f => R (.ok f) s' | .again c' => c'.quiet = true ∧ codeAny (M2 prog w) A c' R s') (fun e s' => R (.error e) s') s) :
    codeAny (M2 prog w) A (.builtin id args) R s := fun Γ p hc hΓ => by
  rw [wpCode_iff_wp, hc]
  have hden : (M2 prog w).den (.builtin id args) = stack >>= k := by
    rw [den2_of hy]
    show (match entryFor table id with | some b => b args | none => unsupported ((withoutEnding? id "#data").getD id)) = _
    rw [hb]; exact hk
  rw [hden]
  show Sem.wp _ Γ (Sem.bind stack k) _ _ p s
  unfold stack
  rw [Sem.wp_bind, Sem.wp_stack]
  have h0 := h p Γ.below Γ p (hc ▸ hΓ.in)
  rw [← hc] at h0
  show Sem.wp _ Γ (k ((Γ.code, p) :: Γ.below)) _ _ p s
  refine Sem.wp_mono _ Γ _ (fun fin p' s' h' => ?_) (fun _ _ _ h' => h') p s h0
  cases fin with
  | done f => exact h'
  | again c' => exact ⟨h'.1, h'.2 (Γ.goto c') p' rfl (hΓ.goto c')⟩
theorem code2_list_new (a : Value) {Q₁ : Value → Shared → Prop} (h : Q₁ (.ref s.heap.objs.size) { s with heap := s.heap.push { cls := .type "list", data := .seq #[] } }) :
    codeAny (M2 prog w) A (.call (.builtin "list.__new__") ⟨[.type "list", a], []⟩) (wants Q₁ E) s := by
  refine codeAny_of_tree ?_
  show wpAny _ A.in1 (do checkBuiltinCall "list.__new__" ⟨[.type "list", a], []⟩; again (.builtin "list.__new__" ⟨[.type "list", a], []⟩)) _ _ s
  refine wpAny_bind (wpAny_of_eq (F.newCall_list_1 a) (wpAny_pure ⟨plainId_quiet F.plain_list_new _, code2_builtin_stack rfl F.entry_list_new rfl fun p st => ?_⟩))
  rw [Around.under_plainId F.plain_list_new _]
  have hsub := sub_list_self
  have hown := owner_list_new
  obtain ⟨hp, g, d, tk, os⟩ := s
  simp only [hown]
  wp_walk
  exact h
theorem callType2 {T newId initId : String} {Bi : Builtin} {args : List Value} {Q Q₁ : Value → Shared → Prop} (ft : TypeCalled T newId initId)
    (hct : checkTypeCall T ⟨args, []⟩ = pure ()) (entryI : entryFor table initId = some Bi) (hyI : ∀ a, yfAt (.builtin initId a) = none)
    (hnew : codeAny (M2 prog w) A.in1 (.call (.builtin newId) ⟨.type T :: args, []⟩) (wants Q₁ E) s)
    (hnext : ∀ obj s₁, Q₁ obj s₁ → s₁.TypeIs obj T ∧ argsOk initId ⟨obj :: args, []⟩ ∧
      wpAny (M2 prog w) A.in1.in1 (Bi ⟨obj :: args, []⟩)
        (fun fin s' => match fin with | .done f => wants (fun r s₂ => r = .none ∧ Q obj s₂) E (.ok f) s' | .again c' => c'.quiet = true ∧ codeAny (M2 prog w) A.in1 c' (wants (fun r s₂ => r = .none ∧ Q obj s₂) E) s')
        (fun e s' => wants (fun r s₂ => r = .none ∧ Q obj s₂) E (.error e) s') s₁) :
    wpAny (M2 prog w) A (call (.type T) args) Q E s := by
  obtain ⟨c, tl, hmro⟩ := ft.mro
  have hmade := ft.made
  have hsub := ft.sub
  refine wpAny_call (codeAny_of_tree ?_)
  show wpAny _ _ (callAny (.type T) _) _ _ _
  refine wpAny_pure ⟨Code.quiet_builtin _ (by decide +kernel), code2_builtin_at rfl F.entry_type_call ?_⟩
  rw [Around.under_plain (weight_type_call_type T args []) rfl]
  have h1 := ft.notType
  have h2 := ft.canCreate
  repeat (any_goals (first | assumption | wp_step))

  refine codeAny_mono hnew fun r s₁ hr => ?_
  cases r with
  | error e => exact hr
  | ok fl =>
    cases fl with
    | ret obj =>
      obtain ⟨hT, hok, hsi⟩ := hnext _ _ hr
      have hli := ft.init.lookup
      have hbi := ft.init.bind obj
      repeat (any_goals (first | assumption | wp_step))

      refine codeAny_mono (call2_builtin ft.init.plain (hyI _) entryI (ft.init.check _ _ _ _ _ _ _ _ hT hok hsi)) fun r₂ s₂ hr₂ => ?_
      cases r₂ with
      | error e => exact hr₂
      | ok fl₂ =>
        cases fl₂ with
        | ret r =>
          obtain ⟨rfl, hq⟩ := hr₂
          repeat (any_goals (first | assumption | wp_step))
        | _ => exact hr₂.elim
    | _ => exact hr.elim
end
end KQ

end KqList_text
section KqDrain_text
set_option Elab.async false
set_option linter.all false
set_option maxRecDepth 100000
set_option maxHeartbeats 4000000
/-! list(g) in M2: the loop, the expression -/
namespace KQ
open PySem PySem.Spec PyProof.Rows L2
/-- an item that only tuple-keyed dicts can't spoil -/
def Stab (it : Item) : Prop := ∀ y H H', it y H → SameT H H' → it y H'
def Outs : List Item → List V → Hp → Prop
  | [], [], _ => True
  | it :: r, y :: ys, H => it y H ∧ Outs r ys H
  | _, _, _ => False
theorem Outs.mono : ∀ {its : List Item} {ys : List V} {H H' : Hp}, (∀ it ∈ its, Stab it) → Outs its ys H → SameT H H' → Outs its ys H'
  | [], [], _, _, _, _, _ => trivial
  | it :: r, y :: ys, H, H', st, h, s => ⟨st it List.mem_cons_self y H H' h.1 s, Outs.mono (fun i hi => st i (List.mem_cons_of_mem _ hi)) h.2 s⟩
  | [], _ :: _, _, _, _, h, _ => h.elim
  | _ :: _, [], _, _, _, h, _ => h.elim
theorem Outs.snoc : ∀ {its : List Item} {ys : List V} {H : Hp} {it : Item} {y : V}, Outs its ys H → it y H → Outs (its ++ [it]) (ys ++ [y]) H
  | [], [], _, _, _, _, h => ⟨h, trivial⟩
  | _ :: r, _ :: ys, H, it, y, h, h2 => ⟨h.1, Outs.snoc h.2 h2⟩
  | [], _ :: _, _, _, _, h, _ => h.elim
  | _ :: _, [], _, _, _, h, _ => h.elim
theorem Outs.len : ∀ {its : List Item} {ys : List V} {H : Hp}, Outs its ys H → ys.length = its.length
  | [], [], _, _ => rfl
  | _ :: r, _ :: ys, _, h => congrArg Nat.succ (Outs.len h.2)
  | [], _ :: _, _, h => h.elim
  | _ :: _, [], _, h => h.elim
/-- a generator that a plain def walks -/
structure LI (X : Cx) (pins : List (Addr × Obj)) (a g L : Nat) (o : Obj) (d : Gd) (Fin : Hp → Prop) (rest : List Item) (x : GenState) (own : List (Addr × Obj)) (gzi : Gz) (σ : L2.St) (H : Hp) (s : Shared) : Prop where
  inv : Inv X pins σ H s
  asl : Asl a g L o d Fin rest x own gzi H s
  dj : ∀ p ∈ X.pn ++ pins, p.1 ≠ a ∧ ∀ q ∈ own, p.1 ≠ q.1
  marks : ∀ (i : Nat) y, s.gens[i]? = some y → unmarkedG y = false → i ∈ ((g, x) :: gzi).map (·.1)
theorem li_end {X : Cx} {pins : List (Addr × Obj)} {a g L : Nat} {o : Obj} {d : Gd} {Fin : Hp → Prop} {rest : List Item} {x : GenState} {own : List (Addr × Obj)} {gzi : Gz} {σ : L2.St} {H : Hp} {s s2 : Shared} (l : LI X pins a g L o d Fin rest x own gzi σ H s) (gr : GRel s.gens s2.gens ((g, x) :: gzi) []) : Unm s2 := fun y hy => by
  obtain ⟨i, hi, e⟩ := Array.mem_iff_getElem.mp hy
  have e2 : s2.gens[i]? = some y := by rw [Array.getElem?_eq_getElem hi, e]
  cases hm : unmarkedG y with
  | true => rfl
  | false =>
    rcases gr.mark i y e2 hm with q | ⟨q1, q2⟩
    · exact absurd q (by simp)
    · exact absurd (l.marks i y q1 hm) q2
theorem li_next {X : Cx} {pins : List (Addr × Obj)} {a g L : Nat} {o : Obj} {d : Gd} {Fin : Hp → Prop} {rest rest' : List Item} {x x' : GenState} {own own' : List (Addr × Obj)} {gzi gzi' : Gz} {σ : L2.St} {H H2 : Hp} {s s2 : Shared} (l : LI X pins a g L o d Fin rest x own gzi σ H s)
    (I2 : Inv X pins σ H2 s2) (as' : Asl a g L o d Fin rest' x' own' gzi' H2 s2) (dj : ∀ p ∈ own', ∀ q ∈ X.pn ++ pins, q.1 ≠ p.1) (gr : GRel s.gens s2.gens ((g, x) :: gzi) ((g, x') :: gzi')) : LI X pins a g L o d Fin rest' x' own' gzi' σ H2 s2 := by
  refine ⟨I2, as', fun p hp => ⟨(l.dj p hp).1, fun q hq => dj q hq p hp⟩, fun i y e hm => ?_⟩
  rcases gr.mark i y e hm with q | ⟨q1, q2⟩
  · exact q
  · exact absurd (l.marks i y q1 hm) q2
/-- a generator just made -/
theorem li_made {X : Cx} {k : Nat} {pins : List (Addr × Obj)} {σ : L2.St} {H : Hp} {its : List Item} {Fin : Hp → Prop} {s1 s2 : Shared} {a g L : Nat} {c : Code} {o oL : Obj} {d : Gd} {A : Around} (m : Made X k pins σ H its Fin s1 a g L c o oL d) (I : Inv X pins σ H s2) (hu : Unm s2) (st : s2.gens[g]? = some (.fresh c)) (hh : s2.heap = s1.heap) (hr : Room k A) (hf : A.frames = some X.stack) :
    LI X pins a g L o { d with A := A } Fin its (.fresh c) [(L, oL)] [] σ H s2 := by
  have go := GenO.of m.gen m.at_
  refine ⟨I, ⟨by rw [hh]; exact go, m.free, st, fun p hp => ?_, fun q hq => (by cases hq), H, Same.refl H, m.sleeps A hr hf⟩, fun p hp => ⟨Nat.ne_of_lt (Nat.lt_trans (m.pins p hp) m.la), fun q hq => ?_⟩, fun i y e hm => ?_⟩
  · rw [List.mem_singleton.mp hp]
    exact ⟨by rw [hh]; exact m.ns, m.nfree, m.ncell, Nat.le_refl _, Nat.ne_of_lt m.la⟩
  · rw [List.mem_singleton.mp hq]
    exact Nat.ne_of_lt (m.pins p hp)
  · rw [hu y (Array.mem_of_getElem? e)] at hm
    cases hm
theorem li_inner {X : Cx} {B : Around} {k : Nat} {pins : List (Addr × Obj)} {σ : L2.St} {H : Hp} {its : List Item} {Fin : Hp → Prop} {s1 : Shared} {a g L : Nat} {c : Code} {o oL : Obj} {d : Gd} (m : Made X k pins σ H its Fin s1 a g L c o oL d) (hd : B.handled = none) (dp : B.depth < recursionLimit) (hf : B.frames = some X.stack) : Inner X B a g L { d with A := B.in1 } :=
  ⟨rfl, hd, dp, hf, m.prog, m.w, m.K, m.mg, m.base, m.outer, m.loc, m.num, m.os, m.lt, m.la, m.cells⟩
/-- the waker's list, changed -/
theorem li_write {X : Cx} {pins : List (Addr × Obj)} {a g L : Nat} {o : Obj} {d : Gd} {Fin : Hp → Prop} {rest : List Item} {x : GenState} {own : List (Addr × Obj)} {gzi : Gz} {σ : L2.St} {H : Hp} {s : Shared} {S : Addr} {oS oS' : Obj} {h' : Heap} {t' : Nat} (l : LI X (pins ++ [(S, oS)]) a g L o d Fin rest x own gzi σ H s) (hex : X.ex = []) (hS : X.s_0.heap.objs.size ≤ S)
    (hc : ∀ y c, X.env.cells.lookup y = some c → c ≠ S) (hp : ∀ p ∈ X.pn ++ pins, p.1 ≠ S) (k : ∀ b ob, b ≠ S → s.heap.get? b = some ob → h'.get? b = some ob) (e : h'.get? S = some oS') (nc : ∀ v, oS'.data ≠ .cell v) :
    LI X (pins ++ [(S, oS')]) a g L o d Fin rest x own gzi σ H { s with heap := h', toks := t' } := by
  have pS := l.inv.pin (S, oS) (List.mem_append_right _ (List.mem_append_right _ List.mem_cons_self))
  obtain ⟨eS, nS, n1, n2, _⟩ := pS
  have I0 : Inv X pins σ H s := l.inv.pins_of fun p hp => l.inv.pin p (List.mem_append_right _ (List.mem_append_left _ hp))
  have I1 : Inv X pins σ H { s with heap := h', toks := t' } := I0.turned k nS n1 (.inr hS) hc hp
  have dS := l.dj (S, oS) (List.mem_append_right _ (List.mem_append_right _ List.mem_cons_self))
  have g' : GenO h' a g o := ⟨k a o (Ne.symm dS.1) l.asl.gen.at_, l.asl.gen.cls, l.asl.gen.dat, l.asl.gen.slots⟩
  refine ⟨I1.pins_of fun p hp => ?_, ⟨g', l.asl.free, l.asl.st, fun p hp => ?_, l.asl.gens, l.asl.sleeps⟩, fun p hp => ?_, l.marks⟩
  · rcases List.mem_append.mp hp with hp | hp
    · exact I1.pin p (List.mem_append_right _ hp)
    · rw [List.mem_singleton.mp hp]
      exact ⟨e, nS, n1, n2, nc⟩
  · obtain ⟨q1, q2⟩ := l.asl.keep p hp
    exact ⟨k _ _ (Ne.symm (dS.2 p hp)) q1, q2⟩
  · rw [← List.append_assoc] at hp
    rcases List.mem_append.mp hp with hp | hp
    · exact l.dj p (by rw [← List.append_assoc]; exact List.mem_append_left _ hp)
    · rw [List.mem_singleton.mp hp]
      exact dS
theorem drain2 {X : Cx} {A : Around} {R : Result → Shared → Prop} {S a g L : Nat} {o : Obj} {d : Gd} {Fin : Hp → Prop} {pins : List (Addr × Obj)} {σ : L2.St} {H1 : Hp} {all : List Item} {res : Value} (n : Inner X A.in1 a g L d) (hex : X.ex = []) (hS : X.s_0.heap.objs.size ≤ S)
    (hc : ∀ y c, X.env.cells.lookup y = some c → c ≠ S) (hp : ∀ p ∈ X.pn ++ pins, p.1 ≠ S) (hle : all.length ≤ sizeLine) (st : ∀ it ∈ all, Stab it)
    (hend : ∀ s' acc c H' ys, Inv X (pins ++ [(S, lstObj acc c)]) σ H' s' → Unm s' → Vals ys acc.toList → SameT H1 H' → Fin H' → Outs all ys H' → R (.ok (.ret res)) s') :
    ∀ (rest dn : List Item) (ys : List V) x own gzi acc c H s, all = dn ++ rest → LI X (pins ++ [(S, lstObj acc c)]) a g L o d Fin rest x own gzi σ H s → Vals ys acc.toList → Outs dn ys H → SameT H1 H →
      codeAny (M2 X.prog X.w) A (.builtin "list.extend.loop" ⟨[.ref S, .ref a, res], []⟩) R s := by
  intro rest
  induction rest with
  | nil =>
    intro dn ys x own gzi acc c H s e l hv ho sm
    rw [List.append_nil] at e
    subst e
    refine code2_builtin_at rfl F.entry_extend_loop ?_
    rw [Around.under_plainId F.plain_extend_loop _]
    show wpAny _ A.in1 (pyNext (.ref a) >>= _) _ _ s
    refine wpAny_bind (wpAny_mono (inner_next (E := F0) l.inv n l.asl hex l.dj) (fun r s2 h => ?_) fun _ _ z => z.elim)
    cases r with
    | some v => exact h.elim
    | none =>
      obtain ⟨H2, I2, _, gr, sm2, hf⟩ := h
      exact wpAny_pure (hend s2 acc c H2 ys I2 (li_end l gr) hv (sm.trans sm2) hf (ho.mono st sm2))
  | cons it rest ih =>
    intro dn ys x own gzi acc c H s e l hv ho sm
    refine code2_builtin_at rfl F.entry_extend_loop ?_
    rw [Around.under_plainId F.plain_extend_loop _]
    show wpAny _ A.in1 (pyNext (.ref a) >>= _) _ _ s
    refine wpAny_bind (wpAny_mono (inner_next (E := F0) l.inv n l.asl hex l.dj) (fun r s2 h => ?_) fun _ _ z => z.elim)
    cases r with
    | none => exact h.elim
    | some v =>
      obtain ⟨x', own', gz', y, H2, I2, rv, hit, sm2, as', _, dj, gr, _⟩ := h
      have l2 := li_next l I2 as' dj gr
      have pS := I2.pin (S, lstObj acc c) (List.mem_append_right _ (List.mem_append_right _ List.mem_cons_self))
      have hS1 : s2.heap.get? S = some (lstObj acc c) := pS.1
      have hasz : acc.size + 1 ≤ sizeLine := by
        have e1 := hv.length
        have e2 := ho.len
        have e3 : acc.toList.length = acc.size := by simp
        have e4 : all.length = dn.length + (rest.length + 1) := by rw [e, List.length_append, List.length_cons]
        omega
      show wpAny _ A.in1 (updateSeq S (·.push v) >>= _) _ _ _
      refine wpAny_bind ?_
      refine wpAny_updateSeq hS1 rfl (wpAny_pure ⟨plainId_quiet F.plain_extend_loop _, ?_⟩) (by omega) (by show (acc.push v).size ≤ sizeLine + 1; rw [Array.size_push]; omega)
      obtain ⟨c', ec⟩ : ∃ c', Obj.mapSeq (·.push v) (lstObj acc c) = lstObj (acc.push v) c' := ⟨_, rfl⟩
      have st0 : ∀ it' ∈ dn, Stab it' := fun it' hi => st it' (by rw [e]; exact List.mem_append_left _ hi)
      refine ih (dn ++ [it]) (ys ++ [y]) x' own' gz' (acc.push v) c' H2 { s2 with heap := s2.heap.update S (Obj.mapSeq (·.push v)) } (by rw [e, List.append_assoc]; rfl)
        (li_write (t' := s2.toks) l2 hex hS hc hp (fun b ob hb eb => (Heap.get?_update_other _ _ (Ne.symm hb)).trans eb) ?_ (fun v z => by cases z)) (by rw [Array.toList_push]; exact hv.append (.cons rv .nil)) ((ho.mono st0 sm2).snoc hit) (sm.trans sm2)
      rw [← ec]
      exact Heap.get?_update_self _ hS1 rfl
end KQ

end KqDrain_text
section KqListE_text
set_option Elab.async false
set_option linter.all false
set_option maxRecDepth 100000
set_option maxHeartbeats 4000000
/-! the expression list(g) in M2 -/
namespace KQ
open PySem PySem.Spec PyProof.Rows L2
theorem lk_same {s s' : Shared} {n : Nat} (k : Lk (asleep s) n (stuckS s) s') : s' = s := by
  obtain ⟨e, a, _⟩ := k
  have g : s'.gens = s.gens := by
    apply Array.ext_getElem?
    intro i
    cases q : asleep s i with
    | none => rw [a.oth i q, (as_stuck s).oth i q]
    | some y => rw [(a.dom i y q).2.1, ((as_stuck s).dom i y q).2.1]
  rw [e, g]
  rfl
/-- a step that leaves the state as it was -/
theorem use_same {prog : Program} {w : World} {α : Type} {A : Around} {t : Sem α} {s : Shared} {v : α} (h : wpAny (model prog w) A t (fun u s1 => u = v ∧ s1 = stuckS s) F0 (stuckS s)) : wpAny (M2 prog w) A t (fun u s' => u = v ∧ s' = s) F0 s :=
  wpAny_mono (wpAny_go (lk_stuck s) h) (fun u s' ⟨s1, k, e1, e2⟩ => by subst e2; exact ⟨e1, lk_same k⟩) fun _ _ ⟨_, _, z⟩ => z
theorem IsGen.stuck {s : Shared} {a g : Nat} (h : s.heap.IsGen a g) : (stuckS s).heap.IsGen a g := h
theorem iter2_gen {prog : Program} {w : World} {A : Around} {s : Shared} {a g : Nat} (h : s.heap.IsGen a g) : wpAny (M2 prog w) A (pyIter (.ref a)) (fun u s' => u = .ref a ∧ s' = s) F0 s :=
  use_same (wpAny_pyIter_gen (s := stuckS s) h ⟨rfl, rfl⟩)
section
variable {X : Cx} {pins : List (Addr × Obj)} {σ : L2.St} {H : Hp} {s : Shared}
theorem ld2_glob {x : Str} {u : Value} {pos : Pos} {Q : Value → Shared → Prop} {E : Value → Shared → Prop} {M : Model} (I : Inv X pins σ H s) (hg : Gl X x) (hm : X.mg x = some u) (h : Q u s) (hd : (x == ("__debug__" : Str)) = false := by decide) : wpAny M X.A (eval (.Name x pos) X.env) Q E s :=
  Calls.Name_function_global I.ok.kind hg (Calls.loadGlobal_global (by rw [I.ok.glob]; exact I.mod.glob.keeps I.bk) hm h) hd
theorem ld2_blt {x : Str} {u : Value} {pos : Pos} {Q : Value → Shared → Prop} {E : Value → Shared → Prop} {M : Model} (I : Inv X pins σ H s) (hg : Gl X x) (hm : X.mg x = none) (hv : bootBuiltins x = some u) (h : Q u s)
    (hn : x ≠ "__name__" := by decide) (hd : (x == ("__debug__" : Str)) = false := by decide) : wpAny M X.A (eval (.Name x pos) X.env) Q E s := by
  obtain ⟨mb, h1, h2⟩ := I.mod.blt
  exact Calls.Name_function_global I.ok.kind hg (Calls.loadGlobal_builtin (by rw [I.ok.glob]; exact I.mod.glob.keeps I.bk) hm (by rw [I.ok.blt]; exact h1.keeps I.bk) ((h2 x hn).trans hv) h) hd
/-- a pinned list becomes tracked -/
theorem inv_track {S : Addr} {acc : Array Value} {c : Nat} {ys : List V} (I : Inv X (pins ++ [(S, lstObj acc c)]) σ H s) (hS : X.s_0.heap.objs.size ≤ S) (hc : ∀ y c, X.env.cells.lookup y = some c → c ≠ S) (hp : ∀ p ∈ X.pn ++ pins, p.1 ≠ S) (hle : ys.length ≤ sizeLine) (r : Vals ys acc.toList) :
    Inv X pins σ (upd H S (.lst ys)) s := by
  obtain ⟨eS, nS, n1, n2, _⟩ := I.pin (S, lstObj acc c) (List.mem_append_right _ (List.mem_append_right _ List.mem_cons_self))
  have old : ∀ b o, X.s_0.heap.get? b = some o → b ≠ S := fun b o e => Nat.ne_of_lt (Nat.lt_of_lt_of_le (Heap.lt_size e) hS)
  refine ⟨I.ok, I.os, I.bare, ⟨I.base.keep, I.base.slot, fun b o e n hx => ?_, I.base.there, fun b xs e => ?_, fun b o u e => ?_, fun b ps e => ?_⟩, I.loc, I.cell, ?_, fun x c e => ?_, fun p hm => ?_, fun b o e => ?_, I.len⟩
  · rw [upd_ne (old b o e)]
    exact I.base.free b o e n hx
  · have q := I.base.tups b xs e
    rw [upd_ne (ne_of_none q nS)]
    exact q
  · have q := I.base.frzs b o u e
    rw [upd_ne (ne_of_none q nS)]
    exact q
  · obtain ⟨m, q⟩ := I.base.tbls b ps e
    exact ⟨m, by rw [upd_ne (ne_of_none q nS)]; exact q⟩
  · rw [upd_ne (Ne.symm n1)]
    exact I.free
  · rw [upd_ne (hc x c e)]
    exact I.freeC x c e
  · rw [upd_ne (hp p hm)]
    rcases List.mem_append.mp hm with z | z
    · exact I.pin p (List.mem_append_left _ z)
    · exact I.pin p (List.mem_append_right _ (List.mem_append_left _ z))
  · by_cases hb : b = S
    · subst hb
      rw [upd_same] at e
      cases e
      exact ⟨hle, acc.toList, c, r, by rw [eS]⟩
    · rw [upd_ne hb] at e
      exact (I.hok b o e).stay (fun _ _ _ z => z) (fun d z => by rw [upd_ne (ne_of_none z nS)]; exact z) fun d xs z => by rw [upd_ne (ne_of_none z nS)]; exact z
/-- the waker's new object -/
theorem li_grow {a g L : Nat} {o : Obj} {d : Gd} {Fin : Hp → Prop} {rest : List Item} {x : GenState} {own : List (Addr × Obj)} {gzi : Gz} {S : Addr} {oS : Obj} {h' : Heap} {t' : Nat} (l : LI X pins a g L o d Fin rest x own gzi σ H s) (k : ∀ b ob, s.heap.get? b = some ob → h'.get? b = some ob) (hS : s.heap.objs.size ≤ S) (e : h'.get? S = some oS) (nc : ∀ v, oS.data ≠ .cell v) :
    LI X (pins ++ [(S, oS)]) a g L o d Fin rest x own gzi σ H { s with heap := h', toks := t' } := by
  have I1 : Inv X pins σ H { s with heap := h', toks := t' } := l.inv.kept k
  refine ⟨I1.pins_of fun p hp => ?_, ⟨⟨k _ _ l.asl.gen.at_, l.asl.gen.cls, l.asl.gen.dat, l.asl.gen.slots⟩, l.asl.free, l.asl.st, fun p hp => ?_, l.asl.gens, l.asl.sleeps⟩, fun p hp => ?_, l.marks⟩
  · rcases List.mem_append.mp hp with hp | hp
    · exact I1.pin p (List.mem_append_right _ hp)
    · rw [List.mem_singleton.mp hp]
      exact ⟨e, l.inv.hok.fresh hS, Nat.ne_of_gt (Nat.lt_of_lt_of_le l.inv.lt hS), l.inv.nofs hS, nc⟩
  · obtain ⟨q1, q2⟩ := l.asl.keep p hp
    exact ⟨k _ _ q1, q2⟩
  · rw [← List.append_assoc] at hp
    rcases List.mem_append.mp hp with hp | hp
    · exact l.dj p hp
    · rw [List.mem_singleton.mp hp]
      exact ⟨Nat.ne_of_gt (Nat.lt_of_lt_of_le (Heap.lt_size l.asl.gen.at_) hS), fun q hq => Nat.ne_of_gt (Nat.lt_of_lt_of_le (Heap.lt_size (l.asl.keep q hq).1) hS)⟩
theorem yf_init (a : Args) : yfAt (.builtin "list.__init__" a) = none := by
  obtain ⟨ps, kw⟩ := a
  cases ps with
  | nil => rfl
  | cons v r => cases v <;> rfl
/-- list(g), g a generator that has not begun -/
theorem call_list2 {k : Nat} {its : List Item} {Fin : Hp → Prop} {s1 : Shared} {a g L : Nat} {c : Code} {o oL : Obj} {d : Gd} {Q' : Value → Shared → Prop} (hex : X.ex = []) (hr : Room (k + 4) X.A) (m : Made X k pins σ H its Fin s1 a g L c o oL d) (I : Inv X pins σ H s) (hu : Unm s) (st : s.gens[g]? = some (.fresh c)) (hh : s.heap = s1.heap)
    (hle : its.length ≤ sizeLine) (hst : ∀ it ∈ its, Stab it)
    (hQ : ∀ S s' acc c H' ys, X.s_0.heap.objs.size ≤ S → (∀ y c, X.env.cells.lookup y = some c → c ≠ S) → (∀ p ∈ X.pn ++ pins, p.1 ≠ S) → Inv X (pins ++ [(S, lstObj acc c)]) σ H' s' → Unm s' → Vals ys acc.toList → SameT H H' → Fin H' → Outs its ys H' → Q' (.ref S) s') :
    wpAny (M2 X.prog X.w) X.A (call (.type "list") [.ref a]) Q' F0 s := by
  have hfr := I.ok.frames
  have hg : s.heap.IsGen a g := by
    rw [hh]
    exact m.gen
  have ha2 : a < s.heap.objs.size := by
    obtain ⟨_, _, _, e, _⟩ := hg
    exact Heap.lt_size e
  have hSa : s.heap.objs.size ≠ a := Nat.ne_of_gt ha2
  refine callType2 (Q₁ := fun obj s₁ => obj = .ref s.heap.objs.size ∧ s₁ = { s with heap := s.heap.push { cls := .type "list", data := .seq #[] } }) F.called_list (F.typeCall_list_1 _) F.entry_list_init yf_init
    (code2_list_new _ ⟨rfl, rfl⟩) fun obj s₁ h₁ => ?_
  obtain ⟨rfl, rfl⟩ := h₁
  have hS : (s.heap.push { cls := .type "list", data := .seq #[] }).get? s.heap.objs.size = some { cls := .type "list", data := .seq #[] } := Heap.get?_push_size _ rfl
  refine ⟨⟨_, hS, rfl⟩, F.args_list_init_2 _ _, ?_⟩
  show wpAny _ X.A.in1.in1 (do let old ← Builtin.List.listItems (.ref s.heap.objs.size); Builtin.List.listUpdate (.ref s.heap.objs.size) (fun _ => #[]); letGo old.toList.reverse; Builtin.List.listExtendWith (.ref s.heap.objs.size) (.ref a) .none) _ _ _
  refine wpAny_bind ?_
  unfold Builtin.List.listItems
  refine wpAny_bind (wpAny_seqItems hS rfl (wpAny_pure ?_))
  show wpAny _ X.A.in1.in1 (updateSeq s.heap.objs.size (fun _ => #[]) >>= fun _ => letGo (#[] : Array Value).toList.reverse >>= fun _ => Builtin.List.listExtendWith (.ref s.heap.objs.size) (.ref a) .none) _ _ _
  refine wpAny_bind (wpAny_updateSeq hS rfl ?_)
  have hS2 := Heap.get?_update_self (Obj.mapSeq (fun _ => (#[] : Array Value))) hS rfl
  refine wpAny_bind (wpAny_letGo ?_)
  unfold Builtin.List.listExtendWith
  have up : ∀ (h : Heap) (f : Obj → Obj), (∀ b o, s.heap.get? b = some o → h.get? b = some o) → ∀ b o, s.heap.get? b = some o → (h.update s.heap.objs.size f).get? b = some o := fun h f q b o e =>
    (Heap.get?_update_other _ _ (Ne.symm (Nat.ne_of_lt (Heap.lt_size e)))).trans (q b o e)
  have k1 : ∀ b o, s.heap.get? b = some o → (s.heap.push { cls := .type "list", data := .seq #[] }).get? b = some o := fun b o e => Heap.get?_push_of_some _ e
  have k2 := up _ (Obj.mapSeq (fun _ => (#[] : Array Value))) k1
  have gty : ∀ {h : Heap}, (∀ b o, s.heap.get? b = some o → h.get? b = some o) → h.IsGen a g := fun {h} q => hg.keeps q
  refine wpAny_bind (wpAny_typeOf (Heap.IsGen.typeIs (s := { s with heap := _ }) (gty k2)) ?_)
  have h1 : Builtin.List.listSameRef (.ref s.heap.objs.size) (.ref a) = false := by simp [Builtin.List.listSameRef, hSa]
  have h2 : (Value.type "generator" == Value.type "list") = false := by decide
  have h3 : (Value.type "generator" == Value.type "tuple") = false := by decide
  simp only [h1, h2, h3, Bool.or_false, Bool.false_eq_true, if_false]
  refine wpAny_bind (wpAny_mono (iter2_gen (s := { s with heap := _ }) (gty k2)) (fun u s5 ⟨e1, e2⟩ => ?_) fun _ _ z => z.elim)
  subst e1 e2
  refine wpAny_bind (wpAny_holding ?_)
  unfold Builtin.List.listLengthHint
  refine wpAny_bind (wpAny_specialOf (Heap.IsGen.typeIs (s := { s with heap := _ }) (gty k2)) F.gen_no_len ?_)
  show wpAny _ X.A.in1.in1 (specialOf (Value.ref a) (Str.ofString "__length_hint__") >>= _) _ _ _
  refine wpAny_bind (wpAny_specialOf (Heap.IsGen.typeIs (s := { s with heap := _ }) (gty k2)) F.gen_no_hint ?_)
  refine wpAny_pure ?_
  show wpAny _ X.A.in1.in1 (rule "list.extend.makes-room" >>= fun _ => Builtin.List.listTouch (.ref s.heap.objs.size) >>= fun _ =>
    again (.builtin "list.extend.loop" ⟨[.ref s.heap.objs.size, .ref a, .none], []⟩)) _ _ _
  refine wpAny_bind (wpAny_rule ?_)
  refine wpAny_bind ?_
  show wpAny _ X.A.in1.in1 (updateSeq s.heap.objs.size (·.push .none) >>= fun _ => updateSeq s.heap.objs.size (·.pop)) _ _ _
  refine wpAny_bind (wpAny_updateSeq hS2 rfl ?_)
  have hS3 := Heap.get?_update_self (Obj.mapSeq (·.push Value.none)) hS2 rfl
  refine wpAny_updateSeq (hz := by seq_fits) hS3 rfl ?_
  have hS4 := Heap.get?_update_self (Obj.mapSeq (·.pop)) hS3 rfl
  have k4 := up _ (Obj.mapSeq (·.pop)) (up _ (Obj.mapSeq (·.push Value.none)) k2)
  refine wpAny_pure ⟨plainId_quiet F.plain_extend_loop _, ?_⟩
  have dp := hr.dp
  have un := hr.un
  have rm : Room k X.A.in1.in1.in1 := ⟨hr.hd, by show X.A.depth + 3 * k + 5 < _; omega, by show X.A.units + 1 + 1 + 1 + 16 * k + 200 < _; omega⟩
  have n := li_inner (B := X.A.in1.in1) m hr.hd (by show X.A.depth < _; omega) hfr
  have hSz : X.s_0.heap.objs.size ≤ s.heap.objs.size := I.sz
  have hSc : ∀ y c, X.env.cells.lookup y = some c → c ≠ s.heap.objs.size := fun y c e => by
    obtain ⟨v, oc, e1, _⟩ := I.cell y c e
    exact Nat.ne_of_lt (Heap.lt_size e1)
  have hSp : ∀ p ∈ X.pn ++ pins, p.1 ≠ s.heap.objs.size := fun p hp => Nat.ne_of_lt (Heap.lt_size (I.pin p hp).1)
  have l0 := li_made (A := X.A.in1.in1.in1) m I hu st hh rm hfr
  have l1 := li_grow (t' := s.toks) (oS := lstObj #[] _) l0 k4 (Nat.le_refl _) hS4 (fun v z => by cases z)
  exact drain2 (R := wants (fun r s₂ => r = .none ∧ Q' (.ref s.heap.objs.size) s₂) F0) (all := its) (H1 := H) n hex hSz hSc hSp hle hst
    (fun s' acc c H' ys q1 q2 q3 q4 q5 q6 => ⟨rfl, hQ _ s' acc c H' ys hSz hSc hSp q1 q2 q3 q4 q5 q6⟩) its [] [] _ _ _ #[] _ H _ rfl l1 .nil trivial SameT.refl
def tListM (tg : TMk) : TE := fun σ H Q => tg σ H fun its Fin H1 => its.length ≤ sizeLine ∧ (∀ it ∈ its, Stab it) ∧ ∀ ys H2, SameT H1 H2 → Fin H2 → Outs its ys H2 → ∀ p, H2 p = none → Q (.ref p) (upd H2 p (.lst ys))
theorem pe2_list {k : Nat} {e : Expr} {tg : TMk} {nm : Str} {p pos : Pos} (nx : NoX X) (hex : X.ex = []) (h : PMk X k e tg) (hr : Room (k + 4) X.A) (hg : Gl X nm) (hmg : X.mg nm = none) (hv : bootBuiltins nm = some (.type "list")) (hnm : nm ≠ "__name__" := by decide) (hdb : (nm == ("__debug__" : Str)) = false := by decide)
    (he : starEach [e] X.env = (false, eval e X.env) :: starEach [] X.env := by rfl) : PE2 X (.Call (.Name nm p) [e] [] pos) (tListM tg) := by
  refine ⟨fun pins s σ H Q I hu hq => ?_⟩
  refine wpAny_Call_Name_kw (ld2_blt I hg hmg hv ?_ hnm hdb)
  refine PyProof.Rows.callWith_type1 ?_ he rfl
  rw [he]
  show wpAny _ _ (spliced ((false, eval e X.env) :: backTo pos (starEach [] X.env))) _ _ s
  refine Calls.spliced_cons (wpAny_mono (wpAny_go (lk_stuck s) (h.run pins (stuckS s) σ H _ (inv_stuck I) (fun _ _ => .inr trivial) hq)) (fun u s' ⟨s1, lk, its, Fi, H1, a, g, L, c, o, oL, d, ev, hgn, m, hle, hst, hc⟩ => ?_) fun x s2 ⟨_, _, z⟩ => nx _ _ z)
  subst ev
  refine Calls.spliced_nil ?_
  have hgn : s.gens.size ≤ g := by
    have e : (stuckS s).gens.size = s.gens.size := Array.size_map ..
    rw [← e]
    exact hgn
  have st2 : s'.gens[g]? = some (.fresh c) := by
    have e : asleep s g = none := by
      unfold asleep
      rw [Array.getElem?_eq_none hgn]
      rfl
    rw [lk.2.1.oth g e, m.st]
    rfl
  refine call_list2 hex hr m (inv_woke I.bare m.inv lk.woke) (unm_woke hu m.inv.bare lk.woke) st2 (woke_heap lk.woke).1 hle hst fun S s' acc c H' ys q1 q2 q3 q4 q5 q6 q7 q8 q9 => ⟨⟨.ref S, upd H' S (.lst ys), inv_track q4 q1 q2 q3 (by rw [q9.len]; exact hle) q6, rfl, hc ys H' q7 q8 q9 S ?_⟩, q5⟩
  exact (q4.pin (S, lstObj acc c) (List.mem_append_right _ (List.mem_append_right _ List.mem_cons_self))).2.1
end
end KQ

end KqListE_text
section Kq2b_text
set_option Elab.async false
set_option linter.all false
set_option maxRecDepth 100000
set_option maxHeartbeats 4000000
/-! calls, try, for, in M2 -/
namespace KQ
open PySem PySem.Spec PyProof.Rows L2
section
variable {X : Cx} {k f : Nat} {fd : FuncData} {ps : List Str} {ds : List Value} {dvs : List V} {sp : Sp2} {x : Str} {p pos : Pos}
theorem run_fn2 {pins : List (Addr × Obj)} {σ : L2.St} {H : Hp} {s : Shared} {us : List Value} {vs : List V} {Q : VK} (F : Fn2 X.prog X.w X.K X.mg X.base k f fd ps sp) (hr : Room k X.A) (hgu : X.A.guards = some []) (hb : Binds X.K fd ps ds) (hd : Vals dvs ds)
    (I : Inv X pins σ H s) (hu : Unm s) (r : Vals vs us) (h : sp (vs ++ dvs) H Q) : wpAny (M2 X.prog X.w) X.A (call (.ref f) us) (fun u s' => EP X pins σ Q u s' ∧ Unm s') F0 s := by
  have r2 : Vals (vs ++ dvs) (us ++ ds) := r.append hd
  have hl2 : (us ++ ds).length = ps.length := by rw [← r2.length]; exact F.len _ _ _ h
  refine wpAny_call (codeAny_mono (F.run X.A X.stack s H ⟨us, []⟩ (us ++ ds) (vs ++ dvs) Q hr hgu I.env0 hu (hb s us I.kIn hl2) r2 h) fun r s' hq => ?_)
  cases r with
  | error e => exact False.elim hq
  | ok fl =>
    cases fl with
    | ret u => exact ⟨I.after hq.1, hq.2⟩
    | next => exact False.elim hq
    | brk => exact False.elim hq
    | cont => exact False.elim hq
def tCall2 (sp : Sp2) (dvs : List V) (t : TA) : TE := fun σ H Q => t σ H fun vs H1 => sp (vs ++ dvs) H1 Q
theorem pe2_call {e : Expr} {es : List Expr} {t : TA} (F : Fn2 X.prog X.w X.K X.mg X.base k f fd ps sp) (hr : Room k X.A) (hgu : X.A.guards = some []) (hg : Gl X x) (hm : X.mg x = some (.ref f)) (hk : PySem.W.keepIn X.K (.ref f) = true) (hb : Binds X.K fd ps ds) (hd : Vals dvs ds)
    (ha : PA2 X (e :: es) t) (hdb : (x == ("__debug__" : Str)) = false := by decide) (he : starEach (e :: es) X.env = (false, eval e X.env) :: starEach es X.env := by rfl) (hpl : (backTo pos (starEach es X.env)).any (·.1) = false := by rfl) :
    PE2 X (.Call (.Name x p) (e :: es) [] pos) (tCall2 sp dvs t) := by
  refine ⟨fun pins s σ H Q I hu h => ?_⟩
  refine wpAny_Call_Name_kw (ld2_glob I hg hm ?_ hdb)
  refine PySem.W.callWith_K (h₀ := X.base) I.ok.mod.kin hk (thn (ha.run pos pins s σ H _ I hu h) fun us s1 ⟨⟨vs, H1, I1, r, q⟩, hu1⟩ => ⟨I1.kIn, ?_⟩) he hpl
  exact run_fn2 F hr hgu hb hd I1 hu1 r q
end
section
variable {X : Cx} {body orelse : List Stmt} {h₀ : ExceptHandler} {hs : List ExceptHandler} {t u : TS} {pos : Pos}
theorem ps2_try (hb : PSs2 X body t) (ho : PSs2 X orelse u) : PS2 X (.Try body (h₀ :: hs) orelse [] pos) (tThru t u) := by
  refine ⟨fun pins s σ H D I hu h => ?_⟩
  rw [arm_exec_Try]
  refine wpAny_bind (wpAny_standAt (wpAny_tryStmt_except (wpAny_mono (hb.run pins s σ H { D with nx := u D } I hu h) (fun f s1 ⟨q, hu1⟩ => ?_) fun e s1 z => z.elim)))
  cases f with
  | next =>
    obtain ⟨σ', H', I', q2⟩ := q
    exact ho.run pins s1 σ' H' D I' hu1 q2
  | ret v => exact ⟨q, hu1⟩
  | brk => exact ⟨q, hu1⟩
  | cont => exact ⟨q, hu1⟩
end
section
variable {prog : Program} {w : World} {A : Around} {R : Result → Shared → Prop} {s : Shared}
theorem code2_block {stmts : List Stmt} {env : Env} (h : wpAny (M2 prog w) A (execs stmts env) (fun f s' => R (.ok f) s') F0 s) : codeAny (M2 prog w) A (.block stmts env) R s := by
  refine codeAny_of_tree ?_
  show wpAny _ _ (do return Fin.done (← (execs stmts env).onRaise (fun x => do noteFrame x env; theTreesLotGoes x))) _ _ s
  exact wpAny_bind (wpAny_noted (wpAny_mono h (fun f s' h' => wpAny_pure h') fun _ _ h' => h'.elim))
theorem code2_forLoop {target : Expr} {it : Value} {body : List Stmt} {env : Env} (I : Nat → Shared → Prop)
    (turn : ∀ n s, I n s → wpAny (M2 prog w) A (pyNext it) (fun r s₁ => match r with
      | none => R (.ok .next) s₁
      | some v => wpAny (M2 prog w) A (letOwnedTupleGo target it v) (fun _ s₁' =>
          wpAny (M2 prog w) A (assign target env v) (fun _ s₂ => wpAny (M2 prog w) A (execs body env) (fun f s₃ => match f with
            | .next | .cont => ∃ m, m < n ∧ I m s₃
            | .brk => R (.ok .next) s₃
            | .ret v => R (.ok (.ret v)) s₃) F0 s₂) F0 s₁') F0 s₁) F0 s)
    (n : Nat) (h : I n s) : codeAny (M2 prog w) A (.forLoop target it body [] env) R s := by
  refine codeAny_loop' rfl I (fun n s hI => ?_) n h
  show wpAny _ A ((forTurn target it body [] env).onRaise (fun x => do noteFrame x env; theTreesLotGoes x)) _ _ s
  refine wpAny_noted ?_
  simp only [forTurn]
  refine wpAny_bind (wpAny_standAt (wpAny_bind (wpAny_onRaise (wpAny_mono (turn n s hI) (fun r s₁ h₁ => ?_) fun _ _ h' => h'.elim))))
  cases r with
  | none => exact wpAny_pure (.inr ⟨rfl, code2_block (wpAny_execs_nil h₁)⟩)
  | some v =>
    refine wpAny_bind (wpAny_mono h₁ (fun _ s₁' h₁' => ?_) fun _ _ h' => h'.elim)
    refine wpAny_bind (wpAny_mono h₁' (fun _ s₂ h₂ => wpAny_bind (wpAny_mono h₂ (fun f s₃ h₃ => ?_) fun _ _ h' => h'.elim)) fun _ _ h' => h'.elim)
    cases f with
    | next => exact wpAny_pure (.inl ⟨rfl, h₃⟩)
    | cont => exact wpAny_pure (.inl ⟨rfl, h₃⟩)
    | brk => exact wpAny_pure h₃
    | ret v => exact wpAny_pure h₃
end
section
variable {X : Cx} {tg : Expr}
theorem ps2_for {iter : Expr} {body : List Stmt} {wi : TI} {g : TG} {tb : TS} {pos : Pos} (nx : NoX X) (hc : X.calm = true) (hi : PI X tg iter wi) (hg : PG X tg g) (hb : PSs2 X body tb)
    (hs : ∀ x, foldedSetIterable iter X.env x = pure x := by intro _; rfl) : PS2 X (.For tg iter body [] pos) (tFor wi g tb) := by
  refine ⟨fun pins s σ H D I hu h => ?_⟩
  have noE : ∀ {β : Type} {t : Sem β} {M : Model} {Q : β → Shared → Prop} {E : Value → Shared → Prop} {s : Shared}, (∀ e s', ¬ E e s') → wpAny M X.A t Q E s → wpAny M X.A t Q F0 s := fun hE h => wpAny_mono h (fun _ _ z => z) fun e s' z => hE e s' z
  refine wpAny_For (wpAny_mono (wpAny_go (lk_stuck s) (hi.run pins (stuckS s) σ H _ (inv_stuck I) h)) (fun v s' ⟨s1, lk, h1⟩ => wpAny_mono (wpAny_go lk h1) (fun itv s2 ⟨s3, lk3, h2⟩ => ?_) fun e s2 ⟨_, _, z⟩ => nx _ _ z) fun e s2 ⟨_, _, z⟩ => nx _ _ z) hs
  obtain ⟨it, fp, tn, J, H2, e, I2, T, st2, f2, W, ⟨m0, w0⟩, turn⟩ := h2
  subst e
  have hh := (woke_heap lk3.woke).1
  have stat : ∀ {H' : Hp}, (∀ b ∈ fp, H' b = none) → ∀ b ∈ fp, FpOk X pins H' b := fun hn b hb => ⟨hn b hb, (f2 b hb).2⟩
  refine code2_forLoop (fun n s' => ∃ i σ' H', (Inv X pins σ' H' s' ∧ Unm s') ∧ tn i s'.heap ∧ (∀ b ∈ fp, H' b = none) ∧ W i n σ' H') ?_ m0 ⟨0, σ, H2, ⟨inv_woke I.bare I2 lk3.woke, unm_woke hu I2.bare lk3.woke⟩, by rw [hh]; exact st2, fun b hb => (f2 b hb).1, w0⟩
  rintro n s3 ⟨i, σ3, H3, ⟨I3, hu3⟩, st3, fr3, w3⟩
  rcases turn i n σ3 H3 w3 with ⟨stop, qn⟩ | ⟨go, N, hN, step⟩
  · refine wpAny_mono (wpAny_use (T.done X rfl rfl rfl hc i pins (stuckS s3) σ3 H3 F0 (inv_stuck I3) (stat fr3) st3 stop)) (fun r s4 ⟨s5, k5, hr, I4⟩ => ?_) fun _ _ ⟨_, _, z⟩ => z
    subst hr
    exact ⟨⟨σ3, H3, inv_woke I3.bare I4 k5, qn⟩, unm_woke hu3 I4.bare k5⟩
  · refine wpAny_mono (wpAny_go (lk_stuck s3) (T.item X rfl rfl rfl hc i pins (stuckS s3) σ3 H3 F0 (inv_stuck I3) (stat fr3) st3 go)) (fun r s4 ⟨s5, lk5, u, hr, h4⟩ => ?_) fun _ _ ⟨_, _, z⟩ => z
    subst hr
    refine wpAny_mono (wpAny_go lk5 h4) (fun _ s6 ⟨s7, lk7, x, H5, I5, r5, y5, st5, fr5⟩ => ?_) fun _ _ ⟨_, _, z⟩ => z
    have I5' := I5.pinned (stat fr5) (T.obj _ _ st5)
    refine wpAny_mono (wpAny_go lk7 (hg.run _ s7 σ3 H5 x u _ I5' r5 (step x H5 y5))) (fun _ s8 ⟨s9, lk9, σ6, H6, I6, q6⟩ => ?_) fun _ _ ⟨_, _, z⟩ => nx _ _ z
    have I8 := inv_woke I3.bare I6 lk9.woke
    have hu8 := unm_woke hu3 I6.bare lk9.woke
    refine wpAny_mono (hb.run _ s8 σ6 H6 _ I8 hu8 q6) (fun f s10 ⟨q7, hu10⟩ => ?_) fun _ _ z => z
    have again : ∀ {σ7 : L2.St} {H7 : Hp}, Inv X (pins ++ pinsAt fp s7.heap) σ7 H7 s10 → N σ7 H7 → ∃ m, m < n ∧ ∃ i σ' H', (Inv X pins σ' H' s10 ∧ Unm s10) ∧ tn i s10.heap ∧ (∀ b ∈ fp, H' b = none) ∧ W i m σ' H' := fun {σ7 H7} I7 n7 => by
      obtain ⟨m', hm, w7⟩ := hN σ7 H7 n7
      refine ⟨m', hm, i + 1, σ7, H7, ⟨I7.unpinned, hu10⟩, T.keep _ _ _ st5 fun b hb o e => (I7.pin (b, o) (List.mem_append_right _ (List.mem_append_right _ (mem_pinsAt hb e)))).1, fun b hb => ?_, w7⟩
      obtain ⟨o, e, d⟩ := T.obj _ _ st5 b hb
      exact (I7.pin (b, o) (List.mem_append_right _ (List.mem_append_right _ (mem_pinsAt hb e)))).2.1
    cases f with
    | next => obtain ⟨σ7, H7, I7, n7⟩ := q7; exact again I7 n7
    | cont => obtain ⟨σ7, H7, I7, n7⟩ := q7; exact again I7 n7
    | brk => obtain ⟨σ7, H7, I7, q7⟩ := q7; exact ⟨⟨σ7, H7, I7.unpinned, q7⟩, hu10⟩
    | ret v => obtain ⟨x7, σ7, H7, I7, r7, q7⟩ := q7; exact ⟨⟨x7, σ7, H7, I7.unpinned, r7, q7⟩, hu10⟩
end
end KQ

end Kq2b_text
section KqComp_text
set_option Elab.async false
set_option linter.all false
set_option maxRecDepth 100000
set_option maxHeartbeats 4000000
/-! [elt for x in g], g a generator, in M2 -/
namespace KQ
open PySem PySem.Spec PyProof.Rows L2
section
variable {X : Cx} {pins : List (Addr × Obj)} {σ : L2.St} {H : Hp} {s : Shared} {scope : Scope} {own : List (Str × Nat)} {C : Addr}
theorem frs_le (I : Inv X pins σ H s) : ∀ b ∈ frs X.stack, b ≤ X.env.locals := fun b hb => by
  rcases List.mem_cons.mp (I.stkSub _ hb) with z | z
  · exact Nat.le_of_eq z
  · obtain ⟨_, ob, hob, _⟩ := I.ok.funs.mem z
    exact Nat.le_trans (Nat.le_of_lt (Heap.lt_size hob)) I.ok.above
theorem cells0 (nc : ∀ y ∈ scope.names, y.2 ≠ .cell ∧ y.2 ≠ .free) {cells : List (Str × Addr)} {n : Nat} : cellsFrom n scope.names (cloFrom cells scope.names []) = [] := by
  have e : ∀ (l : List (Str × NameKind)) acc, (∀ y ∈ l, y.2 ≠ .free) → cloFrom cells l acc = acc := by
    intro l
    induction l with
    | nil => intro acc _; rfl
    | cons p r ih =>
      intro acc h
      obtain ⟨x, k⟩ := p
      have hk : (k == NameKind.free) = false := by
        have := h (x, k) List.mem_cons_self
        cases k <;> first | rfl | exact absurd rfl this
      show (if (k == .free) = true then _ else _) = _
      rw [hk, if_neg Bool.false_ne_true]
      exact ih acc fun y hy => h y (List.mem_cons_of_mem _ hy)
  rw [e _ _ fun y hy => (nc y hy).2]
  exact cells_nil _ _ fun y hy => (nc y hy).1
/-- the block's context, at any of its turns: what stood below its names' dict -/
theorem blk_at {pinsT : List (Addr × Obj)} {m : Str → Option Value} (I : Inv X pins σ H s) (ok : BlkOk X.N X.env.scope scope own) (hN : X.N.Nodup) (nc : ∀ y ∈ scope.names, y.2 ≠ .cell ∧ y.2 ≠ .free) (hC : X.env.locals < C) (hH : H C = none) (hns : s.heap.Ns C m)
    (hp : ∀ p ∈ pinsT, s.heap.get? p.1 = some p.2 ∧ H p.1 = none ∧ p.1 ≠ C ∧ p.1 ∉ frs X.stack ∧ ∀ v, p.2.data ≠ .cell v) : Inv (X.blk (cutS C s) H scope (compEnvC scope [] C X.env) []) pinsT (wipe σ (own.map (·.2))) H s := by
  have hs0 : X.s_0.heap.objs.size ≤ C := Nat.le_trans I.ok.above (Nat.le_of_lt hC)
  have hCs : C < s.heap.objs.size := hns.lt
  have no : ∀ y k, (compEnvC scope [] C X.env).scope.names.lookup y = some k → k ≠ .cell ∧ k ≠ .free ∧ scope.names.lookup y = some k := fun y k e => by
    obtain ⟨k', e', r⟩ := lookup_relS (sc := X.env.scope) e
    have q := nc _ (PySem.mem_of_lookup e')
    rcases r with r | ⟨r, _⟩
    · subst r
      exact ⟨q.1, q.2, e'⟩
    · exact absurd r q.2
  have bl : ∀ {b o}, X.base.get? b = some o → b < C := fun {b o} e => Nat.lt_of_lt_of_le (Heap.lt_size e) (Nat.le_trans I.ok.bsz hs0)
  refine ⟨⟨I.ok.mod, ok.kind, I.ok.glob, I.ok.blt, ?_, fun x y c e _ => (by cases e), fun x e => ?_, fun x c _ e => (by cases e), I.ok.hd, I.ok.frames, .inl rfl, fun b hb => absurd (show b ∈ ([] : List Addr) from hb) (by simp), fun b o e => ?_, ?_, fun b o _ hb => absurd (show b ∈ ([] : List Addr) from hb) (by simp), fun b hb => absurd (show b ∈ ([] : List Addr) from hb) (by simp),
      cut_frames I.stack fun b hb => Nat.lt_of_le_of_lt (frs_le I b hb) hC, I.stkFree⟩, rfl, I.bare, Un.kept fun b u e => (of_cut e).2, ⟨m, hns, fun i x v e1 e2 e3 => ?_⟩, fun x c e => (by cases e), hH, fun x c e => (by cases e), fun p h => ?_, I.hok, by rw [wipe_length]; exact I.len⟩
  · show (cutH C s.heap).objs.size ≤ C
    rw [cut_size]
    exact Nat.min_le_left _ _
  · rcases e with e | e
    · exact absurd rfl (no x _ e).1
    · exact absurd rfl (no x _ e).2.1
  · obtain ⟨e1, e2⟩ := I.bs b o e
    exact ⟨by show (cutH C s.heap).get? b = _; rw [cut_get (bl e)]; exact e1, e2⟩
  · show X.base.objs.size ≤ (cutH C s.heap).objs.size
    rw [cut_size]
    exact Nat.le_min.mpr ⟨Nat.le_trans I.ok.bsz hs0, Nat.le_trans I.ok.bsz I.sz⟩
  · obtain ⟨_, hne⟩ := wipe_some e2
    have e3 : Vis (compEnvC scope [] C X.env).scope x := e3
    rcases e3 with e3 | e3 | e3
    · have q := (no x _ e3).2.2
      rcases ok.own _ (PySem.mem_of_lookup q) (.inl rfl) with z | z
      · obtain ⟨p, hp, hpy⟩ := List.mem_map.mp z
        have e4 := ok.ix p hp
        have hpy : p.1 = x := hpy
        rw [hpy] at e4
        exact absurd (List.mem_map.mpr ⟨p, hp, nodup_ix hN e4 e1⟩) hne
      · exact absurd (List.mem_of_getElem? e1) z
    · exact absurd rfl (no x _ e3).1
    · exact absurd rfl (no x _ e3).2.1
  · exact (fun ⟨a1, a2, a3, a4, a5⟩ => ⟨a1, a2, a3, a4, a5⟩) (hp p h)
/-- .. and back -/
theorem li_blk {a g L : Nat} {o : Obj} {d : Gd} {Fin : Hp → Prop} {rest : List Item} {x : GenState} {ow : List (Addr × Obj)} {gzi : Gz} {D : Addr} {oC oD : Obj} {σ3 : L2.St} {H4 : Hp} {s4 s' : Shared} {ce : Env} (l : LI X (pins ++ [(C, oC)] ++ [(D, oD)]) a g L o d Fin rest x ow gzi σ H s) (hx : x.status = .suspended) (hex : X.ex = [])
    (hce : ce.locals = C) (hC : X.env.locals < C) (hCc : ∀ y c, X.env.cells.lookup y = some c → c < C)
    (J : Inv (X.blk (cutS C s) H scope ce []) (X.pn ++ (pins ++ [(D, oD)]) ++ (a, o) :: ow) σ3 H4 s') (wk : Woke s s4 s') (b4 : AllBare s4.gens) (sm : Same H H4) :
    ∃ oC', LI X (pins ++ [(C, oC')] ++ [(D, oD)]) a g L o d Fin rest x ow gzi σ H4 s' ∧ ∃ m, s'.heap.Ns C m := by
  obtain ⟨m, hns, _⟩ := J.loc
  have hns : s'.heap.Ns ce.locals m := hns
  rw [hce] at hns
  obtain ⟨oC', es, ep, eC, nr⟩ := id hns
  have pB : ∀ p ∈ X.pn ++ (pins ++ [(D, oD)]) ++ (a, o) :: ow, s'.heap.get? p.1 = some p.2 ∧ H4 p.1 = none := fun p hp => ⟨(J.pin p (List.mem_append_right _ hp)).1, (J.pin p (List.mem_append_right _ hp)).2.1⟩
  have hC4 : H4 C = none := by
    have z : H4 ce.locals = none := J.free
    rw [hce] at z
    exact z
  have hCf : C ∉ X.fs := fun z => by
    obtain ⟨_, ob, hob, _⟩ := l.inv.ok.funs.mem z
    exact absurd (Nat.lt_of_lt_of_le (Heap.lt_size hob) l.inv.ok.above) (Nat.not_lt.mpr (Nat.le_of_lt hC))
  have af : After ⟨X.prog, X.w, X.K, X.mg, X.base, X.A, X.N, ce, X.stack, 0, s.os⟩ s H [] s' H4 := ⟨J.os, J.bare, by show Un (frs X.stack) [] H H4 (cutH ce.locals s.heap) s'.heap; rw [hce]; exact J.base, fun p hp => (by cases hp), J.hok⟩
  have I2 : Inv X (pins ++ [(C, oC')] ++ [(D, oD)]) σ H4 s' := by
    refine inv_after (sw := s) l.inv ⟨rfl, rfl⟩ rfl ⟨rfl, rfl⟩ (by show _ < ce.locals; rw [hce]; exact hC) (fun y c e => by show _ < ce.locals; rw [hce]; exact hCc y c e) hex af fun p hp => ?_
    have side : ∀ q ∈ X.pn ++ (pins ++ [(D, oD)]), s'.heap.get? q.1 = some q.2 ∧ H4 q.1 = none ∧ q.1 ≠ X.env.locals ∧ q.1 ∉ X.fs ∧ ∀ v, q.2.data ≠ .cell v := fun q hq => by
      obtain ⟨z1, z2⟩ := pB q (List.mem_append_left _ hq)
      obtain ⟨_, _, z3, z4, z5⟩ := l.inv.pin q (by
        rcases List.mem_append.mp hq with h | h
        · exact List.mem_append_left _ h
        · rcases List.mem_append.mp h with h | h
          · exact List.mem_append_right _ (List.mem_append_left _ (List.mem_append_left _ h))
          · exact List.mem_append_right _ (List.mem_append_right _ h))
      exact ⟨z1, z2, z3, z4, z5⟩
    rcases List.mem_append.mp hp with hp | hp
    · exact side p (List.mem_append_left _ hp)
    · rcases List.mem_append.mp hp with hp | hp
      · rcases List.mem_append.mp hp with hp | hp
        · exact side p (List.mem_append_right _ (List.mem_append_left _ hp))
        · rw [List.mem_singleton.mp hp]
          exact ⟨eC, hC4, Nat.ne_of_gt hC, hCf, fun v z => by rw [nr.1] at z; cases z⟩
      · exact side p (List.mem_append_right _ (List.mem_append_right _ hp))
  refine ⟨oC', ⟨I2, ⟨⟨(pB (a, o) (List.mem_append_right _ List.mem_cons_self)).1, l.asl.gen.cls, l.asl.gen.dat, l.asl.gen.slots⟩, (pB (a, o) (List.mem_append_right _ List.mem_cons_self)).2, wk.kept g x l.asl.st hx, fun p hp => ?_, fun q hq => ?_, ?_⟩, fun p hp => ?_, fun i y e hm => ?_⟩, m, hns⟩
  · obtain ⟨z1, z2⟩ := pB p (List.mem_append_right _ (List.mem_cons_of_mem _ hp))
    exact ⟨z1, z2, (l.asl.keep p hp).2.2⟩
  · obtain ⟨z1, z2, z3⟩ := l.asl.gens q hq
    exact ⟨wk.kept _ _ z1 z2, z2, z3⟩
  · obtain ⟨Hs, sm0, sl⟩ := l.asl.sleeps
    exact ⟨Hs, sm0.trans sm, sl⟩
  · rcases List.mem_append.mp hp with hp | hp
    · exact l.dj p (List.mem_append_left _ hp)
    · rcases List.mem_append.mp hp with hp | hp
      · rcases List.mem_append.mp hp with hp | hp
        · exact l.dj p (List.mem_append_right _ (List.mem_append_left _ (List.mem_append_left _ hp)))
        · rw [List.mem_singleton.mp hp]
          exact l.dj (C, oC) (List.mem_append_right _ (List.mem_append_left _ (List.mem_append_right _ List.mem_cons_self)))
      · exact l.dj p (List.mem_append_right _ (List.mem_append_right _ hp))
  · rcases wk.new i y e with ⟨e1, _⟩ | ⟨y1, e1, ey⟩
    · exact l.marks i y e1 hm
    · rw [ey, vG_unmarked (b4 y1 (Array.mem_of_getElem? e1))] at hm
      cases hm
end
end KQ

end KqComp_text
section KqCompE_text
set_option Elab.async false
set_option linter.all false
set_option maxRecDepth 100000
set_option maxHeartbeats 4000000
/-! [elt for x in g] in M2: the loop, the expression -/
namespace KQ
open PySem PySem.Spec PyProof.Rows L2
theorem gens_same {s : Shared} {g : Array GenState} (a : AS (asleep s) (stuckS s).gens g) : g = s.gens := by
  apply Array.ext_getElem?
  intro i
  cases q : asleep s i with
  | none => rw [a.oth i q, (as_stuck s).oth i q]
  | some y => rw [(a.dom i y q).2.1, ((as_stuck s).dom i y q).2.1]
/-- a step that changes the heap alone -/
theorem use_heap {prog : Program} {w : World} {α : Type} {A : Around} {t : Sem α} {s : Shared} {P : α → Heap → Prop} (h : wpAny (model prog w) A t (fun u s1 => ∃ h', s1 = { stuckS s with heap := h' } ∧ P u h') F0 (stuckS s)) : wpAny (M2 prog w) A t (fun u s' => ∃ h', s' = { s with heap := h' } ∧ P u h') F0 s :=
  wpAny_mono (wpAny_go (lk_stuck s) h) (fun u s' ⟨s1, k, h', e, p⟩ => by
    refine ⟨h', ?_, p⟩
    obtain ⟨e1, a, _⟩ := k
    rw [e] at e1 a
    rw [e1, gens_same a]
    rfl) fun _ _ ⟨_, _, z⟩ => z
theorem append2 {prog : Program} {w : World} {A : Around} {s : Shared} {D : Addr} {acc : Array Value} {c : Nat} {x : Value} (ho : s.heap.get? D = some (lstObj acc c)) (hz : acc.size ≤ sizeLine) :
    wpAny (M2 prog w) A (call (.builtin "list.append") [.ref D, x]) (fun u s' => ∃ h', s' = { s with heap := h' } ∧ u = .none ∧ Heap.SameBut D s.heap h' ∧ h'.get? D = some (lstObj (acc.push x) (c + 1))) F0 s :=
  use_heap (P := fun u h' => u = .none ∧ Heap.SameBut D s.heap h' ∧ h'.get? D = some (lstObj (acc.push x) (c + 1))) (append_at (s := stuckS s) ho (fun h' sb e => ⟨h', rfl, rfl, sb, e⟩) hz)
section
variable {X : Cx} {pins : List (Addr × Obj)} {σ : L2.St} {scope : Scope} {own : List (Str × Nat)} {C D : Addr}
theorem comp_loop2 {a g L : Nat} {o : Obj} {d : Gd} {Fin : Hp → Prop} {its : List Item} {tg iter elt : Expr} {gt : TG} {te : TE} {pos : Pos} {R : Result → Shared → Prop} {W : Nat → List V → Hp → Prop} {Qf : List V → Hp → Prop} (n : Inner X X.A a g L d) (hex : X.ex = []) (ok : BlkOk X.N X.env.scope scope own) (hN : X.N.Nodup) (nc : ∀ y ∈ scope.names, y.2 ≠ .cell ∧ y.2 ≠ .free)
    (hC : X.env.locals < C) (hCc : ∀ y c, X.env.cells.lookup y = some c → c < C) (hCp : ∀ p ∈ X.pn ++ pins, p.1 ≠ C) (hD : X.s_0.heap.objs.size ≤ D) (hDc : ∀ y c, X.env.cells.lookup y = some c → c ≠ D) (hDp : ∀ p ∈ X.pn ++ pins, p.1 ≠ D) (hDC : C ≠ D) (hDl : ∀ b ∈ frs X.stack, b ≠ D) (hle : its.length ≤ sizeLine)
    (hg : ∀ (s : Shared) (H : Hp) (C : Addr) (cl : List (Str × Addr)) (fp : List Addr), PG (X.blk s H scope (compEnvC scope cl C X.env) fp) tg gt) (he : ∀ (s : Shared) (H : Hp) (C : Addr) (cl : List (Str × Addr)) (fp : List Addr), PE (X.blk s H scope (compEnvC scope cl C X.env) fp) elt te)
    (turn : ∀ j ys H, W j ys H → ∀ H2, SameT H H2 → (j = its.length → Fin H2 → Qf ys H2) ∧ ∀ it y, its[j]? = some it → it y H2 → gt y (wipe σ (own.map (·.2))) H2 fun σ2 H3 => te σ2 H3 fun z H4 => Same H2 H4 ∧ W (j + 1) (ys ++ [z]) H4)
    (hend : ∀ s' acc c oC H' ys, Inv X (pins ++ [(C, oC)] ++ [(D, lstObj acc c)]) σ H' s' → Unm s' → Vals ys acc.toList → ys.length ≤ its.length → Qf ys H' → (∃ m, s'.heap.Ns C m) → R (.ok .next) s') :
    ∀ (rest : List Item) j ys x ow gzi acc c oC H s, its.drop j = rest → j ≤ its.length → W j ys H → LI X (pins ++ [(C, oC)] ++ [(D, lstObj acc c)]) a g L o d Fin rest x ow gzi σ H s → Vals ys acc.toList → ys.length = j → (∃ m, s.heap.Ns C m) →
      codeAny (M2 X.prog X.w) X.A (.compLoop (.ListComp elt [⟨tg, iter, [], 0⟩] scope pos) 0 (.ref a) (.ref D) (compEnvC scope [] C X.env)) R s := by
  intro rest
  induction rest with
  | nil =>
    intro j ys x ow gzi acc c oC H s hj hjl hw l hv hyl hns
    refine codeAny_of_tree ?_
    show wpAny _ X.A ((compTurn (.ListComp elt [⟨tg, iter, [], 0⟩] scope pos) 0 (.ref a) (.ref D) (compEnvC scope [] C X.env)).onRaise (fun x => do noteFrame x (compEnvC scope [] C X.env); theTreesLotGoes x)) _ _ s
    refine wpAny_noted ?_
    rw [compTurn_list1]
    refine wpAny_bind (wpAny_standAt (wpAny_bind (wpAny_mono (inner_next (E := F0) l.inv n l.asl hex l.dj) (fun r s2 h => ?_) fun _ _ z => z.elim)))
    cases r with
    | some v => exact h.elim
    | none =>
      obtain ⟨H2, I2, _, gr, sm, hf⟩ := h
      have je : j = its.length := by
        have := List.drop_eq_nil_iff.mp hj
        omega
      have e2 : ∃ m, s2.heap.Ns C m := by
        obtain ⟨m, hm⟩ := hns
        have pc := I2.pin (C, oC) (List.mem_append_right _ (List.mem_append_left _ (List.mem_append_right _ List.mem_cons_self)))
        have p0 := l.inv.pin (C, oC) (List.mem_append_right _ (List.mem_append_left _ (List.mem_append_right _ List.mem_cons_self)))
        exact ⟨m, ns_keep hm fun o' e => by rw [show s.heap.get? C = some oC from p0.1] at e; rw [← Option.some.inj e]; exact pc.1⟩
      exact wpAny_pure (hend s2 acc c oC H2 ys I2 (li_end l gr) hv (by omega) ((turn j ys H hw H2 sm).1 je hf) e2)
  | cons it rest ih =>
    intro j ys x ow gzi acc c oC H s hj hjl hw l hv hyl hns
    refine codeAny_of_tree ?_
    show wpAny _ X.A ((compTurn (.ListComp elt [⟨tg, iter, [], 0⟩] scope pos) 0 (.ref a) (.ref D) (compEnvC scope [] C X.env)).onRaise (fun x => do noteFrame x (compEnvC scope [] C X.env); theTreesLotGoes x)) _ _ s
    refine wpAny_noted ?_
    rw [compTurn_list1]
    refine wpAny_bind (wpAny_standAt (wpAny_bind (wpAny_mono (inner_next (E := F0) l.inv n l.asl hex l.dj) (fun r s2 h => ?_) fun _ _ z => z.elim)))
    cases r with
    | none => exact h.elim
    | some v =>
      obtain ⟨x', own', gz', y, H2, I2, rv, hit, sm, as', xs', dj, gr, _⟩ := h
      have l2 := li_next l I2 as' dj gr
      have ge := as'.gen
      obtain ⟨nm, qn, hdat⟩ := ge.dat
      have jit : its[j]? = some it := by
        have e := congrArg (·[0]?) hj
        simpa using e
      have jlt : j < its.length := (List.getElem?_eq_some_iff.mp jit).1
      have inC : ∀ (P : List (Addr × Obj)) (oD : Obj), (C, oC) ∈ P ++ (pins ++ [(C, oC)] ++ [(D, oD)]) := fun P oD => List.mem_append_right _ (List.mem_append_left _ (List.mem_append_right _ List.mem_cons_self))
      have pC := I2.pin (C, oC) (inC _ _)
      have hns2 : ∃ m, s2.heap.Ns C m := by
        obtain ⟨m, hm⟩ := hns
        have p0 := l.inv.pin (C, oC) (inC _ _)
        exact ⟨m, ns_keep hm fun o' e => by rw [show s.heap.get? C = some oC from p0.1] at e; rw [← Option.some.inj e]; exact pC.1⟩
      obtain ⟨m2, hns2⟩ := hns2
      refine wpAny_bind (go_of ge.at_ ge.cls hdat (by decide) ?_)
      have nfr : ∀ b, X.env.locals < b → b ∉ frs X.stack := fun b hb z => absurd (frs_le I2 b z) (Nat.not_le.mpr hb)
      have pinB : ∀ p ∈ X.pn ++ (pins ++ [(D, lstObj acc c)]) ++ (a, o) :: own', s2.heap.get? p.1 = some p.2 ∧ H2 p.1 = none ∧ p.1 ≠ C ∧ p.1 ∉ frs X.stack ∧ ∀ v, p.2.data ≠ .cell v := fun p hp => by
        have up : ∀ q ∈ X.pn ++ (pins ++ [(D, lstObj acc c)]), q ∈ X.pn ++ (pins ++ [(C, oC)] ++ [(D, lstObj acc c)]) := fun q hq => by
          rcases List.mem_append.mp hq with h | h
          · exact List.mem_append_left _ h
          · rcases List.mem_append.mp h with h | h
            · exact List.mem_append_right _ (List.mem_append_left _ (List.mem_append_left _ h))
            · exact List.mem_append_right _ (List.mem_append_right _ h)
        have hC2 := l2.dj (C, oC) (inC _ _)
        rcases List.mem_append.mp hp with hp | hp
        · obtain ⟨z1, z2, z3, z4, z5⟩ := I2.pin p (up p hp)
          refine ⟨z1, z2, ?_, fun z => (List.mem_cons.mp (I2.stkSub _ z)).elim z3 z4, z5⟩
          rcases List.mem_append.mp hp with h | h
          · exact hCp p (List.mem_append_left _ h)
          · rcases List.mem_append.mp h with h | h
            · exact hCp p (List.mem_append_right _ h)
            · rw [List.mem_singleton.mp h]
              exact Ne.symm hDC
        · rcases List.mem_cons.mp hp with hp | hp
          · rw [hp]
            exact ⟨ge.at_, as'.free, Ne.symm hC2.1, nfr a (Nat.lt_trans n.lt n.la), fun v z => by rw [hdat] at z; cases z⟩
          · obtain ⟨q1, q2, q3, q4, _⟩ := as'.keep p hp
            exact ⟨q1, q2, Ne.symm (hC2.2 p hp), nfr p.1 (Nat.lt_of_lt_of_le n.lt q4), q3⟩
      have IB := blk_at (pinsT := X.pn ++ (pins ++ [(D, lstObj acc c)]) ++ (a, o) :: own') I2 ok hN nc hC pC.2.1 hns2 pinB
      obtain ⟨_, tn⟩ := turn j ys H hw H2 sm
      refine wpAny_bind (wpAny_mono (wpAny_go (lk_stuck s2) ((hg (cutS C s2) H2 C [] []).run _ (stuckS s2) _ H2 y v _ (inv_stuck IB) rv (tn it y jit hit))) (fun _ s3' ⟨s3, lk3, σ3, H3, I3, q3⟩ => ?_) fun _ _ ⟨_, _, z⟩ => (show False from z).elim)
      refine wpAny_bind (wpAny_bind (wpAny_mono (wpAny_go lk3 ((he (cutS C s2) H2 C [] []).run _ s3 σ3 H3 _ I3 q3)) (fun zv s4' ⟨s4, lk4, z, H4, I4, rz, sm4, w4⟩ => ?_) fun _ _ ⟨_, _, z⟩ => (show False from z).elim))
      have I4' := inv_woke I2.bare I4 lk4.woke
      obtain ⟨oC', l4, hns4⟩ := li_blk (ce := compEnvC scope [] C X.env) l2 xs' hex rfl hC hCc I4' lk4.woke I4.bare sm4
      have pD := l4.inv.pin (D, lstObj acc c) (List.mem_append_right _ (List.mem_append_right _ List.mem_cons_self))
      have eq1 := hv.length
      have eq2 : acc.toList.length = acc.size := by simp
      refine wpAny_bind (wpAny_mono (append2 (x := zv) pD.1 (by omega)) (fun u s5 ⟨h5, e5, _, sb, eD⟩ => ?_) fun _ _ z => z.elim)
      subst e5
      refine wpAny_pure (wpAny_pure ⟨rfl, ih (j + 1) (ys ++ [z]) x' own' gz' (acc.push zv) (c + 1) oC' H4 _ (by rw [← List.drop_drop, hj]; rfl) jlt w4 (li_write (t' := s4'.toks) l4 hex hD hDc (fun p hp => ?_) (fun b ob hb e => (sb.2 b hb).trans e) eD (fun v z => by cases z))
        (by rw [Array.toList_push]; exact hv.append (.cons rz .nil)) (by rw [List.length_append, hyl]; rfl) ?_⟩)
      · rcases List.mem_append.mp hp with h | h
        · exact hDp p (List.mem_append_left _ h)
        · rcases List.mem_append.mp h with h | h
          · exact hDp p (List.mem_append_right _ h)
          · rw [List.mem_singleton.mp h]
            exact hDC
      · obtain ⟨m4, hm4⟩ := hns4
        exact ⟨m4, hm4.sameBut sb hDC⟩
theorem li_perm {P P' : List (Addr × Obj)} {a g L : Nat} {o : Obj} {d : Gd} {Fin : Hp → Prop} {rest : List Item} {x : GenState} {ow : List (Addr × Obj)} {gzi : Gz} {H : Hp} {s : Shared} (l : LI X P a g L o d Fin rest x ow gzi σ H s) (h : ∀ p ∈ P', p ∈ P) : LI X P' a g L o d Fin rest x ow gzi σ H s :=
  ⟨l.inv.pins_of fun p hp => l.inv.pin p (List.mem_append_right _ (h p hp)), l.asl, fun p hp => l.dj p ((List.mem_append.mp hp).elim (List.mem_append_left _) fun z => List.mem_append_right _ (h p z)), l.marks⟩
theorem code2_compStart {prog : Program} {w : World} {A : Around} {R : Result → Shared → Prop} {s : Shared} {elt target iter : Expr} {scope : Scope} {pos : Pos} {it acc : Value} {env : Env}
    (h0 : codeAny (M2 prog w) A (.compLoop (.ListComp elt [⟨target, iter, [], 0⟩] scope pos) 0 it acc env) R s) (h : wpAny (M2 prog w) A (pyIter it) (fun u s' => u = it ∧ s' = s) F0 s) :
    codeAny (M2 prog w) A (.compStart (.ListComp elt [⟨target, iter, [], 0⟩] scope pos) 0 it acc env) R s := by
  have h2 : wpAny (M2 prog w) A (pyIter it) (fun it' s' => codeAny (M2 prog w) A (.compLoop (.ListComp elt [⟨target, iter, [], 0⟩] scope pos) 0 it' acc env) R s') F0 s := wpAny_mono h (fun u s' ⟨e1, e2⟩ => by rw [e1, e2]; exact h0) fun _ _ z => z
  refine codeAny_of_tree ?_
  show wpAny _ _ ((compStart (.ListComp elt [⟨target, iter, [], 0⟩] scope pos) 0 it acc env).onRaise (fun x => do noteFrame x env; standAt theWindowsPlace)) _ _ s
  refine wpAny_notedAt ?_
  unfold compStart
  show wpAny _ _ (ask >>= _) _ _ s
  refine wpAny_bind (wpAny_askSetting (wpAny_ite ?_))
  split
  · first
      | exact wpAny_bind (wpAny_pure (wpAny_pure (And.intro rfl h0)))
      | exact wpAny_pure (And.intro rfl h0)
  · first
      | exact wpAny_bind (wpAny_rule (wpAny_bind (wpAny_standAt (wpAny_bind (wpAny_mono h2 (fun it' s' h' => wpAny_pure (And.intro rfl h')) fun _ _ x => x.elim)))))
      | (refine wpAny_bind (wpAny_rule ?_); show wpAny _ _ (standAt iter.pos >>= _) _ _ s; exact wpAny_bind (wpAny_standAt (wpAny_bind (wpAny_mono h2 (fun it' s' h' => wpAny_pure (And.intro rfl h')) fun _ _ x => x.elim))))
def tLcM (wg : TMk) (g : TG) (te : TE) (vs : List Nat) : TE := fun σ H Q => wg σ H fun its Fin H1 => its.length ≤ sizeLine ∧ ∃ W : Nat → List V → Hp → Prop, W 0 [] H1 ∧ ∀ j ys H, W j ys H → ∀ H2, SameT H H2 → (j = its.length → Fin H2 → ∀ D, H2 D = none → Q (.ref D) (upd H2 D (.lst ys))) ∧
  ∀ it y, its[j]? = some it → it y H2 → g y (wipe σ vs) H2 fun σ2 H3 => te σ2 H3 fun z H4 => Same H2 H4 ∧ W (j + 1) (ys ++ [z]) H4
theorem pe2_lc {k : Nat} {elt tg iter : Expr} {pos : Pos} {wg : TMk} {g : TG} {te : TE} (nx : NoX X) (hex : X.ex = []) (hh : X.A.handled = none) (hr : Room (k + 1) X.A) (hN : X.N.Nodup) (ok : BlkOk X.N X.env.scope scope own) (nc : ∀ y ∈ scope.names, y.2 ≠ .cell ∧ y.2 ≠ .free) (hi : PMk X k iter wg)
    (hg : ∀ (s : Shared) (H : Hp) (C : Addr) (cl : List (Str × Addr)) (fp : List Addr), PG (X.blk s H scope (compEnvC scope cl C X.env) fp) tg g) (he : ∀ (s : Shared) (H : Hp) (C : Addr) (cl : List (Str × Addr)) (fp : List Addr), PE (X.blk s H scope (compEnvC scope cl C X.env) fp) elt te) (hs : ∀ x, foldedSetIterable iter X.env x = pure x := by intro _; rfl) :
    PE2 X (.ListComp elt [⟨tg, iter, [], 0⟩] scope pos) (tLcM wg g te (own.map (·.2))) := by
  refine ⟨fun pins s σ H Q I hu hq => ?_⟩
  rw [eval_ListComp]
  have hfree : ∀ y ∈ scope.names, y.2 = .free → ∃ c, X.env.cells.lookup y.1 = some c := fun y hy e => absurd e (nc y hy).2
  refine wpAny_comprehension_free (use := none) rfl hs (closure_ok hfree) ok.kind (fun y hy e => by rw [ok.uniq y hy, e])
    (wpAny_mono (wpAny_go (lk_stuck s) (hi.run pins (stuckS s) σ H _ (inv_stuck I) (fun _ _ => .inr trivial) hq)) (fun u s1' ⟨s1, lk, its, Fi, H1, a, gn, L, c, o, oL, d, ev, hgn, m, hle, W, w0, turn⟩ => ?_) fun x s2 ⟨_, _, z⟩ => nx _ _ z)
  subst ev
  have hgn : s.gens.size ≤ gn := by
    have e : (stuckS s).gens.size = s.gens.size := Array.size_map ..
    rw [← e]
    exact hgn
  have st2 : s1'.gens[gn]? = some (.fresh c) := by
    have e : asleep s gn = none := by
      unfold asleep
      rw [Array.getElem?_eq_none hgn]
      rfl
    rw [lk.2.1.oth gn e, m.st]
    rfl
  have hp := (woke_heap lk.woke).1
  have I1 := inv_woke I.bare m.inv lk.woke
  have hu1 := unm_woke hu m.inv.bare lk.woke
  have hgen : s1'.heap.IsGen a gn := by
    rw [hp]
    exact m.gen
  refine wpAny_mono (iter2_gen hgen) (fun it s2 ⟨e1, e2⟩ => ?_) fun _ _ z => z.elim
  subst e1 e2
  refine wpAny_newObj_type (newEnv_comp ?_) (by show 0 ≤ sizeLine; decide)
  have dp := hr.dp
  have un := hr.un
  have n := li_inner (B := X.A) m hh (by omega) I1.ok.frames
  have l0 := li_made (A := X.A.in1) m I1 hu1 st2 hp hr.in1 I1.ok.frames
  have l1 := li_grow (t' := s2.toks) (S := s2.heap.objs.size) (h' := s2.heap.push { cls := .type "list", data := .seq ([] : List Value).toArray }) (oS := lstObj #[] 0) l0 (fun b ob e => Heap.get?_push_of_some _ e) (Nat.le_refl _) (Heap.get?_push_size _ rfl) (fun v z => by cases z)
  generalize hs3 : ({ s2 with heap := s2.heap.push { cls := .type "list", data := .seq ([] : List Value).toArray } } : Shared) = s3 at l1 ⊢
  have h3 : s3.heap = s2.heap.push { cls := .type "list", data := .seq ([] : List Value).toArray } := by rw [← hs3]
  have sz3 : s3.heap.objs.size = s2.heap.objs.size + 1 := by rw [h3, Heap.size_push]
  have kp : ∀ b ob, s3.heap.get? b = some ob → (pushCells (s3.heap.push { cls := .type "dict", data := .dict #[] }) scope.names).get? b = some ob := fun b ob e => pushCells_keeps _ _ _ _ (Heap.get?_push_of_some _ e)
  have eC : (pushCells (s3.heap.push { cls := .type "dict", data := .dict #[] }) scope.names).get? s3.heap.objs.size = some { cls := .type "dict", data := .dict #[] } := pushCells_keeps _ _ _ _ (Heap.get?_push_size _ rfl)
  have l2 := li_grow (t' := s3.toks) (S := s3.heap.objs.size) (oS := { cls := .type "dict", data := .dict #[] }) l1 kp (Nat.le_refl _) eC (fun v z => by cases z)
  have l3 := li_perm (P' := pins ++ [(s3.heap.objs.size, { cls := .type "dict", data := .dict #[] })] ++ [(s2.heap.objs.size, lstObj #[] 0)]) l2 fun p hp => by
    simp only [List.mem_append, List.mem_singleton] at hp ⊢
    rcases hp with (h | h) | h
    · exact .inl (.inl h)
    · exact .inr h
    · exact .inl (.inr h)
  rw [cells0 nc]
  have lt2 := I1.lt
  have hSC : s2.heap.objs.size < s3.heap.objs.size := by
    rw [sz3]
    exact Nat.lt_succ_self _
  have hCl : X.env.locals < s3.heap.objs.size := Nat.lt_trans lt2 hSC
  have cc : ∀ y c, X.env.cells.lookup y = some c → c < s2.heap.objs.size := fun y c e => by
    obtain ⟨v, oc, e1, _⟩ := I1.cell y c e
    exact Heap.lt_size e1
  have pp : ∀ p ∈ X.pn ++ pins, p.1 < s2.heap.objs.size := fun p hp => Heap.lt_size (I1.pin p hp).1
  have hS0 : X.s_0.heap.objs.size ≤ s2.heap.objs.size := I1.sz
  have hsC : s3.heap.objs.size ≠ s2.heap.objs.size := Nat.ne_of_gt hSC
  refine code2_compStart (comp_loop2 (its := its) (σ := σ) (W := W) (Qf := fun ys H2 => ∀ D, H2 D = none → Q (.ref D) (upd H2 D (.lst ys))) n hex ok hN nc hCl (fun y c e => Nat.lt_trans (cc y c e) hSC) (fun p hp => Nat.ne_of_lt (Nat.lt_trans (pp p hp) hSC)) hS0 (fun y c e => Nat.ne_of_lt (cc y c e)) (fun p hp => Nat.ne_of_lt (pp p hp)) hsC (fun b hb => Nat.ne_of_lt (Nat.lt_of_le_of_lt (frs_le I1 b hb) lt2)) hle
    hg he turn (fun s' acc c oC H' ys J hu' hv hyl hQ ⟨mC, hC⟩ => ?_) its 0 [] _ _ _ #[] 0 _ H1 _ rfl (Nat.zero_le _) w0 l3 .nil rfl ⟨_, Heap.Ns.keeps (Heap.Ns.new ..) fun b ob e => pushCells_keeps _ _ _ _ e⟩) (iter2_gen (hgen.keeps fun b ob e => kp b ob (by rw [h3]; exact Heap.get?_push_of_some _ e)))
  refine ⟨mC, hC, fun h'' sb => ⟨?_, hu'⟩⟩
  obtain ⟨_, nC, n1, n2, _⟩ := J.pin (s3.heap.objs.size, oC) (List.mem_append_right _ (List.mem_append_left _ (List.mem_append_right _ List.mem_cons_self)))
  obtain ⟨_, nD, _⟩ := J.pin (s2.heap.objs.size, lstObj acc c) (List.mem_append_right _ (List.mem_append_right _ List.mem_cons_self))
  have J1 : Inv X (pins ++ [(s2.heap.objs.size, lstObj acc c)]) σ H' s' := J.pins_of fun p hp => J.pin p (List.mem_append_right _ ((List.mem_append.mp hp).elim (fun z => List.mem_append_left _ (List.mem_append_left _ z)) fun z => List.mem_append_right _ z))
  have J2 := inv_track J1 hS0 (fun y c e => Nat.ne_of_lt (cc y c e)) (fun p hp => Nat.ne_of_lt (pp p hp)) (Nat.le_trans hyl hle) hv
  have J3 := J2.turned (h' := h'') (t' := s'.toks) (it := s3.heap.objs.size) (fun b ob hb e => (sb.2 b hb).trans e) (by rw [upd_ne hsC]; exact nC) n1 (.inr (Nat.le_trans hS0 (Nat.le_of_lt hSC))) (fun y c e => Nat.ne_of_lt (Nat.lt_trans (cc y c e) hSC)) (fun p hp => Nat.ne_of_lt (Nat.lt_trans (pp p hp) hSC))
  exact ⟨.ref s2.heap.objs.size, _, J3, rfl, hQ _ nD⟩
end
end KQ

end KqCompE_text
section Kq2Lam_text
set_option Elab.async false
set_option linter.all false
set_option maxRecDepth 100000
set_option maxHeartbeats 4000000
/-! f(lambda: body) in M2 -/
namespace KQ
open PySem PySem.Spec PyProof.Rows L2 LamX
section
variable {prog : Program} {w : World} {A : Around} {R : Result → Shared → Prop} {s : Shared}
theorem code2_expr {e : Expr} {env : Env} (h : wpAny (M2 prog w) (A.deeper env) (eval e env) (fun v s' => R (.ok (.ret v)) s') F0 s) : codeAny (M2 prog w) A (.expr e env) R s := by
  refine codeAny_of_tree ?_
  show wpAny _ (A.deeper env) (do point; ret (← (eval e env).onRaise (leaving env))) _ _ s
  exact wpAny_bind (wpAny_point (wpAny_bind (wpAny_onRaise (wpAny_mono h (fun v s' h' => wpAny_pure h') fun _ _ h' => h'.elim))))
theorem code2_callE {a : Addr} {args : Args} {o : Obj} {fd : FuncData} {body : Expr} (hroom : A.depth < recursionLimit) (ho : s.heap.get? a = some o)
    (hd' : o.data = .func fd) (hco : fd.scope.isCoroutine = false) (hgen : fd.scope.isGenerator = false) (hbody : fd.body = .expr body) (hcd : s.heap.CodeRec fd.code fd.qualname)
    (h : wpAny (M2 prog w) A.in1 (bindArgs fd args) (fun binds s₁ =>
      wpAny (M2 prog w) A.in1 (newFunctionEnv fd.scope fd.globals fd.closure binds (fd.qualname ++ ".<locals>.") (some a) fd.code none fd.builtins)
        (fun env s₂ => s₂.heap.NoLimit ∧ codeAny (M2 prog w) A (.expr body env) R s₂) (fun e s' => R (.error e) s') s₁) (fun e s' => R (.error e) s') s) :
    codeAny (M2 prog w) A (.call (.ref a) args) R s := by
  refine codeAny_of_tree ?_
  show wpAny _ A.in1 (callAny (.ref a) args) _ _ s
  simp only [callAny]
  refine wpAny_bind (wpAny_load ho ?_)
  obtain ⟨c, oc, vs, tq, hc, hoc, hdc, hq⟩ := hcd
  simp only [hd', callFunction, hco, hgen, hbody, hc]
  rw [hc] at h
  refine wpAny_bind (m := field (.ref c) 1) (wpAny_field hoc hdc hq (wpAny_bind (wpAny_pure ?_)))
  exact wpAny_bind (wpAny_mono h (fun binds s₁ h₁ => wpAny_bind (wpAny_mono h₁ (fun env s₂ h₂ => wpAny_bind (wpAny_enterFrame h₂.1 hroom
    (wpAny_pure (And.intro rfl h₂.2)))) fun _ _ h' => h')) fun _ _ h' => h')
end
section
variable {X : Cx} {pins : List (Addr × Obj)} {σ : L2.St} {H : Hp} {s : Shared}
/-- the context of the def that got the lambda -/
abbrev zCx (X : Cx) (Ng : List Str) (x : Str) (sg : Scope) (g : Addr) (cdg : Value) (s : Shared) (H : Hp) : Cx := (cxOf CX0 X.prog X.w X.K X.mg X.base Ng x sg g cdg X.A X.stack s H (fun _ _ _ => False)).nox
theorem pe2_act {Ng : List Str} {qg : Str} {sg : Scope} {g f c' : Addr} {cdg pm ctv : Value} {params : Arguments} {body : Expr} {scope : Scope} {k i : Nat} {a : Str} {tb : TE} {p1 p2 : Pos}
    (I : Inv X pins σ H s) (L : LamS X.env.scope scope) (hf : s.heap.get? f = some (PySem.W.kla_obj "<lambda>" (X.env.qual ++ "<lambda>") params body scope (cloFrom X.env.cells scope.names []) pm c' ctv)) (hfn : H f = none) (hfr : f ∉ frs X.stack)
    (hbind : bindArgs (PySem.W.kla_fn "<lambda>" (X.env.qual ++ "<lambda>") params body scope (cloFrom X.env.cells scope.names []) pm (.ref c') ctv) ⟨[], []⟩ = pure [])
    (hr : Room (k + 1) (X.A.deeper (envOfC qg sg s.heap.objs.size g cdg)))
    (hbody : ∀ (A : Around) (outer : List Env) (s : Shared) (H : Hp), Room k (A.deeper (lamEnv X scope s.heap.objs.size f c')) → PE2 (lamCx X A outer s H (fun _ _ _ => False) scope f c').nox body tb)
    (hN : Ng[i]? = some a) (hv : Vis sg a) (hd : (a == ("__debug__" : Str)) = false := by decide) (hcd : (a == ("__classdict__" : Str)) = false := by decide) :
    PE2 (zCx X Ng qg sg g cdg s H) (.Call (.Name a p1) [] [] p2) (fun σZ HZ Q => σZ[i]? = some (some (.ref f)) ∧ HZ c' = some (CodeO c' (X.env.qual ++ "<lambda>")) ∧ tb σ HZ Q) := by
  refine ⟨fun pinsZ sZ σZ HZ Q IZ hu h => ?_⟩
  obtain ⟨hs, hc, ht⟩ := h
  have nz : NoX (zCx X Ng qg sg g cdg s H) := fun _ _ z => z
  refine wpAny_Call_Name_kw (thn ((pe2_of nz (pe_var (pos := p1) (i := i) hN hv hd hcd)).run pinsZ sZ σZ HZ (fun v H1 => v = .ref f ∧ H1 = HZ) IZ hu ⟨.ref f, hs, rfl, rfl⟩) fun u s1 ⟨⟨v, H1, I1, r1, q1⟩, hu1⟩ => ?_)
  obtain ⟨ev, eH⟩ := q1
  subst ev
  rw [eH] at I1
  obtain rfl : u = Value.ref f := r1
  have of1 : s1.heap.get? f = some (PySem.W.kla_obj "<lambda>" (X.env.qual ++ "<lambda>") params body scope (cloFrom X.env.cells scope.names []) pm c' ctv) := I1.base.keep f _ hf hfn hfr (fun z => nomatch (show f ∈ ([] : List Addr) from z))
  refine PySem.W.callWith_F0 ⟨_, _, _, _, of1⟩ ?_
  have un : Un (frs X.stack) [] H HZ s.heap s1.heap := I1.base
  obtain ⟨⟨oc, vs, t, hoc, hdc, hvc⟩, _, _⟩ := I1.hok c' _ hc
  have rc : codeAny (M2 X.prog X.w) (X.A.deeper (envOfC qg sg s.heap.objs.size g cdg)) (.call (.ref f) ⟨[], []⟩) (fun r s' => match r with | .ok (.ret u) => CE (envOfC qg sg s.heap.objs.size g cdg :: X.stack) X.prog X.w HZ s1 Q u s' ∧ Unm s' | _ => False) s1 := by
    refine code2_callE hr.depth of1 rfl L.co L.gen rfl ⟨c', oc, vs, t, rfl, hoc, hdc, hvc⟩ ?_
    rw [hbind]
    refine wpAny_pure (wpAny_newFunctionEnv (fun y hy => (L.own y hy).2) (fun y hy => absurd hy (by simp)) (fun h₁ hns hsb => ⟨I1.nolimit.fresh _ hsb, ?_⟩) L.kind)
    show codeAny _ _ (.expr body (lamEnv X scope s1.heap.objs.size f c')) _ _
    have kp : ∀ b o, s1.heap.get? b = some o → h₁.get? b = some o := fun b o e => hsb.extBut b o (Nat.ne_of_lt (Heap.lt_size e)) (Heap.get?_push_of_some _ e)
    have J : Inv (lamCx X (X.A.deeper (envOfC qg sg s.heap.objs.size g cdg)) (envOfC qg sg s.heap.objs.size g cdg :: X.stack) s1 HZ (fun _ _ _ => False) scope f c') [] σ HZ { s1 with heap := h₁, toks := s1.toks + ([] : List (Str × Value)).length } :=
      lam_start2 I L I1.env0 hr.hd un hns kp
    refine code2_expr (wpAny_mono ((hbody _ _ s1 HZ (hr.deeper _)).run [] _ _ HZ Q (J.wish _) hu1 ht) (fun v s' ⟨hq, hu'⟩ => ?_) fun e s' hq => hq)
    obtain ⟨w', H', J', rv, q⟩ := hq
    exact ⟨⟨w', H', J'.os, J'.bare, J'.base, J'.hok, rv, q⟩, hu'⟩
  refine wpAny_call (codeAny_mono rc fun r s' hq => ?_)
  cases r with
  | error e => exact False.elim hq
  | ok fl =>
    cases fl with
    | ret u => exact ⟨I1.after hq.1, hq.2⟩
    | next => exact False.elim hq
    | brk => exact False.elim hq
    | cont => exact False.elim hq
theorem run2_ofS {P : Program} {w : World} {K : PySem.W.Frag} {mg : Str → Option Value} {base : Heap} {k : Nat} {f : Addr} {name qual : Str} {params : Arguments} {body : List Stmt} {scope : Scope} {dV kV doc pm cdv ct oc : Value} {an od : Option Addr}
    {osl : Array (Option Value)} {N ps : List Str} (lk : K.lookup f = some ⟨oc, od, .func (PySem.W.fnOf name qual params body scope dV kV doc pm an cdv ct), osl⟩) (hcd : PySem.W.codeIn K cdv qual = true) (S : FnScope N ps scope)
    {A : Around} {outer : List Env} {s : Shared} {H : Hp} {args : Args} {us : List Value} {vs : List V} {Q : VK} (hr : Room (k + 1) A) (e0 : Env0 P w K mg base A outer s H) (hu : Unm s) (hb : BindsTo s (PySem.W.fnOf name qual params body scope dV kV doc pm an cdv ct) args (ps.zip us)) (r : Vals vs us) (hl : vs.length = ps.length)
    (hbody : Room k (A.deeper (envOfC qual scope s.heap.objs.size f cdv)) → ∃ t, PSs2 (cxOf CX0 P w K mg base N qual scope f cdv A outer s H (fun _ _ _ => False)).nox body t ∧ t { nx := fun _ H' => Q .non H', rt := Q } (L2.start N vs) H) :
    codeAny (M2 P w) A (.call (.ref f) args) (fun r s' => match r with | .ok (.ret u) => CE outer P w H s Q u s' ∧ Unm s' | _ => False) s := by
  have KX : K.In s.heap := e0.mod.kin.keeps fun b o e => (e0.bs b o e).1
  have lim : s.heap.NoLimit := e0.mod.nolimit.keeps fun b o e => (e0.bs b o e).1
  have hkind : ∀ y ∈ ps.zip us, scope.names.lookup y.1 = some .local ∨ (scope.names.lookup y.1 = some .cell ∧ ((cellsFrom (s.heap.objs.size + 1) scope.names []).lookup y.1).isSome = true) := fun ⟨n, v⟩ hy => by
    rcases S.par n (List.of_mem_zip hy).1 with q | q
    · exact .inl q
    · exact .inr ⟨q, PySem.W.cellsFrom_some _ _ _ (.inl q)⟩
  refine code2_call_function hr.depth (KX _ _ lk) rfl S.co S.gen rfl (PySem.W.codeRec_of KX hcd) (hb _ _ _ _ ?_)
  refine wpAny_newFunctionEnv_cells S.kind hkind fun env he s1 x => ?_
  subst he
  refine ⟨lim.keeps x.toInCall.keep, code2_func ?_⟩
  obtain ⟨t, ht, hq⟩ := hbody (hr.deeper _)
  have I : Inv (cxOf CX0 P w K mg base N qual scope f cdv A outer s H (fun _ _ _ => False)) [] (L2.start N vs) H s1 := inv_start S hr.hd e0 hl r x
  have I' : Inv (cxOf CX0 P w K mg base N qual scope f cdv A outer s H (fun _ _ _ => False)).nox [] (L2.start N vs) H s1 := I.wish _
  have hu1 : Unm s1 := by
    obtain ⟨h1, tk, e, _⟩ := x.done
    rw [e]
    exact hu
  refine wpAny_mono (ht.run [] s1 (L2.start N vs) H _ I' hu1 hq) (fun fl s' ⟨hs, hu'⟩ => ?_) fun e s' hs => hs
  have fin : ∀ {σ' : L2.St} {H' : Hp} {v : V} {u : Value}, Inv (cxOf CX0 P w K mg base N qual scope f cdv A outer s H (fun _ _ _ => False)).nox [] σ' H' s' → RelV v u → Q v H' → CE outer P w H s Q u s' :=
    fun {σ' H' v u} J rv q => ⟨v, H', J.os, J.bare, J.base, J.hok, rv, q⟩
  cases fl with
  | ret u =>
    obtain ⟨v, σ', H', J, rv, q⟩ := hs
    exact ⟨fin J rv q, hu'⟩
  | next =>
    obtain ⟨σ', H', J, q⟩ := hs
    exact ⟨fin (v := V.non) (u := Value.none) J rfl q, hu'⟩
  | brk =>
    obtain ⟨_, _, _, q⟩ := hs
    exact (show False from q).elim
  | cont =>
    obtain ⟨_, _, _, q⟩ := hs
    exact (show False from q).elim
/-- the def that calls what it got: TT: what it makes of the lambda's reading -/
def Gives2 (X : Cx) (Ng : List Str) (x : Str) (sg : Scope) (g : Addr) (cdg : Value) (bg : List Stmt) (a : Str) (q : Str) (TT : (Hp → VK → Prop) → Hp → VK → Prop) : Prop :=
  ∀ (f c' : Addr) (s : Shared) (H : Hp) (Q : VK) (tl : Hp → VK → Prop),
    (∀ p1 p2 : Pos, PE2 (zCx X Ng x sg g cdg s H) (.Call (.Name a p1) [] [] p2) (fun σZ HZ Q => σZ[0]? = some (some (.ref f)) ∧ HZ c' = some (CodeO c' q) ∧ tl HZ Q)) →
      H c' = some (CodeO c' q) → TT tl H Q → ∃ t, PSs2 (zCx X Ng x sg g cdg s H) bg t ∧ t { nx := fun _ H' => Q .non H', rt := Q } (L2.start Ng [.ref f]) H
def tLam2 (T : List (Addr × Str)) (TT : (Hp → VK → Prop) → Hp → VK → Prop) (t : TE) : TE := fun σ H Q => Tabs T H ∧ ∀ H1, ExtN H H1 → Tabs T H1 → TT (fun H' Q' => t σ H' Q') H1 Q
theorem pe2_lamcall {T : List (Addr × Str)} {TT : (Hp → VK → Prop) → Hp → VK → Prop} {x a : Str} {g c P : Addr} {k : Nat} {pg : Arguments} {bg : List Stmt} {sg : Scope} {dV kV doc pm cdv ct oc : Value} {an od : Option Addr} {osl : Array (Option Value)} {Ng : List Str}
    {params : Arguments} {body : Expr} {scope : Scope} {t : TE} {p lpos pos : Pos} (hg : Gl X x) (hm : X.mg x = some (.ref g)) (hk : PySem.W.keepIn X.K (.ref g) = true)
    (lk : X.K.lookup g = some ⟨oc, od, .func (PySem.W.fnOf x x pg bg sg dV kV doc pm an cdv ct), osl⟩) (hcg : PySem.W.codeIn X.K cdv x = true) (hb : L2.Binds X.K (PySem.W.fnOf x x pg bg sg dV kV doc pm an cdv ct) [a] []) (Sg : FnScope Ng [a] sg) (hNg : Ng[0]? = some a) (hva : Vis sg a)
    (hG : Gives2 X Ng x sg g cdv bg a (X.env.qual ++ "<lambda>") TT)
    (TB : TabB X.base X.mg c P) (hcode : X.env.code = .ref c) (hmT : (P, X.env.qual ++ "<lambda>") ∈ T) (hun : ∀ p ∈ T, p.1 = P → p.2 = X.env.qual ++ "<lambda>") (hr : Room (k + 2) X.A) (L : LamS X.env.scope scope) (hdef : defaultsOf params X.env = ([], []))
    (hbind : ∀ (q : Str) (cl : List (Str × Addr)) (pm cv ctv : Value), bindArgs (PySem.W.kla_fn "<lambda>" q params body scope cl pm cv ctv) ⟨[], []⟩ = pure [])
    (hbody : ∀ (A : Around) (outer : List Env) (s : Shared) (H : Hp) (f c' : Addr), Room k (A.deeper (lamEnv X scope s.heap.objs.size f c')) → PE2 (lamCx X A outer s H (fun _ _ _ => False) scope f c').nox body t)
    (hdb : (x == ("__debug__" : Str)) = false := by decide) (hd : (a == ("__debug__" : Str)) = false := by decide) (hcd : (a == ("__classdict__" : Str)) = false := by decide) :
    PE2 X (.Call (.Name x p) [.Lambda params body scope lpos] [] pos) (tLam2 T TT t) := by
  refine ⟨fun pins s σ H Q I hu h => ?_⟩
  obtain ⟨hT, h⟩ := h
  refine wpAny_Call_Name_kw (ld2_glob I hg hm ?_ hdb)
  refine PySem.W.callWith_K (h₀ := X.base) I.ok.mod.kin hk ?_ (by rfl) (by rfl)
  show wpAny _ _ (spliced ((false, eval (.Lambda params body scope lpos) X.env) :: backTo pos (starEach [] X.env))) _ _ s
  have made : wpAny (model X.prog X.w) X.A (eval (.Lambda params body scope lpos) X.env) (fun u s' => ∃ f c' pm' ctv H1, u = .ref f ∧ Inv X pins σ H1 s' ∧ ExtN H H1 ∧ Tabs T H1 ∧
      s'.heap.get? f = some (PySem.W.kla_obj "<lambda>" (X.env.qual ++ "<lambda>") params body scope (cloFrom X.env.cells scope.names []) pm' c' ctv) ∧ H1 f = none ∧ f ∉ frs X.stack ∧ H1 c' = some (CodeO c' (X.env.qual ++ "<lambda>"))) F0 (stuckS s) :=
    lam_make2 (inv_stuck I) TB hcode hmT hun hT hdef (L.has I.ok) fun f c' pm' ctv H1 s' I1 eN T1 hf hfn hfr hco => ⟨f, c', pm', ctv, H1, rfl, I1, eN, T1, hf, hfn, hfr, hco⟩
  refine Calls.spliced_cons (wpAny_mono (wpAny_use made) (fun u s' ⟨s1, wk, f, c', pm', ctv, H1, eu, I1, eN, T1, hf, hfn, hfr, hco⟩ => ?_) fun _ _ ⟨_, _, z⟩ => z)
  subst eu
  have I2 := inv_woke I.bare I1 wk
  have hu2 := unm_woke hu I1.bare wk
  have hf2 : s'.heap.get? f = some (PySem.W.kla_obj "<lambda>" (X.env.qual ++ "<lambda>") params body scope (cloFrom X.env.cells scope.names []) pm' c' ctv) := by
    rw [(woke_heap wk).1]
    exact hf
  refine Calls.spliced_nil ⟨I2.kIn, ?_⟩
  have rc : codeAny (M2 X.prog X.w) X.A (.call (.ref g) ⟨[.ref f], []⟩) (fun r s'' => match r with | .ok (.ret u) => CE X.stack X.prog X.w H1 s' Q u s'' ∧ Unm s'' | _ => False) s' := by
    refine run2_ofS (N := Ng) (ps := [a]) (us := [.ref f]) (vs := [.ref f]) lk hcg Sg hr I2.env0 hu2 (hb s' [.ref f] I2.kIn rfl) (.cons rfl .nil) rfl fun hr' => ?_
    exact hG f c' s' H1 Q (fun H' Q' => t σ H' Q') (fun p1 p2 => pe2_act (i := 0) I2 L hf2 hfn hfr (hbind _ _ _ _ _) hr' (fun A outer s H hr2 => hbody A outer s H f c' hr2) hNg hva hd hcd) hco (h H1 eN T1)
  refine wpAny_call (codeAny_mono rc fun r s2 hq => ?_)
  cases r with
  | error e => exact False.elim hq
  | ok fl =>
    cases fl with
    | ret u => exact ⟨I2.after hq.1, hq.2⟩
    | next => exact False.elim hq
    | brk => exact False.elim hq
    | cont => exact False.elim hq
end
end KQ

end Kq2Lam_text
section Kq2c_text
set_option Elab.async false
set_option linter.all false
set_option maxRecDepth 100000
set_option maxHeartbeats 4000000
/-! Plain defs that are called by their names, in M2 -/
namespace KQ
open PySem PySem.Spec PyProof.Rows L2 Kk
structure Df2 (P : Program) (w : World) (K : PySem.W.Frag) (mg : Str → Option Value) (base : Heap) (k : Nat) (x : Str) (ps : List Str) (sp : Sp2) : Prop where
  ex : ∃ f fd, Fn2 P w K mg base k f fd ps sp ∧ mg x = some (.ref f) ∧ PySem.W.keepIn K (.ref f) = true ∧ Binds K fd ps []
theorem fn2_ofD {P : Program} {w : World} {K : PySem.W.Frag} {mg : Str → Option Value} {base : Heap} {x : Str} {st : Stmt} {N ps : List Str} {k : Nat} {sp : Sp2} {f : Addr} {fd : FuncData} {cd : Value} (D : FunD K x x (defArgs st) (defBody st) (defScope st) [] [] f fd) (hfd : fd.code = cd) (S : FnScope N ps (defScope st)) (len : ∀ vs H Q, sp vs H Q → vs.length = ps.length)
    (hbody : ∀ (A : Around) (outer : List Env) (s : Shared) (H : Hp) (vs : List V) (Q : VK), Room k (A.deeper (envOfC x (defScope st) s.heap.objs.size f cd)) → (A.deeper (envOfC x (defScope st) s.heap.objs.size f cd)).guards = some [] → sp vs H Q →
      ∃ t, PSs2 (cxOf CX0 P w K mg base N x (defScope st) f cd A outer s H (fun _ _ _ => False)).nox (defBody st) t ∧ t { nx := fun _ H' => Q .non H', rt := Q } (L2.start N vs) H) : Fn2 P w K mg base (k + 1) f fd ps sp := by
  obtain ⟨oc, od, dV, kV, doc, pm, an, cdv, ct, osl, e, lk, hcd, _, _⟩ := D.ex
  subst e
  obtain rfl : cdv = cd := hfd
  exact fn2_of lk hcd S len hbody
theorem df2_of {P : Program} {w : World} {K : PySem.W.Frag} {mg : Str → Option Value} {base : Heap} {x : Str} {st : Stmt} {N ps : List Str} {k : Nat} {sp : Sp2} (F : At K mg x st) (S : FnScope N ps (defScope st)) (len : ∀ vs H Q, sp vs H Q → vs.length = ps.length)
    (hb : ∀ (kV doc pm : Value) (an : Option Addr) (cdv ct : Value) (us : List Value), us.length = ps.length → bindArgs (PySem.W.fnOf x x (defArgs st) (defBody st) (defScope st) .none kV doc pm an cdv ct) ⟨us, []⟩ = pure (ps.zip us))
    (hbody : ∀ (f : Addr) (cdv : Value) (A : Around) (outer : List Env) (s : Shared) (H : Hp) (vs : List V) (Q : VK), Room k (A.deeper (envOfC x (defScope st) s.heap.objs.size f cdv)) → (A.deeper (envOfC x (defScope st) s.heap.objs.size f cdv)).guards = some [] → sp vs H Q →
      ∃ t, PSs2 (cxOf CX0 P w K mg base N x (defScope st) f cdv A outer s H (fun _ _ _ => False)).nox (defBody st) t ∧ t { nx := fun _ H' => Q .non H', rt := Q } (L2.start N vs) H) : Df2 P w K mg base (k + 1) x ps sp := by
  obtain ⟨f, fd, D, m⟩ := F.ex
  exact ⟨f, fd, fn2_ofD D rfl S len fun A outer s H vs Q hr hg h => hbody f _ A outer s H vs Q hr hg h, m, D.kp, D.bindsN hb⟩
section
variable {X : Cx} {k : Nat} {x : Str} {ps : List Str} {sp : Sp2} {p pos : Pos} {e : Expr} {es : List Expr} {t : TA}
theorem pe2_df (G : Df2 X.prog X.w X.K X.mg X.base k x ps sp) (hr : Room k X.A) (hgu : X.A.guards = some []) (ha : PA2 X (e :: es) t) (hg : Gl X x := by rfl) (hdb : (x == ("__debug__" : Str)) = false := by decide)
    (he : starEach (e :: es) X.env = (false, eval e X.env) :: starEach es X.env := by rfl) (hpl : (backTo pos (starEach es X.env)).any (·.1) = false := by rfl) : PE2 X (.Call (.Name x p) (e :: es) [] pos) (tCall2 sp [] t) := by
  obtain ⟨f, fd, F, m, kp, b⟩ := G.ex
  exact pe2_call F hr hgu hg m kp b .nil ha hdb he hpl
end
/-- no promise, of any statements -/
theorem pss2_never {X : Cx} {st : List Stmt} : PSs2 X st (fun _ _ _ => False) := ⟨fun _ _ _ _ _ _ _ h => h.elim⟩
theorem ps2_never {X : Cx} {st : Stmt} : PS2 X st (fun _ _ _ => False) := ⟨fun _ _ _ _ _ _ _ h => h.elim⟩
theorem nox_of {X : Cx} : NoX X.nox := fun _ _ h => h
/-- all tracked objects stay, but dicts keyed by tuples and tables -/
def KpT (H H' : Hp) : Prop := ∀ b o, H b = some o → (∀ kvs, o ≠ .dT kvs) → (∀ ps, o ≠ .tbl ps) → H' b = some o
theorem KpT.refl {H : Hp} : KpT H H := fun _ _ h _ _ => h
theorem KpT.trans {H H1 H2 : Hp} (a : KpT H H1) (b : KpT H1 H2) : KpT H H2 := fun c o e n m => b c o (a c o e n m) n m
theorem KpT.of {H H' : Hp} (s : Same H H') : KpT H H' := fun b o e _ _ => s b o e
theorem KpT.ofT {H H' : Hp} (s : SameT H H') : KpT H H' := fun b o e n _ => s b o e n
theorem KpT.ofN {H H' : Hp} (s : LamX.ExtN H H') : KpT H H' := fun b o e _ m => s b o e m
theorem tabs_sameT {T : List (Addr × Str)} {H H' : Hp} (t : LamX.Tabs T H) (s : SameT H H') : LamX.Tabs T H' := by
  intro p hp
  obtain ⟨ps, h1, h2, h3⟩ := t p hp
  refine ⟨ps, s _ _ h1 (fun z => by simp), h2, fun pos cv hc => ?_⟩
  obtain ⟨c, e1, e2⟩ := h3 pos cv hc
  exact ⟨c, e1, s _ _ e2 (fun kvs z => by unfold LamX.CodeO at z; cases z)⟩
end KQ

end Kq2c_text
section KqRepr_text
set_option Elab.async false
set_option linter.all false
set_option maxRecDepth 100000
set_option maxHeartbeats 4000000
/-! repr(list of texts), nothing of repr being under way -/
namespace KQ
open PySem PySem.Spec PyProof.Rows L2
theorem reads_strs {h : Heap} : ∀ {l : List Str} {its : List Value}, Vals (l.map V.str) its → ReadsAll h its (l.map PyData.str) []
  | [], _, r => by
    cases r
    exact .nil
  | y :: l, _, r => by
    cases r with
    | cons r1 r2 =>
      obtain ⟨t, rfl⟩ := r1
      exact .cons (as := []) (bs := []) (.str y t) (reads_strs r2)
theorem shown_strs : ∀ l : List Str, PyData.shownAll (l.map PyData.str) = l.map reprText
  | [] => by simp only [List.map_nil, PyData.shownAll]
  | y :: l => by simp only [List.map_cons, PyData.shownAll, PyData.shown, shown_strs l]
theorem showable_strs : ∀ l : List Str, PyData.showableAll (l.map PyData.str) = true
  | [] => by simp only [List.map_nil, PyData.showableAll]
  | y :: l => by simp only [List.map_cons, PyData.showableAll, PyData.showable, showable_strs l, Bool.and_self]
theorem nodict_strs : ∀ l : List Str, PyData.hasDictAll (l.map PyData.str) = false
  | [] => by simp only [List.map_nil, PyData.hasDictAll]
  | y :: l => by simp only [List.map_cons, PyData.hasDictAll, PyData.hasDict, nodict_strs l, Bool.or_self]
theorem depth_strs : ∀ l : List Str, PyData.depthAll (l.map PyData.str) = 0
  | [] => by simp only [List.map_nil, PyData.depthAll]
  | y :: l => by simp only [List.map_cons, PyData.depthAll, PyData.depth, depth_strs l, Nat.max_self]
theorem textFrom_le : ∀ (ts : List Str) (k : Nat) (acc : Str), (textFrom k acc ts).length ≤ acc.length + piled ts
  | [], _, _ => Nat.le_refl _
  | t :: r, k, acc => by
    have h := textFrom_le r (k + 1) (acc ++ (if k > 0 then ", " else "" : String) ++ t)
    have e : (acc ++ (if k > 0 then ", " else "" : String) ++ t).length = acc.length + (if k > 0 then 2 else 0) + t.length := by
      rw [strLen_append, strLen_append]
      split <;> rfl
    rw [e] at h
    rw [piled_cons]
    show (textFrom (k + 1) _ r).length ≤ _
    have : (if k > 0 then 2 else 0 : Nat) ≤ 2 := by split <;> omega
    omega
theorem listText_le (ts : List Str) : (listText ts).length ≤ piled ts + 2 := by
  have h := textFrom_le ts 0 "["
  have e : (listText ts).length = (textFrom 0 "[" ts).length + 1 := by
    show (textFrom 0 "[" ts ++ "]").length = _
    rw [strLen_append]; rfl
  have e2 : (("[" : String) : Str).length = 1 := rfl
  omega
def rReprL (K : PySem.W.Frag) : List V → Hp → VK → Prop := fun xs H Q => ∃ (a : Addr) (l : List Str), xs = [.ref a] ∧ SqL K H a (l.map V.str) ∧ (∀ y ∈ l, ∀ c ∈ y.cps.toList, c < 16 ^ 8) ∧ fmtCost l + 2 ≤ sizeLine ∧ Q (.str (listText (l.map reprText))) H
theorem call_repr_list {X : Cx} {k : Nat} (hg : X.A.guards = some []) (hr : Room k X.A) : CallR X (.builtin "repr") (rReprL X.K) := by
  intro pins s σ H xs us Q I r h
  obtain ⟨a, l, rfl, hs, hc, hz, q⟩ := h
  obtain ⟨u, rfl, ru⟩ := vals1 r
  obtain rfl : u = Value.ref a := ru
  obtain ⟨its, rv, pl, _⟩ := I.list hs
  obtain ⟨o, ho, hcl, n, hd⟩ := pl.isList
  have R : Reads s.heap (.ref a) (.list (l.map PyData.str)) [a] := .list (as := []) ho hcl hd (by simpa using reads_strs rv)
  have e1 : PyData.shown (.list (l.map PyData.str)) = listText (l.map reprText) := by
    simp only [PyData.shown, shown_strs]
  have e2 : PyData.depth (.list (l.map PyData.str)) = 1 := by
    simp only [PyData.depth, depth_strs]
  refine repr_of_reads' R (by simp only [PyData.showable, showable_strs]) (fun z => ?_) hg ?_ (fun _ _ e => e) (fun h' u tk hk => ?_) ?_
  · simp only [PyData.hasDict, nodict_strs] at z
    cases z
  · rw [e2]
    have := hr.un
    omega
  · rw [e1]
    exact ⟨.str _, H, I.kept hk, ⟨_, rfl⟩, q⟩
  · rw [e1]
    have h1 := listText_le (l.map reprText)
    have h2 := fmt_piled l hc
    omega
end KQ

end KqRepr_text
section K51Cm_text
set_option Elab.async false
set_option linter.all false
set_option maxRecDepth 100000
set_option maxHeartbeats 4000000
namespace K51
open PySem PySem.Spec PyProof.Rows L2 Kk SlX KQ LamX
section
variable {P : Program} {w : World} {K : PySem.W.Frag} {mg : Str → Option Value} {base : Heap}
/-! ### like -/
def sp__law_like (K : PySem.W.Frag) : Sp2 := fun vs H Q => ((∃ i : Int, vs = [.int i, .int i] ∧ i.natAbs.log2 < 1920) ∨ ∃ (a b : Addr) (l : List (List D)), vs = [.ref a, .ref b] ∧ SqL K H a (l.map fun t => V.str (tx t)) ∧ SqL K H b (l.map fun t => V.str (tx t)) ∧ l.length ≤ 1000 ∧ ∀ t ∈ l, t.length ≤ 100) ∧ Q (.bl true) H
abbrev N__law_like : List Str := ["_law_told", "_law_due"]
abbrev P__law_like : List Str := ["_law_told", "_law_due"]
theorem sc__law_like : FnScope N__law_like P__law_like (defScope s__law_like) := ⟨rfl, rfl, rfl, by decide +kernel, rfl, by decide +kernel, by decide +kernel⟩
theorem cost_le : ∀ l : List (List D), (∀ t ∈ l, t.length ≤ 100) → fmtCost (l.map tx) ≤ 1004 * l.length
  | [], _ => Nat.zero_le _
  | t :: l, h => by
    rw [List.map_cons, fmtCost_cons, List.length_cons, tx_len]
    have := cost_le l fun t ht => h t (List.mem_cons_of_mem _ ht)
    have := h t List.mem_cons_self
    omega
theorem cp_small (t : List D) : ∀ c ∈ (tx t).cps.toList, c < 16 ^ 8 := fun c hc => by
  rw [tx_toList] at hc
  obtain ⟨d, _, rfl⟩ := List.mem_map.mp hc
  cases d <;> decide
theorem d__law_like (T : Tx K mg) : Df2 P w K mg base 1 "_law_like" P__law_like (sp__law_like K) := by
  refine df2_of T.F__law_like sc__law_like (fun vs H Q h => ?_) (fun _ _ _ _ _ _ us hl => match us, hl with | [_, _], _ => rfl) (fun f cdv A outer s H vs Q hr hg h => ?_)
  · obtain ⟨⟨i, rfl, _⟩ | ⟨a, b, l, rfl, _⟩, _⟩ := h
    · rfl
    · rfl
  · obtain ⟨⟨i, rfl, hi⟩ | ⟨a, b, l, rfl, ha, hb, hl, ht⟩, q⟩ := h
    · refine ⟨_, pss2_one (ps2_ret (pe2_of nox_of (pe_cmpR op_eq (pe_callB SkE.call_repr_int (by rfl) T.n_repr (by decide +kernel) (pa_cons (pv 0) pa_nil)) (pe_callB SkE.call_repr_int (by rfl) T.n_repr (by decide +kernel) (pa_cons (pv 1) pa_nil)) (nomark _)))), ?_⟩
      refine ⟨_, rfl, i, rfl, hi, _, rfl, i, rfl, hi, rfl, ?_⟩
      rw [decide_eq_true rfl]
      exact q
    · refine ⟨_, pss2_one (ps2_ret (pe2_of nox_of (pe_cmpR op_eq (pe_callB (call_repr_list hg hr) (by rfl) T.n_repr (by decide +kernel) (pa_cons (pv 0) pa_nil)) (pe_callB (call_repr_list hg hr) (by rfl) T.n_repr (by decide +kernel) (pa_cons (pv 1) pa_nil)) (nomark _)))), ?_⟩
      have em : l.map (fun t => V.str (tx t)) = (l.map tx).map V.str := by rw [List.map_map]; rfl
      rw [em] at ha hb
      have hs : fmtCost (l.map tx) + 2 ≤ sizeLine := by
        have := cost_le l ht
        have : 2000000 < sizeLine := by decide
        omega
      have hc : ∀ y ∈ l.map tx, ∀ c ∈ y.cps.toList, c < 16 ^ 8 := fun y hy => by
        obtain ⟨t, _, rfl⟩ := List.mem_map.mp hy
        exact cp_small t
      refine ⟨_, rfl, a, l.map tx, rfl, ha, hc, hs, _, rfl, b, l.map tx, rfl, hb, hc, hs, rfl, ?_⟩
      rw [decide_eq_true rfl]
      exact q
/-! ### heard -/
def TTheard (tl : Hp → VK → Prop) (H : Hp) (Q : VK) : Prop := ∀ p0, H p0 = none → ∀ R : VK, (∀ v H2, (∀ p, H2 p = none → Q (.ref p) (upd H2 p (.lst [v]))) → R v H2) → tl (upd H p0 (.lst [])) R
abbrev N__law_heard : List Str := ["_law_call", "_law_told", "_law_error", "e", "_law_kinds", "_law_words", "_law_found", "_law_word", "_law_is_so"]
abbrev P__law_heard : List Str := ["_law_call"]
theorem sc__law_heard : FnScope N__law_heard P__law_heard (defScope s__law_heard) := ⟨rfl, rfl, rfl, by decide +kernel, rfl, by decide +kernel, by decide +kernel⟩
theorem heard_gives {X : Cx} (T : Tx X.K X.mg) {g : Addr} {cdg : Value} {q : Str} (hh : X.A.handled = none) : Gives2 X N__law_heard "_law_heard" (defScope s__law_heard) g cdg (defBody s__law_heard) "_law_call" q TTheard := by
  intro f c' s H Q tl hact hco htt
  refine ⟨_, (pss2_cons (ps2_of nox_of (ps_par (i := 1) (j := 2) (by rfl) sc__law_heard.nd rfl rfl (by decide) rfl rfl (pa_cons (pe_lst pa_nil) (pa_cons pe_non pa_nil)) (by rfl)))
    (pss2_cons (ps2_try (pss2_one (ps2_set (i := 1) sc__law_heard.nd rfl (Or.inl rfl) (pe2_lst (pa2_cons (hact _ _) pa2_nil)))) pss2_nil)
    (pss2_cons (ps2_if (pt2_of nox_of (pt_cmpR op_isN (pv 2) pe_non (nomark _))) (pss2_one (ps2_ret (pe2_of nox_of (pv 1)))) pss2_nil) pss2_never))), ?_⟩
  refine ⟨Nat.zero_le _, fun p0 n0 => ⟨_, _, rfl, ?_⟩⟩
  refine ⟨rfl, same_upd n0 _ _ hco, ?_⟩
  refine htt p0 n0 _ fun v H2 h => ?_
  refine ⟨Nat.succ_le_of_lt (by decide : 0 < sizeLine), fun p hp => ?_⟩
  exact ⟨_, rfl, rfl, _, rfl, iteT ⟨_, rfl, h p hp⟩⟩
/-! ### lists_right -/
theorem outs_same : ∀ {ls : List (List D)} {ys : List V} {H H' : Hp}, Outs (ls.map (itL K)) ys H → Same H H' → Outs (ls.map (itL K)) ys H'
  | [], [], _, _, _, _ => trivial
  | [], _ :: _, _, _, h, _ => h.elim
  | _ :: _, [], _, _, h, _ => h.elim
  | l :: ls, y :: ys, H, H', h, s => by
    obtain ⟨⟨a, e, hL⟩, h2⟩ := h
    exact ⟨⟨a, e, hL.same s⟩, outs_same h2 s⟩
theorem outs_len : ∀ {its : List Item} {ys : List V} {H : Hp}, Outs its ys H → ys.length = its.length
  | [], [], _, _ => rfl
  | [], _ :: _, _, h => h.elim
  | _ :: _, [], _, h => h.elim
  | _ :: _, _ :: _, _, h => by rw [List.length_cons, List.length_cons, outs_len h.2]
theorem outs_at : ∀ {ls : List (List D)} {ys : List V} {H : Hp} {j : Nat} {z : V}, Outs (ls.map (itL K)) ys H → ys[j]? = some z → ∃ l, ls[j]? = some l ∧ ∃ a, z = .ref a ∧ LineAt K H a l
  | [], [], _, _, _, _, e => by simp at e
  | [], _ :: _, _, _, _, h, _ => h.elim
  | _ :: _, [], _, _, _, h, _ => h.elim
  | l :: ls, y :: ys, H, 0, z, h, e => by
    obtain rfl := Option.some.inj e
    exact ⟨l, rfl, h.1⟩
  | l :: ls, y :: ys, H, j + 1, z, h, e => outs_at (j := j) h.2 e
def lamQ : Str := ("_law_lists_right" : Str) ++ ".<locals>." ++ "<lambda>"
def sp__law_lists_right (K : PySem.W.Frag) (Pt : Addr) : Sp2 := fun vs H Q => ∃ (s : Nat) (t : Int) (b : Addr) (ts : List (List D)), vs = [.int (s : Nat), .int t, .ref b] ∧ SqL K H b (ts.map fun l => V.str (tx l)) ∧ CaseOK s t ts ∧ Tabs [(Pt, lamQ)] H ∧
  ∀ H', KpT H H' → Tabs [(Pt, lamQ)] H' → Q (.bl true) H'
abbrev N__law_lists_right : List Str := ["_law_strokes", "_law_turns_here", "_law_texts", "_law_due", "_law_told", "_law_text_here", "_law_line"]
abbrev P__law_lists_right : List Str := ["_law_strokes", "_law_turns_here", "_law_texts"]
theorem sc__law_lists_right : FnScope N__law_lists_right P__law_lists_right (defScope s__law_lists_right) := ⟨rfl, rfl, rfl, by decide +kernel, rfl, by decide +kernel, by decide +kernel⟩
theorem d__law_lists_right (T : Tx K mg) {f : Addr} {fd : FuncData} {c Pt : Addr} (hfd : fd.code = .ref c) (TB : TabB base mg c Pt) (F : FunD K "_law_lists_right" "_law_lists_right" (defArgs s__law_lists_right) (defBody s__law_lists_right) (defScope s__law_lists_right) [] [] f fd) :
    Fn2 P w K mg base 80 f fd P__law_lists_right (sp__law_lists_right K Pt) := by
  have G__law_least := d__law_least (P := P) (w := w) (base := base) T
  have G_count_lines := d_count_lines (P := P) (w := w) (base := base) T
  have G__law_like := d__law_like (P := P) (w := w) (base := base) T
  have G_lines_of := m_lines_of (P := P) (w := w) (base := base) T
  obtain ⟨gT, fdT, FT, mT⟩ := T.F__law_heard.ex
  have kT := FT.kp
  have bT0 := FT.bindsN (ps := P__law_heard) (fun _ _ _ _ _ _ us hl => match us, hl with | [_], _ => rfl)
  obtain ⟨ocT, odT, dVT, kVT, docT, pmT, anT, cdvT, ctT, oslT, efd, lkT, cdT, hdvT, hkvT⟩ := FT.ex
  subst efd
  have bT := bT0
  refine fn2_ofD F hfd sc__law_lists_right (fun vs H Q h => ?_) (fun A outer s H vs Q hr hg h => ?_)
  · obtain ⟨s, t, b, ts, rfl, _⟩ := h
    rfl
  · obtain ⟨s, t, b, ts, rfl, hts, ok, hTabs, q⟩ := h
    refine ⟨_, (pss2_cons (ps2_of nox_of (ps_setLc (i := 3) (own := [("_law_text_here", 5)]) (g := gName 5) rfl sc__law_lists_right.nd rfl rfl (sw_true rfl rfl rfl (by decide +kernel)) (pi_list (pv 2)) (blkOk_by (N := N__law_lists_right) (sc := defScope s__law_lists_right) (by decide +kernel)) (fun _ _ _ _ _ => (pg_name (i := 5) sc__law_lists_right.nd rfl (Or.inl rfl))) (fun _ _ _ _ _ => pts_one (pt_cmpR op_eq (pv 5) (pe_df G__law_least (hr.mono (by decide)) (pa_cons (pv 5) pa_nil)) (nomark _))) (fun _ _ _ _ _ => (pv 5))))
      (pss2_cons (ps2_if (pt2_not (pt2_val (pe2_df G__law_like (hr.mono (by decide)) hg (pa2_of nox_of (pa_cons (pe_df G_count_lines (hr.mono (by decide)) (pa_cons (pv 0) (pa_cons (pv 1) pa_nil))) (pa_cons (pe_callB call_len_seq (by rfl) T.n_len (by decide +kernel) (pa_cons (pv 3) pa_nil)) pa_nil)))))) (pss2_one (ps2_ret (pe2_of nox_of pe_bl))) pss2_nil)
      (pss2_cons (ps2_set (i := 4) sc__law_lists_right.nd rfl (Or.inl rfl) (pe2_lamcall (k := 64) (T := [(Pt, lamQ)]) (TT := TTheard) rfl mT kT lkT cdT bT sc__law_heard rfl (Or.inl rfl) (heard_gives T hr.hd) TB rfl (List.mem_singleton.mpr rfl) (fun p hp _ => by rw [List.mem_singleton.mp hp]; rfl) (hr.mono (by decide)) (lamS_by (show lamSB (defScope s__law_lists_right) _ = true by decide +kernel)) rfl (fun _ _ _ _ _ => rfl)
        (fun A' outer' s' H' f' c' hr' => by exact (pe2_list nox_of rfl (pm_df G_lines_of (hr'.mono (by decide)) (pa_cons (pv 0) (pa_cons (pv 1) pa_nil))) (hr'.mono (by decide)) (by rfl) T.n_list (by decide +kernel)))))
      (pss2_cons (ps2_if (pt2_of nox_of (pt_cmpR op_gt (pe_callB call_len_seq (by rfl) T.n_len (by decide +kernel) (pa_cons (pv 3) pa_nil)) pe_int (nomark _))) pss2_never pss2_nil)
      (pss2_one (ps2_ret (pe2_and (pe2_of nox_of (pe_callB call_isi (by rfl) T.n_isinstance (by decide +kernel) (pa_cons (pv 4) (pa_cons (pe_bltn (v := .ty "list") (by rfl) T.n_list (by decide +kernel) rfl) pa_nil)))) (pe2_one (pe2_df G__law_like (hr.mono (by decide)) hg (pa2_of nox_of (pa_cons (pe_lc (own := [("_law_line", 6)]) (g := gName 6) (tt := tYes) rfl sc__law_lists_right.nd (pi_list (pe_ix (ix_listK (K := K) rfl) (pv 4) pe_int (fun _ _ => rfl))) (blkOk_by (N := N__law_lists_right) (sc := defScope s__law_lists_right) (by decide +kernel)) (fun _ _ _ _ _ => (pg_name (i := 6) sc__law_lists_right.nd rfl (Or.inl rfl))) (fun _ _ _ _ _ => pts_nil) (fun _ _ _ _ _ => (pe_slK (K := K) rfl (pv 6)))) (pa_cons (pv 3) pa_nil)))))))))))), ?_⟩
    have few : (ts.filter fun l => decide (l = norm l)).length ≤ 500 := ok.small
    refine ⟨_, rfl, b, rfl, ⟨_, hts⟩, fun dd nD => walk_list (K := K) (a := b) (ts.map fun l => V.str (tx l)) (fun j H' => Grow H dd (((ts.take j).filter fun l => decide (l = norm l)).map fun l => V.str (tx l)) H') (Grow.start nD) (fun j H' _ g => g.same.seq hts) ?_ ?_⟩
    · rintro j z H4 hz g
      rw [List.getElem?_map] at hz
      obtain ⟨l, hl, ez⟩ := Option.map_eq_some_iff.mp hz
      subst ez
      obtain ⟨l1, l2⟩ := ok.len l (List.mem_of_getElem? hl)
      refine ⟨rfl, _, rfl, _, rfl, l, rfl, l1, by omega, fun H5 s5 => ⟨rfl, _, rfl, ?_⟩⟩
      have g5 := g.more s5
      rw [take_more hl, List.filter_append, List.map_append]
      show if decide (V.str (tx l) = V.str (tx (norm l))) = true then _ else _
      rw [tx_dec]
      by_cases c0 : l = norm l
      · refine iteTb (decide_eq_true c0) ?_
        have ef : [l].filter (fun l => decide (l = norm l)) = [l] := by rw [List.filter_cons, if_pos (decide_eq_true c0), List.filter_nil]
        rw [ef]
        refine ⟨_, rfl, _, g5.lst, ?_, g5.push⟩
        rw [List.length_map]
        have f1 := List.length_filter_le (fun l => decide (l = norm l)) (ts.take j)
        have f2 := List.length_take_le' j ts
        have f3 := ok.few
        have : 2000000 < sizeLine := by decide
        omega
      · refine iteFb (decide_eq_false c0) ?_
        have ef : [l].filter (fun l => decide (l = norm l)) = [] := by rw [List.filter_cons, if_neg (fun z => c0 (of_decide_eq_true z)), List.filter_nil]
        rw [ef, List.map_nil, List.append_nil]
        exact g5
    intro H1 g
    rw [List.length_map, List.take_length] at g
    have dlen : ∀ l ∈ ts.filter (fun l => decide (l = norm l)), l.length ≤ 100 := fun l hl => (ok.len l (List.mem_filter.mp hl).1).2
    have cnt := ok.cnt
    have lines := ok.lines
    generalize ts.filter (fun l => decide (l = norm l)) = due at g few dlen cnt lines
    have ld := g.lst
    have hT1 := hTabs.ext g.same
    refine ⟨_, rfl, _, rfl, s, t, rfl, ok.lo, ok.hi, ok.ev, fun H2 s2 => ?_⟩
    have ld2 : H2 dd = _ := s2 _ _ ld fun kvs z => by cases z
    have hT2 := tabs_sameT hT1 s2
    refine ⟨_, rfl, dd, _, rfl, .inl (SqL.of ld2), ?_⟩
    refine ⟨.inl ⟨cntL s t, ?_, ?_⟩, ?_⟩
    · rw [cnt, List.length_map]
      rfl
    · rw [cnt, Int.natAbs_natCast]
      exact Nat.lt_of_le_of_lt (Nat.log2_le_self _) (by omega)
    refine ⟨_, rfl, iteF ?_⟩
    refine ⟨hT2, fun H3 eN hT3 p0 n0 R hR => ?_⟩
    have ld3 : H3 dd = _ := eN _ _ ld2 fun ps z => by cases z
    have a0 := same_upd (o := .lst []) n0
    have hT4 := hT3.ext a0
    have ld4 := a0 _ _ ld3
    generalize upd H3 p0 (.lst []) = H4 at a0 hT4 ld4
    refine ⟨_, rfl, _, rfl, _, _, ⟨s, t, rfl, ok.lo, ok.hi, ok.ev, by rw [cnt]; omega, ok.good, rfl, rfl⟩, ?_, ?_, fun ys H5 s5 _ ho p np => ?_⟩
    · rw [List.length_map, lines]
      have : 2000000 < sizeLine := by decide
      omega
    · intro it hit
      obtain ⟨l, _, rfl⟩ := List.mem_map.mp hit
      rintro y Ha Hb ⟨a, e, dx, h1, h2⟩ sm
      exact ⟨a, e, dx, sm _ _ h1 (fun kvs z => by cases z), sm _ _ h2 (fun kvs z => by cases z)⟩
    · have ld5 : H5 dd = _ := s5 _ _ ld4 fun kvs z => by cases z
      have hT5 := tabs_sameT hT4 s5
      refine hR _ _ fun q0 nq => ?_
      have a5 := same_upd (o := .lst ys) np
      have e5 := upd_same (H := H5) (a := p) (o := .lst ys)
      have ho6 := outs_same ho a5
      have hT6 := hT5.ext a5
      have ld6 := a5 _ _ ld5
      generalize upd H5 p (.lst ys) = H6 at a5 e5 ho6 hT6 ld6 nq
      have a6 := same_upd (o := .lst [.ref p]) nq
      have e6 := upd_same (H := H6) (a := q0) (o := .lst [.ref p])
      have ho7 := outs_same ho6 a6
      have hT7 := hT6.ext a6
      have ld7 := a6 _ _ ld6
      have e57 := a6 _ _ e5
      show tSeq _ _ _ _ (upd H6 q0 (.lst [.ref p]))
      generalize upd H6 q0 (.lst [.ref p]) = H7 at a6 e6 ho7 hT7 ld7 e57
      have kp : KpT H H7 := (KpT.of g.same).trans ((KpT.ofT s2).trans ((KpT.ofN eN).trans ((KpT.of a0).trans ((KpT.ofT s5).trans ((KpT.of a5).trans (KpT.of a6))))))
      refine ⟨_, rfl, dd, _, rfl, .inl (SqL.of ld7), _, _, rfl, rfl, _, rfl, iteFb (decide_eq_false (by rw [List.length_map]; omega)) ?_⟩
      refine ⟨_, rfl, _, _, _, _, true, rfl, .ty _, .base (.lst e6), kit_ty (by decide +kernel), true, rfl, ?_⟩
      refine iteT ?_
      refine ⟨_, rfl, q0, _, _, .ref p, rfl, rfl, SqL.of e6, rfl, p, rfl, ⟨_, SqL.of e57⟩, fun D2 hD2 => walk_list (K := K) (a := p) ys (fun j H' => Grow H7 D2 ((due.take j).map fun l => V.str (tx l)) H') (Grow.start hD2) (fun j H' _ g2 => SqL.of (g2.same _ _ e57)) ?_ ?_⟩
      · rintro j z H8 hz g2
        rw [lines] at ho7
        obtain ⟨l, hl, a, rfl, hL⟩ := outs_at ho7 hz
        obtain ⟨dx, hs⟩ := (hL.same g2.same).slt
        have il := (List.getElem?_eq_some_iff.mp hl).1
        refine ⟨rfl, _, rfl, a, _, dx, _, _, 0, _, rfl, hs, T.L_cls, T.L_slot, rfl, ?_⟩
        refine ⟨_, g2.lst, ?_, ?_⟩
        · rw [List.length_map]
          have := List.length_take_le' j due
          exact small1000 (by omega)
        · rw [take_more hl, List.map_append]
          exact g2.push
      · intro H8 g2
        have ey : ys.length = due.length := by
          rw [lines] at ho7
          exact (outs_len ho7).trans (List.length_map ..)
        rw [ey, List.take_length] at g2
        refine ⟨_, rfl, .inr ⟨D2, dd, due, rfl, SqL.of g2.lst, SqL.of (g2.same _ _ ld7), by omega, dlen⟩, ?_⟩
        exact q H8 (kp.trans (KpT.of g2.same)) (hT7.ext g2.same)
end
end K51

end K51Cm_text
section KkRep_text
set_option Elab.async false
set_option linter.all false
set_option maxRecDepth 100000
set_option maxHeartbeats 4000000
/-! a text, many times -/
namespace Kk
open PySem PySem.Spec PyProof.Rows L2
def repS (z : Str) (n : Nat) : Str := ⟨(List.replicate n z.cps).foldl (· ++ ·) #[]⟩
def rRepS : R2 := fun x y H Q => ∃ (z : Str) (n : Nat), x = .str z ∧ y = .int (n : Nat) ∧ 2 ≤ n ∧ n ≤ 1000 ∧ 0 < z.length ∧ z.length ≤ 1000 ∧ (repS z n).length ≤ sizeLine ∧ Q (.str (repS z n)) H
theorem op_repS {X : Cx} : OpR X (binaryOp .Mult) rRepS := by
  intro pins s σ H x y v u Q I rx ry h
  obtain ⟨z, n, rfl, rfl, h2, h3, h4, h5, h6, q⟩ := h
  obtain ⟨t, rfl⟩ := rx
  obtain ⟨t', rfl⟩ := ry
  have e1 : ¬ ((n : Nat) : Int) < 1 := by omega
  have e2 : (((n : Nat) : Int) == 1 || z.length == 0) = false := by
    rw [Bool.or_eq_false_iff]
    exact ⟨beq_eq_false_iff_ne.mpr (by omega), beq_eq_false_iff_ne.mpr (by omega)⟩
  refine PySem.P.mul_str ?_ ?_ ?_ ?_
  · rw [decide_eq_false (by omega), decide_eq_false (by omega)]
    rfl
  · intro _ _ hgt
    have hn0 : (0 : Int) < (n : Nat) := by omega
    have : ((z.length : Nat) : Int) * (n : Nat) ≤ 1000 * 1000 := by
      have a1 : ((z.length : Nat) : Int) ≤ 1000 := by omega
      have a2 : ((n : Nat) : Int) ≤ 1000 := by omega
      calc ((z.length : Nat) : Int) * (n : Nat) ≤ 1000 * (n : Nat) := Int.mul_le_mul_of_nonneg_right a1 (by omega)
        _ ≤ 1000 * 1000 := Int.mul_le_mul_of_nonneg_left a2 (by omega)
    have h8 : ((z.length : Nat) : Int) ≤ (2 ^ 63 - 1) / ((n : Nat) : Int) := (Int.le_ediv_iff_mul_le hn0).mpr (by omega)
    omega
  · intro _ _
    rw [Int.toNat_natCast]
    have h9 : z.length * n ≤ 1000 * 1000 := Nat.mul_le_mul h5 h3
    exact decide_eq_false (by
      have e := sizeLine_eq
      first | (rw [e]; omega) | omega)
  · rw [if_neg e1, if_neg (by rw [e2]; exact Bool.false_ne_true)]
    rw [Int.toNat_natCast]
    exact ⟨h6, ⟨.str (repS z n), H, I.tok _, ⟨_, rfl⟩, q⟩⟩
end Kk

end KkRep_text
section KkRepL_text
set_option Elab.async false
set_option linter.all false
set_option maxRecDepth 100000
set_option maxHeartbeats 4000000
/-! a text of letters, many times -/
namespace Kk
open PySem PySem.Spec PyProof.Rows L2
def repL (l : List D) (n : Nat) : List D := (List.replicate n l).flatten
theorem repL_succ (l : List D) (n : Nat) : repL l (n + 1) = l ++ repL l n := by
  unfold repL
  rw [List.replicate_succ, List.flatten_cons]
theorem repL_len (l : List D) : ∀ n, (repL l n).length = n * l.length
  | 0 => by rw [Nat.zero_mul]; rfl
  | n + 1 => by rw [repL_succ, List.length_append, repL_len l n, Nat.succ_mul, Nat.add_comm]
theorem repL_at {l : List D} : ∀ {n i : Nat}, i < n * l.length → (repL l n)[i]? = l[i % l.length]?
  | 0, i, h => by rw [Nat.zero_mul] at h; omega
  | n + 1, i, h => by
    rw [repL_succ]
    by_cases c : i < l.length
    · rw [List.getElem?_append_left c, Nat.mod_eq_of_lt c]
    · rw [Nat.succ_mul] at h
      rw [List.getElem?_append_right (by omega), repL_at (n := n) (by omega)]
      congr 1
      exact (Nat.mod_eq_sub_mod (by omega : i ≥ l.length)).symm
theorem mod_pred {i m : Nat} (hm : 0 < m) (hi : 0 < i) : (i - 1) % m = if i % m = 0 then m - 1 else i % m - 1 := by
  have h1 := Nat.div_add_mod i m
  have h2 := Nat.mod_lt i hm
  by_cases c : i % m = 0
  · rw [if_pos c]
    have h3 : 0 < i / m := Nat.div_pos (Nat.le_of_dvd hi (Nat.dvd_of_mod_eq_zero c)) hm
    obtain ⟨q, hq⟩ : ∃ q, i / m = q + 1 := ⟨i / m - 1, by omega⟩
    rw [hq, Nat.mul_succ, c] at h1
    have e : i - 1 = (m - 1) + m * q := by omega
    rw [e, Nat.add_mul_mod_self_left, Nat.mod_eq_of_lt (by omega)]
  · rw [if_neg c]
    have e : i - 1 = (i % m - 1) + m * (i / m) := by omega
    rw [e, Nat.add_mul_mod_self_left, Nat.mod_eq_of_lt (by omega)]
theorem repL_kink {l : List D} {n i : Nat} (hl : 0 < l.length) (h : i < n * l.length) : kinkP (repL l n) i = kinkP l (i % l.length) := by
  have hn : 0 < n := by
    rcases Nat.eq_zero_or_pos n with e | e
    · rw [e, Nat.zero_mul] at h; omega
    · exact e
  have hnl : l.length ≤ n * l.length := Nat.le_mul_of_pos_left _ hn
  have ea : ahead (repL l n) i = ahead l (i % l.length) := by
    unfold ahead
    rw [repL_len]
    by_cases c : i = 0
    · subst c
      rw [if_pos rfl, Nat.zero_mod, if_pos rfl, repL_at (by omega), mod_pred hl (by omega), Nat.mul_mod_left, if_pos rfl]
    · rw [if_neg c, repL_at (by omega), mod_pred hl (by omega)]
      by_cases c2 : i % l.length = 0
      · rw [if_pos c2, if_pos c2]
      · rw [if_neg c2, if_neg c2]
  unfold kinkP
  rw [ea, repL_at h]
theorem repL_nokink {l : List D} {n : Nat} (hl : 0 < l.length) (h : kinkAt l = none) : kinkAt (repL l n) = none := by
  refine find_range_none fun i hi => ?_
  rw [repL_len] at hi
  rw [repL_kink hl hi]
  have z := List.find?_eq_none.mp h (i % l.length) (List.mem_range.mpr (Nat.mod_lt _ hl))
  exact Bool.eq_false_iff.mpr z
theorem repL_count (l : List D) (a : D) : ∀ n, (repL l n).count a = n * l.count a
  | 0 => by rw [Nat.zero_mul]; rfl
  | n + 1 => by rw [repL_succ, List.count_append, repL_count l a n, Nat.succ_mul, Nat.add_comm]
theorem repL_endX {l : List D} (n : Nat) (h : endX l = 0) : endX (repL l n) = 0 := by
  unfold endX at *
  rw [repL_count, repL_count, Int.natCast_mul, Int.natCast_mul, ← Int.mul_sub, h, Int.mul_zero]
theorem repL_endY {l : List D} (n : Nat) (h : endY l = 0) : endY (repL l n) = 0 := by
  unfold endY at *
  rw [repL_count, repL_count, Int.natCast_mul, Int.natCast_mul, ← Int.mul_sub, h, Int.mul_zero]
theorem fold_app {α : Type} : ∀ (l : List (Array α)) (acc : Array α), (l.foldl (· ++ ·) acc).toList = acc.toList ++ (l.map Array.toList).flatten
  | [], acc => by simp
  | a :: r, acc => by rw [List.foldl_cons, fold_app r]; simp
theorem repS_tx (l : List D) (n : Nat) : repS (tx l) n = tx (repL l n) := by
  unfold repS tx repL
  congr 1
  apply Array.ext'
  rw [fold_app]
  simp [List.map_replicate]
def rRepL : R2 := fun x y H Q => ∃ (l : List D) (n : Nat), x = .str (tx l) ∧ y = .int (n : Nat) ∧ 1 ≤ n ∧ n ≤ 1000 ∧ 0 < l.length ∧ l.length ≤ 1000 ∧ Q (.str (tx (repL l n))) H
theorem op_repL {X : Cx} : OpR X (binaryOp .Mult) rRepL := by
  intro pins s σ H x y v u Q I rx ry h
  obtain ⟨l, n, ex, ey, h2, h3, h4, h5, q⟩ := h
  by_cases c : n = 1
  · subst c
    subst ex ey
    obtain ⟨t, rfl⟩ := rx
    obtain ⟨t', rfl⟩ := ry
    refine PySem.P.mul_str ?_ (fun _ z => ?_) (fun _ z => ?_) ?_
    · decide
    · exact absurd z (by simp)
    · exact absurd z (by simp)
    · rw [if_neg (by decide), if_pos (by simp)]
      have e : repL l 1 = l := by rw [repL_succ]; exact List.append_nil _
      rw [e] at q
      exact ⟨.str (tx l), H, I, ⟨t, rfl⟩, q⟩
  · refine op_repS pins s σ H x y v u Q I rx ry ⟨tx l, n, ex, ey, by omega, h3, by rw [tx_len]; exact h4, by rw [tx_len]; exact h5, ?_, ?_⟩
    · rw [repS_tx, tx_len, repL_len]
      have h9 : n * l.length ≤ 1000 * 1000 := Nat.mul_le_mul h3 h5
      have : 2000000 < sizeLine := by decide
      omega
    · rw [repS_tx]
      exact q
end Kk

end KkRepL_text
section K51Cn_text
set_option Elab.async false
set_option linter.all false
set_option maxRecDepth 100000
set_option maxHeartbeats 4000000
namespace K51
open PySem PySem.Spec PyProof.Rows L2 Kk SlX KQ LamX
section
variable {P : Program} {w : World} {K : PySem.W.Frag} {mg : Str → Option Value} {base : Heap}
/-! ### law -/
def sp_law (K : PySem.W.Frag) (Pt : Addr) : Sp2 := fun vs H Q => ∃ (a : Addr) (ns : List Int), vs = [.ref a] ∧ SqL K H a (ns.map V.int) ∧ ns.length ≤ sizeLine ∧ Tabs [(Pt, lamQ)] H ∧ ∀ H', Q (.bl true) H'
/-- what the kernel has checked -/
structure Plain : Prop where
  cases_ : ∀ s ∈ [4, 6, 8, 10], ∀ t ∈ ([0, 1, -1, 2] : List Int), CaseOK s t (tsOf s t)
  c1 : cntL 12 3 = 1
  c2 : cntL 12 (-3) = 1
  c3 : cntL 12 4 = 0
  c4 : cntL 8 (10 ^ 40) = 0
  l1 : linesL 12 3 = [[.E, .N, .W, .S, .E, .N, .W, .S, .E, .N, .W, .S]]
  g1 : ∀ l ∈ onL (4 * 3) (12 - 1) [] D.E 1 0 0, Good l
  n2 : cntL 6 3 ≤ 500
  l2 : linesL 6 3 = []
  g2 : ∀ l ∈ onL (4 * 3) (6 - 1) [] D.E 1 0 0, Good l
  n3 : cntL 4 (-1) ≤ 500
  l3 : linesL 4 (-1) = [[.E, .S, .W, .N]]
  g3 : ∀ l ∈ onL (4 * (-1)) (4 - 1) [] D.E 1 0 0, Good l
theorem pick5 {r : Int} (h0 : 0 ≤ r) (h5 : r < 5) : ∃ n ∈ [4, 6, 8, 10], atI ([.int 4, .int 6, .int 8, .int 8, .int 10] : List V) r = some (.int ((n : Nat) : Int)) := by
  have c : r = 0 ∨ r = 1 ∨ r = 2 ∨ r = 3 ∨ r = 4 := by omega
  rcases c with rfl | rfl | rfl | rfl | rfl
  · exact ⟨4, by decide, rfl⟩
  · exact ⟨6, by decide, rfl⟩
  · exact ⟨8, by decide, rfl⟩
  · exact ⟨8, by decide, rfl⟩
  · exact ⟨10, by decide, rfl⟩
theorem four_ten : ∀ n ∈ [4, 6, 8, 10], 4 ≤ n ∧ n ≤ 10 := by decide
theorem pick4 {r : Int} (h0 : 0 ≤ r) (h4 : r < 4) : ∃ t ∈ ([0, 1, -1, 2] : List Int), atI ([.int 0, .int 1, .int (-1), .int 2] : List V) r = some (.int t) := by
  have c : r = 0 ∨ r = 1 ∨ r = 2 ∨ r = 3 := by omega
  rcases c with rfl | rfl | rfl | rfl
  · exact ⟨0, by decide, rfl⟩
  · exact ⟨1, by decide, rfl⟩
  · exact ⟨-1, by decide, rfl⟩
  · exact ⟨2, by decide, rfl⟩
theorem tabs_keepD {H H' : Hp} {pm pc pg : Addr} {n : Nat} {T : List (Addr × Str)} (t : Tabs T H) (h : DrawSt H pm pc pg n) (k : KeepD pm pg H H') : Tabs T H' := by
  intro p hp
  obtain ⟨ps, h1, h2, h3⟩ := t p hp
  obtain ⟨gs, hg⟩ := h.g
  refine ⟨ps, k _ _ h1 (ne_of h1 h.m (fun z => by cases z)) (ne_of h1 hg (fun z => by cases z)), h2, fun pos cv hc => ?_⟩
  obtain ⟨c, e1, e2⟩ := h3 pos cv hc
  refine ⟨c, e1, k _ _ e2 (ne_of e2 h.m (fun z => ?_)) (ne_of e2 hg (fun z => ?_))⟩
  · unfold CodeO at z; cases z
  · unfold CodeO at z; cases z
theorem draw_kp {H H' : Hp} {pm pc pg : Addr} {n : Nat} (h : DrawSt H pm pc pg n) (k : KpT H H') : DrawSt H' pm pc pg n := by
  obtain ⟨cs, h1, h2⟩ := h.c
  obtain ⟨gs, h3⟩ := h.g
  exact ⟨k _ _ h.m (fun _ z => by cases z) (fun _ z => by cases z), ⟨cs, k _ _ h1 (fun _ z => by cases z) (fun _ z => by cases z), h2⟩, ⟨gs, k _ _ h3 (fun _ z => by cases z) (fun _ z => by cases z)⟩, h.ne⟩
theorem dp_strs {K : PySem.W.Frag} {H : Hp} : ∀ ls : List Str, DpAll K H (ls.map V.str) (ls.map PyData.str)
  | [] => .nil
  | i :: r => .cons (.str i) (dp_strs r)
theorem per_more (x : List D) (i : Nat) : ((List.range (i + 1)).filterMap fun i => if rot x (i + 1) = x then some (i + 1) else none) = ((List.range i).filterMap fun i => if rot x (i + 1) = x then some (i + 1) else none) ++ (if rot x (i + 1) = x then [i + 1] else []) := by
  rw [List.range_succ, List.filterMap_append]
  congr 1
  rw [List.filterMap_cons, List.filterMap_nil]
  split <;> rename_i z <;> split at z <;> rename_i c
  · cases z
  · rw [if_neg c]
  · rw [if_pos c]
    injection z with z
    rw [z]
  · cases z
abbrev four : TE := tLst (tCons (tC (V.int 0)) (tCons (tC (V.int 1)) (tCons (tUn (rU fun i => V.int (-i)) (tC (V.int 1))) (tCons (tC (V.int 2)) tNil))))
theorem turns_list {σ : L2.St} {H : Hp} {R : It → Hp → Prop} {pm pc pg : Addr} {n : Nat} (h1 : σ[1]? = some (some (V.ref pm))) (h2 : σ[2]? = some (some (V.int (n : Nat)))) (hS : DrawSt H pm pc pg 1)
    (q : ∀ (p : Addr) (H' : Hp) (tl : List Int) (n' : Nat), n' ≤ 2 → (∀ t ∈ tl, t ∈ ([0, 1, -1, 2] : List Int)) → H' p = some (.lst (tl.map V.int)) → KeepD pm pg H H' → DrawSt H' pm pc pg n' → R (Itl K p) H') :
    iList K (tIf (tTest (tOp (rI0 fun i j => V.bl (decide (i < j))) (tVar 2) (tC (V.int 10)))) four (tLst (tCons (tOp (rIxL K) four (tCall sp__law_draw [] E0 (tCons (tVar 1) (tCons (tC (V.int 4)) tNil)))) tNil))) σ H R := by
  refine ⟨_, h2, _, _, rfl, rfl, _, rfl, ?_⟩
  by_cases c : ((n : Nat) : Int) < 10
  · refine iteTb (decide_eq_true c) ⟨_, rfl, (by decide : 4 ≤ sizeLine), fun p np => ⟨p, rfl, ⟨_, SqL.of upd_same⟩, ?_⟩⟩
    exact q p _ [0, 1, -1, 2] 1 (by decide) (fun t h => h) upd_same (KeepD.of (same_upd np)) (hS.same (same_upd np))
  · refine iteFb (decide_eq_false c) ⟨_, rfl, (by decide : 4 ≤ sizeLine), fun p np => ?_⟩
    have a0 := same_upd (o := .lst [.int 0, .int 1, .int (-1), .int 2]) np
    have e0 := upd_same (H := H) (a := p) (o := .lst [.int 0, .int 1, .int (-1), .int 2])
    have pa := hS.apart np
    show tCall _ _ _ _ σ (upd H p (.lst [.int 0, .int 1, .int (-1), .int 2])) _
    generalize upd H p (.lst [.int 0, .int 1, .int (-1), .int 2]) = H1 at a0 e0
    refine ⟨_, h1, pm, pc, pg, 1, 4, rfl, hS.same a0, by decide, by decide, by decide, fun r H2 r0 r4 hS2 k2 => ?_⟩
    obtain ⟨t, ht, hat⟩ := pick4 r0 r4
    refine ⟨p, _, r, _, rfl, rfl, SqL.of (k2 _ _ e0 pa.1 pa.2), hat, (by decide : 1 ≤ sizeLine), fun p2 np2 => ⟨p2, rfl, ⟨_, SqL.of upd_same⟩, ?_⟩⟩
    exact q p2 _ [t] 2 (by decide) (fun u h => by rw [List.mem_singleton.mp h]; exact ht) upd_same (((KeepD.of a0).trans k2).trans (KeepD.of (same_upd np2))) (hS2.same (same_upd np2))
theorem lines_comp (T : Tx K mg) {σ : L2.St} {H : Hp} {Q : VK} {ta : TA} {n : Nat} {t : Int} {ls : List (List D)} (hta : ∀ Q : List V → Hp → Prop, Q [.int (n : Nat), .int t] H → ta σ H Q) (h4 : 4 ≤ n) (h12 : n ≤ 12) (ev : n % 2 = 0) (few : cntL n t ≤ 500) (good : t.natAbs ≤ n → ∀ l ∈ onL (4 * t) (n - 1) [] D.E 1 0 0, Good l) (hl : linesL n t = ls) (hs : ls.length ≤ 500)
    (h9 : (wipe σ [9]).length = 10) (q : ∀ (D : Addr) (H' : Hp), H' D = some (.lst ((ls.map tx).map V.str)) → Q (.ref D) H') : tLcM (mCall (sp_lines_of K) [] ta) (gName 9) (SlX.tSl K (tVar 9) "strokes") [9] σ H Q := by
  refine hta _ ⟨_, _, ⟨n, t, rfl, h4, h12, ev, few, good, rfl, rfl⟩, ?_⟩
  rw [hl]
  refine ⟨by rw [List.length_map]; exact Nat.le_trans hs (by decide), fun j ys _ => ys = ((ls.take j).map tx).map V.str, rfl, ?_⟩
  rintro j ys H1 rfl H2 _
  refine ⟨fun ej _ D hD => ?_, fun it y hit hy => ?_⟩
  · refine q D _ ?_
    rw [ej, List.length_map, List.take_length]
    exact upd_same
  · rw [List.getElem?_map] at hit
    obtain ⟨l, hl, ez⟩ := Option.map_eq_some_iff.mp hit
    subst ez
    obtain ⟨a, rfl, hL⟩ := hy
    obtain ⟨dx, hs⟩ := hL.slt
    refine ⟨_, List.getElem?_set_self (by rw [h9]; decide), a, _, dx, _, _, 0, _, rfl, hs, T.L_cls, T.L_slot, rfl, Same.refl H2, ?_⟩
    show (((ls.take j).map tx).map V.str) ++ [V.str (tx l)] = ((ls.take (j + 1)).map tx).map V.str
    rw [take_more hl, List.map_append, List.map_append]
    rfl
abbrev N_law : List Str := ["_law_script", "_law_m", "_law_strokes", "_law_texts", "_law_turns_here", "_law_again", "_law_text_here", "_law_due", "_law_k", "_law_line"]
abbrev P_law : List Str := ["_law_script"]
theorem sc_law : FnScope N_law P_law (defScope s_law) := ⟨rfl, rfl, rfl, by decide +kernel, rfl, by decide +kernel, by decide +kernel⟩
theorem d_law (T : Tx K mg) (Z : Plain) {Pt f : Addr} {fd : FuncData} {cd : Value} (hfd : fd.code = cd) (FL : FunD K "law" "law" (defArgs s_law) (defBody s_law) (defScope s_law) [] [] f fd) (G__law_lists_right : Df2 P w K mg base 80 "_law_lists_right" P__law_lists_right (sp__law_lists_right K Pt)) : Fn2 P w K mg base 90 f fd P_law (sp_law K Pt) := by
  have G__law_begun := d__law_begun (P := P) (w := w) (base := base) T
  have G__law_draw := d__law_draw (P := P) (w := w) (base := base) T
  have G__law_loops := d__law_loops (P := P) (w := w) (base := base) T
  have G__law_turns := d__law_turns (P := P) (w := w) (base := base) T
  have G__law_text := d__law_text (P := P) (w := w) (base := base) T
  have G__law_like := d__law_like (P := P) (w := w) (base := base) T
  have G_period := d_period (P := P) (w := w) (base := base) T
  have G_Line := m_init (P := P) (w := w) (base := base) T
  have G_lines_of := m_lines_of (P := P) (w := w) (base := base) T
  have G_count_lines := d_count_lines (P := P) (w := w) (base := base) T
  refine fn2_ofD FL hfd sc_law (fun vs H Q h => ?_) (fun A outer s H vs Q hr hg h => ?_)
  · obtain ⟨a, ns, rfl, _⟩ := h
    rfl
  · obtain ⟨a, ns, rfl, hs, hlen, hT0, q⟩ := h
    refine ⟨_, (pss2_cons (ps2_of nox_of (ps_set (i := 1) sc_law.nd rfl (Or.inl rfl) (pe_df G__law_begun (hr.mono (by decide)) (pa_cons (pv 0) pa_nil))))
      (pss2_cons (ps2_of nox_of (ps_set (i := 2) sc_law.nd rfl (Or.inl rfl) (pe_ix (ix_listK (K := K) rfl) (pe_lst (pa_cons pe_int (pa_cons pe_int (pa_cons pe_int (pa_cons pe_int (pa_cons pe_int pa_nil)))))) (pe_df G__law_draw (hr.mono (by decide)) (pa_cons (pv 1) (pa_cons pe_int pa_nil))) (fun _ _ => rfl))))
      (pss2_cons (ps2_of nox_of (ps_set (i := 3) sc_law.nd rfl (Or.inl rfl) (pe_df G__law_loops (hr.mono (by decide)) (pa_cons (pv 2) pa_nil))))
      (pss2_cons (ps2_for nox_of rfl (pi_list (pe_ifExp (pt_cmpR op_lt (pv 2) pe_int (nomark _)) (pe_lst (pa_cons pe_int (pa_cons pe_int (pa_cons (pe_un un_neg pe_int) (pa_cons pe_int pa_nil))))) (pe_lst (pa_cons (pe_ix (ix_listK (K := K) rfl) (pe_lst (pa_cons pe_int (pa_cons pe_int (pa_cons (pe_un un_neg pe_int) (pa_cons pe_int pa_nil))))) (pe_df G__law_draw (hr.mono (by decide)) (pa_cons (pv 1) (pa_cons pe_int pa_nil))) (fun _ _ => rfl)) pa_nil)))) (pg_name (i := 4) sc_law.nd rfl (Or.inr rfl)) (pss2_one (ps2_if (pt2_not (pt2_val (pe2_df G__law_lists_right (hr.mono (by decide)) hg (pa2_of nox_of (pa_cons (pv 2) (pa_cons (pv 4) (pa_cons (pe_lc (own := [("_law_text_here", 6)]) (g := gName 6) rfl sc_law.nd (pi_list (pv 3)) (blkOk_by (N := N_law) (sc := defScope s_law) (by decide +kernel)) (fun _ _ _ _ _ => (pg_name (i := 6) sc_law.nd rfl (Or.inl rfl))) (fun _ _ _ _ _ => pts_one (pt_cmpR op_eq (pe_df G__law_turns (hr.mono (by decide)) (pa_cons (pv 6) pa_nil)) (pv 4) (nomark _))) (fun _ _ _ _ _ => (pv 6))) pa_nil))))))) (pss2_one (ps2_ret (pe2_of nox_of pe_bl))) pss2_nil)))
      (pss2_cons (ps2_for nox_of rfl (pi_range1 (by rfl) T.n_range (pa_cons pe_int pa_nil)) (pg_name (i := 5) sc_law.nd rfl (Or.inl rfl)) (pss2_cons (ps2_of nox_of (ps_set (i := 6) sc_law.nd rfl (Or.inr rfl) (pe_op op_repL (pe_df G__law_text (hr.mono (by decide)) (pa_cons (pv 1) (pa_cons pe_int (pa_cons pe_int pa_nil)))) (pe_op op_add pe_int (pe_df G__law_draw (hr.mono (by decide)) (pa_cons (pv 1) (pa_cons pe_int pa_nil)))))))
      (pss2_cons (ps2_of nox_of (ps_set (i := 7) sc_law.nd rfl (Or.inl rfl) (pe_ix (ix_listK (K := K) rfl) (pe_lc (own := [("_law_k", 8)]) (g := gName 8) rfl sc_law.nd (pi_range2 (by rfl) T.n_range (pa_cons pe_int (pa_cons (pe_op op_add (pe_callB call_len_str (by rfl) T.n_len (by decide +kernel) (pa_cons (pv 6) pa_nil)) pe_int) pa_nil))) (blkOk_by (N := N_law) (sc := defScope s_law) (by decide +kernel)) (fun _ _ _ _ _ => (pg_name (i := 8) sc_law.nd rfl (Or.inl rfl))) (fun _ _ _ _ _ => pts_one (pt_cmpR op_eq (pe_op op_add_str (pe_slice sl_str (pv 6) (po_some (pv 8)) po_none) (pe_slice sl_str (pv 6) po_none (po_some (pv 8)))) (pv 6) (nomark _))) (fun _ _ _ _ _ => (pv 8))) pe_int (fun _ _ => rfl))))
      (pss2_one (ps2_if (pt2_not (pt2_val (pe2_df G__law_like (hr.mono (by decide)) hg (pa2_of nox_of (pa_cons (pe_df G_period (hr.mono (by decide)) (pa_cons (pe_line T G_Line (hr.mono (by decide)) (pv 6)) pa_nil)) (pa_cons (pv 7) pa_nil)))))) (pss2_one (ps2_ret (pe2_of nox_of pe_bl))) pss2_nil)))))
      (pss2_cons (ps2_if (PW2.pt (pw2_or (pt2_cmpR nox_of (op_neD hr.units) (pe2_lc (k := 60) (own := [("_law_line", 9)]) (g := gName 9) nox_of rfl hr.hd (hr.mono (by decide)) sc_law.nd (blkOk_by (N := N_law) (sc := defScope s_law) (by decide +kernel)) (by decide +kernel) (pm_df G_lines_of (hr.mono (by decide)) (pa_cons pe_int (pa_cons pe_int pa_nil))) (fun _ _ _ _ _ => (pg_name (i := 9) sc_law.nd rfl (Or.inl rfl))) (fun _ _ _ _ _ => (pe_slK (K := K) rfl (pv 9)))) (pe2_of nox_of (pe_lst (pa_cons (pe_op op_repL pe_str pe_int) pa_nil))) (nomark _)) (pw2_or1 (pt2_cmpR nox_of (op_neD hr.units) (pe2_list (k := 60) nox_of rfl (pm_df G_lines_of (hr.mono (by decide)) (pa_cons pe_int (pa_cons pe_int pa_nil))) (hr.mono (by decide)) (by rfl) T.n_list (by decide +kernel)) (pe2_of nox_of (pe_lst pa_nil)) (nomark _))))) (pss2_one (ps2_ret (pe2_of nox_of pe_bl))) pss2_nil)
      (pss2_cons (ps2_of nox_of (ps_if (pt_cmpR (op_neD hr.units) (pe_lst (pa_cons (pe_df G_count_lines (hr.mono (by decide)) (pa_cons pe_int (pa_cons pe_int pa_nil))) (pa_cons (pe_df G_count_lines (hr.mono (by decide)) (pa_cons pe_int (pa_cons (pe_un un_neg pe_int) pa_nil))) (pa_cons (pe_df G_count_lines (hr.mono (by decide)) (pa_cons pe_int (pa_cons pe_int pa_nil))) pa_nil)))) (pe_lst (pa_cons pe_int (pa_cons pe_int (pa_cons pe_int pa_nil)))) (nomark _))
      (pss_one (ps_ret pe_bl))
      pss_nil))
      (pss2_one (ps2_ret (pe2_and (pe2_of nox_of (pe_cmpR op_eq (pe_df G_count_lines (hr.mono (by decide)) (pa_cons pe_int (pa_cons (pe_op op_pow pe_int pe_int) pa_nil))) pe_int (nomark _))) (pe2_one (pe2_cmpR nox_of (op_eqD hr.units) (pe2_lc (k := 60) (own := [("_law_line", 9)]) (g := gName 9) nox_of rfl hr.hd (hr.mono (by decide)) sc_law.nd (blkOk_by (N := N_law) (sc := defScope s_law) (by decide +kernel)) (by decide +kernel) (pm_df G_lines_of (hr.mono (by decide)) (pa_cons pe_int (pa_cons (pe_un un_neg pe_int) pa_nil))) (fun _ _ _ _ _ => (pg_name (i := 9) sc_law.nd rfl (Or.inl rfl))) (fun _ _ _ _ _ => (pe_slK (K := K) rfl (pv 9)))) (pe2_of nox_of (pe_lst (pa_cons pe_str pa_nil))) (nomark _))))))))))))), ?_⟩
    refine ⟨_, rfl, a, ns, rfl, hs, hlen, fun pm pc pg H1 s1 hS1 npm npg => ?_⟩
    have hT1 := hT0.ext s1
    -- the strokes
    refine ⟨(by decide : 5 ≤ sizeLine), fun p0 n0 => ?_⟩
    have a0 := same_upd (o := .lst [.int 4, .int 6, .int 8, .int 8, .int 10]) n0
    have e0 := upd_same (H := H1) (a := p0) (o := .lst [.int 4, .int 6, .int 8, .int 8, .int 10])
    have p0a := hS1.apart n0
    generalize upd H1 p0 (.lst [.int 4, .int 6, .int 8, .int 8, .int 10]) = H2 at a0 e0
    have hT2 := hT1.ext a0
    have hS2 := hS1.same a0
    refine ⟨_, rfl, pm, pc, pg, 0, 5, rfl, hS2, by decide, by decide, by decide, fun r H3 r0 r5 hS3 k3 => ?_⟩
    have hT3 := tabs_keepD hT2 hS2 k3
    obtain ⟨n, hn, hat⟩ := pick5 r0 r5
    obtain ⟨n4, n10⟩ := four_ten n hn
    refine ⟨p0, _, r, _, rfl, rfl, SqL.of (k3 _ _ e0 p0a.1 p0a.2), hat, ?_⟩
    -- the loops
    refine ⟨_, rfl, n, rfl, n4, n10, fun p3 H4 np3 s4 e4 => ?_⟩
    have hT4 := hT3.ext s4
    have hS4 := hS3.same s4
    have p3a := hS3.apart np3
    dsimp only [gName]
    refine show tSeq (tFor _ _ _) _ _ _ _ from ?_
    show tFor _ _ _ _ _ _
    unfold tFor
    refine turns_list (K := K) (pm := pm) (pc := pc) (pg := pg) (n := n) (by rfl) (by rfl) hS4 fun p5 H5 tl n5 hn5 htl e5 k5 hS5 => ?_
    have hT5 := tabs_keepD hT4 hS4 k5
    have e35 : H5 p3 = _ := k5 _ _ e4 p3a.1 p3a.2
    refine for_list (K := K) (a := p5) (xs := tl.map V.int) (fun i σ H' => ∃ v4 v6, σ = [some (.ref a), some (.ref pm), some (.int (n : Nat)), some (.ref p3), v4, none, v6, none, none, none] ∧ KpT H5 H' ∧ Tabs [(Pt, lamQ)] H') ⟨_, _, rfl, KpT.refl, hT5⟩ (fun i σ H' _ ⟨_, _, _, kp, _⟩ => SqL.of (kp _ _ e5 (fun _ z => by cases z) (fun _ z => by cases z))) ?_ ?_
    · rintro i z σ H6 hz ⟨v4, v6, rfl, kp, hT6⟩
      rw [List.getElem?_map] at hz
      obtain ⟨t, ht, ez⟩ := Option.map_eq_some_iff.mp hz
      subst ez
      have e36 : H6 p3 = _ := kp _ _ e35 (fun _ z => by cases z) (fun _ z => by cases z)
      refine ⟨_, rfl, _, rfl, _, rfl, p3, rfl, ⟨_, SqL.of e36⟩, fun D nD => walk_list (K := K) (a := p3) ((loopsL n).map fun l => V.str (tx l)) (fun j H' => Grow H6 D ((((loopsL n).take j).filter fun l => decide (lturns l = t)).map fun l => V.str (tx l)) H') (Grow.start nD) (fun j H' _ g => SqL.of (g.same _ _ e36)) ?_ ?_⟩
      · rintro j z H7 hz g
        rw [List.getElem?_map] at hz
        obtain ⟨l, hl, ez⟩ := Option.map_eq_some_iff.mp hz
        subst ez
        have ll := loops_len n4 l (List.mem_of_getElem? hl)
        refine ⟨rfl, _, rfl, l, rfl, by omega, fun H8 s8 => ⟨_, rfl, rfl, _, rfl, ?_⟩⟩
        have g8 := g.more s8
        rw [take_more hl, List.filter_append, List.map_append]
        by_cases c0 : lturns l = t
        · refine iteTb (decide_eq_true (by rw [c0])) ?_
          have ef : [l].filter (fun l => decide (lturns l = t)) = [l] := by rw [List.filter_cons, if_pos (decide_eq_true c0), List.filter_nil]
          rw [ef]
          refine ⟨_, rfl, _, g8.lst, ?_, g8.push⟩
          rw [List.length_map]
          have f1 := List.length_filter_le (fun l => decide (lturns l = t)) ((loopsL n).take j)
          have f2 := List.length_take_le' j (loopsL n)
          have f3 := loops_few n4 n10
          have : 2000000 < sizeLine := by decide
          omega
        · refine iteFb (decide_eq_false fun z => c0 (by injection z)) ?_
          have ef : [l].filter (fun l => decide (lturns l = t)) = [] := by rw [List.filter_cons, if_neg (fun z => c0 (of_decide_eq_true z)), List.filter_nil]
          rw [ef, List.map_nil, List.append_nil]
          exact g8
      · intro H7 g
        rw [List.length_map, List.take_length] at g
        refine ⟨n, t, D, tsOf n t, rfl, SqL.of g.lst, Z.cases_ n hn t (htl t (List.mem_of_getElem? ht)), hT6.ext g.same, fun H8 kp8 hT8 => ?_⟩
        exact ⟨_, rfl, iteF ⟨_, _, rfl, kp.trans ((KpT.of g.same).trans kp8), hT8⟩⟩
    rintro σ H6 ⟨v4, v6, rfl, kp, hT6⟩
    have hS6 := draw_kp hS5 kp
    -- the periods
    refine ⟨_, rfl, by decide, by decide, ?_⟩
    refine for_range (lo := 0) (n := 6) (fun i σ H' => ∃ n' v5 v6 v7, σ = [some (.ref a), some (.ref pm), some (.int (n : Nat)), some (.ref p3), v4, v5, v6, v7, none, none] ∧ n' ≤ 2 + 61 * i ∧ DrawSt H' pm pc pg n') ⟨n5, _, _, _, rfl, by omega, hS6⟩ ?_ ?_
    · rintro i σ H7 hi ⟨n', v5, v6, v7, rfl, hn', hS7⟩
      refine ⟨_, rfl, pm, pc, pg, n', rfl, hS7, by omega, fun l n2 H8 hl l20 hS8 hn2 k8 => ⟨_, rfl, pm, pc, pg, n2, 4, rfl, hS8, by omega, by decide, by decide, fun r H9 r0 r4 hS9 k9 => ?_⟩⟩
      obtain ⟨k, rfl⟩ : ∃ k : Nat, r = k := ⟨r.toNat, by omega⟩
      have l3 := isLoop_len hl
      have ek : (1 : Int) + ((k : Nat) : Int) = ((k + 1 : Nat) : Int) := by omega
      have xl : (repL l (k + 1)).length ≤ 80 := by
        rw [repL_len]
        exact Nat.le_trans (Nat.mul_le_mul (show k + 1 ≤ 4 by omega) l20) (by decide)
      have x1 : 4 ≤ (repL l (k + 1)).length := by
        rw [repL_len]
        exact Nat.le_trans l3 (Nat.le_mul_of_pos_left _ (by omega))
      have gx : Good (repL l (k + 1)) := by
        obtain ⟨_, g2⟩ := isLoop_good hl (by omega)
        have g := isLoop_good hl (by omega)
        exact ⟨fun z => by rw [z] at x1; exact absurd x1 (by decide), xl, repL_nokink (by omega) g.kink, repL_endX _ g.x, repL_endY _ g.y⟩
      refine ⟨_, _, rfl, rfl, l, k + 1, rfl, congrArg V.int ek, by omega, by omega, by omega, by omega, ?_⟩
      generalize repL l (k + 1) = x at xl x1 gx
      obtain ⟨p, hp, ple⟩ := pers_some (l := x) (by omega)
      have hz : (tx x).length ≤ sizeLine := by rw [tx_len]; exact Nat.le_of_lt (small1000 (by omega))
      have plen : ∀ n, ((List.range n).filterMap fun i => if rot x (i + 1) = x then some (i + 1) else none).length ≤ n := fun n => Nat.le_trans (List.length_filterMap_le _ _) (by rw [List.length_range]; exact Nat.le_refl _)
      have hc : ∀ k : Nat, (tx (x.drop k)).length + (tx (x.take k)).length ≤ sizeLine := fun k => by
        rw [tx_len, tx_len, List.length_drop, List.length_take]
        exact Nat.le_of_lt (small1000 (by omega))
      have xn : (((tx x).length : Int) + 1 - 1).toNat = x.length := by rw [tx_len]; omega
      refine ⟨_, rfl, _, rfl, hz, _, _, rfl, rfl, _, _, rfl, ⟨by decide, by decide, by rw [tx_len]; omega, by rw [tx_len]; omega⟩, fun dd nD => walk_rng (fun i H' => Grow H9 dd (((List.range i).filterMap fun i => if rot x (i + 1) = x then some (i + 1) else none).map fun m => V.int ((m : Nat) : Int)) H') (Grow.start nD) ?_ ?_⟩
      · intro i H' hi g
        have hi' : i < x.length := by omega
        have e2 : (1 : Int) + ((i : Nat) : Int) = ((i + 1 : Nat) : Int) := by omega
        rw [e2]
        refine ⟨rfl, _, rfl, _, rfl, _, rfl, _, rfl, hz, _, rfl, _, rfl, _, rfl, _, rfl, hz, _, _, rfl, rfl, ?_, ?_⟩
        · rw [cut_from, cut_to]
          exact hc _
        rw [cut_from, cut_to, tx_app']
        refine ⟨_, rfl, rfl, _, rfl, ?_⟩
        show if decide (V.str (tx (rot x (i + 1))) = V.str (tx x)) = true then _ else _
        rw [tx_dec]
        have up := per_more x i
        by_cases c : rot x (i + 1) = x
        · refine iteTb (decide_eq_true c) ?_
          rw [if_pos c] at up
          refine ⟨_, rfl, _, g.lst, ?_, ?_⟩
          · rw [List.length_map]
            exact small1000 (Nat.le_trans (plen i) (by omega))
          · rw [up, List.map_append]
            exact g.push
        · refine iteFb (decide_eq_false c) ?_
          rw [if_neg c, List.append_nil] at up
          rw [up]
          exact g
      intro H10 g
      rw [xn] at g
      refine ⟨dd, _, _, .int (p : Nat), rfl, rfl, SqL.of g.lst, ?_, ?_⟩
      · have z : ((pers x).map fun m => V.int ((m : Nat) : Int))[0]? = some (.int (p : Nat)) := by rw [List.getElem?_map, hp]; rfl
        exact atI_nat z
      dsimp only [gName, tIfS, tNot, tB, tCall2, tCons, tCall]
      refine mk_lineV (i := 6) rfl gx fun y H11 ny s11 hL => ?_
      refine ⟨y, norm x, p, rfl, hL, by rw [norm_len]; omega, by rw [pers_norm (by omega)]; exact hp, fun H12 s12 => ?_⟩
      refine ⟨_, rfl, .inl ⟨((p : Nat) : Int), rfl, ?_⟩, ?_⟩
      · rw [Int.natAbs_natCast]
        exact Nat.lt_of_le_of_lt (Nat.log2_le_self _) (by omega)
      · exact ⟨_, rfl, iteF ⟨n2 + 1, _, _, _, rfl, by omega, hS9.same (g.same.trans (s11.trans s12))⟩⟩
    rintro σ H7 ⟨n', v5, v6, v7, rfl, hn', hS7⟩
    -- single lines
    dsimp only [tSeq, tIfS, tOr, tTest, tOp]
    refine lines_comp T (n := 12) (t := 3) (ls := [[.E, .N, .W, .S, .E, .N, .W, .S, .E, .N, .W, .S]]) (fun Q h => h) (by decide) (by decide) (by decide) (by rw [Z.c1]; decide) (fun _ => Z.g1) Z.l1 (by decide) (by rfl) fun D1 H8 e8 => ?_
    refine ⟨[.E, .N, .W, .S], 3, congrArg V.str lENWS, rfl, by decide, by decide, by decide, by decide, (by decide : 1 ≤ sizeLine), fun p8 np8 => ?_⟩
    refine ⟨_, _, .lst (SqL.of (same_upd np8 _ _ e8)) (dp_strs _), .lst (SqL.of upd_same) (dp_strs [tx (repL [.E, .N, .W, .S] 3)]), by decide +kernel, by decide +kernel, _, rfl, iteFb (by decide +kernel) ?_⟩
    refine ⟨_, _, ⟨6, 3, rfl, by decide, by decide, by decide, Z.n2, fun _ => Z.g2, rfl, rfl⟩, by rw [Z.l2]; exact Nat.zero_le _, by rw [Z.l2]; exact fun it h => (by cases h), fun ys H9 s9 _ ho p9 np9 => ?_⟩
    have ey : ys = [] := by
      have z := outs_len ho
      rw [Z.l2] at z
      exact List.length_eq_zero_iff.mp z
    subst ey
    refine ⟨Nat.zero_le _, fun p10 np10 => ⟨_, _, .lst (SqL.of (same_upd np10 _ _ upd_same)) .nil, .lst (SqL.of upd_same) .nil, rfl, rfl, _, rfl, iteF ?_⟩⟩
    refine ⟨12, 3, rfl, by decide, by decide, by decide, fun H11 s11 => ⟨_, rfl, 12, -3, rfl, by decide, by decide, by decide, fun H12 s12 => ⟨12, 4, rfl, by decide, by decide, by decide, fun H13 s13 => ?_⟩⟩⟩
    rw [Z.c1, Z.c2, Z.c3]
    refine ⟨(by decide : 3 ≤ sizeLine), fun p11 np11 => ⟨(by decide : 3 ≤ sizeLine), fun p12 np12 => ?_⟩⟩
    refine ⟨_, _, .lst (SqL.of (same_upd np12 _ _ upd_same)) (dp_ints [1, 1, 0]), .lst (SqL.of upd_same) (dp_ints [1, 1, 0]), rfl, rfl, _, rfl, iteF ?_⟩
    refine ⟨_, _, rfl, rfl, ⟨by decide, by decide, by decide⟩, 8, 10 ^ 40, rfl, by decide, by decide, by decide, fun H14 s14 => ⟨rfl, ?_⟩⟩
    rw [Z.c4]
    refine ⟨_, rfl, iteT ?_⟩
    dsimp only [tOp]
    refine lines_comp T (n := 4) (t := -1) (ls := [[.E, .S, .W, .N]]) (fun Q h => ⟨_, rfl, h⟩) (by decide) (by decide) (by decide) Z.n3 (fun _ => Z.g3) Z.l3 (by decide) (by rfl) fun D2 H15 e15 => ?_
    refine ⟨(by decide : 1 ≤ sizeLine), fun p15 np15 => ?_⟩
    refine ⟨_, _, .lst (SqL.of (same_upd np15 _ _ e15)) (dp_strs _), .lst (SqL.of upd_same) (dp_strs ["ESWN"]), by decide +kernel, by decide +kernel, ?_⟩
    have ee : PyData.eqv (.list (([[.E, .S, .W, .N]] : List (List D)).map fun l => PyData.str (tx l))) (.list [PyData.str "ESWN"]) = true := by decide +kernel
    exact (congrArg (fun b => Q (V.bl b) _) ee).mpr (q _)
end
end K51

end K51Cn_text
section K51Cr_text
set_option Elab.async false
set_option linter.all false
set_option maxRecDepth 100000
set_option maxHeartbeats 4000000
namespace K51
open PySem PySem.Spec PyProof.Rows L2 Kk SlX KQ LamX
theorem all_good {on : List (List D)} (h : on.all goodB = true) : ∀ l ∈ on, Good l := fun l hl => goodB_ok (List.all_eq_true.mp h l hl)
theorem plain : Plain where
  cases_ := by
    intro s hs t ht
    simp only [List.mem_cons, List.not_mem_nil, or_false] at hs ht
    rcases hs with rfl | rfl | rfl | rfl <;> rcases ht with rfl | rfl | rfl | rfl
    · exact case4_0
    · exact case4_1
    · exact case4_m1
    · exact case4_2
    · exact case6_0
    · exact case6_1
    · exact case6_m1
    · exact case6_2
    · exact case8_0
    · exact case8_1
    · exact case8_m1
    · exact case8_2
    · exact case10_0
    · exact case10_1
    · exact case10_m1
    · exact case10_2
  c1 := by decide +kernel
  c2 := by decide +kernel
  c3 := by decide +kernel
  c4 := by decide +kernel
  l1 := by decide +kernel
  g1 := all_good (by decide +kernel)
  n2 := by decide +kernel
  l2 := by decide +kernel
  g2 := all_good (by decide +kernel)
  n3 := by decide +kernel
  l3 := by decide +kernel
  g3 := all_good (by decide +kernel)
end K51

end K51Cr_text
section KqReal_text
set_option Elab.async false
set_option linter.all false
set_option maxRecDepth 100000
set_option maxHeartbeats 8000000
/-! What runs to its end in M2, with no marked generator asleep there, runs likewise in the given machine under its scheduler -/
namespace KQ
open PySem
open Sem (wp)
/-! ### the machine's step at a guarded yield over a generator -/
section
variable {prog : Program} {w : World} {s : Shared} {v : Value} {l : List Value} {k : Resume → Sem PySem.Fin} {code : Code} {pos : Pos} {stack : List Frame}
theorem yf_shape {c : Code} {d : Addr} (h : yfAt c = some d) : ∃ rest kw, c = .builtin "proto.yield_from" ⟨.ref d :: rest, kw⟩ := by
  unfold yfAt at h
  split at h
  · rename_i id d' rest kw
    split at h
    · rename_i e
      rw [e, Option.some.inj h]
      exact ⟨_, _, rfl⟩
    · cases h
  · cases h
theorem life_yield {den : Code → Sem PySem.Fin} {others : List Value} {d : Addr} {a : List Frame} {b : Nat × (GenResult → Sem PySem.Fin) × Code × Pos} {r : List Frame} (hz : s.asleep) (hc : yfAt code = some d) (hd : isGen (s.heap.get? d) = true)
    (hs : splitAtGen stack = some (a, b, r)) (ha : a.any Frame.guarded = false) :
    lifeStep den prog w others s ⟨.yield v true l k, code, pos, stack⟩ = step den prog w s ⟨.yield v true l k, code, pos, stack⟩ := by
  obtain ⟨hr, hcn⟩ := hz
  obtain ⟨rest, kw, rfl⟩ := yf_shape hc
  have hsp : Thread.special ⟨.yield v true l k, .builtin "proto.yield_from" ⟨.ref d :: rest, kw⟩, pos, stack⟩ = true := by
    simp [Thread.special, Thread.yieldsInsideHandler]
  have hsh : closingShows s a (.builtin "proto.yield_from" ⟨.ref d :: rest, kw⟩) true = false := by
    have hdS : delegateShows s (.ref d) = false := by
      unfold delegateShows
      dsimp only
      cases q : s.heap.get? d with
      | none => rfl
      | some o =>
        rw [q] at hd
        have hd : o.genNumber?.isSome = true := hd
        dsimp only
        cases q2 : o.genNumber? with
        | none => rw [q2] at hd; cases hd
        | some g =>
          dsimp only
          rw [hr]
          rfl
    unfold closingShows
    rw [ha]
    show (false || (true && delegateShows s (.ref d))) = false
    rw [hdS]
    rfl
  unfold lifeStep
  rw [if_pos hsp]
  dsimp only
  have hct : collectorTurn? w.params others s ⟨.yield v true l k, .builtin "proto.yield_from" ⟨.ref d :: rest, kw⟩, pos, stack⟩ = none := by
    unfold collectorTurn?
    rfl
  rw [hct]
  dsimp only
  rw [hs]
  dsimp only
  simp only [hsh, Bool.false_and, Bool.false_eq_true, if_false]
  have he : Thread.atItsEnd ⟨.yield v true l k, .builtin "proto.yield_from" ⟨.ref d :: rest, kw⟩, pos, stack⟩ = false := rfl
  simp only [he, Bool.false_eq_true, if_false]
  unfold stepCounting
  simp [hcn]
theorem sched_yield {d : Addr} {a : List Frame} {b : Nat × (GenResult → Sem PySem.Fin) × Code × Pos} {r : List Frame} (hz : s.asleep) (hc : yfAt code = some d) (hd : isGen (s.heap.get? d) = true)
    (hs : splitAtGen stack = some (a, b, r)) (ha : a.any Frame.guarded = false) :
    sstep (denote table) prog w (.single s ⟨.yield v true l k, code, pos, stack⟩) = (step (denote table) prog w s ⟨.yield v true l k, code, pos, stack⟩).lift := by
  have h1 : (Config.single s ⟨.yield v true l k, code, pos, stack⟩).collect? w.params = none := by
    simp [Config.collect?, Config.single, (nothing_to_collect _ _ _ s _ hz.1).1]
  have h2 : (Config.single s ⟨.yield v true l k, code, pos, stack⟩).collectable = [] := by
    simp [Config.collectable, Config.single, (nothing_to_collect w.params _ _ s _ hz.1).2]
  have h3 : (Config.single s ⟨.yield v true l k, code, pos, stack⟩).moves w.params.profile = [.run 0] := by
    simp [Config.moves, Config.single, movesFrom, Thread.moves, Thread.atomic, Thread.rests, Thread.tells]
  have h4 : (Config.single s ⟨.yield v true l k, code, pos, stack⟩).pick w = .ok (.run 0, .single s ⟨.yield v true l k, code, pos, stack⟩) := by
    simp only [Config.pick, h1, h2, Config.pickThread, h3]
    cases w.params.lifetimes <;> simp
  have h5 : (Config.single s ⟨.yield v true l k, code, pos, stack⟩).run (denote table) prog w 0 = (step (denote table) prog w s ⟨.yield v true l k, code, pos, stack⟩).lift := by
    have hl := fun others => life_yield (prog := prog) (w := w) (den := denote table) (others := others) (v := v) (l := l) (k := k) (pos := pos) hz hc hd hs ha
    simp only [Config.run, Config.single]
    simp [hl, others_single, frozenBadly, ThreadState.insideWrite, Thread.finalizes, Shared.entering]
    cases step (denote table) prog w s ⟨.yield v true l k, code, pos, stack⟩ <;> simp [Step.lift, Config.single]
  simp only [sstep, h4, Config.move, h5]
end
end KQ

end KqReal_text
section KqSim_text
set_option Elab.async false
set_option linter.all false
set_option maxRecDepth 100000
set_option maxHeartbeats 8000000
/-! The given machine goes along with M2 -/
namespace KQ
open PySem
open Sem (wp)
/-- a generator here, in M2 -/
def SG : GenState → GenState → Prop
  | .suspended k l c p fs cl, y => ∃ l2, y = .suspended (fun r => vw c (k r)) l2 c p (fs.map vF) false ∧ (cl = true → (yfAt c).isSome = true ∧ l2 ≠ [])
  | x, y => y = x
theorem SG.seen {x y : GenState} (h : SG x y) : y.seen = x.seen := by
  cases x with
  | suspended k l c p fs cl =>
    obtain ⟨l2, rfl, _⟩ := h
    show (GenStatus.suspended, some ((c, p) :: (fs.map vF).map Frame.where_)) = _
    rw [map_where]
    rfl
  | _ =>
    obtain rfl : _ = _ := h
    rfl
structure GR (a b : Array GenState) : Prop where
  size : b.size = a.size
  at_ : ∀ (i : Nat) (x : GenState), a[i]? = some x → ∃ y, b[i]? = some y ∧ SG x y
theorem GR.none {a b : Array GenState} (h : GR a b) {i : Nat} (e : a[i]? = none) : b[i]? = none := by
  rw [Array.getElem?_eq_none_iff] at e ⊢
  rw [h.size]
  exact e
theorem GR.back {a b : Array GenState} (h : GR a b) {i : Nat} {y : GenState} (e : b[i]? = some y) : ∃ x, a[i]? = some x ∧ SG x y := by
  cases q : a[i]? with
  | none => rw [h.none q] at e; cases e
  | some x =>
    obtain ⟨y2, e2, r⟩ := h.at_ i x q
    rw [e] at e2
    obtain rfl := Option.some.inj e2
    exact ⟨x, rfl, r⟩
theorem GR.set {a b : Array GenState} (h : GR a b) {i : Nat} {x y : GenState} (r : SG x y) : GR (a.setIfInBounds i x) (b.setIfInBounds i y) := by
  refine ⟨by rw [Array.size_setIfInBounds, Array.size_setIfInBounds, h.size], fun j z e => ?_⟩
  by_cases q : i = j
  · subst q
    rw [Array.getElem?_setIfInBounds, if_pos rfl] at e
    rw [Array.getElem?_setIfInBounds, if_pos rfl, h.size]
    split at e
    · rename_i lt
      rw [if_pos lt]
      exact ⟨y, rfl, Option.some.inj e ▸ r⟩
    · cases e
  · rw [Array.getElem?_setIfInBounds_ne q] at e
    rw [Array.getElem?_setIfInBounds_ne q]
    exact h.at_ j z e
theorem GR.push {a b : Array GenState} (h : GR a b) {c : Code} : GR (a.push (.fresh c)) (b.push (.fresh c)) := by
  refine ⟨by rw [Array.size_push, Array.size_push, h.size], fun j z e => ?_⟩
  rw [Array.getElem?_push] at e ⊢
  rw [h.size]
  split at e
  · rename_i q
    rw [if_pos q]
    exact ⟨_, rfl, Option.some.inj e ▸ rfl⟩
  · rename_i q
    rw [if_neg q]
    exact h.at_ j z e
theorem split_map (fs : List Frame) : splitAtGen (fs.map vF) = (splitAtGen fs).map fun x => (x.1.map vF, (x.2.1.1, (fun r => vw x.2.1.2.2.1 (x.2.1.2.1 r)), x.2.1.2.2.1, x.2.1.2.2.2), x.2.2.map vF) := by
  induction fs with
  | nil => rfl
  | cons F r ih =>
    cases F with
    | gen g k l c p => rfl
    | ret k h g l c p kp =>
      show (splitAtGen (r.map vF)).map _ = ((splitAtGen r).map _).map _
      rw [ih]
      cases splitAtGen r <;> rfl
theorem go_map (fs : List Frame) : ∀ b, topHandled.go b (fs.map vF) = topHandled.go b fs := by
  induction fs with
  | nil => intro b; rfl
  | cons F r ih =>
    intro b
    cases F with
    | gen g k l c p =>
      cases b with
      | true => exact ih false
      | false => exact ih false
    | ret k h g l c p kp =>
      cases b with
      | true => exact ih true
      | false =>
        cases h with
        | none => exact ih false
        | some e =>
          show (if e == byPass then topHandled.go true (r.map vF) else some e) = if e == byPass then topHandled.go true r else some e
          rw [ih]
theorem top_map (fs : List Frame) : topHandled (fs.map vF) = topHandled fs := go_map fs false
def simT (t : Thread) : Thread := ⟨vw t.code t.cur, t.code, t.pos, t.stack.map vF⟩
structure Sim (s s2 : Shared) : Prop where
  eq : s2 = withG s s2.gens
  gr : GR s.gens s2.gens
/-- not a guarded yield of a «yield from» -/
def lockstep (t : Thread) : Prop := ∀ v l k, t.cur = .yield v true l k → yfAt t.code = none
def againS (code c : Code) (stack : List Frame) : List Frame := match code, c, stack with
  | .builtin .., .call f a, .ret k h g l cd p kept :: rest => .ret k h g l cd p (kept ++ unmarked (f :: a.refs)) :: rest
  | .call f _, .call .., .ret k h g l cd p kept :: rest => .ret k h g l cd p (kept ++ .ellipsis :: unmarked [f]) :: rest
  | .call f a, .builtin .., .ret k h g l cd p kept :: rest =>
    .ret k h g l cd p (if l.contains borrowed then kept.takeWhile (· != .ellipsis) ++ unmarked a.refs else unmarked (kept ++ f :: a.refs)) :: rest
  | .call .., _, .ret k h g l cd p kept :: rest => .ret k h g l cd p (kept.takeWhile (· != .ellipsis)) :: rest
  | _, _, _ => stack
theorem again_map (code c : Code) (stack : List Frame) : againS code c (stack.map vF) = (againS code c stack).map vF := by
  cases stack with
  | nil => cases code <;> cases c <;> rfl
  | cons F r => cases F <;> cases code <;> cases c <;> rfl
theorem step_again_eq {den : Code → Sem PySem.Fin} {prog : Program} {w : World} {s : Shared} {c code : Code} {pos : Pos} {stack : List Frame} :
    step den prog w s ⟨.pure (.again c), code, pos, stack⟩ = .go s ⟨den c, c, pos, againS code c stack⟩ := rfl
theorem calm_of {t : Thread} (hl : lockstep t) (h : (simT t).calm = true) : t.calm = true := by
  obtain ⟨cur, code, pos, stack⟩ := t
  cases cur with
  | yield v g l k =>
    cases g with
    | true =>
      have hc : yfAt code = none := hl v l k rfl
      have e : simT ⟨.yield v true l k, code, pos, stack⟩ = ⟨.yield v true l k, code, pos, stack.map vF⟩ := by
        unfold simT vw
        rw [hc]
      rw [e] at h
      simp [Thread.calm, Thread.yieldsInsideHandler] at h
    | false =>
      have e : simT ⟨.yield v false l k, code, pos, stack⟩ = ⟨.yield v false (vl code l) (fun x => vw code (k x)), code, pos, stack.map vF⟩ := by
        unfold simT
        dsimp only
        rw [vw_yield]
      rw [e] at h
      simp only [Thread.calm, Thread.yieldsInsideHandler, Thread.atCollectorCode, split_map] at h ⊢
      cases q : splitAtGen stack with
      | none => rw [q] at h; exact h
      | some x =>
        rw [q] at h
        simp only [Option.map_some, map_any] at h
        exact h
  | pure f =>
    have e : simT ⟨.pure f, code, pos, stack⟩ = ⟨.pure f, code, pos, stack.map vF⟩ := by unfold simT; dsimp only; rw [vw_pure]
    rw [e] at h
    exact h
  | fork c k =>
    have e : ∃ k', simT ⟨.fork c k, code, pos, stack⟩ = ⟨.fork c k', code, pos, stack.map vF⟩ := by unfold simT vw; cases yfAt code <;> exact ⟨_, rfl⟩
    obtain ⟨k', e⟩ := e
    rw [e] at h
    simp [Thread.calm] at h
  | await a f d l k =>
    have e : ∃ k', simT ⟨.await a f d l k, code, pos, stack⟩ = ⟨.await a f d l k', code, pos, stack.map vF⟩ := by unfold simT vw; cases yfAt code <;> exact ⟨_, rfl⟩
    obtain ⟨k', e⟩ := e
    rw [e] at h
    simp [Thread.calm] at h
  | register a k =>
    have e : ∃ k', simT ⟨.register a k, code, pos, stack⟩ = ⟨.register a k', code, pos, stack.map vF⟩ := by unfold simT vw; cases yfAt code <;> exact ⟨_, rfl⟩
    obtain ⟨k', e⟩ := e
    rw [e] at h
    simp [Thread.calm] at h
  | _ => simp [Thread.calm, Thread.atCollectorCode, Thread.atExit, Thread.yieldsInsideHandler]
end KQ

end KqSim_text
section KqStep_text
set_option Elab.async false
set_option linter.all false
set_option maxRecDepth 100000
set_option maxHeartbeats 8000000
/-! .. step by step -/
namespace KQ
open PySem
open Sem (wp)
theorem sim_left {s s2 : Shared} (S : Sim s s2) (h : ∀ x ∈ s2.gens, unmarkedG x = true) : leftWithCleanup s.gens = false ∧ leftWithCleanup s2.gens = false := by
  constructor
  · unfold leftWithCleanup
    rw [Array.any_eq_false]
    intro i hi
    have e := Array.getElem?_eq_getElem hi
    obtain ⟨y, ey, r⟩ := S.gr.at_ i _ e
    have hm := h y (Array.mem_of_getElem? ey)
    revert r
    cases s.gens[i] with
    | suspended k l c p fs cl =>
      rintro ⟨l2, rfl, z⟩
      cases cl with
      | false => simp
      | true =>
        obtain ⟨z1, z2⟩ := z rfl
        unfold unmarkedG at hm
        dsimp only at hm
        cases q : yfAt c with
        | none => rw [q] at z1; cases z1
        | some d =>
          rw [q] at hm
          cases l2 with
          | nil => exact absurd rfl z2
          | cons a r => cases hm
    | _ => intro _; simp
  · unfold leftWithCleanup
    rw [Array.any_eq_false]
    intro i hi
    obtain ⟨x, ex, r⟩ := S.gr.back (Array.getElem?_eq_getElem hi)
    revert r
    cases x with
    | suspended k l c p fs cl =>
      rintro ⟨l2, e, _⟩
      rw [e]
      simp
    | _ =>
      intro r
      have r : s2.gens[i] = _ := r
      rw [r]
      simp
section
variable {prog : Program} {w : World} {s s2 : Shared}
abbrev stR (prog : Program) (w : World) := step (denote table) prog w
abbrev st2 (prog : Program) (w : World) := step (M2 prog w).den prog w
/-- the one's step goes where the other's does -/
def Along (r2 r : Step) : Prop := (∀ s2' t2', r2 = .go s2' t2' → ∃ s' t', r = .go s' t' ∧ Sim s' s2' ∧ t2' = simT t') ∧
  ∀ o s2', r2 = .halt o s2' → o.ends = true → (∀ x ∈ s2'.gens, unmarkedG x = true) → ∃ s', r = .halt o s' ∧ Sim s' s2'
theorem along_go {s' s2' : Shared} {t' t2' : Thread} {r2 r : Step} (e2 : r2 = .go s2' t2') (e : r = .go s' t') (S : Sim s' s2') (h : t2' = simT t') : Along r2 r := by
  refine ⟨fun a b z => ?_, fun o a z => ?_⟩
  · rw [e2] at z
    injection z with z1 z2
    subst z1 z2
    exact ⟨s', t', e, S, h⟩
  · rw [e2] at z
    cases z
theorem along_bad {s2' : Shared} {o2 : Outcome} {r2 r : Step} (e2 : r2 = .halt o2 s2') (h : o2.ends = false) : Along r2 r := by
  refine ⟨fun a b z => ?_, fun o a z he => ?_⟩
  · rw [e2] at z
    cases z
  · rw [e2] at z
    injection z with z1 z2
    rw [← z1, h] at he
    cases he
theorem along_end {o : Outcome} (S : Sim s s2) : Along (finish o s2) (finish o s) := by
  refine ⟨fun a b z => ?_, fun o2 a z he hm => ?_⟩
  · unfold finish at z
    split at z <;> cases z
  · unfold finish at z
    split at z
    · injection z with z1 z2
      rw [← z1] at he
      cases he
    · injection z with z1 z2
      subst z1 z2
      refine ⟨s, ?_, S⟩
      unfold finish
      rw [(sim_left S hm).1]
      rfl
theorem Sim.setg {s s2 : Shared} (S : Sim s s2) {g : Nat} {x y : GenState} (r : SG x y) : Sim { s with gens := s.gens.setIfInBounds g x } { s2 with gens := s2.gens.setIfInBounds g y } := by
  refine ⟨?_, S.gr.set r⟩
  rw [S.eq]
  rfl
theorem step_along {t : Thread} (hl : lockstep t) (hc : (simT t).calm = true) (S : Sim s s2) : Along (st2 prog w s2 (simT t)) (stR prog w s t) := by
  obtain ⟨cur, code, pos, stack⟩ := t
  have es2 := S.eq
  have gr := S.gr
  obtain ⟨heap2, gens2, drawn2, toks2, os2⟩ := s2
  obtain ⟨heap, gens, drawn, toks, os⟩ := s
  unfold withG at es2
  injection es2 with q1 q2 q3 q4 q5
  subst q1 q3 q4 q5
  have gr : GR gens gens2 := gr
  have hS : ∀ {h : Heap} {d : Drawn} {k : Tok} {o : OsState}, Sim ⟨h, gens, d, k, o⟩ ⟨h, gens2, d, k, o⟩ := ⟨rfl, gr⟩
  have simE : ∀ (cur : Sem PySem.Fin), simT ⟨cur, code, pos, stack⟩ = ⟨vw code cur, code, pos, stack.map vF⟩ := fun _ => rfl
  cases cur with
  | pure f =>
    rw [simE, vw_pure]
    cases f with
    | again c => exact along_go step_again_eq step_again_eq hS (by rw [again_map]; rfl)
    | done f =>
      cases stack with
      | nil => exact along_end hS
      | cons F r =>
        cases F with
        | ret k h g l c p kp => exact along_go rfl rfl hS rfl
        | gen g k l c p => exact along_go rfl rfl (hS.setg (x := .finished) (y := .finished) rfl) rfl
  | raise e =>
    rw [simE, vw_raise]
    cases stack with
    | nil => exact along_end hS
    | cons F r =>
      cases F with
      | ret k h g l c p kp => exact along_go rfl rfl hS rfl
      | gen g k l c p => exact along_go rfl rfl (hS.setg (x := .finished) (y := .finished) rfl) rfl
  | unsupported z =>
    have e : vw code (.unsupported z : Sem PySem.Fin) = .unsupported z := by unfold vw; cases yfAt code <;> rfl
    rw [simE, e]
    exact along_bad rfl rfl
  | finish e =>
    have q : vw code (.finish e : Sem PySem.Fin) = .finish e := by unfold vw; cases yfAt code <;> rfl
    rw [simE, q]
    have h := along_end (o := .ended e) (hS (h := heap2) (d := drawn2) (k := toks2) (o := os2))
    exact h
  | rule t k => rw [simE, vw_rule]; exact along_go rfl rfl hS rfl
  | «at» t k => rw [simE, vw_at]; exact along_go rfl rfl hS rfl
  | load a p k =>
    rw [simE, vw_load]
    cases q : heap2.get? a with
    | none => exact along_bad (o2 := .stuck _) (by simp only [st2, step, q]; rfl) rfl
    | some o => exact along_go (s2' := ⟨heap2, gens2, drawn2, toks2, os2⟩) (t2' := ⟨vw code (k o), code, pos, stack.map vF⟩) (by simp only [st2, step, q]) (t' := ⟨k o, code, pos, stack⟩) (by simp only [stR, step, q]) hS rfl
  | update a p f k =>
    rw [simE, vw_update]
    cases q : (heap2.get? a).isSome with
    | false => exact along_bad (o2 := .stuck _) (by simp only [st2, step, q]; rfl) rfl
    | true => exact along_go (s2' := ⟨heap2.update a f, gens2, drawn2, toks2, os2⟩) (t2' := ⟨vw code (k ()), code, pos, stack.map vF⟩) (by simp only [st2, step, q]; rfl) (t' := ⟨k (), code, pos, stack⟩) (by simp only [stR, step, q]; rfl) hS rfl
  | alloc o k => rw [simE, vw_alloc]; exact along_go rfl rfl hS rfl
  | loadIfAlive a k => rw [simE, vw_loadIfAlive]; exact along_go rfl rfl hS rfl
  | point l k => rw [simE, vw_point]; exact along_go rfl rfl hS rfl
  | register a k =>
    have e : ∃ k', vw code (.register a k : Sem PySem.Fin) = .register a k' := by unfold vw; cases yfAt code <;> exact ⟨_, rfl⟩
    obtain ⟨k', e⟩ := e
    rw [simE, e]
    exact along_bad rfl rfl
  | fresh k => rw [simE, vw_fresh]; exact along_go rfl rfl hS rfl
  | ask k => rw [simE, vw_ask]; exact along_go rfl rfl hS rfl
  | choose src n k =>
    rw [simE, vw_choose]
    by_cases q : n = 0
    · exact along_bad (o2 := .stuck _) (by simp only [st2, step, q]; rfl) rfl
    · exact along_go (s2' := ⟨heap2, gens2, drawn2.bump src, toks2, os2⟩) (t2' := ⟨vw code (k (w.draws src (drawn2.get src) % n)), code, pos, stack.map vF⟩) (by simp only [st2, step, if_neg q]) (t' := ⟨k (w.draws src (drawn2.get src) % n), code, pos, stack⟩) (by simp only [stR, step, if_neg q]) hS rfl
  | os q l k => rw [simE, vw_os]; exact along_go rfl rfl hS rfl
  | call c h g l k => rw [simE, vw_call]; exact along_go rfl rfl hS (by cases code <;> cases c <;> rfl)
  | handled own k =>
    rw [simE, vw_handled]
    refine along_go rfl rfl hS ?_
    cases own with
    | false =>
      show Thread.mk (vw code (k (topHandled (stack.map vF)))) _ _ _ = _
      rw [top_map]
      rfl
    | true =>
      show Thread.mk (vw code (k (topHandled (match splitAtGen (stack.map vF) with | some (fs, _, _) => fs | none => stack.map vF)))) _ _ _ = simT ⟨k (topHandled (match splitAtGen stack with | some (fs, _, _) => fs | none => stack)), code, pos, stack⟩
      rw [split_map]
      cases splitAtGen stack with
      | none =>
        show Thread.mk (vw code (k (topHandled (stack.map vF)))) _ _ _ = _
        rw [top_map]
        rfl
      | some x =>
        show Thread.mk (vw code (k (topHandled (x.1.map vF)))) _ _ _ = _
        rw [top_map]
        rfl
  | newGen c k =>
    rw [simE, vw_newGen]
    refine along_go rfl rfl ⟨rfl, gr.push⟩ ?_
    show Thread.mk (vw code (k gens2.size)) _ _ _ = _
    rw [gr.size]
    rfl
  | genState g k =>
    rw [simE, vw_genState]
    cases q : gens2[g]? with
    | none => exact along_bad (o2 := .stuck _) (by simp only [st2, step, q]; rfl) rfl
    | some y =>
      obtain ⟨x, ex, r⟩ := gr.back q
      refine along_go (s2' := ⟨heap2, gens2, drawn2, toks2, os2⟩) (t2' := ⟨vw code (k y.seen), code, pos, stack.map vF⟩) ?_ (t' := ⟨k x.seen, code, pos, stack⟩) ?_ hS (by rw [r.seen]; rfl)
      · simp only [st2, step, q]
        cases y <;> rfl
      · simp only [stR, step, ex]
        cases x <;> rfl
  | resume g r l k =>
    rw [simE, vw_resume]
    cases q : gens2[g]? with
    | none => exact along_bad (o2 := .stuck _) (by simp only [st2, step, q]; rfl) rfl
    | some y =>
      obtain ⟨x, ex, rl⟩ := gr.back q
      cases x with
      | suspended k0 l0 c0 p0 fs0 cl0 =>
        obtain ⟨l2, rfl, _⟩ := rl
        refine along_go (s2' := ⟨heap2, gens2.setIfInBounds g .running, drawn2, toks2, os2⟩) (t2' := ⟨vw c0 (k0 r), c0, p0, fs0.map vF ++ .gen g (fun x => vw code (k x)) l code pos :: stack.map vF⟩) ?_ (t' := ⟨k0 r, c0, p0, fs0 ++ .gen g k l code pos :: stack⟩) ?_ (hS.setg (x := .running) (y := .running) rfl) ?_
        · simp only [st2, step, q]
        · simp only [stR, step, ex]
        · unfold simT
          simp only [List.map_append, List.map_cons]
          rfl
      | fresh c =>
        obtain rfl : y = .fresh c := rl
        cases r with
        | throw e => exact along_go (s2' := ⟨heap2, gens2.setIfInBounds g .finished, drawn2, toks2, os2⟩) (t2' := ⟨vw code (k (.raised e)), code, pos, stack.map vF⟩) (by simp only [st2, step, q]) (t' := ⟨k (.raised e), code, pos, stack⟩) (by simp only [stR, step, ex]) (hS.setg (x := .finished) (y := .finished) rfl) rfl
        | send v =>
          by_cases hv : v = .none
          · subst hv
            exact along_go (s2' := ⟨heap2, gens2.setIfInBounds g .running, drawn2, toks2, os2⟩) (t2' := ⟨(M2 prog w).den c, c, pos, .gen g (fun x => vw code (k x)) l code pos :: stack.map vF⟩) (by simp only [st2, step, q]) (t' := ⟨denote table c, c, pos, .gen g k l code pos :: stack⟩) (by simp only [stR, step, ex]) (hS.setg (x := .running) (y := .running) rfl) rfl
          · refine along_go (s2' := ⟨heap2, gens2, drawn2, toks2, os2⟩) (t2' := ⟨vw code (k .justStarted), code, pos, stack.map vF⟩) ?_ (t' := ⟨k .justStarted, code, pos, stack⟩) ?_ hS rfl
            · cases v <;> first | exact absurd rfl hv | simp only [st2, step, q]
            · cases v <;> first | exact absurd rfl hv | simp only [stR, step, ex]
      | running =>
        obtain rfl : y = .running := rl
        exact along_go (s2' := ⟨heap2, gens2, drawn2, toks2, os2⟩) (t2' := ⟨vw code (k .running), code, pos, stack.map vF⟩) (by simp only [st2, step, q]) (t' := ⟨k .running, code, pos, stack⟩) (by simp only [stR, step, ex]) hS rfl
      | finished =>
        obtain rfl : y = .finished := rl
        exact along_go (s2' := ⟨heap2, gens2, drawn2, toks2, os2⟩) (t2' := ⟨vw code (k .finished), code, pos, stack.map vF⟩) (by simp only [st2, step, q]) (t' := ⟨k .finished, code, pos, stack⟩) (by simp only [stR, step, ex]) hS rfl
  | yield v g l k =>
    cases g with
    | true =>
      have hn : yfAt code = none := hl v l k rfl
      have e : simT ⟨.yield v true l k, code, pos, stack⟩ = ⟨.yield v true l k, code, pos, stack.map vF⟩ := by
        unfold simT vw
        rw [hn]
      rw [e] at hc
      simp [Thread.calm, Thread.yieldsInsideHandler] at hc
    | false =>
      rw [simE, vw_yield] at hc ⊢
      have sm := split_map stack
      cases q : splitAtGen stack with
      | none =>
        rw [q] at sm
        exact along_bad (o2 := .stuck _) (by simp only [st2, step, sm, Option.map_none]; rfl) rfl
      | some x =>
        obtain ⟨a, ⟨g, kg, c, p⟩, r⟩ := x
        rw [q] at sm
        have hg : a.any Frame.guarded = false := by
          simp only [Thread.calm, Thread.yieldsInsideHandler, sm, Option.map_some, map_any] at hc
          cases z : a.any Frame.guarded with
          | false => rfl
          | true => rw [z] at hc; simp at hc
        refine along_go (s2' := ⟨heap2, gens2.setIfInBounds g (.suspended (fun x => vw code (k x)) (vl code l) code pos (a.map vF) false), drawn2, toks2, os2⟩) (t2' := ⟨vw c (kg (.yielded v)), c, p, r.map vF⟩) ?_ (t' := ⟨kg (.yielded v), c, p, r⟩) ?_
          (hS.setg (x := .suspended k l code pos a false) ⟨vl code l, rfl, fun z => by cases z⟩) rfl
        · simp only [st2, step, sm, Option.map_some, map_any, hg, Bool.or_self]
        · simp only [stR, step, q, hg, Bool.or_self]
  | stack k =>
    rw [simE, vw_stack]
    refine along_go rfl rfl hS ?_
    show Thread.mk (vw code (k ((code, pos) :: (stack.map vF).map Frame.where_))) _ _ _ = _
    rw [map_where]
    rfl
  | fork c k =>
    have e : ∃ k', vw code (.fork c k : Sem PySem.Fin) = .fork c k' := by unfold vw; cases yfAt code <;> exact ⟨_, rfl⟩
    obtain ⟨k', e⟩ := e
    rw [simE, e]
    exact along_bad rfl rfl
  | thread k => rw [simE, vw_thread]; exact along_go rfl rfl hS rfl
  | await a f d l k =>
    have e : ∃ k', vw code (.await a f d l k : Sem PySem.Fin) = .await a f d l k' := by unfold vw; cases yfAt code <;> exact ⟨_, rfl⟩
    obtain ⟨k', e⟩ := e
    rw [simE, e]
    exact along_bad rfl rfl
end
end KQ

end KqStep_text
section KqEnd_text
set_option Elab.async false
set_option linter.all false
set_option maxRecDepth 100000
set_option maxHeartbeats 8000000
/-! .. to its end -/
namespace KQ
open PySem
open Sem (wp)
/-- behind the look at the generator -/
def yfTree (v : Value) (c : Code) (k : Resume → Sem PySem.Fin) (o : Option Obj) : Sem PySem.Fin := match isGen o with
  | true => .yield v false [.ellipsis] fun x => vw c (k x)
  | false => .unsupported ""
theorem yfTree_t {v : Value} {c : Code} {k : Resume → Sem PySem.Fin} {o : Option Obj} (h : isGen o = true) : yfTree v c k o = .yield v false [.ellipsis] fun x => vw c (k x) := by
  unfold yfTree
  rw [h]
theorem yfTree_f {v : Value} {c : Code} {k : Resume → Sem PySem.Fin} {o : Option Obj} (h : isGen o = false) : yfTree v c k o = .unsupported "" := by
  unfold yfTree
  rw [h]
theorem vw_yield_t {v : Value} {c : Code} {l : List Value} {k : Resume → Sem PySem.Fin} {d : Addr} (h : yfAt c = some d) : vw c (.yield v true l k) = .loadIfAlive d (yfTree v c k) := by
  unfold yfTree vw
  rw [h]
  simp only [un] <;> congr 1
section
variable {prog : Program} {w : World}
theorem along_yield {s s2 : Shared} {v : Value} {l : List Value} {k : Resume → Sem PySem.Fin} {code : Code} {pos : Pos} {stack : List Frame} {d : Addr} {a r : List Frame} {g : Nat} {kg : GenResult → Sem PySem.Fin} {c : Code} {p : Pos}
    (S : Sim s s2) (hc : yfAt code = some d) (hs : splitAtGen stack = some (a, (g, kg, c, p), r)) (ha : a.any Frame.guarded = false) :
    Along (st2 prog w s2 ⟨.yield v false [.ellipsis] (fun x => vw code (k x)), code, pos, stack.map vF⟩) (stR prog w s ⟨.yield v true l k, code, pos, stack⟩) := by
  have es2 := S.eq
  have gr := S.gr
  obtain ⟨heap2, gens2, drawn2, toks2, os2⟩ := s2
  obtain ⟨heap, gens, drawn, toks, os⟩ := s
  unfold withG at es2
  injection es2 with q1 q2 q3 q4 q5
  subst q1 q3 q4 q5
  have sm := split_map stack
  rw [hs] at sm
  refine along_go (s2' := ⟨heap2, gens2.setIfInBounds g (.suspended (fun x => vw code (k x)) [.ellipsis] code pos (a.map vF) false), drawn2, toks2, os2⟩) (t2' := ⟨vw c (kg (.yielded v)), c, p, r.map vF⟩) ?_ (t' := ⟨kg (.yielded v), c, p, r⟩) ?_
    (S.setg (x := .suspended k l code pos a true) ⟨[.ellipsis], rfl, fun _ => ⟨by rw [hc]; rfl, by simp⟩⟩) rfl
  · simp only [st2, step, sm, Option.map_some, map_any, ha, Bool.or_self]
  · simp only [stR, step, hs, Bool.true_or]
theorem sched_of_run : ∀ (n : Nat) {s s2 : Shared} {t : Thread} {o : Outcome} {s2' : Shared}, s.asleep → Sim s s2 → runN (M2 prog w).den prog w n s2 (simT t) = .halted o s2' → o.ends = true →
    (∀ k s1 t1, runN (M2 prog w).den prog w k s2 (simT t) = .running s1 t1 → t1.calm = true) → (∀ x ∈ s2'.gens, unmarkedG x = true) →
    ∃ m s', schedN (denote table) prog w m (.single s t) = .halted o s' ∧ Sim s' s2' := by
  intro n
  induction n using Nat.strongRecOn with
  | ind n ih =>
    intro s s2 t o s2' hz S h ho hc hm
    cases n with
    | zero => cases h
    | succ n =>
      have hc0 : (simT t).calm = true := hc 0 s2 (simT t) rfl
      by_cases hl : lockstep t
      · have al := step_along (prog := prog) (w := w) hl hc0 S
        have cal := calm_of hl hc0
        have ss := sstep_single (denote table) prog w s t cal hz
        have h' : (match step (M2 prog w).den prog w s2 (simT t) with | .go s' t' => runN (M2 prog w).den prog w n s' t' | .halt o s' => .halted o s') = Run.halted o s2' := h
        cases q : step (M2 prog w).den prog w s2 (simT t) with
        | go a2 t2 =>
          rw [q] at h'
          obtain ⟨a, t', e1, S', e2⟩ := al.1 a2 t2 q
          have ss : sstep (denote table) prog w (.single s t) = (Step.go a t').lift := by
            rcases ss with z | z
            · rw [z]; exact congrArg Step.lift e1
            · rw [show step (denote table) prog w s t = _ from e1] at z
              cases z
          subst e2
          obtain ⟨m, s', r1, r2⟩ := ih n (Nat.lt_succ_self n) (by unfold Shared.asleep; rw [step_life (denote table) prog w s a t t' e1]; exact hz) S' h' ho (fun k s1 t1 z => hc (k + 1) s1 t1 (by
            show (match step (M2 prog w).den prog w s2 (simT t) with | .go s' t' => runN (M2 prog w).den prog w k s' t' | .halt o s' => .halted o s') = _
            rw [q]
            exact z)) hm
          refine ⟨m + 1, s', ?_, r2⟩
          show (match sstep (denote table) prog w (.single s t) with | .go c' => schedN (denote table) prog w m c' | .halt o s => .halted o s) = _
          rw [ss]
          exact r1
        | halt o2 a2 =>
          rw [q] at h'
          injection h' with z1 z2
          subst z1 z2
          obtain ⟨a, e1, S'⟩ := al.2 _ _ q ho hm
          have ss : sstep (denote table) prog w (.single s t) = (Step.halt o2 a).lift := by
            rcases ss with z | z
            · rw [z]; exact congrArg Step.lift e1
            · rw [show step (denote table) prog w s t = _ from e1] at z
              injection z with z1 z2
              rw [z1] at ho
              cases ho
          refine ⟨1, a, ?_, S'⟩
          show (match sstep (denote table) prog w (.single s t) with | .go c' => schedN (denote table) prog w 0 c' | .halt o s => .halted o s) = _
          rw [ss]
          rfl
      · obtain ⟨cur, code, pos, stack⟩ := t
        have hex : ∃ v l k d, cur = .yield v true l k ∧ yfAt code = some d := by
          refine Classical.byContradiction fun hn => hl fun v l k e => ?_
          cases q : yfAt code with
          | none => rfl
          | some d => exact absurd ⟨v, l, k, d, e, q⟩ hn
        obtain ⟨v, l, k, d, rfl, hd⟩ := hex
        have es : simT ⟨.yield v true l k, code, pos, stack⟩ = ⟨.loadIfAlive d (yfTree v code k), code, pos, stack.map vF⟩ := by
          unfold simT
          dsimp only
          rw [vw_yield_t hd]
        rw [es] at h hc
        have st1 : step (M2 prog w).den prog w s2 ⟨.loadIfAlive d (yfTree v code k), code, pos, stack.map vF⟩ = .go s2 ⟨yfTree v code k (s2.heap.get? d), code, pos, stack.map vF⟩ := rfl
        have h' : runN (M2 prog w).den prog w n s2 ⟨yfTree v code k (s2.heap.get? d), code, pos, stack.map vF⟩ = .halted o s2' := h
        cases n with
        | zero => cases h'
        | succ n =>
          cases hg : isGen (s2.heap.get? d) with
          | false =>
            rw [yfTree_f hg] at h'
            injection h' with z1 z2
            rw [← z1] at ho
            cases ho
          | true =>
            rw [yfTree_t hg] at h'
            have hc1 := hc 1 s2 ⟨.yield v false [.ellipsis] fun x => vw code (k x), code, pos, stack.map vF⟩ (by
              show Run.running s2 ⟨yfTree v code k (s2.heap.get? d), code, pos, stack.map vF⟩ = _
              rw [yfTree_t hg])
            have sm := split_map stack
            cases q : splitAtGen stack with
            | none =>
              rw [q] at sm
              have e : step (M2 prog w).den prog w s2 ⟨.yield v false [.ellipsis] fun x => vw code (k x), code, pos, stack.map vF⟩ = .halt (.stuck "yield outside a generator") s2 := by
                obtain ⟨heap2, gens2, drawn2, toks2, os2⟩ := s2
                simp only [step, sm, Option.map_none]
              have h2 : (match step (M2 prog w).den prog w s2 ⟨.yield v false [.ellipsis] fun x => vw code (k x), code, pos, stack.map vF⟩ with | .go s' t' => runN (M2 prog w).den prog w n s' t' | .halt o s' => .halted o s') = Run.halted o s2' := h'
              rw [e] at h2
              injection h2 with z1 z2
              rw [← z1] at ho
              cases ho
            | some x =>
              obtain ⟨a, ⟨g, kg, c, p⟩, r⟩ := x
              rw [q] at sm
              have ha : a.any Frame.guarded = false := by
                simp only [Thread.calm, Thread.yieldsInsideHandler, sm, Option.map_some, map_any] at hc1
                cases z : a.any Frame.guarded with
                | false => rfl
                | true => rw [z] at hc1; simp at hc1
              have al := along_yield (prog := prog) (w := w) (v := v) (l := l) (k := k) (pos := pos) S hd q ha
              have hgs : isGen (s.heap.get? d) = true := by
                rw [← hg]
                conv => rhs; rw [S.eq]
                rfl
              have ss := sched_yield (prog := prog) (w := w) (v := v) (l := l) (k := k) (pos := pos) hz hd hgs q ha
              have h2 : (match step (M2 prog w).den prog w s2 ⟨.yield v false [.ellipsis] fun x => vw code (k x), code, pos, stack.map vF⟩ with | .go s' t' => runN (M2 prog w).den prog w n s' t' | .halt o s' => .halted o s') = Run.halted o s2' := h'
              cases q2 : step (M2 prog w).den prog w s2 ⟨.yield v false [.ellipsis] fun x => vw code (k x), code, pos, stack.map vF⟩ with
              | halt o2 a2 =>
                rw [q2] at h2
                injection h2 with z1 z2
                subst z1 z2
                obtain ⟨b, e1, S'⟩ := al.2 _ _ q2 ho hm
                refine ⟨1, b, ?_, S'⟩
                show (match sstep (denote table) prog w (.single s ⟨.yield v true l k, code, pos, stack⟩) with | .go c' => schedN (denote table) prog w 0 c' | .halt o s => .halted o s) = _
                rw [ss, show step (denote table) prog w s ⟨.yield v true l k, code, pos, stack⟩ = _ from e1]
                rfl
              | go a2 t2 =>
                rw [q2] at h2
                obtain ⟨b, t', e1, S', e2⟩ := al.1 a2 t2 q2
                subst e2
                obtain ⟨m, s', r1, r2⟩ := ih n (by omega) (by unfold Shared.asleep; rw [step_life (denote table) prog w s b _ t' e1]; exact hz) S' h2 ho (fun k' s1 t1 z => hc (k' + 2) s1 t1 (by
                  show runN (M2 prog w).den prog w (k' + 1) s2 ⟨yfTree v code k (s2.heap.get? d), code, pos, stack.map vF⟩ = _
                  rw [yfTree_t hg]
                  show (match step (M2 prog w).den prog w s2 ⟨.yield v false [.ellipsis] fun x => vw code (k x), code, pos, stack.map vF⟩ with | .go s' t' => runN (M2 prog w).den prog w k' s' t' | .halt o s' => .halted o s') = _
                  rw [q2]
                  exact z)) hm
                refine ⟨m + 1, s', ?_, r2⟩
                show (match sstep (denote table) prog w (.single s ⟨.yield v true l k, code, pos, stack⟩) with | .go c' => schedN (denote table) prog w m c' | .halt o s => .halted o s) = _
                rw [ss, show step (denote table) prog w s ⟨.yield v true l k, code, pos, stack⟩ = _ from e1]
                exact r1
theorem unmarked_left {g : Array GenState} (h : ∀ x ∈ g, unmarkedG x = true) : leftWithCleanup g = false := by
  unfold leftWithCleanup
  rw [Array.any_eq_false]
  intro i hi
  have hm := h g[i] (Array.getElem_mem hi)
  cases q : g[i] with
  | suspended k l c p fs cl =>
    rw [q] at hm
    unfold unmarkedG at hm
    cases cl with
    | false => simp
    | true => simp at hm
  | _ => simp
theorem unmarked_forget (x : GenState) : unmarkedG x.forget = unmarkedG x := by cases x <;> rfl
theorem sim_refl {s : Shared} (h : s.gens = #[]) : Sim s s := ⟨rfl, ⟨rfl, fun i x e => by rw [h] at e; simp at e⟩⟩
theorem ends2 {t : Sem PySem.Fin} {s : Shared} {R : Result → Shared → Prop} (hz : s.asleep) (hg : s.gens = #[])
    (h : wpAny (M2 prog w) callerA t (fun fin s' => ∃ f, fin = .done f ∧ (R (.ok f) s' ∧ ∀ x ∈ s'.gens, unmarkedG x = true)) (fun e s' => R (.error e) s' ∧ ∀ x ∈ s'.gens, unmarkedG x = true) s) :
    ∃ n r s' s'', schedN (denote table) prog w n (.single s ⟨t, .builtin "claim.caller" {}, default, []⟩) = .halted (outcomeOf r) s' ∧ R r s'' ∧ s'.heap = s''.heap ∧ s'.os = s''.os ∧ s'.heap.life = s.heap.life := by
  obtain ⟨n, r, s', hn, hR, hm⟩ := (wp_iff_halts (M := M2 prog w) t (fun r s' => R r s' ∧ ∀ x ∈ s'.gens, unmarkedG x = true) default s).mp
    (wp_of_wpAny_done (R := fun r s' => (R r s' ∧ ∀ x ∈ s'.gens, unmarkedG x = true) ∧ leftWithCleanup s'.gens = false) caller_in (wpAny_mono h
      (fun fin s' ⟨f, e, z, m⟩ => ⟨f, e, ⟨z, m⟩, unmarked_left m⟩) (fun e s' ⟨z, m⟩ => ⟨⟨z, m⟩, unmarked_left m⟩)) default)
  obtain ⟨s3, hr, hf, hc⟩ := runNI_real (M2 prog w).den prog w hn (outcomeOf_ends r)
  have e : simT ⟨t, .builtin "claim.caller" {}, default, []⟩ = ⟨t, .builtin "claim.caller" {}, default, []⟩ := rfl
  have hm3 : ∀ x ∈ s3.gens, unmarkedG x = true := fun x hx => by
    have h1 : x.forget ∈ s3.forget.gens := Array.mem_map_of_mem hx
    rw [hf] at h1
    obtain ⟨y, hy, e⟩ := Array.mem_map.mp h1
    rw [← unmarked_forget, ← e, unmarked_forget]
    exact hm y hy
  obtain ⟨m, s4, r1, S4⟩ := sched_of_run (prog := prog) (w := w) n (t := ⟨t, .builtin "claim.caller" {}, default, []⟩) hz (sim_refl hg) (by rw [e]; exact hr) (outcomeOf_ends r) (by rw [e]; exact hc) hm3
  have f := Shared.forget_eq hf
  have e4 : s4.heap = s3.heap ∧ s4.os = s3.os := by
    have q := S4.eq
    constructor
    · rw [q]; rfl
    · rw [q]; rfl
  refine ⟨m, r, s4, s', r1, hR, e4.1.trans f.1, e4.2.trans f.2.2.2.1, ?_⟩
  rw [e4.1]
  exact runN_life _ _ _ hr
end
end KQ

end KqEnd_text
section KqHolds_text
set_option Elab.async false
set_option linter.all false
set_option maxRecDepth 100000
set_option maxHeartbeats 8000000
/-! The row's statement from a walk in M2 -/
namespace KQ
open PySem PySem.W PySem.Calls PyProof.Rows
abbrev UnM (s : Shared) : Prop := ∀ x ∈ s.gens, unmarkedG x = true
/-- how the call ends, with no marked generator asleep -/
def GoodU (c : ClaimW) (s0 s1 : Shared) (args : List WData) (r : Result) (s' : Shared) : Prop := GoodWG c (classAt s0.heap) (ExcName.means s0.heap) args s1 r s' ∧ UnM s'
/-- the walk of the law's call, in M2 -/
abbrev Walk2 (q : Program) (loose : List Str) (XP : (Str → Option Value) → Heap → Prop) (YP : World → Heap → Prop) (r : RowW) (d : DefRec) (kwd : List (Str × Expr)) : Prop :=
  ∀ (w : World) (s0 s1 : Shared) (mg mb : Str → Option Value), Ground q loose r.records XP w s0 mg mb s1.heap → YP w s1.heap → ∀ (a : Addr) (o : Obj) (pm cd doc dV kV : Value),
    s1.heap.get? a = some o → o.data = .func { docDef d.name d.params d.body d.scope pm cd doc with defaults := dV, kwdefaults := kV } → s1.heap.CodeRec cd d.name → Dflts mg s1.heap d.params kwd dV kV →
    mg d.name = some (.ref a) → s1.gens = #[] → ∀ (args : List WData) (vals : List Value) (as : List Addr), r.claim.pre args = true → WData.layableAll args = true →
    ReadsAllW r.records (classAt s0.heap) s1.heap vals args as → WellAll w.params s1.heap vals args → (∀ a ∈ as, (a == sysModules) = false) →
    wpAny (M2 r.prog w) callerA (PySem.call (.ref a) vals) (fun v s' => GoodU r.claim s0 s1 args (.ok (.ret v)) s') (fun e s' => GoodU r.claim s0 s1 args (.error e) s') s1
/-- the caller's tree -/
abbrev callTree (n : Str) (vs : List Value) : Sem PySem.Fin := do
  match ← nsGet mainNs n with
  | some f => do ret (← PySem.call f vs)
  | none => unsupported "claim.caller:no-such-global"
theorem ends_tree {c : ClaimW} {w : World} {s s1 : Shared} {args : List WData} {vs : List Value} {n : Str} {mg : Str → Option Value} {f : Value} {kept : Heap → Prop} (hz : s1.asleep) (hg : s1.gens = #[]) (hn : s1.heap.Ns mainGlobals mg) (hf : mg n = some f)
    (h : wpAny (M2 c.prog w) callerA (PySem.call f vs) (fun v s' => (c.Ends s args vs s1 (.ok (.ret v)) s' ∧ s'.os = s.os ∧ kept s'.heap) ∧ UnM s') (fun e s' => (c.Ends s args vs s1 (.error e) s' ∧ s'.os = s.os ∧ kept s'.heap) ∧ UnM s') s1) :
    ∃ k r s', schedN (denote table) c.prog w k (.single s1 ⟨callTree n vs, .builtin "claim.caller" {}, default, []⟩) = .halted (outcomeOf r) s' ∧ c.Ends s args vs s1 r s' ∧ s'.os = s.os ∧ kept s'.heap ∧ s'.heap.life = s1.heap.life := by
  have tree : wpAny (M2 c.prog w) callerA (callTree n vs) (fun fin s' => ∃ f, fin = .done f ∧ ((c.Ends s args vs s1 (.ok f) s' ∧ s'.os = s.os ∧ kept s'.heap) ∧ UnM s'))
      (fun e s' => (c.Ends s args vs s1 (.error e) s' ∧ s'.os = s.os ∧ kept s'.heap) ∧ UnM s') s1 := by
    refine wpAny_bind (wpAny_nsGet hn ?_)
    rw [hf]
    exact wpAny_bind (wpAny_mono h (fun v s' z => wpAny_pure ⟨.ret v, rfl, z⟩) fun _ _ z => z)
  obtain ⟨k, r, s', s2, e1, ⟨e2, e3, e4⟩, e5, e6, e7⟩ := ends2 (prog := c.prog) (w := w) (R := fun r s' => c.Ends s args vs s1 r s' ∧ s'.os = s.os ∧ kept s'.heap) hz hg tree
  exact ⟨k, r, s', e1, e2.congr e5, e6.trans e3, e5 ▸ e4, e7⟩
theorem holds2 {r : OpenRow} {q : Program} {loose : List Str} {Xt : Shared → Bool} {XP : (Str → Option Value) → Heap → Prop} {α : Type} {Yf : Shared → α} {Ya : World → α} {YP : World → Heap → Prop} {d : DefRec} {kwd : List (Str × Expr)} {N : Nat}
    (left : LeftO r.prog q loose Xt Yf Ya N) (hY : ∀ w s, Yf s = Ya w → YP w s.heap) (hYk : ∀ w h h', YP w h → (∀ b o, h.get? b = some o → h'.get? b = some o) → YP w h')
    (hX : ∀ s, Xt s = true → XP (s.heap.nsMap mainGlobals) s.heap) (hXk : ∀ mg h h', XP mg h → (∀ b o, h.get? b = some o → h'.get? b = some o) → XP mg h')
    (hdef : defOf q r.name = some (d, kwd)) (hp : r.prog.theDef r.name = some (d.params, d.body, d.scope)) (hk : kwWritten? d.params.kwonlyargs d.params.kw_defaults = some kwd)
    (hRf : ∀ s, Xt s = true → RecFacts r.records s.heap) (hwr : (!r.writes || r.records.isEmpty) = true) (k1 : r.wellSaid = true)
    (ok : (chainsOk q && opensWell r.prog && (frees r.toRowW && r.within.isEmpty)) = true) (hb : r.prog.bare) (hw : r.toRowW.promised) (call : Walk2 q loose XP YP r.toRowW d kwd) : r.Holds := by
  simp only [Bool.and_eq_true] at ok
  have ⟨⟨hch, hop⟩, hfr, hwi⟩ := ok
  have ⟨hsame, hu, ha, hap, hmk⟩ := frees_parts hfr
  have hwi : r.toRowW.claim.within = [] := List.isEmpty_iff.mp hwi
  refine ⟨k1, hw, ⟨hb, hop, (congrArg (List.map _) hmk).trans rfl⟩, hw.witness, fun w => ?_⟩
  have lb := left.behind (XP := fun mg h => XP mg h ∧ RecFacts r.records h) (fun s z => ⟨hX s z, hRf s z⟩) hch w
  refine ⟨lb.1, fun s' hs' => ?_⟩
  have ⟨s0, hf, hg0, s, hT, hz, hgens, hg, G00, y⟩ := lb.2 s' hs'
  have G0 : Ground q loose [] XP w s (s.heap.nsMap mainGlobals) (s.heap.nsMap builtinsNs) s.heap :=
    { T := G00.T, B := G00.B, D := G00.D, TE := G00.TE, TD := G00.TD, W := G00.W, X := G00.X.1, cls := G00.cls, has := G00.has, apart := G00.apart, once := G00.once, K := G00.K }
  have RF := G00.X.2
  have hgens : s.gens = #[] := Array.eq_empty_of_size_eq_zero (beq_iff_eq.mp hgens)
  have G : Ground q loose r.records XP w s _ _ s.heap := RF.ground G0
  refine ⟨s0, hf, hg0, s, hT, fun n hn => ?_, RF.1, RF.2.1, fun args hpre hlay ord hord => ?_⟩
  · have e : n = r.name := by
      revert hn
      split <;> simp
    subst e
    exact pinned_of_view hg G0 hdef hp hk
  · have ⟨⟨vs, s1⟩, hlaid⟩ := Option.isSome_iff_exists.mp (layAllW_isSome (P := w.params) (ord := ord) G.has args r.args s (pre_splitW hpre).1)
    have keeps := layAllW_keeps _ _ _ hlaid
    have al := layAllW_rest _ _ _ hlaid
    have ⟨as, hrd, hin, hold⟩ := reads_layAllW hord _ _ _ hlaid hlay s1.heap (fun _ _ e => e)
    have L : Laid r.records w s s1 args vs as := ⟨⟨ord, hord, hlaid⟩, hrd, hin, hold, keeps, al.1.trans hgens, al.2.2.1⟩
    have G1 := G.keeps hXk keeps
    have ⟨a, o, pm, cd, doc, dV, kV, h1, h2, h3, h4, h5⟩ := G1.fn hdef
    have wk := call w s s1 _ _ G1 (hYk _ _ _ (hY w s y) keeps) a o pm cd doc dV kV h2 h3 h4 h5 (defOf_name hdef ▸ h1) L.gens args vs as hpre hlay L.reads L.well (L.low G.low)
    have fin : ∀ res s2, GoodU r.claim s s1 args res s2 → (r.toRowW.claim.Ends s args vs s1 res s2 ∧ s2.os = s.os ∧ (r.writes = true → namesKept r.prog r.keeps s.heap s2.heap ∧ ∀ x ∈ r.records, ∀ a, classAt s.heap x.1 = some a → recordClass s2.heap a x.1 (x.2.map (·.1)) = true)) ∧ UnM s2 := fun res s2 g => by
      have z := g.1.laid (c := r.toRowW.claim) hsame hwi (ident_freeW hu ha hap) L
      exact ⟨⟨z.1, z.2.1, fun q => ⟨namesKept_of hT hg r.keeps keeps g.1.2.1.old, noTable hwr q⟩⟩, g.2⟩
    have ⟨k, res, s2, e1, e2, e3, e4, e5⟩ := ends_tree (c := r.toRowW.claim) (s := s) (args := args) (vs := vs) (n := r.name) (kept := fun h' => r.writes = true → namesKept r.prog r.keeps s.heap h' ∧ ∀ x ∈ r.records, ∀ a, classAt s.heap x.1 = some a → recordClass h' a x.1 (x.2.map (·.1)) = true)
      (Shared.asleep_of_life al.2.2.2 hz) L.gens G1.T.g h1 (wpAny_mono wk (fun v s2 g => fin _ _ g) fun e s2 g => fin _ _ g)
    refine ⟨vs, s1, hlaid, k, _, s2, e1, ?_, fun _ i x hx => ?_, e4, ?_, Shared.rest_eq e3⟩
    · rcases e2 with ⟨v, rfl, d1, d2, d3, d4, d5⟩ | ⟨e, ob, cls, rfl, d1, d2, d3, d4, d5⟩
      · exact Or.inl ⟨v, rfl, d1, d2, d3, fun b o z _ => d4 b o z, d5⟩
      · exact Or.inr ⟨e, ob, cls, rfl, d1, d2, d3, d4, fun b o z _ => d5 b o z⟩
    · rw [hgens] at hx
      cases i <;> cases hx
    · rw [e5, al.2.2.2]
/-- .. over the head of a kernel run -/
theorem head2 {r : OpenRow} {q : Program} {H : Hook} {ob : SharedT → H.α} {M : Nat} {loose : List PySem.Str} {d : DefRec} {kwd : List (PySem.Str × PySem.Expr)} (ho : ∀ s : SharedT, ob s = H.obs s.abs)
    (e : opening r.prog = plainProg r.prog.main.scope.names) (f : ∀ s, fenceModules? r.prog s = some s) (run : ∀ w, HandSHeadRun.RunEq r q H ob M loose w)
    (hdef : defOf q r.name = some (d, kwd)) (hp : r.prog.theDef r.name = some (d.params, d.body, d.scope)) (hk : kwWritten? d.params.kwonlyargs d.params.kw_defaults = some kwd)
    (hwr : (!r.writes || r.records.isEmpty) = true) (k1 : r.wellSaid = true) (ok : (chainsOk q && opensWell r.prog && (frees r.toRowW && r.within.isEmpty)) = true) (hb : r.prog.bare) (hw : r.toRowW.promised)
    (call : Walk2 q loose (XL q []) H.says r.toRowW d kwd) : r.Holds := by
  have left : LeftO r.prog q loose (fun s => xlAt q [] s && recOk r.toRowW.records s) H.obs H.val (M + 600) true := by
    refine HandSHeadRun.left_one (M := M) e (Nat.ble_eq_true_of_le (by omega)) f (Nat.ble_eq_true_of_le (by omega)) fun w os => ?_
    have z := run w os
    rw [show ob = fun s => H.obs s.abs from funext ho] at z
    simp only [HandSHeadRun.endQ_eq, HandSHeadRun.seenQ_eq]
    exact z
  exact holds2 (YP := H.says) left H.of H.keeps (fun s z => xl_of s (Bool.and_eq_true_iff.mp z).1) XL.keeps hdef hp hk (fun s z => recFacts_of (Bool.and_eq_true_iff.mp z).2) hwr k1 ok hb hw call
end KQ

end KqHolds_text
section KqEntry_text
set_option Elab.async false
set_option linter.all false
set_option maxRecDepth 100000
set_option maxHeartbeats 4000000
/-! The law's call in M2, from the law's promise -/
namespace KQ
open PySem PySem.Spec PyProof.Rows L2 LamX
/-- what is tracked as the law begins: the lambdas' tables, and the script unless K knows it -/
theorem entry_facts {P : Program} {w : World} {K : PySem.W.Frag} {mg mb : Str → Option Value} {a : Addr} {cs : List (Addr × Addr)} {s : Shared} {vs : List Value} {ns : List Int} (kin : K.In s.heap) (gl : s.heap.Ns mainGlobals mg) (bl : s.heap.Ns builtinsNs mb) (bb : ∀ x : Str, x ≠ "__name__" → mb x = bootBuiltins x) (lim : s.heap.NoLimit)
    (ng : s.gens = #[]) (tab : ∀ p ∈ cs, s.heap.get? p.2 = some { cls := .none, data := .fields #[] }) (unk : ∀ p ∈ cs, K.lookup p.2 = none) (hd : ∀ p ∈ cs, PySem.W.CodeHd s.heap p.1 p.2)
    (bmod : ∃ (m : Addr) (o : Obj), mg "__builtins__" = some (.ref m) ∧ m ≠ builtinsNs ∧ s.heap.get? m = some o ∧ o.cls = .type "module" ∧ o.dict = some builtinsNs ∧ o.data = .plain)
    (scr : s.heap.get? a = some { cls := .type "list", data := .seq vs.toArray }) (iv : IntsAre vs ns) (le : ns.length ≤ sizeLine) :
    ∃ H : Hp, (∀ p ∈ cs, H p.2 = some (.tbl #[])) ∧ SqL K H a (ns.map V.int) ∧ K.In (hidT s.heap H) ∧ (hidT s.heap H).Ns mainGlobals mg ∧ (∀ p ∈ cs, TabB (hidT s.heap H) mg p.1 p.2) ∧ Env0 P w K mg (hidT s.heap H) callerA [] s H ∧
      ∀ (H' : Hp) (h' : Heap), Un [] [] H H' s.heap h' → HOk P w H' h' → OldK s.heap h' := by
  have lenV := iv.length
  have rv := vals_ints iv
  obtain ⟨T, hTe⟩ : ∃ T, T = cs.map (·.2) := ⟨_, rfl⟩
  have inT : ∀ p ∈ cs, p.2 ∈ T := fun p hp => by rw [hTe]; exact List.mem_map.mpr ⟨p, hp, rfl⟩
  have ofT : ∀ b ∈ T, ∃ p ∈ cs, p.2 = b := fun b hb => by rw [hTe] at hb; exact List.mem_map.mp hb
  have tabT : ∀ b ∈ T, s.heap.get? b = some { cls := .none, data := .fields #[] } := fun b hb => by
    obtain ⟨p, hp, e⟩ := ofT b hb
    exact e ▸ tab p hp
  have aT : a ∉ T := fun z => by
    have q := (tabT a z).symm.trans scr
    injection q with q
    injection q with _ _ q _
    cases q
  obtain ⟨fz, hfz⟩ : ∃ fz : HO, fz = .frz { cls := .type "list", data := .seq vs.toArray } (.lst (ns.map V.int)) := ⟨_, rfl⟩
  let H : Hp := fun b => if b ∈ T then some (.tbl #[]) else if b = a ∧ K.lookup a = none then some fz else none
  have hT : ∀ b, b ∈ T → H b = some (.tbl #[]) := fun b hb => if_pos hb
  have cl : ∀ b u, H b = some u → (b ∈ T ∧ u = .tbl #[]) ∨ (b = a ∧ K.lookup a = none ∧ u = fz) := fun b u e => by
    by_cases hb : b ∈ T
    · rw [hT b hb] at e
      exact .inl ⟨hb, (Option.some.inj e).symm⟩
    · have e : (if b ∈ T then some (HO.tbl #[]) else if b = a ∧ K.lookup a = none then some fz else none) = some u := e
      rw [if_neg hb] at e
      by_cases ha : b = a ∧ K.lookup a = none
      · rw [if_pos ha] at e
        exact .inr ⟨ha.1, ha.2, (Option.some.inj e).symm⟩
      · rw [if_neg ha] at e
        cases e
  -- nothing else is tracked
  have fre : ∀ b o, s.heap.get? b = some o → (∀ xs n, o.data ≠ .seq xs n) → o.data ≠ .fields #[] → H b = none := fun b o e h1 h2 => by
    cases q : H b with
    | none => rfl
    | some u =>
      rcases cl b u q with ⟨hb, _⟩ | ⟨hb, _, _⟩
      · have z := (tabT b hb).symm.trans e
        exact absurd (by rw [← Option.some.inj z]) h2
      · rw [hb] at e
        have z := scr.symm.trans e
        exact absurd (by rw [← Option.some.inj z]) (h1 vs.toArray _)
  have ns0 : ∀ {b : Addr} {m : Str → Option Value}, s.heap.Ns b m → (hidT s.heap H).Ns b m := fun {b m} ⟨o, es, ep, e, dd, r⟩ =>
    ⟨o, es, ep, hidT_get e (fre b o e (fun xs n z => by rw [dd] at z; cases z) fun z => by rw [dd] at z; cases z), dd, r⟩
  have kin0 : K.In (hidT s.heap H) := fun b o e => hidT_get (kin b o e) (by
    cases q : H b with
    | none => rfl
    | some u =>
      rcases cl b u q with ⟨hb, _⟩ | ⟨hb, hk, _⟩
      · obtain ⟨p, hp, ep⟩ := ofT b hb
        rw [← ep, unk p hp] at e
        cases e
      · rw [hb, hk] at e
        cases e)
  have hok : HOk P w H s.heap := fun b u e => by
    rcases cl b u e with ⟨hb, eu⟩ | ⟨hb, _, eu⟩
    · rw [eu]
      exact tabT b hb
    · rw [eu, hb, hfz]
      exact ⟨scr, by rw [List.length_map]; exact le, vs, _, rv, scr⟩
  refine ⟨H, fun p hp => hT _ (inT p hp), ?_, kin0, ns0 gl, fun p hp => ⟨?_, ?_, fun z => ?_⟩, ⟨rfl, ⟨kin0, ns0 gl, ⟨mb, ns0 bl, bb⟩, let ⟨m, h1, h2⟩ := lim; ⟨m, ns0 h1, h2⟩⟩, fun b o e => of_hidT e, Nat.le_of_eq (hidT_size _ _), trivial, fun b hb => absurd (show b ∈ ([] : List Addr) from hb) (by simp), hok, .of_eq ng⟩,
    fun H' h' un hok' => ?_⟩
  · cases hk : K.lookup a with
    | none =>
      refine .inl (.inr ⟨{ cls := .type "list", data := .seq vs.toArray }, ?_⟩)
      show (if a ∈ T then some (HO.tbl #[]) else if a = a ∧ K.lookup a = none then some fz else none) = _
      rw [if_neg aT, if_pos ⟨rfl, hk⟩, hfz]
    | some o =>
      have e := (kin a o hk).symm.trans scr
      obtain rfl := Option.some.inj e
      exact .inr ⟨_, vs.toArray, _, hk, rfl, rfl, rfl, by rw [List.size_toArray, lenV]; exact le, by simpa using rv⟩
  · obtain ⟨o, us, file, tf, flags, tg, inF, text, tt, e1, r1, r2, r3, rest⟩ := hd p hp
    refine ⟨o, us, file, tf, flags, tg, inF, text, tt, hidT_get e1 (fre _ o e1 (fun xs n z => ?_) fun z => ?_), r1, r2, r3, rest⟩
    · rw [r2] at z
      cases z
    · rw [r2] at z
      cases z
      simp at r3
  · obtain ⟨m, o, b1, b2, b3, b4, b5, b6⟩ := bmod
    have n1 : m ≠ mainGlobals := fun z => by
      obtain ⟨o2, es, ep, e2, d2, _⟩ := gl
      rw [z, e2] at b3
      rw [Option.some.inj b3, b6] at d2
      cases d2
    have n2 : m ≠ p.2 := fun z => by
      rw [z, tab p hp] at b3
      rw [← Option.some.inj b3] at b6
      cases b6
    refine ⟨m, o, b1, b2, n1, n2, hidT_get b3 (fre _ o b3 (fun xs n z => ?_) fun z => ?_), b4, b5, b6⟩
    · rw [b6] at z
      cases z
    · rw [b6] at z
      cases z
  · obtain ⟨o2, es, ep, e2, d2, _⟩ := gl
    rw [z, tab p hp] at e2
    rw [← Option.some.inj e2] at d2
    cases d2
  · have keep : ∀ b o, b ∉ T → s.heap.get? b = some o → h'.get? b = some o := fun b o nb e => by
      cases q : H b with
      | none => exact un.keep b o e q (fun z => by cases z) fun z => by cases z
      | some u =>
        rcases cl b u q with ⟨hb, _⟩ | ⟨hb, _, eu⟩
        · exact absurd hb nb
        · rw [eu, hfz] at q
          have q2 := un.frzs b _ _ q
          obtain ⟨e2, _⟩ := hok' b _ q2
          rw [hb] at e e2 ⊢
          rw [← Option.some.inj (scr.symm.trans e)]
          exact e2
    have grow : ∀ p ∈ cs, ∃ more : Array Value, h'.get? p.2 = some { cls := .none, data := .fields more } := fun p hp => by
      obtain ⟨more, z⟩ := un.tbls p.2 #[] (hT _ (inT p hp))
      exact ⟨_, hok' p.2 _ z⟩
    refine ⟨fun b o e => ?_, fun b o e => ?_⟩
    · by_cases hb : b ∈ T
      · obtain ⟨p, hp, ep⟩ := ofT b hb
        obtain ⟨more, hm⟩ := grow p hp
        rw [← Option.some.inj ((tabT b hb).symm.trans e), ← ep]
        exact .inr (.inl ⟨((hd p hp).tab (tab p hp)).isCodeTable, rfl, #[], more, rfl, by rw [Array.empty_append]; exact hm⟩)
      · exact .inl (keep b o hb e)
    · by_cases hb : b ∈ T
      · obtain ⟨p, hp, ep⟩ := ofT b hb
        obtain ⟨more, hm⟩ := grow p hp
        exact ⟨_, ep ▸ hm⟩
      · exact ⟨o, keep b o hb e⟩
/-- the law's promise at a state, in M2 -/
def Law2At (l : PySem.W.OpenLaw) (w : World) (K : PySem.W.Frag) (k n : Nat) (x : Str) (mg : Str → Option Value) (fa : Addr) (h : Heap) : Prop :=
  ∃ (fd : FuncData) (cs : List (Addr × Addr)) (sp : Sp2), (∀ p ∈ cs, h.get? p.2 = some { cls := .none, data := .fields #[] }) ∧ (∀ p ∈ cs, K.lookup p.2 = none) ∧ (∀ p ∈ cs, PySem.W.CodeHd h p.1 p.2) ∧ (∀ (s : Shared) (u : Value), BindsTo s fd ⟨[u], []⟩ [(x, u)]) ∧
    (∀ (H : Hp) (a : Addr) (ns : List Int), ns.length ≤ n → (∀ z ∈ ns, Builtin.Int.intBits z ≤ 1048576) → (∀ p ∈ cs, H p.2 = some (.tbl #[])) → SqL K H a (ns.map V.int) → sp [.ref a] H fun v _ => v = .bl true) ∧
    ∀ base : Heap, K.In base → base.Ns mainGlobals mg → (∀ p ∈ cs, TabB base mg p.1 p.2) → Fn2 l.prog w K mg base k fa fd [x] sp
theorem walk2_of {l : PySem.W.OpenLaw} {n k : Nat} {q : Program} {loose : List Str} {XP : (Str → Option Value) → Heap → Prop} {YP : World → Heap → Prop} {d : DefRec} {x : Str} (hn : l.most = some n) (hn2 : n ≤ sizeLine) (hdf : d.params.defaults = []) (hr : Room k callerA)
    (F : ∀ (w : World) (mg : Str → Option Value) (fa : Addr) (h : Heap), YP w h → h.Ns mainGlobals mg → mg d.name = some (.ref fa) → ∃ K : PySem.W.Frag, K.In h ∧ Law2At l w K k n x mg fa h) : Walk2 q loose XP YP l.row.toRowW d [] := by
  intro w s0 s1 mg mb G Y fa o pm cd doc dV kV ho hd hcd hD hmg hg args vals as hpre hlay hrd hwl hlo
  obtain ⟨a, vs, ns, ea, ev, hobj, hints, hlen⟩ := Att.script_of hn hpre hwl
  subst ea ev
  obtain ⟨K, KX, fd, cs, sp, hT, nT, C, hb, hsp, hF⟩ := F w mg fa _ Y G.T.g hmg
  obtain ⟨H, h1, h2, h3, h4, h5, e0, hend⟩ := entry_facts (P := l.prog) (w := w) KX G.T.g G.T.b G.T.builtins G.T.nolimit hg hT nT C G.T.bmain hobj hints (Nat.le_trans hlen hn2)
  have hu : Unm s1 := fun y hy => by
    rw [hg] at hy
    exact absurd hy (by simp)
  refine wpAny_call (codeAny_mono ((hF _ h3 h4 h5).run callerA [] s1 H ⟨[.ref a], []⟩ [.ref a] [.ref a] _ hr rfl e0 hu (hb s1 (.ref a)) (.cons rfl .nil) (hsp H a ns hlen (Att.script_bits hlay) h1 h2)) fun r s' h => ?_)
  cases r with
  | error e => exact False.elim h
  | ok fl =>
    cases fl with
    | next => exact False.elim h
    | brk => exact False.elim h
    | cont => exact False.elim h
    | ret u =>
      obtain ⟨⟨v, H', os, bare, un, hok', r', q⟩, hu'⟩ := h
      have q' : v = .bl true := q
      subst q'
      obtain rfl : u = Value.bool true := r'
      exact ⟨⟨.inl ⟨.bool true, .bool true, [], rfl, fun _ => rfl, .bool true, Att.post_true l _, fun _ => ⟨List.Pairwise.nil, fun _ hm => (nomatch hm)⟩⟩, hend H' _ un hok', os, bare⟩, hu'⟩
end KQ

end KqEntry_text
section K51HC_text
set_option Elab.async false
set_option linter.all false
set_option maxRecDepth 100000
set_option maxHeartbeats 0
namespace K51
open PySem PySem.Spec PyProof.Rows L2 Kk KQ
theorem at_law {w : World} {h : Heap} {mg : Str → Option Value} {fa : Addr} (Y : hkH.says w h) (G : h.Ns mainGlobals mg) (hmg : mg "law" = some (.ref fa)) :
    ∃ K : PySem.W.Frag, K.In h ∧ Law2At PySem.Challenge.rw_kinkless_k51_whole_lines_counted w K 90 63 "_law_script" mg fa h := by
  obtain ⟨K, KX, c⟩ := Y
  have hm := c.more
  unfold exH at hm
  obtain ⟨b1, hm⟩ := ba2 hm
  obtain ⟨b2, hm⟩ := ba2 hm
  obtain ⟨b3, b4⟩ := ba2 hm
  have T : Tx K mg := tx_of KX G c.t.d (lineB_ok b1) b2 b3 b4
  obtain ⟨fdR, FR⟩ := c.t.d.def_ 44 (d := hd__law_lists_right) rfl
  obtain ⟨fdL, FL⟩ := c.t.d.def_ 45 (d := hd_law) rfl
  have e1 := hmg.symm.trans (He.glo_ok KX G (c.t.d.fact 39 (f := .glo "law") rfl))
  cases e1
  have FL' : FunD K "law" "law" (defArgs s_law) (defBody s_law) (defScope s_law) [] [] (He.ga K "law") fdL := FL
  have bL := FunD.bindsA (ps := ["_law_script"]) FL' fun _ _ _ _ _ _ us hl => match us, hl with | [_], _ => rfl
  obtain ⟨cc, ec⟩ : ∃ cc, fdR.code = .ref cc := by
    obtain ⟨oc, od, dV, kV, doc, pm, an, cdv, ct, osl, e1, lk, hcd, _, _⟩ := FR.ex
    obtain ⟨cc, ec⟩ := He.codeIn_ref hcd
    exact ⟨cc, by rw [e1]; exact ec⟩
  have eC : He.codeOf K ("_law_lists_right", none) = cc := by
    obtain ⟨oc, od, dV, kV, doc, pm, an, cdv, ct, osl, e1, lk, hcd, _, _⟩ := FR.ex
    exact He.codeOf_eq lk ec
  refine ⟨K, KX, fdL, [He.cT K ("_law_lists_right", none)], sp_law K (He.cT K ("_law_lists_right", none)).2, ?_, ?_, ?_, fun s v => bL s [v] rfl, ?_, ?_⟩
  · intro p hp
    rw [List.mem_singleton.mp hp]
    exact c.empty _ (List.mem_singleton.mpr rfl)
  · intro p hp
    rw [List.mem_singleton.mp hp]
    exact c.out _ (List.mem_singleton.mpr rfl)
  · intro p hp
    rw [List.mem_singleton.mp hp]
    exact PySem.W.codeHd_of_K KX (c.hd _ (List.mem_singleton.mpr rfl))
  · intro H a ns hl _ hT hS
    refine ⟨a, ns, rfl, hS, Nat.le_trans hl (by decide), fun p hp => ?_, fun _ => rfl⟩
    rw [List.mem_singleton.mp hp]
    exact ⟨#[], hT _ (List.mem_singleton.mpr rfl), trivial, fun pos cv hc => by cases hc⟩
  · intro base _ _ hTB
    have TB := hTB _ (List.mem_singleton.mpr rfl)
    have TB' : LamX.TabB base mg cc (He.cT K ("_law_lists_right", none)).2 := by
      rw [← eC]
      exact TB
    have FR' : FunD K "_law_lists_right" "_law_lists_right" (defArgs s__law_lists_right) (defBody s__law_lists_right) (defScope s__law_lists_right) [] [] (He.ga K "_law_lists_right") fdR := FR
    exact d_law T plain rfl FL' ⟨_, _, d__law_lists_right T ec TB' FR', (He.glo_ok KX G (c.t.d.fact 38 (f := .glo "_law_lists_right") rfl)), FR'.kp, FR'.bindsN fun _ _ _ _ _ _ us hl => match us, hl with | [_, _, _], _ => rfl⟩
end K51
open PySem PySem.W PySem.Calls PyProof.Rows
theorem PySem.Challenge.cw_kinkless_k51_whole_lines_counted_holds : PySem.Challenge.rw_kinkless_k51_whole_lines_counted.Holds := by
  w_on; o_law
  refine KQ.head2 (r := OpenLaw.row PySem.Challenge.rw_kinkless_k51_whole_lines_counted) (q := view (OpenLaw.row PySem.Challenge.rw_kinkless_k51_whole_lines_counted).prog [64]) (H := K51.hkH) (ob := K51.obH) (M := 8000) (loose := K51.looseH) (d := HandSHeadRun.topDef (OpenLaw.row PySem.Challenge.rw_kinkless_k51_whole_lines_counted).prog 64) (kwd := []) K51.obH_eq
    (by kernel_rfl) (fun s => by kernel_rfl) K51.runH (by kernel_rfl) (by kernel_rfl) (by kernel_rfl) (by rfl) (by first | assumption | decide +kernel) (by decide +kernel) ⟨rfl, rfl, rfl, rfl, rfl, by decide +kernel⟩ ?hw ?hc
  case hw => w_witness2
  case hc =>
    refine KQ.walk2_of (l := PySem.Challenge.rw_kinkless_k51_whole_lines_counted) (n := 63) (k := 90) (x := "_law_script") rfl (by decide) (by kernel_rfl) ⟨rfl, by decide, by decide⟩ ?F
    intro w mg fa h Y G hmg0
    have hmg : mg ("law" : PySem.Str) = some (.ref fa) := by
      have e : (HandSHeadRun.topDef (OpenLaw.row PySem.Challenge.rw_kinkless_k51_whole_lines_counted).prog 64).name = ("law" : PySem.Str) := by kernel_rfl
      rw [← e]
      exact hmg0
    exact K51.at_law Y G hmg

end K51HC_text
