import PyProof.Rows.All
import Wide.All
import OpenK.AllK
import Wide.FinOn
import HandS.ForMost
import HandS.TupAny
import HandS.TupMul
import HandS.IsInst
import HandS.Defaults
import HandS.Evl
import KE.KTupSum
import KE.KStateDown
import KE.KDictKeyed
import HandS.Walk
import HandS.TupLen
import HandS.Style
import PyProof.Draws
import HandS.ExcInit
import HandS.ExcCtx
import HandS.HotCalls
import HandS.ExcField
import HandS.ExcIs
import HandS.Nested
import KE.KDflt
import KE.KExcIs
import HandS.HeadHook4
import PyProof.StrOps2
import HandS.HeadHook1
import HandS.HeadHook2
import HandS.HeadHook3
import HandS.NestedK
import HandS.HeadWalk
import HandS.Head0
import HandS.Head1
import HandS.Head2
import HandS.HeadEnd
import PySem.Challenge.RW_beatwatch_k01_lines_and_rules_refused
set_option Elab.async false
set_option linter.all false
set_option maxRecDepth 100000
set_option maxHeartbeats 4000000
namespace Bw
open PySem PySem.Spec PyProof.Rows L2
/-! ### own rules -/
section
variable {X : Cx}
/-- sum of a tuple of ints -/
def rSumT (K : PySem.W.Frag) : List V → Hp → VK → Prop := fun vs H Q => ∃ (a : Addr) (ns : List Int), vs = [V.ref a] ∧ SqT K H a (ns.map V.int) ∧ Q (.int ns.sum) H
theorem cr_sumT (hc : X.calm = true) : CallR X (.builtin "sum") (rSumT X.K) := by
  intro pins s σ H vs us Q I r h
  obtain ⟨a, ns, rfl, hs, q⟩ := h
  obtain ⟨its, rv, hl, _⟩ := I.tuple hs
  rw [Vals.ref1 r]
  have hi := rv.ints
  obtain ⟨xs, e⟩ := hi.allInts.items
  have hn : numsOf (intItems xs).toList = ns := by rw [← e]; exact hi.numsOf
  rw [nums_intItems] at hn
  rw [e] at hl
  refine PySem.W.ktm_sumG (I.ok.hd hc) hl fun h' tk t' hk => ?_
  have z : EP X pins σ Q (.int ns.sum t') { s with heap := h', toks := tk } := ⟨.int _, H, I.kept hk, ⟨_, rfl⟩, q⟩
  rw [preSum_eq, List.take_of_length_le (by simp), hn]
  exact z
end
section
variable {X : Cx}
theorem pe_gI {x : Str} {i : Int} {t : Tok} {pos : Pos} (hg : Gl X x) (hm : X.mg x = some (.int i t)) (hd : (x == ("__debug__" : Str)) = false := by decide) : PE X (.Name x pos) (tC (.int i)) := pe_glob (v := .int i) hg hm ⟨_, rfl⟩ hd
theorem pe_gS {x : Str} {i : Str} {t : Tok} {pos : Pos} (hg : Gl X x) (hm : X.mg x = some (.str i t)) (hd : (x == ("__debug__" : Str)) = false := by decide) : PE X (.Name x pos) (tC (.str i)) := pe_glob (v := .str i) hg hm ⟨_, rfl⟩ hd
theorem pe_gR {x : Str} {a : Addr} {pos : Pos} (hg : Gl X x) (hm : X.mg x = some (.ref a)) (hd : (x == ("__debug__" : Str)) = false := by decide) : PE X (.Name x pos) (tC (.ref a)) := pe_glob (v := .ref a) hg hm rfl hd
end
/-! ### tests -/
theorem iteD {c A B : Prop} [Decidable c] (h1 : c → A) (h2 : ¬ c → B) : if decide c = true then A else B := by
  by_cases h : c
  · rw [decide_eq_true h]
    exact iteT (h1 h)
  · rw [decide_eq_false h]
    exact iteF (h2 h)
theorem iteN {c A B : Prop} [Decidable c] (h1 : ¬ c → A) (h2 : c → B) : if (!decide c) = true then A else B := by
  by_cases h : c
  · rw [decide_eq_true h]
    exact iteF (h2 h)
  · rw [decide_eq_false h]
    exact iteT (h1 h)
theorem iteB {c : Bool} {A B : Prop} (h1 : c = true → A) (h2 : c = false → B) : if c = true then A else B := by
  cases c with
  | true => exact iteT (h1 rfl)
  | false => exact iteF (h2 rfl)
theorem nat_at {i n : Nat} (h : i < n) (hn : n ≤ sizeLine) : seqIndex? (i : Int) n = some i := by
  have h1 : ixN n (i : Int) = some i := by
    unfold ixN
    rw [if_pos (by omega), if_pos (by omega)]
    rfl
  exact (ixN_seq h1).1
theorem ixN_nat {i n : Nat} (h : i < n) : ixN n (i : Int) = some i := by
  unfold ixN
  rw [if_pos (by omega), if_pos (by omega)]
  rfl
/-! ### a def by its name -/
structure Has (P : Program) (w : World) (K : PySem.W.Frag) (mg : Str → Option Value) (base : Heap) (k : Nat) (x : Str) (ps : List Str) (sp : Sp) : Prop where
  ex : ∃ f fd, mg x = some (.ref f) ∧ PySem.W.keepIn K (.ref f) = true ∧ Binds K fd ps [] ∧ FnOk P w K mg base CX0 k f fd ps sp
theorem pe_fn {X : Cx} {j k : Nat} {x : Str} {ps : List Str} {sp : Sp} {e : Expr} {es : List Expr} {t : TA} {p pos : Pos} (h : Has X.prog X.w X.K X.mg X.base j x ps sp) (hr : Room k X.A) (hg : Gl X x) (ha : PA X (e :: es) t)
    (hjk : j ≤ k := by decide) (hdb : (x == ("__debug__" : Str)) = false := by decide) (he : starEach (e :: es) X.env = (false, eval e X.env) :: starEach es X.env := by rfl) (hpl : (backTo pos (starEach es X.env)).any (·.1) = false := by rfl) :
    PE X (.Call (.Name x p) (e :: es) [] pos) (tCall sp [] E0 t) := by
  obtain ⟨f, fd, hm, hk, hb, F⟩ := h.ex
  exact pe_call F (hr.mono hjk) hg hm hk hb .nil pass0 ha hdb he hpl
/-- a method of a class by its name -/
structure HasM (P : Program) (w : World) (K : PySem.W.Frag) (mg : Str → Option Value) (base : Heap) (k : Nat) (C : Addr) (m : Str) (ps : List Str) (sp : Sp) : Prop where
  ex : ∃ f fd, Cls K C ∧ Meth K C m f ∧ Binds K fd ps [] ∧ FnOk P w K mg base CX0 k f fd ps sp
theorem pe_mth {X : Cx} {j k : Nat} {C : Addr} {m : Str} {ps : List Str} {sp : Sp} {o e : Expr} {es : List Expr} {ta : TE} {t : TA} {apos pos : Pos} {pl : Sem Bool} (h : HasM X.prog X.w X.K X.mg X.base j C m ps sp) (ho : PE X o ta) (hr : Room k X.A) (ha : PA X (e :: es) t)
    (hjk : j ≤ k := by decide) (hst : starEach (e :: es) X.env = (false, eval e X.env) :: starEach es X.env := by rfl) (hpl : (backTo pos (starEach es X.env)).any (·.1) = false := by rfl)
    (ht : eval (.Call (.Attribute o m apos) (e :: es) [] pos) X.env = (do
      let ov ← eval o X.env
      standAt apos.atName
      let (f, first) ← holding [ov] (getMethod ov m pl)
      callWith pos f first (backTo pos (starEach (e :: es) X.env)) (backToKw pos (keywordEach [] X.env))) := by rfl) :
    PE X (.Call (.Attribute o m apos) (e :: es) [] pos) (tMeth C m sp [] E0 ta t) := by
  obtain ⟨f, fd, hc, hm, hb, F⟩ := h.ex
  exact pe_meth ho hc hm F (hr.mono hjk) hb .nil pass0 ha hst hpl ht
/-- a class that is made by its __init__ -/
structure HasC (P : Program) (w : World) (K : PySem.W.Frag) (mg : Str → Option Value) (base : Heap) (k : Nat) (x : Str) (C : Addr) (ps : List Str) (sp : Sp) : Prop where
  ex : ∃ f fd, Mk K C f ∧ mg x = some (.ref C) ∧ Binds K fd ps [] ∧ FnOk P w K mg base CX0 k f fd ps sp
theorem pe_new {X : Cx} {j k : Nat} {x : Str} {C : Addr} {ps : List Str} {sp : Sp} {e : Expr} {es : List Expr} {t : TA} {p pos : Pos} (h : HasC X.prog X.w X.K X.mg X.base j x C ps sp) (hr : Room k X.A) (hg : Gl X x) (ha : PA X (e :: es) t)
    (hjk : j + 1 ≤ k := by decide) (hdb : (x == ("__debug__" : Str)) = false := by decide) (he : starEach (e :: es) X.env = (false, eval e X.env) :: starEach es X.env := by rfl) (hpl : (backTo pos (starEach es X.env)).any (·.1) = false := by rfl) :
    PE X (.Call (.Name x p) (e :: es) [] pos) (tMake C sp [] E0 t) := by
  obtain ⟨f, fd, M, hm, hb, F⟩ := h.ex
  exact pe_make M F (hr.mono hjk) hg hm hb .nil pass0 ha hdb he hpl
/-- a def of the text -/
abbrev FnP (K : PySem.W.Frag) (x : Str) (st : Stmt) (f : Addr) (fd : FuncData) : Prop := FunD K x x (defArgs st) (defBody st) (defScope st) [] [] f fd
abbrev FnQ (K : PySem.W.Frag) (x q : Str) (st : Stmt) (f : Addr) (fd : FuncData) : Prop := FunD K x q (defArgs st) (defBody st) (defScope st) [] [] f fd
end Bw

set_option Elab.async false
set_option linter.all false
set_option maxRecDepth 100000
set_option maxHeartbeats 4000000
namespace Bw
open PySem PySem.Spec PyProof.Rows L2
/-! ### heaps -/
theorem _root_.L2.Same.tupB {K : PySem.W.Frag} {H H' : Hp} {a : Addr} {xs : List V} (e : Same H H') (h : SqT K H a xs) : SqT K H' a xs := by
  rcases h with (h | ⟨o, h⟩) | h
  · exact .inl (.inl (e _ _ h))
  · exact .inl (.inr ⟨o, e _ _ h⟩)
  · exact .inr h
theorem _root_.L2.Same.newB {H : Hp} {p : Addr} {o : HO} (h : H p = none) : Same H (upd H p o) := fun a u e => by
  rw [upd_ne (ne_of_none e h)]
  exact e
theorem _root_.L2.Same.moreB {H H' : Hp} {p : Addr} {o : HO} (e : Same H H') (h : H' p = none) : Same H (upd H' p o) := e.trans (Same.newB h)
/-- an object that H doesn't know may change -/
theorem _root_.L2.Same.mutB {H H' : Hp} {p : Addr} {o : HO} (e : Same H H') (h : H p = none) : Same H (upd H' p o) := fun a u ha => by
  rw [upd_ne (ne_of_none ha h)]
  exact e a u ha
/-! ### the draws -/
def DiceL (xs : List V) : Prop := ∃ (a b : Int) (r : List Int), xs = V.int a :: V.int b :: r.map V.int
def DiceAt (H : Hp) (d : Addr) : Prop := ∃ xs, H d = some (.lst xs) ∧ DiceL xs
/-- from H to H' all is kept but the draws at d -/
structure Dr (d : Addr) (H H' : Hp) : Prop where
  dice : DiceAt H' d
  keep : ∀ b o, b ≠ d → H b = some o → H' b = some o
section
variable {d : Addr} {H H1 H2 : Hp}
theorem Dr.refl (h : DiceAt H d) : Dr d H H := ⟨h, fun _ _ _ e => e⟩
theorem Dr.trans (a : Dr d H H1) (b : Dr d H1 H2) : Dr d H H2 := ⟨b.dice, fun c o n e => b.keep c o n (a.keep c o n e)⟩
theorem DiceAt.ne {p : Addr} (h : DiceAt H d) (e : H p = none) : p ≠ d := by
  rintro rfl
  obtain ⟨xs, h1, _⟩ := h
  rw [h1] at e
  cases e
theorem DiceAt.same (h : DiceAt H d) (s : Same H H1) : DiceAt H1 d := let ⟨xs, h1, h2⟩ := h; ⟨xs, s _ _ h1, h2⟩
theorem Dr.same (a : Dr d H H1) (s : Same H1 H2) : Dr d H H2 := ⟨a.dice.same s, fun c o n e => s c o (a.keep c o n e)⟩
theorem Dr.ofSame (a : DiceAt H d) (s : Same H H1) : Dr d H H1 := (Dr.refl a).same s
theorem Dr.new {p : Addr} {o : HO} (a : Dr d H H1) (e : H1 p = none) : Dr d H (upd H1 p o) := a.same (Same.newB e)
theorem Dr.free {p : Addr} (a : Dr d H H1) (e : H1 p = none) : H p = none := by
  cases h : H p with
  | none => rfl
  | some o => rw [a.keep p o (a.dice.ne e) h] at e; cases e
theorem Dr.tup {K : PySem.W.Frag} {p : Addr} {xs : List V} (a : Dr d H H1) (hd : DiceAt H d) (h : SqT K H p xs) : SqT K H1 p xs := by
  obtain ⟨ys, h1, _⟩ := hd
  rcases h with (h | ⟨o, h⟩) | h
  · exact .inl (.inl (a.keep _ _ (ne_of h h1 (by intro z; cases z)) h))
  · exact .inl (.inr ⟨o, a.keep _ _ (ne_of h h1 (by intro z; cases z)) h⟩)
  · exact .inr h
theorem Dr.set {xs ys : List V} (h : H d = some (.lst xs)) (hy : DiceL ys) : Dr d H (upd H d (.lst ys)) := ⟨⟨ys, upd_same, hy⟩, fun b o n e => by rw [upd_ne n]; exact e⟩
end
def spDice (K : PySem.W.Frag) : Sp := fun vs H Q _ => ∃ (a : Addr) (k : Int) (ns : List Int), vs = [.ref a, .int k] ∧ SqL K H a (ns.map V.int) ∧ ns.length ≤ 63 ∧
  ∀ p H', Same H H' → H p = none → DiceAt H' p → Q (.ref p) H'
def spOff : Sp := fun vs H Q _ => ∃ (d : Addr) (m : Int), vs = [.ref d, .int m] ∧ DiceAt H d ∧ 0 < m ∧ m < 1073741824 ∧ ∀ (r : Int) (H' : Hp), 0 ≤ r → r < m → Dr d H H' → Q (.int r) H'
/-! ### rules -/
inductive Rule where
  | since (n : Nat)
  | few (w m : Nat)
def Rule.ok : Rule → Prop
  | .since n => 1 ≤ n ∧ n ≤ 12
  | .few w m => 1 ≤ w ∧ w ≤ 5 ∧ 1 ≤ m ∧ m ≤ 3
def Rule.vs : Rule → List V
  | .since n => [.str "since", .int n]
  | .few w m => [.str "few", .int w, .int m]
/-- r[1] -/
def Rule.wide : Rule → Nat
  | .since n => n
  | .few w _ => w
theorem since_few : ¬ (("since" : Str) = "few") := by decide +kernel
theorem few_since : ¬ (("few" : Str) = "since") := by decide +kernel
def spRule : Sp := fun vs H Q _ => ∃ (d : Addr), vs = [.ref d] ∧ DiceAt H d ∧ ∀ (r : Rule) (p : Addr) (H' : Hp), r.ok → Dr d H H' → H p = none → H' p = some (.tup r.vs) → Q (.ref p) H'
/-! ### what a watcher keeps -/
def lastN (w : Nat) (l : List Int) : List Int := l.drop (l.length - w)
def nextS : Rule → List Int → Int → List Int
  | .since n, st, many => if many > 0 then [0] else [if st.headD 0 + 1 < (n : Int) then st.headD 0 + 1 else (n : Int)]
  | .few w _, st, many => lastN w (st ++ [many])
def firstS : Rule → List Int
  | .since _ => [0]
  | .few _ _ => []
def goneS : Rule → List Int → Bool
  | .since n, st => decide ((n : Int) ≤ st.headD 0)
  | .few w m, st => decide ((st.length : Int) = (w : Int)) && decide (st.sum < (m : Int))
def StOk : Rule → List Int → Prop
  | .since _, st => ∃ k, st = [k]
  | .few w _, st => st.length ≤ w
theorem stOk_first (r : Rule) : StOk r (firstS r) := by
  cases r with
  | since n => exact ⟨0, rfl⟩
  | few w m => exact Nat.zero_le _
theorem stOk_next (r : Rule) (st : List Int) (many : Int) : StOk r (nextS r st many) := by
  cases r with
  | since n =>
    show ∃ k, (if many > 0 then [0] else [if st.headD 0 + 1 < (n : Int) then st.headD 0 + 1 else (n : Int)]) = [k]
    by_cases h : many > 0
    · rw [if_pos h]
      exact ⟨_, rfl⟩
    · rw [if_neg h]
      exact ⟨_, rfl⟩
  | few w m =>
    show (lastN w (st ++ [many])).length ≤ w
    unfold lastN
    rw [List.length_drop]
    omega
/-- behind what was heard -/
def stOf (r : Rule) (hs : List Int) : List Int := hs.foldl (nextS r) (firstS r)
theorem stOf_snoc (r : Rule) (hs : List Int) (m : Int) : stOf r (hs ++ [m]) = nextS r (stOf r hs) m := by
  unfold stOf
  rw [List.foldl_append]
  rfl
theorem stOk_of (r : Rule) (hs : List Int) : StOk r (stOf r hs) := by
  rcases List.eq_nil_or_concat hs with rfl | ⟨l, a, rfl⟩
  · exact stOk_first r
  · rw [List.concat_eq_append, stOf_snoc]
    exact stOk_next r _ a
/-- the other one is gone by a rule, behind what was heard -/
def goneH : Rule → List Int → Bool
  | .since n, hs => decide (n ≤ hs.length) && decide ((lastN n hs).filter (fun m => decide (0 < m)) = [])
  | .few w m, hs => decide (w ≤ hs.length) && decide ((lastN w hs).sum < (m : Int))
theorem snoc_ind {α : Type} {P : List α → Prop} (h0 : P []) (hs : ∀ l a, P l → P (l ++ [a])) (l : List α) : P l := by
  have key : ∀ n (l : List α), l.length = n → P l := by
    intro n
    induction n with
    | zero => intro l e; rw [List.length_eq_zero_iff.mp e]; exact h0
    | succ n ih =>
      intro l e
      rcases List.eq_nil_or_concat l with rfl | ⟨l', a, rfl⟩
      · exact h0
      · rw [List.concat_eq_append] at e ⊢
        rw [List.length_append] at e
        exact hs l' a (ih l' (by simpa using e))
  exact key _ l rfl
/-- how many moments at the end were silent -/
def quiet : List Int → Nat := fun l => (l.reverse.takeWhile fun m => decide (m ≤ 0)).length
theorem quiet_nil : quiet [] = 0 := rfl
theorem quiet_snoc (l : List Int) (m : Int) : quiet (l ++ [m]) = if m > 0 then 0 else quiet l + 1 := by
  unfold quiet
  rw [List.reverse_append]
  show (List.takeWhile _ (m :: l.reverse)).length = _
  rw [List.takeWhile_cons]
  by_cases h : m > 0
  · rw [if_pos h, if_neg (by simp; omega)]
    rfl
  · rw [if_neg h, if_pos (by simp; omega)]
    rfl
theorem since_is (n : Nat) (hs : List Int) : stOf (.since n) hs = [((min n (quiet hs) : Nat) : Int)] := by
  refine snoc_ind (P := fun hs => stOf (.since n) hs = [((min n (quiet hs) : Nat) : Int)]) ?_ ?_ hs
  · show [(0 : Int)] = _
    rw [quiet_nil, Nat.min_zero]
    rfl
  · intro l a ih
    rw [stOf_snoc, ih, quiet_snoc]
    show (if a > 0 then [0] else [if (((min n (quiet l) : Nat) : Int)) + 1 < (n : Int) then (((min n (quiet l) : Nat) : Int)) + 1 else (n : Int)]) = _
    by_cases h : a > 0
    · rw [if_pos h, if_pos h, Nat.min_zero]
      rfl
    · rw [if_neg h, if_neg h]
      congr 1
      split <;> omega
theorem lastN_len (w : Nat) (l : List Int) : (lastN w l).length = min w l.length := by
  unfold lastN
  rw [List.length_drop]
  omega
theorem lastN_snoc (w : Nat) (l : List Int) (a : Int) (hw : 1 ≤ w) : lastN w (lastN w l ++ [a]) = lastN w (l ++ [a]) := by
  unfold lastN
  rw [List.length_append, List.length_append, List.length_drop, List.drop_append, List.drop_append, List.drop_drop, List.length_drop]
  simp only [List.length_singleton]
  congr 1
  · congr 1
    omega
  · congr 1
    omega
theorem few_is (w m : Nat) (hw : 1 ≤ w) (hs : List Int) : stOf (.few w m) hs = lastN w hs := by
  refine snoc_ind (P := fun hs => stOf (.few w m) hs = lastN w hs) ?_ ?_ hs
  · show ([] : List Int) = lastN w []
    unfold lastN
    rw [List.drop_nil]
  · intro l a ih
    rw [stOf_snoc, ih]
    exact lastN_snoc w l a hw
theorem quiet_le (l : List Int) : quiet l ≤ l.length := by
  refine snoc_ind (P := fun l => quiet l ≤ l.length) ?_ ?_ l
  · exact Nat.le_refl _
  · intro l a ih
    rw [quiet_snoc, List.length_append]
    split <;> simp <;> omega
theorem quiet_iff (n : Nat) (hs : List Int) : n ≤ quiet hs ↔ n ≤ hs.length ∧ (lastN n hs).filter (fun m => decide (0 < m)) = [] := by
  revert n
  refine snoc_ind (P := fun hs => ∀ n, n ≤ quiet hs ↔ n ≤ hs.length ∧ (lastN n hs).filter (fun m => decide (0 < m)) = []) ?_ ?_ hs
  · intro n
    rw [quiet_nil]
    constructor
    · intro h
      refine ⟨h, ?_⟩
      unfold lastN
      rw [List.drop_nil]
      rfl
    · intro h
      exact h.1
  · intro l a ih n
    rw [quiet_snoc, List.length_append, List.length_singleton]
    cases n with
    | zero =>
      constructor
      · intro _
        refine ⟨Nat.zero_le _, ?_⟩
        unfold lastN
        rw [Nat.sub_zero, List.drop_length]
        rfl
      · intro _
        exact Nat.zero_le _
    | succ n =>
      have e : n + 1 ≤ l.length + 1 → lastN (n + 1) (l ++ [a]) = lastN n l ++ [a] := by
        intro h
        unfold lastN
        rw [List.length_append, List.length_singleton, List.drop_append]
        have h1 : l.length + 1 - (n + 1) = l.length - n := by omega
        have h2 : l.length - n - l.length = 0 := by omega
        rw [h1, h2]
        rfl
      by_cases h : a > 0
      · rw [if_pos h]
        constructor
        · intro q
          omega
        · rintro ⟨h1, h2⟩
          rw [e h1, List.filter_append] at h2
          have h3 := (List.append_eq_nil_iff.mp h2).2
          rw [List.filter_cons, if_pos (by simpa using h)] at h3
          cases h3
      · rw [if_neg h]
        have hi := ih n
        constructor
        · intro q
          obtain ⟨h1, h2⟩ := hi.mp (by omega)
          refine ⟨by omega, ?_⟩
          rw [e (by omega), List.filter_append, h2, List.filter_cons, if_neg (by simpa using h)]
          rfl
        · rintro ⟨h1, h2⟩
          rw [e h1, List.filter_append] at h2
          have h3 := hi.mpr ⟨by omega, (List.append_eq_nil_iff.mp h2).1⟩
          omega
theorem gone_is (r : Rule) (hr : r.ok) (hs : List Int) : goneS r (stOf r hs) = goneH r hs := by
  cases r with
  | since n =>
    rw [since_is]
    show decide ((n : Int) ≤ ((min n (quiet hs) : Nat) : Int)) = (decide (n ≤ hs.length) && decide ((lastN n hs).filter (fun m => decide (0 < m)) = []))
    rw [← Bool.decide_and]
    refine decide_eq_decide.mpr ?_
    rw [← quiet_iff]
    omega
  | few w m =>
    rw [few_is w m hr.1]
    show (decide (((lastN w hs).length : Int) = (w : Int)) && decide ((lastN w hs).sum < (m : Int))) = (decide (w ≤ hs.length) && decide ((lastN w hs).sum < (m : Int)))
    congr 1
    refine decide_eq_decide.mpr ?_
    rw [lastN_len]
    omega
/-! ### alike -/
inductive Dn : Nat → PyData → Prop where
  | non (n : Nat) : Dn n .none
  | bool (n : Nat) (b : Bool) : Dn n (.bool b)
  | int (n : Nat) (i : Int) : Dn n (.int i)
  | str (n : Nat) (x : Str) : Dn n (.str x)
  | list (n : Nat) (ds : List PyData) (hl : ds.length ≤ 20000) (h : ∀ d ∈ ds, Dn n d) : Dn (n + 1) (.list ds)
  | tuple (n : Nat) (ds : List PyData) (hl : ds.length ≤ 20000) (h : ∀ d ∈ ds, Dn n d) : Dn (n + 1) (.tuple ds)
def spAlike (K : PySem.W.Frag) (n : Nat) : Sp := fun vs H Q _ => ∃ (x y : V) (D : PyData), vs = [x, y] ∧ Dp K H x D ∧ Dp K H y D ∧ Dn n D ∧ ∀ H', Same H H' → Q (.bl true) H'
def spAlikeN (K : PySem.W.Frag) : Nat → Sp
  | 0 => fun _ _ _ _ => False
  | n + 1 => spAlike K n
theorem Dp.same {K : PySem.W.Frag} {H H' : Hp} (s : Same H H') : ∀ (d : PyData) (v : V), Dp K H v d → Dp K H' v d := by
  intro d v h
  refine Dp.rec (K := K) (H := H) (motive_1 := fun v d _ => Dp K H' v d) (motive_2 := fun vs ds _ => DpAll K H' vs ds) ?_ ?_ ?_ ?_ ?_ ?_ ?_ ?_ h
  · exact .non
  · exact fun b => .bl b
  · exact fun b => .int b
  · exact fun b => .str b
  · exact fun h1 _ h2 => .lst (s.seq h1) h2
  · exact fun h1 _ h2 => .tup (s.tupB h1) h2
  · exact .nil
  · exact fun _ _ h1 h2 => .cons h1 h2
theorem DpAll.len {K : PySem.W.Frag} {H : Hp} : ∀ {vs : List V} {ds : List PyData}, DpAll K H vs ds → vs.length = ds.length
  | _, _, .nil => rfl
  | _, _, .cons _ h => congrArg Nat.succ (DpAll.len h)
theorem DpAll.get {K : PySem.W.Frag} {H : Hp} : ∀ {vs : List V} {ds : List PyData} {i : Nat}, DpAll K H vs ds → i < ds.length → ∃ v d, vs[i]? = some v ∧ ds[i]? = some d ∧ Dp K H v d
  | _, _, _, .nil, h => absurd h (Nat.not_lt_zero _)
  | _, _, 0, .cons h _, _ => ⟨_, _, rfl, rfl, h⟩
  | _, _, i + 1, .cons _ h, hi => DpAll.get (i := i) h (Nat.lt_of_succ_lt_succ hi)
theorem tyx_list {K : PySem.W.Frag} {H : Hp} {a : Addr} {xs : List V} (h : SqL K H a xs) : TyX K H (.ref a) (.type "list") := by
  rcases h with (h | ⟨o, h⟩) | ⟨o, its, n, h, c, _⟩
  · exact .base (.lst h)
  · exact .base (.frz h)
  · exact .kList h c
theorem tyx_tup {K : PySem.W.Frag} {H : Hp} {a : Addr} {xs : List V} (h : SqT K H a xs) : TyX K H (.ref a) (.type "tuple") := by
  rcases h with (h | ⟨o, h⟩) | ⟨o, its, n, h, c, _⟩
  · exact .base (.tup h)
  · exact .fTuple h
  · exact .kTuple h c
theorem rd_isi {K : PySem.W.Frag} {H : Hp} {x : V} {a b : String} {r : Bool} {Q : VK} (ty : TyX K H x (.type a)) (h : kitB a b = some r) (q : Q (.bl r) H) : rIsi K [x, .ty b] H Q := ⟨x, .ty b, _, _, r, rfl, .ty b, ty, kit_ty h, q⟩
theorem qd {c : Prop} [Decidable c] {Q : VK} {H : Hp} (hc : c) (q : Q (.bl true) H) : Q (.bl (decide c)) H := by
  rw [decide_eq_true hc]
  exact q
theorem qb {a b : Bool} {Q : VK} {H : Hp} (e : a = b) (q : Q (.bl a) H) : Q (.bl b) H := by
  rw [← e]
  exact q
theorem int_at {ns : List Int} {i : Nat} {y : V} (h : (ns.map V.int)[i]? = some y) : ∃ z, ns[i]? = some z ∧ y = V.int z := by
  rw [List.getElem?_map] at h
  cases e : ns[i]? with
  | none => rw [e] at h; cases h
  | some z => rw [e] at h; exact ⟨z, rfl, (Option.some.inj h).symm⟩
theorem szle {n : Nat} (h : n ≤ 100000) : n ≤ sizeLine := Nat.le_trans h (by decide)
theorem szlt {n : Nat} (h : n < 100000) : n < sizeLine := Nat.lt_of_lt_of_le h (by decide)
theorem fnOk_false {P : Program} {w : World} {K : PySem.W.Frag} {mg : Str → Option Value} {base : Heap} {CX : CXT} {k : Nat} {f : Addr} {fd : FuncData} {ps : List Str} : FnOk P w K mg base CX k f fd ps (fun _ _ _ _ => False) :=
  ⟨fun _ _ _ _ h => h.elim, fun _ _ _ _ _ _ _ _ _ _ _ _ _ h => h.elim⟩
/-! ### what is a rule -/
def isRuleB (x : Str) : List Int → Bool
  | [n] => decide (x = "since") && (decide (1 ≤ n) && decide (n ≤ 12))
  | [a, b] => decide (x = "few") && ((decide (1 ≤ a) && decide (a ≤ 5)) && (decide (1 ≤ b) && decide (b ≤ 3)))
  | _ => false
def spIsRule (K : PySem.W.Frag) : Sp := fun vs H Q _ => ∃ (q : Addr) (x : Str) (ns : List Int), vs = [.ref q] ∧ SqT K H q (.str x :: ns.map V.int) ∧ ((∃ a, ns = [a]) ∨ ∃ a b, ns = [a, b]) ∧ Q (.bl (isRuleB x ns)) H
theorem Rule.raw (r : Rule) (h : r.ok) : ∃ (x : Str) (ns : List Int), r.vs = .str x :: ns.map V.int ∧ ((∃ a, ns = [a]) ∨ ∃ a b, ns = [a, b]) ∧ isRuleB x ns = true := by
  cases r with
  | since n =>
    refine ⟨"since", [(n : Int)], rfl, .inl ⟨_, rfl⟩, ?_⟩
    have h1 : 1 ≤ n ∧ n ≤ 12 := h
    simp only [isRuleB, decide_true, Bool.true_and, Bool.and_eq_true, decide_eq_true_eq]
    omega
  | few a b =>
    refine ⟨"few", [(a : Int), (b : Int)], rfl, .inr ⟨_, _, rfl⟩, ?_⟩
    have h1 : 1 ≤ a ∧ a ≤ 5 ∧ 1 ≤ b ∧ b ≤ 3 := h
    simp only [isRuleB, decide_true, Bool.true_and, Bool.and_eq_true, decide_eq_true_eq]
    omega
def spNeedRule (K : PySem.W.Frag) : Sp := fun vs H Q _ => ∃ (q : Addr) (r : Rule), vs = [.ref q] ∧ SqT K H q r.vs ∧ r.ok ∧ Q .non H
def spNext (K : PySem.W.Frag) : Sp := fun vs H Q _ => ∃ (q t : Addr) (m : Int) (r : Rule) (st : List Int), vs = [.ref q, .ref t, .int m] ∧ SqT K H q r.vs ∧ r.ok ∧ SqT K H t (st.map V.int) ∧ StOk r st ∧
  ∀ p H', Same H H' → SqT K H' p ((nextS r st m).map V.int) → Q (.ref p) H'
def spFirst (K : PySem.W.Frag) : Sp := fun vs H Q _ => ∃ (q : Addr) (r : Rule), vs = [.ref q] ∧ SqT K H q r.vs ∧ r.ok ∧ ∀ p H', Same H H' → SqT K H' p ((firstS r).map V.int) → Q (.ref p) H'
def spGone (K : PySem.W.Frag) : Sp := fun vs H Q _ => ∃ (q t : Addr) (r : Rule) (st : List Int), vs = [.ref q, .ref t] ∧ SqT K H q r.vs ∧ r.ok ∧ SqT K H t (st.map V.int) ∧ StOk r st ∧ Q (.bl (goneS r st)) H
/-! ### a watcher -/
theorem rk : ¬ (("rule" : Str) = "kept") := by decide +kernel
def wF (q t : Addr) : List (Str × V) := [("rule", .ref q), ("kept", .ref t)]
theorem wF_rule (q t : Addr) : (wF q t).lookup ("rule" : Str) = some (.ref q) := by simp [wF, List.lookup]
theorem wF_kept (q t : Addr) : (wF q t).lookup ("kept" : Str) = some (.ref t) := by
  have h : (("kept" : Str) == "rule") = false := by decide +kernel
  simp [wF, List.lookup, h]
theorem wF_no (q t : Addr) {m : Str} (h1 : (m == ("rule" : Str)) = false) (h2 : (m == ("kept" : Str)) = false) : (wF q t).lookup m = none := by simp [wF, List.lookup, h1, h2]
theorem wF_put (q t u : Addr) : putF "kept" (.ref u) (wF q t) = wF q u := by
  show (if ("rule" : Str) = "kept" then _ else (("rule" : Str), V.ref q) :: (if ("kept" : Str) = "kept" then [(("kept" : Str), V.ref u)] else _)) = _
  rw [if_neg rk, if_pos rfl]
  rfl
theorem wF_new (q t : Addr) : putF "kept" (.ref t) (putF "rule" (.ref q) []) = wF q t := by
  show (if ("rule" : Str) = "kept" then _ else (("rule" : Str), V.ref q) :: putF "kept" (.ref t) []) = _
  rw [if_neg rk]
  rfl
structure WAt (K : PySem.W.Frag) (C : Addr) (H : Hp) (x : Addr) (r : Rule) (st : List Int) : Prop where
  ex : ∃ dx q t, H x = some (.ins C dx (wF q t)) ∧ SqT K H q r.vs ∧ SqT K H t (st.map V.int)
theorem WAt.same {K : PySem.W.Frag} {C : Addr} {H H' : Hp} {x : Addr} {r : Rule} {st : List Int} (h : WAt K C H x r st) (s : Same H H') : WAt K C H' x r st := by
  obtain ⟨dx, q, t, h1, h2, h3⟩ := h.ex
  exact ⟨dx, q, t, s _ _ h1, s.tupB h2, s.tupB h3⟩
def spWInit (K : PySem.W.Frag) (C : Addr) : Sp := fun vs H Q _ => ∃ (x q dx : Addr) (r : Rule), vs = [.ref x, .ref q] ∧ H x = some (.ins C dx []) ∧ SqT K H q r.vs ∧ r.ok ∧
  ∀ H', WAt K C H' x r (firstS r) → (∀ b o, b ≠ x → H b = some o → H' b = some o) → Q .non H'
def spHear (K : PySem.W.Frag) (C : Addr) : Sp := fun vs H Q _ => ∃ (x : Addr) (m : Int) (r : Rule) (st : List Int), vs = [.ref x, .int m] ∧ WAt K C H x r st ∧ r.ok ∧ StOk r st ∧
  ∀ H', WAt K C H' x r (nextS r st m) → (∀ b o, b ≠ x → H b = some o → H' b = some o) → Q (.bl (goneS r (nextS r st m))) H'
/-- the class Watcher as the top has made it -/
structure WTxt (K : PySem.W.Frag) (C : Addr) : Prop where
  cl : Cls K C
  nR : NoAttr K C "rule"
  nK : NoAttr K C "kept"
/-! ### the law's own look -/
def spLGone (K : PySem.W.Frag) : Sp := fun vs H Q _ => ∃ (q l : Addr) (r : Rule) (hs : List Int), vs = [.ref q, .ref l] ∧ SqT K H q r.vs ∧ r.ok ∧ SqL K H l (hs.map V.int) ∧ hs.length ≤ 20000 ∧ ∀ H', Same H H' → Q (.bl (goneH r hs)) H'
theorem sq_tup_ne {K : PySem.W.Frag} {H : Hp} {a x C dx : Addr} {xs : List V} {fs : List (Str × V)} (h : SqT K H a xs) (e : H x = some (.ins C dx fs)) {o : HO} : SqT K (upd H x o) a xs := by
  rcases h with (h | ⟨u, h⟩) | h
  · exact .inl (.inl (by rw [upd_ne (ne_of h e (by intro z; cases z))]; exact h))
  · exact .inl (.inr ⟨u, by rw [upd_ne (ne_of h e (by intro z; cases z))]; exact h⟩)
  · exact .inr h
theorem map_cut (l : List Int) (n : Nat) : ((l.map V.int).drop n).take ((l.map V.int).length - n) = (l.drop n).map V.int := by
  rw [List.take_of_length_le (by rw [List.length_drop]; omega), List.map_drop]
theorem eqv_nil (r : List Int) : PyData.eqv (.list (r.map PyData.int)) (.list []) = decide (r = []) := by
  cases r with
  | nil => rfl
  | cons a r => rfl
theorem dp_ints {K : PySem.W.Frag} {H : Hp} : ∀ ns : List Int, DpAll K H (ns.map V.int) (ns.map PyData.int)
  | [] => .nil
  | n :: ns => .cons (.int n) (dp_ints ns)
theorem Rule.at1 (r : Rule) : r.vs[1]? = some (.int (r.wide : Int)) := by cases r <;> rfl
theorem rng_ext {α : Type} {f g : Nat → α} {i : Nat} (h : ∀ j, j < i → g j = f j) : (List.range (i + 1)).map g = (List.range i).map f ++ [g i] := by
  rw [List.range_succ, List.map_append]
  congr 1
  exact List.map_congr_left fun j hj => h j (List.mem_range.mp hj)
def spLaw (K : PySem.W.Frag) : Sp := fun vs H Q _ => ∃ (a : Addr) (ns : List Int), vs = [.ref a] ∧ SqL K H a (ns.map V.int) ∧ ns.length ≤ 63 ∧ ∀ H', Q (.bl true) H'
end Bw

set_option Elab.async false
set_option linter.all false
set_option maxRecDepth 100000
set_option maxHeartbeats 4000000
namespace Bw
open PySem PySem.Spec PyProof.Rows L2
/-! ### walks by enumerate -/
theorem for_enum {K : PySem.W.Frag} {a : Addr} {xs : List V} {g : TG} {tb : TS} {D : Ends} {σ : L2.St} {H : Hp} (Pv : Nat → L2.St → Hp → Prop) (h0 : Pv 0 σ H) (hl : ∀ i σ H, i ≤ xs.length → Pv i σ H → SqL K H a xs)
    (hs : ∀ i x σ H T, xs[i]? = some x → Pv i σ H → H T = none → g (.ref T) σ (upd H T (.tup [.int (i : Nat), x])) fun σ2 H2 => tb { D with nx := Pv (i + 1), ct := Pv (i + 1), bk := D.nx } σ2 H2) (hd : ∀ σ H, Pv xs.length σ H → D.nx σ H) :
    ∃ W : Nat → Nat → L2.St → Hp → Prop, (∃ m, W 0 m σ H) ∧ ∀ i m σ H, W i m σ H →
      ((Ite K a).stop i H ∧ D.nx σ H) ∨ ((Ite K a).go i H ∧ ∃ N : L2.St → Hp → Prop, (∀ σ' H', N σ' H' → ∃ m', m' < m ∧ W (i + 1) m' σ' H') ∧ ∀ x H', (Ite K a).yld i H x H' → g x σ H' fun σ2 H2 => tb { D with nx := N, ct := N, bk := D.nx } σ2 H2) := by
  refine ⟨fun i m σ H => m = xs.length - i ∧ i ≤ xs.length ∧ Pv i σ H, ⟨xs.length, by simp, Nat.zero_le _, h0⟩, ?_⟩
  rintro i m σ H ⟨rfl, hi, p⟩
  have q := hl i σ H hi p
  by_cases hlt : i < xs.length
  · refine .inr ⟨⟨xs, xs[i], q, by simp [hlt]⟩, Pv (i + 1), fun σ' H' p' => ⟨xs.length - (i + 1), by omega, rfl, hlt, p'⟩, fun v H' y => ?_⟩
    obtain ⟨T, x, rfl, nT, rfl, y⟩ := y
    exact hs i x σ _ T (y xs q) p nT
  · have e : i = xs.length := by omega
    subst e
    exact .inl ⟨⟨xs, q, Nat.le_refl _⟩, hd σ H p⟩
theorem rgs_up {n c : Nat} (hc : 1 ≤ c ∧ c ≤ 4) : Builtin.Range.rangeSize 0 (n : Int) (c : Int) = (((n + c - 1) / c : Nat) : Int) := by
  have h4 : c = 1 ∨ c = 2 ∨ c = 3 ∨ c = 4 := by omega
  rcases h4 with rfl | rfl | rfl | rfl
  all_goals
    unfold Builtin.Range.rangeSize
    rw [if_pos (by decide)]
    split <;> omega
theorem rgc_up {n c : Nat} (hn : n ≤ 1000) (hc : 1 ≤ c ∧ c ≤ 4) : RgC 0 (n : Int) (c : Int) ((n + c - 1) / c) := by
  have e := rgs_up (n := n) hc
  have hb : (n + c - 1) / c ≤ 1003 := Nat.le_trans (Nat.div_le_self _ _) (by omega)
  refine ⟨by omega, by omega, ?_, e⟩
  unfold Builtin.Range.small
  rw [e]
  generalize (n + c - 1) / c = m at *
  simp only [Builtin.Range.rangeFitsLong, Bool.and_eq_true, Bool.or_eq_true, decide_eq_true_eq, beq_iff_eq]
  have hc0 : (c : Int) > 0 := by omega
  simp only [hc0, if_true, Bool.and_eq_true, decide_eq_true_eq]
  omega
/-! ### lines -/
structure Line where
  each : Nat
  late : Nat
  lost : Nat
structure Line.ok (l : Line) : Prop where
  e1 : 1 ≤ l.each
  e4 : l.each ≤ 4
  l3 : l.late ≤ 3
  s2 : l.lost ≤ 2
def Line.vs (l : Line) : List V := [.int l.each, .int l.late, .int l.lost]
def spLine : Sp := fun vs H Q _ => ∃ (d : Addr), vs = [.ref d] ∧ DiceAt H d ∧ ∀ (l : Line) (p : Addr) (H' : Hp), l.ok → (l.each = 1 → l.late = 3 → l.lost = 0) → Dr d H H' → H p = none → H' p = some (.tup l.vs) → Q (.ref p) H'
/-! ### what is heard of one who is there: each beat's fate -/
/-- the fates of the beats so far, in turn (lost, or how late); r: how many were lost on end -/
inductive Outs (l : Line) : Nat → List (Option Nat) → Prop where
  | nil : Outs l 0 []
  | lose {r : Nat} {os : List (Option Nat)} (h : Outs l r os) (hr : r < l.lost) : Outs l (r + 1) (os ++ [none])
  | hear {r : Nat} {os : List (Option Nat)} (h : Outs l r os) (d : Nat) (hd : d ≤ l.late) : Outs l 0 (os ++ [some d])
def hit (each : Nat) (t : Nat) (p : Option Nat × Nat) : Bool := match p.1 with
  | none => false
  | some d => decide (p.2 * each + d = t)
def cnt (each : Nat) (os : List (Option Nat)) (t : Nat) : Nat := (os.zipIdx.filter (hit each t)).length
theorem cnt_nil (each t : Nat) : cnt each [] t = 0 := rfl
theorem cnt_snoc (each : Nat) (os : List (Option Nat)) (o : Option Nat) (t : Nat) : cnt each (os ++ [o]) t = cnt each os t + if hit each t (o, os.length) = true then 1 else 0 := by
  unfold cnt
  rw [List.zipIdx_append, List.filter_append, List.length_append]
  congr 1
  show (List.filter (hit each t) [(o, 0 + os.length)]).length = _
  rw [Nat.zero_add]
  by_cases h : hit each t (o, os.length) = true
  · rw [List.filter_cons, if_pos h, if_pos h]
    rfl
  · rw [List.filter_cons, if_neg h, if_neg h]
    rfl
theorem cnt_lose (each : Nat) (os : List (Option Nat)) (t : Nat) : cnt each (os ++ [none]) t = cnt each os t := by
  rw [cnt_snoc]
  rfl
theorem cnt_hear (each : Nat) (os : List (Option Nat)) (d t : Nat) : cnt each (os ++ [some d]) t = cnt each os t + if os.length * each + d = t then 1 else 0 := by
  rw [cnt_snoc]
  congr 1
  show (if decide (os.length * each + d = t) = true then 1 else 0) = _
  by_cases h : os.length * each + d = t
  · rw [if_pos h, if_pos (decide_eq_true h)]
  · rw [if_neg h, if_neg (by rw [decide_eq_false h]; decide)]
theorem cnt_le {l : Line} {r : Nat} {os : List (Option Nat)} (h : Outs l r os) (h1 : 1 ≤ l.each) (t : Nat) : cnt l.each os t ≤ min (t + 1) (os.length * l.each) + l.late - t := by
  induction h with
  | nil =>
    rw [cnt_nil]
    exact Nat.zero_le _
  | lose h hr ih =>
    rw [cnt_lose, List.length_append, List.length_singleton, Nat.succ_mul]
    omega
  | hear h d hd ih =>
    rw [cnt_hear, List.length_append, List.length_singleton, Nat.succ_mul]
    split <;> omega
theorem cnt_four {l : Line} (lo : l.ok) {r : Nat} {os : List (Option Nat)} (h : Outs l r os) (t : Nat) : cnt l.each os t ≤ 4 := by
  have h1 := cnt_le h lo.e1 t
  have h2 := lo.l3
  omega
def heardOf (each : Nat) (os : List (Option Nat)) (n : Nat) : List Int := (List.range n).map fun t => ((cnt each os t : Nat) : Int)
theorem heardOf_len (each : Nat) (os : List (Option Nat)) (n : Nat) : (heardOf each os n).length = n := by
  unfold heardOf
  rw [List.length_map, List.length_range]
theorem heardOf_at {each : Nat} {os : List (Option Nat)} {n t : Nat} (h : t < n) : (heardOf each os n)[t]? = some ((cnt each os t : Nat) : Int) := by
  unfold heardOf
  rw [List.getElem?_map, List.getElem?_range h]
  rfl
theorem heardOf_nil (each n : Nat) : heardOf each [] n = List.replicate n 0 := by
  refine List.ext_getElem? fun t => ?_
  by_cases h : t < n
  · rw [heardOf_at h, List.getElem?_replicate, if_pos h]
    rfl
  · rw [List.getElem?_eq_none (by rw [heardOf_len]; omega), List.getElem?_eq_none (by rw [List.length_replicate]; omega)]
theorem heardOf_lose (each : Nat) (os : List (Option Nat)) (n : Nat) : heardOf each (os ++ [none]) n = heardOf each os n := by
  unfold heardOf
  exact List.map_congr_left fun t _ => by rw [cnt_lose]
theorem heardOf_out {each : Nat} {os : List (Option Nat)} {d n : Nat} (h : ¬ os.length * each + d < n) : heardOf each (os ++ [some d]) n = heardOf each os n := by
  unfold heardOf
  refine List.map_congr_left fun t ht => ?_
  have h1 := List.mem_range.mp ht
  rw [cnt_hear, if_neg (by omega), Nat.add_zero]
theorem heardOf_in {each : Nat} {os : List (Option Nat)} {d n : Nat} (h : os.length * each + d < n) :
    heardOf each (os ++ [some d]) n = (heardOf each os n).set (os.length * each + d) (((cnt each os (os.length * each + d) : Nat) : Int) + 1) := by
  refine List.ext_getElem? fun t => ?_
  by_cases ht : t < n
  · rw [heardOf_at ht, cnt_hear]
    by_cases e : os.length * each + d = t
    · subst e
      rw [if_pos rfl, List.getElem?_set_self (by rw [heardOf_len]; exact h)]
      congr 1
    · rw [if_neg e, List.getElem?_set_ne e, heardOf_at ht]
      rfl
  · rw [List.getElem?_eq_none (by rw [heardOf_len]; omega), List.getElem?_eq_none (by rw [List.length_set, heardOf_len]; omega)]
/-- what can be heard -/
def HeardOk (hs : List Int) : Prop := hs.length ≤ 200 ∧ ∀ m ∈ hs, 0 ≤ m ∧ m ≤ 9
theorem heardOf_mem {l : Line} (lo : l.ok) {r : Nat} {os : List (Option Nat)} (h : Outs l r os) {n : Nat} {m : Int} (hm : m ∈ heardOf l.each os n) : 0 ≤ m ∧ m ≤ 4 := by
  obtain ⟨t, _, rfl⟩ := List.mem_map.mp hm
  have := cnt_four lo h t
  omega
def spRun (K : PySem.W.Frag) : Sp := fun vs H Q _ => ∃ (d lp : Addr) (l : Line) (there more : Nat), vs = [.ref d, .ref lp, .int there, .int more] ∧ DiceAt H d ∧ SqT K H lp l.vs ∧ l.ok ∧ there ≤ 300 ∧ more ≤ 300 ∧
  ∀ (r : Nat) (os : List (Option Nat)) (p : Addr) (H' : Hp), Outs l r os → os.length = (there + l.each - 1) / l.each → Dr d H H' → H p = none → H' p = some (.lst ((heardOf l.each os (there + more)).map V.int)) → Q (.ref p) H'
/-! ### told -/
def toldOf (r : Rule) (hs : List Int) : List Bool := (List.range hs.length).map fun i => goneH r (hs.take (i + 1))
def spNeedHeard (K : PySem.W.Frag) : Sp := fun vs H Q _ => ∃ (l : Addr) (hs : List Int), vs = [.ref l] ∧ SqL K H l (hs.map V.int) ∧ HeardOk hs ∧ ∀ H', Same H H' → Q .non H'
def spTold (K : PySem.W.Frag) : Sp := fun vs H Q _ => ∃ (q l : Addr) (r : Rule) (hs : List Int), vs = [.ref q, .ref l] ∧ SqT K H q r.vs ∧ r.ok ∧ SqL K H l (hs.map V.int) ∧ HeardOk hs ∧
  ∀ p H', Same H H' → H p = none → H' p = some (.lst ((toldOf r hs).map V.bl)) → Q (.ref p) H'
/-- the turns among what is told, up to the n-th moment -/
def turnsTo (bs : List Bool) (n : Nat) : List PyData := (List.range n).filterMap fun i => if bs.getD i false = (false :: bs).getD i false then none else some (.tuple [.int (i : Int), .str (if bs.getD i false = true then "gone" else "back")])
def spTurns (K : PySem.W.Frag) : Sp := fun vs H Q _ => ∃ (q l : Addr) (r : Rule) (hs : List Int), vs = [.ref q, .ref l] ∧ SqT K H q r.vs ∧ r.ok ∧ SqL K H l (hs.map V.int) ∧ HeardOk hs ∧
  ∀ p H' xs, Same H H' → H p = none → H' p = some (.lst xs) → DpAll K H' xs (turnsTo (toldOf r hs) hs.length) → Q (.ref p) H'
def spLTold (K : PySem.W.Frag) : Sp := fun vs H Q _ => ∃ (q l : Addr) (r : Rule) (hs : List Int), vs = [.ref q, .ref l] ∧ SqT K H q r.vs ∧ r.ok ∧ SqL K H l (hs.map V.int) ∧ hs.length ≤ 20000 ∧
  ∀ p H', Same H H' → H p = none → H' p = some (.lst ((toldOf r hs).map V.bl)) → Q (.ref p) H'
theorem toldOf_len (r : Rule) (hs : List Int) : (toldOf r hs).length = hs.length := by
  unfold toldOf
  rw [List.length_map, List.length_range]
theorem turnsTo_succ_eq {bs : List Bool} {n : Nat} (h : bs.getD n false = (false :: bs).getD n false) : turnsTo bs (n + 1) = turnsTo bs n := by
  unfold turnsTo
  rw [List.range_succ, List.filterMap_append, List.filterMap_cons, if_pos h]
  simp
theorem turnsTo_succ_ne {bs : List Bool} {n : Nat} (h : ¬ bs.getD n false = (false :: bs).getD n false) : turnsTo bs (n + 1) = turnsTo bs n ++ [.tuple [.int (n : Int), .str (if bs.getD n false = true then "gone" else "back")]] := by
  unfold turnsTo
  rw [List.range_succ, List.filterMap_append, List.filterMap_cons, if_neg h]
  rfl
theorem turnsTo_len (bs : List Bool) (n : Nat) : (turnsTo bs n).length ≤ n := by
  unfold turnsTo
  exact Nat.le_trans (List.length_filterMap_le _ _) (by rw [List.length_range]; exact Nat.le_refl _)
theorem DpAll.snoc {K : PySem.W.Frag} {H : Hp} : ∀ {vs : List V} {ds : List PyData} {v : V} {d : PyData}, DpAll K H vs ds → Dp K H v d → DpAll K H (vs ++ [v]) (ds ++ [d])
  | _, _, _, _, .nil, h => .cons h .nil
  | _, _, _, _, .cons a b, h => .cons a (DpAll.snoc b h)
theorem DpAll.same {K : PySem.W.Frag} {H H' : Hp} (s : Same H H') : ∀ {vs : List V} {ds : List PyData}, DpAll K H vs ds → DpAll K H' vs ds
  | _, _, .nil => .nil
  | _, _, .cons a b => .cons (Dp.same s _ _ a) (DpAll.same s b)
theorem dp_bls {K : PySem.W.Frag} {H : Hp} : ∀ bs : List Bool, DpAll K H (bs.map V.bl) (bs.map PyData.bool)
  | [] => .nil
  | n :: ns => .cons (.bl n) (dp_bls ns)
/-! ### cuts -/
section
variable {X : Cx}
theorem pt_cut {e : Expr} {t : L2.TT} (h : PT X e t) : PT X e (fun σ H Q => ∃ M : Bool → Hp → Prop, t σ H M ∧ ∀ b H', M b H' → Q b H') :=
  ⟨fun pins s σ H Q I ⟨M, h1, h2⟩ => thn (h.run pins s σ H M I h1) fun b s' ⟨H', I', m⟩ => ⟨H', I', h2 b H' m⟩⟩
theorem pe_cut {e : Expr} {t : TE} (h : PE X e t) : PE X e (fun σ H Q => ∃ M : VK, t σ H M ∧ ∀ v H', M v H' → Q v H') :=
  ⟨fun pins s σ H Q I ⟨M, h1, h2⟩ => thn (h.run pins s σ H M I h1) fun u s' ⟨v, H', I', r, m⟩ => ⟨v, H', I', r, h2 v H' m⟩⟩
end
theorem WAt.keep {K : PySem.W.Frag} {C : Addr} {H H' : Hp} {x : Addr} {r : Rule} {st : List Int} (h : WAt K C H x r st) (hk : ∀ b o, (∀ xs, o ≠ .lst xs) → H b = some o → H' b = some o) : WAt K C H' x r st := by
  obtain ⟨dx, q, t, h1, h2, h3⟩ := h.ex
  have kt : ∀ {a xs}, SqT K H a xs → SqT K H' a xs := by
    intro a xs h
    rcases h with (h | ⟨u, h⟩) | h
    · exact .inl (.inl (hk _ _ (by intro xs z; cases z) h))
    · exact .inl (.inr ⟨u, hk _ _ (by intro xs z; cases z) h⟩)
    · exact .inr h
  exact ⟨dx, q, t, hk _ _ (by intro xs z; cases z) h1, kt h2, kt h3⟩
/-- an update of a list keeps what is no list -/
theorem keepL {H : Hp} {p : Addr} {xs ys : List V} (h : H p = some (.lst xs)) : ∀ b o, (∀ xs, o ≠ .lst xs) → H b = some o → upd H p (.lst ys) b = some o := fun b o n e => by
  rw [upd_ne (ne_of e h (n _))]
  exact e
/-! ### data without lists -/
inductive NoL : PyData → Prop where
  | non : NoL .none
  | bool (b : Bool) : NoL (.bool b)
  | int (i : Int) : NoL (.int i)
  | str (x : Str) : NoL (.str x)
  | tuple (ds : List PyData) (h : ∀ d ∈ ds, NoL d) : NoL (.tuple ds)
theorem sqT_keepL {K : PySem.W.Frag} {H H' : Hp} (hk : ∀ b o, (∀ xs, o ≠ .lst xs) → H b = some o → H' b = some o) {a : Addr} {xs : List V} (h : SqT K H a xs) : SqT K H' a xs := by
  rcases h with (h | ⟨u, h⟩) | h
  · exact .inl (.inl (hk _ _ (by intro xs z; cases z) h))
  · exact .inl (.inr ⟨u, hk _ _ (by intro xs z; cases z) h⟩)
  · exact .inr h
theorem Dp.keepL {K : PySem.W.Frag} {H H' : Hp} (hk : ∀ b o, (∀ xs, o ≠ .lst xs) → H b = some o → H' b = some o) {v : V} {d : PyData} (h : Dp K H v d) (hn : NoL d) : Dp K H' v d := by
  revert hn
  refine Dp.rec (K := K) (H := H) (motive_1 := fun v d _ => NoL d → Dp K H' v d) (motive_2 := fun vs ds _ => (∀ d ∈ ds, NoL d) → DpAll K H' vs ds) ?_ ?_ ?_ ?_ ?_ ?_ ?_ ?_ h
  · exact fun _ => .non
  · exact fun b _ => .bl b
  · exact fun b _ => .int b
  · exact fun b _ => .str b
  · exact fun h1 _ h2 hn => nomatch hn
  · intro a xs ds h1 h2 ih hn
    cases hn with
    | tuple _ hd => exact .tup (sqT_keepL hk h1) (ih hd)
  · exact fun _ => .nil
  · exact fun _ _ h1 h2 hn => .cons (h1 (hn _ List.mem_cons_self)) (h2 fun d hd => hn d (List.mem_cons_of_mem _ hd))
theorem DpAll.keepL {K : PySem.W.Frag} {H H' : Hp} (hk : ∀ b o, (∀ xs, o ≠ .lst xs) → H b = some o → H' b = some o) : ∀ {vs : List V} {ds : List PyData}, DpAll K H vs ds → (∀ d ∈ ds, NoL d) → DpAll K H' vs ds
  | _, _, .nil, _ => .nil
  | _, _, .cons a b, hn => .cons (Dp.keepL hk a (hn _ List.mem_cons_self)) (DpAll.keepL hk b fun d hd => hn d (List.mem_cons_of_mem _ hd))
theorem turnsTo_noL (bs : List Bool) (n : Nat) : ∀ d ∈ turnsTo bs n, NoL d := by
  intro d hd
  unfold turnsTo at hd
  obtain ⟨i, _, h⟩ := List.mem_filterMap.mp hd
  split at h
  · cases h
  · cases h
    refine .tuple _ fun d hd => ?_
    rcases List.mem_cons.mp hd with rfl | hd
    · exact .int _
    rcases List.mem_cons.mp hd with rfl | hd
    · exact .str _
    · cases hd
def spHeard : Sp := fun vs H Q _ => ∃ (d : Addr), vs = [.ref d] ∧ DiceAt H d ∧ ∀ (hs : List Int) (p : Addr) (H' : Hp), HeardOk hs → Dr d H H' → H p = none → H' p = some (.lst (hs.map V.int)) → Q (.ref p) H'
/-- one of a written list -/
theorem pickL {xs : List V} {r : Int} (h0 : 0 ≤ r) (h1 : r < (xs.length : Int)) : ∃ v, v ∈ xs ∧ atI xs r = some v := by
  obtain ⟨n, rfl⟩ := Int.eq_ofNat_of_zero_le h0
  have h : n < xs.length := by omega
  exact ⟨xs[n], List.getElem_mem h, atI_nat (by rw [List.getElem?_eq_getElem h])⟩
theorem Dr.mutB {d p : Addr} {H H1 : Hp} {o : HO} (a : Dr d H H1) (hd : DiceAt H d) (e : H p = none) : Dr d H (upd H1 p o) := by
  have n := hd.ne e
  refine ⟨?_, fun b u nb hb => ?_⟩
  · obtain ⟨ds, a1, a2⟩ := a.dice
    exact ⟨ds, by rw [upd_ne (Ne.symm n)]; exact a1, a2⟩
  · rw [upd_ne (ne_of_none hb e)]
    exact a.keep b u nb hb
theorem rep_map (n : Nat) (x : V) : (List.replicate n [x]).flatten = List.replicate n x := by
  induction n with
  | zero => rfl
  | succ n ih => rw [List.replicate_succ, List.replicate_succ, List.flatten_cons, ih]; rfl
theorem eqv_self {d : PyData} (h : SeqAt.shaped d = true) : PyData.eqv d d = true := SeqAt.eqv_refl d (Bool.and_eq_true_iff.mp h).1
end Bw

set_option Elab.async false
set_option linter.all false
set_option maxRecDepth 100000
set_option maxHeartbeats 4000000
namespace Bw
open PySem PySem.Spec PyProof.Rows L2
/-! ### dicts whose keys are nested tuples -/
abbrev NK := PySem.NestedKey
def NotT : HO → Prop
  | .tup _ => False
  | .frz _ _ => False
  | _ => True
/-- the tuples stay -/
structure TK (H H' : Hp) : Prop where
  tup : ∀ b xs, H b = some (.tup xs) → H' b = some (.tup xs)
  frz : ∀ b o u, H b = some (.frz o u) → H' b = some (.frz o u)
theorem TK.refl (H : Hp) : TK H H := ⟨fun _ _ e => e, fun _ _ _ e => e⟩
theorem TK.trans {H H1 H2 : Hp} (a : TK H H1) (b : TK H1 H2) : TK H H2 := ⟨fun c xs e => b.tup c xs (a.tup c xs e), fun c o u e => b.frz c o u (a.frz c o u e)⟩
theorem TK.same {H H' : Hp} (s : Same H H') : TK H H' := ⟨fun _ _ e => s _ _ e, fun _ _ _ e => s _ _ e⟩
theorem TK.upd {H : Hp} {p : Addr} {o o' : HO} (h : H p = some o) (n : NotT o) : TK H (upd H p o') := by
  refine ⟨fun b xs e => ?_, fun b q u e => ?_⟩
  · rw [upd_ne (ne_of e h (by intro z; subst z; exact n))]; exact e
  · rw [upd_ne (ne_of e h (by intro z; subst z; exact n))]; exact e
theorem TK.new {H : Hp} {p : Addr} {o' : HO} (h : H p = none) : TK H (L2.upd H p o') := TK.same (Same.newB h)
theorem TK.dr {d : Addr} {H H' : Hp} (D : Dr d H H') (hd : DiceAt H d) : TK H H' := by
  obtain ⟨ys, h1, _⟩ := hd
  exact ⟨fun b xs e => D.keep _ _ (ne_of e h1 (by intro z; cases z)) e, fun b o u e => D.keep _ _ (ne_of e h1 (by intro z; cases z)) e⟩
theorem TK.sqT {K : PySem.W.Frag} {H H' : Hp} (t : TK H H') {a : Addr} {xs : List V} (h : SqT K H a xs) : SqT K H' a xs := by
  rcases h with (h | ⟨u, h⟩) | h
  · exact .inl (.inl (t.tup _ _ h))
  · exact .inl (.inr ⟨u, t.frz _ _ _ h⟩)
  · exact .inr h
theorem Dp.keepT {K : PySem.W.Frag} {H H' : Hp} (t : TK H H') {v : V} {d : PyData} (h : Dp K H v d) (hn : NoL d) : Dp K H' v d := by
  revert hn
  refine Dp.rec (K := K) (H := H) (motive_1 := fun v d _ => NoL d → Dp K H' v d) (motive_2 := fun vs ds _ => (∀ d ∈ ds, NoL d) → DpAll K H' vs ds) ?_ ?_ ?_ ?_ ?_ ?_ ?_ ?_ h
  · exact fun _ => .non
  · exact fun b _ => .bl b
  · exact fun b _ => .int b
  · exact fun b _ => .str b
  · exact fun h1 _ h2 hn => nomatch hn
  · intro a xs ds h1 h2 ih hn
    cases hn with
    | tuple _ hd => exact .tup (t.sqT h1) (ih hd)
  · exact fun _ => .nil
  · exact fun _ _ h1 h2 hn => .cons (h1 (hn _ List.mem_cons_self)) (h2 fun d hd => hn d (List.mem_cons_of_mem _ hd))
theorem DpAll.keepT {K : PySem.W.Frag} {H H' : Hp} (t : TK H H') : ∀ {vs : List V} {ds : List PyData}, DpAll K H vs ds → (∀ d ∈ ds, NoL d) → DpAll K H' vs ds
  | _, _, .nil, _ => .nil
  | _, _, .cons a b, hn => .cons (Dp.keepT t a (hn _ List.mem_cons_self)) (DpAll.keepT t b fun d hd => hn d (List.mem_cons_of_mem _ hd))
mutual
theorem nk_noL : ∀ k : NK, NoL k.data
  | .none => .non
  | .num i => .int i
  | .text x => .str x
  | .tup ks => .tuple _ (nks_noL ks)
theorem nks_noL : ∀ ks : List NK, ∀ d ∈ NestedKey.datas ks, NoL d
  | [], d, h => nomatch h
  | k :: ks, d, h => by
    rcases List.mem_cons.mp h with rfl | h
    · exact nk_noL k
    · exact nks_noL ks d h
end
section
variable {X : Cx} {pins : List (Addr × Obj)} {σ : L2.St} {H : Hp} {s : Shared}
theorem nk_of (I : Inv X pins σ H s) {v : V} {d : PyData} (h : Dp X.K H v d) : ∀ (k : NK) (u : Value), k.data = d → RelV v u → NestedIs s.heap k u := by
  refine Dp.rec (K := X.K) (H := H) (motive_1 := fun v d _ => ∀ (k : NK) (u : Value), k.data = d → RelV v u → NestedIs s.heap k u) (motive_2 := fun vs ds _ => ∀ (ks : List NK) (us : List Value), NestedKey.datas ks = ds → Vals vs us → NestedAll s.heap ks us) ?_ ?_ ?_ ?_ ?_ ?_ ?_ ?_ h
  · intro k u e r
    cases k with
    | none => cases r; exact .none
    | num i => cases e
    | text x => cases e
    | tup ks => cases e
  · intro b k u e r
    cases k <;> cases e
  · intro i k u e r
    cases k with
    | none => cases e
    | num j => cases e; obtain ⟨t, rfl⟩ := r; exact .int _ _
    | text x => cases e
    | tup ks => cases e
  · intro x k u e r
    cases k with
    | none => cases e
    | num j => cases e
    | text y => cases e; obtain ⟨t, rfl⟩ := r; exact .text _ _
    | tup ks => cases e
  · intro a xs ds h1 h2 ih k u e r
    cases k <;> cases e
  · intro a xs ds h1 h2 ih k u e r
    cases k with
    | none => cases e
    | num j => cases e
    | text y => cases e
    | tup ks =>
      obtain ⟨its, rv, ⟨o, ho, hc, n, hd⟩, _⟩ := I.tuple h1
      obtain rfl : u = Value.ref a := r
      have e' : NestedKey.datas ks = ds := by
        have : PyData.tuple (NestedKey.datas ks) = .tuple ds := e
        injection this
      exact .tup ho hc hd (by simpa using ih ks its e' rv)
  · intro ks us e r
    cases ks with
    | nil => cases r; exact .nil
    | cons k ks => cases e
  · intro v vs d ds h1 h2 ih1 ih2 ks us e r
    cases ks with
    | nil => cases e
    | cons k ks =>
      have e' : k.data = d ∧ NestedKey.datas ks = ds := by
        have : k.data :: NestedKey.datas ks = d :: ds := e
        injection this with a b
        exact ⟨a, b⟩
      cases r with
      | cons r1 r2 => exact .cons (ih1 k _ e'.1 r1) (ih2 ks _ e'.2 r2)
end
/-- one object, just so -/
def PinO (d : Addr) (o : Obj) : HO := .ext fun h => h.get? d = some o
theorem pin_ok {P : Program} {w : World} {H : Hp} {h : Heap} {d : Addr} {o : Obj} (e : h.get? d = some o) : ObjOk P w H h d (PinO d o) := ⟨e, ⟨o, e⟩, fun _ _ p q => q _ p⟩
theorem pin_get {P : Program} {w : World} {H : Hp} {h : Heap} {d : Addr} {o : Obj} (ok : HOk P w H h) (e : H d = some (PinO d o)) : h.get? d = some o := (ok d _ e).1
theorem pin_notT (d : Addr) (o : Obj) : NotT (PinO d o) := True.intro
/-- at d, the object o, stands a dict with the keys and values kvs -/
structure NdAt (P : Program) (w : World) (K : PySem.W.Frag) (H : Hp) (d : Addr) (o : Obj) (kvs : List (NK × V)) : Prop where
  here : H d = some (PinO d o)
  ex : ∃ (es : Array DictEntry) (ep : Nat) (xs : List (NK × Addr × Value)), o.ExactDict ∧ o.data = .dict es ep ∧ es.toList = xs.map (entryOfKey (nestedKind P w)) ∧ (xs.map (·.1)).Nodup ∧
    Paired (fun (p : NK × V) (q : NK × Addr × Value) => p.1 = q.1 ∧ RelV p.2 q.2.2) kvs xs ∧ ∀ x ∈ xs, Dp K H (.ref x.2.1) x.1.data ∧ x.1.depth ≤ 8
  sz : kvs.length ≤ sizeLine
  sys : (d == sysModules) = false
def Nd (P : Program) (w : World) (K : PySem.W.Frag) (H : Hp) (d : Addr) (kvs : List (NK × V)) : Prop := ∃ o, NdAt P w K H d o kvs
section
variable {P : Program} {w : World} {K : PySem.W.Frag} {H H' : Hp} {d : Addr} {o : Obj} {kvs : List (NK × V)}
theorem NdAt.keep (n : NdAt P w K H d o kvs) (t : TK H H') (e : H' d = some (PinO d o)) : NdAt P w K H' d o kvs := by
  obtain ⟨es, ep, xs, h1, h2, h3, h4, h5, h6⟩ := n.ex
  exact ⟨e, ⟨es, ep, xs, h1, h2, h3, h4, h5, fun x hx => ⟨Dp.keepT t (h6 x hx).1 (nk_noL _), (h6 x hx).2⟩⟩, n.sz, n.sys⟩
theorem NdAt.same (n : NdAt P w K H d o kvs) (s : Same H H') : NdAt P w K H' d o kvs := n.keep (TK.same s) (s _ _ n.here)
theorem Nd.same (n : Nd P w K H d kvs) (s : Same H H') : Nd P w K H' d kvs := let ⟨o, h⟩ := n; ⟨o, h.same s⟩
theorem paired_keys {xs : List (NK × Addr × Value)} (h : Paired (fun (p : NK × V) (q : NK × Addr × Value) => p.1 = q.1 ∧ RelV p.2 q.2.2) kvs xs) : kvs.map (·.1) = xs.map (·.1) := by
  induction h with
  | nil => rfl
  | cons r t ih => rw [List.map_cons, List.map_cons, r.1, ih]
theorem NdAt.nodup (n : NdAt P w K H d o kvs) : (kvs.map (·.1)).Nodup := by
  obtain ⟨es, ep, xs, _, _, _, h4, h5, _⟩ := n.ex
  rw [paired_keys h5]
  exact h4
theorem paired_val {xs : List (NK × Addr × Value)} (h : Paired (fun (p : NK × V) (q : NK × Addr × Value) => p.1 = q.1 ∧ RelV p.2 q.2.2) kvs xs) (k : NK) : RelO (valV kvs k) ((atKey xs k).map (·.2)) := by
  induction h with
  | nil => exact True.intro
  | @cons p q l1 l2 r t ih =>
    by_cases e : p.1 = k
    · rw [valV_pos e]
      have e2 : q.1 = k := r.1.symm.trans e
      simp only [atKey, List.find?_cons, e2, decide_true, Option.map_some]
      exact r.2
    · rw [valV_neg e]
      have e2 : ¬ q.1 = k := fun z => e (r.1.trans z)
      simp only [atKey, List.find?_cons, e2, decide_false]
      exact ih
theorem paired_put {xs : List (NK × Addr × Value)} (h : Paired (fun (p : NK × V) (q : NK × Addr × Value) => p.1 = q.1 ∧ RelV p.2 q.2.2) kvs xs) (k : NK) (a : Addr) {v : V} {u : Value} (r : RelV v u) :
    Paired (fun (p : NK × V) (q : NK × Addr × Value) => p.1 = q.1 ∧ RelV p.2 q.2.2) (putK kvs k v) (storedH xs k a u) := by
  have hs : (kvs.any fun kv => decide (kv.1 = k)) = (atKey xs k).isSome := by
    have := (paired_val h k).isSome_eq
    rw [valV_any, this, Option.isSome_map]
  unfold putK storedH
  rw [hs]
  split
  · rename_i hz
    clear hs hz
    induction h with
    | nil => exact .nil
    | @cons p q l1 l2 r1 t ih =>
      refine .cons ?_ ih
      by_cases e : p.1 = k
      · have e2 : q.1 = k := r1.1.symm.trans e
        show (if p.1 = k then (p.1, v) else p).1 = _ ∧ RelV (if p.1 = k then (p.1, v) else p).2 _
        rw [if_pos e, putAt, if_pos e2]
        exact ⟨r1.1, r⟩
      · have e2 : ¬ q.1 = k := fun z => e (r1.1.trans z)
        show (if p.1 = k then (p.1, v) else p).1 = _ ∧ RelV (if p.1 = k then (p.1, v) else p).2 _
        rw [if_neg e, putAt, if_neg e2]
        exact r1
  · rename_i hz
    clear hs hz
    induction h with
    | nil => exact .cons ⟨rfl, r⟩ .nil
    | cons r1 t ih => exact .cons r1 ih
end
section
variable {X : Cx} {pins : List (Addr × Obj)} {σ : L2.St} {H : Hp} {s : Shared} {d : Addr} {o : Obj} {kvs : List (NK × V)}
theorem NdAt.dict (n : NdAt X.prog X.w X.K H d o kvs) (I : Inv X pins σ H s) : ∃ xs, Paired (fun (p : NK × V) (q : NK × Addr × Value) => p.1 = q.1 ∧ RelV p.2 q.2.2) kvs xs ∧ s.heap.DictOfH (nestedKind X.prog X.w) d xs ∧ ∀ x ∈ xs, Dp X.K H (.ref x.2.1) x.1.data ∧ x.1.depth ≤ 8 := by
  obtain ⟨es, ep, xs, h1, h2, h3, h4, h5, h6⟩ := n.ex
  exact ⟨xs, h5, ⟨o, es, ep, pin_get I.hok n.here, h1, h2, h3, fun x hx => ⟨nk_of I (h6 x hx).1 _ _ rfl rfl, (h6 x hx).2⟩, h4⟩, h6⟩
end
/-- a key at an address -/
structure KeyV (K : PySem.W.Frag) (H : Hp) (v : V) (k : NK) : Prop where
  ref : ∃ a, v = .ref a
  dp : Dp K H v k.data
  dep : k.depth ≤ 8
section
variable {X : Cx}
theorem KeyV.is {pins : List (Addr × Obj)} {σ : L2.St} {H : Hp} {s : Shared} {v : V} {k : NK} {u : Value} (h : KeyV X.K H v k) (I : Inv X pins σ H s) (r : RelV v u) : ∃ a, v = .ref a ∧ u = .ref a ∧ (nestedKind X.prog X.w).is s.heap k a := by
  obtain ⟨a, rfl⟩ := h.ref
  obtain rfl : u = Value.ref a := r
  exact ⟨a, rfl, rfl, nk_of I h.dp _ _ rfl rfl, h.dep⟩
def rNdIn (P : Program) (w : World) (K : PySem.W.Frag) (neg : Bool) : R2 := fun x y H Q => ∃ d kvs k, y = .ref d ∧ Nd P w K H d kvs ∧ KeyV K H x k ∧ Q (.bl (neg ^^ (valV kvs k).isSome)) H
theorem op_in_nd (hu : X.A.units + 20 < cLine) : OpR X (compareOp .In) (rNdIn X.prog X.w X.K false) := by
  intro pins s σ H x y v u Q I rx ry h
  obtain ⟨d, kvs, k, rfl, ⟨o, n⟩, hk, q⟩ := h
  obtain ⟨a, rfl, rfl, hi⟩ := hk.is I rx
  obtain rfl : u = Value.ref d := ry
  obtain ⟨xs, h5, dd, _⟩ := n.dict I
  refine wpAny_in_heap (by show X.A.units + 1 + 8 < cLine; omega) hi n.sys dd ?_
  have e := (paired_val h5 k).isSome_eq
  rw [Option.isSome_map] at e
  refine ⟨_, H, I.tok _, ?_, q⟩
  rw [e, Bool.false_xor]
  rfl
theorem op_notin_nd (hu : X.A.units + 20 < cLine) : OpR X (compareOp .NotIn) (rNdIn X.prog X.w X.K true) := by
  intro pins s σ H x y v u Q I rx ry h
  obtain ⟨d, kvs, k, rfl, ⟨o, n⟩, hk, q⟩ := h
  obtain ⟨a, rfl, rfl, hi⟩ := hk.is I rx
  obtain rfl : u = Value.ref d := ry
  obtain ⟨xs, h5, dd, _⟩ := n.dict I
  refine wpAny_notIn_heap (by show X.A.units + 1 + 8 < cLine; omega) hi n.sys dd ?_
  have e := (paired_val h5 k).isSome_eq
  rw [Option.isSome_map] at e
  refine ⟨_, H, I.tok _, ?_, q⟩
  rw [e, Bool.true_xor]
  rfl
def rNdIx (P : Program) (w : World) (K : PySem.W.Frag) : R2 := fun x y H Q => ∃ d kvs k v, x = .ref d ∧ Nd P w K H d kvs ∧ KeyV K H y k ∧ valV kvs k = some v ∧ Q v H
theorem ix_nd (hu : X.A.units + 20 < cLine) : IxR X (rNdIx X.prog X.w X.K) := by
  intro value slice pins s σ H x y v u Q I rx ry h hs
  obtain ⟨d, kvs, k, z, rfl, ⟨o, n⟩, hk, hv, q⟩ := h
  obtain rfl : v = Value.ref d := rx
  obtain ⟨a, rfl, rfl, hi⟩ := hk.is I ry
  obtain ⟨xs, h5, dd, _⟩ := n.dict I
  have r := paired_val h5 k
  rw [hv] at r
  obtain ⟨w', hw, rw'⟩ := RelO.some_of (v := z) (o := (atKey xs k).map (·.2)) r
  obtain ⟨p, hp, hp2⟩ := Option.map_eq_some_iff.mp hw
  refine subscriptTail_builtinR (x := w') dd.typeIs F.slot_dict_getitem.lookup (wpAny_getItem_heap (by show X.A.units + 1 + 8 < cLine; omega) hi dd hp ?_) hs
  exact ⟨hp2, z, H, I.tok _, by rw [hp2]; exact rw', q⟩
theorem mem_storedH {xs : List (NK × Addr × Value)} {k : NK} {a : Addr} {u : Value} {x : NK × Addr × Value} (h : x ∈ storedH xs k a u) : (∃ y ∈ xs, y.1 = x.1 ∧ y.2.1 = x.2.1) ∨ (x.1 = k ∧ x.2.1 = a) := by
  unfold storedH at h
  split at h
  · obtain ⟨y, hy, rfl⟩ := List.mem_map.mp h
    refine .inl ⟨y, hy, ?_⟩
    unfold putAt
    split <;> exact ⟨rfl, rfl⟩
  · rcases List.mem_append.mp h with h | h
    · exact .inl ⟨x, h, rfl, rfl⟩
    · rcases List.mem_cons.mp h with rfl | h
      · exact .inr ⟨rfl, rfl⟩
      · cases h
/-- what stands behind d[k] = v -/
def rNdSet (P : Program) (w : World) (K : PySem.W.Frag) : TSet := fun o i v H Q => ∃ d kvs k, o = .ref d ∧ Nd P w K H d kvs ∧ KeyV K H i k ∧ kvs.length < sizeLine ∧
  ∀ o', NdAt P w K (upd H d (PinO d o')) d o' (putK kvs k v) → Q (upd H d (PinO d o'))
theorem nd_store {pins : List (Addr × Obj)} {σ : L2.St} {H : Hp} {s : Shared} {d : Addr} {o : Obj} {kvs : List (NK × V)} {xs : List (NK × Addr × Value)} {k : NK} {a : Addr} {v : V} {u : Value} {h' : Heap} {t' : Nat} (I : Inv X pins σ H s) (n : NdAt X.prog X.w X.K H d o kvs)
    (h5 : Paired (fun (p : NK × V) (q : NK × Addr × Value) => p.1 = q.1 ∧ RelV p.2 q.2.2) kvs xs) (h6 : ∀ x ∈ xs, Dp X.K H (.ref x.2.1) x.1.data ∧ x.1.depth ≤ 8) (hl : kvs.length < sizeLine) (hk : KeyV X.K H (.ref a) k) (rv : RelV v u)
    (dd : h'.DictOfH (nestedKind X.prog X.w) d (storedH xs k a u)) (sb : Heap.SameBut d s.heap h') : ∃ o', NdAt X.prog X.w X.K (upd H d (PinO d o')) d o' (putK kvs k v) ∧ Inv X pins σ (upd H d (PinO d o')) { s with heap := h', toks := t' } := by
  obtain ⟨o', es, ep, g1, g2, g3, g4, g5, g6⟩ := dd
  have t : TK H (upd H d (PinO d o')) := TK.upd n.here (pin_notT d o)
  refine ⟨o', ⟨upd_same, ⟨es, ep, _, g2, g3, g4, g6, paired_put h5 k a rv, fun x hx => ?_⟩, ?_, n.sys⟩, d_write I (by rw [n.here]; exact True.intro) sb ⟨o', g1⟩ (pin_ok g1)⟩
  · rcases mem_storedH hx with ⟨y, hy, e1, e2⟩ | ⟨e1, e2⟩
    · rw [← e1, ← e2]
      exact ⟨Dp.keepT t (h6 y hy).1 (nk_noL _), (h6 y hy).2⟩
    · rw [e1, e2]
      exact ⟨Dp.keepT t hk.dp (nk_noL _), hk.dep⟩
  · have := length_putK kvs k v
    omega
theorem set_nd (hu : X.A.units + 20 < cLine) : PSet X (rNdSet X.prog X.w X.K) := by
  intro pins s σ H o i v ov iv u Q I ro ri rv h
  obtain ⟨d, kvs, k, rfl, ⟨ob, n⟩, hk, hl, q⟩ := h
  obtain rfl : ov = Value.ref d := ro
  obtain ⟨a, rfl, rfl, hi⟩ := hk.is I ri
  obtain ⟨xs, h5, dd, h6⟩ := n.dict I
  have hz : xs.length ≤ sizeLine := by rw [← Paired.length h5]; exact n.sz
  refine wpAny_setItem_heap (hsz := hz) (by show X.A.units + 1 + 8 < cLine; omega) hi dd fun h' dd' sb => ?_
  obtain ⟨o', n', I'⟩ := nd_store (t' := s.toks + (nestedKind X.prog X.w).draws k) I n h5 h6 hl hk rv dd' sb
  exact ⟨_, I', q o' n'⟩
/-! {} -/
def tNd0 (P : Program) (w : World) (K : PySem.W.Frag) : TE := fun _ H Q => ∀ p o, H p = none → NdAt P w K (upd H p (PinO p o)) p o [] → Q (.ref p) (upd H p (PinO p o))
theorem nd_empty {P : Program} {w : World} {K : PySem.W.Frag} {H : Hp} {p : Addr} (hp : H p = none) (hs : (p == sysModules) = false) : NdAt P w K (upd H p (PinO p { cls := .type "dict", data := .dict #[] })) p { cls := .type "dict", data := .dict #[] } [] :=
  ⟨upd_same, ⟨#[], 0, [], ⟨rfl, rfl, rfl⟩, rfl, rfl, List.nodup_nil, .nil, fun x hx => nomatch hx⟩, Nat.zero_le _, hs⟩
theorem pe_nd0 {pos : Pos} : PE X (.Dict [] [] pos) (tNd0 X.prog X.w X.K) := ⟨fun pins s σ H Q I h => by
  have hn := I.hok.fresh (Nat.le_refl s.heap.objs.size)
  have hs : (s.heap.objs.size == sysModules) = false := beq_eq_false_iff_ne.mpr (Ne.symm (Nat.ne_of_lt I.big))
  refine wpAny_Dict_empty ⟨.ref s.heap.objs.size, _, I.laid (a := s.heap.objs.size) (o := PinO s.heap.objs.size { cls := .type "dict", data := .dict #[] }) (t' := s.toks) (fun _ _ q => Heap.get?_push_of_some _ q) (Nat.le_refl _) (pin_ok (Heap.get?_push_size _ rfl)), rfl, h _ _ hn (nd_empty hn hs)⟩⟩
/-! {k: v} -/
theorem storeAll_one {M : Model} {A : Around} {E : Value → Shared → Prop} {s : Shared} {d : Addr} {k v : Value} {Q : Shared → Prop} (h : wpAny M A (dictSet d k v) (fun _ s' => Q s') E s) : wpAny M A (storeAll d [(k, v)]) (fun _ s' => Q s') E s := by
  unfold storeAll
  rw [List.forIn_cons]
  refine wpAny_bind (wpAny_bind (wpAny_mono h (fun _ s1 h1 => wpAny_pure ?_) fun _ _ e => e))
  show wpAny M A (forIn ([] : List (Value × Value)) PUnit.unit _) _ _ _
  rw [List.forIn_nil]
  exact wpAny_pure h1
def tNd1 (P : Program) (w : World) (K : PySem.W.Frag) (tk tv : TE) : TE := fun σ H Q => ∀ p o, H p = none → NdAt P w K (upd H p (PinO p o)) p o [] → tk σ (upd H p (PinO p o)) fun x H1 => tv σ H1 fun v H2 => ∃ k, NdAt P w K H2 p o [] ∧ KeyV K H2 x k ∧
  ∀ o', NdAt P w K (upd H2 p (PinO p o')) p o' [(k, v)] → Q (.ref p) (upd H2 p (PinO p o'))
theorem pe_nd1 {k v : Expr} {tk tv : TE} {pos : Pos} (hu : X.A.units + 20 < cLine) (hk : PE X k tk) (hv : PE X v tv) : PE X (.Dict [some k] [v] pos) (tNd1 X.prog X.w X.K tk tv) := by
  refine ⟨fun pins s σ H Q I h => ?_⟩
  have hn := I.hok.fresh (Nat.le_refl s.heap.objs.size)
  have hs : (s.heap.objs.size == sysModules) = false := beq_eq_false_iff_ne.mpr (Ne.symm (Nat.ne_of_lt I.big))
  have I1 := I.laid (a := s.heap.objs.size) (o := PinO s.heap.objs.size { cls := .type "dict", data := .dict #[] }) (h' := s.heap.push { cls := .type "dict", data := .dict #[] }) (t' := s.toks) (fun _ _ q => Heap.get?_push_of_some _ q) (Nat.le_refl _) (pin_ok (Heap.get?_push_size _ rfl))
  have q := h _ _ hn (nd_empty hn hs)
  refine wpAny_Dict_any rfl rfl (by intro z; cases z) (by show 1 ≤ 15; omega) ?_
  refine pairTrees_cons_walk (thn (hk.run pins _ σ _ _ I1 q) fun kv s1 ⟨x, H1, I2, rx, q1⟩ => thn (hv.run pins s1 σ H1 _ I2 q1) fun vv s2 ⟨z, H2, I3, rz, kk, n, hkk, q2⟩ => pairTrees_nil_walk (storeAll_one ?_))
  obtain ⟨a, rfl, rfl, hi⟩ := hkk.is I3 rx
  obtain ⟨xs, h5, dd, h6⟩ := n.dict I3
  cases h5
  refine wpAny_dictSet_heap (hsz := Nat.zero_le _) (by show X.A.units + 8 < cLine; omega) hi dd fun h' dd' sb => ?_
  obtain ⟨o', n', I'⟩ := nd_store (t' := s2.toks + (nestedKind X.prog X.w).draws kk) I3 n .nil (fun x hx => nomatch hx) (by decide) hkk rz dd' sb
  exact ⟨.ref s.heap.objs.size, _, I', rfl, q2 o' n'⟩
/-! len(d) -/
def rLenN (P : Program) (w : World) (K : PySem.W.Frag) : List V → Hp → VK → Prop := fun xs H Q => ∃ (d : Addr) (kvs : List (NK × V)), xs = [.ref d] ∧ Nd P w K H d kvs ∧ Q (.int ((kvs.length : Nat) : Int)) H
theorem call_lenND : CallR X (.builtin "len") (rLenN X.prog X.w X.K) := by
  intro pins s σ H xs us Q I r h
  obtain ⟨d, kvs, rfl, ⟨o, n⟩, q⟩ := h
  obtain ⟨u, rfl, rx⟩ := vals1 r
  obtain rfl : u = .ref d := rx
  obtain ⟨ys, h5, dd, _⟩ := n.dict I
  have hl : kvs.length = ys.length := Paired.length h5
  have hz := n.sz
  rw [sizeLine_eq] at hz
  refine call_len_dictH n.sys dd (by omega) ?_
  exact ⟨.int ((kvs.length : Nat) : Int), H, I.tok _, ⟨_, by rw [hl]⟩, q⟩
/-! walks -/
/-- the keys of the dict at d, the object o -/
def ItN (P : Program) (w : World) (K : PySem.W.Frag) (d : Addr) (o : Obj) (kvs : List (NK × V)) : It :=
  ⟨fun i H => NdAt P w K H d o kvs ∧ i < kvs.length, fun i H x H' => H' = H ∧ ∃ k v, kvs[i]? = some (k, v) ∧ KeyV K H x k, fun i H => NdAt P w K H d o kvs ∧ kvs.length ≤ i⟩
theorem NdAt.walk {pins : List (Addr × Obj)} {σ : L2.St} {H : Hp} {s : Shared} {d : Addr} {o : Obj} {kvs : List (NK × V)} (I : Inv X pins σ H s) (n : NdAt X.prog X.w X.K H d o kvs) :
    s.heap.get? d = some o ∧ o.ExactDict ∧ ∃ (es : Array DictEntry) (ep : Nat), o.data = .dict es ep ∧ es.size = kvs.length ∧ ∀ (i : Nat) (k : NK) (v : V), kvs[i]? = some (k, v) → ∃ (en : DictEntry) (q : Addr), es[i]? = some en ∧ en.key = .ref q ∧ KeyV X.K H (.ref q) k := by
  obtain ⟨es, ep, xs, h1, h2, h3, h4, h5, h6⟩ := n.ex
  refine ⟨pin_get I.hok n.here, h1, es, ep, h2, ?_, fun i k v e => ?_⟩
  · have l1 : es.size = xs.length := size_of_entries h3
    have l2 : kvs.length = xs.length := Paired.length h5
    omega
  · obtain ⟨b, hb, e1, e2⟩ := paired_get h5 e
    have q := entry_at h3 i
    rw [hb] at q
    have hm := h6 b (List.mem_of_getElem? hb)
    have e1' : k = b.1 := e1
    exact ⟨_, b.2.1, q, rfl, ⟨_, rfl⟩, by rw [e1']; exact hm.1, by rw [e1']; exact hm.2⟩
theorem turn_nd {P : Program} {w : World} {K : PySem.W.Frag} {tg : Expr} {d : Addr} {o : Obj} {es : Array DictEntry} {ep : Nat} {kvs : List (NK × V)} (it : Addr) (hod : o.data = .dict es ep) : Turn P w K tg (ItN P w K d o kvs) [it] it (fun i h => h.IsKeyIter it d i kvs.length ep) where
  mem := by simp
  obj := fun i h st b hb => by
    have e : b = it := by simpa using hb
    subst e
    obtain ⟨oi, e, c, dd⟩ := st
    exact ⟨oi, e, fun v z => by rw [dd] at z; cases z⟩
  keep := fun i h h' st k => st.at fun oi e => k it (by simp) oi e
  item := by
    intro X hP hw hK hc i pins s σ H E I hf st hg
    subst hP hw hK
    obtain ⟨hd, hi⟩ := hg
    obtain ⟨f0, f1, f2, f3, f4, f5⟩ := hf it (by simp)
    obtain ⟨hgd, hx, es', ep', hdt, hsz, ent⟩ := hd.walk I
    obtain ⟨rfl, rfl⟩ := dict_ep hod hdt
    obtain ⟨⟨k, v⟩, hkv⟩ : ∃ p, kvs[i]? = some p := ⟨kvs[i], List.getElem?_eq_getElem hi⟩
    obtain ⟨en, q, hen, hkey, hq⟩ := ent i k v hkv
    refine next_key_item st hgd hdt hsz hen fun h' st' sb => ?_
    have I1 : Inv X pins σ H { s with heap := h' } := I.turned (t' := s.toks) (fun b ob hb e => (sb.2 b hb).trans e) f0 f1 f3 f4 f5
    obtain ⟨oi, e, c, dd⟩ := id st'
    exact ⟨en.key, rfl, go_of (s := { s with heap := h' }) e c dd (by decide) ⟨.ref q, H, I1, hkey, ⟨rfl, k, v, hkv, hq⟩, st', fun b hb => (hf b hb).1⟩⟩
  done := by
    intro X hP hw hK hc i pins s σ H E I hf st hg
    subst hP hw hK
    obtain ⟨hd, hi⟩ := hg
    obtain ⟨f0, f1, f2, f3, f4, f5⟩ := hf it (by simp)
    obtain ⟨hgd, hx, es', ep', hdt, hsz, ent⟩ := hd.walk I
    obtain ⟨rfl, rfl⟩ := dict_ep hod hdt
    exact next_key_end (I.ok.hd hc) st hgd hdt hsz hi fun h' eb => ⟨rfl, I.turned (t' := s.toks) (fun b ob hb e => eb b ob hb e) f0 f1 f3 f4 f5⟩
  self := fun A i s Q E st h => by
    refine wpAny_pyIter_slot st.typeIs F.slot_dict_keyiterator_iter (wpAny_call_entry F.slot_dict_keyiterator_iter st.typeIs F.entry_dict_keyiterator_iter ?_ (F.args_dict_keyiterator_iter_1 _))
    show wpAny _ _ (ret (.ref it)) _ _ s
    exact wpAny_pure ⟨_, rfl, "dict_keyiterator", _, st.typeIs, F.slot_dict_keyiterator_next.lookup, h⟩
def iNd (P : Program) (w : World) (K : PySem.W.Frag) (td : TE) : TI := fun σ H R => td σ H fun x H1 => ∃ d o kvs, x = .ref d ∧ NdAt P w K H1 d o kvs ∧ R (ItN P w K d o kvs) H1
theorem pi_nd {tg e : Expr} {td : TE} (he : PE X e td) : PI X tg e (iNd X.prog X.w X.K td) := by
  refine ⟨fun pins s σ H R I h => ?_⟩
  refine thn (he.run pins s σ H _ I h) fun u s1 ⟨x, H1, I1, rx, d, o, kvs, ex, n, q⟩ => ?_
  subst ex
  obtain rfl : u = Value.ref d := rx
  obtain ⟨hgd, hx, es, ep, hdt, hsz, ent⟩ := n.walk I1
  refine iter_keys n.sys hgd hx hdt (pi_one (tk := s1.toks) I1 _ (turn_nd _ hdt) ⟨_, Heap.get?_push_size _ rfl, rfl, ?_⟩ q)
  rw [hsz] <;> rfl
theorem walk_nd {P : Program} {w : World} {K : PySem.W.Frag} {d : Addr} {o : Obj} {kvs : List (NK × V)} : Walk (ItN P w K d o kvs) kvs.length (fun H => NdAt P w K H d o kvs) (fun i H x H' => H' = H ∧ ∃ k v, kvs[i]? = some (k, v) ∧ KeyV K H x k) :=
  ⟨fun _ _ hi q => ⟨q, hi⟩, fun _ q => ⟨q, Nat.le_refl _⟩, fun _ _ _ _ _ _ y => y⟩
end
theorem KeyV.keep {K : PySem.W.Frag} {H H' : Hp} {v : V} {k : NK} (h : KeyV K H v k) (t : TK H H') : KeyV K H' v k := ⟨h.ref, Dp.keepT t h.dp (nk_noL _), h.dep⟩
end Bw

set_option Elab.async false
set_option linter.all false
set_option maxRecDepth 100000
set_option maxHeartbeats 4000000
namespace Bw
open PySem PySem.Spec PyProof.Rows L2
/-! ### fates, from the front -/
def RunOk (l : Line) : Nat → List (Option Nat) → Prop
  | _, [] => True
  | r, none :: os => r < l.lost ∧ RunOk l (r + 1) os
  | _, some d :: os => d ≤ l.late ∧ RunOk l 0 os
def runEnd : Nat → List (Option Nat) → Nat
  | r, [] => r
  | r, none :: os => runEnd (r + 1) os
  | _, some _ :: os => runEnd 0 os
def FitsO (l : Line) (r : Nat) : Option Nat → Prop
  | none => r < l.lost
  | some d => d ≤ l.late
theorem runOk_snoc (l : Line) (o : Option Nat) : ∀ (os : List (Option Nat)) (r : Nat), RunOk l r (os ++ [o]) ↔ RunOk l r os ∧ FitsO l (runEnd r os) o
  | [], r => by
    cases o with
    | none => exact ⟨fun h => ⟨trivial, h.1⟩, fun h => ⟨h.2, trivial⟩⟩
    | some d => exact ⟨fun h => ⟨trivial, h.1⟩, fun h => ⟨h.2, trivial⟩⟩
  | none :: os, r => by
    have ih := runOk_snoc l o os (r + 1)
    constructor
    · rintro ⟨h1, h2⟩
      exact ⟨⟨h1, (ih.mp h2).1⟩, (ih.mp h2).2⟩
    · rintro ⟨⟨h1, h2⟩, h3⟩
      exact ⟨h1, ih.mpr ⟨h2, h3⟩⟩
  | some d :: os, r => by
    have ih := runOk_snoc l o os 0
    constructor
    · rintro ⟨h1, h2⟩
      exact ⟨⟨h1, (ih.mp h2).1⟩, (ih.mp h2).2⟩
    · rintro ⟨⟨h1, h2⟩, h3⟩
      exact ⟨h1, ih.mpr ⟨h2, h3⟩⟩
theorem runEnd_snoc (o : Option Nat) : ∀ (os : List (Option Nat)) (r : Nat), runEnd r (os ++ [o]) = match o with | none => runEnd r os + 1 | some _ => 0
  | [], r => by cases o <;> rfl
  | none :: os, r => runEnd_snoc o os (r + 1)
  | some d :: os, r => runEnd_snoc o os 0
theorem outs_iff (l : Line) (r : Nat) (os : List (Option Nat)) : Outs l r os ↔ RunOk l 0 os ∧ runEnd 0 os = r := by
  constructor
  · intro h
    induction h with
    | nil => exact ⟨trivial, rfl⟩
    | lose h hr ih =>
      refine ⟨(runOk_snoc l none _ 0).mpr ⟨ih.1, ?_⟩, ?_⟩
      · show runEnd 0 _ < l.lost
        rw [ih.2]
        exact hr
      · rw [runEnd_snoc, ih.2]
    | hear h d hd ih =>
      refine ⟨(runOk_snoc l (some d) _ 0).mpr ⟨ih.1, hd⟩, ?_⟩
      rw [runEnd_snoc]
  · revert r
    refine snoc_ind (P := fun os => ∀ r, RunOk l 0 os ∧ runEnd 0 os = r → Outs l r os) ?_ ?_ os
    · rintro r ⟨_, h⟩
      have h' : 0 = r := h
      subst h'
      exact .nil
    · intro os o ih r h
      obtain ⟨h1, h2⟩ := (runOk_snoc l o os 0).mp h.1
      have h3 := h.2
      rw [runEnd_snoc] at h3
      cases o with
      | none =>
        have h4 : runEnd 0 os + 1 = r := h3
        subst h4
        exact .lose (ih _ ⟨h1, rfl⟩) h2
      | some d =>
        have h4 : 0 = r := h3
        subst h4
        exact .hear (ih _ ⟨h1, rfl⟩) d h2
/-! ### how many are heard in a moment -/
def hit1 (t0 t : Nat) : Option Nat → Nat
  | none => 0
  | some d => if t0 + d = t then 1 else 0
def cntT (each : Nat) : Nat → List (Option Nat) → Nat → Nat
  | _, [], _ => 0
  | t0, o :: os, t => hit1 t0 t o + cntT each (t0 + each) os t
theorem cntT_snoc (each : Nat) (o : Option Nat) (t : Nat) : ∀ (os : List (Option Nat)) (t0 : Nat), cntT each t0 (os ++ [o]) t = cntT each t0 os t + hit1 (t0 + os.length * each) t o
  | [], t0 => by
    show hit1 t0 t o + 0 = 0 + hit1 (t0 + 0 * each) t o
    rw [Nat.zero_mul, Nat.add_zero, Nat.zero_add, Nat.add_zero]
  | p :: os, t0 => by
    show hit1 t0 t p + cntT each (t0 + each) (os ++ [o]) t = hit1 t0 t p + cntT each (t0 + each) os t + hit1 (t0 + (os.length + 1) * each) t o
    have e : t0 + each + os.length * each = t0 + (os.length + 1) * each := by
      rw [Nat.succ_mul]
      omega
    rw [cntT_snoc each o t os (t0 + each), e, Nat.add_assoc]
theorem cnt_eq (each : Nat) (os : List (Option Nat)) (t : Nat) : cnt each os t = cntT each 0 os t := by
  refine snoc_ind (P := fun os => cnt each os t = cntT each 0 os t) rfl ?_ os
  intro os o ih
  rw [cnt_snoc, cntT_snoc, ih, Nat.zero_add]
  congr 1
  cases o with
  | none => rfl
  | some d =>
    show (if decide (os.length * each + d = t) = true then 1 else 0) = if os.length * each + d = t then 1 else 0
    by_cases h : os.length * each + d = t
    · rw [if_pos (decide_eq_true h), if_pos h]
    · rw [if_neg (by rw [decide_eq_false h]; decide), if_neg h]
theorem hit1_shift (t0 t : Nat) (o : Option Nat) : hit1 (t0 + 1) (t + 1) o = hit1 t0 t o := by
  cases o with
  | none => rfl
  | some d =>
    show (if t0 + 1 + d = t + 1 then 1 else 0) = if t0 + d = t then 1 else 0
    by_cases h : t0 + d = t
    · rw [if_pos h, if_pos (by omega)]
    · rw [if_neg h, if_neg (by omega)]
theorem cntT_shift (each t : Nat) : ∀ (os : List (Option Nat)) (t0 : Nat), cntT each (t0 + 1) os (t + 1) = cntT each t0 os t
  | [], _ => rfl
  | o :: os, t0 => by
    show hit1 (t0 + 1) (t + 1) o + cntT each (t0 + 1 + each) os (t + 1) = hit1 t0 t o + cntT each (t0 + each) os t
    rw [hit1_shift, Nat.add_right_comm, cntT_shift each t os (t0 + each)]
theorem cntT_before (each : Nat) {t : Nat} : ∀ (os : List (Option Nat)) (t0 : Nat), t < t0 → cntT each t0 os t = 0
  | [], _, _ => rfl
  | o :: os, t0, h => by
    show hit1 t0 t o + cntT each (t0 + each) os t = 0
    rw [cntT_before each os (t0 + each) (by omega)]
    cases o with
    | none => rfl
    | some d =>
      show (if t0 + d = t then 1 else 0) + 0 = 0
      rw [if_neg (by omega)]
/-- k beats are sent within n moments, the first at t0 -/
def LenOk (each t0 n k : Nat) : Prop := ∀ i, i < k ↔ t0 + i * each < n
theorem lenOk_up {each n : Nat} (h : 1 ≤ each) : LenOk each 0 n ((n + each - 1) / each) := by
  intro i
  rw [Nat.zero_add]
  constructor
  · intro hi
    have h1 : i + 1 ≤ (n + each - 1) / each := hi
    rw [Nat.le_div_iff_mul_le (by omega), Nat.succ_mul] at h1
    omega
  · intro hi
    have h1 : i + 1 ≤ (n + each - 1) / each := by
      rw [Nat.le_div_iff_mul_le (by omega), Nat.succ_mul]
      omega
    exact h1
theorem lenOk_uniq {each t0 n k k' : Nat} (h : LenOk each t0 n k) (h' : LenOk each t0 n k') : k = k' := by
  by_cases h1 : k < k'
  · have := (h' k).mp h1
    have := (h k).mpr this
    omega
  · by_cases h2 : k' < k
    · have := (h k').mp h2
      have := (h' k').mpr this
      omega
    · omega
theorem lenOk_shift {each t0 n k : Nat} : LenOk each (t0 + 1) (n + 1) k ↔ LenOk each t0 n k := by
  constructor
  · intro h i
    rw [h i]
    omega
  · intro h i
    rw [h i]
    omega
theorem lenOk_first {each n k : Nat} (he : 1 ≤ each) : LenOk each 0 (n + 1) (k + 1) ↔ LenOk each (each - 1) n k := by
  constructor
  · intro h i
    have := h (i + 1)
    rw [Nat.succ_mul] at this
    omega
  · intro h i
    cases i with
    | zero =>
      rw [Nat.zero_mul]
      omega
    | succ i =>
      have := h i
      rw [Nat.succ_mul]
      omega
/-! ### beats on their way: (age, how long it takes yet) -/
def cnt0 : List (Nat × Nat) → Nat
  | [] => 0
  | (_, 0) :: P => cnt0 P + 1
  | (_, _ + 1) :: P => cnt0 P
def tick : List (Nat × Nat) → List (Nat × Nat)
  | [] => []
  | (_, 0) :: P => tick P
  | (a, r + 1) :: P => (a + 1, r) :: tick P
def cntR : List (Nat × Nat) → Nat → Nat
  | [], _ => 0
  | (_, r) :: P, t => (if r = t then 1 else 0) + cntR P t
theorem cntR_zero : ∀ P : List (Nat × Nat), cntR P 0 = cnt0 P
  | [] => rfl
  | (a, 0) :: P => by
    show (if 0 = 0 then 1 else 0) + cntR P 0 = cnt0 P + 1
    rw [cntR_zero P, if_pos rfl, Nat.add_comm]
  | (a, r + 1) :: P => by
    show (if r + 1 = 0 then 1 else 0) + cntR P 0 = cnt0 P
    rw [cntR_zero P, if_neg (by omega), Nat.zero_add]
theorem cntR_tick (t : Nat) : ∀ P : List (Nat × Nat), cntR (tick P) t = cntR P (t + 1)
  | [] => rfl
  | (a, 0) :: P => by
    show cntR (tick P) t = (if 0 = t + 1 then 1 else 0) + cntR P (t + 1)
    rw [cntR_tick t P, if_neg (by omega), Nat.zero_add]
  | (a, r + 1) :: P => by
    show (if r = t then 1 else 0) + cntR (tick P) t = (if r + 1 = t + 1 then 1 else 0) + cntR P (t + 1)
    rw [cntR_tick t P]
    congr 1
    by_cases h : r = t
    · rw [if_pos h, if_pos (by omega)]
    · rw [if_neg h, if_neg (by omega)]
theorem cntR_snoc (a d t : Nat) : ∀ P : List (Nat × Nat), cntR (P ++ [(a, d)]) t = cntR P t + if d = t then 1 else 0
  | [] => by
    show (if d = t then 1 else 0) + 0 = 0 + _
    rw [Nat.add_zero, Nat.zero_add]
  | (b, r) :: P => by
    show (if r = t then 1 else 0) + cntR (P ++ [(a, d)]) t = (if r = t then 1 else 0) + cntR P t + _
    rw [cntR_snoc a d t P, Nat.add_assoc]
def AccDG : List (Nat × Nat) → List Int → Prop
  | _, [] => True
  | P, m :: v => m = (cnt0 P : Int) ∧ AccDG (tick P) v
/-- a moment begins: t0 moments till the next beat -/
inductive Send (l : Line) : Nat → List (Nat × Nat) → Nat → List (Nat × Nat) → Nat → Nat → Prop where
  | wait (t0 : Nat) (P : List (Nat × Nat)) (run : Nat) : Send l (t0 + 1) P run P run t0
  | lose (P : List (Nat × Nat)) (run : Nat) (h : run < l.lost) : Send l 0 P run P (run + 1) (l.each - 1)
  | keep (P : List (Nat × Nat)) (run d : Nat) (h : d ≤ l.late) : Send l 0 P run (P ++ [(0, d)]) 0 (l.each - 1)
def AccD (l : Line) : Nat → List (Nat × Nat) → Nat → List Int → List Int → Prop
  | _, P, _, [], v => AccDG P v
  | t0, P, run, m :: u, v => ∃ P' run' t0', Send l t0 P run P' run' t0' ∧ m = (cnt0 P' : Int) ∧ AccD l t0' (tick P') run' u v
theorem accDG_iff : ∀ (v : List Int) (P : List (Nat × Nat)), AccDG P v ↔ ∀ t, t < v.length → v[t]? = some ((cntR P t : Nat) : Int)
  | [], P => ⟨fun _ t h => absurd h (Nat.not_lt_zero _), fun _ => trivial⟩
  | m :: v, P => by
    have ih := accDG_iff v (tick P)
    constructor
    · rintro ⟨h1, h2⟩ t ht
      cases t with
      | zero => rw [cntR_zero, ← h1]; rfl
      | succ t =>
        have := ih.mp h2 t (by simpa using ht)
        rw [cntR_tick] at this
        exact this
    · intro h
      refine ⟨?_, ih.mpr fun t ht => ?_⟩
      · have := h 0 (by simp)
        rw [cntR_zero] at this
        exact Option.some.inj this
      · have := h (t + 1) (by simpa using ht)
        rw [cntR_tick]
        exact this
theorem accD_iff (l : Line) (he : 1 ≤ l.each) : ∀ (u v : List Int) (t0 : Nat) (P : List (Nat × Nat)) (run : Nat), AccD l t0 P run u v ↔
    ∃ os, RunOk l run os ∧ LenOk l.each t0 u.length os.length ∧ ∀ t, t < u.length + v.length → (u ++ v)[t]? = some ((cntR P t + cntT l.each t0 os t : Nat) : Int)
  | [], v, t0, P, run => by
    have ih := accDG_iff v P
    constructor
    · intro h
      refine ⟨[], trivial, fun i => ⟨fun h => absurd h (Nat.not_lt_zero _), fun h => absurd h (Nat.not_lt_zero _)⟩, fun t ht => ?_⟩
      have := ih.mp h t (by simpa using ht)
      exact this
    · rintro ⟨os, h1, h2, h3⟩
      refine ih.mpr fun t ht => ?_
      have e : os = [] := by
        cases os with
        | nil => rfl
        | cons o os => exact absurd ((h2 0).mp (by simp)) (Nat.not_lt_zero _)
      subst e
      exact h3 t (by simpa using ht)
  | m :: u, v, t0, P, run => by
    constructor
    · rintro ⟨P', run', t0', hs, hm, h⟩
      obtain ⟨os, h1, h2, h3⟩ := (accD_iff l he u v t0' (tick P') run').mp h
      cases hs with
      | wait =>
        refine ⟨os, h1, lenOk_shift.mpr h2, fun t ht => ?_⟩
        cases t with
        | zero => rw [cntR_zero, cntT_before _ _ _ (by omega), Nat.add_zero, ← hm]; rfl
        | succ t =>
          have := h3 t (by simp at ht; omega)
          rw [cntR_tick] at this
          rw [cntT_shift]
          exact this
      | lose _ _ hr =>
        refine ⟨none :: os, ⟨hr, h1⟩, (lenOk_first he).mpr h2, fun t ht => ?_⟩
        have e : cntT l.each 0 (none :: os) t = cntT l.each l.each os t := by
          show 0 + cntT l.each (0 + l.each) os t = _
          rw [Nat.zero_add, Nat.zero_add]
        rw [e]
        cases t with
        | zero => rw [cntR_zero, cntT_before _ _ _ (by omega), Nat.add_zero, ← hm]; rfl
        | succ t =>
          have := h3 t (by simp at ht; omega)
          rw [cntR_tick] at this
          have e2 : l.each = l.each - 1 + 1 := by omega
          have e3 : cntT l.each l.each os (t + 1) = cntT l.each (l.each - 1) os t := by
            conv => lhs; arg 2; rw [e2]
            exact cntT_shift _ _ _ _
          rw [e3]
          exact this
      | keep _ _ d hd =>
        refine ⟨some d :: os, ⟨hd, h1⟩, (lenOk_first he).mpr h2, fun t ht => ?_⟩
        have e : cntT l.each 0 (some d :: os) t = (if d = t then 1 else 0) + cntT l.each l.each os t := by
          show (if 0 + d = t then 1 else 0) + cntT l.each (0 + l.each) os t = _
          rw [Nat.zero_add, Nat.zero_add]
        rw [e, ← Nat.add_assoc, ← cntR_snoc 0 d t P]
        cases t with
        | zero => rw [cntR_zero, cntT_before _ _ _ (by omega), Nat.add_zero, ← hm]; rfl
        | succ t =>
          have := h3 t (by simp at ht; omega)
          rw [cntR_tick] at this
          have e2 : l.each = l.each - 1 + 1 := by omega
          have e3 : cntT l.each l.each os (t + 1) = cntT l.each (l.each - 1) os t := by
            conv => lhs; arg 2; rw [e2]
            exact cntT_shift _ _ _ _
          rw [e3]
          exact this
    · rintro ⟨os, h1, h2, h3⟩
      have h0 := h3 0 (by simp; omega)
      have hS : ∀ t, t < u.length + v.length → (u ++ v)[t]? = some ((cntR P (t + 1) + cntT l.each t0 os (t + 1) : Nat) : Int) := fun t ht => h3 (t + 1) (by simp; omega)
      cases t0 with
      | succ t0 =>
        refine ⟨P, run, t0, .wait _ _ _, ?_, (accD_iff l he u v t0 (tick P) run).mpr ⟨os, h1, lenOk_shift.mp h2, fun t ht => ?_⟩⟩
        · rw [cntR_zero, cntT_before _ _ _ (by omega), Nat.add_zero] at h0
          exact Option.some.inj h0
        · rw [cntR_tick, ← cntT_shift]
          exact hS t ht
      | zero =>
        cases os with
        | nil => exact absurd ((h2 0).mpr (by simp)) (by simp)
        | cons o os =>
          have h2' := (lenOk_first (k := os.length) he).mp h2
          have e3 : ∀ t, cntT l.each l.each os (t + 1) = cntT l.each (l.each - 1) os t := fun t => by
            have e2 : l.each = l.each - 1 + 1 := by omega
            conv => lhs; arg 2; rw [e2]
            exact cntT_shift _ _ _ _
          cases o with
          | none =>
            have e : ∀ t, cntT l.each 0 (none :: os) t = cntT l.each l.each os t := fun t => by
              show 0 + cntT l.each (0 + l.each) os t = _
              rw [Nat.zero_add, Nat.zero_add]
            refine ⟨P, run + 1, l.each - 1, .lose _ _ h1.1, ?_, (accD_iff l he u v _ (tick P) (run + 1)).mpr ⟨os, h1.2, h2', fun t ht => ?_⟩⟩
            · rw [cntR_zero, e, cntT_before _ _ _ (by omega), Nat.add_zero] at h0
              exact Option.some.inj h0
            · rw [cntR_tick, ← e3, ← e]
              exact hS t ht
          | some d =>
            have e : ∀ t, cntT l.each 0 (some d :: os) t = (if d = t then 1 else 0) + cntT l.each l.each os t := fun t => by
              show (if 0 + d = t then 1 else 0) + cntT l.each (0 + l.each) os t = _
              rw [Nat.zero_add, Nat.zero_add]
            refine ⟨P ++ [(0, d)], 0, l.each - 1, .keep _ _ _ h1.1, ?_, (accD_iff l he u v _ (tick (P ++ [(0, d)])) 0).mpr ⟨os, h1.2, h2', fun t ht => ?_⟩⟩
            · rw [e, ← Nat.add_assoc, ← cntR_snoc 0 d 0 P, cntR_zero, cntT_before _ _ _ (by omega), Nat.add_zero] at h0
              exact Option.some.inj h0
            · rw [cntR_tick, ← e3, cntR_snoc, Nat.add_assoc, ← e]
              exact hS t ht
/-! ### the program's own states: the eldest ones are heard first -/
structure LS where
  ph : Nat
  ages : List Nat
  run : Nat
  deriving DecidableEq
def LS.first : LS := ⟨0, [], 0⟩
def begunL (l : Line) (s : LS) : List (List Nat × Nat) := if 0 < s.ph then [(s.ages, s.run)] else (s.ages ++ [0], 0) :: if s.run < l.lost then [(s.ages, s.run + 1)] else []
def youngL (l : Line) (ages : List Nat) : Bool := decide (ages.filter (fun a => decide (l.late ≤ a)) = [])
theorem youngL_iff (l : Line) (ages : List Nat) : youngL l ages = true ↔ ∀ a ∈ ages, a < l.late := by
  unfold youngL
  rw [decide_eq_true_eq, List.filter_eq_nil_iff]
  constructor
  · intro h a ha
    have := h a ha
    simp only [decide_eq_true_eq] at this
    omega
  · intro h a ha
    have := h a ha
    simp only [decide_eq_true_eq]
    omega
def heardL (l : Line) (ages : List Nat) : List (Nat × List Nat) := (List.range (ages.length + 1)).filterMap fun m => if youngL l (ages.drop m) = true then some (m, (ages.drop m).map (· + 1)) else none
theorem heardL_mem {l : Line} {ages : List Nat} {c : Nat} {left : List Nat} : (c, left) ∈ heardL l ages ↔ c ≤ ages.length ∧ (∀ a ∈ ages.drop c, a < l.late) ∧ left = (ages.drop c).map (· + 1) := by
  unfold heardL
  rw [List.mem_filterMap]
  constructor
  · rintro ⟨m, hm, h⟩
    split at h
    · rename_i hy
      have h' := Option.some.inj h
      injection h' with e1 e2
      subst e1
      have := List.mem_range.mp hm
      exact ⟨by omega, (youngL_iff l _).mp hy, e2.symm⟩
    · cases h
  · rintro ⟨h1, h2, rfl⟩
    refine ⟨c, List.mem_range.mpr (by omega), ?_⟩
    rw [if_pos ((youngL_iff l _).mpr h2)]
def movesL (l : Line) (s : LS) : List (Nat × LS) := (begunL l s).flatMap fun b => (heardL l b.1).map fun h => (h.1, ⟨(s.ph + 1) % l.each, h.2, b.2⟩)
theorem movesL_mem {l : Line} {s s' : LS} {c : Nat} : (c, s') ∈ movesL l s ↔ ∃ ages run, (ages, run) ∈ begunL l s ∧ c ≤ ages.length ∧ (∀ a ∈ ages.drop c, a < l.late) ∧ s' = ⟨(s.ph + 1) % l.each, (ages.drop c).map (· + 1), run⟩ := by
  unfold movesL
  rw [List.mem_flatMap]
  constructor
  · rintro ⟨⟨ages, run⟩, hb, h⟩
    obtain ⟨⟨c', left⟩, hh, e⟩ := List.mem_map.mp h
    injection e with e1 e2
    have e1' : c' = c := e1
    subst e1'
    obtain ⟨h1, h2, h3⟩ := heardL_mem.mp hh
    refine ⟨ages, run, hb, h1, h2, ?_⟩
    rw [← e2, ← h3]
  · rintro ⟨ages, run, hb, h1, h2, rfl⟩
    exact ⟨(ages, run), hb, List.mem_map.mpr ⟨(c, (ages.drop c).map (· + 1)), heardL_mem.mpr ⟨h1, h2, rfl⟩, rfl⟩⟩
def AccG (l : Line) : List Nat → List Int → Prop
  | _, [] => True
  | ages, m :: v => ∃ c left, (c, left) ∈ heardL l ages ∧ m = (c : Int) ∧ AccG l left v
def AccF (l : Line) : LS → List Int → List Int → Prop
  | s, [], v => AccG l s.ages v
  | s, m :: u, v => ∃ c s', (c, s') ∈ movesL l s ∧ m = (c : Int) ∧ AccF l s' u v
def Bnd (late : Nat) (P : List (Nat × Nat)) : Prop := ∀ p ∈ P, p.1 + p.2 ≤ late
theorem zip_step : ∀ (c : Nat) (ages : List Nat) (rs : List Nat), c ≤ ages.length → rs.length = ages.length - c → cnt0 (ages.zip (List.replicate c 0 ++ rs.map (· + 1))) = c ∧ tick (ages.zip (List.replicate c 0 ++ rs.map (· + 1))) = ((ages.drop c).map (· + 1)).zip rs
  | 0, ages, rs, _, h => by
    rw [List.replicate_zero, List.nil_append, List.drop_zero]
    induction ages generalizing rs with
    | nil =>
      cases rs with
      | nil => exact ⟨rfl, rfl⟩
      | cons r rs => simp at h
    | cons a ages ih =>
      cases rs with
      | nil => simp at h
      | cons r rs =>
        obtain ⟨h1, h2⟩ := ih rs (Nat.zero_le _) (by simpa using h)
        refine ⟨?_, ?_⟩
        · show cnt0 ((a, r + 1) :: ages.zip (rs.map (· + 1))) = 0
          exact h1
        · show (a + 1, r) :: tick (ages.zip (rs.map (· + 1))) = (a + 1, r) :: (ages.map (· + 1)).zip rs
          rw [h2]
  | c + 1, [], rs, h, _ => absurd h (by simp)
  | c + 1, a :: ages, rs, h, h' => by
    obtain ⟨h1, h2⟩ := zip_step c ages rs (by simpa using h) (by simpa using h')
    refine ⟨?_, ?_⟩
    · show cnt0 ((a, 0) :: ages.zip (List.replicate c 0 ++ rs.map (· + 1))) = c + 1
      show cnt0 (ages.zip (List.replicate c 0 ++ rs.map (· + 1))) + 1 = c + 1
      rw [h1]
    · show tick (ages.zip (List.replicate c 0 ++ rs.map (· + 1))) = ((ages.drop c).map (· + 1)).zip rs
      exact h2
theorem zip_bnd {late : Nat} : ∀ (c : Nat) (ages : List Nat) (rs : List Nat), (∀ a ∈ ages, a ≤ late) → Bnd late (((ages.drop c).map (· + 1)).zip rs) → Bnd late (ages.zip (List.replicate c 0 ++ rs.map (· + 1)))
  | 0, ages, rs, h, hb => by
    rw [List.replicate_zero, List.nil_append]
    rw [List.drop_zero] at hb
    induction ages generalizing rs with
    | nil => intro p hp; cases hp
    | cons a ages ih =>
      cases rs with
      | nil => intro p hp; cases hp
      | cons r rs =>
        intro p hp
        rcases List.mem_cons.mp hp with rfl | hp
        · have := hb (a + 1, r) List.mem_cons_self
          have this : a + 1 + r ≤ late := this
          show a + (r + 1) ≤ late
          omega
        · exact ih rs (fun b hb' => h b (List.mem_cons_of_mem _ hb')) (fun q hq => hb q (List.mem_cons_of_mem _ hq)) p hp
  | c + 1, [], rs, h, hb => by intro p hp; cases hp
  | c + 1, a :: ages, rs, h, hb => by
    intro p hp
    rcases List.mem_cons.mp hp with rfl | hp
    · have := h a List.mem_cons_self
      show a + 0 ≤ late
      omega
    · exact zip_bnd c ages rs (fun b hb' => h b (List.mem_cons_of_mem _ hb')) hb p hp
def T0 (l : Line) (ph : Nat) : Nat := if ph = 0 then 0 else l.each - ph
theorem T0_next {l : Line} {ph : Nat} (he : 1 ≤ l.each) (h : ph < l.each) : (ph = 0 → T0 l ((ph + 1) % l.each) = l.each - 1) ∧ (0 < ph → T0 l ph = T0 l ((ph + 1) % l.each) + 1) := by
  unfold T0
  by_cases h1 : ph + 1 = l.each
  · rw [h1, Nat.mod_self, if_pos rfl]
    constructor
    · intro e
      omega
    · intro e
      rw [if_neg (by omega)]
      omega
  · rw [Nat.mod_eq_of_lt (by omega), if_neg (by omega)]
    constructor
    · intro e
      omega
    · intro e
      rw [if_neg (by omega)]
      omega
theorem gone_D (l : Line) : ∀ (v : List Int) (ages : List Nat), (∀ a ∈ ages, a ≤ l.late) → AccG l ages v → ∃ rs : List Nat, rs.length = ages.length ∧ Bnd l.late (ages.zip rs) ∧ AccDG (ages.zip rs) v
  | [], ages, ha, _ => by
    refine ⟨List.replicate ages.length 0, by simp, ?_, trivial⟩
    intro p hp
    have h1 := List.of_mem_zip (a := p.1) (b := p.2) hp
    have h2 := List.eq_of_mem_replicate h1.2
    have h3 := ha _ h1.1
    omega
  | m :: v, ages, ha, h => by
    obtain ⟨c, left, hc, rfl, h⟩ := h
    obtain ⟨h1, h2, rfl⟩ := heardL_mem.mp hc
    obtain ⟨rs, e1, e2, e3⟩ := gone_D l v ((ages.drop c).map (· + 1)) (fun a ha' => by
      obtain ⟨b, hb, rfl⟩ := List.mem_map.mp ha'
      have := h2 b hb
      omega) h
    rw [List.length_map, List.length_drop] at e1
    obtain ⟨z1, z2⟩ := zip_step c ages rs h1 e1
    refine ⟨List.replicate c 0 ++ rs.map (· + 1), by rw [List.length_append, List.length_replicate, List.length_map]; omega, zip_bnd c ages rs ha e2, ?_, ?_⟩
    · rw [z1]
    · rw [z2]
      exact e3
theorem split_last {rs : List Nat} {n : Nat} (h : rs.length = n + 1) : ∃ r d, rs = r ++ [d] ∧ r.length = n := by
  rcases List.eq_nil_or_concat rs with rfl | ⟨r, d, rfl⟩
  · simp at h
  · refine ⟨r, d, by rw [List.concat_eq_append], ?_⟩
    rw [List.concat_eq_append, List.length_append, List.length_singleton] at h
    omega
theorem fifo_D (l : Line) (he : 1 ≤ l.each) : ∀ (u v : List Int) (s : LS), (∀ a ∈ s.ages, a ≤ l.late) → s.ph < l.each → AccF l s u v → ∃ rs : List Nat, rs.length = s.ages.length ∧ Bnd l.late (s.ages.zip rs) ∧ AccD l (T0 l s.ph) (s.ages.zip rs) s.run u v
  | [], v, s, ha, _, h => gone_D l v s.ages ha h
  | m :: u, v, s, ha, hp, h => by
    obtain ⟨c, s', hc, rfl, h⟩ := h
    obtain ⟨ages, run, hb, h1, h2, rfl⟩ := movesL_mem.mp hc
    obtain ⟨rs, e1, e2, e3⟩ := fifo_D l he u v ⟨(s.ph + 1) % l.each, (ages.drop c).map (· + 1), run⟩ (fun a ha' => by
      obtain ⟨b, hb, rfl⟩ := List.mem_map.mp ha'
      have := h2 b hb
      omega) (Nat.mod_lt _ (by omega)) h
    have e1' : rs.length = ages.length - c := by
      have : rs.length = ((ages.drop c).map (· + 1)).length := e1
      rw [List.length_map, List.length_drop] at this
      exact this
    obtain ⟨z1, z2⟩ := zip_step c ages rs h1 e1'
    have hl1 : (List.replicate c 0 ++ rs.map (· + 1)).length = ages.length := by rw [List.length_append, List.length_replicate, List.length_map]; omega
    have htn := T0_next (l := l) (ph := s.ph) he hp
    unfold begunL at hb
    split at hb
    · rename_i hph
      rcases List.mem_cons.mp hb with e | hb
      · injection e with ea er
        subst ea er
        refine ⟨_, hl1, zip_bnd c _ rs ha e2, ?_⟩
        refine ⟨_, _, _, ?_, by rw [z1], by rw [z2]; exact e3⟩
        rw [htn.2 hph]
        exact .wait _ _ _
      · cases hb
    · rename_i hph
      have hph0 : s.ph = 0 := by omega
      have hT : T0 l s.ph = 0 := by rw [hph0]; rfl
      rcases List.mem_cons.mp hb with e | hb
      · injection e with ea er
        subst ea er
        have hbn := zip_bnd (late := l.late) c (s.ages ++ [0]) rs (fun a ha' => by
          rcases List.mem_append.mp ha' with ha' | ha'
          · exact ha a ha'
          · rcases List.mem_cons.mp ha' with rfl | ha'
            · exact Nat.zero_le _
            · cases ha') e2
        obtain ⟨r, d, er, hr⟩ := split_last (n := s.ages.length) (by rw [hl1, List.length_append, List.length_singleton])
        rw [er] at hbn z1 z2
        have ez : (s.ages ++ [0]).zip (r ++ [d]) = s.ages.zip r ++ [(0, d)] := by
          rw [List.zip_append (by rw [hr])]
          rfl
        rw [ez] at hbn z1 z2
        refine ⟨r, hr, fun p hp => hbn p (List.mem_append_left _ hp), ?_⟩
        have hd : d ≤ l.late := by
          have := hbn (0, d) (List.mem_append_right _ List.mem_cons_self)
          have : 0 + d ≤ l.late := this
          omega
        refine ⟨_, _, _, ?_, by rw [z1], by rw [z2]; exact e3⟩
        rw [hT, htn.1 hph0]
        exact .keep _ _ d hd
      · split at hb
        · rename_i hl
          rcases List.mem_cons.mp hb with e | hb
          · injection e with ea er
            subst ea er
            refine ⟨_, hl1, zip_bnd c _ rs ha e2, ?_⟩
            refine ⟨_, _, _, ?_, by rw [z1], by rw [z2]; exact e3⟩
            rw [hT, htn.1 hph0]
            exact .lose _ _ hl
          · cases hb
        · cases hb
/-- the program's ages are no greater -/
inductive Le2 : List Nat → List (Nat × Nat) → Prop where
  | nil : Le2 [] []
  | cons {b a r : Nat} {bs : List Nat} {P : List (Nat × Nat)} (h : b ≤ a) (t : Le2 bs P) : Le2 (b :: bs) ((a, r) :: P)
def Desc : List (Nat × Nat) → Prop
  | [] => True
  | (a, _) :: P => (∀ p ∈ P, p.1 ≤ a) ∧ Desc P
theorem Le2.len {bs : List Nat} {P : List (Nat × Nat)} (h : Le2 bs P) : bs.length = P.length := by
  induction h with
  | nil => rfl
  | cons _ _ ih => rw [List.length_cons, List.length_cons, ih]
theorem cnt0_le : ∀ P : List (Nat × Nat), cnt0 P ≤ P.length
  | [] => Nat.le_refl _
  | (a, 0) :: P => by
    show cnt0 P + 1 ≤ P.length + 1
    have := cnt0_le P
    omega
  | (a, r + 1) :: P => by
    show cnt0 P ≤ P.length + 1
    have := cnt0_le P
    omega
theorem Le2.get {bs : List Nat} {P : List (Nat × Nat)} (h : Le2 bs P) : ∀ {i : Nat} {b : Nat}, bs[i]? = some b → ∃ p ∈ P, b ≤ p.1 := by
  induction h with
  | nil => intro i b e; cases e
  | @cons b a r bs P h t ih =>
    intro i b' e
    cases i with
    | zero =>
      have e' : b = b' := Option.some.inj e
      subst e'
      exact ⟨_, List.mem_cons_self, h⟩
    | succ i =>
      obtain ⟨p, hp, hb⟩ := ih (i := i) (b := b') e
      exact ⟨p, List.mem_cons_of_mem _ hp, hb⟩
/-- what is left behind a moment -/
theorem Le2.step {late : Nat} {bs : List Nat} {P : List (Nat × Nat)} (h : Le2 bs P) : Desc P → Bnd late P → Le2 ((bs.drop (cnt0 P)).map (· + 1)) (tick P) ∧ ∀ b ∈ bs.drop (cnt0 P), b < late := by
  induction h with
  | nil => exact fun _ _ => ⟨.nil, fun b hb => nomatch hb⟩
  | @cons b a r bs P h t ih =>
    intro hd hb
    obtain ⟨i1, i2⟩ := ih hd.2 fun p hp => hb p (List.mem_cons_of_mem _ hp)
    cases r with
    | zero => exact ⟨i1, i2⟩
    | succ r =>
      have hbd : a + (r + 1) ≤ late := hb (a, r + 1) List.mem_cons_self
      have key : ∃ x, (b :: bs).drop (cnt0 P) = x :: bs.drop (cnt0 P) ∧ x ≤ a := by
        cases hm : cnt0 P with
        | zero => exact ⟨b, rfl, h⟩
        | succ m =>
          have hlt : m < bs.length := by
            have h1 := cnt0_le P
            have h2 := t.len
            omega
          refine ⟨bs[m], ?_, ?_⟩
          · show bs.drop m = bs[m] :: bs.drop (m + 1)
            exact List.drop_eq_getElem_cons hlt
          · obtain ⟨p, hp, hx⟩ := t.get (i := m) (b := bs[m]) (by rw [List.getElem?_eq_getElem hlt])
            exact Nat.le_trans hx (hd.1 p hp)
      obtain ⟨x, e, hx⟩ := key
      show Le2 (((b :: bs).drop (cnt0 P)).map (· + 1)) ((a + 1, r) :: tick P) ∧ ∀ b' ∈ (b :: bs).drop (cnt0 P), b' < late
      rw [e]
      refine ⟨.cons (Nat.succ_le_succ hx) i1, fun y hy => ?_⟩
      rcases List.mem_cons.mp hy with rfl | hy
      · omega
      · exact i2 y hy
theorem tick_mem : ∀ {P : List (Nat × Nat)} {p : Nat × Nat}, p ∈ tick P → ∃ q ∈ P, p.1 = q.1 + 1 ∧ p.2 + 1 = q.2
  | (a, 0) :: P, p, h => by
    obtain ⟨q, hq, e⟩ := tick_mem (P := P) h
    exact ⟨q, List.mem_cons_of_mem _ hq, e⟩
  | (a, r + 1) :: P, p, h => by
    rcases List.mem_cons.mp h with rfl | h
    · exact ⟨_, List.mem_cons_self, rfl, rfl⟩
    · obtain ⟨q, hq, e⟩ := tick_mem (P := P) h
      exact ⟨q, List.mem_cons_of_mem _ hq, e⟩
theorem tick_bnd {late : Nat} {P : List (Nat × Nat)} (h : Bnd late P) : Bnd late (tick P) := fun p hp => by
  obtain ⟨q, hq, e1, e2⟩ := tick_mem hp
  have := h q hq
  omega
theorem tick_desc : ∀ {P : List (Nat × Nat)}, Desc P → Desc (tick P)
  | [], _ => trivial
  | (a, 0) :: P, h => tick_desc (P := P) h.2
  | (a, r + 1) :: P, h => by
    refine ⟨fun p hp => ?_, tick_desc (P := P) h.2⟩
    obtain ⟨q, hq, e1, _⟩ := tick_mem hp
    have := h.1 q hq
    omega
theorem desc_snoc {d : Nat} : ∀ {P : List (Nat × Nat)}, Desc P → Desc (P ++ [(0, d)])
  | [], _ => ⟨fun p hp => (nomatch hp), trivial⟩
  | (a, r) :: P, h => by
    refine ⟨fun p hp => ?_, desc_snoc (P := P) h.2⟩
    rcases List.mem_append.mp hp with hp | hp
    · exact h.1 p hp
    · rcases List.mem_cons.mp hp with rfl | hp
      · exact Nat.zero_le _
      · cases hp
theorem Le2.snoc {d : Nat} {bs : List Nat} {P : List (Nat × Nat)} (h : Le2 bs P) : Le2 (bs ++ [0]) (P ++ [(0, d)]) := by
  induction h with
  | nil => exact .cons (Nat.le_refl _) .nil
  | cons h t ih => exact .cons h ih
theorem D_gone (l : Line) : ∀ (v : List Int) (P : List (Nat × Nat)) (ages : List Nat), Le2 ages P → Desc P → Bnd l.late P → AccDG P v → AccG l ages v
  | [], _, _, _, _, _, _ => trivial
  | m :: v, P, ages, hL, hD, hB, h => by
    obtain ⟨rfl, h⟩ := h
    obtain ⟨s1, s2⟩ := hL.step hD hB
    exact ⟨cnt0 P, _, heardL_mem.mpr ⟨by rw [hL.len]; exact cnt0_le P, s2, rfl⟩, rfl, D_gone l v _ _ s1 (tick_desc hD) (tick_bnd hB) h⟩
theorem D_fifo (l : Line) (he : 1 ≤ l.each) : ∀ (u v : List Int) (t0 : Nat) (P : List (Nat × Nat)) (run : Nat) (s : LS), Le2 s.ages P → Desc P → Bnd l.late P → T0 l s.ph = t0 → s.ph < l.each → s.run = run → AccD l t0 P run u v → AccF l s u v
  | [], v, t0, P, run, s, hL, hD, hB, _, _, _, h => D_gone l v P s.ages hL hD hB h
  | m :: u, v, t0, P, run, s, hL, hD, hB, hT, hp, hr, h => by
    obtain ⟨P', run', t0', hs, rfl, h⟩ := h
    have htn := T0_next (l := l) (ph := s.ph) he hp
    cases hs with
    | wait =>
      have hph : 0 < s.ph := by
        rcases Nat.eq_zero_or_pos s.ph with z | z
        · rw [z] at hT
          have : (0 : Nat) = _ + 1 := hT
          omega
        · exact z
      obtain ⟨s1, s2⟩ := hL.step hD hB
      refine ⟨cnt0 P, ⟨(s.ph + 1) % l.each, (s.ages.drop (cnt0 P)).map (· + 1), s.run⟩, movesL_mem.mpr ⟨s.ages, s.run, ?_, by rw [hL.len]; exact cnt0_le P, s2, rfl⟩, rfl, ?_⟩
      · unfold begunL
        rw [if_pos hph]
        exact List.mem_cons_self
      · refine D_fifo l he u v _ _ _ _ s1 (tick_desc hD) (tick_bnd hB) ?_ (Nat.mod_lt _ (by omega)) hr h
        have := htn.2 hph
        show T0 l ((s.ph + 1) % l.each) = _
        omega
    | lose _ _ hl =>
      have hph : s.ph = 0 := by
        unfold T0 at hT
        split at hT
        · assumption
        · omega
      obtain ⟨s1, s2⟩ := hL.step hD hB
      refine ⟨cnt0 P, ⟨(s.ph + 1) % l.each, (s.ages.drop (cnt0 P)).map (· + 1), s.run + 1⟩, movesL_mem.mpr ⟨s.ages, s.run + 1, ?_, by rw [hL.len]; exact cnt0_le P, s2, rfl⟩, rfl, ?_⟩
      · unfold begunL
        rw [if_neg (by omega), hr, if_pos hl]
        exact List.mem_cons_of_mem _ List.mem_cons_self
      · refine D_fifo l he u v _ _ _ _ s1 (tick_desc hD) (tick_bnd hB) (htn.1 hph) (Nat.mod_lt _ (by omega)) ?_ h
        show s.run + 1 = run + 1
        rw [hr]
    | keep _ _ d hd =>
      have hph : s.ph = 0 := by
        unfold T0 at hT
        split at hT
        · assumption
        · omega
      have hL' := hL.snoc (d := d)
      have hD' := desc_snoc (d := d) hD
      have hB' : Bnd l.late (P ++ [(0, d)]) := fun p hp => by
        rcases List.mem_append.mp hp with hp | hp
        · exact hB p hp
        · rcases List.mem_cons.mp hp with rfl | hp
          · show 0 + d ≤ l.late
            omega
          · cases hp
      obtain ⟨s1, s2⟩ := hL'.step hD' hB'
      refine ⟨cnt0 (P ++ [(0, d)]), ⟨(s.ph + 1) % l.each, ((s.ages ++ [0]).drop (cnt0 (P ++ [(0, d)]))).map (· + 1), 0⟩, movesL_mem.mpr ⟨s.ages ++ [0], 0, ?_, by rw [hL'.len]; exact cnt0_le _, s2, rfl⟩, rfl, ?_⟩
      · unfold begunL
        rw [if_neg (by omega)]
        exact List.mem_cons_self
      · exact D_fifo l he u v _ _ _ _ s1 (tick_desc hD') (tick_bnd hB') (htn.1 hph) (Nat.mod_lt _ (by omega)) rfl h
/-- what may be heard, u while the other one is there, v behind that: by fates -/
def MayH (l : Line) (u v : List Int) : Prop := ∃ r os, Outs l r os ∧ os.length = (u.length + l.each - 1) / l.each ∧ u ++ v = heardOf l.each os (u.length + v.length)
theorem accD_may (l : Line) (he : 1 ≤ l.each) (u v : List Int) : AccD l 0 [] 0 u v ↔ MayH l u v := by
  rw [accD_iff l he]
  constructor
  · rintro ⟨os, h1, h2, h3⟩
    refine ⟨runEnd 0 os, os, (outs_iff l _ os).mpr ⟨h1, rfl⟩, lenOk_uniq h2 (lenOk_up he), List.ext_getElem? fun t => ?_⟩
    by_cases ht : t < u.length + v.length
    · rw [h3 t ht, heardOf_at ht, cnt_eq]
      show some (((0 + cntT l.each 0 os t : Nat)) : Int) = _
      rw [Nat.zero_add]
    · rw [List.getElem?_eq_none (by rw [List.length_append]; omega), List.getElem?_eq_none (by rw [heardOf_len]; omega)]
  · rintro ⟨r, os, h1, h2, h3⟩
    refine ⟨os, ((outs_iff l r os).mp h1).1, by rw [h2]; exact lenOk_up he, fun t ht => ?_⟩
    rw [h3, heardOf_at ht, cnt_eq]
    show _ = some (((0 + cntT l.each 0 os t : Nat)) : Int)
    rw [Nat.zero_add]
theorem fifo_may (l : Line) (he : 1 ≤ l.each) (u v : List Int) : AccF l LS.first u v ↔ MayH l u v := by
  rw [← accD_may l he]
  constructor
  · intro h
    obtain ⟨rs, e1, e2, e3⟩ := fifo_D l he u v LS.first (fun a ha => nomatch ha) (by show 0 < l.each; omega) h
    exact e3
  · intro h
    exact D_fifo l he u v 0 [] 0 LS.first .nil trivial (fun p hp => nomatch hp) rfl (by show 0 < l.each; omega) rfl h
end Bw

set_option Elab.async false
set_option linter.all false
set_option maxRecDepth 100000
set_option maxHeartbeats 4000000
namespace Bw
open PySem PySem.Spec PyProof.Rows L2
/-! ### tuples, by what they hold -/
theorem hu20 {k : Nat} {A : Around} (hr : Room k A) : A.units + 20 < cLine := by
  have := hr.un
  omega
theorem cutV_all {xs : List V} {lo hi : Option Int} (h : HT.sIx xs.length 0 lo = 0 ∧ HT.sIx xs.length xs.length hi = xs.length) : cutV xs lo hi = xs := by
  unfold cutV
  rw [h.1, h.2, List.drop_zero, Nat.sub_zero, List.take_length]
section
variable {X : Cx}
def rCatU (K : PySem.W.Frag) : R2 := fun x y H Q => ∃ a b xs ys, x = .ref a ∧ y = .ref b ∧ SqT K H a xs ∧ SqT K H b ys ∧ xs.length + ys.length ≤ sizeLine ∧ ∀ p H', Same H H' → SqT K H' p (xs ++ ys) → Q (.ref p) H'
theorem op_catU : OpR X (binaryOp .Add) (rCatU X.K) := by
  intro pins s σ H x y v u Q I rx ry h
  obtain ⟨a, b, xs, ys, rfl, rfl, ha, hb, hz, q⟩ := h
  refine op_catA pins s σ H (.ref a) (.ref b) v u Q I rx ry ⟨a, b, xs, ys, rfl, rfl, ha, hb, hz, fun e => ?_, fun _ e => ?_, fun _ _ p hp => ?_⟩
  · exact q b H (Same.refl H) (by rw [e]; exact hb)
  · exact q a H (Same.refl H) (by rw [e, List.append_nil]; exact ha)
  · exact q p _ (Same.newB hp) (SqT.of upd_same)
def rSlU (K : PySem.W.Frag) : V → Option Int → Option Int → Hp → VK → Prop := fun x lo hi H Q => ∃ a xs, x = .ref a ∧ SqT K H a xs ∧ ∀ p H', Same H H' → SqT K H' p (cutV xs lo hi) → Q (.ref p) H'
theorem sl_tupU : SlR X (rSlU X.K) := by
  intro pins s σ H x v vl vu lo hi sl Q I rx hs pl pu h
  obtain ⟨a, xs, rfl, hx, q⟩ := h
  refine sl_tupA pins s σ H (.ref a) v vl vu lo hi sl Q I rx hs pl pu ⟨a, xs, rfl, hx, fun e => ?_, fun _ p hp => ?_⟩
  · exact q a H (Same.refl H) (by rw [cutV_all e]; exact hx)
  · exact q p _ (Same.newB hp) (SqT.of upd_same)
end
theorem cut_from (l : List Int) (n : Nat) : cutV (l.map V.int) (some (n : Int)) none = (l.drop n).map V.int := by
  unfold cutV
  rw [HT.sIx_nat, HT.sIx_none, List.length_map]
  by_cases h : n ≤ l.length
  · rw [Nat.min_eq_left h, List.take_of_length_le (by rw [List.length_drop, List.length_map]; omega), List.map_drop]
  · rw [Nat.min_eq_right (by omega), Nat.sub_self, List.take_zero, List.drop_of_length_le (by omega)]
    rfl
theorem cut_to (l : List Int) (n : Nat) : cutV (l.map V.int) none (some (n : Int)) = (l.take n).map V.int := by
  unfold cutV
  rw [HT.sIx_none, HT.sIx_nat, List.drop_zero, Nat.sub_zero, List.length_map, ← List.map_take]
  by_cases h : n ≤ l.length
  · rw [Nat.min_eq_left h]
  · rw [Nat.min_eq_right (by omega), List.take_of_length_le (Nat.le_refl _), List.take_of_length_le (by omega)]
/-- natural numbers as values -/
def nI (l : List Nat) : List Int := l.map fun a => ((a : Nat) : Int)
theorem nI_len (l : List Nat) : (nI l).length = l.length := by
  unfold nI
  rw [List.length_map]
theorem nI_inj : ∀ {a b : List Nat}, nI a = nI b → a = b
  | [], [], _ => rfl
  | [], _ :: _, h => nomatch h
  | _ :: _, [], h => nomatch h
  | x :: a, y :: b, h => by
    have h' : (x : Int) :: nI a = (y : Int) :: nI b := h
    injection h' with h1 h2
    rw [nI_inj h2]
    congr 1
    omega
/-! ### data and keys -/
def intsD (l : List Int) : PyData := .tuple (l.map PyData.int)
def intsK (l : List Int) : NK := .tup (l.map NestedKey.num)
theorem intsK_data (l : List Int) : (intsK l).data = intsD l := by
  show PyData.tuple (NestedKey.datas (l.map NestedKey.num)) = PyData.tuple (l.map PyData.int)
  congr 1
  induction l with
  | nil => rfl
  | cons a l ih =>
    show NestedKey.data (.num a) :: NestedKey.datas (l.map NestedKey.num) = _
    rw [ih]
    rfl
theorem intsK_depth (l : List Int) : (intsK l).depth ≤ 1 := by
  show NestedKey.depthAll (l.map NestedKey.num) + 1 ≤ 1
  have h : NestedKey.depthAll (l.map NestedKey.num) = 0 := by
    induction l with
    | nil => rfl
    | cons a l ih =>
      show max (NestedKey.depth (.num a)) (NestedKey.depthAll (l.map NestedKey.num)) = 0
      rw [ih]
      rfl
  omega
theorem intsK_inj {a b : List Int} (h : intsK a = intsK b) : a = b := by
  have h' : a.map NestedKey.num = b.map NestedKey.num := by
    injection h
  clear h
  induction a generalizing b with
  | nil =>
    cases b with
    | nil => rfl
    | cons y b => cases h'
  | cons x a ih =>
    cases b with
    | nil => cases h'
    | cons y b =>
      injection h' with h1 h2
      injection h1 with h3
      rw [h3, ih h2]
section
variable {K : PySem.W.Frag} {H : Hp}
theorem ints_dp {a : Addr} {l : List Int} (h : SqT K H a (l.map V.int)) : Dp K H (.ref a) (intsD l) := .tup h (dp_ints l)
theorem dpAll_ints {xs : List V} : ∀ {l : List Int}, DpAll K H xs (l.map PyData.int) → xs = l.map V.int := by
  intro l
  induction l generalizing xs with
  | nil => intro h; cases h; rfl
  | cons a l ih =>
    intro h
    cases h with
    | cons h1 h2 =>
      cases h1
      rw [ih h2]
      rfl
theorem dp_intsD {v : V} {l : List Int} (h : Dp K H v (intsD l)) : ∃ a, v = .ref a ∧ SqT K H a (l.map V.int) := by
  cases h with
  | tup h1 h2 =>
    have e := dpAll_ints h2
    subst e
    exact ⟨_, rfl, h1⟩
/-- one level of a tuple's data -/
theorem dp_tup {v : V} {ds : List PyData} (h : Dp K H v (.tuple ds)) : ∃ a xs, v = .ref a ∧ SqT K H a xs ∧ DpAll K H xs ds := by
  cases h with
  | tup h1 h2 => exact ⟨_, _, rfl, h1, h2⟩
theorem dp_int {v : V} {i : Int} (h : Dp K H v (.int i)) : v = .int i := by
  cases h
  rfl
theorem dpAll_get {xs : List V} {ds : List PyData} {i : Nat} {x : V} (h : DpAll K H xs ds) (hx : xs[i]? = some x) : ∃ d, ds[i]? = some d ∧ Dp K H x d := by
  have hl := DpAll.len h
  have hi := (List.getElem?_eq_some_iff.mp hx).1
  obtain ⟨v, d, h1, h2, h3⟩ := DpAll.get (i := i) h (by omega)
  rw [hx] at h1
  cases h1
  exact ⟨d, h2, h3⟩
theorem dpAll_one {xs : List V} {d : PyData} (h : DpAll K H xs [d]) : ∃ x, xs = [x] ∧ Dp K H x d := by
  cases h with
  | cons h1 h2 => cases h2; exact ⟨_, rfl, h1⟩
theorem dpAll_two {xs : List V} {d e : PyData} (h : DpAll K H xs [d, e]) : ∃ x y, xs = [x, y] ∧ Dp K H x d ∧ Dp K H y e := by
  cases h with
  | cons h1 h2 =>
    obtain ⟨y, rfl, h3⟩ := dpAll_one h2
    exact ⟨_, _, rfl, h1, h3⟩
theorem dpAll_three {xs : List V} {d e g : PyData} (h : DpAll K H xs [d, e, g]) : ∃ x y z, xs = [x, y, z] ∧ Dp K H x d ∧ Dp K H y e ∧ Dp K H z g := by
  cases h with
  | cons h1 h2 =>
    obtain ⟨y, z, rfl, h3, h4⟩ := dpAll_two h2
    exact ⟨_, _, _, rfl, h1, h3, h4⟩
end
/-! ### a line's state as a key -/
def lsK (s : LS) : NK := .tup [.num s.ph, intsK (nI s.ages), .num s.run]
def lsD (s : LS) : PyData := .tuple [.int s.ph, intsD (nI s.ages), .int s.run]
theorem lsK_data (s : LS) : (lsK s).data = lsD s := by
  show PyData.tuple [.int s.ph, (intsK (nI s.ages)).data, .int s.run] = _
  rw [intsK_data]
  rfl
theorem lsK_depth (s : LS) : (lsK s).depth ≤ 2 := by
  show max 0 (max (intsK (nI s.ages)).depth (max 0 0)) + 1 ≤ 2
  have := intsK_depth (nI s.ages)
  omega
theorem lsK_inj {s t : LS} (h : lsK s = lsK t) : s = t := by
  injection h with h
  injection h with h1 h2
  injection h2 with h2 h3
  injection h3 with h3 _
  injection h1 with h1
  injection h3 with h3
  have h4 := nI_inj (intsK_inj h2)
  have h5 : s.ph = t.ph := by omega
  have h6 : s.run = t.run := by omega
  cases s
  cases t
  simp only [LS.mk.injEq]
  exact ⟨h5, h4, h6⟩
section
variable {K : PySem.W.Frag} {H : Hp}
theorem ls_at {v : V} {s : LS} (h : Dp K H v (lsD s)) : ∃ a b, v = .ref a ∧ SqT K H a [.int s.ph, .ref b, .int s.run] ∧ SqT K H b ((nI s.ages).map V.int) := by
  obtain ⟨a, xs, rfl, h1, h2⟩ := dp_tup h
  obtain ⟨x, y, z, rfl, h3, h4, h5⟩ := dpAll_three h2
  obtain ⟨b, rfl, h6⟩ := dp_intsD h4
  cases dp_int h3
  cases dp_int h5
  exact ⟨a, b, rfl, h1, h6⟩
theorem ls_mk {a b : Addr} {s : LS} (h1 : SqT K H a [.int s.ph, .ref b, .int s.run]) (h2 : SqT K H b ((nI s.ages).map V.int)) : Dp K H (.ref a) (lsD s) := .tup h1 (.cons (.int _) (.cons (ints_dp h2) (.cons (.int _) .nil)))
theorem ls_key {v : V} {s : LS} (h : Dp K H v (lsD s)) : KeyV K H v (lsK s) := by
  obtain ⟨a, b, rfl, h1, h2⟩ := ls_at h
  refine ⟨⟨a, rfl⟩, by rw [lsK_data]; exact h, ?_⟩
  have := lsK_depth s
  omega
end
theorem intsD_noL (l : List Int) : NoL (intsD l) := .tuple _ fun d hd => by
  obtain ⟨i, _, rfl⟩ := List.mem_map.mp hd
  exact .int _
theorem lsD_noL (s : LS) : NoL (lsD s) := .tuple _ fun d hd => by
  rcases List.mem_cons.mp hd with rfl | hd
  · exact .int _
  rcases List.mem_cons.mp hd with rfl | hd
  · exact intsD_noL _
  rcases List.mem_cons.mp hd with rfl | hd
  · exact .int _
  · cases hd
/-! ### what stands stays small -/
structure LSok (l : Line) (s : LS) : Prop where
  ph : s.ph < l.each
  run : s.run ≤ l.lost
  ge : ∀ a ∈ s.ages, 1 ≤ a
  le : ∀ a ∈ s.ages, a ≤ l.late
  desc : s.ages.Pairwise (· > ·)
theorem desc_len : ∀ {l : List Nat} {n : Nat}, l.Pairwise (· > ·) → (∀ a ∈ l, 1 ≤ a) → (∀ a ∈ l, a ≤ n) → l.length ≤ n
  | [], n, _, _, _ => Nat.zero_le _
  | a :: l, n, h, h1, h2 => by
    have h3 := List.pairwise_cons.mp h
    have h4 := h1 a List.mem_cons_self
    have h5 := h2 a List.mem_cons_self
    have := desc_len (l := l) (n := a - 1) h3.2 (fun b hb => h1 b (List.mem_cons_of_mem _ hb)) (fun b hb => by
      have := h3.1 b hb
      omega)
    rw [List.length_cons]
    omega
theorem LSok.len {l : Line} {s : LS} (h : LSok l s) : s.ages.length ≤ l.late := desc_len h.desc h.ge h.le
theorem first_ok {l : Line} (he : 1 ≤ l.each) : LSok l LS.first := ⟨by show 0 < l.each; omega, Nat.zero_le _, fun a ha => (nomatch ha), fun a ha => (nomatch ha), .nil⟩
theorem begunL_mem {l : Line} {s : LS} {ages : List Nat} {run : Nat} (h : (ages, run) ∈ begunL l s) (ok : LSok l s) : run ≤ l.lost ∧ ages.Pairwise (· > ·) ∧ (∀ a ∈ ages, a ≤ l.late) ∧ ages.length ≤ l.late + 1 := by
  have hl := ok.len
  unfold begunL at h
  split at h
  · rcases List.mem_cons.mp h with e | h
    · injection e with e1 e2
      subst e1 e2
      exact ⟨ok.run, ok.desc, ok.le, by omega⟩
    · cases h
  · rcases List.mem_cons.mp h with e | h
    · injection e with e1 e2
      subst e1 e2
      refine ⟨Nat.zero_le _, ?_, fun a ha => ?_, by rw [List.length_append, List.length_singleton]; omega⟩
      · rw [List.pairwise_append]
        refine ⟨ok.desc, List.pairwise_singleton _ _, fun a ha b hb => ?_⟩
        have := ok.ge a ha
        rcases List.mem_cons.mp hb with rfl | hb
        · exact this
        · cases hb
      · rcases List.mem_append.mp ha with ha | ha
        · exact ok.le a ha
        · rcases List.mem_cons.mp ha with rfl | ha
          · exact Nat.zero_le _
          · cases ha
    · split at h
      · rename_i hr
        rcases List.mem_cons.mp h with e | h
        · injection e with e1 e2
          subst e1 e2
          exact ⟨hr, ok.desc, ok.le, by omega⟩
        · cases h
      · cases h
theorem moves_ok {l : Line} {s s' : LS} {c : Nat} (he : 1 ≤ l.each) (ok : LSok l s) (h : (c, s') ∈ movesL l s) : LSok l s' ∧ c ≤ l.late + 1 := by
  obtain ⟨ages, run, hb, h1, h2, rfl⟩ := movesL_mem.mp h
  obtain ⟨b1, b2, b3, b4⟩ := begunL_mem hb ok
  refine ⟨⟨Nat.mod_lt _ (by omega), b1, fun a ha => ?_, fun a ha => ?_, ?_⟩, by omega⟩
  · obtain ⟨b, _, rfl⟩ := List.mem_map.mp ha
    exact Nat.succ_le_succ (Nat.zero_le _)
  · obtain ⟨b, hb', rfl⟩ := List.mem_map.mp ha
    exact h2 b hb'
  · refine List.Pairwise.map _ (fun a b h => ?_) (b2.sublist (List.drop_sublist _ _))
    exact Nat.succ_lt_succ h
/-- a code of a list of small numbers -/
def codeL (b : Nat) : List Nat → Nat
  | [] => 0
  | a :: l => (a + 1) + b * codeL b l
theorem codeL_lt {b : Nat} (hb : 1 ≤ b) : ∀ (l : List Nat) (n : Nat), l.length ≤ n → (∀ a ∈ l, a + 1 < b) → codeL b l < b ^ n
  | [], n, _, _ => Nat.pow_pos (by omega)
  | a :: l, 0, h, _ => by simp at h
  | a :: l, n + 1, h, ha => by
    have h1 := codeL_lt hb l n (by simpa using h) (fun x hx => ha x (List.mem_cons_of_mem _ hx))
    have h2 := ha a List.mem_cons_self
    show (a + 1) + b * codeL b l < b ^ (n + 1)
    rw [Nat.pow_succ, Nat.mul_comm (b ^ n) b]
    have h3 : b * (codeL b l + 1) ≤ b * b ^ n := Nat.mul_le_mul_left b h1
    rw [Nat.mul_add, Nat.mul_one] at h3
    omega
theorem codeL_inj {b : Nat} : ∀ {l m : List Nat}, (∀ a ∈ l, a + 1 < b) → (∀ a ∈ m, a + 1 < b) → codeL b l = codeL b m → l = m
  | [], [], _, _, _ => rfl
  | [], a :: m, _, _, h => by
    have h' : 0 = (a + 1) + b * codeL b m := h
    omega
  | a :: l, [], _, _, h => by
    have h' : (a + 1) + b * codeL b l = 0 := h
    omega
  | x :: l, y :: m, h1, h2, h => by
    have h' : (x + 1) + b * codeL b l = (y + 1) + b * codeL b m := h
    have hx := h1 x List.mem_cons_self
    have hy := h2 y List.mem_cons_self
    have e1 : x + 1 = y + 1 := by
      have := congrArg (· % b) h'
      simp only [Nat.add_mul_mod_self_left] at this
      rw [Nat.mod_eq_of_lt hx, Nat.mod_eq_of_lt hy] at this
      exact this
    have e2 : b * codeL b l = b * codeL b m := by omega
    have e3 := Nat.eq_of_mul_eq_mul_left (show 0 < b by omega) e2
    rw [codeL_inj (fun a ha => h1 a (List.mem_cons_of_mem _ ha)) (fun a ha => h2 a (List.mem_cons_of_mem _ ha)) e3]
    congr 1
    omega
theorem nodup_lt : ∀ (B : Nat) (l : List Nat), l.Nodup → (∀ a ∈ l, a < B) → l.length ≤ B
  | 0, l, _, h => by
    cases l with
    | nil => exact Nat.le_refl _
    | cons a l => exact absurd (h a List.mem_cons_self) (Nat.not_lt_zero _)
  | B + 1, l, hn, h => by
    have h1 := nodup_lt B (l.filter fun a => decide (a ≠ B)) (hn.sublist List.filter_sublist) (fun a ha => by
      have h2 := List.mem_filter.mp ha
      have h3 := h a h2.1
      have h4 : a ≠ B := of_decide_eq_true h2.2
      omega)
    have h5 : l.length ≤ (l.filter fun a => decide (a ≠ B)).length + 1 := by
      clear h1 h
      induction l with
      | nil => exact Nat.zero_le _
      | cons a l ih =>
        have hn' := List.nodup_cons.mp hn
        by_cases e : a = B
        · have e1 : (a :: l).filter (fun a => decide (a ≠ B)) = l := by
            rw [List.filter_cons, if_neg (by simp [e])]
            refine List.filter_eq_self.mpr fun x hx => ?_
            exact decide_eq_true (fun z => hn'.1 (by rw [e, ← z]; exact hx))
          rw [e1, List.length_cons]
          exact Nat.le_refl _
        · have := ih hn'.2
          rw [List.filter_cons, if_pos (by simp [e]), List.length_cons, List.length_cons]
          omega
    omega
theorem nodup_code {α : Type} {B : Nat} {l : List α} (f : α → Nat) (hn : l.Nodup) (h : ∀ a ∈ l, f a < B) (hi : ∀ a ∈ l, ∀ b ∈ l, f a = f b → a = b) : l.length ≤ B := by
  have h1 : (l.map f).Nodup := by
    induction l with
    | nil => exact .nil
    | cons a l ih =>
      have hn' := List.nodup_cons.mp hn
      rw [List.map_cons]
      refine List.nodup_cons.mpr ⟨fun hm => ?_, ih hn'.2 (fun b hb => h b (List.mem_cons_of_mem _ hb)) (fun b hb c hc => hi b (List.mem_cons_of_mem _ hb) c (List.mem_cons_of_mem _ hc))⟩
      obtain ⟨b, hb, e⟩ := List.mem_map.mp hm
      have := hi b (List.mem_cons_of_mem _ hb) a List.mem_cons_self e
      subst this
      exact hn'.1 hb
  have := nodup_lt B (l.map f) h1 (fun x hx => by
    obtain ⟨a, ha, rfl⟩ := List.mem_map.mp hx
    exact h a ha)
  rw [List.length_map] at this
  exact this
def lsCode (s : LS) : Nat := (s.ph * 125 + codeL 5 s.ages) * 3 + s.run
theorem lsCode_lt {l : Line} (lo : l.ok) {s : LS} (h : LSok l s) : lsCode s < 1500 := by
  have h1 := codeL_lt (b := 5) (by omega) s.ages 3 (by have := h.len; have := lo.l3; omega) (fun a ha => by have := h.le a ha; have := lo.l3; omega)
  have h2 := h.ph
  have h3 := lo.e4
  have h4 := h.run
  have h5 := lo.s2
  unfold lsCode
  have h6 : codeL 5 s.ages < 125 := h1
  omega
theorem lsCode_inj {l : Line} (lo : l.ok) {s t : LS} (hs : LSok l s) (ht : LSok l t) (e : lsCode s = lsCode t) : s = t := by
  have a1 := codeL_lt (b := 5) (by omega) s.ages 3 (by have := hs.len; have := lo.l3; omega) (fun a ha => by have := hs.le a ha; have := lo.l3; omega)
  have a2 := codeL_lt (b := 5) (by omega) t.ages 3 (by have := ht.len; have := lo.l3; omega) (fun a ha => by have := ht.le a ha; have := lo.l3; omega)
  have a1' : codeL 5 s.ages < 125 := a1
  have a2' : codeL 5 t.ages < 125 := a2
  have r1 := hs.run
  have r2 := ht.run
  have r3 := lo.s2
  unfold lsCode at e
  have e1 : s.run = t.run := by omega
  have e2 : s.ph = t.ph := by omega
  have e3 : codeL 5 s.ages = codeL 5 t.ages := by omega
  have e4 := codeL_inj (fun a ha => by have := hs.le a ha; have := lo.l3; omega) (fun a ha => by have := ht.le a ha; have := lo.l3; omega) e3
  cases s
  cases t
  simp only [LS.mk.injEq]
  exact ⟨e2, e4, e1⟩
theorem ls_few {l : Line} (lo : l.ok) {ss : List LS} (hn : ss.Nodup) (h : ∀ s ∈ ss, LSok l s) : ss.length ≤ 1500 :=
  nodup_code lsCode hn (fun s hs => lsCode_lt lo (h s hs)) (fun s hs t ht e => lsCode_inj lo (h s hs) (h t ht) e)
/-! ### going from state to state -/
def PathL (l : Line) : LS → List Int → LS → Prop
  | s, [], t => s = t
  | s, m :: w, t => ∃ c s', (c, s') ∈ movesL l s ∧ m = (c : Int) ∧ PathL l s' w t
theorem path_snoc (l : Line) (m : Int) (t : LS) : ∀ (w : List Int) (s : LS), PathL l s (w ++ [m]) t ↔ ∃ s1 c, PathL l s w s1 ∧ (c, t) ∈ movesL l s1 ∧ m = (c : Int)
  | [], s => by
    constructor
    · rintro ⟨c, s', h1, h2, h3⟩
      have h3' : s' = t := h3
      subst h3'
      exact ⟨s, c, rfl, h1, h2⟩
    · rintro ⟨s1, c, h1, h2, h3⟩
      have h1' : s = s1 := h1
      subst h1'
      exact ⟨c, t, h2, h3, rfl⟩
  | a :: w, s => by
    constructor
    · rintro ⟨c, s', h1, h2, h3⟩
      obtain ⟨s1, c', h4, h5, h6⟩ := (path_snoc l m t w s').mp h3
      exact ⟨s1, c', ⟨c, s', h1, h2, h4⟩, h5, h6⟩
    · rintro ⟨s1, c', ⟨c, s', h1, h2, h4⟩, h5, h6⟩
      exact ⟨c, s', h1, h2, (path_snoc l m t w s').mpr ⟨s1, c', h4, h5, h6⟩⟩
theorem path_ok {l : Line} (he : 1 ≤ l.each) : ∀ {w : List Int} {s t : LS}, LSok l s → PathL l s w t → LSok l t
  | [], s, t, h, p => by
    have p' : s = t := p
    subst p'
    exact h
  | m :: w, s, t, h, p => by
    obtain ⟨c, s', h1, _, h3⟩ := p
    exact path_ok he (moves_ok he h h1).1 h3
theorem accF_path (l : Line) (v : List Int) : ∀ (u : List Int) (s : LS), AccF l s u v ↔ ∃ t, PathL l s u t ∧ AccG l t.ages v
  | [], s => by
    constructor
    · intro h
      exact ⟨s, rfl, h⟩
    · rintro ⟨t, h1, h2⟩
      have h1' : s = t := h1
      subst h1'
      exact h2
  | m :: u, s => by
    constructor
    · rintro ⟨c, s', h1, h2, h3⟩
      obtain ⟨t, h4, h5⟩ := (accF_path l v u s').mp h3
      exact ⟨t, ⟨c, s', h1, h2, h4⟩, h5⟩
    · rintro ⟨t, ⟨c, s', h1, h2, h4⟩, h5⟩
      exact ⟨c, s', h1, h2, (accF_path l v u s').mpr ⟨t, h4, h5⟩⟩
theorem path_may {l : Line} (he : 1 ≤ l.each) (u : List Int) : (∃ t, PathL l LS.first u t) ↔ MayH l u [] := by
  rw [← fifo_may l he, accF_path]
  constructor
  · rintro ⟨t, h⟩
    exact ⟨t, h, trivial⟩
  · rintro ⟨t, h, _⟩
    exact ⟨t, h⟩
/-! ### a set of keys in a dict -/
section
variable {α : Type} [DecidableEq α]
def addS (ss : List α) (s : α) : List α := if s ∈ ss then ss else ss ++ [s]
theorem addS_mem {ss : List α} {s x : α} : x ∈ addS ss s ↔ x ∈ ss ∨ x = s := by
  unfold addS
  split
  · rename_i h
    constructor
    · exact .inl
    · rintro (h1 | rfl)
      · exact h1
      · exact h
  · rw [List.mem_append, List.mem_singleton]
theorem putK_set (kf : α → NK) (hi : ∀ a b, kf a = kf b → a = b) (v : V) (ss : List α) (s : α) : putK (ss.map fun a => (kf a, v)) (kf s) v = (addS ss s).map fun a => (kf a, v) := by
  unfold putK addS
  have e : ((ss.map fun a => (kf a, v)).any fun kv => decide (kv.1 = kf s)) = decide (s ∈ ss) := by
    rw [List.any_map]
    by_cases h : s ∈ ss
    · rw [decide_eq_true h]
      exact List.any_eq_true.mpr ⟨s, h, decide_eq_true rfl⟩
    · rw [decide_eq_false h]
      refine Bool.eq_false_iff.mpr fun z => ?_
      obtain ⟨x, hx, e⟩ := List.any_eq_true.mp z
      have : x = s := hi _ _ (of_decide_eq_true e)
      subst this
      exact h hx
  rw [e]
  by_cases h : s ∈ ss
  · rw [decide_eq_true h, if_pos rfl, if_pos h, List.map_map]
    refine List.map_congr_left fun a _ => ?_
    show (if kf a = kf s then (kf a, v) else (kf a, v)) = _
    split <;> rfl
  · rw [decide_eq_false h, if_neg (by decide), if_neg h, List.map_append]
    rfl
end
/-! ### what is promised of a line's defs -/
def spNeedLine (K : PySem.W.Frag) : Sp := fun vs H Q _ => ∃ (q : Addr) (l : Line), vs = [.ref q] ∧ SqT K H q l.vs ∧ l.ok ∧ Q .non H
def bgD (b : List Nat × Nat) : PyData := .tuple [intsD (nI b.1), .int b.2]
def hdD (b : Nat × List Nat) : PyData := .tuple [.int b.1, intsD (nI b.2)]
def mvD (b : Nat × LS) : PyData := .tuple [.int b.1, lsD b.2]
def spBegun (K : PySem.W.Frag) : Sp := fun vs H Q _ => ∃ (lp : Addr) (v : V) (l : Line) (s : LS), vs = [.ref lp, v] ∧ SqT K H lp l.vs ∧ l.ok ∧ Dp K H v (lsD s) ∧ LSok l s ∧
  ∀ p H' xs, Same H H' → H p = none → H' p = some (.lst xs) → DpAll K H' xs ((begunL l s).map bgD) → Q (.ref p) H'
def spHeardOf (K : PySem.W.Frag) : Sp := fun vs H Q _ => ∃ (lp b : Addr) (l : Line) (ages : List Nat), vs = [.ref lp, .ref b] ∧ SqT K H lp l.vs ∧ l.ok ∧ SqT K H b ((nI ages).map V.int) ∧ ages.length ≤ 10 ∧
  ∀ p H' xs, Same H H' → H p = none → H' p = some (.lst xs) → DpAll K H' xs ((heardL l ages).map hdD) → Q (.ref p) H'
def spMoves (K : PySem.W.Frag) : Sp := fun vs H Q _ => ∃ (lp : Addr) (v : V) (l : Line) (s : LS), vs = [.ref lp, v] ∧ SqT K H lp l.vs ∧ l.ok ∧ Dp K H v (lsD s) ∧ LSok l s ∧
  ∀ p H' xs, Same H H' → H p = none → H' p = some (.lst xs) → DpAll K H' xs ((movesL l s).map mvD) → Q (.ref p) H'
def spMay (K : PySem.W.Frag) : Sp := fun vs H Q _ => ∃ (lp hp : Addr) (l : Line) (hs : List Int), vs = [.ref lp, .ref hp] ∧ SqT K H lp l.vs ∧ l.ok ∧ SqL K H hp (hs.map V.int) ∧ HeardOk hs ∧
  ∀ (b : Bool) H', Same H H' → (b = true ↔ MayH l hs []) → Q (.bl b) H'
theorem begunL_len (l : Line) (s : LS) : (begunL l s).length ≤ 2 := by
  unfold begunL
  split
  · simp
  · split <;> simp
theorem heardL_len (l : Line) (ages : List Nat) : (heardL l ages).length ≤ ages.length + 1 := by
  unfold heardL
  exact Nat.le_trans (List.length_filterMap_le _ _) (by rw [List.length_range]; exact Nat.le_refl _)
theorem bgD_noL (b : List Nat × Nat) : NoL (bgD b) := .tuple _ fun d hd => by
  rcases List.mem_cons.mp hd with rfl | hd
  · exact intsD_noL _
  rcases List.mem_cons.mp hd with rfl | hd
  · exact .int _
  · cases hd
theorem hdD_noL (b : Nat × List Nat) : NoL (hdD b) := .tuple _ fun d hd => by
  rcases List.mem_cons.mp hd with rfl | hd
  · exact .int _
  rcases List.mem_cons.mp hd with rfl | hd
  · exact intsD_noL _
  · cases hd
theorem mvD_noL (b : Nat × LS) : NoL (mvD b) := .tuple _ fun d hd => by
  rcases List.mem_cons.mp hd with rfl | hd
  · exact .int _
  rcases List.mem_cons.mp hd with rfl | hd
  · exact lsD_noL _
  · cases hd
theorem map_noL {α : Type} {f : α → PyData} (h : ∀ a, NoL (f a)) (l : List α) : ∀ d ∈ l.map f, NoL d := fun d hd => by
  obtain ⟨a, _, rfl⟩ := List.mem_map.mp hd
  exact h a
end Bw

set_option Elab.async false
set_option linter.all false
set_option maxRecDepth 100000
set_option maxHeartbeats 4000000
namespace Bw
open PySem PySem.Spec PyProof.Rows L2
/-! ### data of a small depth -/
def Shp (n : Nat) (d : PyData) : Prop := d.canLay0 = true ∧ d.depth ≤ n
theorem shp_int (n : Nat) (i : Int) : Shp n (.int i) := ⟨by simp [PyData.canLay0], by simp [PyData.depth]⟩
theorem shp_bool (n : Nat) (i : Bool) : Shp n (.bool i) := ⟨by simp [PyData.canLay0], by simp [PyData.depth]⟩
theorem shp_none (n : Nat) : Shp n .none := ⟨by simp [PyData.canLay0], by simp [PyData.depth]⟩
theorem shp_all {n : Nat} : ∀ {ds : List PyData}, (∀ d ∈ ds, Shp n d) → PyData.canLayAll0 ds = true ∧ PyData.depthAll ds ≤ n
  | [], _ => ⟨by simp [PyData.canLayAll0], by simp [PyData.depthAll]⟩
  | d :: ds, h => by
    obtain ⟨h1, h2⟩ := shp_all (ds := ds) fun x hx => h x (List.mem_cons_of_mem _ hx)
    obtain ⟨h3, h4⟩ := h d List.mem_cons_self
    refine ⟨by rw [PyData.canLayAll0, h3, h1]; rfl, ?_⟩
    rw [PyData.depthAll]
    omega
theorem shp_list {n : Nat} {ds : List PyData} (h : ∀ d ∈ ds, Shp n d) : Shp (n + 1) (.list ds) := by
  obtain ⟨h1, h2⟩ := shp_all h
  refine ⟨by rw [PyData.canLay0]; exact h1, ?_⟩
  rw [PyData.depth]
  omega
theorem shp_tuple {n : Nat} {ds : List PyData} (h : ∀ d ∈ ds, Shp n d) : Shp (n + 1) (.tuple ds) := by
  obtain ⟨h1, h2⟩ := shp_all h
  refine ⟨by rw [PyData.canLay0]; exact h1, ?_⟩
  rw [PyData.depth]
  omega
theorem Shp.ok {n : Nat} {d : PyData} (h : Shp n d) (hn : n ≤ 64) : SeqAt.shaped d = true := by
  unfold SeqAt.shaped
  rw [h.1, decide_eq_true (Nat.le_trans h.2 hn)]
  rfl
theorem shp_ints (n : Nat) (l : List Int) : Shp (n + 1) (intsD l) := shp_tuple fun d hd => by
  obtain ⟨i, _, rfl⟩ := List.mem_map.mp hd
  exact shp_int _ _
theorem eqv_nilD (ds : List PyData) : PyData.eqv (.list ds) (.list []) = ds.isEmpty := by
  cases ds with
  | nil => rfl
  | cons a r => rfl
/-! ### beats taken away one by one -/
def subL (hs : List Int) (each : Nat) (os : List (Option Nat)) : List Int := (List.range hs.length).map fun t => hs.getD t 0 - ((cnt each os t : Nat) : Int)
theorem subL_len (hs : List Int) (each : Nat) (os : List (Option Nat)) : (subL hs each os).length = hs.length := by
  unfold subL
  rw [List.length_map, List.length_range]
theorem subL_at {hs : List Int} {each : Nat} {os : List (Option Nat)} {t : Nat} (h : t < hs.length) : (subL hs each os)[t]? = some (hs.getD t 0 - ((cnt each os t : Nat) : Int)) := by
  unfold subL
  rw [List.getElem?_map, List.getElem?_range h]
  rfl
theorem subL_getD {hs : List Int} {each : Nat} {os : List (Option Nat)} {t : Nat} (h : t < hs.length) : (subL hs each os).getD t 0 = hs.getD t 0 - ((cnt each os t : Nat) : Int) := by
  rw [List.getD_eq_getElem?_getD, subL_at h]
  rfl
theorem subL_nil (hs : List Int) (each : Nat) : subL hs each [] = hs := by
  refine List.ext_getElem? fun t => ?_
  by_cases h : t < hs.length
  · rw [subL_at h, cnt_nil, List.getD_eq_getElem?_getD, List.getElem?_eq_getElem h]
    simp
  · rw [List.getElem?_eq_none (by rw [subL_len]; omega), List.getElem?_eq_none (by omega)]
theorem subL_lose (hs : List Int) (each : Nat) (os : List (Option Nat)) : subL hs each (os ++ [none]) = subL hs each os := by
  unfold subL
  exact List.map_congr_left fun t _ => by rw [cnt_lose]
theorem subL_out {hs : List Int} {each : Nat} {os : List (Option Nat)} {d : Nat} (h : hs.length ≤ os.length * each + d) : subL hs each (os ++ [some d]) = subL hs each os := by
  unfold subL
  refine List.map_congr_left fun t ht => ?_
  have h1 := List.mem_range.mp ht
  rw [cnt_hear, if_neg (by omega), Nat.add_zero]
theorem subL_in {hs : List Int} {each : Nat} {os : List (Option Nat)} {d : Nat} (h : os.length * each + d < hs.length) : subL hs each (os ++ [some d]) = (subL hs each os).set (os.length * each + d) ((subL hs each os).getD (os.length * each + d) 0 - 1) := by
  refine List.ext_getElem? fun t => ?_
  by_cases ht : t < hs.length
  · rw [subL_at ht, cnt_hear]
    by_cases e : os.length * each + d = t
    · subst e
      rw [if_pos rfl, List.getElem?_set_self (by rw [subL_len]; exact h), subL_getD h]
      congr 1
      omega
    · rw [if_neg e, List.getElem?_set_ne e, subL_at ht]
      rfl
  · rw [List.getElem?_eq_none (by rw [subL_len]; omega), List.getElem?_eq_none (by rw [List.length_set, subL_len]; omega)]
theorem cnt_app (each : Nat) (os ext : List (Option Nat)) (t : Nat) : cnt each (os ++ ext) t = cnt each os t + cntT each (os.length * each) ext t := by
  rw [cnt_eq, cnt_eq]
  have key : ∀ (os : List (Option Nat)) (t0 : Nat), cntT each t0 (os ++ ext) t = cntT each t0 os t + cntT each (t0 + os.length * each) ext t := by
    intro os
    induction os with
    | nil => intro t0; show cntT each t0 ext t = 0 + cntT each (t0 + 0 * each) ext t; rw [Nat.zero_mul, Nat.add_zero, Nat.zero_add]
    | cons o os ih =>
      intro t0
      show hit1 t0 t o + cntT each (t0 + each) (os ++ ext) t = hit1 t0 t o + cntT each (t0 + each) os t + cntT each (t0 + (os.length + 1) * each) ext t
      have e : t0 + each + os.length * each = t0 + (os.length + 1) * each := by
        rw [Nat.succ_mul]
        omega
      rw [ih, e, Nat.add_assoc]
  rw [key os 0, Nat.zero_add]
inductive GL (l : Line) (hs : List Int) : Nat → List (Option Nat) → Prop where
  | nil : GL l hs 0 []
  | lose {r : Nat} {os : List (Option Nat)} (h : GL l hs r os) (hp : ((subL hs l.each os).take (os.length * l.each)).sum = 0) (hr : r < l.lost) : GL l hs (r + 1) (os ++ [none])
  | hear {r : Nat} {os : List (Option Nat)} (h : GL l hs r os) (hp : ((subL hs l.each os).take (os.length * l.each)).sum = 0) (d : Nat) (hd : d ≤ l.late)
      (ha : hs.length ≤ os.length * l.each + d ∨ 0 < (subL hs l.each os).getD (os.length * l.each + d) 0) : GL l hs 0 (os ++ [some d])
theorem GL.outs {l : Line} {hs : List Int} {r : Nat} {os : List (Option Nat)} (h : GL l hs r os) : Outs l r os := by
  induction h with
  | nil => exact .nil
  | lose _ _ hr ih => exact .lose ih hr
  | hear _ _ d hd _ ih => exact .hear ih d hd
theorem GL.pos {l : Line} {hs : List Int} {r : Nat} {os : List (Option Nat)} (h : GL l hs r os) (h0 : ∀ m ∈ hs, 0 ≤ m) : ∀ m ∈ subL hs l.each os, 0 ≤ m := by
  induction h with
  | nil => rw [subL_nil]; exact h0
  | lose _ _ _ ih => rw [subL_lose]; exact ih
  | @hear r os h hp d hd ha ih =>
    by_cases hn : hs.length ≤ os.length * l.each + d
    · rw [subL_out hn]
      exact ih
    · rw [subL_in (by omega)]
      intro m hm
      rcases List.mem_or_eq_of_mem_set hm with hm | rfl
      · exact ih m hm
      · rcases ha with ha | ha
        · omega
        · omega
theorem sum_zero : ∀ {l : List Int}, (∀ m ∈ l, 0 ≤ m) → l.sum = 0 → ∀ m ∈ l, m = 0
  | [], _, _, m, hm => nomatch hm
  | a :: l, h, hs, m, hm => by
    have hn : ∀ {l : List Int}, (∀ m ∈ l, 0 ≤ m) → 0 ≤ l.sum := by
      intro l
      induction l with
      | nil => intro _; exact Int.le_refl _
      | cons b l ih =>
        intro h
        have h1 := h b List.mem_cons_self
        have h2 := ih fun x hx => h x (List.mem_cons_of_mem _ hx)
        rw [List.sum_cons]
        omega
    have h1 := h a List.mem_cons_self
    have h2 := hn (l := l) fun x hx => h x (List.mem_cons_of_mem _ hx)
    rw [List.sum_cons] at hs
    rcases List.mem_cons.mp hm with rfl | hm
    · omega
    · exact sum_zero (l := l) (fun x hx => h x (List.mem_cons_of_mem _ hx)) (by omega) m hm
theorem zero_sum : ∀ {l : List Int}, (∀ m ∈ l, m = 0) → l.sum = 0
  | [], _ => rfl
  | a :: l, h => by
    rw [List.sum_cons, h a List.mem_cons_self, zero_sum fun x hx => h x (List.mem_cons_of_mem _ hx)]
    rfl
/-- all is taken away just where what is heard is what these beats bring -/
theorem GL.done {l : Line} {hs : List Int} {r : Nat} {os : List (Option Nat)} (h : GL l hs r os) (h0 : ∀ m ∈ hs, 0 ≤ m) (hz : (subL hs l.each os).sum = 0) : hs = heardOf l.each os hs.length := by
  have hp := sum_zero (h.pos h0) hz
  refine List.ext_getElem? fun t => ?_
  by_cases ht : t < hs.length
  · rw [heardOf_at ht]
    have h1 := hp _ (List.mem_of_getElem? (subL_at (each := l.each) (os := os) ht))
    rw [List.getD_eq_getElem?_getD, List.getElem?_eq_getElem ht] at h1
    rw [List.getElem?_eq_getElem ht]
    congr 1
    have h2 : hs[t] - ((cnt l.each os t : Nat) : Int) = 0 := h1
    omega
  · rw [List.getElem?_eq_none (by omega), List.getElem?_eq_none (by rw [heardOf_len]; omega)]
theorem Outs.gl {l : Line} (he : 1 ≤ l.each) {hs : List Int} {r : Nat} {os : List (Option Nat)} (h : Outs l r os) : ∀ ext, hs = heardOf l.each (os ++ ext) hs.length → GL l hs r os := by
  have prune : ∀ (os ext : List (Option Nat)), hs = heardOf l.each (os ++ ext) hs.length → ((subL hs l.each os).take (os.length * l.each)).sum = 0 := by
    intro os ext e
    refine zero_sum fun m hm => ?_
    obtain ⟨t, ht⟩ := List.mem_iff_getElem?.mp hm
    rw [List.getElem?_take] at ht
    split at ht
    · rename_i hlt
      have htl : t < hs.length := by
        have := (List.getElem?_eq_some_iff.mp ht).1
        rw [subL_len] at this
        exact this
      rw [subL_at htl] at ht
      have h1 : hs.getD t 0 = ((cnt l.each (os ++ ext) t : Nat) : Int) := by
        rw [List.getD_eq_getElem?_getD]
        conv => lhs; rw [e]
        rw [heardOf_at htl]
        rfl
      rw [h1, cnt_app, cntT_before _ _ _ hlt] at ht
      have := Option.some.inj ht
      omega
    · cases ht
  induction h with
  | nil => intro ext _; exact .nil
  | @lose r os h hr ih =>
    intro ext e
    have e' : hs = heardOf l.each (os ++ ([none] ++ ext)) hs.length := by rw [← List.append_assoc]; exact e
    exact .lose (ih _ e') (prune _ _ e') hr
  | @hear r os h d hd ih =>
    intro ext e
    have e' : hs = heardOf l.each (os ++ ([some d] ++ ext)) hs.length := by rw [← List.append_assoc]; exact e
    refine .hear (ih _ e') (prune _ _ e') d hd ?_
    by_cases hn : hs.length ≤ os.length * l.each + d
    · exact .inl hn
    · refine .inr ?_
      have htl : os.length * l.each + d < hs.length := by omega
      rw [subL_getD htl]
      have h1 : hs.getD (os.length * l.each + d) 0 = ((cnt l.each (os ++ ([some d] ++ ext)) (os.length * l.each + d) : Nat) : Int) := by
        rw [List.getD_eq_getElem?_getD]
        conv => lhs; rw [e']
        rw [heardOf_at htl]
        rfl
      rw [h1, cnt_app]
      have h2 : cntT l.each (os.length * l.each) ([some d] ++ ext) (os.length * l.each + d) = 1 + cntT l.each (os.length * l.each + l.each) ext (os.length * l.each + d) := by
        show (if os.length * l.each + d = os.length * l.each + d then 1 else 0) + cntT l.each (os.length * l.each + l.each) ext (os.length * l.each + d) = _
        rw [if_pos rfl]
      rw [h2]
      omega
theorem gl_may {l : Line} (he : 1 ≤ l.each) {hs : List Int} (h0 : ∀ m ∈ hs, 0 ≤ m) (k : Nat) : (∃ r os, GL l hs r os ∧ os.length = k ∧ (subL hs l.each os).sum = 0) ↔ ∃ r os, Outs l r os ∧ os.length = k ∧ hs = heardOf l.each os hs.length := by
  constructor
  · rintro ⟨r, os, h1, h2, h3⟩
    exact ⟨r, os, h1.outs, h2, h1.done h0 h3⟩
  · rintro ⟨r, os, h1, h2, h3⟩
    refine ⟨r, os, h1.gl he [] (by rw [List.append_nil]; exact h3), h2, zero_sum fun m hm => ?_⟩
    obtain ⟨t, ht⟩ := List.mem_iff_getElem?.mp hm
    have htl : t < hs.length := by
      have := (List.getElem?_eq_some_iff.mp ht).1
      rw [subL_len] at this
      exact this
    rw [subL_at htl] at ht
    have h4 : hs.getD t 0 = ((cnt l.each os t : Nat) : Int) := by
      rw [List.getD_eq_getElem?_getD]
      conv => lhs; rw [h3]
      rw [heardOf_at htl]
      rfl
    rw [h4] at ht
    have := Option.some.inj ht
    omega
theorem may_split {l : Line} {hs : List Int} {th : Nat} (h : th ≤ hs.length) : MayH l (hs.take th) (hs.drop th) ↔ ∃ r os, Outs l r os ∧ os.length = (min th hs.length + l.each - 1) / l.each ∧ hs = heardOf l.each os hs.length := by
  unfold MayH
  rw [List.take_append_drop, List.length_take, List.length_drop]
  have e : min th hs.length + (hs.length - th) = hs.length := by omega
  rw [e]
/-! ### what stands in between is little -/
def winC (hs : List Int) (b : Nat) (q : Nat × List Int) : Nat := q.1 + 3 * ((hs.getD b 0 - q.2.getD b 0).toNat + 5 * ((hs.getD (b + 1) 0 - q.2.getD (b + 1) 0).toNat + 5 * ((hs.getD (b + 2) 0 - q.2.getD (b + 2) 0).toNat + 5 * (hs.getD (b + 3) 0 - q.2.getD (b + 3) 0).toNat)))
/-- (r, left) behind i + 1 beats -/
def GAt (l : Line) (hs : List Int) (i : Nat) (q : Nat × List Int) : Prop := ∃ os, GL l hs q.1 os ∧ os.length = i ∧ q.2 = subL hs l.each os
theorem cnt_past {l : Line} {r : Nat} {os : List (Option Nat)} (h : Outs l r os) {t : Nat} (ht : os.length * l.each + l.late < t + l.each) (hne : os ≠ []) : cnt l.each os t = 0 := by
  clear hne
  induction h with
  | nil => rfl
  | @lose r os h hr ih =>
    rw [List.length_append, List.length_singleton, Nat.succ_mul] at ht
    rw [cnt_lose]
    exact ih (by omega)
  | @hear r os h d hd ih =>
    rw [List.length_append, List.length_singleton, Nat.succ_mul] at ht
    rw [cnt_hear, ih (by omega), if_neg (by omega)]
theorem GAt.diff {l : Line} (lo : l.ok) {hs : List Int} {i : Nat} {q : Nat × List Int} (h : GAt l hs i q) (t : Nat) : ∃ c : Nat, c ≤ 4 ∧ hs.getD t 0 - q.2.getD t 0 = (c : Int) := by
  obtain ⟨os, h1, h2, h3⟩ := h
  by_cases ht : t < hs.length
  · refine ⟨cnt l.each os t, cnt_four lo h1.outs t, ?_⟩
    rw [h3, subL_getD ht]
    omega
  · refine ⟨0, by omega, ?_⟩
    rw [h3, List.getD_eq_getElem?_getD, List.getD_eq_getElem?_getD, List.getElem?_eq_none (by omega), List.getElem?_eq_none (by rw [subL_len]; omega)]
    rfl
theorem GAt.run {l : Line} {hs : List Int} {i : Nat} {q : Nat × List Int} (h : GAt l hs i q) : q.1 ≤ l.lost := by
  obtain ⟨os, h1, h2, h3⟩ := h
  generalize q.1 = r at *
  cases h1 with
  | nil => exact Nat.zero_le _
  | lose _ _ hr => exact hr
  | hear => exact Nat.zero_le _
theorem winC_lt {l : Line} (lo : l.ok) {hs : List Int} {i b : Nat} {q : Nat × List Int} (h : GAt l hs i q) : winC hs b q < 1875 := by
  obtain ⟨c0, h0, e0⟩ := h.diff lo b
  obtain ⟨c1, h1, e1⟩ := h.diff lo (b + 1)
  obtain ⟨c2, h2, e2⟩ := h.diff lo (b + 2)
  obtain ⟨c3, h3, e3⟩ := h.diff lo (b + 3)
  have := h.run
  have := lo.s2
  unfold winC
  rw [e0, e1, e2, e3]
  omega
/-- outside the window all such are alike -/
theorem GAt.outside {l : Line} (lo : l.ok) {hs : List Int} (h0 : ∀ m ∈ hs, 0 ≤ m) {i : Nat} {q : Nat × List Int} (h : GAt l hs (i + 1) q) : (∀ t, t < i * l.each → q.2.getD t 0 = 0) ∧ ∀ t, i * l.each + 3 < t → q.2.getD t 0 = hs.getD t 0 := by
  obtain ⟨os, h1, h2, h3⟩ := h
  have hl3 := lo.l3
  constructor
  · intro t ht
    by_cases htl : t < hs.length
    · have key : ∀ (r : Nat) (os' : List (Option Nat)) (o : Option Nat), GL l hs r os' → ((subL hs l.each os').take (os'.length * l.each)).sum = 0 → os'.length = i → cnt l.each (os' ++ [o]) t = cnt l.each os' t → (subL hs l.each (os' ++ [o])).getD t 0 = 0 := by
        intro r os' o g hp hl hc
        rw [subL_getD htl, hc, ← subL_getD (each := l.each) (os := os') htl]
        have hz := sum_zero (l := (subL hs l.each os').take (os'.length * l.each)) (fun m hm => g.pos h0 m (List.mem_of_mem_take hm)) hp
        refine hz _ ?_
        rw [List.getD_eq_getElem?_getD, subL_at htl]
        refine List.mem_iff_getElem?.mpr ⟨t, ?_⟩
        rw [List.getElem?_take, if_pos (by rw [hl]; exact ht), subL_at htl]
        rfl
      rw [h3]
      generalize q.1 = r at *
      cases h1 with
      | nil => simp at h2
      | @lose r os' g hp hr =>
        rw [List.length_append, List.length_singleton] at h2
        exact key r os' none g hp (by omega) (cnt_lose _ _ _)
      | @hear r os' g hp d hd ha =>
        rw [List.length_append, List.length_singleton] at h2
        refine key r os' (some d) g hp (by omega) ?_
        rw [cnt_hear, if_neg (by have e : os'.length = i := by omega
                                 rw [e]; omega), Nat.add_zero]
    · rw [h3, List.getD_eq_getElem?_getD, List.getElem?_eq_none (by rw [subL_len]; omega)]
      rfl
  · intro t ht
    by_cases htl : t < hs.length
    · rw [h3, subL_getD htl, cnt_past h1.outs (by rw [h2, Nat.succ_mul]; omega) (by intro z; rw [z] at h2; simp at h2)]
      simp
    · rw [h3, List.getD_eq_getElem?_getD, List.getD_eq_getElem?_getD, List.getElem?_eq_none (by rw [subL_len]; omega), List.getElem?_eq_none (by omega)]
theorem winC_inj {l : Line} (lo : l.ok) {hs : List Int} (h0 : ∀ m ∈ hs, 0 ≤ m) {i : Nat} {q q' : Nat × List Int} (h : GAt l hs (i + 1) q) (h' : GAt l hs (i + 1) q') (e : winC hs (i * l.each) q = winC hs (i * l.each) q') : q = q' := by
  obtain ⟨o1, o2⟩ := h.outside lo h0
  obtain ⟨p1, p2⟩ := h'.outside lo h0
  obtain ⟨c0, a0, e0⟩ := h.diff lo (i * l.each)
  obtain ⟨c1, a1, e1⟩ := h.diff lo (i * l.each + 1)
  obtain ⟨c2, a2, e2⟩ := h.diff lo (i * l.each + 2)
  obtain ⟨c3, a3, e3⟩ := h.diff lo (i * l.each + 3)
  obtain ⟨d0, b0, f0⟩ := h'.diff lo (i * l.each)
  obtain ⟨d1, b1, f1⟩ := h'.diff lo (i * l.each + 1)
  obtain ⟨d2, b2, f2⟩ := h'.diff lo (i * l.each + 2)
  obtain ⟨d3, b3, f3⟩ := h'.diff lo (i * l.each + 3)
  have r1 := h.run
  have r2 := h'.run
  have r3 := lo.s2
  unfold winC at e
  rw [e0, e1, e2, e3, f0, f1, f2, f3] at e
  have er : q.1 = q'.1 := by omega
  have eg : ∀ t, q.2.getD t 0 = q'.2.getD t 0 := by
    intro t
    by_cases t1 : t < i * l.each
    · rw [o1 t t1, p1 t t1]
    · by_cases t2 : i * l.each + 3 < t
      · rw [o2 t t2, p2 t t2]
      · have t3 : t = i * l.each ∨ t = i * l.each + 1 ∨ t = i * l.each + 2 ∨ t = i * l.each + 3 := by omega
        rcases t3 with rfl | rfl | rfl | rfl <;> omega
  have el : q.2.length = q'.2.length := by
    obtain ⟨os, _, _, h3⟩ := h
    obtain ⟨os', _, _, h3'⟩ := h'
    rw [h3, h3', subL_len, subL_len]
  refine Prod.ext er (List.ext_getElem? fun t => ?_)
  by_cases ht : t < q.2.length
  · have := eg t
    rw [List.getD_eq_getElem?_getD, List.getD_eq_getElem?_getD, List.getElem?_eq_getElem ht, List.getElem?_eq_getElem (by omega)] at this
    rw [List.getElem?_eq_getElem ht, List.getElem?_eq_getElem (by omega)]
    exact congrArg some this
  · rw [List.getElem?_eq_none (by omega), List.getElem?_eq_none (by omega)]
theorem gl_few {l : Line} (lo : l.ok) {hs : List Int} (h0 : ∀ m ∈ hs, 0 ≤ m) {i : Nat} {ps : List (Nat × List Int)} (hn : ps.Nodup) (h : ∀ q ∈ ps, GAt l hs (i + 1) q) : ps.length ≤ 1875 :=
  nodup_code (winC hs (i * l.each)) hn (fun q hq => winC_lt lo (h q hq)) (fun q hq q' hq' e => winC_inj lo h0 (h q hq) (h q' hq') e)
/-- what one of them brings with the next beat -/
def extL (l : Line) (hs : List Int) (i : Nat) (q : Nat × List Int) : List (Nat × List Int) :=
  if (q.2.take (i * l.each)).sum = 0 then (if q.1 < l.lost then [(q.1 + 1, q.2)] else []) ++ (List.range (l.late + 1)).filterMap fun d =>
    if hs.length ≤ i * l.each + d then some (0, q.2) else if 0 < q.2.getD (i * l.each + d) 0 then some (0, q.2.set (i * l.each + d) (q.2.getD (i * l.each + d) 0 - 1)) else none
  else []
theorem ext_at {l : Line} {hs : List Int} {i : Nat} (x : Nat × List Int) : GAt l hs (i + 1) x ↔ ∃ q, GAt l hs i q ∧ x ∈ extL l hs i q := by
  constructor
  · rintro ⟨os, h1, h2, h3⟩
    obtain ⟨r, lf⟩ := x
    have h1' : GL l hs r os := h1
    have h3' : lf = subL hs l.each os := h3
    subst h3'
    clear h1 h3
    cases h1' with
    | nil => simp at h2
    | @lose r os' g hp hr =>
      rw [List.length_append, List.length_singleton] at h2
      have hi : os'.length = i := by omega
      subst hi
      refine ⟨(r, subL hs l.each os'), ⟨os', g, rfl, rfl⟩, ?_⟩
      unfold extL
      rw [if_pos hp]
      refine List.mem_append_left _ ?_
      show _ ∈ if r < l.lost then _ else _
      rw [if_pos hr, subL_lose]
      exact List.mem_cons_self
    | @hear r os' g hp d hd ha =>
      rw [List.length_append, List.length_singleton] at h2
      have hi : os'.length = i := by omega
      subst hi
      refine ⟨(r, subL hs l.each os'), ⟨os', g, rfl, rfl⟩, ?_⟩
      unfold extL
      rw [if_pos hp]
      refine List.mem_append_right _ (List.mem_filterMap.mpr ⟨d, List.mem_range.mpr (by omega), ?_⟩)
      by_cases hn : hs.length ≤ os'.length * l.each + d
      · rw [if_pos hn, subL_out hn]
      · rw [if_neg hn, if_pos (ha.resolve_left hn), subL_in (by omega)]
  · rintro ⟨⟨r, lf⟩, ⟨os, h1, h2, h3⟩, hx⟩
    have h1' : GL l hs r os := h1
    have h3' : lf = subL hs l.each os := h3
    subst h3' h2
    clear h1 h3
    unfold extL at hx
    split at hx
    · rename_i hp
      rcases List.mem_append.mp hx with hx | hx
      · split at hx
        · rename_i hr
          rcases List.mem_cons.mp hx with rfl | hx
          · exact ⟨os ++ [none], .lose h1' hp hr, by rw [List.length_append]; rfl, by rw [subL_lose]⟩
          · cases hx
        · cases hx
      · obtain ⟨d, hd, h⟩ := List.mem_filterMap.mp hx
        have hd' := List.mem_range.mp hd
        split at h
        · rename_i hn
          cases h
          exact ⟨os ++ [some d], .hear h1' hp d (by omega) (.inl hn), by rw [List.length_append]; rfl, by rw [subL_out hn]⟩
        · rename_i hn
          split at h
          · rename_i hg
            cases h
            exact ⟨os ++ [some d], .hear h1' hp d (by omega) (.inr hg), by rw [List.length_append]; rfl, by rw [subL_in (by omega)]⟩
          · cases h
    · cases hx
/-! ### such a pair as a key -/
def prK (q : Nat × List Int) : NK := .tup [.num q.1, intsK q.2]
def prD (q : Nat × List Int) : PyData := .tuple [.int q.1, intsD q.2]
theorem prK_data (q : Nat × List Int) : (prK q).data = prD q := by
  show PyData.tuple [.int q.1, (intsK q.2).data] = _
  rw [intsK_data]
  rfl
theorem prK_depth (q : Nat × List Int) : (prK q).depth ≤ 2 := by
  show max 0 (max (intsK q.2).depth 0) + 1 ≤ 2
  have := intsK_depth q.2
  omega
theorem prK_inj {s t : Nat × List Int} (h : prK s = prK t) : s = t := by
  injection h with h
  injection h with h1 h2
  injection h2 with h2 _
  injection h1 with h1
  exact Prod.ext (by omega) (intsK_inj h2)
section
variable {K : PySem.W.Frag} {H : Hp}
theorem pr_at {v : V} {q : Nat × List Int} (h : Dp K H v (prD q)) : ∃ a b, v = .ref a ∧ SqT K H a [.int q.1, .ref b] ∧ SqT K H b (q.2.map V.int) := by
  obtain ⟨a, xs, rfl, h1, h2⟩ := dp_tup h
  obtain ⟨x, y, rfl, h3, h4⟩ := dpAll_two h2
  obtain ⟨b, rfl, h6⟩ := dp_intsD h4
  cases dp_int h3
  exact ⟨a, b, rfl, h1, h6⟩
theorem pr_mk {a b : Addr} {q : Nat × List Int} (h1 : SqT K H a [.int q.1, .ref b]) (h2 : SqT K H b (q.2.map V.int)) : Dp K H (.ref a) (prD q) := .tup h1 (.cons (.int _) (.cons (ints_dp h2) .nil))
theorem pr_key {v : V} {q : Nat × List Int} (h : Dp K H v (prD q)) : KeyV K H v (prK q) := by
  obtain ⟨a, b, rfl, h1, h2⟩ := pr_at h
  refine ⟨⟨a, rfl⟩, by rw [prK_data]; exact h, ?_⟩
  have := prK_depth q
  omega
end
theorem prD_noL (q : Nat × List Int) : NoL (prD q) := .tuple _ fun d hd => by
  rcases List.mem_cons.mp hd with rfl | hd
  · exact .int _
  rcases List.mem_cons.mp hd with rfl | hd
  · exact intsD_noL _
  · cases hd
theorem prD_shp (q : Nat × List Int) : Shp 2 (prD q) := shp_tuple fun d hd => by
  rcases List.mem_cons.mp hd with rfl | hd
  · exact shp_int _ _
  rcases List.mem_cons.mp hd with rfl | hd
  · exact shp_ints 0 _
  · cases hd
def spLMay (K : PySem.W.Frag) : Sp := fun vs H Q _ => ∃ (lp hp : Addr) (l : Line) (hs : List Int) (th : Nat), vs = [.ref lp, .ref hp, .int th] ∧ SqT K H lp l.vs ∧ l.ok ∧ SqL K H hp (hs.map V.int) ∧ hs.length ≤ 100000 ∧ (∀ m ∈ hs, 0 ≤ m) ∧ th ≤ hs.length ∧
  ∀ (b : Bool) H', Same H H' → (b = true ↔ MayH l (hs.take th) (hs.drop th)) → Q (.bl b) H'
theorem rgc_up2 {n c : Nat} (hn : n ≤ 100000) (hc : 1 ≤ c ∧ c ≤ 4) : RgC 0 (n : Int) (c : Int) ((n + c - 1) / c) := by
  have e := rgs_up (n := n) hc
  have hb : (n + c - 1) / c ≤ 100003 := Nat.le_trans (Nat.div_le_self _ _) (by omega)
  refine ⟨by omega, by omega, ?_, e⟩
  unfold Builtin.Range.small
  rw [e]
  generalize (n + c - 1) / c = m at *
  simp only [Builtin.Range.rangeFitsLong, Bool.and_eq_true, Bool.or_eq_true, decide_eq_true_eq, beq_iff_eq]
  have hc0 : (c : Int) > 0 := by omega
  simp only [hc0, if_true, Bool.and_eq_true, decide_eq_true_eq]
  omega
theorem set_cut {lf : List Int} {t : Nat} (h : t < lf.length) (x : Int) : (lf.take t).map V.int ++ [V.int x] ++ (lf.drop (t + 1)).map V.int = (lf.set t x).map V.int := by
  rw [List.set_eq_take_append_cons_drop, if_pos h, List.map_append, List.map_cons, List.append_assoc]
  rfl
def spOther (K : PySem.W.Frag) : Sp := fun vs H Q _ => ∃ (d hp : Addr) (hs : List Int) (b : Int), vs = [.ref d, .ref hp] ∧ DiceAt H d ∧ H hp = some (.lst (hs.map V.int)) ∧ hp ≠ d ∧ hs.length ≤ 300 ∧ (∀ m ∈ hs, 0 ≤ m ∧ m ≤ b) ∧
  ∀ (ms : List Int) (p : Addr) (H' : Hp), ms.length = hs.length → (∀ m ∈ ms, 0 ≤ m ∧ m ≤ b + 1) → Dr d H H' → H p = none → H' p = some (.lst (ms.map V.int)) → Q (.ref p) H'
theorem atI_ints {hs : List Int} {n : Nat} (h : n < hs.length) : atI (hs.map V.int) (n : Int) = some (.int (hs.getD n 0)) := atI_nat (by
  rw [List.getElem?_map, List.getD_eq_getElem?_getD, List.getElem?_eq_getElem h]
  rfl)
theorem getD_mem {hs : List Int} {n : Nat} (h : n < hs.length) : hs.getD n 0 ∈ hs := by
  rw [List.getD_eq_getElem?_getD, List.getElem?_eq_getElem h]
  exact List.getElem_mem h
theorem run_may {l : Line} {r : Nat} {os : List (Option Nat)} {n : Nat} (h : Outs l r os) (hl : os.length = (n + l.each - 1) / l.each) : MayH l (heardOf l.each os n) [] := by
  refine ⟨r, os, h, by rw [heardOf_len]; exact hl, ?_⟩
  rw [List.append_nil, heardOf_len]
  rfl
theorem may_four {l : Line} (lo : l.ok) {u v : List Int} (h : MayH l u v) : ∀ m ∈ u ++ v, 0 ≤ m ∧ m ≤ 4 := by
  obtain ⟨r, os, h1, h2, h3⟩ := h
  rw [h3]
  exact fun m hm => heardOf_mem lo h1 hm
theorem sIx_some (n d : Nat) (v : Int) : HT.sIx n d (some v) = if v < 0 then (v + (n : Int)).toNat else min v.toNat n := rfl
theorem cut_init (ini : List Int) (lst : Int) : cutV ((ini ++ [lst]).map V.int) none (some (-1)) = ini.map V.int := by
  unfold cutV
  have e0 : HT.sIx ((ini ++ [lst]).map V.int).length ((ini ++ [lst]).map V.int).length (some (-1)) = ini.length := by
    rw [sIx_some, if_pos (by omega), List.length_map, List.length_append, List.length_singleton]
    omega
  rw [e0, HT.sIx_none, List.drop_zero, Nat.sub_zero, List.map_append, List.take_append_of_le_length (by rw [List.length_map]; omega), List.take_of_length_le (by rw [List.length_map]; omega)]
end Bw

set_option Elab.async false
set_option linter.all false
set_option maxRecDepth 100000
set_option maxHeartbeats 4000000
namespace Bw
open PySem PySem.Spec PyProof.Rows L2
/-! ### going through all, level by level -/
structure BS (κ : Type) where
  met : List (κ × List Int)
  lv : List κ
  wr : Option (List Int)
section
variable {κ : Type} [DecidableEq κ]
def PathK (succ : κ → List (Int × κ)) : κ → List Int → κ → Prop
  | k, [], t => k = t
  | k, m :: w, t => ∃ k', (m, k') ∈ succ k ∧ PathK succ k' w t
theorem pathK_snoc (succ : κ → List (Int × κ)) (m : Int) (t : κ) : ∀ (w : List Int) (k : κ), PathK succ k (w ++ [m]) t ↔ ∃ k1, PathK succ k w k1 ∧ (m, t) ∈ succ k1
  | [], k => by
    constructor
    · rintro ⟨k', h1, h2⟩
      have h2' : k' = t := h2
      subst h2'
      exact ⟨k, rfl, h1⟩
    · rintro ⟨k1, h1, h2⟩
      have h1' : k = k1 := h1
      subst h1'
      exact ⟨t, h2, rfl⟩
  | a :: w, k => by
    constructor
    · rintro ⟨k', h1, h2⟩
      obtain ⟨k1, h3, h4⟩ := (pathK_snoc succ m t w k').mp h2
      exact ⟨k1, ⟨k', h1, h3⟩, h4⟩
    · rintro ⟨k1, ⟨k', h1, h3⟩, h4⟩
      exact ⟨k', h1, (pathK_snoc succ m t w k').mpr ⟨k1, h3, h4⟩⟩
def rowOf (met : List (κ × List Int)) (k : κ) : List Int := ((met.find? fun p => decide (p.1 = k)).map (·.2)).getD []
theorem rowOf_mem {met : List (κ × List Int)} {k : κ} {ρ : List Int} (hn : (met.map (·.1)).Nodup) (h : (k, ρ) ∈ met) : rowOf met k = ρ := by
  unfold rowOf
  induction met with
  | nil => cases h
  | cons p met ih =>
    rw [List.map_cons, List.nodup_cons] at hn
    by_cases e : p.1 = k
    · rw [List.find?_cons, decide_eq_true e]
      rcases List.mem_cons.mp h with rfl | h
      · rfl
      · exact absurd (List.mem_map.mpr ⟨(k, ρ), h, e.symm⟩) hn.1
    · rw [List.find?_cons, decide_eq_false e]
      rcases List.mem_cons.mp h with rfl | h
      · exact absurd rfl e
      · exact ih hn.2 h
def edgeB (gone : κ → Bool) (k : κ) (b : BS κ) (e : Int × κ) : BS κ := if e.2 ∈ b.met.map (·.1) then b else ⟨b.met ++ [(e.2, rowOf b.met k ++ [e.1])], b.lv ++ [e.2], if b.wr = none ∧ gone e.2 = true then some (rowOf b.met k ++ [e.1]) else b.wr⟩
def nodeB (succ : κ → List (Int × κ)) (gone : κ → Bool) (b : BS κ) (k : κ) : BS κ := (succ k).foldl (edgeB gone k) b
def stepB (succ : κ → List (Int × κ)) (gone : κ → Bool) (b : BS κ) : BS κ := b.lv.foldl (nodeB succ gone) ⟨b.met, [], b.wr⟩
def bfsN (succ : κ → List (Int × κ)) (gone : κ → Bool) (k0 : κ) : Nat → BS κ
  | 0 => ⟨[(k0, [])], [k0], none⟩
  | n + 1 => stepB succ gone (bfsN succ gone k0 n)
/-- all has been gone through -/
def BEnd (succ : κ → List (Int × κ)) (gone : κ → Bool) (k0 : κ) (b : BS κ) : Prop := ∃ n, b = bfsN succ gone k0 n ∧ b.lv = []
variable {succ : κ → List (Int × κ)} {gone : κ → Bool} {k0 : κ}
theorem bfs_stop {n : Nat} (h : (bfsN succ gone k0 n).lv = []) : ∀ m, n ≤ m → bfsN succ gone k0 m = bfsN succ gone k0 n := by
  intro m hm
  induction hm with
  | refl => rfl
  | @step m hm ih =>
    show stepB succ gone (bfsN succ gone k0 m) = _
    rw [ih]
    unfold stepB
    rw [h, List.foldl_nil]
    cases hb : bfsN succ gone k0 n with
    | mk met lv wr =>
      rw [hb] at h
      have h' : lv = [] := h
      rw [h']
theorem BEnd.uniq {b b' : BS κ} (h : BEnd succ gone k0 b) (h' : BEnd succ gone k0 b') : b = b' := by
  obtain ⟨n, rfl, h1⟩ := h
  obtain ⟨m, rfl, h2⟩ := h'
  rcases Nat.le_total n m with h | h
  · exact (bfs_stop h1 m h).symm
  · exact bfs_stop h2 n h
structure BInv (succ : κ → List (Int × κ)) (gone : κ → Bool) (k0 : κ) (n : Nat) (b : BS κ) : Prop where
  nd : (b.met.map (·.1)).Nodup
  row : ∀ k ρ, (k, ρ) ∈ b.met → PathK succ k0 ρ k ∧ ρ.length ≤ n
  all : ∀ w k, PathK succ k0 w k → w.length ≤ n → ∃ ρ, (k, ρ) ∈ b.met ∧ ρ.length ≤ w.length
  lvl : ∀ k, k ∈ b.lv ↔ ∃ ρ, (k, ρ) ∈ b.met ∧ ρ.length = n
  wr0 : b.wr = none → ∀ k ρ, (k, ρ) ∈ b.met → gone k = false
  wr1 : ∀ ρ, b.wr = some ρ → (∃ k, (k, ρ) ∈ b.met ∧ gone k = true) ∧ ∀ k' ρ', (k', ρ') ∈ b.met → gone k' = true → ρ.length ≤ ρ'.length
structure JInv (succ : κ → List (Int × κ)) (gone : κ → Bool) (k0 : κ) (n : Nat) (b0 b : BS κ) : Prop where
  nd : (b.met.map (·.1)).Nodup
  old : ∀ p ∈ b0.met, p ∈ b.met
  new : ∀ k ρ, (k, ρ) ∈ b.met → (k, ρ) ∈ b0.met ∨ (PathK succ k0 ρ k ∧ ρ.length = n + 1 ∧ k ∉ b0.met.map (·.1))
  lv : ∀ k, k ∈ b.lv ↔ k ∈ b.met.map (·.1) ∧ k ∉ b0.met.map (·.1)
  wr0 : b.wr = none → ∀ k ρ, (k, ρ) ∈ b.met → gone k = false
  wr1 : ∀ ρ, b.wr = some ρ → (∃ k, (k, ρ) ∈ b.met ∧ gone k = true) ∧ ∀ k' ρ', (k', ρ') ∈ b.met → gone k' = true → ρ.length ≤ ρ'.length
theorem edge_mono (gone : κ → Bool) (k : κ) (b : BS κ) (e : Int × κ) : (∀ p ∈ b.met, p ∈ (edgeB gone k b e).met) ∧ e.2 ∈ (edgeB gone k b e).met.map (·.1) := by
  unfold edgeB
  split
  · rename_i h
    exact ⟨fun p hp => hp, h⟩
  · exact ⟨fun p hp => List.mem_append_left _ hp, by rw [List.map_append]; exact List.mem_append_right _ List.mem_cons_self⟩
theorem edges_mono (gone : κ → Bool) (k : κ) : ∀ (es : List (Int × κ)) (b : BS κ), (∀ p ∈ b.met, p ∈ (es.foldl (edgeB gone k) b).met) ∧ ∀ e ∈ es, e.2 ∈ (es.foldl (edgeB gone k) b).met.map (·.1)
  | [], b => ⟨fun p hp => hp, fun e he => nomatch he⟩
  | e :: es, b => by
    obtain ⟨h1, h2⟩ := edges_mono gone k es (edgeB gone k b e)
    obtain ⟨h3, h4⟩ := edge_mono gone k b e
    refine ⟨fun p hp => h1 p (h3 p hp), fun x hx => ?_⟩
    rcases List.mem_cons.mp hx with rfl | hx
    · obtain ⟨p, hp, e1⟩ := List.mem_map.mp h4
      exact List.mem_map.mpr ⟨p, h1 p hp, e1⟩
    · exact h2 x hx
theorem nodes_mono (succ : κ → List (Int × κ)) (gone : κ → Bool) : ∀ (ks : List κ) (b : BS κ), (∀ p ∈ b.met, p ∈ (ks.foldl (nodeB succ gone) b).met) ∧ ∀ k ∈ ks, ∀ e ∈ succ k, e.2 ∈ (ks.foldl (nodeB succ gone) b).met.map (·.1)
  | [], b => ⟨fun p hp => hp, fun e he => nomatch he⟩
  | k :: ks, b => by
    obtain ⟨h1, h2⟩ := nodes_mono succ gone ks (nodeB succ gone b k)
    obtain ⟨h3, h4⟩ := edges_mono gone k (succ k) b
    refine ⟨fun p hp => h1 p (h3 p hp), fun x hx e he => ?_⟩
    rcases List.mem_cons.mp hx with rfl | hx
    · obtain ⟨p, hp, e1⟩ := List.mem_map.mp (h4 e he)
      exact List.mem_map.mpr ⟨p, h1 p hp, e1⟩
    · exact h2 x hx e he
theorem JInv.edge {n : Nat} {b0 b : BS κ} (B : BInv succ gone k0 n b0) (J : JInv succ gone k0 n b0 b) {k : κ} {e : Int × κ} (hk : k ∈ b0.lv) (he : e ∈ succ k) : JInv succ gone k0 n b0 (edgeB gone k b e) := by
  unfold edgeB
  split
  · exact J
  · rename_i hne
    obtain ⟨ρ, hρ, hl⟩ := (B.lvl k).mp hk
    have er : rowOf b.met k = ρ := rowOf_mem J.nd (J.old _ hρ)
    rw [er]
    have hp : PathK succ k0 (ρ ++ [e.1]) e.2 := (pathK_snoc succ e.1 e.2 ρ k0).mpr ⟨k, (B.row k ρ hρ).1, he⟩
    have hll : (ρ ++ [e.1]).length = n + 1 := by rw [List.length_append, hl]; rfl
    have hlen : ∀ k' ρ', (k', ρ') ∈ b.met → ρ'.length ≤ n + 1 := fun k' ρ' h => by
      rcases J.new k' ρ' h with h | h
      · have := (B.row k' ρ' h).2
        omega
      · omega
    have hn0 : e.2 ∉ b0.met.map (·.1) := fun h => hne (by
      obtain ⟨p, hp, e1⟩ := List.mem_map.mp h
      exact List.mem_map.mpr ⟨p, J.old p hp, e1⟩)
    refine ⟨?_, fun p hp => List.mem_append_left _ (J.old p hp), fun k' ρ' h => ?_, fun k' => ?_, fun hw k' ρ' h => ?_, fun σ hw => ?_⟩
    · rw [List.map_append]
      refine List.nodup_append.mpr ⟨J.nd, (List.pairwise_singleton _ _), fun a ha b hb => ?_⟩
      rcases List.mem_cons.mp hb with rfl | hb
      · rintro rfl
        exact hne ha
      · cases hb
    · rcases List.mem_append.mp h with h | h
      · exact J.new k' ρ' h
      · rcases List.mem_cons.mp h with h | h
        · injection h with h1 h2
          subst h1 h2
          exact .inr ⟨hp, hll, hn0⟩
        · cases h
    · show k' ∈ b.lv ++ [e.2] ↔ k' ∈ (b.met ++ [(e.2, ρ ++ [e.1])]).map (·.1) ∧ _
      rw [List.map_append, List.mem_append, List.mem_append, J.lv k']
      constructor
      · rintro (⟨h1, h2⟩ | h)
        · exact ⟨.inl h1, h2⟩
        · rcases List.mem_cons.mp h with rfl | h
          · exact ⟨.inr List.mem_cons_self, hn0⟩
          · cases h
      · rintro ⟨h1 | h1, h2⟩
        · exact .inl ⟨h1, h2⟩
        · rcases List.mem_cons.mp h1 with rfl | h1
          · exact .inr List.mem_cons_self
          · cases h1
    · have hw' : (if b.wr = none ∧ gone e.2 = true then some (ρ ++ [e.1]) else b.wr) = none := hw
      split at hw'
      · cases hw'
      · rename_i hc
        rcases List.mem_append.mp h with h | h
        · exact J.wr0 hw' k' ρ' h
        · rcases List.mem_cons.mp h with h | h
          · injection h with h1 h2
            subst h1
            cases hg : gone e.2 with
            | false => rfl
            | true => exact absurd ⟨hw', hg⟩ hc
          · cases h
    · have hw' : (if b.wr = none ∧ gone e.2 = true then some (ρ ++ [e.1]) else b.wr) = some σ := hw
      split at hw'
      · rename_i hc
        have hσ : ρ ++ [e.1] = σ := Option.some.inj hw'
        subst hσ
        refine ⟨⟨e.2, List.mem_append_right _ List.mem_cons_self, hc.2⟩, fun k' ρ' h hg => ?_⟩
        rcases List.mem_append.mp h with h | h
        · rw [J.wr0 hc.1 k' ρ' h] at hg
          cases hg
        · rcases List.mem_cons.mp h with h | h
          · injection h with h1 h2
            rw [h2]
            exact Nat.le_refl _
          · cases h
      · obtain ⟨⟨k1, h1, h2⟩, h3⟩ := J.wr1 σ hw'
        refine ⟨⟨k1, List.mem_append_left _ h1, h2⟩, fun k' ρ' h hg => ?_⟩
        rcases List.mem_append.mp h with h | h
        · exact h3 k' ρ' h hg
        · rcases List.mem_cons.mp h with h | h
          · injection h with h4 h5
            rw [h5, hll]
            exact hlen k1 σ h1
          · cases h
theorem JInv.edges {n : Nat} {b0 : BS κ} (B : BInv succ gone k0 n b0) {k : κ} (hk : k ∈ b0.lv) : ∀ (es : List (Int × κ)) (b : BS κ), (∀ e ∈ es, e ∈ succ k) → JInv succ gone k0 n b0 b → JInv succ gone k0 n b0 (es.foldl (edgeB gone k) b)
  | [], b, _, J => J
  | e :: es, b, h, J => JInv.edges B hk es _ (fun x hx => h x (List.mem_cons_of_mem _ hx)) (J.edge B hk (h e List.mem_cons_self))
theorem JInv.nodes {n : Nat} {b0 : BS κ} (B : BInv succ gone k0 n b0) : ∀ (ks : List κ) (b : BS κ), (∀ k ∈ ks, k ∈ b0.lv) → JInv succ gone k0 n b0 b → JInv succ gone k0 n b0 (ks.foldl (nodeB succ gone) b)
  | [], b, _, J => J
  | k :: ks, b, h, J => JInv.nodes B ks _ (fun x hx => h x (List.mem_cons_of_mem _ hx)) (JInv.edges B (h k List.mem_cons_self) _ _ (fun _ hx => hx) J)
theorem JInv.start {n : Nat} {b0 : BS κ} (B : BInv succ gone k0 n b0) : JInv succ gone k0 n b0 ⟨b0.met, [], b0.wr⟩ :=
  ⟨B.nd, fun _ h => h, fun _ _ h => .inl h, fun k => ⟨fun h => (nomatch h), fun h => absurd h.1 h.2⟩, B.wr0, B.wr1⟩
theorem bfs_inv (hg : gone k0 = false) : ∀ n, BInv succ gone k0 n (bfsN succ gone k0 n)
  | 0 => by
    refine ⟨(List.pairwise_singleton _ _), fun k ρ h => ?_, fun w k h hl => ?_, fun k => ?_, fun _ k ρ h => ?_, fun ρ h => nomatch h⟩
    · rcases List.mem_cons.mp h with h | h
      · injection h with h1 h2
        subst h1 h2
        exact ⟨rfl, Nat.le_refl _⟩
      · cases h
    · have e : w = [] := List.length_eq_zero_iff.mp (by omega)
      subst e
      have h' : k0 = k := h
      subst h'
      exact ⟨[], List.mem_cons_self, Nat.le_refl _⟩
    · show k ∈ [k0] ↔ ∃ ρ, (k, ρ) ∈ [(k0, ([] : List Int))] ∧ ρ.length = 0
      rw [List.mem_singleton]
      constructor
      · rintro rfl
        exact ⟨[], List.mem_cons_self, rfl⟩
      · rintro ⟨ρ, h, _⟩
        rcases List.mem_cons.mp h with h | h
        · injection h
        · cases h
    · rcases List.mem_cons.mp h with h | h
      · injection h with h1 h2
        subst h1
        exact hg
      · cases h
  | n + 1 => by
    have B := bfs_inv hg n
    have J : JInv succ gone k0 n (bfsN succ gone k0 n) (bfsN succ gone k0 (n + 1)) := JInv.nodes B _ _ (fun _ h => h) (JInv.start B)
    have M := nodes_mono succ gone (bfsN succ gone k0 n).lv ⟨(bfsN succ gone k0 n).met, [], (bfsN succ gone k0 n).wr⟩
    have M2 : ∀ k ∈ (bfsN succ gone k0 n).lv, ∀ e ∈ succ k, e.2 ∈ (bfsN succ gone k0 (n + 1)).met.map (·.1) := M.2
    generalize bfsN succ gone k0 (n + 1) = b at *
    generalize bfsN succ gone k0 n = b0 at *
    have row : ∀ k ρ, (k, ρ) ∈ b.met → PathK succ k0 ρ k ∧ ρ.length ≤ n + 1 := fun k ρ h => by
      rcases J.new k ρ h with h | h
      · exact ⟨(B.row k ρ h).1, by have := (B.row k ρ h).2; omega⟩
      · exact ⟨h.1, by omega⟩
    refine ⟨J.nd, row, fun w k h hl => ?_, fun k => ?_, J.wr0, J.wr1⟩
    · by_cases hw : w.length ≤ n
      · obtain ⟨ρ, h1, h2⟩ := B.all w k h hw
        exact ⟨ρ, J.old _ h1, h2⟩
      · rcases List.eq_nil_or_concat w with rfl | ⟨w', m, rfl⟩
        · simp at hw
        · rw [List.concat_eq_append] at h hl hw ⊢
          rw [List.length_append, List.length_singleton] at hl hw
          obtain ⟨k1, h1, h2⟩ := (pathK_snoc succ m k w' k0).mp h
          obtain ⟨ρ, h3, h4⟩ := B.all w' k1 h1 (by omega)
          have h5 : k ∈ b.met.map (·.1) := by
            by_cases hρ : ρ.length = n
            · exact M2 k1 ((B.lvl k1).mpr ⟨ρ, h3, hρ⟩) (m, k) h2
            · obtain ⟨ρ', h6, _⟩ := B.all (ρ ++ [m]) k ((pathK_snoc succ m k ρ k0).mpr ⟨k1, (B.row k1 ρ h3).1, h2⟩) (by
                rw [List.length_append, List.length_singleton]
                have := (B.row k1 ρ h3).2
                omega)
              exact List.mem_map.mpr ⟨_, J.old _ h6, rfl⟩
          obtain ⟨⟨k', ρ'⟩, h6, h7⟩ := List.mem_map.mp h5
          have h7' : k' = k := h7
          subst h7'
          exact ⟨ρ', h6, by have := (row k' ρ' h6).2; rw [List.length_append, List.length_singleton]; omega⟩
    · rw [J.lv k]
      constructor
      · rintro ⟨h1, h2⟩
        obtain ⟨⟨k', ρ⟩, h3, h4⟩ := List.mem_map.mp h1
        have h4' : k' = k := h4
        subst h4'
        refine ⟨ρ, h3, ?_⟩
        rcases J.new k' ρ h3 with h | h
        · exact absurd (List.mem_map.mpr ⟨_, h, rfl⟩) h2
        · exact h.2.1
      · rintro ⟨ρ, h1, h2⟩
        refine ⟨List.mem_map.mpr ⟨_, h1, rfl⟩, ?_⟩
        rcases J.new k ρ h1 with h | h
        · have := (B.row k ρ h).2
          omega
        · exact h.2.2
/-- what stands at the end: all that can be reached, by shortest rows; the shortest row to where it is gone -/
structure BRes (succ : κ → List (Int × κ)) (gone : κ → Bool) (k0 : κ) (b : BS κ) : Prop where
  nd : (b.met.map (·.1)).Nodup
  row : ∀ k ρ, (k, ρ) ∈ b.met → PathK succ k0 ρ k
  all : ∀ w k, PathK succ k0 w k → ∃ ρ, (k, ρ) ∈ b.met ∧ ρ.length ≤ w.length
  wr0 : b.wr = none → ∀ w k, PathK succ k0 w k → gone k = false
  wr1 : ∀ ρ, b.wr = some ρ → (∃ k, PathK succ k0 ρ k ∧ gone k = true) ∧ ∀ w k, PathK succ k0 w k → gone k = true → ρ.length ≤ w.length
theorem BEnd.res (hg : gone k0 = false) {b : BS κ} (h : BEnd succ gone k0 b) : BRes succ gone k0 b := by
  obtain ⟨n, rfl, hl⟩ := h
  have all : ∀ w k, PathK succ k0 w k → ∃ ρ, (k, ρ) ∈ (bfsN succ gone k0 n).met ∧ ρ.length ≤ w.length := fun w k h => by
    rcases Nat.le_total w.length n with hw | hw
    · exact (bfs_inv hg n).all w k h hw
    · have := (bfs_inv (succ := succ) hg w.length).all w k h (Nat.le_refl _)
      rw [bfs_stop hl w.length hw] at this
      exact this
  have B := bfs_inv (succ := succ) (gone := gone) (k0 := k0) hg n
  refine ⟨B.nd, fun k ρ h => (B.row k ρ h).1, all, fun hw w k h => ?_, fun ρ hw => ?_⟩
  · obtain ⟨ρ, h1, _⟩ := all w k h
    exact B.wr0 hw k ρ h1
  · obtain ⟨⟨k, h1, h2⟩, h3⟩ := B.wr1 ρ hw
    refine ⟨⟨k, (B.row k ρ h1).1, h2⟩, fun w k' h hgk => ?_⟩
    obtain ⟨ρ', h4, h5⟩ := all w k' h
    have := h3 k' ρ' h4 hgk
    omega
/-- no more are met than there are -/
theorem edge_lv (gone : κ → Bool) (k : κ) (b : BS κ) (e : Int × κ) (n : Nat) (h : b.met.length = n + b.lv.length) : (edgeB gone k b e).met.length = n + (edgeB gone k b e).lv.length := by
  unfold edgeB
  split
  · exact h
  · show (b.met ++ _).length = n + (b.lv ++ _).length
    rw [List.length_append, List.length_append, List.length_singleton, List.length_singleton]
    omega
theorem step_len (b : BS κ) : (stepB succ gone b).met.length = b.met.length + (stepB succ gone b).lv.length := by
  have h1 : ∀ (k : κ) (es : List (Int × κ)) (b : BS κ) (n : Nat), b.met.length = n + b.lv.length → (es.foldl (edgeB gone k) b).met.length = n + (es.foldl (edgeB gone k) b).lv.length := by
    intro k es
    induction es with
    | nil => intro b n h; exact h
    | cons e es ih => intro b n h; exact ih _ n (edge_lv gone k b e n h)
  have h2 : ∀ (ks : List κ) (b : BS κ) (n : Nat), b.met.length = n + b.lv.length → (ks.foldl (nodeB succ gone) b).met.length = n + (ks.foldl (nodeB succ gone) b).lv.length := by
    intro ks
    induction ks with
    | nil => intro b n h; exact h
    | cons k ks ih => intro b n h; exact ih _ n (h1 k (succ k) b n h)
  exact h2 b.lv ⟨b.met, [], b.wr⟩ b.met.length rfl
end
/-! ### the program's: a line's state and what a watcher keeps -/
abbrev PK := LS × List Int
def succP (l : Line) (r : Rule) (k : PK) : List (Int × PK) := (movesL l k.1).map fun q => ((q.1 : Int), (q.2, nextS r k.2 (q.1 : Int)))
def goneP (r : Rule) (k : PK) : Bool := goneS r k.2
def firstP (r : Rule) : PK := (LS.first, firstS r)
theorem firstP_gone (r : Rule) (ho : r.ok) : goneP r (firstP r) = false := by
  cases r with
  | since n =>
    have h : 1 ≤ n ∧ n ≤ 12 := ho
    show decide ((n : Int) ≤ 0) = false
    exact decide_eq_false (by omega)
  | few a b =>
    have h : 1 ≤ a ∧ a ≤ 5 ∧ 1 ≤ b ∧ b ≤ 3 := ho
    show (decide (((0 : Nat) : Int) = (a : Int)) && _) = false
    rw [decide_eq_false (by omega)]
    rfl
theorem pathP (l : Line) (r : Rule) (t : PK) : ∀ (w : List Int) (s : LS) (st : List Int), PathK (succP l r) (s, st) w t ↔ PathL l s w t.1 ∧ t.2 = w.foldl (nextS r) st
  | [], s, st => by
    constructor
    · intro h
      have h' : (s, st) = t := h
      subst h'
      exact ⟨rfl, rfl⟩
    · rintro ⟨h1, h2⟩
      have h1' : s = t.1 := h1
      have h2' : t.2 = st := h2
      show (s, st) = t
      rw [h1', ← h2']
  | m :: w, s, st => by
    constructor
    · rintro ⟨⟨s', st'⟩, h1, h2⟩
      obtain ⟨⟨c, s1⟩, h3, h4⟩ := List.mem_map.mp h1
      injection h4 with h4 h5
      injection h5 with h5 h6
      have h4' : (c : Int) = m := h4
      have h5' : s1 = s' := h5
      have h6' : nextS r st (c : Int) = st' := h6
      subst h4' h5' h6'
      obtain ⟨h7, h8⟩ := (pathP l r t w s1 _).mp h2
      exact ⟨⟨c, s1, h3, rfl, h7⟩, h8⟩
    · rintro ⟨⟨c, s1, h3, rfl, h7⟩, h8⟩
      exact ⟨(s1, nextS r st (c : Int)), List.mem_map.mpr ⟨(c, s1), h3, rfl⟩, (pathP l r t w s1 _).mpr ⟨h7, h8⟩⟩
theorem pathP_first (l : Line) (r : Rule) (w : List Int) (t : PK) : PathK (succP l r) (firstP r) w t ↔ PathL l LS.first w t.1 ∧ t.2 = stOf r w := pathP l r t w LS.first (firstS r)
/-- what may be kept -/
structure KpOk (r : Rule) (st : List Int) : Prop where
  small : ∀ m ∈ st, 0 ≤ m ∧ m ≤ 12
  five : (∃ n, r = .since n) ∨ ∀ m ∈ st, m ≤ 4
  len : st.length ≤ 5
  st : StOk r st
theorem kp_ok {r : Rule} (ho : r.ok) {w : List Int} (hw : ∀ m ∈ w, 0 ≤ m ∧ m ≤ 4) : KpOk r (stOf r w) := by
  cases r with
  | since n =>
    have h : 1 ≤ n ∧ n ≤ 12 := ho
    rw [since_is]
    refine ⟨fun m hm => ?_, .inl ⟨n, rfl⟩, by simp, ⟨_, rfl⟩⟩
    rcases List.mem_cons.mp hm with rfl | hm
    · omega
    · cases hm
  | few a b =>
    have h : 1 ≤ a ∧ a ≤ 5 ∧ 1 ≤ b ∧ b ≤ 3 := ho
    rw [few_is a b h.1]
    have hm : ∀ m ∈ lastN a w, m ∈ w := fun m hm => by
      unfold lastN at hm
      exact List.mem_of_mem_drop hm
    refine ⟨fun m h' => ?_, .inr fun m h' => (hw m (hm m h')).2, by rw [lastN_len]; omega, by show (lastN a w).length ≤ a; rw [lastN_len]; omega⟩
    have := hw m (hm m h')
    omega
def pkCode (k : PK) : Nat := lsCode k.1 * 7776 + codeL 6 (k.2.map Int.toNat)
def pkCodeS (k : PK) : Nat := lsCode k.1 * 13 + (k.2.headD 0).toNat
theorem toNat_inj {a b : List Int} (ha : ∀ m ∈ a, 0 ≤ m) (hb : ∀ m ∈ b, 0 ≤ m) (h : a.map Int.toNat = b.map Int.toNat) : a = b := by
  induction a generalizing b with
  | nil =>
    cases b with
    | nil => rfl
    | cons y b => cases h
  | cons x a ih =>
    cases b with
    | nil => cases h
    | cons y b =>
      injection h with h1 h2
      have := ha x List.mem_cons_self
      have := hb y List.mem_cons_self
      rw [ih (fun m hm => ha m (List.mem_cons_of_mem _ hm)) (fun m hm => hb m (List.mem_cons_of_mem _ hm)) h2]
      congr 1
      omega
/-- a bound of how many may stand -/
def pkMost : Nat := 11664000
theorem pk_few {l : Line} (lo : l.ok) {r : Rule} (ho : r.ok) {ks : List PK} (hn : ks.Nodup) (h : ∀ k ∈ ks, LSok l k.1 ∧ KpOk r k.2) : ks.length ≤ pkMost := by
  cases r with
  | since n =>
    refine Nat.le_trans (nodup_code (B := 1500 * 13) pkCodeS hn (fun k hk => ?_) (fun k hk k' hk' e => ?_)) (by decide)
    · obtain ⟨h1, h2⟩ := h k hk
      have h3 := lsCode_lt lo h1
      obtain ⟨z, hz⟩ := h2.st
      have h4 := h2.small z (by rw [hz]; exact List.mem_cons_self)
      unfold pkCodeS
      rw [hz]
      show lsCode k.1 * 13 + z.toNat < 1500 * 13
      omega
    · obtain ⟨h1, h2⟩ := h k hk
      obtain ⟨g1, g2⟩ := h k' hk'
      obtain ⟨z, hz⟩ := h2.st
      obtain ⟨z', hz'⟩ := g2.st
      have h4 := h2.small z (by rw [hz]; exact List.mem_cons_self)
      have g4 := g2.small z' (by rw [hz']; exact List.mem_cons_self)
      unfold pkCodeS at e
      rw [hz, hz'] at e
      have e' : lsCode k.1 * 13 + z.toNat = lsCode k'.1 * 13 + z'.toNat := e
      have e1 : lsCode k.1 = lsCode k'.1 := by omega
      refine Prod.ext (lsCode_inj lo h1 g1 e1) ?_
      rw [hz, hz']
      congr 1
      omega
  | few a b =>
    have five : ∀ k ∈ ks, ∀ m ∈ k.2, 0 ≤ m ∧ m ≤ 4 := fun k hk m hm => by
      obtain ⟨h1, h2⟩ := h k hk
      refine ⟨(h2.small m hm).1, ?_⟩
      rcases h2.five with ⟨n, e⟩ | h5
      · cases e
      · exact h5 m hm
    have dig : ∀ k ∈ ks, ∀ x ∈ k.2.map Int.toNat, x + 1 < 6 := fun k hk x hx => by
      obtain ⟨m, hm, rfl⟩ := List.mem_map.mp hx
      have := five k hk m hm
      omega
    have lt : ∀ k ∈ ks, codeL 6 (k.2.map Int.toNat) < 7776 := fun k hk => codeL_lt (b := 6) (by omega) _ 5 (by rw [List.length_map]; exact (h k hk).2.len) (dig k hk)
    refine nodup_code (B := pkMost) pkCode hn (fun k hk => ?_) (fun k hk k' hk' e => ?_)
    · have h3 := lsCode_lt lo (h k hk).1
      have h4 := lt k hk
      unfold pkCode
      show _ < 11664000
      omega
    · have h4 := lt k hk
      have h5 := lt k' hk'
      unfold pkCode at e
      have e1 : lsCode k.1 = lsCode k'.1 := by omega
      have e2 : codeL 6 (k.2.map Int.toNat) = codeL 6 (k'.2.map Int.toNat) := by omega
      refine Prod.ext (lsCode_inj lo (h k hk).1 (h k' hk').1 e1) ?_
      exact toNat_inj (fun m hm => (five k hk m hm).1) (fun m hm => (five k' hk' m hm).1) (codeL_inj (dig k hk) (dig k' hk') e2)
theorem pk_ok {l : Line} (lo : l.ok) {r : Rule} (ho : r.ok) {w : List Int} {k : PK} (h : PathK (succP l r) (firstP r) w k) : LSok l k.1 ∧ KpOk r k.2 := by
  obtain ⟨h1, h2⟩ := (pathP_first l r w k).mp h
  refine ⟨path_ok lo.e1 (first_ok lo.e1) h1, ?_⟩
  rw [h2]
  have hm := may_four lo ((path_may lo.e1 w).mp ⟨_, h1⟩)
  rw [List.append_nil] at hm
  exact kp_ok ho hm
/-- the program's going through -/
def endP (l : Line) (r : Rule) (b : BS PK) : Prop := BEnd (succP l r) (goneP r) (firstP r) b
/-- the shortest false row, or none -/
structure FRow (l : Line) (r : Rule) (o : Option (List Int)) : Prop where
  no : o = none → ∀ w, MayH l w [] → goneH r w = false
  yes : ∀ ρ, o = some ρ → MayH l ρ [] ∧ goneH r ρ = true ∧ ∀ w, MayH l w [] → goneH r w = true → ρ.length ≤ w.length
theorem endP_row {l : Line} (lo : l.ok) {r : Rule} (ho : r.ok) {b : BS PK} (h : endP l r b) : FRow l r b.wr := by
  have R := BEnd.res (firstP_gone r ho) h
  refine ⟨fun e w hw => ?_, fun ρ e => ?_⟩
  · obtain ⟨t, ht⟩ := (path_may lo.e1 w).mpr hw
    have := R.wr0 e w (t, stOf r w) ((pathP_first l r w _).mpr ⟨ht, rfl⟩)
    rw [← gone_is r ho]
    exact this
  · obtain ⟨⟨k, h1, h2⟩, h3⟩ := R.wr1 ρ e
    obtain ⟨h4, h5⟩ := (pathP_first l r ρ k).mp h1
    refine ⟨(path_may lo.e1 ρ).mp ⟨_, h4⟩, ?_, fun w hw hg => ?_⟩
    · rw [← gone_is r ho, ← h5]
      exact h2
    · obtain ⟨t, ht⟩ := (path_may lo.e1 w).mpr hw
      refine h3 w (t, stOf r w) ((pathP_first l r w _).mpr ⟨ht, rfl⟩) ?_
      show goneS r (stOf r w) = true
      rw [gone_is r ho]
      exact hg
end Bw

set_option Elab.async false
set_option linter.all false
set_option maxRecDepth 100000
set_option maxHeartbeats 4000000
namespace Bw
open PySem PySem.Spec PyProof.Rows L2
/-! ### short ways -/
section
variable {κ : Type} [DecidableEq κ] {succ : κ → List (Int × κ)} {gone : κ → Bool} {k0 : κ}
theorem bfs_grow : ∀ n, (bfsN succ gone k0 n).lv ≠ [] → n + 1 ≤ (bfsN succ gone k0 n).met.length
  | 0, _ => Nat.le_refl _
  | n + 1, h => by
    have h1 : (bfsN succ gone k0 n).lv ≠ [] := fun e => h (by rw [bfs_stop e (n + 1) (Nat.le_succ n)]; exact e)
    have h2 := bfs_grow n h1
    have h3 : (bfsN succ gone k0 (n + 1)).met.length = (bfsN succ gone k0 n).met.length + (bfsN succ gone k0 (n + 1)).lv.length := step_len (bfsN succ gone k0 n)
    have h4 : 0 < (bfsN succ gone k0 (n + 1)).lv.length := List.length_pos_iff.mpr h
    omega
theorem bfs_short (hg : gone k0 = false) {B : Nat} (hB : ∀ n, (bfsN succ gone k0 n).met.length ≤ B) {w : List Int} {k : κ} (h : PathK succ k0 w k) : ∃ w', PathK succ k0 w' k ∧ w'.length ≤ B := by
  have hl : (bfsN succ gone k0 B).lv = [] := by
    cases e : (bfsN succ gone k0 B).lv with
    | nil => rfl
    | cons a t =>
      have := bfs_grow (succ := succ) (gone := gone) (k0 := k0) B (by rw [e]; intro z; cases z)
      have := hB B
      omega
  have I := bfs_inv (succ := succ) (gone := gone) (k0 := k0) hg B
  have R := BEnd.res (succ := succ) hg (b := bfsN succ gone k0 B) ⟨B, rfl, hl⟩
  obtain ⟨ρ, h1, _⟩ := R.all w k h
  exact ⟨ρ, I.row k ρ h1⟩
end
def succL (l : Line) (s : LS) : List (Int × LS) := (movesL l s).map fun q => ((q.1 : Int), q.2)
theorem pathL_K (l : Line) (t : LS) : ∀ (w : List Int) (s : LS), PathK (succL l) s w t ↔ PathL l s w t
  | [], s => Iff.rfl
  | m :: w, s => by
    constructor
    · rintro ⟨s', h1, h2⟩
      obtain ⟨⟨c, s1⟩, h3, h4⟩ := List.mem_map.mp h1
      injection h4 with h4 h5
      have h5' : s1 = s' := h5
      subst h5'
      exact ⟨c, s1, h3, h4.symm, (pathL_K l t w s1).mp h2⟩
    · rintro ⟨c, s1, h3, rfl, h2⟩
      exact ⟨s1, List.mem_map.mpr ⟨(c, s1), h3, rfl⟩, (pathL_K l t w s1).mpr h2⟩
theorem path_short {l : Line} (lo : l.ok) {w : List Int} {s : LS} (h : PathL l LS.first w s) : ∃ w', PathL l LS.first w' s ∧ w'.length ≤ 1500 := by
  obtain ⟨w', h1, h2⟩ := bfs_short (succ := succL l) (gone := fun _ => false) (k0 := LS.first) rfl (B := 1500) (fun n => by
    have I := bfs_inv (succ := succL l) (gone := fun _ => false) (k0 := LS.first) rfl n
    have := ls_few lo I.nd (fun s hs => by
      obtain ⟨⟨s', ρ⟩, h1, h2⟩ := List.mem_map.mp hs
      have h2' : s' = s := h2
      subst h2'
      exact path_ok lo.e1 (first_ok lo.e1) ((pathL_K l s' ρ _).mp (I.row s' ρ h1).1))
    rw [List.length_map] at this
    exact this) ((pathL_K l s w _).mpr h)
  exact ⟨w', (pathL_K l s w' _).mp h1, h2⟩
theorem path_app (l : Line) (t : LS) (x : List Int) : ∀ (w : List Int) (s : LS), PathL l s (w ++ x) t ↔ ∃ s1, PathL l s w s1 ∧ PathL l s1 x t
  | [], s => ⟨fun h => ⟨s, rfl, h⟩, fun ⟨s1, h1, h2⟩ => by
      have h1' : s = s1 := h1
      subst h1'
      exact h2⟩
  | m :: w, s => by
    constructor
    · rintro ⟨c, s', h1, h2, h3⟩
      obtain ⟨s1, h4, h5⟩ := (path_app l t x w s').mp h3
      exact ⟨s1, ⟨c, s', h1, h2, h4⟩, h5⟩
    · rintro ⟨s1, ⟨c, s', h1, h2, h4⟩, h5⟩
      exact ⟨c, s', h1, h2, (path_app l t x w s').mpr ⟨s1, h4, h5⟩⟩
theorem lastN_app (n : Nat) (u x : List Int) (h : x.length = n) : lastN n (u ++ x) = x := by
  unfold lastN
  rw [List.length_append, h, Nat.add_sub_cancel, List.drop_left]
theorem wide_le (r : Rule) (ho : r.ok) : 1 ≤ r.wide ∧ r.wide ≤ 12 := by
  cases r with
  | since n => exact ho
  | few a b =>
    have h : 1 ≤ a ∧ a ≤ 5 ∧ 1 ≤ b ∧ b ≤ 3 := ho
    show 1 ≤ a ∧ a ≤ 12
    omega
/-- what is kept hangs on the latest moments alone -/
theorem st_last (r : Rule) (ho : r.ok) (u u' x : List Int) (h : x.length = r.wide) : stOf r (u ++ x) = stOf r (u' ++ x) := by
  cases r with
  | since n =>
    have h' : x.length = n := h
    rw [since_is, since_is]
    have key : ∀ u : List Int, ∀ k, k ≤ n → (k ≤ quiet (u ++ x) ↔ (lastN k x).filter (fun m => decide (0 < m)) = []) := by
      intro u k hk
      rw [quiet_iff]
      have e : lastN k (u ++ x) = lastN k x := by
        unfold lastN
        rw [List.length_append, List.drop_append]
        have h1 : u.length + x.length - k = u.length + (x.length - k) := by omega
        rw [h1, List.drop_of_length_le (by omega), List.nil_append]
        congr 1
        omega
      rw [e, List.length_append]
      exact ⟨fun h => h.2, fun h => ⟨by omega, h⟩⟩
    have e : min n (quiet (u ++ x)) = min n (quiet (u' ++ x)) := by
      have h1 := (key u (min n (quiet (u ++ x))) (by omega)).mp (by omega)
      have h2 := (key u' (min n (quiet (u ++ x))) (by omega)).mpr h1
      have h3 := (key u' (min n (quiet (u' ++ x))) (by omega)).mp (by omega)
      have h4 := (key u (min n (quiet (u' ++ x))) (by omega)).mpr h3
      omega
    rw [e]
  | few a b =>
    have hh : 1 ≤ a ∧ a ≤ 5 ∧ 1 ≤ b ∧ b ≤ 3 := ho
    rw [few_is a b hh.1, few_is a b hh.1, lastN_app a u x h, lastN_app a u' x h]
theorem pk_short {l : Line} (lo : l.ok) {r : Rule} (ho : r.ok) {w : List Int} {k : PK} (h : PathK (succP l r) (firstP r) w k) : ∃ w', PathK (succP l r) (firstP r) w' k ∧ w'.length ≤ 1512 := by
  have hw := wide_le r ho
  by_cases hl : w.length ≤ 12
  · exact ⟨w, h, by omega⟩
  · obtain ⟨h1, h2⟩ := (pathP_first l r w k).mp h
    have e : w = w.take (w.length - r.wide) ++ w.drop (w.length - r.wide) := (List.take_append_drop _ _).symm
    have hx : (w.drop (w.length - r.wide)).length = r.wide := by rw [List.length_drop]; omega
    rw [e] at h1 h2
    obtain ⟨s1, h3, h4⟩ := (path_app l k.1 _ _ _).mp h1
    obtain ⟨u', h5, h6⟩ := path_short lo h3
    refine ⟨u' ++ w.drop (w.length - r.wide), (pathP_first l r _ k).mpr ⟨(path_app l k.1 _ _ _).mpr ⟨s1, h5, h4⟩, ?_⟩, ?_⟩
    · rw [h2]
      exact st_last r ho _ _ _ hx
    · rw [List.length_append, hx]
      omega
theorem FRow.short {l : Line} (lo : l.ok) {r : Rule} (ho : r.ok) {o : Option (List Int)} (h : FRow l r o) {ρ : List Int} (e : o = some ρ) : ρ.length ≤ 1512 := by
  obtain ⟨h1, h2, h3⟩ := h.yes ρ e
  obtain ⟨t, ht⟩ := (path_may lo.e1 ρ).mpr h1
  obtain ⟨w', h4, h5⟩ := pk_short lo ho ((pathP_first l r ρ (t, stOf r ρ)).mpr ⟨ht, rfl⟩)
  obtain ⟨h6, h7⟩ := (pathP_first l r w' _).mp h4
  have h8 := h3 w' ((path_may lo.e1 w').mp ⟨_, h6⟩) (by
    rw [← gone_is r ho, ← h7]
    show goneS r (stOf r ρ) = true
    rw [gone_is r ho]
    exact h2)
  omega
/-! ### such a key -/
def pkK (k : PK) : NK := .tup [lsK k.1, intsK k.2]
def pkD (k : PK) : PyData := .tuple [lsD k.1, intsD k.2]
theorem pkK_data (k : PK) : (pkK k).data = pkD k := by
  show PyData.tuple [(lsK k.1).data, (intsK k.2).data] = _
  rw [lsK_data, intsK_data]
  rfl
theorem pkK_depth (k : PK) : (pkK k).depth ≤ 3 := by
  show max (lsK k.1).depth (max (intsK k.2).depth 0) + 1 ≤ 3
  have := lsK_depth k.1
  have := intsK_depth k.2
  omega
theorem pkK_inj {s t : PK} (h : pkK s = pkK t) : s = t := by
  injection h with h
  injection h with h1 h2
  injection h2 with h2 _
  exact Prod.ext (lsK_inj h1) (intsK_inj h2)
theorem pkD_noL (k : PK) : NoL (pkD k) := .tuple _ fun d hd => by
  rcases List.mem_cons.mp hd with rfl | hd
  · exact lsD_noL _
  rcases List.mem_cons.mp hd with rfl | hd
  · exact intsD_noL _
  · cases hd
theorem lsD_shp (s : LS) : Shp 2 (lsD s) := shp_tuple fun d hd => by
  rcases List.mem_cons.mp hd with rfl | hd
  · exact shp_int _ _
  rcases List.mem_cons.mp hd with rfl | hd
  · exact shp_ints 0 _
  rcases List.mem_cons.mp hd with rfl | hd
  · exact shp_int _ _
  · cases hd
theorem pkD_shp (k : PK) : Shp 3 (pkD k) := shp_tuple fun d hd => by
  rcases List.mem_cons.mp hd with rfl | hd
  · exact lsD_shp _
  rcases List.mem_cons.mp hd with rfl | hd
  · exact shp_ints 1 _
  · cases hd
section
variable {K : PySem.W.Frag} {H : Hp}
theorem pk_at {v : V} {k : PK} (h : Dp K H v (pkD k)) : ∃ a x b, v = .ref a ∧ SqT K H a [x, .ref b] ∧ Dp K H x (lsD k.1) ∧ SqT K H b (k.2.map V.int) := by
  obtain ⟨a, xs, rfl, h1, h2⟩ := dp_tup h
  obtain ⟨x, y, rfl, h3, h4⟩ := dpAll_two h2
  obtain ⟨b, rfl, h6⟩ := dp_intsD h4
  exact ⟨a, x, b, rfl, h1, h3, h6⟩
theorem pk_mk {a b : Addr} {x : V} {k : PK} (h1 : SqT K H a [x, .ref b]) (h2 : Dp K H x (lsD k.1)) (h3 : SqT K H b (k.2.map V.int)) : Dp K H (.ref a) (pkD k) := .tup h1 (.cons h2 (.cons (ints_dp h3) .nil))
theorem pk_key {v : V} {k : PK} (h : Dp K H v (pkD k)) : KeyV K H v (pkK k) := by
  obtain ⟨a, x, b, rfl, h1, h2, h3⟩ := pk_at h
  refine ⟨⟨a, rfl⟩, by rw [pkK_data]; exact h, ?_⟩
  have := pkK_depth k
  omega
end
/-! ### what was met, in the heap: (key, the row's place, the row) -/
abbrev MS := List (PK × Addr × List Int)
def msK (ms : MS) : List (NK × V) := ms.map fun m => (pkK m.1, V.ref m.2.1)
def msM (ms : MS) : List (PK × List Int) := ms.map fun m => (m.1, m.2.2)
structure MetAt (P : Program) (w : World) (K : PySem.W.Frag) (H : Hp) (mt : Addr) (ms : MS) : Prop where
  nd : Nd P w K H mt (msK ms)
  rows : ∀ m ∈ ms, H m.2.1 = some (.lst (m.2.2.map V.int))
def WrAt (ms : MS) : Option (List Int) → V → Prop
  | none, v => v = .non
  | some ρ, v => ∃ k p, v = .ref p ∧ (k, p, ρ) ∈ ms
section
variable {P : Program} {w : World} {K : PySem.W.Frag} {H H' : Hp} {mt : Addr} {ms : MS}
theorem MetAt.same (h : MetAt P w K H mt ms) (s : Same H H') : MetAt P w K H' mt ms := ⟨h.nd.same s, fun m hm => s _ _ (h.rows m hm)⟩
theorem MetAt.keep (h : MetAt P w K H mt ms) (t : TK H H') (hd : ∀ o, H mt = some o → H' mt = some o) (hr : ∀ m ∈ ms, ∀ o, H m.2.1 = some o → H' m.2.1 = some o) : MetAt P w K H' mt ms := by
  obtain ⟨o, n⟩ := h.nd
  exact ⟨⟨o, n.keep t (hd _ n.here)⟩, fun m hm => hr m hm _ (h.rows m hm)⟩
theorem ms_val_none {ms : MS} {k : PK} : (valV (msK ms) (pkK k)).isSome = decide (k ∈ (msM ms).map (·.1)) := by
  induction ms with
  | nil => rfl
  | cons m ms ih =>
    by_cases e : m.1 = k
    · have h1 : valV (msK (m :: ms)) (pkK k) = some (.ref m.2.1) := valV_pos (p := (pkK m.1, V.ref m.2.1)) (congrArg pkK e)
      rw [h1]
      refine (decide_eq_true ?_).symm
      exact List.mem_map.mpr ⟨(m.1, m.2.2), List.mem_cons_self, e⟩
    · have h1 : valV (msK (m :: ms)) (pkK k) = valV (msK ms) (pkK k) := valV_neg (p := (pkK m.1, V.ref m.2.1)) (fun z => e (pkK_inj z))
      rw [h1, ih]
      refine decide_eq_decide.mpr ?_
      show k ∈ (msM ms).map (·.1) ↔ k ∈ m.1 :: (msM ms).map (·.1)
      rw [List.mem_cons]
      exact ⟨.inr, fun h => h.resolve_left (fun z => e z.symm)⟩
theorem ms_val {ms : MS} {k : PK} {a : Addr} {ρ : List Int} (hn : ((msM ms).map (·.1)).Nodup) (h : (k, a, ρ) ∈ ms) : valV (msK ms) (pkK k) = some (.ref a) := by
  induction ms with
  | nil => cases h
  | cons m ms ih =>
    have hn' : (m.1 :: (msM ms).map (·.1)).Nodup := hn
    rw [List.nodup_cons] at hn'
    by_cases e : m.1 = k
    · rcases List.mem_cons.mp h with h | h
      · subst h
        exact valV_pos (p := (pkK k, V.ref a)) rfl
      · refine absurd ?_ hn'.1
        exact List.mem_map.mpr ⟨((k, ρ) : PK × List Int), List.mem_map.mpr ⟨(k, a, ρ), h, rfl⟩, e.symm⟩
    · rcases List.mem_cons.mp h with h | h
      · subst h
        exact absurd rfl e
      · have h1 : valV (msK (m :: ms)) (pkK k) = valV (msK ms) (pkK k) := valV_neg (p := (pkK m.1, V.ref m.2.1)) (fun z => e (pkK_inj z))
        rw [h1]
        exact ih hn'.2 h
theorem ms_put {ms : MS} {k : PK} {a : Addr} {ρ : List Int} (h : k ∉ (msM ms).map (·.1)) : putK (msK ms) (pkK k) (.ref a) = msK (ms ++ [(k, a, ρ)]) := by
  have hv : valV (msK ms) (pkK k) = none := by
    have := ms_val_none (ms := ms) (k := k)
    rw [decide_eq_false h] at this
    exact Option.isSome_eq_false_iff.mp this |> Option.isNone_iff_eq_none.mp
  rw [putK_new _ hv]
  unfold msK
  rw [List.map_append]
  rfl
end
def spAll (P : Program) (w : World) (K : PySem.W.Frag) : Sp := fun vs H Q _ => ∃ (lp q : Addr) (l : Line) (r : Rule), vs = [.ref lp, .ref q] ∧ SqT K H lp l.vs ∧ l.ok ∧ SqT K H q r.vs ∧ r.ok ∧
  ∀ (p : Addr) (H' : Hp) (mt : Addr) (wv : V) (ms : MS) (b : BS PK), Same H H' → endP l r b → (msM ms) = b.met → MetAt P w K H' mt ms → WrAt ms b.wr wv → H' p = some (.tup [.ref mt, wv]) → H mt = none → (∀ m ∈ ms, H m.2.1 = none) → Q (.ref p) H'
def spFalse (K : PySem.W.Frag) : Sp := fun vs H Q _ => ∃ (lp q : Addr) (l : Line) (r : Rule), vs = [.ref lp, .ref q] ∧ SqT K H lp l.vs ∧ l.ok ∧ SqT K H q r.vs ∧ r.ok ∧
  ∀ (v : V) (H' : Hp) (b : BS PK), Same H H' → endP l r b → (b.wr = none → v = .non) → (∀ ρ, b.wr = some ρ → ∃ p, v = .ref p ∧ H p = none ∧ H' p = some (.lst (ρ.map V.int))) → Q v H'
/-- how far it is from the end -/
def muP (b : BS PK) : Nat := 2 * (pkMost + 1 - b.met.length) + if b.lv = [] then 0 else 1
theorem jinv_len {l : Line} (lo : l.ok) {r : Rule} (ho : r.ok) {n : Nat} {b0 b : BS PK} (B : BInv (succP l r) (goneP r) (firstP r) n b0) (J : JInv (succP l r) (goneP r) (firstP r) n b0 b) : b.met.length ≤ pkMost := by
  have := pk_few lo ho J.nd (fun k hk => by
    obtain ⟨⟨k', ρ⟩, h1, h2⟩ := List.mem_map.mp hk
    have h2' : k' = k := h2
    subst h2'
    rcases J.new k' ρ h1 with h | h
    · exact pk_ok lo ho (B.row k' ρ h).1
    · exact pk_ok lo ho h.1)
  rw [List.length_map] at this
  exact this
theorem binv_len {l : Line} (lo : l.ok) {r : Rule} (ho : r.ok) (n : Nat) : (bfsN (succP l r) (goneP r) (firstP r) n).met.length ≤ pkMost := by
  have B := bfs_inv (succ := succP l r) (firstP_gone r ho) n
  exact jinv_len (b := ⟨_, [], _⟩) lo ho B (JInv.start B)
theorem muP_lt {l : Line} (lo : l.ok) {r : Rule} (ho : r.ok) {n : Nat} (h : (bfsN (succP l r) (goneP r) (firstP r) n).lv ≠ []) : muP (bfsN (succP l r) (goneP r) (firstP r) (n + 1)) < muP (bfsN (succP l r) (goneP r) (firstP r) n) := by
  have h1 : (bfsN (succP l r) (goneP r) (firstP r) (n + 1)).met.length = (bfsN (succP l r) (goneP r) (firstP r) n).met.length + (bfsN (succP l r) (goneP r) (firstP r) (n + 1)).lv.length := step_len _
  have h2 := binv_len lo ho (n + 1)
  unfold muP
  rw [if_neg h]
  split
  · rename_i e
    rw [e] at h1
    have h1' : (bfsN (succP l r) (goneP r) (firstP r) (n + 1)).met.length = (bfsN (succP l r) (goneP r) (firstP r) n).met.length + 0 := h1
    omega
  · rename_i e
    have h3 : 0 < (bfsN (succP l r) (goneP r) (firstP r) (n + 1)).lv.length := List.length_pos_iff.mpr e
    omega
/-- while a level is gone through -/
structure ASt (P : Program) (w : World) (K : PySem.W.Frag) (H0 H : Hp) (mt lvp bh : Addr) (zs : List V) (lv0 : List PK) (ms : MS) (ys : List V) (lv : List PK) : Prop where
  same : Same H0 H
  met : MetAt P w K H mt ms
  new : ∀ m ∈ ms, H0 m.2.1 = none ∧ m.2.1 ≠ bh
  lvl : H lvp = some (.lst zs)
  lvD : DpAll K H zs (lv0.map pkD)
  beh : H bh = some (.lst ys)
  behD : DpAll K H ys (lv.map pkD)
theorem ASt.more {P : Program} {w : World} {K : PySem.W.Frag} {H0 H H' : Hp} {mt lvp bh : Addr} {zs : List V} {lv0 : List PK} {ms : MS} {ys : List V} {lv : List PK} (h : ASt P w K H0 H mt lvp bh zs lv0 ms ys lv) (s : Same H H') : ASt P w K H0 H' mt lvp bh zs lv0 ms ys lv :=
  ⟨h.same.trans s, h.met.same s, h.new, s _ _ h.lvl, DpAll.same s h.lvD, s _ _ h.beh, DpAll.same s h.behD⟩
section
variable {κ : Type} [DecidableEq κ]
theorem edges_len (gone : κ → Bool) (k : κ) : ∀ (es : List (Int × κ)) (b : BS κ) (n : Nat), b.met.length = n + b.lv.length → (es.foldl (edgeB gone k) b).met.length = n + (es.foldl (edgeB gone k) b).lv.length
  | [], b, n, h => h
  | e :: es, b, n, h => edges_len gone k es _ n (edge_lv gone k b e n h)
theorem nodes_len (succ : κ → List (Int × κ)) (gone : κ → Bool) : ∀ (ks : List κ) (b : BS κ) (n : Nat), b.met.length = n + b.lv.length → (ks.foldl (nodeB succ gone) b).met.length = n + (ks.foldl (nodeB succ gone) b).lv.length
  | [], b, n, h => h
  | k :: ks, b, n, h => nodes_len succ gone ks _ n (edges_len gone k (succ k) b n h)
end
end Bw

set_option Elab.async false
set_option linter.all false
set_option maxRecDepth 100000
set_option maxHeartbeats 4000000
namespace Bw
open PySem PySem.Spec PyProof.Rows L2
/-! ### a tuple, some times -/
theorem tuple_mul1 (l : Addr) (items : Array Value) (n : Nat) (dd : Option Addr) (sl : Array (Option Value)) (u : Tok) :
    Meets (Builtin.«tuple.__mul__» ⟨[.ref l, .int 1 u], []⟩) (fun _ R s => s.heap.get? l = some { cls := .type "tuple", dict := dd, data := .seq items n, slots := sl } ∧ R (.ok (.ret (Value.ref l))) s) :=
  .of_wp fun prog w A R s h => by
    obtain ⟨hp, g, d, tk, os⟩ := s
    obtain ⟨hl, h⟩ := h
    have f1 := AutoSeq1.idx_int
    have c1 : (items.isEmpty || (1 : Int) == 1) = true := by rw [Bool.or_eq_true]; exact .inr rfl
    wp_walk using wpAny_loadPart' hl
    exact ⟨_, rfl, h⟩
def rRepU (K : PySem.W.Frag) : R2 := fun x y H Q => ∃ (l : Addr) (k : Nat) (xs : List V), x = .ref l ∧ y = .int k ∧ SqT K H l xs ∧ xs ≠ [] ∧ 1 ≤ k ∧ k ≤ 1000 ∧ xs.length ≤ 1000 ∧ ∀ p H', Same H H' → SqT K H' p (List.replicate k xs).flatten → Q (.ref p) H'
theorem op_repU {X : Cx} : OpR X (binaryOp .Mult) (rRepU X.K) := by
  intro pins s σ H x y v u Q I rx ry h
  obtain ⟨l, k, xs, rfl, rfl, hT, hne, h1, h2, hz, q⟩ := h
  by_cases hk : k = 1
  · subst hk
    cases rx
    obtain ⟨t, rfl⟩ := ry
    obtain ⟨its, r, ⟨⟨cls, dd, data, sl⟩, ho, hc, n, hd⟩, hs⟩ := I.tuple hT
    simp only at hc hd
    subst hc hd
    refine wpAny_binaryOp_repeat_ref (T := "tuple") (U := "int") (by decide) ⟨_, ho, rfl⟩ (fun s' => typeIs_int s' _ t) noFill_tuple_mul F.fills_int_mul F.slot_int_rmul repeat_tuple F.slot_int_index.lookup
      (call_meets F.slot_int_rmul (typeIs_int s _ t) F.entry_int_rmul (F.args_int_rmul_2 _ _) (int_rmul_tuple _ t l its.toArray n dd sl)
        ⟨ho, rfl, ⟨_, ho, rfl⟩, call_meets F.slot_tuple_mul ⟨_, ho, rfl⟩ F.entry_tuple_mul (F.args_tuple_mul_2 _ _) (tuple_mul1 l its.toArray n dd sl t) ⟨ho, ?_⟩⟩)
    exact ⟨.ref l, H, I, rfl, q l H (Same.refl H) (by rw [List.replicate_one, List.flatten_singleton]; exact hT)⟩
  · exact op_repT pins s σ H (.ref l) (.int k) v u Q I rx ry ⟨l, k, xs, rfl, rfl, hT, hne, by omega, by omega, hz, fun p hp => q p _ (Same.newB hp) (SqT.of (by rw [upd_same]; rfl))⟩
/-! ### the law's own watcher -/
def r12 : Rule → Rule
  | .since _ => .since 12
  | .few a b => .few a b
theorem r12_ok {r : Rule} (ho : r.ok) : (r12 r).ok := by
  cases r with
  | since n => exact ⟨by omega, by omega⟩
  | few a b => exact ho
theorem r12_first (r : Rule) : firstS (r12 r) = firstS r := by cases r <;> rfl
theorem gone12 {r : Rule} (ho : r.ok) (w : List Int) : goneS r (stOf (r12 r) w) = goneH r w := by
  cases r with
  | since n =>
    have h : 1 ≤ n ∧ n ≤ 12 := ho
    rw [← gone_is (.since n) ho]
    show goneS (.since n) (stOf (.since 12) w) = goneS (.since n) (stOf (.since n) w)
    rw [since_is, since_is]
    show decide ((n : Int) ≤ ((min 12 (quiet w) : Nat) : Int)) = decide ((n : Int) ≤ ((min n (quiet w) : Nat) : Int))
    exact decide_eq_decide.mpr (by omega)
  | few a b => exact gone_is (.few a b) ho w
def spKeeps (K : PySem.W.Frag) : Sp := fun vs H Q _ => ∃ (q t : Addr) (m : Int) (r : Rule) (st : List Int), vs = [.ref q, .ref t, .int m] ∧ SqT K H q r.vs ∧ r.ok ∧ SqT K H t (st.map V.int) ∧ StOk (r12 r) st ∧
  ∀ p H', Same H H' → SqT K H' p ((nextS (r12 r) st m).map V.int) → Q (.ref p) H'
def spTells (K : PySem.W.Frag) : Sp := fun vs H Q _ => ∃ (q t : Addr) (r : Rule) (st : List Int), vs = [.ref q, .ref t] ∧ SqT K H q r.vs ∧ r.ok ∧ SqT K H t (st.map V.int) ∧ StOk (r12 r) st ∧ Q (.bl (goneS r st)) H
/-! ### the law's own states: how many come in how many moments (in the place of the ages) -/
def sendV (l : Line) (s : LS) : List (List Nat × Nat) := if s.ph = 0 then ((List.range (l.late + 1)).map fun d => (s.ages.set d (s.ages.getD d 0 + 1), 0)) ++ (if s.run < l.lost then [(s.ages, s.run + 1)] else []) else [(s.ages, s.run)]
def movesV (l : Line) (s : LS) : List (Nat × LS) := (sendV l s).map fun b => (b.1.headD 0, ⟨(s.ph + 1) % l.each, b.1.tail ++ [0], b.2⟩)
def vFirst (l : Line) : LS := ⟨0, List.replicate (l.late + 1) 0, 0⟩
def succVL (l : Line) (s : LS) : List (Int × LS) := (movesV l s).map fun q => ((q.1 : Int), q.2)
def succV (l : Line) (r : Rule) (k : PK) : List (Int × PK) := (movesV l k.1).map fun q => ((q.1 : Int), (q.2, nextS (r12 r) k.2 (q.1 : Int)))
def firstV (l : Line) (r : Rule) : PK := (vFirst l, firstS r)
def endV (l : Line) (r : Rule) (b : BS PK) : Prop := BEnd (succV l r) (goneP r) (firstV l r) b
structure VSok (l : Line) (s : LS) : Prop where
  ph : s.ph < l.each
  run : s.run ≤ l.lost
  len : s.ages.length = l.late + 1
  bd : ∀ j, s.ages.getD j 0 ≤ l.late - j
theorem getD_set {l : List Nat} {i j v : Nat} : (l.set i v).getD j 0 = if i = j ∧ j < l.length then v else l.getD j 0 := by
  rw [List.getD_eq_getElem?_getD, List.getD_eq_getElem?_getD]
  by_cases e : i = j
  · subst e
    by_cases h : i < l.length
    · rw [List.getElem?_set_self h, if_pos ⟨rfl, h⟩]
      rfl
    · rw [if_neg (fun z => h z.2), List.getElem?_eq_none (by rw [List.length_set]; omega), List.getElem?_eq_none (by omega)]
  · rw [List.getElem?_set_ne e, if_neg (fun z => e z.1)]
theorem getD_shift {l : List Nat} {n j : Nat} (h : l.length = n + 1) : (l.tail ++ [0]).getD j 0 = l.getD (j + 1) 0 := by
  cases l with
  | nil => simp at h
  | cons a t =>
    show (t ++ [0]).getD j 0 = (a :: t).getD (j + 1) 0
    rw [List.getD_eq_getElem?_getD, List.getD_eq_getElem?_getD, List.getElem?_cons_succ]
    by_cases hj : j < t.length
    · rw [List.getElem?_append_left hj]
    · rw [List.getElem?_eq_none (l := t) (by omega)]
      by_cases e : j = t.length
      · subst e
        rw [List.getElem?_append_right (Nat.le_refl _), Nat.sub_self]
        rfl
      · rw [List.getElem?_eq_none (by rw [List.length_append]; show t.length + 1 ≤ j; omega)]
theorem headD_getD (l : List Nat) : l.headD 0 = l.getD 0 0 := by cases l <;> rfl
theorem sendV_mem {l : Line} {s : LS} {row : List Nat} {run : Nat} : (row, run) ∈ sendV l s ↔ (s.ph ≠ 0 ∧ row = s.ages ∧ run = s.run) ∨ (s.ph = 0 ∧ ((∃ d, d ≤ l.late ∧ row = s.ages.set d (s.ages.getD d 0 + 1) ∧ run = 0) ∨ (s.run < l.lost ∧ row = s.ages ∧ run = s.run + 1))) := by
  unfold sendV
  by_cases h : s.ph = 0
  · rw [if_pos h, List.mem_append]
    constructor
    · rintro (hm | hm)
      · obtain ⟨d, hd, e⟩ := List.mem_map.mp hm
        injection e with e1 e2
        have := List.mem_range.mp hd
        exact .inr ⟨h, .inl ⟨d, by omega, e1.symm, e2.symm⟩⟩
      · split at hm
        · rename_i hr
          rcases List.mem_cons.mp hm with e | hm
          · injection e with e1 e2
            exact .inr ⟨h, .inr ⟨hr, e1, e2⟩⟩
          · cases hm
        · cases hm
    · rintro (⟨h1, _⟩ | ⟨_, ⟨d, hd, rfl, rfl⟩ | ⟨hr, rfl, rfl⟩⟩)
      · exact absurd h h1
      · exact .inl (List.mem_map.mpr ⟨d, List.mem_range.mpr (by omega), rfl⟩)
      · refine .inr ?_
        rw [if_pos hr]
        exact List.mem_cons_self
  · rw [if_neg h]
    constructor
    · intro hm
      rcases List.mem_cons.mp hm with e | hm
      · injection e with e1 e2
        exact .inl ⟨h, e1, e2⟩
      · cases hm
    · rintro (⟨_, rfl, rfl⟩ | ⟨h1, _⟩)
      · exact List.mem_cons_self
      · exact absurd h1 h
theorem sendV_ok {l : Line} {s : LS} (ok : VSok l s) {row : List Nat} {run : Nat} (h : (row, run) ∈ sendV l s) : row.length = l.late + 1 ∧ run ≤ l.lost ∧ ∀ j, row.getD j 0 ≤ l.late - j + 1 := by
  rcases sendV_mem.mp h with ⟨_, rfl, rfl⟩ | ⟨_, ⟨d, hd, rfl, rfl⟩ | ⟨hr, rfl, rfl⟩⟩
  · exact ⟨ok.len, ok.run, fun j => by have := ok.bd j; omega⟩
  · refine ⟨by rw [List.length_set]; exact ok.len, Nat.zero_le _, fun j => ?_⟩
    rw [getD_set]
    have := ok.bd j
    split
    · rename_i e
      have := ok.bd d
      rw [e.1] at this ⊢
      omega
    · omega
  · exact ⟨ok.len, hr, fun j => by have := ok.bd j; omega⟩
theorem movesV_ok {l : Line} (he : 1 ≤ l.each) {s s' : LS} {c : Nat} (ok : VSok l s) (h : (c, s') ∈ movesV l s) : VSok l s' ∧ c ≤ l.late + 1 := by
  obtain ⟨⟨row, run⟩, hb, e⟩ := List.mem_map.mp h
  injection e with e1 e2
  obtain ⟨h1, h2, h3⟩ := sendV_ok ok hb
  subst e2
  refine ⟨⟨Nat.mod_lt _ (by omega), h2, ?_, fun j => ?_⟩, ?_⟩
  · show (row.tail ++ [0]).length = l.late + 1
    rw [List.length_append, List.length_tail, h1]
    rfl
  · show (row.tail ++ [0]).getD j 0 ≤ l.late - j
    rw [getD_shift h1]
    by_cases hj : j + 1 ≤ l.late
    · have := h3 (j + 1)
      omega
    · rw [List.getD_eq_getElem?_getD, List.getElem?_eq_none (by omega)]
      exact Nat.zero_le _
  · have := h3 0
    have e1' : row.headD 0 = c := e1
    rw [headD_getD] at e1'
    omega
theorem vFirst_ok {l : Line} (he : 1 ≤ l.each) : VSok l (vFirst l) := by
  refine ⟨by show 0 < l.each; omega, Nat.zero_le _, List.length_replicate, fun j => ?_⟩
  show (List.replicate (l.late + 1) 0).getD j 0 ≤ _
  rw [List.getD_eq_getElem?_getD, List.getElem?_replicate]
  split <;> exact Nat.zero_le _
/-- what comes yet -/
def dueW (due : List Nat) (v : List Int) : Prop := ∀ t, t < v.length → v[t]? = some ((due.getD t 0 : Nat) : Int)
def RV (l : Line) (P : List (Nat × Nat)) (due : List Nat) : Prop := due.length = l.late + 1 ∧ ∀ t, due.getD t 0 = cntR P t
theorem accD_V (l : Line) (he : 1 ≤ l.each) (v : List Int) : ∀ (u : List Int) (s : LS) (P : List (Nat × Nat)), s.ph < l.each → RV l P s.ages → (AccD l (T0 l s.ph) P s.run u v ↔ ∃ s', PathK (succVL l) s u s' ∧ dueW s'.ages v)
  | [], s, P, hp, R => by
    have h := accDG_iff v P
    constructor
    · intro hA
      refine ⟨s, rfl, fun t ht => ?_⟩
      rw [R.2 t]
      exact h.mp hA t ht
    · rintro ⟨s', h1, h2⟩
      have h1' : s = s' := h1
      subst h1'
      refine h.mpr fun t ht => ?_
      rw [← R.2 t]
      exact h2 t ht
  | m :: u, s, P, hp, R => by
    have htn := T0_next (l := l) (ph := s.ph) he hp
    have step : ∀ (P' : List (Nat × Nat)) (row : List Nat) (run' : Nat), row.length = l.late + 1 → (∀ t, row.getD t 0 = cntR P' t) → RV l (tick P') (row.tail ++ [0]) ∧ ((row.headD 0 : Nat) : Int) = (cnt0 P' : Int) := by
      intro P' row run' h1 h2
      refine ⟨⟨by rw [List.length_append, List.length_tail, h1]; rfl, fun t => ?_⟩, ?_⟩
      · rw [getD_shift h1, h2, cntR_tick]
      · rw [headD_getD, h2 0, cntR_zero]
    constructor
    · rintro ⟨P', run', t0', hs, rfl, hA⟩
      have key : ∃ row, (row, run') ∈ sendV l s ∧ row.length = l.late + 1 ∧ (∀ t, row.getD t 0 = cntR P' t) ∧ t0' = T0 l ((s.ph + 1) % l.each) := by
        generalize hT : T0 l s.ph = t0 at hs
        generalize hR : s.run = run at hs
        cases hs with
        | wait =>
          have hph : 0 < s.ph := by
            rcases Nat.eq_zero_or_pos s.ph with z | z
            · rw [z] at hT
              have : (0 : Nat) = _ + 1 := hT
              omega
            · exact z
          refine ⟨s.ages, sendV_mem.mpr (.inl ⟨by omega, rfl, hR.symm⟩), R.1, R.2, ?_⟩
          have := htn.2 hph
          omega
        | lose _ _ hl =>
          have hph : s.ph = 0 := by
            unfold T0 at hT
            split at hT
            · assumption
            · omega
          exact ⟨s.ages, sendV_mem.mpr (.inr ⟨hph, .inr ⟨by omega, rfl, by rw [hR]⟩⟩), R.1, R.2, (htn.1 hph).symm⟩
        | keep _ _ d hd =>
          have hph : s.ph = 0 := by
            unfold T0 at hT
            split at hT
            · assumption
            · omega
          refine ⟨s.ages.set d (s.ages.getD d 0 + 1), sendV_mem.mpr (.inr ⟨hph, .inl ⟨d, hd, rfl, rfl⟩⟩), by rw [List.length_set]; exact R.1, fun t => ?_, (htn.1 hph).symm⟩
          rw [getD_set, cntR_snoc, R.2 d, R.2 t]
          by_cases e : d = t
          · rw [if_pos ⟨e, by rw [R.1]; omega⟩, if_pos e, e]
          · rw [if_neg (fun z => e z.1), if_neg e, Nat.add_zero]
      obtain ⟨row, k1, k2, k3, k4⟩ := key
      obtain ⟨R', hc⟩ := step P' row run' k2 k3
      subst k4
      obtain ⟨s', h1, h2⟩ := (accD_V l he v u ⟨(s.ph + 1) % l.each, row.tail ++ [0], run'⟩ (tick P') (Nat.mod_lt _ (by omega)) R').mp hA
      refine ⟨s', ⟨⟨(s.ph + 1) % l.each, row.tail ++ [0], run'⟩, ?_, h1⟩, h2⟩
      rw [← hc]
      exact List.mem_map.mpr ⟨(row.headD 0, _), List.mem_map.mpr ⟨(row, run'), k1, rfl⟩, rfl⟩
    · rintro ⟨s', ⟨s1, h1, h2⟩, h3⟩
      obtain ⟨⟨c, s2⟩, h4, h5⟩ := List.mem_map.mp h1
      injection h5 with h5 h6
      have h6' : s2 = s1 := h6
      subst h6'
      obtain ⟨⟨row, run'⟩, hb, e⟩ := List.mem_map.mp h4
      injection e with e1 e2
      have e1' : row.headD 0 = c := e1
      subst e1' e2
      have key : ∃ P', Send l (T0 l s.ph) P s.run P' run' (T0 l ((s.ph + 1) % l.each)) ∧ row.length = l.late + 1 ∧ ∀ t, row.getD t 0 = cntR P' t := by
        rcases sendV_mem.mp hb with ⟨hph, rfl, rfl⟩ | ⟨hph, ⟨d, hd, rfl, rfl⟩ | ⟨hr, rfl, rfl⟩⟩
        · refine ⟨P, ?_, R.1, R.2⟩
          rw [htn.2 (by omega)]
          exact .wait _ _ _
        · refine ⟨P ++ [(0, d)], ?_, by rw [List.length_set]; exact R.1, fun t => ?_⟩
          · rw [htn.1 hph, hph]
            exact .keep _ _ d hd
          · rw [getD_set, cntR_snoc, R.2 d, R.2 t]
            by_cases e : d = t
            · rw [if_pos ⟨e, by rw [R.1]; omega⟩, if_pos e, e]
            · rw [if_neg (fun z => e z.1), if_neg e, Nat.add_zero]
        · refine ⟨P, ?_, R.1, R.2⟩
          rw [htn.1 hph, hph]
          exact .lose _ _ hr
      obtain ⟨P', k1, k2, k3⟩ := key
      obtain ⟨R', hc⟩ := step P' row run' k2 k3
      refine ⟨P', run', _, k1, ?_, (accD_V l he v u ⟨(s.ph + 1) % l.each, row.tail ++ [0], run'⟩ (tick P') (Nat.mod_lt _ (by omega)) R').mpr ⟨s', h2, h3⟩⟩
      rw [← hc]
      exact h5.symm
theorem pathV_may {l : Line} (he : 1 ≤ l.each) (u v : List Int) : (∃ s', PathK (succVL l) (vFirst l) u s' ∧ dueW s'.ages v) ↔ MayH l u v := by
  rw [← accD_may l he]
  refine (accD_V l he v u (vFirst l) [] (by show 0 < l.each; omega) ⟨List.length_replicate, fun t => ?_⟩).symm
  show (List.replicate (l.late + 1) 0).getD t 0 = 0
  rw [List.getD_eq_getElem?_getD, List.getElem?_replicate]
  split <;> rfl
theorem pathV (l : Line) (r : Rule) (t : PK) : ∀ (w : List Int) (s : LS) (st : List Int), PathK (succV l r) (s, st) w t ↔ PathK (succVL l) s w t.1 ∧ t.2 = w.foldl (nextS (r12 r)) st
  | [], s, st => by
    constructor
    · intro h
      have h' : (s, st) = t := h
      subst h'
      exact ⟨rfl, rfl⟩
    · rintro ⟨h1, h2⟩
      have h1' : s = t.1 := h1
      have h2' : t.2 = st := h2
      show (s, st) = t
      rw [h1', ← h2']
  | m :: w, s, st => by
    constructor
    · rintro ⟨⟨s', st'⟩, h1, h2⟩
      obtain ⟨⟨c, s1⟩, h3, h4⟩ := List.mem_map.mp h1
      injection h4 with h4 h5
      injection h5 with h5 h6
      have h4' : (c : Int) = m := h4
      have h5' : s1 = s' := h5
      have h6' : nextS (r12 r) st (c : Int) = st' := h6
      subst h4' h5' h6'
      obtain ⟨h7, h8⟩ := (pathV l r t w s1 _).mp h2
      exact ⟨⟨s1, List.mem_map.mpr ⟨(c, s1), h3, rfl⟩, h7⟩, h8⟩
    · rintro ⟨⟨s1, h3, h7⟩, h8⟩
      obtain ⟨⟨c, s2⟩, h4, h5⟩ := List.mem_map.mp h3
      injection h5 with h5 h6
      have h6' : s2 = s1 := h6
      have h5' : (c : Int) = m := h5
      subst h6' h5'
      exact ⟨(s2, nextS (r12 r) st (c : Int)), List.mem_map.mpr ⟨(c, s2), h4, rfl⟩, (pathV l r t w s2 _).mpr ⟨h7, h8⟩⟩
theorem pathV_first (l : Line) (r : Rule) (w : List Int) (t : PK) : PathK (succV l r) (firstV l r) w t ↔ PathK (succVL l) (vFirst l) w t.1 ∧ t.2 = stOf (r12 r) w := by
  have := pathV l r t w (vFirst l) (firstS r)
  unfold firstV stOf
  rw [r12_first]
  exact this
theorem pathVL_ok {l : Line} (he : 1 ≤ l.each) : ∀ {w : List Int} {s t : LS}, VSok l s → PathK (succVL l) s w t → VSok l t
  | [], s, t, h, p => by
    have p' : s = t := p
    subst p'
    exact h
  | m :: w, s, t, h, p => by
    obtain ⟨s', h1, h3⟩ := p
    obtain ⟨⟨c, s2⟩, h4, h5⟩ := List.mem_map.mp h1
    injection h5 with h5 h6
    have h6' : s2 = s' := h6
    subst h6'
    exact pathVL_ok he (movesV_ok he h h4).1 h3
theorem dueW_nil (due : List Nat) : dueW due [] := fun t ht => absurd ht (Nat.not_lt_zero _)
theorem firstV_gone (l : Line) (r : Rule) (ho : r.ok) : goneP r (firstV l r) = false := firstP_gone r ho
theorem endV_row {l : Line} (lo : l.ok) {r : Rule} (ho : r.ok) {b : BS PK} (h : endV l r b) : FRow l r b.wr := by
  have R := BEnd.res (firstV_gone l r ho) h
  refine ⟨fun e w hw => ?_, fun ρ e => ?_⟩
  · obtain ⟨t, ht, _⟩ := (pathV_may lo.e1 w []).mpr hw
    have := R.wr0 e w (t, stOf (r12 r) w) ((pathV_first l r w _).mpr ⟨ht, rfl⟩)
    rw [← gone12 ho]
    exact this
  · obtain ⟨⟨k, h1, h2⟩, h3⟩ := R.wr1 ρ e
    obtain ⟨h4, h5⟩ := (pathV_first l r ρ k).mp h1
    refine ⟨(pathV_may lo.e1 ρ []).mp ⟨_, h4, dueW_nil _⟩, ?_, fun w hw hg => ?_⟩
    · rw [← gone12 ho, ← h5]
      exact h2
    · obtain ⟨t, ht, _⟩ := (pathV_may lo.e1 w []).mpr hw
      refine h3 w (t, stOf (r12 r) w) ((pathV_first l r w _).mpr ⟨ht, rfl⟩) ?_
      show goneS r (stOf (r12 r) w) = true
      rw [gone12 ho]
      exact hg
theorem FRow.alike {l : Line} {r : Rule} {o o' : Option (List Int)} (h : FRow l r o) (h' : FRow l r o') : (o = none ↔ o' = none) ∧ ∀ ρ ρ', o = some ρ → o' = some ρ' → ρ.length = ρ'.length := by
  have one : ∀ {o o' : Option (List Int)}, FRow l r o → FRow l r o' → o = none → o' = none := fun {o o'} h h' e => by
    cases ho : o' with
    | none => rfl
    | some ρ =>
      obtain ⟨h1, h2, _⟩ := h'.yes ρ ho
      rw [h.no e ρ h1] at h2
      cases h2
  refine ⟨⟨one h h', one h' h⟩, fun ρ ρ' e e' => ?_⟩
  obtain ⟨h1, h2, h3⟩ := h.yes ρ e
  obtain ⟨g1, g2, g3⟩ := h'.yes ρ' e'
  have := h3 ρ' g1 g2
  have := g3 ρ h1 h2
  omega
/-! ### no more than so many -/
def vsCode (s : LS) : Nat := ((((s.ph * 4 + s.ages.getD 0 0) * 3 + s.ages.getD 1 0) * 2 + s.ages.getD 2 0) * 3) + s.run
theorem VSok.at3 {l : Line} (lo : l.ok) {s : LS} (h : VSok l s) : s.ages.getD 0 0 ≤ 3 ∧ s.ages.getD 1 0 ≤ 2 ∧ s.ages.getD 2 0 ≤ 1 ∧ ∀ j, 3 ≤ j → s.ages.getD j 0 = 0 := by
  have h3 := lo.l3
  refine ⟨by have := h.bd 0; omega, by have := h.bd 1; omega, by have := h.bd 2; omega, fun j hj => ?_⟩
  have := h.bd j
  omega
theorem vsCode_lt {l : Line} (lo : l.ok) {s : LS} (h : VSok l s) : vsCode s < 288 := by
  obtain ⟨a0, a1, a2, _⟩ := h.at3 lo
  have := h.ph
  have := lo.e4
  have := h.run
  have := lo.s2
  unfold vsCode
  omega
theorem vsCode_inj {l : Line} (lo : l.ok) {s t : LS} (hs : VSok l s) (ht : VSok l t) (e : vsCode s = vsCode t) : s = t := by
  obtain ⟨a0, a1, a2, a3⟩ := hs.at3 lo
  obtain ⟨b0, b1, b2, b3⟩ := ht.at3 lo
  have := hs.run
  have := ht.run
  have := lo.s2
  unfold vsCode at e
  have e0 : s.run = t.run := by omega
  have e1 : s.ages.getD 2 0 = t.ages.getD 2 0 := by omega
  have e2 : s.ages.getD 1 0 = t.ages.getD 1 0 := by omega
  have e3 : s.ages.getD 0 0 = t.ages.getD 0 0 := by omega
  have e4 : s.ph = t.ph := by omega
  have e5 : s.ages = t.ages := by
    refine List.ext_getElem? fun j => ?_
    have hj : s.ages.getD j 0 = t.ages.getD j 0 := by
      match j with
      | 0 => exact e3
      | 1 => exact e2
      | 2 => exact e1
      | j + 3 => rw [a3 _ (by omega), b3 _ (by omega)]
    by_cases hlt : j < s.ages.length
    · have hlt' : j < t.ages.length := by rw [ht.len, ← hs.len]; exact hlt
      rw [List.getD_eq_getElem?_getD, List.getD_eq_getElem?_getD, List.getElem?_eq_getElem hlt, List.getElem?_eq_getElem hlt'] at hj
      rw [List.getElem?_eq_getElem hlt, List.getElem?_eq_getElem hlt']
      exact congrArg some hj
    · rw [List.getElem?_eq_none (by omega), List.getElem?_eq_none (by rw [ht.len, ← hs.len]; omega)]
  cases s
  cases t
  simp only [LS.mk.injEq]
  exact ⟨e4, e5, e0⟩
def pvCode (k : PK) : Nat := vsCode k.1 * 7776 + codeL 6 (k.2.map Int.toNat)
def pvCodeS (k : PK) : Nat := vsCode k.1 * 13 + (k.2.headD 0).toNat
theorem pv_few {l : Line} (lo : l.ok) {r : Rule} (ho : r.ok) {ks : List PK} (hn : ks.Nodup) (h : ∀ k ∈ ks, VSok l k.1 ∧ KpOk r k.2) : ks.length ≤ pkMost := by
  cases r with
  | since n =>
    refine Nat.le_trans (nodup_code (B := 288 * 13) pvCodeS hn (fun k hk => ?_) (fun k hk k' hk' e => ?_)) (by decide)
    · obtain ⟨h1, h2⟩ := h k hk
      have h3 := vsCode_lt lo h1
      obtain ⟨z, hz⟩ := h2.st
      have h4 := h2.small z (by rw [hz]; exact List.mem_cons_self)
      unfold pvCodeS
      rw [hz]
      show vsCode k.1 * 13 + z.toNat < 288 * 13
      omega
    · obtain ⟨h1, h2⟩ := h k hk
      obtain ⟨g1, g2⟩ := h k' hk'
      obtain ⟨z, hz⟩ := h2.st
      obtain ⟨z', hz'⟩ := g2.st
      have h4 := h2.small z (by rw [hz]; exact List.mem_cons_self)
      have g4 := g2.small z' (by rw [hz']; exact List.mem_cons_self)
      unfold pvCodeS at e
      rw [hz, hz'] at e
      have e' : vsCode k.1 * 13 + z.toNat = vsCode k'.1 * 13 + z'.toNat := e
      have e1 : vsCode k.1 = vsCode k'.1 := by omega
      refine Prod.ext (vsCode_inj lo h1 g1 e1) ?_
      rw [hz, hz']
      congr 1
      omega
  | few a b =>
    have five : ∀ k ∈ ks, ∀ m ∈ k.2, 0 ≤ m ∧ m ≤ 4 := fun k hk m hm => by
      obtain ⟨h1, h2⟩ := h k hk
      refine ⟨(h2.small m hm).1, ?_⟩
      rcases h2.five with ⟨n, e⟩ | h5
      · cases e
      · exact h5 m hm
    have dig : ∀ k ∈ ks, ∀ x ∈ k.2.map Int.toNat, x + 1 < 6 := fun k hk x hx => by
      obtain ⟨m, hm, rfl⟩ := List.mem_map.mp hx
      have := five k hk m hm
      omega
    have lt : ∀ k ∈ ks, codeL 6 (k.2.map Int.toNat) < 7776 := fun k hk => codeL_lt (b := 6) (by omega) _ 5 (by rw [List.length_map]; exact (h k hk).2.len) (dig k hk)
    refine nodup_code (B := pkMost) pvCode hn (fun k hk => ?_) (fun k hk k' hk' e => ?_)
    · have h3 := vsCode_lt lo (h k hk).1
      have h4 := lt k hk
      unfold pvCode
      show _ < 11664000
      omega
    · have h4 := lt k hk
      have h5 := lt k' hk'
      unfold pvCode at e
      have e1 : vsCode k.1 = vsCode k'.1 := by omega
      have e2 : codeL 6 (k.2.map Int.toNat) = codeL 6 (k'.2.map Int.toNat) := by omega
      refine Prod.ext (vsCode_inj lo (h k hk).1 (h k' hk').1 e1) ?_
      exact toNat_inj (fun m hm => (five k hk m hm).1) (fun m hm => (five k' hk' m hm).1) (codeL_inj (dig k hk) (dig k' hk') e2)
theorem pv_ok {l : Line} (lo : l.ok) {r : Rule} (ho : r.ok) {w : List Int} {k : PK} (h : PathK (succV l r) (firstV l r) w k) : VSok l k.1 ∧ KpOk (r12 r) k.2 := by
  obtain ⟨h1, h2⟩ := (pathV_first l r w k).mp h
  refine ⟨pathVL_ok lo.e1 (vFirst_ok lo.e1) h1, ?_⟩
  rw [h2]
  have hm := may_four lo ((pathV_may lo.e1 w []).mp ⟨_, h1, dueW_nil _⟩)
  rw [List.append_nil] at hm
  exact kp_ok (r12_ok ho) hm
theorem vjinv_len {l : Line} (lo : l.ok) {r : Rule} (ho : r.ok) {n : Nat} {b0 b : BS PK} (B : BInv (succV l r) (goneP r) (firstV l r) n b0) (J : JInv (succV l r) (goneP r) (firstV l r) n b0 b) : b.met.length ≤ pkMost := by
  have := pv_few lo (r12_ok ho) J.nd (fun k hk => by
    obtain ⟨⟨k', ρ⟩, h1, h2⟩ := List.mem_map.mp hk
    have h2' : k' = k := h2
    subst h2'
    rcases J.new k' ρ h1 with h | h
    · exact pv_ok lo ho (B.row k' ρ h).1
    · exact pv_ok lo ho h.1)
  rw [List.length_map] at this
  exact this
theorem vbinv_len {l : Line} (lo : l.ok) {r : Rule} (ho : r.ok) (n : Nat) : (bfsN (succV l r) (goneP r) (firstV l r) n).met.length ≤ pkMost := by
  have B := bfs_inv (succ := succV l r) (firstV_gone l r ho) n
  exact vjinv_len (b := ⟨_, [], _⟩) lo ho B (JInv.start B)
theorem muV_lt {l : Line} (lo : l.ok) {r : Rule} (ho : r.ok) {n : Nat} (h : (bfsN (succV l r) (goneP r) (firstV l r) n).lv ≠ []) : muP (bfsN (succV l r) (goneP r) (firstV l r) (n + 1)) < muP (bfsN (succV l r) (goneP r) (firstV l r) n) := by
  have h1 : (bfsN (succV l r) (goneP r) (firstV l r) (n + 1)).met.length = (bfsN (succV l r) (goneP r) (firstV l r) n).met.length + (bfsN (succV l r) (goneP r) (firstV l r) (n + 1)).lv.length := step_len _
  have h2 := vbinv_len lo ho (n + 1)
  unfold muP
  rw [if_neg h]
  split
  · rename_i e
    rw [e] at h1
    have h1' : (bfsN (succV l r) (goneP r) (firstV l r) (n + 1)).met.length = (bfsN (succV l r) (goneP r) (firstV l r) n).met.length + 0 := h1
    omega
  · rename_i e
    have h3 : 0 < (bfsN (succV l r) (goneP r) (firstV l r) (n + 1)).lv.length := List.length_pos_iff.mpr e
    omega
def spLMoves (K : PySem.W.Frag) : Sp := fun vs H Q _ => ∃ (lp : Addr) (v : V) (l : Line) (s : LS), vs = [.ref lp, v] ∧ SqT K H lp l.vs ∧ l.ok ∧ Dp K H v (lsD s) ∧ VSok l s ∧
  ∀ p H' xs, Same H H' → H p = none → H' p = some (.lst xs) → DpAll K H' xs ((movesV l s).map mvD) → Q (.ref p) H'
def WrN : Option (List Int) → Nat → Prop
  | none, n => n = 0
  | some ρ, n => n = ρ.length ∧ 1 ≤ n
def trueK (ks : List PK) : List (NK × V) := ks.map fun k => (pkK k, V.bl true)
def spStand (P : Program) (w : World) (K : PySem.W.Frag) : Sp := fun vs H Q _ => ∃ (lp q : Addr) (l : Line) (r : Rule), vs = [.ref lp, .ref q] ∧ SqT K H lp l.vs ∧ l.ok ∧ SqT K H q r.vs ∧ r.ok ∧
  ∀ (p : Addr) (H' : Hp) (mt : Addr) (n : Nat) (b : BS PK), Same H H' → endV l r b → Nd P w K H' mt (trueK (b.met.map (·.1))) → WrN b.wr n → H' p = some (.tup [.int n, .ref mt]) → H mt = none → Q (.ref p) H'
/-- while a level is gone through -/
structure AVt (P : Program) (w : World) (K : PySem.W.Frag) (H0 H : Hp) (mt lvp bh : Addr) (zs : List V) (lv0 ks : List PK) (ys : List V) (lv : List PK) : Prop where
  same : Same H0 H
  met : Nd P w K H mt (trueK ks)
  lvl : H lvp = some (.lst zs)
  lvD : DpAll K H zs (lv0.map pkD)
  beh : H bh = some (.lst ys)
  behD : DpAll K H ys (lv.map pkD)
theorem AVt.more {P : Program} {w : World} {K : PySem.W.Frag} {H0 H H' : Hp} {mt lvp bh : Addr} {zs : List V} {lv0 ks : List PK} {ys : List V} {lv : List PK} (h : AVt P w K H0 H mt lvp bh zs lv0 ks ys lv) (s : Same H H') : AVt P w K H0 H' mt lvp bh zs lv0 ks ys lv :=
  ⟨h.same.trans s, h.met.same s, s _ _ h.lvl, DpAll.same s h.lvD, s _ _ h.beh, DpAll.same s h.behD⟩
theorem trueK_val {ks : List PK} {k : PK} : (valV (trueK ks) (pkK k)).isSome = decide (k ∈ ks) := by
  induction ks with
  | nil => rfl
  | cons m ks ih =>
    by_cases e : m = k
    · have h1 : valV (trueK (m :: ks)) (pkK k) = some (.bl true) := valV_pos (p := (pkK m, V.bl true)) (congrArg pkK e)
      rw [h1]
      exact (decide_eq_true (List.mem_cons.mpr (.inl e.symm))).symm
    · have h1 : valV (trueK (m :: ks)) (pkK k) = valV (trueK ks) (pkK k) := valV_neg (p := (pkK m, V.bl true)) (fun z => e (pkK_inj z))
      rw [h1, ih]
      refine decide_eq_decide.mpr ?_
      rw [List.mem_cons]
      exact ⟨.inr, fun h => h.resolve_left (fun z => e z.symm)⟩
theorem trueK_put {ks : List PK} {k : PK} (h : k ∉ ks) : putK (trueK ks) (pkK k) (V.bl true) = trueK (ks ++ [k]) := by
  unfold trueK
  rw [putK_set pkK (fun a b => pkK_inj) (V.bl true) ks k]
  unfold addS
  rw [if_neg h]
theorem may_prefix {l : Line} (he : 1 ≤ l.each) {u x : List Int} (h : MayH l (u ++ x) []) : MayH l u [] := by
  obtain ⟨t, ht⟩ := (path_may he (u ++ x)).mpr h
  obtain ⟨s1, h1, _⟩ := (path_app l t x u _).mp ht
  exact (path_may he u).mp ⟨s1, h1⟩
theorem FRow.told {l : Line} (he : 1 ≤ l.each) {r : Rule} {o : Option (List Int)} (h : FRow l r o) {ρ : List Int} (e : o = some ρ) (h1 : 1 ≤ ρ.length) : toldOf r ρ = List.replicate (ρ.length - 1) false ++ [true] := by
  obtain ⟨g1, g2, g3⟩ := h.yes ρ e
  refine List.ext_getElem? fun i => ?_
  unfold toldOf
  rw [List.getElem?_map]
  by_cases hi : i < ρ.length
  · rw [List.getElem?_range hi]
    by_cases hl : i + 1 < ρ.length
    · rw [List.getElem?_append_left (by rw [List.length_replicate]; omega), List.getElem?_replicate, if_pos (by omega)]
      show some (goneH r (ρ.take (i + 1))) = some false
      congr 1
      cases hg : goneH r (ρ.take (i + 1)) with
      | false => rfl
      | true =>
        have h2 : MayH l (ρ.take (i + 1)) [] := may_prefix he (x := ρ.drop (i + 1)) (by rw [List.take_append_drop]; exact g1)
        have h3 := g3 _ h2 hg
        rw [List.length_take] at h3
        omega
    · rw [List.getElem?_append_right (by rw [List.length_replicate]; omega), List.length_replicate]
      have e1 : i - (ρ.length - 1) = 0 := by omega
      rw [e1]
      show some (goneH r (ρ.take (i + 1))) = some true
      rw [List.take_of_length_le (by omega), g2]
  · rw [List.getElem?_eq_none (by rw [List.length_range]; omega), List.getElem?_eq_none (by rw [List.length_append, List.length_replicate]; show ρ.length - 1 + 1 ≤ i; omega)]
    rfl
end Bw

set_option Elab.async false
set_option linter.all false
set_option maxRecDepth 100000
set_option maxHeartbeats 4000000
namespace Bw
open PySem PySem.Spec PyProof.Rows L2
/-! ### gone for the first time with the last moment -/
def FG (r : Rule) : List Int → List Int → Prop
  | _, [] => False
  | st, m :: v => if goneS r (nextS r st m) = true then v = [] else FG r (nextS r st m) v
theorem FG.uniq {r : Rule} : ∀ {x : List Int} {st v : List Int} {y : List Int}, FG r st v → FG r st x → v ++ y = x → v = x
  | x, st, [], y, h, _, _ => h.elim
  | [], st, m :: v, y, _, h', _ => h'.elim
  | a :: x, st, m :: v, y, h, h', e => by
    have e' : m :: (v ++ y) = a :: x := e
    injection e' with e1 e2
    subst e1
    unfold FG at h h'
    split at h
    · rename_i hg
      rw [if_pos hg] at h'
      rw [h, h']
    · rename_i hg
      rw [if_neg hg] at h'
      rw [FG.uniq h h' e2]
/-- two first tells along one row are one -/
theorem FG.same {r : Rule} {st x v v' y y' : List Int} (h : FG r st v) (h' : FG r st v') (e : v ++ y = x) (e' : v' ++ y' = x) : v = v' := by
  rcases List.append_eq_append_iff.mp (e.trans e'.symm) with ⟨a, h1, h2⟩ | ⟨a, h1, h2⟩
  · exact FG.uniq h h' h1.symm
  · exact (FG.uniq h' h h1.symm).symm
/-- it is told within d moments, whatever is heard -/
def Fin (l : Line) (r : Rule) : Nat → List Nat → List Int → Prop
  | 0, _, _ => False
  | d + 1, ages, kept => ∀ m left, (m, left) ∈ heardL l ages → goneS r (nextS r kept (m : Int)) = true ∨ Fin l r d left (nextS r kept (m : Int))
theorem fin_tells {l : Line} {r : Rule} : ∀ {d : Nat} {ages : List Nat} {kept v : List Int}, Fin l r d ages kept → AccG l ages v → d ≤ v.length → ∃ x y, v = x ++ y ∧ FG r kept x
  | 0, _, _, _, h, _, _ => h.elim
  | d + 1, ages, kept, [], _, _, hl => by simp at hl
  | d + 1, ages, kept, m :: v, h, ha, hl => by
    obtain ⟨c, left, hc, rfl, ha'⟩ := ha
    by_cases hg : goneS r (nextS r kept (c : Int)) = true
    · exact ⟨[(c : Int)], v, rfl, by unfold FG; rw [if_pos hg]⟩
    · obtain ⟨x, y, e, hx⟩ := fin_tells ((h c left hc).resolve_left hg) ha' (by simpa using hl)
      refine ⟨(c : Int) :: x, y, by rw [e]; rfl, ?_⟩
      unfold FG
      rw [if_neg hg]
      exact hx
/-! ### the most moments -/
def better (a : Option (Nat × List Int)) (x : Nat × List Int) : Option (Nat × List Int) := match a with
  | none => some x
  | some y => if x.1 > y.1 then some x else some y
def rowL (rec : List Nat → List Int → Nat × List Int) (r : Rule) (kept : List Int) (q : Nat × List Nat) : Nat × List Int :=
  if goneS r (nextS r kept (q.1 : Int)) = true then (0, [(q.1 : Int)]) else ((rec q.2 (nextS r kept (q.1 : Int))).1 + 1, (q.1 : Int) :: (rec q.2 (nextS r kept (q.1 : Int))).2)
def lng (l : Line) (r : Rule) : Nat → List Nat → List Int → Nat × List Int
  | 0, _, _ => (0, [])
  | d + 1, ages, kept => ((heardL l ages).foldl (fun a q => better a (rowL (lng l r d) r kept q)) none).getD (0, [])
theorem better_fold {α : Type} (f : α → Nat × List Int) : ∀ (L : List α) (a : Option (Nat × List Int)), (a ≠ none ∨ L ≠ []) → ∃ x, L.foldl (fun a q => better a (f q)) a = some x ∧ (a = some x ∨ ∃ q ∈ L, x = f q) ∧ (∀ y, a = some y → y.1 ≤ x.1) ∧ ∀ q ∈ L, (f q).1 ≤ x.1
  | [], a, h => by
    cases a with
    | none => exact absurd rfl (h.resolve_right (fun z => z rfl))
    | some y => exact ⟨y, rfl, .inl rfl, fun z e => by cases e; exact Nat.le_refl _, fun q hq => nomatch hq⟩
  | q :: L, a, h => by
    have hb : ∃ y, better a (f q) = some y ∧ (a = some y ∨ y = f q) ∧ (∀ z, a = some z → z.1 ≤ y.1) ∧ (f q).1 ≤ y.1 := by
      cases a with
      | none => exact ⟨f q, rfl, .inr rfl, fun z e => (nomatch e), Nat.le_refl _⟩
      | some y =>
        by_cases hg : (f q).1 > y.1
        · refine ⟨f q, if_pos hg, .inr rfl, fun z e => ?_, Nat.le_refl _⟩
          cases e
          omega
        · refine ⟨y, if_neg hg, .inl rfl, fun z e => ?_, by omega⟩
          cases e
          exact Nat.le_refl _
    obtain ⟨y, e1, e2, e3, e4⟩ := hb
    obtain ⟨x, g1, g2, g3, g4⟩ := better_fold f L (better a (f q)) (.inl (by rw [e1]; intro z; cases z))
    refine ⟨x, g1, ?_, fun z ez => ?_, fun p hp => ?_⟩
    · rcases g2 with g2 | ⟨p, hp, g2⟩
      · rw [e1] at g2
        cases g2
        rcases e2 with e2 | e2
        · exact .inl e2
        · exact .inr ⟨q, List.mem_cons_self, e2⟩
      · exact .inr ⟨p, List.mem_cons_of_mem _ hp, g2⟩
    · have h1 := e3 z ez
      have h2 := g3 y e1
      omega
    · rcases List.mem_cons.mp hp with rfl | hp
      · have h2 := g3 y e1
        omega
      · exact g4 p hp
theorem heardL_ne (l : Line) (ages : List Nat) : heardL l ages ≠ [] := fun e => by
  have h : (ages.length, (ages.drop ages.length).map (· + 1)) ∈ heardL l ages := heardL_mem.mpr ⟨Nat.le_refl _, fun a ha => (by rw [List.drop_length] at ha; cases ha), rfl⟩
  rw [e] at h
  cases h
structure LgOk (l : Line) (r : Rule) (ages : List Nat) (kept : List Int) (x : Nat × List Int) : Prop where
  len : x.2.length = x.1 + 1
  acc : AccG l ages x.2
  fg : FG r kept x.2
  most : ∀ v, AccG l ages v → FG r kept v → v.length ≤ x.1 + 1
theorem lng_ok {l : Line} {r : Rule} : ∀ {d : Nat} {ages : List Nat} {kept : List Int}, Fin l r d ages kept → LgOk l r ages kept (lng l r d ages kept)
  | 0, _, _, h => h.elim
  | d + 1, ages, kept, h => by
    obtain ⟨x, g1, g2, _, g4⟩ := better_fold (rowL (lng l r d) r kept) (heardL l ages) none (.inr (heardL_ne l ages))
    have e : lng l r (d + 1) ages kept = x := by
      show ((heardL l ages).foldl (fun a q => better a (rowL (lng l r d) r kept q)) none).getD (0, []) = x
      rw [g1]
      rfl
    rw [e]
    have row : ∀ q ∈ heardL l ages, (rowL (lng l r d) r kept q).2.length = (rowL (lng l r d) r kept q).1 + 1 ∧ AccG l ages (rowL (lng l r d) r kept q).2 ∧ FG r kept (rowL (lng l r d) r kept q).2 ∧ ∀ v, AccG l q.2 v → FG r kept ((q.1 : Int) :: v) → v.length ≤ (rowL (lng l r d) r kept q).1 := by
      rintro ⟨m, left⟩ hq
      unfold rowL
      split
      · rename_i hg
        have hg' : goneS r (nextS r kept (m : Int)) = true := hg
        refine ⟨rfl, ⟨m, left, hq, rfl, trivial⟩, by show FG r kept [(m : Int)]; unfold FG; rw [if_pos hg'], fun v _ hf => ?_⟩
        have hf' : FG r kept ((m : Int) :: v) := hf
        unfold FG at hf'
        rw [if_pos hg'] at hf'
        rw [hf']
        exact Nat.zero_le _
      · rename_i hg
        have hg' : ¬ goneS r (nextS r kept (m : Int)) = true := hg
        have L := lng_ok ((h m left hq).resolve_left hg')
        refine ⟨?_, ⟨m, left, hq, rfl, L.acc⟩, ?_, fun v hv hf => ?_⟩
        · show ((m : Int) :: (lng l r d left (nextS r kept (m : Int))).2).length = _
          rw [List.length_cons, L.len]
        · show FG r kept ((m : Int) :: (lng l r d left (nextS r kept (m : Int))).2)
          unfold FG
          rw [if_neg hg']
          exact L.fg
        · have hf' : FG r kept ((m : Int) :: v) := hf
          unfold FG at hf'
          rw [if_neg hg'] at hf'
          exact L.most v hv hf'
    rcases g2 with g2 | ⟨q, hq, rfl⟩
    · cases g2
    · obtain ⟨r1, r2, r3, _⟩ := row q hq
      refine ⟨r1, r2, r3, fun v hv hf => ?_⟩
      cases v with
      | nil => exact hf.elim
      | cons m v =>
        obtain ⟨c, left, hc, rfl, hv'⟩ := hv
        have h1 := (row (c, left) hc).2.2.2 v hv' hf
        have h2 := g4 (c, left) hc
        rw [List.length_cons]
        omega
theorem lng_stable {l : Line} {r : Rule} : ∀ {d : Nat} {ages : List Nat} {kept : List Int} {d' : Nat}, Fin l r d ages kept → d ≤ d' → lng l r d' ages kept = lng l r d ages kept
  | 0, _, _, _, h, _ => h.elim
  | d + 1, ages, kept, 0, _, hd => by omega
  | d + 1, ages, kept, d' + 1, h, hd => by
    show ((heardL l ages).foldl (fun a q => better a (rowL (lng l r d') r kept q)) none).getD (0, []) = ((heardL l ages).foldl (fun a q => better a (rowL (lng l r d) r kept q)) none).getD (0, [])
    congr 1
    have key : ∀ (L : List (Nat × List Nat)) (a : Option (Nat × List Int)), (∀ q ∈ L, q ∈ heardL l ages) → L.foldl (fun a q => better a (rowL (lng l r d') r kept q)) a = L.foldl (fun a q => better a (rowL (lng l r d) r kept q)) a := by
      intro L
      induction L with
      | nil => intro a _; rfl
      | cons q L ih =>
        intro a hL
        have hq := hL q List.mem_cons_self
        have e : rowL (lng l r d') r kept q = rowL (lng l r d) r kept q := by
          unfold rowL
          split
          · rfl
          · rename_i hg
            rw [lng_stable ((h q.1 q.2 hq).resolve_left hg) (show d ≤ d' by omega)]
        show L.foldl _ (better a (rowL (lng l r d') r kept q)) = L.foldl _ (better a (rowL (lng l r d) r kept q))
        rw [e]
        exact ih _ fun x hx => hL x (List.mem_cons_of_mem _ hx)
    exact key _ _ fun q hq => hq
/-! ### it ends -/
structure AgOk (l : Line) (ages : List Nat) : Prop where
  ge : ∀ a ∈ ages, 1 ≤ a
  le : ∀ a ∈ ages, a ≤ l.late
  desc : ages.Pairwise (· > ·)
theorem LSok.ag {l : Line} {s : LS} (h : LSok l s) : AgOk l s.ages := ⟨h.ge, h.le, h.desc⟩
theorem AgOk.len {l : Line} {ages : List Nat} (h : AgOk l ages) : ages.length ≤ l.late := desc_len h.desc h.ge h.le
theorem AgOk.next {l : Line} {ages left : List Nat} {m : Nat} (h : AgOk l ages) (hm : (m, left) ∈ heardL l ages) : AgOk l left ∧ m ≤ ages.length := by
  obtain ⟨h1, h2, rfl⟩ := heardL_mem.mp hm
  refine ⟨⟨fun a ha => ?_, fun a ha => ?_, ?_⟩, h1⟩
  · obtain ⟨b, _, rfl⟩ := List.mem_map.mp ha
    exact Nat.succ_le_succ (Nat.zero_le _)
  · obtain ⟨b, hb, rfl⟩ := List.mem_map.mp ha
    exact h2 b hb
  · exact List.Pairwise.map _ (fun a b h => Nat.succ_lt_succ h) (h.desc.sublist (List.drop_sublist _ _))
theorem KpOk.next {r : Rule} (ho : r.ok) {st : List Int} (h : KpOk r st) {m : Int} (h0 : 0 ≤ m) (h4 : m ≤ 4) : KpOk r (nextS r st m) := by
  cases r with
  | since n =>
    have hh : 1 ≤ n ∧ n ≤ 12 := ho
    obtain ⟨z, rfl⟩ := h.st
    have hz := h.small z List.mem_cons_self
    show KpOk (.since n) (if m > 0 then [0] else [if z + 1 < (n : Int) then z + 1 else (n : Int)])
    split
    · refine ⟨fun x hx => ?_, .inl ⟨n, rfl⟩, by simp, ⟨_, rfl⟩⟩
      rcases List.mem_cons.mp hx with rfl | hx
      · omega
      · cases hx
    · refine ⟨fun x hx => ?_, .inl ⟨n, rfl⟩, by simp, ⟨_, rfl⟩⟩
      rcases List.mem_cons.mp hx with rfl | hx
      · split <;> omega
      · cases hx
  | few a b =>
    have hh : 1 ≤ a ∧ a ≤ 5 ∧ 1 ≤ b ∧ b ≤ 3 := ho
    have hs : st.length ≤ a := h.st
    have hmem : ∀ x ∈ lastN a (st ++ [m]), x ∈ st ++ [m] := fun x hx => by
      unfold lastN at hx
      exact List.mem_of_mem_drop hx
    have h5 : ∀ x ∈ st, x ≤ 4 := by
      rcases h.five with ⟨n, e⟩ | h5
      · cases e
      · exact h5
    have h6 : ∀ x ∈ lastN a (st ++ [m]), 0 ≤ x ∧ x ≤ 4 := fun x hx => by
      rcases List.mem_append.mp (hmem x hx) with hx | hx
      · exact ⟨(h.small x hx).1, h5 x hx⟩
      · rcases List.mem_cons.mp hx with rfl | hx
        · exact ⟨h0, h4⟩
        · cases hx
    show KpOk (.few a b) (lastN a (st ++ [m]))
    exact ⟨fun x hx => by have := h6 x hx; omega, .inr fun x hx => (h6 x hx).2, by rw [lastN_len]; omega, by show (lastN a (st ++ [m])).length ≤ a; rw [lastN_len]; omega⟩
/-- how many moments are silent at the end of what is kept -/
def tzS : Rule → List Int → Nat
  | .since _, st => (st.headD 0).toNat
  | .few _ _, st => quiet st
theorem quiet_zero {st : List Int} (h0 : ∀ m ∈ st, 0 ≤ m) (h : quiet st = st.length) : st.sum = 0 := by
  refine zero_sum fun m hm => ?_
  have h1 := (quiet_iff st.length st).mp (by omega)
  have h2 : lastN st.length st = st := by
    unfold lastN
    rw [Nat.sub_self]
    rfl
  rw [h2] at h1
  have h3 := List.filter_eq_nil_iff.mp h1.2 m hm
  have h4 := h0 m hm
  simp only [decide_eq_true_eq] at h3
  omega
theorem lastN_quiet (a : Nat) (st : List Int) : quiet (lastN a st) = min a (quiet st) := by
  have e : ∀ k, k ≤ quiet (lastN a st) ↔ k ≤ min a (quiet st) := by
    intro k
    rw [quiet_iff, lastN_len]
    have h2 : k ≤ a → k ≤ st.length → lastN k (lastN a st) = lastN k st := fun h1 h3 => by
      unfold lastN
      rw [List.drop_drop, List.length_drop]
      congr 1
      omega
    constructor
    · rintro ⟨h1, h3⟩
      rw [h2 (by omega) (by omega)] at h3
      have := (quiet_iff k st).mpr ⟨by omega, h3⟩
      omega
    · intro h
      have h3 := (quiet_iff k st).mp (by omega)
      refine ⟨by omega, ?_⟩
      rw [h2 (by omega) (by omega)]
      exact h3.2
  have h1 := (e (quiet (lastN a st))).mp (Nat.le_refl _)
  have h2 := (e (min a (quiet st))).mpr (Nat.le_refl _)
  omega
theorem tz_next {r : Rule} (ho : r.ok) {st : List Int} (h : KpOk r st) : r.wide ≤ tzS r (nextS r st 0) ∧ goneS r (nextS r st 0) = true ∨ tzS r (nextS r st 0) = tzS r st + 1 ∧ tzS r st + 1 < r.wide := by
  cases r with
  | since n =>
    have hh : 1 ≤ n ∧ n ≤ 12 := ho
    obtain ⟨z, rfl⟩ := h.st
    have hz := h.small z List.mem_cons_self
    have e : nextS (.since n) [z] 0 = [if z + 1 < (n : Int) then z + 1 else (n : Int)] := by
      show (if (0 : Int) > 0 then [(0 : Int)] else [if [z].headD 0 + 1 < (n : Int) then [z].headD 0 + 1 else (n : Int)]) = _
      rw [if_neg (by omega)]
      rfl
    rw [e]
    show n ≤ (if z + 1 < (n : Int) then z + 1 else (n : Int)).toNat ∧ decide ((n : Int) ≤ (if z + 1 < (n : Int) then z + 1 else (n : Int))) = true ∨ (if z + 1 < (n : Int) then z + 1 else (n : Int)).toNat = z.toNat + 1 ∧ z.toNat + 1 < n
    split
    · rename_i hlt
      exact .inr ⟨by omega, by omega⟩
    · exact .inl ⟨by omega, decide_eq_true (by omega)⟩
  | few a b =>
    have hh : 1 ≤ a ∧ a ≤ 5 ∧ 1 ≤ b ∧ b ≤ 3 := ho
    have hs : st.length ≤ a := h.st
    have hq : quiet (lastN a (st ++ [0])) = min a (quiet st + 1) := by
      rw [lastN_quiet, quiet_snoc, if_neg (by omega)]
    have hl := lastN_len a (st ++ [0])
    rw [List.length_append] at hl
    have hql := quiet_le st
    show a ≤ quiet (lastN a (st ++ [0])) ∧ (decide (((lastN a (st ++ [0])).length : Int) = (a : Int)) && decide ((lastN a (st ++ [0])).sum < (b : Int))) = true ∨ quiet (lastN a (st ++ [0])) = quiet st + 1 ∧ quiet st + 1 < a
    rw [hq]
    by_cases hc : quiet st + 1 < a
    · exact .inr ⟨by omega, hc⟩
    · refine .inl ⟨by omega, ?_⟩
      have hl1 : [(0 : Int)].length = 1 := rfl
      have hll : (lastN a (st ++ [0])).length = a := by omega
      have hz := quiet_zero (st := lastN a (st ++ [0])) (fun m hm => by
        have hm' : m ∈ st ++ [0] := by
          unfold lastN at hm
          exact List.mem_of_mem_drop hm
        rcases List.mem_append.mp hm' with hm' | hm'
        · exact (h.small m hm').1
        · rcases List.mem_cons.mp hm' with rfl | hm'
          · exact Int.le_refl _
          · cases hm') (by omega)
      rw [decide_eq_true (by omega), hz, decide_eq_true (by omega)]
      rfl
/-- the age of the youngest -/
def young (ages : List Nat) : Nat := ages.getLastD 0
def muL (l : Line) (r : Rule) (ages : List Nat) (kept : List Int) : Nat := if ages = [] then r.wide - tzS r kept else (l.late + 1 - young ages) + r.wide
theorem young_next {l : Line} {ages left : List Nat} {m : Nat} (hm : (m, left) ∈ heardL l ages) (hne : left ≠ []) : ages ≠ [] ∧ young left = young ages + 1 ∧ young ages < l.late := by
  obtain ⟨h1, h2, rfl⟩ := heardL_mem.mp hm
  have hd : ages.drop m ≠ [] := fun e => hne (by rw [e]; rfl)
  have ha : ages ≠ [] := fun e => hd (by rw [e, List.drop_nil])
  have e1 : (ages.drop m).getLast hd = ages.getLast ha := List.getLast_drop hd
  have e2 : young ages = ages.getLast ha := by
    unfold young
    rw [List.getLastD_eq_getLast?, List.getLast?_eq_some_getLast ha]
    rfl
  have e3 : young ((ages.drop m).map (· + 1)) = ages.getLast ha + 1 := by
    unfold young
    rw [List.getLastD_eq_getLast?, List.getLast?_map, List.getLast?_eq_some_getLast hd, e1]
    rfl
  refine ⟨ha, by rw [e3, e2], ?_⟩
  rw [e2, ← e1]
  exact h2 _ (List.getLast_mem hd)
theorem fin_of {l : Line} (lo : l.ok) {r : Rule} (ho : r.ok) : ∀ (d : Nat) (ages : List Nat) (kept : List Int), AgOk l ages → KpOk r kept → muL l r ages kept ≤ d → Fin l r (d + 1) ages kept := by
  have hw := wide_le r ho
  intro d
  induction d with
  | zero =>
    intro ages kept ha hk hm m left hh
    have hage : ages = [] := by
      cases ages with
      | nil => rfl
      | cons a t =>
        unfold muL at hm
        rw [if_neg (by intro z; cases z)] at hm
        omega
    subst hage
    unfold muL at hm
    rw [if_pos rfl] at hm
    obtain ⟨h1, _, h3⟩ := heardL_mem.mp hh
    have hm0 : m = 0 := Nat.le_zero.mp h1
    subst hm0
    rcases tz_next ho hk with ⟨_, hg⟩ | ⟨_, hlt⟩
    · exact .inl hg
    · omega
  | succ d ih =>
    intro ages kept ha hk hm m left hh
    obtain ⟨hn, hml⟩ := ha.next hh
    have hlen := ha.len
    have l3 := lo.l3
    have hk' := hk.next ho (m := (m : Int)) (by omega) (by omega)
    by_cases hg : goneS r (nextS r kept (m : Int)) = true
    · exact .inl hg
    refine .inr (ih left _ hn hk' ?_)
    unfold muL at hm ⊢
    by_cases hl : left = []
    · rw [if_pos hl]
      by_cases hage : ages = []
      · subst hage
        rw [if_pos rfl] at hm
        obtain ⟨h1, _, h3⟩ := heardL_mem.mp hh
        have hm0 : m = 0 := Nat.le_zero.mp h1
        subst hm0
        rcases tz_next ho hk with ⟨_, hg'⟩ | ⟨he, hlt⟩
        · exact absurd hg' hg
        · have he' : tzS r (nextS r kept ((0 : Nat) : Int)) = tzS r kept + 1 := he
          rw [he']
          omega
      · rw [if_neg hage] at hm
        have hy : young ages ≤ l.late := by
          unfold young
          cases hq : ages.getLast? with
          | none => exact absurd (List.getLast?_eq_none_iff.mp hq) hage
          | some y =>
            rw [List.getLastD_eq_getLast?, hq]
            exact ha.le y (List.mem_of_getLast? hq)
        omega
    · rw [if_neg hl]
      obtain ⟨h1, h2, h3⟩ := young_next hh hl
      rw [if_neg h1] at hm
      omega
theorem fin16 {l : Line} (lo : l.ok) {r : Rule} (ho : r.ok) {ages : List Nat} {kept : List Int} (ha : AgOk l ages) (hk : KpOk r kept) : Fin l r 16 ages kept := by
  refine fin_of lo ho 15 ages kept ha hk ?_
  have hw := wide_le r ho
  have l3 := lo.l3
  unfold muL
  split
  · omega
  · rename_i hne
    have hy : 1 ≤ young ages := by
      unfold young
      cases hq : ages.getLast? with
      | none => exact absurd (List.getLast?_eq_none_iff.mp hq) hne
      | some y =>
        rw [List.getLastD_eq_getLast?, hq]
        exact ha.ge y (List.mem_of_getLast? hq)
    omega
/-- the most moments from here on, and what is heard in them -/
def LNG (l : Line) (r : Rule) (ages : List Nat) (kept : List Int) : Nat × List Int := lng l r 16 ages kept
theorem LNG_step {l : Line} (lo : l.ok) {r : Rule} (ho : r.ok) {ages : List Nat} {kept : List Int} (ha : AgOk l ages) (hk : KpOk r kept) : (heardL l ages).foldl (fun a q => better a (rowL (LNG l r) r kept q)) none = some (LNG l r ages kept) := by
  have hF := fin16 lo ho ha hk
  have e : lng l r 17 ages kept = lng l r 16 ages kept := lng_stable hF (by omega)
  obtain ⟨x, g1, _⟩ := better_fold (rowL (LNG l r) r kept) (heardL l ages) none (.inr (heardL_ne l ages))
  rw [g1]
  congr 1
  unfold LNG
  rw [← e]
  show x = ((heardL l ages).foldl (fun a q => better a (rowL (lng l r 16) r kept q)) none).getD (0, [])
  have g1' : (heardL l ages).foldl (fun a q => better a (rowL (lng l r 16) r kept q)) none = some x := g1
  rw [g1']
  rfl
theorem LNG_ok {l : Line} (lo : l.ok) {r : Rule} (ho : r.ok) {ages : List Nat} {kept : List Int} (ha : AgOk l ages) (hk : KpOk r kept) : LgOk l r ages kept (LNG l r ages kept) := lng_ok (fin16 lo ho ha hk)
theorem LNG_le {l : Line} (lo : l.ok) {r : Rule} (ho : r.ok) {ages : List Nat} {kept : List Int} (ha : AgOk l ages) (hk : KpOk r kept) : (LNG l r ages kept).1 ≤ 15 := by
  have L := LNG_ok lo ho ha hk
  have hF := fin16 lo ho ha hk
  by_cases h : 16 ≤ (LNG l r ages kept).2.length
  · have hl := L.len
    have hacc := L.acc
    have hfg := L.fg
    have e : (LNG l r ages kept).2 = (LNG l r ages kept).2.take 16 ++ (LNG l r ages kept).2.drop 16 := (List.take_append_drop _ _).symm
    have acc_take : ∀ (n : Nat) (v : List Int) (ages : List Nat), AccG l ages v → AccG l ages (v.take n) := by
      intro n
      induction n with
      | zero => intro v ages _; rw [List.take_zero]; trivial
      | succ n ih =>
        intro v ages h
        cases v with
        | nil => trivial
        | cons m v =>
          obtain ⟨c, left, h1, h2, h3⟩ := h
          exact ⟨c, left, h1, h2, ih v left h3⟩
    obtain ⟨x, y, e1, hx⟩ := fin_tells hF (acc_take 16 _ _ hacc) (by rw [List.length_take]; omega)
    have e2 : x ++ (y ++ (LNG l r ages kept).2.drop 16) = (LNG l r ages kept).2 := by
      rw [← List.append_assoc, ← e1]
      exact e.symm
    have e3 := FG.uniq hx hfg e2
    have h5 : x.length ≤ 16 := by
      have := congrArg List.length e1
      rw [List.length_take, List.length_append] at this
      omega
    rw [e3] at h5
    omega
  · have hl := L.len
    omega
/-! ### how late at the latest -/
def bst (l : Line) (r : Rule) (a : Option (Nat × Nat × List Int)) (p : PK × List Int) : Option (Nat × Nat × List Int) := match a with
  | none => some ((LNG l r p.1.1.ages p.1.2).1, p.2.length, p.2 ++ (LNG l r p.1.1.ages p.1.2).2)
  | some y => if (LNG l r p.1.1.ages p.1.2).1 > y.1 then some ((LNG l r p.1.1.ages p.1.2).1, p.2.length, p.2 ++ (LNG l r p.1.1.ages p.1.2).2) else some y
structure LtOk (l : Line) (r : Rule) (x : Nat × Nat × List Int) : Prop where
  len : x.2.2.length = x.2.1 + x.1 + 1
  may : MayH l (x.2.2.take x.2.1) (x.2.2.drop x.2.1)
  fg : FG r (stOf r (x.2.2.take x.2.1)) (x.2.2.drop x.2.1)
  most : ∀ u v, MayH l u v → FG r (stOf r u) v → v.length ≤ x.1 + 1
  short : x.2.1 ≤ 1512 ∧ x.1 ≤ 15
theorem bst_fold (l : Line) (r : Rule) : ∀ (L : List (PK × List Int)) (a : Option (Nat × Nat × List Int)), (a ≠ none ∨ L ≠ []) → ∃ x, L.foldl (bst l r) a = some x ∧ (a = some x ∨ ∃ p ∈ L, x = ((LNG l r p.1.1.ages p.1.2).1, p.2.length, p.2 ++ (LNG l r p.1.1.ages p.1.2).2)) ∧ (∀ y, a = some y → y.1 ≤ x.1) ∧ ∀ p ∈ L, (LNG l r p.1.1.ages p.1.2).1 ≤ x.1
  | [], a, h => by
    cases a with
    | none => exact absurd rfl (h.resolve_right (fun z => z rfl))
    | some y => exact ⟨y, rfl, .inl rfl, fun z e => by cases e; exact Nat.le_refl _, fun q hq => nomatch hq⟩
  | q :: L, a, h => by
    have hb : ∃ y, bst l r a q = some y ∧ (a = some y ∨ y = ((LNG l r q.1.1.ages q.1.2).1, q.2.length, q.2 ++ (LNG l r q.1.1.ages q.1.2).2)) ∧ (∀ z, a = some z → z.1 ≤ y.1) ∧ (LNG l r q.1.1.ages q.1.2).1 ≤ y.1 := by
      cases a with
      | none => exact ⟨_, rfl, .inr rfl, fun z e => (nomatch e), Nat.le_refl _⟩
      | some y =>
        by_cases hg : (LNG l r q.1.1.ages q.1.2).1 > y.1
        · refine ⟨_, if_pos hg, .inr rfl, fun z e => ?_, Nat.le_refl _⟩
          cases e
          show y.1 ≤ (LNG l r q.1.1.ages q.1.2).1
          omega
        · refine ⟨y, if_neg hg, .inl rfl, fun z e => ?_, by omega⟩
          cases e
          exact Nat.le_refl _
    obtain ⟨y, e1, e2, e3, e4⟩ := hb
    obtain ⟨x, g1, g2, g3, g4⟩ := bst_fold l r L (bst l r a q) (.inl (by rw [e1]; intro z; cases z))
    refine ⟨x, g1, ?_, fun z ez => ?_, fun p hp => ?_⟩
    · rcases g2 with g2 | ⟨p, hp, g2⟩
      · rw [e1] at g2
        cases g2
        rcases e2 with e2 | e2
        · exact .inl e2
        · exact .inr ⟨q, List.mem_cons_self, e2⟩
      · exact .inr ⟨p, List.mem_cons_of_mem _ hp, g2⟩
    · have h1 := e3 z ez
      have h2 := g3 y e1
      omega
    · rcases List.mem_cons.mp hp with rfl | hp
      · have h2 := g3 y e1
        omega
      · exact g4 p hp
/-- what latest tells -/
def LT (l : Line) (r : Rule) (x : Nat × Nat × List Int) : Prop := ∃ b, endP l r b ∧ b.met.foldl (bst l r) none = some x
theorem LT.uniq {l : Line} {r : Rule} {x y : Nat × Nat × List Int} (h : LT l r x) (h' : LT l r y) : x = y := by
  obtain ⟨b, h1, h2⟩ := h
  obtain ⟨b', h3, h4⟩ := h'
  have e := BEnd.uniq h1 h3
  subst e
  rw [h2] at h4
  exact Option.some.inj h4
theorem bfs_row_short {l : Line} (lo : l.ok) {r : Rule} (ho : r.ok) {b : BS PK} (h : endP l r b) {k : PK} {ρ : List Int} (hm : (k, ρ) ∈ b.met) : ρ.length ≤ 1512 := by
  have R := BEnd.res (firstP_gone r ho) h
  obtain ⟨w', h1, h2⟩ := pk_short lo ho (R.row k ρ hm)
  obtain ⟨ρ', h3, h4⟩ := R.all w' k h1
  have e := rowOf_mem R.nd hm
  have e' := rowOf_mem R.nd h3
  rw [e] at e'
  rw [e']
  omega
theorem LT.ok {l : Line} (lo : l.ok) {r : Rule} (ho : r.ok) {x : Nat × Nat × List Int} (h : LT l r x) : LtOk l r x := by
  obtain ⟨b, hE, hx⟩ := h
  have R := BEnd.res (firstP_gone r ho) hE
  have hne : b.met ≠ [] := fun e => by
    rw [e] at hx
    cases hx
  obtain ⟨x', g1, g2, _, g4⟩ := bst_fold l r b.met none (.inr hne)
  rw [hx] at g1
  cases g1
  rcases g2 with g2 | ⟨⟨k, ρ⟩, hp, rfl⟩
  · cases g2
  · have hpk := R.row k ρ hp
    obtain ⟨okS, okK⟩ := pk_ok lo ho hpk
    obtain ⟨hpl, hst⟩ := (pathP_first l r ρ k).mp hpk
    have L := LNG_ok lo ho okS.ag okK
    refine ⟨?_, ?_, ?_, fun u v hm hf => ?_, ?_⟩
    · show (ρ ++ (LNG l r k.1.ages k.2).2).length = ρ.length + (LNG l r k.1.ages k.2).1 + 1
      rw [List.length_append, L.len]
      omega
    · show MayH l ((ρ ++ (LNG l r k.1.ages k.2).2).take ρ.length) ((ρ ++ (LNG l r k.1.ages k.2).2).drop ρ.length)
      rw [List.take_left, List.drop_left]
      exact (fifo_may l lo.e1 _ _).mp ((accF_path l _ _ _).mpr ⟨k.1, hpl, L.acc⟩)
    · show FG r (stOf r ((ρ ++ (LNG l r k.1.ages k.2).2).take ρ.length)) ((ρ ++ (LNG l r k.1.ages k.2).2).drop ρ.length)
      rw [List.take_left, List.drop_left, ← hst]
      exact L.fg
    · obtain ⟨t, h1, h2⟩ := (accF_path l v u _).mp ((fifo_may l lo.e1 u v).mpr hm)
      obtain ⟨ρ', h3, _⟩ := R.all u (t, stOf r u) ((pathP_first l r u _).mpr ⟨h1, rfl⟩)
      obtain ⟨okS', okK'⟩ := pk_ok lo ho ((pathP_first l r u (t, stOf r u)).mpr ⟨h1, rfl⟩)
      have h4 : v.length ≤ (LNG l r t.ages (stOf r u)).1 + 1 := (LNG_ok lo ho okS'.ag okK').most v h2 hf
      have h5 := g4 _ h3
      have h5' : (LNG l r t.ages (stOf r u)).1 ≤ (LNG l r k.1.ages k.2).1 := h5
      show v.length ≤ (LNG l r k.1.ages k.2).1 + 1
      omega
    · exact ⟨bfs_row_short lo ho hE hp, LNG_le lo ho okS.ag okK⟩
end Bw

set_option Elab.async false
set_option linter.all false
set_option maxRecDepth 100000
set_option maxHeartbeats 4000000
namespace Bw
open PySem PySem.Spec PyProof.Rows L2
/-! ### Late's object -/
theorem slr : ¬ (("line" : Str) = "rule") := by decide +kernel
theorem slk : ¬ (("line" : Str) = "known") := by decide +kernel
theorem srk : ¬ (("rule" : Str) = "known") := by decide +kernel
def lF (lp q kd : Addr) : List (Str × V) := [("line", .ref lp), ("rule", .ref q), ("known", .ref kd)]
theorem lF_line (lp q kd : Addr) : (lF lp q kd).lookup ("line" : Str) = some (.ref lp) := by simp [lF, List.lookup]
theorem lF_rule (lp q kd : Addr) : (lF lp q kd).lookup ("rule" : Str) = some (.ref q) := by
  have h : (("rule" : Str) == "line") = false := by decide +kernel
  simp [lF, List.lookup, h]
theorem lF_known (lp q kd : Addr) : (lF lp q kd).lookup ("known" : Str) = some (.ref kd) := by
  have h : (("known" : Str) == "line") = false := by decide +kernel
  have h2 : (("known" : Str) == "rule") = false := by decide +kernel
  simp [lF, List.lookup, h, h2]
theorem lF_no (lp q kd : Addr) {m : Str} (h1 : (m == ("line" : Str)) = false) (h2 : (m == ("rule" : Str)) = false) (h3 : (m == ("known" : Str)) = false) : (lF lp q kd).lookup m = none := by simp [lF, List.lookup, h1, h2, h3]
theorem lF_new (lp q kd : Addr) : putF "known" (.ref kd) (putF "rule" (.ref q) (putF "line" (.ref lp) [])) = lF lp q kd := by
  have e1 : putF "rule" (.ref q) (putF "line" (.ref lp) []) = ([(("line" : Str), V.ref lp), (("rule" : Str), V.ref q)] : List (Str × V)) := by
    show (if ("line" : Str) = "rule" then _ else (("line" : Str), V.ref lp) :: putF "rule" (.ref q) []) = _
    rw [if_neg slr]
    rfl
  rw [e1]
  show (if ("line" : Str) = "known" then _ else (("line" : Str), V.ref lp) :: (if ("rule" : Str) = "known" then _ else (("rule" : Str), V.ref q) :: putF "known" (.ref kd) [])) = _
  rw [if_neg slk, if_neg srk]
  rfl
structure LTxt (K : PySem.W.Frag) (C : Addr) : Prop where
  cl : Cls K C
  nL : NoAttr K C "line"
  nR : NoAttr K C "rule"
  nK : NoAttr K C "known"
/-! ### what is known -/
abbrev LK := List Nat × List Int
def lkK (k : LK) : NK := .tup [intsK (nI k.1), intsK k.2]
def lkD (k : LK) : PyData := .tuple [intsD (nI k.1), intsD k.2]
theorem lkK_data (k : LK) : (lkK k).data = lkD k := by
  show PyData.tuple [(intsK (nI k.1)).data, (intsK k.2).data] = _
  rw [intsK_data, intsK_data]
  rfl
theorem lkK_depth (k : LK) : (lkK k).depth ≤ 2 := by
  show max (intsK (nI k.1)).depth (max (intsK k.2).depth 0) + 1 ≤ 2
  have := intsK_depth (nI k.1)
  have := intsK_depth k.2
  omega
theorem lkK_inj {s t : LK} (h : lkK s = lkK t) : s = t := by
  injection h with h
  injection h with h1 h2
  injection h2 with h2 _
  exact Prod.ext (nI_inj (intsK_inj h1)) (intsK_inj h2)
theorem lkD_noL (k : LK) : NoL (lkD k) := .tuple _ fun d hd => by
  rcases List.mem_cons.mp hd with rfl | hd
  · exact intsD_noL _
  rcases List.mem_cons.mp hd with rfl | hd
  · exact intsD_noL _
  · cases hd
section
variable {K : PySem.W.Frag} {H : Hp}
theorem lk_mk {a x b : Addr} {k : LK} (h1 : SqT K H a [.ref x, .ref b]) (h2 : SqT K H x ((nI k.1).map V.int)) (h3 : SqT K H b (k.2.map V.int)) : Dp K H (.ref a) (lkD k) := .tup h1 (.cons (ints_dp h2) (.cons (ints_dp h3) .nil))
theorem lk_key {a x b : Addr} {k : LK} (h1 : SqT K H a [.ref x, .ref b]) (h2 : SqT K H x ((nI k.1).map V.int)) (h3 : SqT K H b (k.2.map V.int)) : KeyV K H (.ref a) (lkK k) := by
  refine ⟨⟨a, rfl⟩, by rw [lkK_data]; exact lk_mk h1 h2 h3, ?_⟩
  have := lkK_depth k
  omega
end
/-- (how many, what is heard), a tuple of a number and a list -/
def LvAt (H : Hp) (t : Addr) (x : Nat × List Int) : Prop := ∃ p, H t = some (.tup [.int x.1, .ref p]) ∧ H p = some (.lst (x.2.map V.int))
/-- none yet, or a row found -/
def FvAt (H : Hp) (fv : V) : Option (Nat × List Int) → Prop
  | none => fv = .non
  | some y => ∃ t, fv = .ref t ∧ LvAt H t y
/-- all but what stands at kd stays -/
def KB (kd : Addr) (H H' : Hp) : Prop := ∀ b o, b ≠ kd → H b = some o → H' b = some o
theorem KB.refl (kd : Addr) (H : Hp) : KB kd H H := fun _ _ _ e => e
theorem KB.trans {kd : Addr} {H H1 H2 : Hp} (a : KB kd H H1) (b : KB kd H1 H2) : KB kd H H2 := fun c o n e => b c o n (a c o n e)
theorem KB.same {kd : Addr} {H H' : Hp} (s : Same H H') : KB kd H H' := fun b o _ e => s b o e
theorem KB.upd {kd : Addr} {H H' : Hp} {o : HO} (a : KB kd H H') : KB kd H (upd H' kd o) := fun b u n e => by
  rw [upd_ne n]
  exact a b u n e
theorem KB.tk {kd : Addr} {H H' : Hp} {o : HO} (a : KB kd H H') (h : H kd = some o) (n : NotT o) : TK H H' := by
  refine ⟨fun b xs e => a b _ (ne_of e h (by intro z; subst z; exact n)) e, fun b q u e => a b _ (ne_of e h (by intro z; subst z; exact n)) e⟩
theorem LvAt.kb {kd : Addr} {H H' : Hp} {ob : Obj} {t : Addr} {x : Nat × List Int} (h : LvAt H t x) (a : KB kd H H') (hk : H kd = some (PinO kd ob)) : LvAt H' t x := by
  obtain ⟨p, h1, h2⟩ := h
  exact ⟨p, a _ _ (ne_of h1 hk (by intro z; cases z)) h1, a _ _ (ne_of h2 hk (by intro z; cases z)) h2⟩
theorem LvAt.same {H H' : Hp} {t : Addr} {x : Nat × List Int} (h : LvAt H t x) (s : Same H H') : LvAt H' t x := by
  obtain ⟨p, h1, h2⟩ := h
  exact ⟨p, s _ _ h1, s _ _ h2⟩
abbrev ES := List (LK × Addr)
def esK (es : ES) : List (NK × V) := es.map fun e => (lkK e.1, V.ref e.2)
structure KnAt (P : Program) (w : World) (K : PySem.W.Frag) (l : Line) (r : Rule) (H : Hp) (kd : Addr) (es : ES) : Prop where
  nd : Nd P w K H kd (esK es)
  val : ∀ e ∈ es, LvAt H e.2 (LNG l r e.1.1 e.1.2)
  ok : ∀ e ∈ es, AgOk l e.1.1 ∧ KpOk r e.1.2
def Kn (P : Program) (w : World) (K : PySem.W.Frag) (l : Line) (r : Rule) (H : Hp) (kd : Addr) : Prop := ∃ es, KnAt P w K l r H kd es
section
variable {P : Program} {w : World} {K : PySem.W.Frag} {l : Line} {r : Rule} {H H' : Hp} {kd : Addr} {es : ES}
theorem KnAt.same (h : KnAt P w K l r H kd es) (s : Same H H') : KnAt P w K l r H' kd es := ⟨h.nd.same s, fun e he => (h.val e he).same s, h.ok⟩
theorem Kn.same (h : Kn P w K l r H kd) (s : Same H H') : Kn P w K l r H' kd := let ⟨es, h⟩ := h; ⟨es, h.same s⟩
theorem KnAt.nodup (h : KnAt P w K l r H kd es) : (es.map (·.1)).Nodup := by
  obtain ⟨o, n⟩ := h.nd
  have := n.nodup
  unfold esK at this
  rw [List.map_map] at this
  exact List.pairwise_map.mpr (List.Pairwise.of_map _ (fun a b h e => h (by show lkK a.1 = lkK b.1; rw [e])) this)
theorem es_val {es : ES} {k : LK} {t : Addr} (hn : (es.map (·.1)).Nodup) (h : (k, t) ∈ es) : valV (esK es) (lkK k) = some (.ref t) := by
  induction es with
  | nil => cases h
  | cons m es ih =>
    rw [List.map_cons, List.nodup_cons] at hn
    by_cases e : m.1 = k
    · rcases List.mem_cons.mp h with h | h
      · subst h
        exact valV_pos (p := (lkK k, V.ref t)) rfl
      · exact absurd (List.mem_map.mpr ⟨(k, t), h, e.symm⟩) hn.1
    · rcases List.mem_cons.mp h with h | h
      · subst h
        exact absurd rfl e
      · have h1 : valV (esK (m :: es)) (lkK k) = valV (esK es) (lkK k) := valV_neg (p := (lkK m.1, V.ref m.2)) (fun z => e (lkK_inj z))
        rw [h1]
        exact ih hn.2 h
theorem es_some {es : ES} {k : LK} : (valV (esK es) (lkK k)).isSome = decide (k ∈ es.map (·.1)) := by
  induction es with
  | nil => rfl
  | cons m es ih =>
    by_cases e : m.1 = k
    · have h1 : valV (esK (m :: es)) (lkK k) = some (.ref m.2) := valV_pos (p := (lkK m.1, V.ref m.2)) (congrArg lkK e)
      rw [h1]
      exact (decide_eq_true (List.mem_map.mpr ⟨m, List.mem_cons_self, e⟩)).symm
    · have h1 : valV (esK (m :: es)) (lkK k) = valV (esK es) (lkK k) := valV_neg (p := (lkK m.1, V.ref m.2)) (fun z => e (lkK_inj z))
      rw [h1, ih]
      refine decide_eq_decide.mpr ?_
      rw [List.map_cons, List.mem_cons]
      exact ⟨.inr, fun h => h.resolve_left (fun z => e z.symm)⟩
/-- one more, or one anew -/
def putE (es : ES) (k : LK) (t : Addr) : ES := if k ∈ es.map (·.1) then es.map fun e => if e.1 = k then (e.1, t) else e else es ++ [(k, t)]
theorem putE_mem (es : ES) (k : LK) (t : Addr) : ∀ e ∈ putE es k t, e = (k, t) ∨ e ∈ es := by
  intro e he
  unfold putE at he
  split at he
  · obtain ⟨x, hx, rfl⟩ := List.mem_map.mp he
    split
    · rename_i h
      exact .inl (by rw [← h])
    · exact .inr hx
  · rcases List.mem_append.mp he with he | he
    · exact .inr he
    · rcases List.mem_cons.mp he with rfl | he
      · exact .inl rfl
      · cases he
theorem putE_in (es : ES) (k : LK) (t : Addr) : k ∈ (putE es k t).map (·.1) := by
  unfold putE
  split
  · rename_i h
    obtain ⟨x, hx, rfl⟩ := List.mem_map.mp h
    exact List.mem_map.mpr ⟨(x.1, t), List.mem_map.mpr ⟨x, hx, if_pos rfl⟩, rfl⟩
  · rw [List.map_append]
    exact List.mem_append_right _ List.mem_cons_self
theorem putE_K (es : ES) (k : LK) (t : Addr) : putK (esK es) (lkK k) (.ref t) = esK (putE es k t) := by
  have e : ((esK es).any fun kv => decide (kv.1 = lkK k)) = decide (k ∈ es.map (·.1)) := by
    rw [valV_any, es_some]
  unfold putK putE
  rw [e]
  by_cases h : k ∈ es.map (·.1)
  · rw [decide_eq_true h, if_pos rfl, if_pos h]
    unfold esK
    rw [List.map_map, List.map_map]
    refine List.map_congr_left fun a _ => ?_
    show (if lkK a.1 = lkK k then (lkK a.1, V.ref t) else (lkK a.1, V.ref a.2)) = (lkK (if a.1 = k then (a.1, t) else a).1, V.ref (if a.1 = k then (a.1, t) else a).2)
    by_cases e : a.1 = k
    · rw [if_pos (congrArg lkK e), if_pos e]
    · rw [if_neg (fun z => e (lkK_inj z)), if_neg e]
  · rw [decide_eq_false h, if_neg (by decide), if_neg h]
    unfold esK
    rw [List.map_append]
    rfl
end
def lkCode (k : LK) : Nat := codeL 5 k.1 * 7776 + codeL 6 (k.2.map Int.toNat)
def lkCodeS (k : LK) : Nat := codeL 5 k.1 * 13 + (k.2.headD 0).toNat
theorem lk_few {l : Line} (lo : l.ok) {r : Rule} (ho : r.ok) {ks : List LK} (hn : ks.Nodup) (h : ∀ k ∈ ks, AgOk l k.1 ∧ KpOk r k.2) : ks.length ≤ pkMost := by
  have l3 := lo.l3
  have digA : ∀ k ∈ ks, ∀ a ∈ k.1, a + 1 < 5 := fun k hk a ha => by
    have := (h k hk).1.le a ha
    omega
  have ltA : ∀ k ∈ ks, codeL 5 k.1 < 125 := fun k hk => codeL_lt (b := 5) (by omega) k.1 3 (by have := (h k hk).1.len; omega) (digA k hk)
  cases r with
  | since n =>
    refine Nat.le_trans (nodup_code (B := 125 * 13) lkCodeS hn (fun k hk => ?_) (fun k hk k' hk' e => ?_)) (by decide)
    · obtain ⟨h1, h2⟩ := h k hk
      have h3 := ltA k hk
      obtain ⟨z, hz⟩ := h2.st
      have h4 := h2.small z (by rw [hz]; exact List.mem_cons_self)
      unfold lkCodeS
      rw [hz]
      show codeL 5 k.1 * 13 + z.toNat < 125 * 13
      omega
    · obtain ⟨h1, h2⟩ := h k hk
      obtain ⟨g1, g2⟩ := h k' hk'
      obtain ⟨z, hz⟩ := h2.st
      obtain ⟨z', hz'⟩ := g2.st
      have h4 := h2.small z (by rw [hz]; exact List.mem_cons_self)
      have g4 := g2.small z' (by rw [hz']; exact List.mem_cons_self)
      unfold lkCodeS at e
      rw [hz, hz'] at e
      have e' : codeL 5 k.1 * 13 + z.toNat = codeL 5 k'.1 * 13 + z'.toNat := e
      have e1 : codeL 5 k.1 = codeL 5 k'.1 := by omega
      refine Prod.ext (codeL_inj (digA k hk) (digA k' hk') e1) ?_
      rw [hz, hz']
      congr 1
      omega
  | few a b =>
    have five : ∀ k ∈ ks, ∀ m ∈ k.2, 0 ≤ m ∧ m ≤ 4 := fun k hk m hm => by
      obtain ⟨h1, h2⟩ := h k hk
      refine ⟨(h2.small m hm).1, ?_⟩
      rcases h2.five with ⟨n, e⟩ | h5
      · cases e
      · exact h5 m hm
    have dig : ∀ k ∈ ks, ∀ x ∈ k.2.map Int.toNat, x + 1 < 6 := fun k hk x hx => by
      obtain ⟨m, hm, rfl⟩ := List.mem_map.mp hx
      have := five k hk m hm
      omega
    have lt : ∀ k ∈ ks, codeL 6 (k.2.map Int.toNat) < 7776 := fun k hk => codeL_lt (b := 6) (by omega) _ 5 (by rw [List.length_map]; exact (h k hk).2.len) (dig k hk)
    refine nodup_code (B := pkMost) lkCode hn (fun k hk => ?_) (fun k hk k' hk' e => ?_)
    · have h3 := ltA k hk
      have h4 := lt k hk
      unfold lkCode
      show _ < 11664000
      omega
    · have h4 := lt k hk
      have h5 := lt k' hk'
      unfold lkCode at e
      have e1 : codeL 5 k.1 = codeL 5 k'.1 := by omega
      have e2 : codeL 6 (k.2.map Int.toNat) = codeL 6 (k'.2.map Int.toNat) := by omega
      refine Prod.ext (codeL_inj (digA k hk) (digA k' hk') e1) ?_
      exact toNat_inj (fun m hm => (five k hk m hm).1) (fun m hm => (five k' hk' m hm).1) (codeL_inj (dig k hk) (dig k' hk') e2)
def spLInit (P : Program) (w : World) (K : PySem.W.Frag) (C : Addr) : Sp := fun vs H Q _ => ∃ (x lp q dx : Addr), vs = [.ref x, .ref lp, .ref q] ∧ H x = some (.ins C dx []) ∧
  ∀ H' kd, H' x = some (.ins C dx (lF lp q kd)) → Nd P w K H' kd [] → H kd = none → (∀ b o, b ≠ x → H b = some o → H' b = some o) → Q .non H'
def spLongN (P : Program) (w : World) (K : PySem.W.Frag) (C : Addr) : Nat → Sp
  | 0 => fun _ _ _ _ => False
  | n + 1 => fun vs H Q _ => ∃ (x ab kb dx lp q kd : Addr) (l : Line) (r : Rule) (ages : List Nat) (kept : List Int), vs = [.ref x, .ref ab, .ref kb] ∧ H x = some (.ins C dx (lF lp q kd)) ∧ SqT K H lp l.vs ∧ l.ok ∧ SqT K H q r.vs ∧ r.ok ∧ Kn P w K l r H kd ∧
    SqT K H ab ((nI ages).map V.int) ∧ AgOk l ages ∧ SqT K H kb (kept.map V.int) ∧ KpOk r kept ∧ Fin l r (n + 1) ages kept ∧
    ∀ t H', KB kd H H' → Kn P w K l r H' kd → LvAt H' t (LNG l r ages kept) → Q (.ref t) H'
def spLatest (K : PySem.W.Frag) : Sp := fun vs H Q _ => ∃ (lp q : Addr) (l : Line) (r : Rule), vs = [.ref lp, .ref q] ∧ SqT K H lp l.vs ∧ l.ok ∧ SqT K H q r.vs ∧ r.ok ∧
  ∀ (p hp : Addr) (H' : Hp) (x : Nat × Nat × List Int), Same H H' → LT l r x → H' p = some (.tup [.int x.1, .int x.2.1, .ref hp]) → H' hp = some (.lst (x.2.2.map V.int)) → H hp = none → H p = none → Q (.ref p) H'
def bstT (n : Nat) : Option (Nat × Nat × List Int) → Bool
  | none => true
  | some y => decide (n > y.1)
/-- none yet, or the best yet; it stands where nothing stood in H0 -/
def BvAt (H0 H : Hp) (v : V) : Option (Nat × Nat × List Int) → Prop
  | none => v = .non
  | some y => ∃ t p, v = .ref t ∧ H t = some (.tup [.int y.1, .int y.2.1, .ref p]) ∧ H p = some (.lst (y.2.2.map V.int)) ∧ H0 t = none ∧ H0 p = none
theorem BvAt.kb {kd : Addr} {H0 H H' : Hp} {ob : Obj} {v : V} {o : Option (Nat × Nat × List Int)} (h : BvAt H0 H v o) (a : KB kd H H') (hk : H kd = some (PinO kd ob)) : BvAt H0 H' v o := by
  cases o with
  | none => exact h
  | some y =>
    obtain ⟨t, p, e, h1, h2, h3⟩ := h
    exact ⟨t, p, e, a _ _ (ne_of h1 hk (by intro z; cases z)) h1, a _ _ (ne_of h2 hk (by intro z; cases z)) h2, h3⟩
theorem BvAt.same {H0 H H' : Hp} {v : V} {o : Option (Nat × Nat × List Int)} (h : BvAt H0 H v o) (s : Same H H') : BvAt H0 H' v o := by
  cases o with
  | none => exact h
  | some y =>
    obtain ⟨t, p, e, h1, h2, h3⟩ := h
    exact ⟨t, p, e, s _ _ h1, s _ _ h2, h3⟩
end Bw

set_option Elab.async false
set_option linter.all false
set_option maxRecDepth 100000
set_option maxHeartbeats 4000000
namespace Bw
open PySem PySem.Spec PyProof.Rows L2
theorem qi {a b : Int} {Q : VK} {H : Hp} (e : a = b) (q : Q (.int a) H) : Q (.int b) H := by
  rw [← e]
  exact q
theorem nI_app (a b : List Nat) : nI (a ++ b) = nI a ++ nI b := List.map_append
theorem cut_fromV (l : List V) (n : Nat) : cutV l (some (n : Int)) none = l.drop n := by
  unfold cutV
  rw [HT.sIx_nat, HT.sIx_none]
  by_cases h : n ≤ l.length
  · rw [Nat.min_eq_left h, List.take_of_length_le (by rw [List.length_drop]; omega)]
  · rw [Nat.min_eq_right (by omega), Nat.sub_self, List.take_zero, List.drop_of_length_le (by omega)]
/-! ### told first at the end -/
theorem fg_iff {r : Rule} (ho : r.ok) : ∀ (v u : List Int), FG r (stOf r u) v ↔ v ≠ [] ∧ ∀ j, 1 ≤ j → j ≤ v.length → (goneH r (u ++ v.take j) = true ↔ j = v.length)
  | [], u => ⟨fun h => h.elim, fun h => absurd rfl h.1⟩
  | m :: v, u => by
    have e1 : nextS r (stOf r u) m = stOf r (u ++ [m]) := (stOf_snoc r u m).symm
    have e2 : goneS r (nextS r (stOf r u) m) = goneH r (u ++ [m]) := by rw [e1, gone_is r ho]
    have e3 : ∀ j, u ++ (m :: v).take (j + 1) = (u ++ [m]) ++ v.take j := fun j => by simp
    show (if goneS r (nextS r (stOf r u) m) = true then v = [] else FG r (nextS r (stOf r u) m) v) ↔ _
    rw [e2, e1]
    by_cases hg : goneH r (u ++ [m]) = true
    · rw [if_pos hg]
      constructor
      · rintro rfl
        refine ⟨fun z => (nomatch z), fun j h1 h2 => ?_⟩
        have h2' : j ≤ 1 := h2
        have : j = 1 := by omega
        subst this
        exact ⟨fun _ => rfl, fun _ => hg⟩
      · rintro ⟨_, h⟩
        have h1 := (h 1 (Nat.le_refl _) (by rw [List.length_cons]; omega)).mp (by rw [e3 0, List.take_zero, List.append_nil]; exact hg)
        rw [List.length_cons] at h1
        exact List.length_eq_zero_iff.mp (by omega)
    · rw [if_neg hg, fg_iff ho v (u ++ [m])]
      constructor
      · rintro ⟨hv, h⟩
        refine ⟨fun z => (nomatch z), fun j h1 h2 => ?_⟩
        rw [List.length_cons] at h2 ⊢
        obtain ⟨j, rfl⟩ : ∃ i, j = i + 1 := ⟨j - 1, by omega⟩
        rw [e3 j]
        by_cases hj : j = 0
        · subst hj
          rw [List.take_zero, List.append_nil]
          refine ⟨fun z => absurd z hg, fun z => absurd (List.length_eq_zero_iff.mp (by omega)) hv⟩
        · rw [h j (by omega) (by omega)]
          omega
      · rintro ⟨_, h⟩
        refine ⟨fun z => ?_, fun j h1 h2 => ?_⟩
        · subst z
          have := (h 1 (Nat.le_refl _) (Nat.le_refl _)).mpr rfl
          exact hg this
        · have := h (j + 1) (by omega) (by rw [List.length_cons]; omega)
          rw [e3 j, List.length_cons] at this
          rw [this]
          omega
/-! ### how late by the law's own walk -/
def dueL (due : List Nat) (n : Nat) : List Int := (List.range n).map fun t => ((due.getD t 0 : Nat) : Int)
theorem dueL_len (due : List Nat) (n : Nat) : (dueL due n).length = n := by
  unfold dueL
  rw [List.length_map, List.length_range]
theorem dueL_succ (due : List Nat) (n : Nat) : dueL due (n + 1) = dueL due n ++ [((due.getD n 0 : Nat) : Int)] := by
  unfold dueL
  rw [List.range_succ, List.map_append]
  rfl
theorem dueL_take (due : List Nat) (n j : Nat) (h : j ≤ n) : (dueL due n).take j = dueL due j := by
  unfold dueL
  rw [← List.map_take, List.take_range, Nat.min_eq_left h]
theorem dueL_W (due : List Nat) (n : Nat) : dueW due (dueL due n) := fun t ht => by
  rw [dueL_len] at ht
  unfold dueL
  rw [List.getElem?_map, List.getElem?_range ht]
  rfl
theorem dueW_L {due : List Nat} {v : List Int} (h : dueW due v) : v = dueL due v.length := by
  refine List.ext_getElem? fun t => ?_
  by_cases ht : t < v.length
  · rw [h t ht, (dueL_W due v.length) t (by rw [dueL_len]; exact ht)]
  · rw [List.getElem?_eq_none (by omega), List.getElem?_eq_none (by rw [dueL_len]; omega)]
def afterL (r : Rule) (due : List Nat) (kept : List Int) (n : Nat) : List Int := (dueL due n).foldl (nextS (r12 r)) kept
theorem afterL_succ (r : Rule) (due : List Nat) (kept : List Int) (n : Nat) : afterL r due kept (n + 1) = nextS (r12 r) (afterL r due kept n) ((due.getD n 0 : Nat) : Int) := by
  unfold afterL
  rw [dueL_succ, List.foldl_append]
  rfl
def LateN (r : Rule) (due : List Nat) (kept : List Int) (n : Nat) : Prop := (∀ j, j < n → goneS r (afterL r due kept (j + 1)) = false) ∧ (n = 40 ∨ n < 40 ∧ goneS r (afterL r due kept (n + 1)) = true)
theorem after_st {r : Rule} (ho : r.ok) (due : List Nat) (u : List Int) (n : Nat) : goneS r (afterL r due (stOf (r12 r) u) n) = goneH r (u ++ dueL due n) := by
  rw [← gone12 ho]
  unfold afterL stOf
  rw [List.foldl_append]
theorem LateN.fg {r : Rule} (ho : r.ok) {due : List Nat} {u : List Int} {n : Nat} (h : LateN r due (stOf (r12 r) u) n) (hn : n ≠ 40) : FG r (stOf r u) (dueL due (n + 1)) := by
  obtain ⟨h1, h2⟩ := h
  obtain ⟨_, h3⟩ := h2.resolve_left hn
  refine (fg_iff ho _ _).mpr ⟨fun z => ?_, fun j a b => ?_⟩
  · have := congrArg List.length z
    rw [dueL_len] at this
    exact absurd this (by simp)
  · rw [dueL_len] at b ⊢
    rw [dueL_take _ _ _ b, ← after_st ho]
    by_cases e : j = n + 1
    · subst e
      exact ⟨fun _ => rfl, fun _ => h3⟩
    · have := h1 (j - 1) (by omega)
      rw [Nat.sub_add_cancel a] at this
      rw [this]
      exact ⟨fun z => (nomatch z), fun z => absurd z e⟩
theorem LateN.of {r : Rule} (ho : r.ok) {due : List Nat} {u : List Int} {n m : Nat} (h : LateN r due (stOf (r12 r) u) n) (hf : FG r (stOf r u) (dueL due (m + 1))) (hm : m < 40) : n = m := by
  obtain ⟨h1, h2⟩ := h
  have hq := (fg_iff ho _ _).mp hf
  have hg : ∀ j, 1 ≤ j → j ≤ m + 1 → (goneS r (afterL r due (stOf (r12 r) u) j) = true ↔ j = m + 1) := fun j a b => by
    have := hq.2 j a (by rw [dueL_len]; exact b)
    rw [dueL_take _ _ _ b, dueL_len, ← after_st ho] at this
    exact this
  rcases Nat.lt_trichotomy n m with hlt | he | hgt
  · rcases h2 with h2 | ⟨_, h2⟩
    · omega
    · have := (hg (n + 1) (by omega) (by omega)).mp h2
      omega
  · exact he
  · have h3 := h1 m hgt
    rw [(hg (m + 1) (by omega) (Nat.le_refl _)).mpr rfl] at h3
    cases h3
theorem may_tells {l : Line} (lo : l.ok) {r : Rule} (ho : r.ok) {u v : List Int} (h : MayH l u v) (hv : 16 ≤ v.length) : ∃ x y, v = x ++ y ∧ FG r (stOf r u) x := by
  obtain ⟨t, h1, h2⟩ := (accF_path l v u _).mp ((fifo_may l lo.e1 u v).mpr h)
  obtain ⟨okS, okK⟩ := pk_ok lo ho ((pathP_first l r u (t, stOf r u)).mpr ⟨h1, rfl⟩)
  exact fin_tells (fin16 lo ho okS.ag okK) h2 hv
/-- what the law's own walk tells: the most -/
def LateM (l : Line) (r : Rule) (ks : List PK) (n : Nat) : Prop := (∃ k ∈ ks, LateN r k.1.ages k.2 n) ∧ ∀ k ∈ ks, ∃ m, m ≤ n ∧ LateN r k.1.ages k.2 m
theorem LateM.is {l : Line} (lo : l.ok) {r : Rule} (ho : r.ok) {b : BS PK} (hE : endV l r b) {n : Nat} (h : LateM l r (b.met.map (·.1)) n) {x : Nat × Nat × List Int} (hx : LtOk l r x) : n = x.1 := by
  have R := BEnd.res (firstV_gone l r ho) hE
  obtain ⟨⟨k, hk, hn⟩, hmost⟩ := h
  obtain ⟨⟨k', ρ⟩, hk1, hk2⟩ := List.mem_map.mp hk
  have hk2' : k' = k := hk2
  subst hk2'
  obtain ⟨h4, h5⟩ := (pathV_first l r ρ k').mp (R.row k' ρ hk1)
  have hmay : ∀ m, MayH l ρ (dueL k'.1.ages m) := fun m => (pathV_may lo.e1 ρ _).mp ⟨_, h4, dueL_W _ _⟩
  rw [h5] at hn
  have hn40 : n ≠ 40 := fun e => by
    subst e
    obtain ⟨x', y', e1, hx'⟩ := may_tells lo ho (hmay 16) (by rw [dueL_len]; exact Nat.le_refl _)
    have hl : x'.length ≤ 16 := by
      have := congrArg List.length e1
      rw [dueL_len, List.length_append] at this
      omega
    have ex : x' = dueL k'.1.ages x'.length := by
      have h6 := dueL_take k'.1.ages 16 x'.length hl
      rw [e1, List.take_left] at h6
      exact h6
    have hne : x'.length ≠ 0 := fun z => by
      rw [List.length_eq_zero_iff.mp z] at hx'
      exact hx'
    obtain ⟨m, hm⟩ : ∃ m, x'.length = m + 1 := ⟨x'.length - 1, by omega⟩
    rw [ex, hm] at hx'
    have := hn.of ho hx' (by omega)
    omega
  have h6 := hx.most _ _ (hmay (n + 1)) (hn.fg ho hn40)
  rw [dueL_len] at h6
  obtain ⟨s', g1, g2⟩ := (pathV_may lo.e1 _ _).mpr hx.may
  obtain ⟨ρ', g3, _⟩ := R.all _ (s', stOf (r12 r) (x.2.2.take x.2.1)) ((pathV_first l r _ _).mpr ⟨g1, rfl⟩)
  obtain ⟨m, hm1, hm2⟩ := hmost _ (List.mem_map.mpr ⟨_, g3, rfl⟩)
  have hf := hx.fg
  have hl : (x.2.2.drop x.2.1).length = x.1 + 1 := by
    rw [List.length_drop, hx.len]
    omega
  rw [dueW_L g2, hl] at hf
  have := hx.short.2
  have e := LateN.of ho hm2 hf (by omega)
  omega
/-- what is told behind -/
theorem LtOk.told {l : Line} {r : Rule} (ho : r.ok) {x : Nat × Nat × List Int} (hx : LtOk l r x) : (toldOf r x.2.2).drop x.2.1 = List.replicate x.1 false ++ [true] := by
  have hq := (fg_iff ho _ _).mp hx.fg
  have hl : (x.2.2.drop x.2.1).length = x.1 + 1 := by
    rw [List.length_drop, hx.len]
    omega
  refine List.ext_getElem? fun j => ?_
  rw [List.getElem?_drop]
  unfold toldOf
  have hlen := hx.len
  by_cases hj : j < x.1 + 1
  · rw [List.getElem?_map, List.getElem?_range (by omega)]
    show some (goneH r (x.2.2.take (x.2.1 + j + 1))) = _
    have e : x.2.2.take x.2.1 ++ (x.2.2.drop x.2.1).take (j + 1) = x.2.2.take (x.2.1 + j + 1) := by
      rw [Nat.add_assoc]
      exact List.take_add.symm
    have h := hq.2 (j + 1) (by omega) (by omega)
    rw [e, hl] at h
    by_cases hjx : j = x.1
    · subst hjx
      rw [h.mpr rfl, List.getElem?_append_right (by rw [List.length_replicate]; exact Nat.le_refl _), List.length_replicate, Nat.sub_self]
      rfl
    · have hf : goneH r (x.2.2.take (x.2.1 + j + 1)) = false := by
        cases hg : goneH r (x.2.2.take (x.2.1 + j + 1)) with
        | false => rfl
        | true => exact absurd (h.mp hg) (by omega)
      rw [hf, List.getElem?_append_left (by rw [List.length_replicate]; omega), List.getElem?_replicate, if_pos (by omega)]
  · rw [List.getElem?_eq_none (by rw [List.length_map, List.length_range]; omega), List.getElem?_eq_none (by rw [List.length_append, List.length_replicate]; show x.1 + 1 ≤ j; omega)]
def spLLate (K : PySem.W.Frag) : Sp := fun vs H Q _ => ∃ (q d t : Addr) (r : Rule) (due : List Nat) (kept : List Int), vs = [.ref q, .ref d, .ref t] ∧ SqT K H q r.vs ∧ r.ok ∧ SqT K H d ((nI due).map V.int) ∧ SqT K H t (kept.map V.int) ∧ StOk (r12 r) kept ∧
  ∀ (n : Nat) H', Same H H' → LateN r due kept n → Q (.int n) H'
def spLLatest (P : Program) (w : World) (K : PySem.W.Frag) : Sp := fun vs H Q _ => ∃ (lp q mt : Addr) (l : Line) (r : Rule) (ks : List PK), vs = [.ref lp, .ref q, .ref mt] ∧ SqT K H q r.vs ∧ r.ok ∧ Nd P w K H mt (trueK ks) ∧ ks ≠ [] ∧ ks.length ≤ pkMost ∧ (∀ k ∈ ks, StOk (r12 r) k.2) ∧
  ∀ (n : Nat) H', Same H H' → LateM l r ks n → Q (.int n) H'
end Bw

set_option Elab.async false
set_option linter.all false
set_option maxRecDepth 100000
set_option maxHeartbeats 4000000
namespace Bw
open PySem PySem.Spec PyProof.Rows L2
/-! ### lists of rules -/
def ruleD : Rule → PyData
  | .since n => .tuple [.str "since", .int n]
  | .few a b => .tuple [.str "few", .int a, .int b]
theorem ruleD_noL (r : Rule) : NoL (ruleD r) := by
  cases r with
  | since n =>
    refine .tuple _ fun d hd => ?_
    simp only [List.mem_cons, List.not_mem_nil, or_false] at hd
    rcases hd with rfl | rfl
    · exact .str _
    · exact .int _
  | few a b =>
    refine .tuple _ fun d hd => ?_
    simp only [List.mem_cons, List.not_mem_nil, or_false] at hd
    rcases hd with rfl | rfl | rfl
    · exact .str _
    · exact .int _
    · exact .int _
theorem rules_noL (rs : List Rule) : ∀ d ∈ rs.map ruleD, NoL d := fun d hd => by
  obtain ⟨r, _, rfl⟩ := List.mem_map.mp hd
  exact ruleD_noL r
theorem shp_str (n : Nat) {x : Str} (h : PyData.strOk x = true) : Shp n (.str x) := ⟨by simp [PyData.canLay0, h], by simp [PyData.depth]⟩
theorem ruleD_shp (n : Nat) (r : Rule) : Shp (n + 1) (ruleD r) := by
  cases r with
  | since m =>
    refine shp_tuple fun d hd => ?_
    simp only [List.mem_cons, List.not_mem_nil, or_false] at hd
    rcases hd with rfl | rfl
    · exact shp_str _ (by decide +kernel)
    · exact shp_int _ _
  | few a b =>
    refine shp_tuple fun d hd => ?_
    simp only [List.mem_cons, List.not_mem_nil, or_false] at hd
    rcases hd with rfl | rfl | rfl
    · exact shp_str _ (by decide +kernel)
    · exact shp_int _ _
    · exact shp_int _ _
theorem rules_shp (rs : List Rule) : SeqAt.shaped (.list (rs.map ruleD)) = true := Shp.ok (n := 2) (shp_list fun d hd => by
  obtain ⟨r, _, rfl⟩ := List.mem_map.mp hd
  exact ruleD_shp 0 r) (by omega)
section
variable {K : PySem.W.Frag} {H : Hp}
theorem dp_rule {v : V} {r : Rule} (h : Dp K H v (ruleD r)) : ∃ q, v = .ref q ∧ SqT K H q r.vs := by
  cases r with
  | since n =>
    obtain ⟨a, xs, rfl, h1, h2⟩ := dp_tup h
    obtain ⟨x, y, rfl, g1, g2⟩ := dpAll_two h2
    cases g1
    cases g2
    exact ⟨a, rfl, h1⟩
  | few n m =>
    obtain ⟨a, xs, rfl, h1, h2⟩ := dp_tup h
    obtain ⟨x, y, z, rfl, g1, g2, g3⟩ := dpAll_three h2
    cases g1
    cases g2
    cases g3
    exact ⟨a, rfl, h1⟩
theorem rule_dp {q : Addr} {r : Rule} (h : SqT K H q r.vs) : Dp K H (.ref q) (ruleD r) := by
  cases r with
  | since n => exact .tup h (.cons (.str _) (.cons (.int _) .nil))
  | few n m => exact .tup h (.cons (.str _) (.cons (.int _) (.cons (.int _) .nil)))
theorem rules_at {xs : List V} {rs : List Rule} (h : DpAll K H xs (rs.map ruleD)) {i : Nat} {y : V} (hi : xs[i]? = some y) : ∃ r q, rs[i]? = some r ∧ y = .ref q ∧ SqT K H q r.vs := by
  obtain ⟨d, hd, hy⟩ := dpAll_get h hi
  rw [List.getElem?_map] at hd
  cases e : rs[i]? with
  | none => rw [e] at hd; cases hd
  | some r =>
    rw [e] at hd
    cases hd
    obtain ⟨q, h1, h2⟩ := dp_rule hy
    exact ⟨r, q, rfl, h1, h2⟩
end
/-! ### the least late -/
def betN (o : Option (Nat × Nat)) (i n : Nat) : Option (Nat × Nat) := match o with
  | none => some (i, n)
  | some y => if n < y.2 then some (i, n) else some y
def betB (o : Option (Nat × Nat)) (n : Nat) : Bool := match o with
  | none => true
  | some y => decide (n < y.2)
theorem betN_yes {o : Option (Nat × Nat)} {i n : Nat} (h : betB o n = true) : betN o i n = some (i, n) := by
  cases o with
  | none => rfl
  | some y => exact if_pos (of_decide_eq_true h)
theorem betN_no {o : Option (Nat × Nat)} {i n : Nat} (h : betB o n = false) : betN o i n = o := by
  cases o with
  | none => cases h
  | some y => exact if_neg (of_decide_eq_false h)
inductive Ch (W : Rule → Prop) (L : Rule → Nat → Prop) : List Rule → Option (Nat × Nat) → Prop where
  | nil : Ch W L [] none
  | wrong {rs : List Rule} {o : Option (Nat × Nat)} {r : Rule} : Ch W L rs o → ¬ W r → Ch W L (rs ++ [r]) o
  | right {rs : List Rule} {o : Option (Nat × Nat)} {r : Rule} {n : Nat} : Ch W L rs o → W r → L r n → Ch W L (rs ++ [r]) (betN o rs.length n)
theorem Ch.alike {W : Rule → Prop} {L L' : Rule → Nat → Prop} (hL : ∀ r n n', L r n → L' r n' → n = n') {rs : List Rule} {o : Option (Nat × Nat)} (h : Ch W L rs o) : ∀ {rs' : List Rule} {o' : Option (Nat × Nat)}, Ch W L' rs' o' → rs' = rs → o = o' := by
  induction h with
  | nil =>
    intro rs' o' h' e
    cases h' with
    | nil => rfl
    | wrong _ _ => exact absurd (congrArg List.length e) (by simp)
    | right _ _ _ => exact absurd (congrArg List.length e) (by simp)
  | wrong h hw ih =>
    intro rs' o' h' e
    cases h' with
    | nil => exact absurd (congrArg List.length e) (by simp)
    | wrong h2 hw2 => exact ih h2 (List.append_inj' e rfl).1
    | right h2 hw2 hl2 =>
      have := (List.append_inj' e rfl).2
      cases this
      exact absurd hw2 hw
  | right h hw hl ih =>
    intro rs' o' h' e
    cases h' with
    | nil => exact absurd (congrArg List.length e) (by simp)
    | wrong h2 hw2 =>
      have := (List.append_inj' e rfl).2
      cases this
      exact absurd hw hw2
    | right h2 hw2 hl2 =>
      obtain ⟨e1, e2⟩ := List.append_inj' e rfl
      cases e2
      subst e1
      rw [ih h2 rfl, hL _ _ _ hl hl2]
theorem Ch.lt {W : Rule → Prop} {L : Rule → Nat → Prop} {rs : List Rule} {o : Option (Nat × Nat)} (h : Ch W L rs o) : ∀ y, o = some y → y.1 < rs.length := by
  induction h with
  | nil => exact fun y e => (nomatch e)
  | wrong h hw ih =>
    intro y e
    rw [List.length_append]
    exact Nat.lt_of_lt_of_le (ih y e) (Nat.le_add_right _ _)
  | @right rs o r n h hw hl ih =>
    intro y e
    rw [List.length_append]
    show y.1 < rs.length + 1
    cases hb : betB o n with
    | true =>
      rw [betN_yes hb] at e
      cases e
      exact Nat.lt_succ_self _
    | false =>
      rw [betN_no hb] at e
      exact Nat.lt_succ_of_lt (ih y e)
/-- no false tell -/
def NoF (l : Line) (r : Rule) : Prop := ∀ w, MayH l w [] → goneH r w = false
theorem FRow.noF {l : Line} {r : Rule} {o : Option (List Int)} (h : FRow l r o) : o = none ↔ NoF l r := by
  refine ⟨h.no, fun hn => ?_⟩
  cases o with
  | none => rfl
  | some ρ =>
    obtain ⟨h1, h2, _⟩ := h.yes ρ rfl
    rw [hn ρ h1] at h2
    cases h2
/-- what chosen tells -/
def ChP (l : Line) : List Rule → Option (Nat × Nat) → Prop := Ch (NoF l) fun r n => ∃ x, LtOk l r x ∧ x.1 = n
/-- what the law finds -/
def ChL (l : Line) : List Rule → Option (Nat × Nat) → Prop := Ch (NoF l) fun r n => ∀ x, LtOk l r x → n = x.1
theorem ChP.law {l : Line} {rs : List Rule} {o o' : Option (Nat × Nat)} (h : ChP l rs o) (h' : ChL l rs o') : o = o' := Ch.alike (fun r n n' ⟨x, h1, h2⟩ h3 => by rw [h3 x h1]; exact h2.symm) h h' rfl
theorem LtOk.uniq1 {l : Line} {r : Rule} {x y : Nat × Nat × List Int} (hx : LtOk l r x) (hy : LtOk l r y) : x.1 = y.1 := by
  have h1 := hx.most _ _ hy.may hy.fg
  have h2 := hy.most _ _ hx.may hx.fg
  have l1 := hx.len
  have l2 := hy.len
  rw [List.length_drop] at h1 h2
  omega
theorem ChP.uniq {l : Line} {rs : List Rule} {o o' : Option (Nat × Nat)} (h : ChP l rs o) (h' : ChP l rs o') : o = o' := Ch.alike (fun r n n' ⟨x, h1, h2⟩ ⟨y, h3, h4⟩ => by rw [← h2, ← h4]; exact h1.uniq1 h3) h h' rfl
/-- None, or a pair -/
def ChAt (H : Hp) (v : V) : Option (Nat × Nat) → Prop
  | none => v = .non
  | some y => ∃ p, v = .ref p ∧ H p = some (.tup [.int y.1, .int y.2])
theorem ChAt.tk {H H' : Hp} {v : V} {o : Option (Nat × Nat)} (h : ChAt H v o) (t : TK H H') : ChAt H' v o := by
  cases o with
  | none => exact h
  | some y =>
    obtain ⟨p, e, hp⟩ := h
    exact ⟨p, e, t.tup _ _ hp⟩
def chD : Option (Nat × Nat) → PyData
  | none => .none
  | some y => .tuple [.int y.1, .int y.2]
theorem ChAt.dp {K : PySem.W.Frag} {H : Hp} {v : V} {o : Option (Nat × Nat)} (h : ChAt H v o) : Dp K H v (chD o) := by
  cases o with
  | none =>
    cases h
    exact .non
  | some y =>
    obtain ⟨p, e, hp⟩ := h
    subst e
    exact .tup (SqT.of hp) (.cons (.int _) (.cons (.int _) .nil))
theorem chD_dn (o : Option (Nat × Nat)) : Dn 1 (chD o) := by
  cases o with
  | none => exact .non _
  | some y =>
    refine .tuple 0 _ (by show 2 ≤ 20000; decide) fun d hd => ?_
    simp only [List.mem_cons, List.not_mem_nil, or_false] at hd
    rcases hd with rfl | rfl
    · exact .int _ _
    · exact .int _ _
def spChosen (K : PySem.W.Frag) : Sp := fun vs H Q _ => ∃ (lp rp : Addr) (l : Line) (xs : List V) (rs : List Rule), vs = [.ref lp, .ref rp] ∧ SqT K H lp l.vs ∧ l.ok ∧ SqL K H rp xs ∧ DpAll K H xs (rs.map ruleD) ∧ (∀ r ∈ rs, r.ok) ∧
  ∀ (v : V) (H' : Hp) (o : Option (Nat × Nat)), Same H H' → ChP l rs o → ChAt H' v o → Q v H'
end Bw

set_option Elab.async false
set_option linter.all false
set_option maxRecDepth 100000
set_option maxHeartbeats 4000000
namespace Bw
open PySem PySem.Spec PyProof.Rows L2
/-! ### enumerate(text) -/
/-- each sign in a new pair with its number -/
def ItS (x : Str) : It :=
  ⟨fun i _ => i < x.cps.size, fun i H v H' => ∃ T c, v = .ref T ∧ H T = none ∧ x.cps[i]? = some c ∧ H' = upd H T (.tup [.int (i : Nat), .str ⟨#[c]⟩]), fun i _ => i = x.cps.size⟩
theorem turn_enumS {P : Program} {w : World} {K : PySem.W.Frag} {elts : List Expr} {kk : Nat} {tpos : Pos} (e it : Addr) (x : Str) (t : Tok) (ty : String) (hty : ty = "str_ascii_iterator" ∨ ty = "str_iterator") :
    Turn P w K (.Tuple elts kk tpos) (ItS x) [e, it] e (fun i h => (∃ old, IsEnum h e it ((i : Nat) : Int) old) ∧ h.IsStrIter it ty x t i ∧ e ≠ it) where
  mem := by simp
  obj := fun i h st b hb => by
    obtain ⟨⟨old, he⟩, ⟨o, ho, hc, hd⟩, _⟩ := st
    have e' : b = e ∨ b = it := by simpa using hb
    rcases e' with z | z
    · rw [z]; exact ⟨_, he, fun v q => nomatch q⟩
    · rw [z]; exact ⟨o, ho, fun v q => by rw [hd] at q; cases q⟩
  keep := fun i h h' st k => let ⟨⟨old, he⟩, ⟨o, ho, r⟩, hne⟩ := st; ⟨⟨old, k e (by simp) _ he⟩, ⟨o, k it (by simp) o ho, r⟩, hne⟩
  item := by
    intro X hP hw hK hc i pins s σ H E I hf st hg
    subst hP hw hK
    obtain ⟨⟨old, he⟩, hit, hne⟩ := st
    have D : Draws X.prog X.w X.A.in1 it [it] x.cps.size (fun i v => ∃ c u, x.cps[i]? = some c ∧ v = .str ⟨#[c]⟩ u) (fun i h => h.IsStrIter it ty x t i) := by
      rcases hty with e | e
      · rw [e]; exact Draws.strAscii (A := X.A.in1) (I.ok.hd hc) it x t
      · rw [e]; exact Draws.strWide (A := X.A.in1) (I.ok.hd hc) it x t
    have hel : e < s.heap.objs.size := Heap.lt_size he
    have hil : it < s.heap.objs.size := by obtain ⟨_, q, _⟩ := hit; exact Heap.lt_size q
    refine wpAny_pyNext_enum_itemD D he hit hg hne (by simpa using hne) fun u h' tk hP ho hit' hT hsz hk => ?_
    obtain ⟨c, tu, hcx, rfl⟩ := hP
    refine ⟨_, rfl, wpAny_letOwnedTupleGo_enum (s := { s with heap := h', toks := tk + 1 }) ho fun h'' he' sb => ?_⟩
    have hT2 : h''.get? s.heap.objs.size = some { cls := .type "tuple", data := .seq #[.int i tk, .str ⟨#[c]⟩ tu] } := (sb.2 _ (Nat.ne_of_gt hel)).trans hT
    have new : ObjOk X.prog X.w (upd H s.heap.objs.size (.tup [.int (i : Nat), .str ⟨#[c]⟩])) h'' s.heap.objs.size (.tup [.int (i : Nat), .str ⟨#[c]⟩]) :=
      ⟨by show 2 ≤ sizeLine; decide, [.int i tk, .str ⟨#[c]⟩ tu], .cons ⟨_, rfl⟩ (.cons ⟨_, rfl⟩ .nil), ⟨_, hT2, rfl, _, rfl⟩⟩
    have I1 : Inv X pins σ (upd H s.heap.objs.size (.tup [.int (i : Nat), .str ⟨#[c]⟩])) { s with heap := h'', toks := tk + 1 } :=
      I.turnedNew (ch := [e, it]) (fun b ob hb q => (sb.2 b (fun z => hb (by simp [z]))).trans (hk b ob (fun z => hb (by simp [z])) (fun z => hb (by simp [z])) q)) hf (Nat.le_refl _) new
    refine ⟨.ref s.heap.objs.size, _, I1, rfl, ⟨_, c, rfl, I.hok.fresh (Nat.le_refl _), hcx, rfl⟩, ⟨⟨.str ⟨#[c]⟩ tu, ?_⟩, ?_, hne⟩, fun b hb => ?_⟩
    · have e1 : ((i + 1 : Nat) : Int) = (i : Int) + 1 := by omega
      rw [e1]; exact he'
    · obtain ⟨o, ho2, r⟩ := hit'
      exact ⟨o, (sb.2 it (Ne.symm hne)).trans ho2, r⟩
    · have hb' : b < s.heap.objs.size := by
        have e' : b = e ∨ b = it := by simpa using hb
        rcases e' with z | z
        · rw [z]; exact hel
        · rw [z]; exact hil
      rw [upd_ne (Nat.ne_of_lt hb')]
      exact (hf b hb).1
  done := by
    intro X hP hw hK hc i pins s σ H E I hf st hg
    subst hP hw hK
    have hg : i = x.cps.size := hg
    subst hg
    obtain ⟨⟨old, he⟩, hit, hne⟩ := st
    have D : Draws X.prog X.w X.A.in1 it [it] x.cps.size (fun i v => ∃ c u, x.cps[i]? = some c ∧ v = .str ⟨#[c]⟩ u) (fun i h => h.IsStrIter it ty x t i) := by
      rcases hty with e | e
      · rw [e]; exact Draws.strAscii (A := X.A.in1) (I.ok.hd hc) it x t
      · rw [e]; exact Draws.strWide (A := X.A.in1) (I.ok.hd hc) it x t
    obtain ⟨f0, f1, f2, f3, f4, f5⟩ := hf it (by simp)
    exact wpAny_pyNext_enum_endD D he hit fun h' eb => ⟨rfl, I.turned (t' := s.toks) (fun b o hb q => eb b o hb q) f0 f1 f3 f4 f5⟩
  self := fun A i s Q E st h => let ⟨⟨_, he⟩, _⟩ := st; wpAny_pyIter_enum he h
def iEnumS (ta : TA) : TI := fun σ H R => ta σ H fun vs H1 => ∃ x, vs = [.str x] ∧ R (ItS x) H1
theorem pi_enumS {X : Cx} {e : Expr} {ta : TA} {p pos tpos : Pos} {elts : List Expr} {kk : Nat} (hg : Gl X "enumerate") (hm : X.mg "enumerate" = none) (ha : PA X [e] ta) (hs : starEach [e] X.env = [(false, eval e X.env)] := by rfl) :
    PI X (.Tuple elts kk tpos) (.Call (.Name "enumerate" p) [e] [] pos) (iEnumS ta) := by
  refine ⟨fun pins s σ H R I h => ?_⟩
  refine Call_ (ld_blt I hg hm boot_enumerate (PyProof.Rows.callWith_type1 (thn (ha.run pos pins s σ H _ I h) fun us s1 ⟨vs, H1, I1, r1, q1⟩ => ?_) hs rfl))
  obtain ⟨x, ex, q⟩ := q1
  subst ex
  cases r1 with
  | cons r rr =>
    cases rr
    obtain ⟨t, rfl⟩ := r
    refine call_enumerate_str fun h' he hit hsz hk => wpAny_pyIter_enum he ?_
    have I2 : Inv X pins σ H1 { s1 with heap := h' } := I1.kept (t' := s1.toks) hk
    have hty : strIterType x = "str_ascii_iterator" ∨ strIterType x = "str_iterator" := by
      cases ha : x.cps.all (· < 128)
      · exact .inr (by simp [strIterType, ha])
      · exact .inl (by simp [strIterType, ha])
    refine ⟨s1.heap.objs.size + 1, [s1.heap.objs.size + 1, s1.heap.objs.size], _, _, H1, rfl, I2, turn_enumS (s1.heap.objs.size + 1) s1.heap.objs.size x t _ hty, ⟨⟨.none, he⟩, hit, Nat.succ_ne_self _⟩, fun b hb => ?_, q⟩
    have e' : b = s1.heap.objs.size + 1 ∨ b = s1.heap.objs.size := by simpa using hb
    have hle : s1.heap.objs.size ≤ b := by
      rcases e' with z | z
      · rw [z]; exact Nat.le_add_right _ _
      · rw [z]; exact Nat.le_refl _
    exact I1.fpOk hle (I1.hok.fresh hle)
theorem for_enumS {x : Str} {g : TG} {tb : TS} {D : Ends} {σ : L2.St} {H : Hp} (Pv : Nat → L2.St → Hp → Prop) (h0 : Pv 0 σ H)
    (hs : ∀ i c σ H T, x.cps[i]? = some c → Pv i σ H → H T = none → g (.ref T) σ (upd H T (.tup [.int (i : Nat), .str ⟨#[c]⟩])) fun σ2 H2 => tb { D with nx := Pv (i + 1), ct := Pv (i + 1), bk := D.nx } σ2 H2) (hd : ∀ σ H, Pv x.cps.size σ H → D.nx σ H) :
    ∃ W : Nat → Nat → L2.St → Hp → Prop, (∃ m, W 0 m σ H) ∧ ∀ i m σ H, W i m σ H →
      ((ItS x).stop i H ∧ D.nx σ H) ∨ ((ItS x).go i H ∧ ∃ N : L2.St → Hp → Prop, (∀ σ' H', N σ' H' → ∃ m', m' < m ∧ W (i + 1) m' σ' H') ∧ ∀ x' H', (ItS x).yld i H x' H' → g x' σ H' fun σ2 H2 => tb { D with nx := N, ct := N, bk := D.nx } σ2 H2) := by
  refine ⟨fun i m σ H => m = x.cps.size - i ∧ i ≤ x.cps.size ∧ Pv i σ H, ⟨x.cps.size, by simp, Nat.zero_le _, h0⟩, ?_⟩
  rintro i m σ H ⟨rfl, hi, p⟩
  by_cases hlt : i < x.cps.size
  · refine .inr ⟨hlt, Pv (i + 1), fun σ' H' p' => ⟨x.cps.size - (i + 1), by omega, rfl, hlt, p'⟩, fun v H' y => ?_⟩
    obtain ⟨T, c, rfl, nT, hc, rfl⟩ := y
    exact hs i c σ _ T hc p nT
  · have e : i = x.cps.size := by omega
    subst e
    exact .inl ⟨rfl, hd σ H p⟩
/-! ### what is heard, as a text -/
def cpOf (m : Int) : Nat := if m = 0 then 46 else 48 + m.toNat
def textOf (hs : List Int) : Str := ⟨(hs.map cpOf).toArray⟩
def signOf (m : Int) : Str := ⟨#[cpOf m]⟩
theorem nine {m : Int} (h0 : 0 ≤ m) (h9 : m ≤ 9) : m = 0 ∨ m = 1 ∨ m = 2 ∨ m = 3 ∨ m = 4 ∨ m = 5 ∨ m = 6 ∨ m = 7 ∨ m = 8 ∨ m = 9 := by omega
theorem sign_str {m : Int} (h0 : 0 ≤ m) (h9 : m ≤ 9) (hz : m ≠ 0) : ((toString m : String) : Str) = signOf m := by
  rcases nine h0 h9 with rfl | rfl | rfl | rfl | rfl | rfl | rfl | rfl | rfl | rfl
  · exact absurd rfl hz
  all_goals decide +kernel
theorem sign_dot : signOf 0 = (("." : String) : Str) := by decide +kernel
theorem join_signs : ∀ cs : List Nat, Txt.join (("" : String) : Str) (cs.map fun c => (⟨#[c]⟩ : Str)) = ⟨cs.toArray⟩ := by
  intro cs
  rw [TL.join_eq]
  induction cs with
  | nil => rfl
  | cons c cs ih =>
    cases cs with
    | nil => rfl
    | cons d cs =>
      have e : Str.join (("" : String) : Str) ((c :: d :: cs).map fun c => (⟨#[c]⟩ : Str)) = (⟨#[c]⟩ : Str) ++ (("" : String) : Str) ++ Str.join (("" : String) : Str) ((d :: cs).map fun c => (⟨#[c]⟩ : Str)) := rfl
      rw [e, ih]
      show (⟨(#[c] ++ (("" : String) : Str).cps) ++ (d :: cs).toArray⟩ : Str) = _
      have e2 : (("" : String) : Str).cps = #[] := by decide +kernel
      rw [e2]
      congr 1
      simp
theorem join_text (hs : List Int) : Txt.join (("" : String) : Str) (hs.map signOf) = textOf hs := by
  have := join_signs (hs.map cpOf)
  rw [List.map_map] at this
  exact this
theorem text_at {hs : List Int} {i c : Nat} (h : (textOf hs).cps[i]? = some c) : ∃ m, hs[i]? = some m ∧ c = cpOf m := by
  have h1 : (hs.map cpOf)[i]? = some c := by
    have : ((hs.map cpOf).toArray)[i]? = some c := h
    simpa using this
  rw [List.getElem?_map] at h1
  cases e : hs[i]? with
  | none => rw [e] at h1; cases h1
  | some m => rw [e] at h1; exact ⟨m, rfl, (Option.some.inj h1).symm⟩
theorem text_len (hs : List Int) : (textOf hs).cps.size = hs.length := by
  show ((hs.map cpOf).toArray).size = _
  simp
theorem sign_int {m : Int} (h0 : 0 ≤ m) (h9 : m ≤ 9) (hz : m ≠ 0) : PySem.intText? (⟨#[cpOf m]⟩ : Str) = some m := by
  rcases nine h0 h9 with rfl | rfl | rfl | rfl | rfl | rfl | rfl | rfl | rfl | rfl
  · exact absurd rfl hz
  all_goals decide +kernel
def spWritten (K : PySem.W.Frag) : Sp := fun vs H Q _ => ∃ (l : Addr) (hs : List Int), vs = [.ref l] ∧ SqL K H l (hs.map V.int) ∧ HeardOk hs ∧ ∀ H', Same H H' → Q (.str (textOf hs)) H'
def spRead : Sp := fun vs H Q _ => ∃ (hs : List Int), vs = [.str (textOf hs)] ∧ HeardOk hs ∧ ∀ p H', Same H H' → H p = none → H' p = some (.lst (hs.map V.int)) → Q (.ref p) H'
end Bw

set_option Elab.async false
set_option linter.all false
set_option maxRecDepth 100000
set_option maxHeartbeats 4000000
namespace Bw
open PySem PySem.Spec PyProof.Rows L2
/-! ### an own exception is made: its context is None -/
section
variable {X : Cx}
theorem pmk_oexN {CX : CXT} {x : Str} {e : Expr} {es : List Expr} {ta : TA} {p pos : Pos} {C fI : Addr} {k : Nat} {fd : FuncData} {ps : List Str} {sp : Sp} (T : OexC X.K C) (iC : PySem.W.findIn X.K (.ref C) "__init__" = some (some (.ref fI)))
    (tI : PySem.W.typeIn X.K (.ref fI) = some (.type "function")) (F1 : FnOk X.prog X.w X.K X.mg X.base CX k fI fd ps sp) (hr : Room (k + 1) X.A) (hb : Binds X.K fd ps []) (hx : Passes CX X E0) (hg : Gl X x) (hm : X.mg x = some (.ref C)) (ha : PA X (e :: es) ta)
    (hdb : (x == ("__debug__" : Str)) = false := by decide) (he : starEach (e :: es) X.env = (false, eval e X.env) :: starEach es X.env := by rfl) (hpl : (backTo pos (starEach es X.env)).any (·.1) = false := by rfl) :
    L2N.PMk X (.Call (.Name x p) (e :: es) [] pos) (tMkO C sp [] ta) := by
  intro pins s σ H Q I h
  obtain ⟨nm, qn, N, bs, bm, sn, sub, ab, col, dd, k0, k1, k2, k3, k5, hC, hbm⟩ := T.cls
  refine wpAny_Call_Name_kw (ld_glob I hg hm (PySem.W.callWith_K (h₀ := X.base) I.ok.mod.kin T.kC (thn (ha.run pos pins s σ H _ I h) fun us s1 hh => ?_) he hpl) hdb)
  obtain ⟨vs, H1, I1, r1, hz, q1⟩ := hh
  refine ⟨I1.kIn, ?_⟩
  show wpAny _ _ (call (.ref C) us) _ _ _
  obtain ⟨hp, g, dr, tk, os⟩ := s1
  have q2 := q1 (hp.objs.size + 1) (I1.hok.fresh (Nat.le_succ _))
  rw [List.append_nil] at q2
  have I2 := I1.laid (t' := tk) (a := hp.objs.size + 1) (o := exo (hp.objs.size + 1) C none) (h' := (hp.push (PySem.W.kdv_tup us)).push (PySem.HandSPX.excO C hp.objs.size)) (fun b o z => Heap.get?_push_of_some _ (Heap.get?_push_of_some _ z)) (Nat.le_succ _) (exo_ok (by heap_get))
  have r2 : Vals (V.ref (hp.objs.size + 1) :: vs) (Value.ref (hp.objs.size + 1) :: us) := .cons rfl r1
  have hl : (Value.ref (hp.objs.size + 1) :: us).length = ps.length := r2.length.symm.trans (F1.len _ _ _ _ q2)
  have b2 := hb _ (Value.ref (hp.objs.size + 1) :: us) I2.kIn (by rw [List.append_nil]; exact hl)
  rw [List.append_nil] at b2
  have hus : us.length ≤ sizeLine := by
    have := Paired.length r1
    rw [sizeLine_eq]
    omega
  have run := F1.run _ X.stack _ _ ⟨Value.ref (hp.objs.size + 1) :: us, []⟩ _ _ _ E0 (hr.make C us []) (I2.env0.make C us []) b2 r2 q2
  refine wpAny_call (PySem.HandSPX.call_own F.excBase_ValueError (fun Y => PySem.HandSPX.refsVE_contains Y bm hbm) (I1.kIn _ _ hC) (PySem.W.looks_findIn I1.kIn iC) (fun self => PySem.W.bind_fn I1.kIn self tI) hus (codeAny_mono run fun r s' hq' => ?_))
  match r, hq' with
  | .error er, hq' => exact hx pins σ _ _ er s' I2 hq'
  | .ok (.ret u), ⟨v, H2, os2, bare2, un2, hok2, rv, ev, d, fs, ea, ed, hd1, q3⟩ =>
    subst ev
    obtain ⟨h2, g2, d2, t2, os'⟩ := s'
    obtain ⟨t0, G, J, kG, ge, hoe, na⟩ := mk_end0 (d2 := d2) (t2 := t2) I1 (Nat.le_succ _) (fun b o z => Heap.get?_push_of_some _ (Heap.get?_push_of_some _ z)) un2 hok2 os2 bare2 ea ed hd1
    refine ⟨rv, hp.objs.size + 1, _, _, ⟨G, g2, d2, t2, os'⟩, _, .ref C, some d, rfl, J, kG, ge, hoe, ⟨rfl, rfl, fun ws hv => ?_⟩, rfl, rfl, na, rfl, bare2, raises_own T.exC T.tyC, q3⟩
    cases hv
    rfl
  | .ok .next, hq' => exact hq'.elim
  | .ok .brk, hq' => exact hq'.elim
  | .ok .cont, hq' => exact hq'.elim
/-- B.__init__(self, ..), B an own class over ValueError without an own __init__ -/
theorem pe_owninit {x : Str} {B : Addr} {e : Expr} {es : List Expr} {ta : TA} {p1 p2 pos : Pos} {pl : Sem Bool} (hg : Gl X x) (hm : X.mg x = some (.ref B)) (hs : PySem.W.specialIn X.K (.ref B) "__getattribute__" = some (some (.builtin "type.__getattribute__")))
    (hr : PySem.W.readsIn X.K B (.type "type") = true) (hf : PySem.W.findCls X.K (.ref B) (.type "type") "__init__" = some (.val (.builtin "ValueError.__init__"))) (ha : PA X (e :: es) ta) (hdb : (x == ("__debug__" : Str)) = false := by decide)
    (hc : eval (.Call (.Attribute (.Name x p1) "__init__" p2) (e :: es) [] pos) X.env = (do
      let ov ← eval (.Name x p1) X.env
      standAt p2.atName
      let (f, first) ← holding [ov] (getMethod ov "__init__" pl)
      callWith pos f first (backTo pos (starEach (e :: es) X.env)) (backToKw pos (keywordEach [] X.env))) := by rfl)
    (he : starEach (e :: es) X.env = (false, eval e X.env) :: starEach es X.env := by rfl) (hpl : (backTo pos (starEach es X.env)).any (·.1) = false := by rfl) :
    PE X (.Call (.Attribute (.Name x p1) "__init__" p2) (e :: es) [] pos) (tVeI X.K ta) := by
  refine ⟨fun pins s σ H Q I h => PySem.W.methodCall_KW (ld_glob I hg hm (PySem.W.method_cls I.kIn hs (PySem.W.cls_value I.kIn hr hf (by decide +kernel) ?_)) hdb) hc⟩
  show wpAny _ _ (callWith pos (Value.builtin "ValueError.__init__") [] (backTo pos (starEach (e :: es) X.env)) []) _ _ _
  refine PyProof.Rows.callWith_method1 (thn (ha.run pos pins _ σ H _ (I.tok _) h) fun us s1 hh => ?_) he hpl
  obtain ⟨vs, H1, I1, r1, a, C, ws, ev, hl, T, ea, q⟩ := hh
  subst ev
  cases r1 with
  | @cons _ u0 _ ur ra rw' =>
    obtain rfl : u0 = Value.ref a := ra
    have hlen : ur.length ≤ sizeLine := by
      have := Paired.length rw'
      rw [sizeLine_eq]
      omega
    exact oinit_ok T I1 ea hlen fun s' J => ⟨.non, H1, J, rfl, q⟩
end
/-! ### classes of errors: one field -/
/-- __init__(self, v): the error's dict is made, it holds the field -/
def spXInit (C : Addr) (fld : Str) : Sp := fun vs H Q _ => ∃ (a : Addr) (v : V), vs = [.ref a, v] ∧ H a = some (exo a C none) ∧ ∀ dx, H dx = none → dx ≠ a → Q .non (upd (upd H dx (exd dx [(fld, v)])) a (exo a C (some dx)))
structure XC (P : Program) (w : World) (K : PySem.W.Frag) (mg : Str → Option Value) (base : Heap) (k : Nat) (x : Str) (C : Addr) (fld : Str) : Prop where
  T : OexC K C
  g : mg x = some (.ref C)
  noat : PySem.W.findIn K (.ref C) fld = some none
  xf : XfC K C
  ex : ∃ (fI : Addr) (fd : FuncData) (ps : List Str), PySem.W.findIn K (.ref C) "__init__" = some (some (.ref fI)) ∧ PySem.W.typeIn K (.ref fI) = some (.type "function") ∧ Binds K fd ps [] ∧ FnOk P w K mg base CX0 k fI fd ps (spXInit C fld)
theorem made_same {H : Hp} {a d C : Addr} {fld : Str} {v : V} (ha : H a = none) (hd : H d = none) (ne : d ≠ a) : upd (del (upd (upd (upd H a (exo a C none)) d (exd d [(fld, v)])) a (exo a C (some d))) a) d (.xd [(fld, v)]) = upd H d (.xd [(fld, v)]) := by
  funext b
  by_cases hb : b = d
  · rw [hb, upd_same, upd_same]
  · rw [upd_ne hb, upd_ne hb]
    by_cases hba : b = a
    · rw [hba, del_same, ha]
    · rw [del_ne hba, upd_ne hba, upd_ne hb, upd_ne hba]
/-- what is left of raise C(v) -/
def mkX (C : Addr) (fld : Str) (Q : XK) : List V → Hp → Prop := fun vs H1 => vs.length ≤ 1000 ∧ ∀ a, H1 a = none → spXInit C fld (.ref a :: (vs ++ [])) (upd H1 a (exo a C none))
  (fun v H2 => v = .non ∧ ∃ (d : Addr) (fs : List (Str × V)), H2 a = some (exo a C (some d)) ∧ H2 d = some (exd d fs) ∧ H1 d = none ∧ Q (.ref C) (some d) (upd (del H2 a) d (.xd fs))) E0
theorem raised {C : Addr} {fld : Str} {Q : XK} {v : V} {H1 : Hp} (hq : ∀ d, H1 d = none → Q (.ref C) (some d) (upd H1 d (.xd [(fld, v)]))) : mkX C fld Q [v] H1 := by
  refine ⟨by show 1 ≤ 1000; decide, fun a na => ⟨a, v, rfl, upd_same, fun dx ndx ne => ⟨rfl, dx, [(fld, v)], upd_same, ?_, ?_, ?_⟩⟩⟩
  · rw [upd_ne ne, upd_same]
  · rw [upd_ne ne] at ndx
    exact ndx
  · rw [upd_ne ne] at ndx
    rw [made_same na ndx ne]
    exact hq dx ndx
section
variable {X : Cx} {W : WX}
def tRaiseN (C : Addr) (fld : Str) (W : WX) (ta : TA) : TS := fun _ σ H => ta σ H (mkX C fld fun cls d H' => W cls d σ H')
theorem ps_raiseN {x fld : Str} {e : Expr} {ta : TA} {p pos pos2 : Pos} {C : Addr} {j k : Nat} (hc : X.calm = true) (tk : L2N.Takes X W) (h : XC X.prog X.w X.K X.mg X.base j x C fld) (hr : Room k X.A) (hg : Gl X x) (ha : PA X [e] ta)
    (hjk : j + 1 ≤ k := by decide) (hdb : (x == ("__debug__" : Str)) = false := by decide) (he : starEach (e :: []) X.env = (false, eval e X.env) :: starEach [] X.env := by rfl) (hpl : (backTo pos (starEach [] X.env)).any (·.1) = false := by rfl) :
    PS X (.Raise (some (.Call (.Name x p) [e] [] pos)) none pos2) (tRaiseN C fld W ta) := by
  obtain ⟨fI, fd, ps, iC, tI, hb, F1⟩ := h.ex
  exact L2N.ps_raise (pos := pos2) hc tk (pmk_oexN (pos := pos) (p := p) h.T iC tI F1 (hr.mono hjk) hb pass0 hg h.g ha hdb he hpl)
end
end Bw

set_option Elab.async false
set_option linter.all false
set_option maxRecDepth 100000
set_option maxHeartbeats 4000000
namespace Bw
open PySem PySem.Spec PyProof.Rows L2 LamX NdefX
/-! ### lambdas as function objects -/
/-- a lambda's words, the cells that it captured, its code object -/
structure LF where
  qual : Str
  params : Arguments
  body : Expr
  scope : Scope
  cl : List (Str × Addr)
  c : Addr
abbrev LF.fd (F : LF) (dV doc pm ctv : Value) : FuncData := PySem.W.kdv_fn "<lambda>" F.qual F.params (.expr F.body) F.scope F.cl dV doc pm (.ref F.c) ctv
def LF.nf (F : LF) : NF := ⟨"<lambda>", F.qual, F.params, [], F.scope, F.cl, F.c⟩
/-- the object at f is the lambda F, its defaults dV -/
def LamO (f : Addr) (F : LF) (dV : Value) : HO := .ext fun h => ∃ (od : Option Addr) (sl : Array (Option Value)) (doc pm ctv : Value), h.get? f = some (⟨.type "function", od, .func (F.fd dV doc pm ctv), sl⟩ : Obj)
theorem lamO_at {P : Program} {w : World} {H : Hp} {h : Heap} {f : Addr} {F : LF} {dV : Value} (hok : HOk P w H h) (e : H f = some (LamO f F dV)) : ∃ (od : Option Addr) (sl : Array (Option Value)) (doc pm ctv : Value), h.get? f = some (⟨.type "function", od, .func (F.fd dV doc pm ctv), sl⟩ : Obj) := by
  obtain ⟨z, _, _⟩ := hok f _ e
  exact z
/-- all but tables stay, and nothing is forgotten -/
structure Grow (H H' : Hp) : Prop where
  ext : ExtN H H'
  none : ∀ b, H' b = Option.none → H b = Option.none
theorem Grow.refl (H : Hp) : Grow H H := ⟨ExtN.refl H, fun _ h => h⟩
theorem Grow.trans {H H1 H2 : Hp} (a : Grow H H1) (b : Grow H1 H2) : Grow H H2 := ⟨a.ext.trans b.ext, fun c h => a.none c (b.none c h)⟩
theorem Grow.of {H H' : Hp} (s : Same H H') : Grow H H' := ⟨ExtN.of s, fun b h => s.free h⟩
section
variable {X : Cx} {pins : List (Addr × Obj)} {σ : L2.St} {H : Hp} {s : Shared}
/-- the function object that was just pushed is tracked from now on -/
theorem inv_lam {F : LF} {dV doc pm ctv : Value} {t' : Nat} (I : Inv X pins σ H s) :
    Inv X pins σ (upd H s.heap.objs.size (LamO s.heap.objs.size F dV)) { s with heap := s.heap.push { cls := .type "function", data := .func (F.fd dV doc pm ctv) }, toks := t' } := by
  have e : (s.heap.push ({ cls := .type "function", data := .func (F.fd dV doc pm ctv) } : Obj)).get? s.heap.objs.size = some ({ cls := .type "function", data := .func (F.fd dV doc pm ctv) } : Obj) := Heap.get?_push_size _ rfl
  refine I.laid (fun b u q => Heap.get?_push_of_some _ q) (Nat.le_refl _) ⟨⟨_, _, doc, pm, ctv, e⟩, ⟨_, e⟩, ?_⟩
  rintro h1 h2 ⟨od, sl, d, p, t, z⟩ st
  exact ⟨od, sl, d, p, t, st _ z⟩
theorem upd_gone {H : Hp} {a b : Addr} {o : HO} (h : upd H a o b = none) : H b = none := by
  by_cases e : b = a
  · rw [e, upd_same] at h
    cases h
  · rw [upd_ne e] at h
    exact h
theorem lam_tail {c P : Addr} {q : Str} {params : Arguments} {body : Expr} {scope : Scope} {pos : Pos} {dV : Value} {E : Value → Shared → Prop} {Q : Value → Shared → Prop} (I : Inv X pins σ H s) (TB : TabB X.base X.mg c P) (hcode : X.env.code = .ref c) (hT : TabS H P q)
    (hfree : ∀ y ∈ scope.names, y.2 = .free → ∃ c, X.env.cells.lookup y.1 = some c)
    (h : ∀ (f c' : Addr) (H1 : Hp) (s' : Shared), Inv X pins σ H1 s' → Grow H H1 → TabS H1 P q → H f = none → H1 f = some (LamO f ⟨q, params, body, scope, cloFrom X.env.cells scope.names [], c'⟩ dV) → H1 c' = some (CodeO c' q) → Q (.ref f) s') :
    wpAny (model X.prog X.w) X.A (makeTail "<lambda>" q params (.expr body) scope X.env dV .none none pos pos.line) Q E s := by
  obtain ⟨ps, hP, ht, ha⟩ := hT
  have bP : s.heap.BuiltinsAt X.mg P := TB.bm.keeps I.bk
  have hP' : s.heap.get? P = some { cls := .none, data := .fields ps } := I.hok P _ hP
  cases hc : codeAmong pos ps.toList with
  | none =>
    refine PySem.W.kdv_makeTail (mg := X.mg) (closure_ok hfree) I.ok.glob (I.mod.glob.keeps I.bk) hcode (TB.code.keeps I.bk) hP' ht hc TB.gP bP fun c' ctv doc h' tk hx hge hlt hrec htb => ?_
    obtain ⟨c2, oc, vs, t, e2, hoc, hd, hv⟩ := hrec
    cases e2
    have nC : H c' = none := I.hok.fresh hge
    have I1 := inv_table (t' := tk) (more := #[rawInt pos.line, rawInt pos.col, .ref c']) (h' := h') I hP hx htb hge ⟨oc, vs, t, hoc, hd, hv⟩
    have hE : ExtN H (upd (upd H P (.tbl (ps ++ #[rawInt pos.line, rawInt pos.col, .ref c']))) c' (CodeO c' q)) := by
      intro b o e n
      have n1 : b ≠ P := by
        rintro rfl
        rw [hP] at e
        exact n ps (Option.some.inj e).symm
      rw [upd_ne (ne_of_none e nC), upd_ne n1]
      exact e
    have eL : (ps ++ #[rawInt pos.line, rawInt pos.col, .ref c']).toList = ps.toList ++ [rawInt pos.line, rawInt pos.col, .ref c'] := by simp
    have T1 : TabS (upd (upd H P (.tbl (ps ++ #[rawInt pos.line, rawInt pos.col, .ref c']))) c' (CodeO c' q)) P q := by
      refine ⟨_, by rw [upd_ne (ne_of_none hP nC), upd_same], by rw [eL]; exact PySem.TriplesOk_snoc _ _ _ _ ht, fun p' cv hcv => ?_⟩
      rw [eL] at hcv
      rcases among_app _ ht hcv with z | z
      · obtain ⟨c0, e1, e2⟩ := ha p' cv z
        exact ⟨c0, e1, hE _ _ e2 codeO_ne⟩
      · exact ⟨c', z, upd_same⟩
    have nF := I1.hok.fresh (Nat.le_refl _)
    have I2 := inv_lam (F := ⟨q, params, body, scope, cloFrom X.env.cells scope.names [], c'⟩) (dV := dV) (doc := doc) (pm := (X.mg "__name__").getD .none) (ctv := ctv) (t' := tk) I1
    refine h h'.objs.size c' _ _ I2 ⟨fun b o e n => ?_, fun b e => upd_gone (upd_gone (upd_gone e))⟩ (T1.ext fun b o e => ?_) (I.hok.fresh (Nat.le_trans hge (Nat.le_of_lt hlt))) upd_same ?_
    · have e1 := hE b o e n
      exact (upd_ne (ne_of_none e1 nF)).trans e1
    · exact (upd_ne (ne_of_none e nF)).trans e
    · exact (upd_ne (Nat.ne_of_lt hlt)).trans upd_same
  | some cv =>
    obtain ⟨c', rfl, hco⟩ := ha pos cv hc
    refine PySem.W.kdv_makeTailHit (mg := X.mg) (closure_ok hfree) I.ok.glob (I.mod.glob.keeps I.bk) hcode (TB.code.keeps I.bk) hP' ht hc bP fun ctv doc h' tk hx hsz => ?_
    have I1 : Inv X pins σ H { s with heap := h', toks := tk } := I.kept hx
    have nF : H h'.objs.size = none := I1.hok.fresh (Nat.le_refl _)
    have I2 := inv_lam (F := ⟨q, params, body, scope, cloFrom X.env.cells scope.names [], c'⟩) (dV := dV) (doc := doc) (pm := (X.mg "__name__").getD .none) (ctv := ctv) (t' := tk) I1
    refine h h'.objs.size c' _ _ I2 (Grow.of fun b o e => ?_) (TabS.ext ⟨ps, hP, ht, ha⟩ fun b o e => ?_) nF upd_same ?_
    · exact (upd_ne (ne_of_none e nF)).trans e
    · exact (upd_ne (ne_of_none e nF)).trans e
    · exact (upd_ne (ne_of_none hco nF)).trans hco
end
/-- the reading of a lambda without parameters -/
def tLam0 (P : Addr) (q : Str) (mk : Addr → LF) : TE := fun _ H Q => TabS H P q ∧ ∀ (f c' : Addr) (H1 : Hp), Grow H H1 → TabS H1 P q → H f = none → H1 f = some (LamO f (mk c') .none) → H1 c' = some (CodeO c' q) → Q (.ref f) H1
/-- .. of one with a parameter that is 0 if it isn't given -/
def tLamD (P : Addr) (q : Str) (mk : Addr → LF) : TE := fun _ H Q => TabS H P q ∧ ∀ (f c' t : Addr) (H1 : Hp), Grow H H1 → TabS H1 P q → H f = none → H1 f = some (LamO f (mk c') (.ref t)) → H1 c' = some (CodeO c' q) → H1 t = some (.tup [.int 0]) → Q (.ref f) H1
section
variable {X : Cx}
theorem pe_lam0 {c P : Addr} {q : Str} {params : Arguments} {body : Expr} {scope : Scope} {pos : Pos} (TB : TabB X.base X.mg c P) (hcode : X.env.code = .ref c) (hq : X.env.qual ++ "<lambda>" = q)
    (hfree : ∀ y ∈ scope.names, y.2 = .free → X.env.scope.names.lookup y.1 = some .cell ∨ X.env.scope.names.lookup y.1 = some .free) (hdef : defaultsOf params X.env = ([], [])) :
    PE X (.Lambda params body scope pos) (tLam0 P q fun c' => ⟨q, params, body, scope, cloFrom X.env.cells scope.names [], c'⟩) := by
  refine ⟨fun pins s σ H Q I h => PySem.W.kla_eval hdef ?_⟩
  have hfr : ∀ y ∈ scope.names, y.2 = .free → ∃ c, X.env.cells.lookup y.1 = some c := fun y hy e => (hfree y hy e).elim (fun z => I.ok.has _ (.inl z)) fun z => I.ok.has _ (.inr z)
  rw [hq, makeFunction_eq]
  simp only [List.zip_nil_right, List.filterMap_nil, List.isEmpty_nil, if_true, pure_bind]
  exact lam_tail I TB hcode h.1 hfr fun f c' H1 s' I1 g T1 n1 e1 e2 => ⟨.ref f, H1, I1, rfl, h.2 f c' H1 g T1 n1 e1 e2⟩
theorem pe_lamD {c P : Addr} {q : Str} {params : Arguments} {body : Expr} {scope : Scope} {pos : Pos} {j : Nat} {pp : Pos} (TB : TabB X.base X.mg c P) (hcode : X.env.code = .ref c) (hq : X.env.qual ++ "<lambda>" = q)
    (hfree : ∀ y ∈ scope.names, y.2 = .free → X.env.scope.names.lookup y.1 = some .cell ∨ X.env.scope.names.lookup y.1 = some .free) (hd : params.defaults = [.Constant (.int 0) j pp]) (hk : params.kw_defaults = []) :
    PE X (.Lambda params body scope pos) (tLamD P q fun c' => ⟨q, params, body, scope, cloFrom X.env.cells scope.names [], c'⟩) := by
  refine ⟨fun pins s σ H Q I h => PySem.W.kdv_lam (by rw [hd]; rfl) hk ?_⟩
  have hfr : ∀ y ∈ scope.names, y.2 = .free → ∃ c, X.env.cells.lookup y.1 = some c := fun y hy e => (hfree y hy e).elim (fun z => I.ok.has _ (.inl z)) fun z => I.ok.has _ (.inr z)
  rw [hd]
  refine PySem.W.kdv_all1 (thn (pe_int.run pins s σ H (fun v H' => v = .int 0 ∧ H' = H) I ⟨rfl, rfl⟩) fun u s1 hh => PySem.W.kdv_all0 ?_)
  obtain ⟨v, H1, I1, r1, rfl, rfl⟩ := hh
  obtain ⟨tk, rfl⟩ := r1
  rw [hq, makeFunction_eq]
  simp only [List.zip_nil_right, List.filterMap_nil, List.isEmpty_nil, List.isEmpty_cons, if_true, Bool.false_eq_true, if_false, pure_bind]
  refine wpAny_bind (wpAny_newTextTuple ?_)
  have nT : H1 s1.heap.objs.size = none := I1.hok.fresh (Nat.le_refl _)
  have I2 : Inv X pins σ (upd H1 s1.heap.objs.size (.tup [.int 0])) { s1 with heap := s1.heap.push { cls := .type "tuple", data := .seq [Value.int 0 tk].toArray } } := by
    refine I1.laid (t' := s1.toks) (fun b u e => Heap.get?_push_of_some _ e) (Nat.le_refl _) ⟨by show 1 ≤ sizeLine; decide, [Value.int 0 tk], .cons ⟨_, rfl⟩ .nil, ?_⟩
    exact ⟨_, Heap.get?_push_size _ rfl, rfl, _, rfl⟩
  have sT : Same H1 (upd H1 s1.heap.objs.size (.tup [.int 0])) := Same.newB nT
  refine lam_tail I2 TB hcode (h.1.ext sT) hfr fun f c' H2 s' I3 g T1 n1 e1 e2 => ⟨.ref f, H2, I3, rfl, h.2 f c' s1.heap.objs.size H2 ((Grow.of sT).trans g) T1 (upd_gone n1) e1 e2 ?_⟩
  exact g.ext _ _ upd_same fun ps z => nomatch z
end
/-! ### a lambda is called -/
theorem CellsAt.un {cl : List (Str × Addr)} {fr : List Str} {ws : List (Option V)} {fs : List Addr} {H H' : Hp} {h h' : Heap} (C : CellsAt cl fr ws h H) (u : Un fs [] H H' h h') : CellsAt cl fr ws h' H' := by
  have kp : ∀ y c, cl.lookup y = some c → ∀ v, h.IsCell c v → h'.IsCell c v := fun y c e v ⟨o, ho, hd⟩ => by
    obtain ⟨sl, q⟩ := u.any ho (C.all y c e).1 (by simp)
    exact ⟨_, q, hd⟩
  refine ⟨C.len, fun y c e => ?_, C.inj, fun i y e => ?_⟩
  · obtain ⟨n, v, z⟩ := C.all y c e
    refine ⟨?_, v, kp y c e v z⟩
    obtain ⟨o, ho, _⟩ := z
    exact u.free c o ho n (by simp)
  · obtain ⟨c, hc, hv⟩ := C.has i y e
    refine ⟨c, hc, fun v ev => ?_⟩
    obtain ⟨u', r, z⟩ := hv v ev
    exact ⟨u', r, kp y c hc _ z⟩
/-- what is bound where nothing is given: no parameter, or one that is 0 -/
def DefAt (H : Hp) (dV : Value) (ps : List Str) (vs : List V) : Prop := (dV = .none ∧ ps = [] ∧ vs = []) ∨ ∃ t x, dV = .ref t ∧ ps = [x] ∧ vs = [.int 0] ∧ H t = some (.tup [.int 0])
/-- the promise of a lambda: sp ws, ws what its captured cells hold at the call -/
structure LamOk (P : Program) (w : World) (K : PySem.W.Frag) (mg : Str → Option Value) (base : Heap) (k : Nat) (F : LF) (ps fr : List Str) (vs : List V) (sp : List (Option V) → Hp → VK → XK → Prop) : Prop where
  run : ∀ (f : Addr) (dV : Value) (A : Around) (outer : List Env) (s : Shared) (H : Hp) (ws : List (Option V)) (Q : VK) (E : XK), Room k A → Env0 P w K mg base A outer s H → H f = some (LamO f F dV) → H F.c = some (CodeO F.c F.qual) → DefAt H dV ps vs →
    CellsAt F.cl fr ws s.heap H → sp ws H Q E → codeAny (model P w) A (.call (.ref f) ⟨[], []⟩) (CR (L2N.CX P w) outer P w H s Q E) s
theorem tup_at {P : Program} {w : World} {H : Hp} {h : Heap} {t : Addr} (hok : HOk P w H h) (e : H t = some (.tup [.int 0])) : ∃ (o : Obj) (n : Nat) (tk : Tok), h.get? t = some o ∧ o.data = .seq #[.int 0 tk] n := by
  obtain ⟨_, its, r, o, ho, hc, n, hd⟩ := hok t _ e
  cases r with
  | cons r rr =>
    cases rr
    obtain ⟨tk, rfl⟩ := r
    exact ⟨o, n, tk, ho, hd⟩
section
variable {P : Program} {w : World} {K : PySem.W.Frag} {mg : Str → Option Value} {base : Heap} {N ps fr : List Str} {vs : List V} {F : LF} {k : Nat} {sp : List (Option V) → Hp → VK → XK → Prop}
theorem lamOk_of (S : NScope N ps fr F.scope) (hb0 : ∀ (doc pm ctv : Value), ps = [] → bindArgs (F.fd .none doc pm ctv) ⟨[], []⟩ = pure [])
    (hb1 : ∀ (t : Addr) (doc pm ctv : Value) (x : Str), ps = [x] → ∃ kk : Option (Array Value) → Sem (List (Str × Value)), bindArgs (F.fd (.ref t) doc pm ctv) ⟨[], []⟩ = (seqItems? (.ref t) >>= kk) ∧ ∀ tk : Tok, kk (some #[.int 0 tk]) = pure [(x, .int 0 tk)])
    (hbody : ∀ (f : Addr) (A : Around) (outer : List Env) (s : Shared) (H : Hp) (ws : List (Option V)) (Q : VK) (E : XK), Room k (A.deeper (envF F.nf f s.heap.objs.size)) → ws.length = fr.length → sp ws H Q E → ∃ t, PE (ncx (L2N.CX P w) P w K mg base N F.nf f A outer s H E) F.body t ∧ t (startF N vs ws) H Q) :
    LamOk P w K mg base (k + 1) F ps fr vs sp := by
  refine ⟨fun f dV A outer s H ws Q E hr e0 hf hc hD C hsp => ?_⟩
  have lim : s.heap.NoLimit := e0.mod.nolimit.keeps fun b o e => (e0.bs b o e).1
  obtain ⟨od, sl, doc, pm, ctv, ho⟩ := lamO_at e0.hok hf
  obtain ⟨us, r, hl, hb⟩ : ∃ us, Vals vs us ∧ vs.length = ps.length ∧ BindsTo s (F.fd dV doc pm ctv) ⟨[], []⟩ (ps.zip us) := by
    rcases hD with ⟨rfl, hps, rfl⟩ | ⟨t, x, rfl, hps, rfl, ht⟩
    · refine ⟨[], .nil, by rw [hps]; rfl, .of_eq ?_⟩
      rw [hps]
      exact hb0 doc pm ctv hps
    · obtain ⟨o, n, tk, ho', hd'⟩ := tup_at e0.hok ht
      obtain ⟨kk, g1, g2⟩ := hb1 t doc pm ctv x hps
      refine ⟨[.int 0 tk], .cons ⟨_, rfl⟩ .nil, by rw [hps]; rfl, ?_⟩
      rw [hps]
      exact BindsTo.of_defaults rfl ho' hd' g1 (g2 tk)
  refine PySem.W.kla_callFunE hr.depth ho rfl S.co S.gen rfl (codeO_at e0.hok hc) (hb _ _ _ _ ?_)
  refine wpAny_newFunctionEnv S.nocell (fun y hy => S.par y.1 (List.of_mem_zip hy).1) (fun h₁ hns hsb => ⟨lim.fresh _ hsb, ?_⟩) S.kind
  show codeAny _ _ (.expr F.body (envF F.nf f s.heap.objs.size)) _ _
  have kp : ∀ b o, s.heap.get? b = some o → h₁.get? b = some o := fun b o e => hsb.extBut b o (Nat.ne_of_lt (Heap.lt_size e)) (Heap.get?_push_of_some _ e)
  obtain ⟨t, ht, hq⟩ := hbody f A outer s H ws Q E (hr.deeper _) C.len hsp
  have I : Inv (ncx (L2N.CX P w) P w K mg base N F.nf f A outer s H E) [] (startF N vs ws) H { s with heap := h₁, toks := s.toks + (ps.zip us).length } := inv_startN (F := F.nf) S hr.hd e0 hl r C hns kp
  refine PySem.W.kla_codeExpr (wpAny_mono (ht.run [] _ _ H Q I hq) (fun u s' hs => ?_) fun e s' hs => hs)
  obtain ⟨v, H', J, rv, q⟩ := hs
  exact ⟨v, H', J.os, J.bare, J.base, J.hok, rv, q⟩
end
end Bw

set_option Elab.async false
set_option linter.all false
set_option maxRecDepth 100000
set_option maxHeartbeats 4000000
namespace Bw
open PySem PySem.Spec PyProof.Rows L2 LamX NdefX
/-! ### the end of a walk over a list, while an exception is handled -/
theorem ref_nn (l : Addr) : ¬ ((Value.ref l == Value.none) = true) := Bool.false_ne_true
theorem list_end_hot {prog : Program} {w : World} {A : Around} {E : Value → Shared → Prop} {s : Shared} {it l x1 : Addr} {i : Nat} {items : Array Value} {Q : Option Value → Shared → Prop} (hot : HotX.HotAt A x1 s.heap) (hit : s.heap.IsListIter it l i) (hl : s.heap.IsList l items) (hx : items[i]? = none) (hne : x1 ≠ it)
    (hQ : ∀ h', (∀ b o, b ≠ it → s.heap.get? b = some o → h'.get? b = some o) → Q none { s with heap := h' }) : wpAny (model prog w) A (pyNext (.ref it)) Q E s := by
  obtain ⟨o, ho, hc, hd⟩ := id hit
  obtain ⟨ol, hol, _, nl, hdl⟩ := hl
  obtain ⟨hh, o1, vs1, h1, d1, c1⟩ := hot
  unfold pyNext
  refine wpAny_bind (wpAny_attempt (wpAny_callSpecial?_slot (name := Str.ofString "__next__") hit.typeIs slot_listiter_next (wpAny_call_entry slot_listiter_next hit.typeIs entry_listiter_next ?_ (args_listiter_next _))))
  show wpAny _ _ (field (.ref it) 0 >>= _) _ _ _
  refine wpAny_bind (wpAny_field ho hd (x := .ref l) rfl ?_)
  show wpAny _ _ (if (Value.ref l == Value.none) = true then _ else _) _ _ _
  rw [if_neg (ref_nn l)]
  show wpAny _ _ (field (.ref it) 1 >>= _) _ _ _
  refine wpAny_bind (wpAny_field ho hd (x := .int i 0) rfl (?_ : wpAny _ _ (seqItems? (.ref l) >>= _) _ _ _))
  refine wpAny_bind (wpAny_seqItems hol hdl ?_)
  simp only [Int.toNat_natCast, hx]
  refine wpAny_bind (wpAny_rule (wpAny_bind (wpAny_setField ho hd (by simp) (?_ : wpAny _ _ (newExc (.type "StopIteration") [] >>= _) _ _ _))))
  refine wpAny_bind ?_
  simp only [newExc, newTuple]
  refine wpAny_bind (wpAny_newObj_type (wpAny_bind (m := firstArgMember _ _) (wpAny_of_eq (a := Value.none) (by first | rfl | (simp only [firstArgMember]; rfl)) (wpAny_newObj_type ?_ (by size_fits)))) (by size_fits))
  have h1' : (s.heap.update it (Obj.mapFields (·.setIfInBounds 0 .none))).get? x1 = some o1 := (Heap.get?_update_other _ _ (Ne.symm hne)).trans h1
  refine HotX.raiseNew_hot (x1 := x1) ⟨hh, o1, vs1, Heap.get?_push_of_some _ (Heap.get?_push_of_some _ h1'), d1, c1⟩ (Nat.ne_of_lt (Heap.lt_size (Heap.get?_push_of_some _ h1'))) (Heap.get?_push_size _ rfl) rfl (by first | (simp; done) | (simp; omega)) ?_
  refine wpAny_bind (wpAny_isInstance (T := "StopIteration") (b := true) ⟨_, Heap.get?_update_self _ (Heap.get?_push_size _ rfl) rfl, rfl⟩ isSubtype_stop (wpAny_pure (hQ _ fun b o' hb e => ?_)))
  have e1 : (s.heap.update it (Obj.mapFields (·.setIfInBounds 0 .none))).get? b = some o' := (Heap.get?_update_other _ _ (Ne.symm hb)).trans e
  rw [Heap.get?_update_other _ _ (Nat.ne_of_gt (Heap.lt_size (Heap.get?_push_of_some _ e1)))]
  exact Heap.get?_push_of_some _ (Heap.get?_push_of_some _ e1)
/-- a walk over a list ends well in Y -/
def EndL (Y : Cx) : Prop := ∀ (pins : List (Addr × Obj)) (σ : L2.St) (H : Hp) (s : Shared) (it a : Addr) (i : Nat) (its : Array Value) (E : Value → Shared → Prop), Inv Y pins σ H s → FpOk Y pins H it → s.heap.IsListIter it a i → s.heap.IsList a its → its[i]? = none →
  wpAny (model Y.prog Y.w) Y.A (pyNext (.ref it)) (fun r s1 => r = none ∧ Inv Y pins σ H s1) E s
theorem EndL.calm {Y : Cx} (hc : Y.calm = true) : EndL Y := by
  intro pins σ H s it a i its E I hf hit hl hx
  obtain ⟨f0, f1, f2, f3, f4, f5⟩ := hf
  exact wpAny_pyNext_list_end (I.ok.hd hc) hit hl hx fun h' eb => ⟨rfl, I.turned (t' := s.toks) (fun b o hb e => eb b o hb e) f0 f1 f3 f4 f5⟩
/-- what stands at x1 at the block's start, untracked and out of the way, is the handled exception -/
theorem EndL.hot {Y : Cx} {x1 : Addr} {o : Obj} {vs : Array Value} (hh : Y.A.handled = some (.ref x1)) (ho : Y.s_0.heap.get? x1 = some o) (hd : o.data = .fields vs) (hv : vs[2]? = some .none) (hn : Y.H_0 x1 = none) (hx : x1 ∉ Y.ex) : EndL Y := by
  intro pins σ H s it a i its E I hf hit hl hx'
  obtain ⟨f0, f1, f2, f3, f4, f5⟩ := hf
  obtain ⟨sl, e⟩ := I.base.any ho hn hx
  have hne : x1 ≠ it := by
    rintro rfl
    rcases f3 with z | z
    · exact hx z
    · exact absurd (Nat.lt_of_lt_of_le (Heap.lt_size ho) z) (Nat.lt_irrefl _)
  exact list_end_hot ⟨hh, _, vs, e, hd, hv⟩ hit hl hx' hne fun h' kb => ⟨rfl, I.turned (t' := s.toks) kb f0 f1 f3 f4 f5⟩
/-! ### a comprehension over a list that knows what stood at its start -/
section
variable {X : Cx}
theorem lcG_core {pins : List (Addr × Obj)} {s : Shared} {σ : L2.St} {H : Hp} {Q : VK} {elt tg iter : Expr} {ifs : List Expr} {scope : Scope} {own : List (Str × Nat)} {pos pos' : Pos} {ti : TE} {g : TG} {tt : TT} {te : TE} (G : Shared → Hp → Addr → Prop)
    (hN : X.N.Nodup) (I : Inv X pins σ H s) (hi : PE X iter ti) (ok : BlkOk X.N X.env.scope scope own) (hG : ∀ H' s' it, Inv X pins σ H' s' → FpOk X pins H' it → G s' H' it)
    (hg : ∀ (s : Shared) (H : Hp) (C : Addr) (cl : List (Str × Addr)) (fp : List Addr), PG (X.blk s H scope (compEnvC scope cl C X.env) fp) tg g)
    (ht : ∀ (s : Shared) (H : Hp) (C : Addr) (cl : List (Str × Addr)) (it : Addr), G s H it → PTs (X.blk s H scope (compEnvC scope cl C X.env) [it]) ifs tt)
    (he : ∀ (s : Shared) (H : Hp) (C : Addr) (cl : List (Str × Addr)) (it : Addr), G s H it → PE (X.blk s H scope (compEnvC scope cl C X.env) [it]) elt te)
    (hE : ∀ (s : Shared) (H : Hp) (C : Addr) (cl : List (Str × Addr)) (it : Addr), G s H it → EndL (X.blk s H scope (compEnvC scope cl C X.env) [it])) (hs : ∀ x, foldedSetIterable iter X.env x = pure x)
    (h : tLc (iList X.K ti) g tt te (own.map (·.2)) σ H Q) :
    wpAny (model X.prog X.w) X.A (comprehension (.ListComp elt [⟨tg, iter, ifs, 0⟩] scope pos) scope X.env pos' (newList []) false (eval iter X.env) none) (EP X pins σ Q) X.xe s := by
  have hfree : ∀ y ∈ scope.names, y.2 = .free → ∃ c, X.env.cells.lookup y.1 = some c := fun y hy e => (ok.free y hy e).elim (fun z => I.ok.has _ (.inl z)) fun z => I.ok.has _ (.inr z)
  refine wpAny_comprehension_free (use := none) rfl hs (closure_ok hfree) ok.kind (fun y hy e => (ok.uniq y hy).trans (by rw [e])) (thn (hi.run pins s σ H _ I h) fun xv s1 hx => ?_)
  obtain ⟨v, H1, I1, r1, a, rfl, ⟨xs, hq⟩, q⟩ := hx
  cases r1
  obtain ⟨its1, rv1, p1, _⟩ := I1.list hq
  refine wpAny_pyIter_list p1.isList ?_
  generalize hit : s1.heap.objs.size = it
  -- the iterator
  have I2 : Inv X pins σ H1 { s1 with heap := s1.heap.push { cls := .type "list_iterator", data := .fields #[.ref a, .int 0 0] } } := I1.kept (t' := s1.toks) fun b o e => Heap.get?_push_of_some _ e
  have f2 : FpOk X pins H1 it := I1.fpOk (Nat.le_of_eq hit) (I1.hok.fresh (Nat.le_of_eq hit))
  have st2 : (s1.heap.push { cls := .type "list_iterator", data := .fields #[.ref a, .int 0 0] }).IsListIter it a 0 := by
    subst hit
    exact ⟨_, Heap.get?_push_size _ rfl, rfl, rfl⟩
  generalize hs2 : ({ s1 with heap := s1.heap.push { cls := .type "list_iterator", data := .fields #[.ref a, .int 0 0] } } : Shared) = s2 at I2 ⊢
  have e2 : s2.heap = s1.heap.push { cls := .type "list_iterator", data := .fields #[.ref a, .int 0 0] } := by rw [← hs2]
  rw [← e2] at st2
  have itlt : it < s2.heap.objs.size := by
    obtain ⟨o, z, _⟩ := st2
    exact Heap.lt_size z
  refine wpAny_newObj_type (newEnv_comp ?_) (by show 0 ≤ sizeLine; decide)
  generalize hD : s2.heap.objs.size = D
  have nD : H1 D = none := I2.hok.fresh (Nat.le_of_eq hD)
  obtain ⟨W, ⟨m0, w0⟩, turn⟩ := q D nD
  have nDit : it ≠ D := by
    rw [← hD]
    exact Nat.ne_of_lt itlt
  generalize hs3 : ({ s2 with heap := s2.heap.push { cls := .type "list", data := .seq ([] : List Value).toArray } } : Shared) = s3
  have I3 : Inv X pins σ (upd H1 D (.lst [])) s3 := by
    subst hs3
    refine I2.laid (t' := s2.toks) (fun b o e => Heap.get?_push_of_some _ e) (Nat.le_of_eq hD) ⟨Nat.zero_le _, [], 0, .nil, ?_⟩
    subst hD
    exact Heap.get?_push_size _ rfl
  have st3 : s3.heap.IsListIter it a 0 := by
    subst hs3
    exact st2.at fun o e => Heap.get?_push_of_some _ e
  have f3 : FpOk X pins (upd H1 D (.lst [])) it := ⟨by rw [upd_ne nDit]; exact f2.1, f2.2⟩
  have it3 : it < s3.heap.objs.size := by
    obtain ⟨o, z, _⟩ := st3
    exact Heap.lt_size z
  have I4 := block_start (fp := [it]) I3 ok hN fun b hb => by
    rw [List.mem_singleton.mp hb]
    exact ⟨f3, it3⟩
  have g3 := hG _ _ it I3 f3
  have pg := hg s3 (upd H1 D (.lst [])) s3.heap.objs.size (cellsFrom (s3.heap.objs.size + 1) scope.names (cloFrom X.env.cells scope.names [])) [it]
  have pt := ht s3 (upd H1 D (.lst [])) s3.heap.objs.size (cellsFrom (s3.heap.objs.size + 1) scope.names (cloFrom X.env.cells scope.names [])) it g3
  have pe := he s3 (upd H1 D (.lst [])) s3.heap.objs.size (cellsFrom (s3.heap.objs.size + 1) scope.names (cloFrom X.env.cells scope.names [])) it g3
  have pE := hE s3 (upd H1 D (.lst [])) s3.heap.objs.size (cellsFrom (s3.heap.objs.size + 1) scope.names (cloFrom X.env.cells scope.names [])) it g3
  have fit : (upd H1 D (.lst [])) it = none := f3.1
  generalize hce : compEnvC scope (cellsFrom (s3.heap.objs.size + 1) scope.names (cloFrom X.env.cells scope.names [])) s3.heap.objs.size X.env = ce at I4 pg pt pe pE
  show codeAny _ _ (.compStart (.ListComp elt [⟨tg, iter, ifs, 0⟩] scope pos) 0 (.ref it) (.ref D) (compEnvC scope (cellsFrom (s3.heap.objs.size + 1) scope.names (cloFrom X.env.cells scope.names [])) s3.heap.objs.size X.env)) (compPost (model X.prog X.w) X.A X.xe none (EP X pins σ Q) (.ref D) s3.heap.objs.size) { s3 with heap := pushCells (s3.heap.push { cls := .type "dict", data := .dict #[] }) scope.names }
  rw [hce]
  have cL : ce.locals = s3.heap.objs.size := by
    subst hce
    rfl
  generalize hs4 : ({ s3 with heap := pushCells (s3.heap.push { cls := .type "dict", data := .dict #[] }) scope.names } : Shared) = s4 at I4 ⊢
  have st4 : s4.heap.IsListIter it a 0 := by
    subst hs4
    exact st3.at fun o e => pushCells_keeps _ _ _ _ (Heap.get?_push_of_some _ e)
  generalize hH3 : upd H1 D (.lst []) = H3 at I3 I4 pg pt pe pE w0 f3 fit
  generalize hv0 : own.map (·.2) = vs at turn I4
  have fpk : ∀ {σ' : L2.St} {H' : Hp} {s' : Shared}, Inv (X.blk s3 H3 scope ce [it]) [] σ' H' s' → H' it = none → FpOk (X.blk s3 H3 scope ce [it]) [] H' it := fun {σ' H' s'} J hn =>
    have m : it ∈ (X.blk s3 H3 scope ce [it]).ex := List.mem_singleton.mpr rfl
    ⟨hn, (J.ok.exf it m).1, J.ok.exfs it m, .inl m, (J.ok.exf it m).2, fun p hp => nomatch (show p ∈ ([] : List (Addr × Obj)) from hp)⟩
  have loop : codeAny (model X.prog X.w) X.A (.compLoop (.ListComp elt [⟨tg, iter, ifs, 0⟩] scope pos) 0 (.ref it) (.ref D) ce) (compPost (model X.prog X.w) X.A X.xe none (EP X pins σ Q) (.ref D) s3.heap.objs.size) s4 := by
    refine compLoop_any (fun n s' => ∃ i H', Inv (X.blk s3 H3 scope ce [it]) [] (wipe σ vs) H' s' ∧ s'.heap.IsListIter it a i ∧ H' it = none ∧ W i n H') ?_ m0 ⟨0, H3, I4, st4, fit, w0⟩
    rintro n s5 ⟨i, H5, I5, st5, n5, w5⟩
    have fk := fpk I5 n5
    rcases turn i n H5 w5 with ⟨⟨ys, hys, hyl⟩, qq⟩ | ⟨⟨ys, y, hys, hyi⟩, Nx, hNx, step⟩
    · obtain ⟨its, rv, p5, _⟩ := I5.list hys
      have hend : its.toArray[i]? = none := by
        have := rv.length
        simp
        omega
      refine thnF (pE [] _ H5 s5 it a i its.toArray (fun _ _ => False) I5 fk st5 p5.isList hend) fun r s6 hr => ?_
      obtain ⟨rfl, I6⟩ := hr
      have I7 : Inv X pins σ H5 s6 := I3.call' (ch := [it]) I6.os I6.base I6.hok I6.bare fun b hb => by
        rw [List.mem_singleton.mp hb]
        exact ⟨f3.2.2.2.1, f3.2.1, f3.2.2.2.2.1, f3.2.2.2.2.2⟩
      have nC : H5 s3.heap.objs.size = none := by
        have z : H5 ce.locals = none := I6.free
        rw [cL] at z
        exact z
      obtain ⟨m, hn, _⟩ := I6.loc
      have hn' : s6.heap.Ns ce.locals m := hn
      rw [cL] at hn'
      obtain ⟨c0, c1, c2, c3, c4, c5⟩ := I3.fpOk (H' := H5) (Nat.le_refl _) nC
      exact ⟨m, hn', fun h' sb => ⟨.ref D, H5, I7.turned (t' := s6.toks) (fun b o hb e => (sb.2 b hb).trans e) c0 c1 c3 c4 c5, rfl, qq⟩⟩
    · obtain ⟨its, rv, p5, _⟩ := I5.list hys
      obtain ⟨u, hu, ru⟩ := rv.get hyi
      obtain ⟨k0, k1, k2, k3, k4, k5⟩ := id fk
      refine wpAny_pyNext_list_item st5 p5.isList (x := u) (by simpa using hu) fun h6 st6 sb => ?_
      have I6 : Inv (X.blk s3 H3 scope ce [it]) [] (wipe σ vs) H5 { s5 with heap := h6 } := I5.turned (t' := s5.toks) (fun b o hb e => (sb.2 b hb).trans e) k0 k1 k3 k4 k5
      obtain ⟨oi, zi, ci, di⟩ := id st6
      refine go_of (s := { s5 with heap := h6 }) zi ci di (by decide) ?_
      have I7 := I6.pinned (fp := [it]) (fun b hb => by rw [List.mem_singleton.mp hb]; exact fk) (fun b hb => by
        rw [List.mem_singleton.mp hb]
        exact ⟨oi, zi, fun v z => by rw [di] at z; cases z⟩)
      have yl : (Itl X.K a).yld i H5 y H5 := ⟨rfl, fun zs hz => by rw [I5.list_inj hz hys]; exact hyi⟩
      refine thnF (pg.run _ _ _ H5 y u _ I7 ru (step y H5 yl)) fun _ s8 h8 => ?_
      obtain ⟨σ8, H8, I8, hw8, q8⟩ := h8
      refine thnF (pt.run _ s8 σ8 H8 _ I8 q8) fun b s9 h9 => ?_
      obtain ⟨H9, I9, q9⟩ := h9
      have fin : ∀ {s' : Shared} {H' : Hp}, Inv (X.blk s3 H3 scope ce [it]) ([] ++ pinsAt [it] h6) σ8 H' s' → Nx H' → ∃ m, m < n ∧ ∃ i H', Inv (X.blk s3 H3 scope ce [it]) [] (wipe σ vs) H' s' ∧ s'.heap.IsListIter it a i ∧ H' it = none ∧ W i m H' := by
        intro s' H' J nx
        obtain ⟨m', hm, w'⟩ := hNx H' nx
        obtain ⟨z1, z2, _⟩ := J.pin (it, oi) (List.mem_append_right _ (List.mem_append_right _ (mem_pinsAt (List.mem_singleton.mpr rfl) zi)))
        have hl : (wipe σ vs).length = σ8.length := by rw [← hw8, wipe_length]
        exact ⟨m', hm, i + 1, H', (J.unpinned (pins := [])).weak hl (fun j v e => by rw [← hw8] at e; exact (wipe_some e).1), ⟨oi, z1, ci, di⟩, z2, w'⟩
      cases b with
      | false => exact fin I9 (by simpa using q9)
      | true =>
        have q9' : te σ8 H9 fun y H4 => ∃ acc, H4 D = some (.lst acc) ∧ acc.length < sizeLine ∧ Nx (upd H4 D (.lst (acc ++ [y]))) := by simpa using q9
        refine thnF (pe.run _ s9 σ8 H9 _ I9 q9') fun z s10 h10 => ?_
        obtain ⟨yv, H10, I10, r10, acc, hD10, hz10, nx⟩ := h10
        exact app_ok (X := X.blk s3 H3 scope ce [it]) I10 hD10 hz10 r10 fun s11 I11 => fin I11 nx
  exact codeAny_compStart_list loop (wpAny_pyIter_listiter st4 loop)
end
end Bw

set_option Elab.async false
set_option linter.all false
set_option maxRecDepth 100000
set_option maxHeartbeats 4000000
namespace Bw
open PySem PySem.Spec PyProof.Rows L2 LamX NdefX
theorem takes0N {X : Cx} : L2N.Takes X (fun _ _ _ _ => False) := fun _ _ x => by
  obtain ⟨_, _, _, _, _, _, _, _, _, _, _, _, _, _, _, _, z⟩ := x
  exact z.elim
/-- a def that may raise, by its name -/
structure HasN (P : Program) (w : World) (K : PySem.W.Frag) (mg : Str → Option Value) (base : Heap) (k : Nat) (x : Str) (ps : List Str) (sp : Sp) : Prop where
  ex : ∃ f fd, mg x = some (.ref f) ∧ PySem.W.keepIn K (.ref f) = true ∧ Binds K fd ps [] ∧ FnOk P w K mg base (L2N.CX P w) k f fd ps sp
theorem pe_fnN {X : Cx} {j k : Nat} {x : Str} {ps : List Str} {sp : Sp} {E : XK} {e : Expr} {es : List Expr} {t : TA} {p pos : Pos} (h : HasN X.prog X.w X.K X.mg X.base j x ps sp) (hr : Room k X.A) (hg : Gl X x) (tk : L2N.Takes X (fun cls d _ H => E cls d H)) (ha : PA X (e :: es) t)
    (hjk : j ≤ k := by decide) (hdb : (x == ("__debug__" : Str)) = false := by decide) (he : starEach (e :: es) X.env = (false, eval e X.env) :: starEach es X.env := by rfl) (hpl : (backTo pos (starEach es X.env)).any (·.1) = false := by rfl) :
    PE X (.Call (.Name x p) (e :: es) [] pos) (tCall sp [] E t) := by
  obtain ⟨f, fd, hm, hk, hb, F⟩ := h.ex
  exact pe_call F (hr.mono hjk) hg hm hk hb .nil (L2N.passes_call tk fun _ _ _ _ z => z) ha hdb he hpl
/-! ### isinstance of the caught error, its fields in a dict -/
def rIsX (K : PySem.W.Frag) (a : Addr) (cls : Value) (d : Option Addr) : List V → Hp → VK → Prop := fun xs H Q => ∃ (D dd : Addr) (fs : List (Str × V)) (c : V) (cv : Value) (b : Bool), cls = .ref D ∧ d = some dd ∧ ExcC K D ∧ H dd = some (.xd fs) ∧ xs = [.ref a, c] ∧ (∀ u, RelV c u → u = cv) ∧ PySem.W.kitOne K (.ref D) cv = some b ∧ Q (.bl b) H
theorem call_isX {X : Cx} {a : Addr} {oe : Obj} {cls : Value} {d : Option Addr} {pn : List (Addr × Obj)} (hz : L2N.Zn cls d oe) (hf : ∃ vs, oe.data = .fields vs) : CallR (X.suite a ((a, oe) :: pn)) (.builtin "isinstance") (rIsX X.K a cls d) := by
  intro pins s σ H xs us Q I r h
  obtain ⟨D, dd, fs, c, cv, b, rfl, rfl, C, hdd, rfl, hcv, e, q⟩ := h
  cases r with
  | cons rx rr =>
    cases rr with
    | cons rt rr =>
      cases rr
      cases rx
      have ec := hcv _ rt
      subst ec
      have hget := (I.pin (a, oe) (List.mem_append.mpr (.inl List.mem_cons_self))).1
      obtain ⟨vs, hv⟩ := hf
      obtain ⟨mA, hns, _⟩ := I.hok dd _ hdd
      obtain ⟨od, ho, _⟩ := lookIn_ns hns
      have J : PySem.W.InstAt s.heap a oe D (some od) := ⟨hget, hz.1, by unfold PySem.W.notCls; rw [hv] <;> rfl, by rw [hz.2.1]; exact ho⟩
      have hcl : (PySem.W.clsIn X.K D).isSome = true := by
        obtain ⟨cd, hc, _⟩ := PySem.W.any_some C.hd
        rw [hc]
        rfl
      exact PySem.W.kia_one (PySem.W.kitx_exc hcl C.hg C.hk C.hs C.ha C.hn C.ht C.hm) I.kIn J e (fun z => nomatch z) fun tk => ⟨.bl b, H, I.kept (t' := tk) fun _ _ z => z, rfl, q⟩
/-! ### a comprehension in the suite -/
theorem pe_lcH {X : Cx} {a : Addr} {oe : Obj} {cls : Value} {d : Option Addr} {pn : List (Addr × Obj)} {elt tg iter : Expr} {ifs : List Expr} {scope : Scope} {own : List (Str × Nat)} {pos : Pos} {ti : TE} {g : TG} {tt : TT} {te : TE} (hz : L2N.Zn cls d oe) (hf : ∃ vs, oe.data = .fields vs) (hN : X.N.Nodup)
    (hi : PE (X.suite a ((a, oe) :: pn)) iter ti) (ok : BlkOk X.N X.env.scope scope own)
    (hg : ∀ (s : Shared) (H : Hp) (C : Addr) (cl : List (Str × Addr)) (fp : List Addr), PG ((X.suite a ((a, oe) :: pn)).blk s H scope (compEnvC scope cl C X.env) fp) tg g)
    (ht : ∀ (s : Shared) (H : Hp) (C : Addr) (cl : List (Str × Addr)) (fp : List Addr), PTs ((X.suite a ((a, oe) :: pn)).blk s H scope (compEnvC scope cl C X.env) fp) ifs tt)
    (he : ∀ (s : Shared) (H : Hp) (C : Addr) (cl : List (Str × Addr)) (fp : List Addr), PE ((X.suite a ((a, oe) :: pn)).blk s H scope (compEnvC scope cl C X.env) fp) elt te) (hs : ∀ x, foldedSetIterable iter X.env x = pure x := by intro _; rfl) :
    PE (X.suite a ((a, oe) :: pn)) (.ListComp elt [⟨tg, iter, ifs, 0⟩] scope pos) (tLc (iList X.K ti) g tt te (own.map (·.2))) := by
  obtain ⟨vs, hv⟩ := hf
  refine ⟨fun pins s σ H Q I h => ?_⟩
  rw [eval_ListComp]
  refine lcG_core (X := X.suite a ((a, oe) :: pn)) (fun s H it => s.heap.get? a = some oe ∧ H a = none ∧ a ≠ it) hN I hi ok (fun H' s' it J f => ?_) hg (fun s H C cl it _ => ht s H C cl [it]) (fun s H C cl it _ => he s H C cl [it]) (fun s H C cl it G => ?_) hs h
  · have p := J.pin (a, oe) (List.mem_append.mpr (.inl List.mem_cons_self))
    exact ⟨p.1, p.2.1, f.2.2.2.2.2 (a, oe) (List.mem_append.mpr (.inl List.mem_cons_self))⟩
  · exact EndL.hot (x1 := a) rfl G.1 hv (hz.2.2 vs hv) G.2.1 (by simpa using G.2.2)
/-! ### a callee that is handed in -/
/-- at what follows on (s0, H0) the lambda at f answers as T says -/
def ActL (P : Program) (w : World) (K : PySem.W.Frag) (mg : Str → Option Value) (base : Heap) (kk : Nat) (f : Addr) (F : LF) (dV : Value) (T : Hp → VK → XK → Prop) (fs : List Addr) (s0 : Shared) (H0 : Hp) : Prop :=
  ∀ (A : Around) (outer : List Env) (s : Shared) (H : Hp) (Q : VK) (E : XK), Room kk A → Env0 P w K mg base A outer s H → Un fs [] H0 H s0.heap s.heap → H f = some (LamO f F dV) → T H Q E → codeAny (model P w) A (.call (.ref f) ⟨[], []⟩) (CR (L2N.CX P w) outer P w H s Q E) s
def tyL (F : LF) (dV : Value) (ps : List Str) (vs : List V) (sp : List (Option V) → Hp → VK → XK → Prop) (ws : List (Option V)) : Hp → VK → XK → Prop := fun H Q E => H F.c = some (CodeO F.c F.qual) ∧ DefAt H dV ps vs ∧ sp ws H Q E
theorem actL_of {P : Program} {w : World} {K : PySem.W.Frag} {mg : Str → Option Value} {base : Heap} {kk : Nat} {F : LF} {ps fr : List Str} {vs : List V} {sp : List (Option V) → Hp → VK → XK → Prop} (L : LamOk P w K mg base kk F ps fr vs sp) {f : Addr} {dV : Value} {ws : List (Option V)} {fs : List Addr} {s0 : Shared} {H0 : Hp} (C : CellsAt F.cl fr ws s0.heap H0) :
    ActL P w K mg base kk f F dV (tyL F dV ps vs sp ws) fs s0 H0 := fun A outer s H Q E hr e0 u hf ⟨hc, hD, hs⟩ => L.run f dV A outer s H ws Q E hr e0 hf hc hD (CellsAt.un C u) hs
/-- x(), x the name (slot i) that holds it: Z is the context of the def that was handed it at (s0, H0) -/
theorem pe_actN {CXg : CXT} {P : Program} {w : World} {K : PySem.W.Frag} {mg : Str → Option Value} {base : Heap} {Ng : List Str} {qg : Str} {sg : Scope} {gg : Addr} {cdg : Value} {A0 : Around} {outer0 : List Env} {s0 : Shared} {H0 : Hp} {Eg : XK} {pn : List (Addr × Obj)} {xe : Value → Shared → Prop} {W : WX} {kk i : Nat} {f : Addr} {F : LF} {dV : Value} {T : Hp → VK → XK → Prop} {x : Str} {p1 p2 : Pos}
    (hact : ActL P w K mg base kk f F dV T (frs outer0) s0 H0) (tk : L2N.Takes ((cxOf CXg P w K mg base Ng qg sg gg cdg A0 outer0 s0 H0 Eg).tr pn xe) W) (hr : Room kk (cxOf CXg P w K mg base Ng qg sg gg cdg A0 outer0 s0 H0 Eg).A) (hN : Ng[i]? = some x) (hv : Vis sg x)
    (hd : (x == ("__debug__" : Str)) = false := by decide) (hcd : (x == ("__classdict__" : Str)) = false := by decide) :
    PE ((cxOf CXg P w K mg base Ng qg sg gg cdg A0 outer0 s0 H0 Eg).tr pn xe) (.Call (.Name x p1) [] [] p2) (fun σ H Q => σ[i]? = some (some (.ref f)) ∧ H f = some (LamO f F dV) ∧ T H Q fun cls d H' => W cls d σ H') := by
  refine ⟨fun pins s σ H Q I h => ?_⟩
  obtain ⟨hs, hf, ht⟩ := h
  refine wpAny_Call_Name_kw (thn ((pe_var (pos := p1) (i := i) hN hv hd hcd).run pins s σ H (fun v H1 => v = .ref f ∧ H1 = H) I ⟨.ref f, hs, rfl, rfl⟩) fun u s1 hh => ?_)
  obtain ⟨v, H1, I1, r1, rfl, rfl⟩ := hh
  obtain rfl : u = Value.ref f := r1
  obtain ⟨od, sl, doc, pm, ctv, ho⟩ := lamO_at I1.hok hf
  refine PySem.W.callWith_F0 (first := []) ⟨_, od, _, sl, ho⟩ ?_
  show wpAny _ _ (call (.ref f) []) _ _ _
  have un : Un (frs outer0) [] H0 H1 s0.heap s1.heap := I1.base
  refine wpAny_call (codeAny_mono (hact _ _ s1 H1 Q (fun cls d H' => W cls d σ H') hr I1.env0 un hf ht) fun r s' hq => ?_)
  match r, hq with
  | .error e, hq => exact L2N.passAt tk σ pins H1 s1 e s' I1 hq
  | .ok (.ret u), hq => exact I1.after hq
  | .ok .next, hq => exact hq.elim
  | .ok .brk, hq => exact hq.elim
  | .ok .cont, hq => exact hq.elim
/-! ### refusals -/
inductive Wd where
  | line
  | rule
  | heard
  | text
  deriving DecidableEq
def Wd.word : Wd → Str
  | .line => "line"
  | .rule => "rule"
  | .heard => "heard"
  | .text => "text"
def Wd.fld : Wd → Str
  | .line => "why"
  | .rule => "number"
  | .heard => "at"
  | .text => "place"
def Wd.cls : Wd → Str
  | .line => "BadLine"
  | .rule => "BadRule"
  | .heard => "BadHeard"
  | .text => "BadText"
def wds : List Wd := [.line, .rule, .heard, .text]
/-- what the written part says of the errors' classes -/
structure RefC (K : PySem.W.Frag) (mg : Str → Option Value) (B : Addr) (C : Wd → Addr) : Prop where
  gB : mg "BeatError" = some (.ref B)
  g : ∀ d : Wd, mg d.cls = some (.ref (C d))
  x : ∀ d : Wd, ExcC K (C d)
  xf : ∀ d : Wd, XfC K (C d)
  no : ∀ d : Wd, PySem.W.findIn K (.ref (C d)) d.fld = some none
  exm : ∀ d : Wd, PySem.W.exmOne K (.ref (C d)) (.ref B) = some true
  kit : ∀ d e : Wd, PySem.W.kitOne K (.ref (C d)) (.ref (C e)) = some (decide (e = d))
  kitV : ∀ d : Wd, PySem.W.kitOne K (.ref (C d)) (.type "ValueError") = some true
/-- a text or a number -/
def Scal (v : V) : Prop := (∃ i, v = .int i) ∨ ∃ z, v = .str z
def spAlikeS : Sp := fun vs H Q _ => ∃ v : V, vs = [v, v] ∧ Scal v ∧ Q (.bl true) H
theorem hotOf {X : Cx} {a : Addr} {oe : Obj} {cls : Value} {d : Option Addr} {pn : List (Addr × Obj)} (hz : L2N.Zn cls d oe) (hf : ∃ vs, oe.data = .fields vs) : L2H.HotC (X.suite a ((a, oe) :: pn)) := by
  obtain ⟨vs, hv⟩ := hf
  exact ⟨(a, oe), ⟨rfl, vs, hv, hz.2.2 vs hv⟩, List.mem_cons_self⟩
theorem roomHm {X : Cx} {a : Addr} {pn : List (Addr × Obj)} {j k : Nat} (hr : Room k X.A) (h : j ≤ k) : L2H.RoomH j (X.suite a pn).A := L2H.RoomH.mono (k := k) ⟨hr.dp, hr.un⟩ h
structure HasH (P : Program) (w : World) (K : PySem.W.Frag) (mg : Str → Option Value) (base : Heap) (k : Nat) (x : Str) (ps : List Str) (sp : Sp) : Prop where
  ex : ∃ f fd, mg x = some (.ref f) ∧ PySem.W.keepIn K (.ref f) = true ∧ Binds K fd ps [] ∧ L2H.FnH P w K mg base CX0 k f fd ps sp
theorem pe_fnH {X : Cx} {a : Addr} {oe : Obj} {cls : Value} {d : Option Addr} {pn : List (Addr × Obj)} {j k : Nat} {x : Str} {ps : List Str} {sp : Sp} {e : Expr} {es : List Expr} {t : TA} {p pos : Pos} (h : HasH X.prog X.w X.K X.mg X.base j x ps sp) (hz : L2N.Zn cls d oe) (hf : ∃ vs, oe.data = .fields vs) (hr : Room k X.A) (hjk : j ≤ k) (hg : Gl X x) (ha : PA (X.suite a ((a, oe) :: pn)) (e :: es) t)
    (hdb : (x == ("__debug__" : Str)) = false := by decide) (he : starEach (e :: es) X.env = (false, eval e X.env) :: starEach es X.env := by rfl) (hpl : (backTo pos (starEach es X.env)).any (·.1) = false := by rfl) :
    PE (X.suite a ((a, oe) :: pn)) (.Call (.Name x p) (e :: es) [] pos) (tCall sp [] E0 t) := by
  obtain ⟨f, fd, hm, hk, hb, F⟩ := h.ex
  have q := L2H.pe_callH (X := X.suite a ((a, oe) :: pn)) (E := fun _ => E0) (q := p) (pos := pos) F (roomHm hr hjk) (hotOf hz hf) hg hm hk hb (fun _ _ _ _ _ _ _ z => z.elim) ha hdb he hpl
  refine ⟨fun pins s σ H Q I h => q.run pins s σ H Q I ?_⟩
  have e1 : ∀ vs : List V, vs ++ [] = vs := List.append_nil
  have h' : t σ H fun vs H1 => sp (vs ++ []) H1 Q E0 := h
  simp only [e1] at h'
  exact h'
end Bw

set_option Elab.async false
set_option linter.all false
set_option maxRecDepth 100000
set_option maxHeartbeats 4000000
namespace Bw
open PySem PySem.Spec PyProof.Rows L2 LamX NdefX
/-! ### _law_refused, called -/
structure HasR (P : Program) (w : World) (K : PySem.W.Frag) (mg : Str → Option Value) (base : Heap) (kk : Nat) (C : Wd → Addr) : Prop where
  ex : ∃ (g : Addr) (fd : FuncData), mg "_law_refused" = some (.ref g) ∧ PySem.W.keepIn K (.ref g) = true ∧ Binds K fd ["_law_work", "_law_word", "_law_value"] [] ∧
    ∀ {A : Around} {outer : List Env} {s : Shared} {H : Hp} {fl : Addr} {L : LF} {dV : Value} {T : Hp → VK → XK → Prop} {wd : Wd} {v : V} {Q : VK} {us : List Value}, Room (kk + 1) A → Env0 P w K mg base A outer s H → ActL P w K mg base kk fl L dV T (frs outer) s H →
      Vals [.ref fl, .str wd.word, v] us → BindsTo s fd ⟨us, []⟩ ((["_law_work", "_law_word", "_law_value"] : List Str).zip us) → H fl = some (LamO fl L dV) → Scal v → (∀ (Q' : VK) (E' : XK), (∀ x H', Same H H' → H x = none → H' x = some (.xd [(wd.fld, v)]) → E' (.ref (C wd)) (some x) H') → T H Q' E') → (∀ H', Same H H' → Q (.bl true) H') →
      codeAny (model P w) A (.call (.ref g) ⟨us, []⟩) (CR CX0 outer P w H s Q E0) s
def tRef (X : Cx) (kk : Nat) (C : Wd → Addr) (t : TA) : TE := fun σ H Q => t σ H fun vs H1 => ∃ (fl : Addr) (L : LF) (dV : Value) (T : Hp → VK → XK → Prop) (wd : Wd) (v : V), vs = [.ref fl, .str wd.word, v] ∧ Scal v ∧ H1 fl = some (LamO fl L dV) ∧
  (∀ pins s, Inv X pins σ H1 s → ActL X.prog X.w X.K X.mg X.base kk fl L dV T (frs X.stack) s H1) ∧ (∀ (Q' : VK) (E' : XK), (∀ x H', Same H1 H' → H1 x = none → H' x = some (.xd [(wd.fld, v)]) → E' (.ref (C wd)) (some x) H') → T H1 Q' E') ∧ ∀ H', Same H1 H' → Q (.bl true) H'
theorem pe_refused {X : Cx} {kk j : Nat} {C : Wd → Addr} {e1 e2 e3 : Expr} {t : TA} {p pos : Pos} (h : HasR X.prog X.w X.K X.mg X.base kk C) (hr : Room j X.A) (hg : Gl X "_law_refused") (ha : PA X [e1, e2, e3] t) (hj : kk + 1 ≤ j := by decide)
    (he : starEach (e1 :: [e2, e3]) X.env = (false, eval e1 X.env) :: starEach [e2, e3] X.env := by rfl) (hpl : (backTo pos (starEach [e2, e3] X.env)).any (·.1) = false := by rfl) :
    PE X (.Call (.Name "_law_refused" p) [e1, e2, e3] [] pos) (tRef X kk C t) := by
  obtain ⟨g, fd, hm, hk, hb, run⟩ := h.ex
  refine ⟨fun pins s σ H Q I h => wpAny_Call_Name_kw (ld_glob I hg hm (PySem.W.callWith_K (h₀ := X.base) I.ok.mod.kin hk (thn (ha.run pos pins s σ H _ I h) fun us s1 hh => ?_) he hpl) (by decide))⟩
  obtain ⟨vs, H1, I1, r1, fl, L, dV, T, wd, v, rfl, hs, hl, hact, hT, hQ⟩ := hh
  refine ⟨I1.kIn, ?_⟩
  show wpAny _ _ (call (.ref g) us) _ _ _
  have hlen : us.length = 3 := r1.length.symm
  have b := hb s1 us I1.kIn (by rw [List.append_nil]; exact hlen)
  rw [List.append_nil] at b
  refine wpAny_call (codeAny_mono (run (hr.mono hj) I1.env0 (hact pins s1 I1) r1 b hl hs hT hQ) fun r s' hq => ?_)
  match r, hq with
  | .error e, hq => exact (show False from hq).elim
  | .ok (.ret u), hq => exact I1.after hq
  | .ok .next, hq => exact hq.elim
  | .ok .brk, hq => exact hq.elim
  | .ok .cont, hq => exact hq.elim
/-- a lambda that the running def has made -/
theorem actX_of {X : Cx} {kk : Nat} {F : LF} {ps fr : List Str} {vs : List V} {sp : List (Option V) → Hp → VK → XK → Prop} {js : List Nat} {σ : L2.St} {H1 : Hp} {f : Addr} {dV : Value} {scope : Scope} (L : LamOk X.prog X.w X.K X.mg X.base kk F ps fr vs sp) (hcl : F.cl = cloFrom X.env.cells scope.names [])
    (hfree : ∀ y ∈ scope.names, y.2 = .free → X.env.scope.names.lookup y.1 = some .cell ∨ X.env.scope.names.lookup y.1 = some .free) (hfr : ∀ y ∈ fr, (y, NameKind.free) ∈ scope.names) (hjs : js.map (fun j => X.N[j]?) = fr.map some) :
    ∀ pins s, Inv X pins σ H1 s → ActL X.prog X.w X.K X.mg X.base kk f F dV (tyL F dV ps vs sp (js.map (slotAt σ))) (frs X.stack) s H1 := fun pins s I => by
  have C := cells_of I (Caps.made I.ok hfree hfr hjs)
  rw [← hcl] at C
  exact actL_of L C
/-! ### a def whose code object is told -/
theorem okT {P : Program} {w : World} {K : PySem.W.Frag} {mg : Str → Option Value} {base : Heap} {CX : CXT} {x q : Str} {params : Arguments} {body : List Stmt} {scope : Scope} {f : Addr} {fd : FuncData} {N ps : List Str} {k : Nat} {sp : Sp} (F : FunD K x q params body scope [] [] f fd) (S : FnScope N ps scope) (len : ∀ vs H Q E, sp vs H Q E → vs.length = ps.length)
    (hbody : ∀ (A : Around) (outer : List Env) (s : Shared) (H : Hp) (vs : List V) (Q : VK) (E : XK), Room k (A.deeper (envOfC q scope s.heap.objs.size f fd.code)) → sp vs H Q E → ∃ t, PSs (cxOf CX P w K mg base N q scope f fd.code A outer s H E) body t ∧ t { nx := fun _ H' => Q .non H', rt := Q } (L2.start N vs) H) :
    FnOk P w K mg base CX (k + 1) f fd ps sp := by
  obtain ⟨oc, od, dV, kV, doc, pm, an, cdv, ct, osl, rfl, lk, hcd, _, _⟩ := F.ex
  exact fn_of lk hcd S len fun A outer s H vs Q E hr hsp => hbody A outer s H vs Q E hr hsp
theorem code_ref {K : PySem.W.Frag} {v : Value} {q : Str} (h : PySem.W.codeIn K v q = true) : ∃ c, v = .ref c := by
  unfold PySem.W.codeIn at h
  split at h
  · exact ⟨_, rfl⟩
  · cases h
theorem code_of {K : PySem.W.Frag} {x : Str} {params : Arguments} {body : List Stmt} {scope : Scope} {fd : FuncData} (F : FunD K x x params body scope [] [] (He.ga K x) fd) : fd.code = .ref (He.cT K (x, none)).1 := by
  obtain ⟨oc, od, dV, kV, doc, pm, an, cdv, ct, osl, rfl, lk, hcd, _, _⟩ := F.ex
  obtain ⟨c, rfl⟩ := code_ref hcd
  show Value.ref c = .ref (He.codeOf K (x, none))
  unfold He.codeOf
  have e : He.fAd K (x, none) = He.ga K x := rfl
  rw [e, lk]
/-! ### what cannot be heard -/
def BadAt (hs : List Int) (i : Nat) : Prop := ∃ m, hs[i]? = some m ∧ (200 ≤ i ∨ ¬ (0 ≤ m ∧ m ≤ 9)) ∧ ∀ (j : Nat) (m' : Int), j < i → hs[j]? = some m' → j < 200 ∧ 0 ≤ m' ∧ m' ≤ 9
/-- it is refused: an error of the class at C, whose field is v -/
def Refused (C : Addr) (fld : Str) (v : V) (H : Hp) (E : XK) : Prop := ∀ x H', Same H H' → H x = none → H' x = some (.xd [(fld, v)]) → E (.ref C) (some x) H'
theorem Refused.same {C : Addr} {fld : Str} {v : V} {H H1 : Hp} {E : XK} (h : Refused C fld v H E) (s : Same H H1) : Refused C fld v H1 E := fun x H' s' n e => h x H' (s.trans s') (s.free n) e
theorem Refused.raise {C : Addr} {fld : Str} {v : V} {H H1 : Hp} {E : XK} (h : Refused C fld v H E) (s : Same H H1) : mkX C fld (fun cls d H' => E cls d H') [v] H1 := raised fun d nd => h d _ (s.moreB nd) (s.free nd) upd_same
def spNeedHeardX (K : PySem.W.Frag) (C : Addr) : Sp := fun vs H _ E => ∃ (l : Addr) (hs : List Int) (i : Nat), vs = [.ref l] ∧ SqL K H l (hs.map V.int) ∧ BadAt hs i ∧ Refused C "at" (.int i) H E
/-! ### texts -/
def sgnOk (c : Nat) : Prop := c = 46 ∨ (49 ≤ c ∧ c ≤ 57)
def valOf (c : Nat) : Int := if c = 46 then 0 else (c : Int) - 48
def spReadX (Ct Ch : Addr) : Sp := fun vs H _ E => ∃ (cs : List Nat), vs = [.str ⟨cs.toArray⟩] ∧ cs.length ≤ 10000 ∧
  ((∃ i c, cs[i]? = some c ∧ ¬ sgnOk c ∧ (∀ (j c' : Nat), j < i → cs[j]? = some c' → sgnOk c') ∧ Refused Ct "place" (.int (i : Nat)) H E) ∨ ((∀ c ∈ cs, sgnOk c) ∧ 200 < cs.length ∧ Refused Ch "at" (.int 200) H E))
theorem str1 {c d : Nat} {z : Str} (hz : z = ⟨#[d]⟩) : decide (V.str ⟨#[c]⟩ = V.str z) = decide (c = d) := by
  subst hz
  refine decide_eq_decide.mpr ⟨fun h => ?_, fun h => by rw [h]⟩
  have h1 := congrArg Str.cps (V.str.inj h)
  have h2 : (#[c] : Array Nat).toList = (#[d] : Array Nat).toList := congrArg Array.toList h1
  simpa using h2
theorem figs_is (c : Nat) : decide (c ∈ (("0123456789" : String) : Str).cps.toList) = decide (48 ≤ c ∧ c ≤ 57) := by
  have e : (("0123456789" : String) : Str).cps.toList = [48, 49, 50, 51, 52, 53, 54, 55, 56, 57] := by decide +kernel
  rw [e]
  refine decide_eq_decide.mpr ?_
  simp only [List.mem_cons, List.not_mem_nil, or_false]
  omega
theorem int_sign {c : Nat} (h : 49 ≤ c ∧ c ≤ 57) : PySem.intText? (⟨#[c]⟩ : Str) = some (valOf c) := by
  have h9 : c = 49 ∨ c = 50 ∨ c = 51 ∨ c = 52 ∨ c = 53 ∨ c = 54 ∨ c = 55 ∨ c = 56 ∨ c = 57 := by omega
  rcases h9 with rfl | rfl | rfl | rfl | rfl | rfl | rfl | rfl | rfl
  all_goals decide +kernel
end Bw

set_option Elab.async false
set_option linter.all false
set_option maxRecDepth 100000
set_option maxHeartbeats 4000000
namespace Bw
open PySem PySem.Spec PyProof.Rows L2 LamX NdefX
/-! ### a sign, many times -/
def rMulS : R2 := fun x y H Q => ∃ (c n : Nat), x = .str ⟨#[c]⟩ ∧ y = .int n ∧ n ≤ 100000 ∧ Q (.str ⟨(List.replicate n c).toArray⟩) H
theorem rep_sign (c : Nat) : ∀ (n : Nat) (acc : Array Nat), (List.replicate n (#[c] : Array Nat)).foldl (· ++ ·) acc = acc ++ (List.replicate n c).toArray
  | 0, acc => by simp
  | n + 1, acc => by
    rw [List.replicate_succ, List.foldl_cons, rep_sign c n (acc ++ #[c]), List.replicate_succ]
    apply Array.toList_inj.mp
    simp
section
variable {X : Cx}
theorem op_mulS : OpR X (binaryOp .Mult) rMulS := by
  intro pins s σ H x y v u Q I rx ry h
  obtain ⟨c, n, rfl, rfl, hn, q⟩ := h
  obtain ⟨t, rfl⟩ := rx
  obtain ⟨t', rfl⟩ := ry
  have e0 : (⟨#[c]⟩ : Str).length = 1 := rfl
  have hbig : (sizeLine : Nat) ≥ 100000 := by decide
  refine PySem.P.mul_str ?_ (fun h1 h2 => ?_) (fun h1 h2 => ?_) ?_
  · rw [decide_eq_false (by omega), decide_eq_false (by omega)]
    rfl
  · rw [e0]
    have : (1 : Int) ≤ (2 ^ 63 - 1) / (n : Int) := by
      rw [Int.le_ediv_iff_mul_le (by omega)]
      omega
    omega
  · rw [e0]
    unfold Builtin.Str.tooLong
    exact decide_eq_false (by omega)
  · by_cases h1 : (n : Int) < 1
    · rw [if_pos h1]
      have hz : n = 0 := by omega
      subst hz
      exact ⟨by decide, ⟨.str _, H, I.tok _, ⟨_, rfl⟩, q⟩⟩
    · rw [if_neg h1]
      by_cases h2 : n = 1
      · subst h2
        rw [if_pos (by rfl)]
        exact ⟨.str _, H, I, ⟨_, rfl⟩, q⟩
      · rw [if_neg (by
          rw [e0]
          simp
          omega)]
        have e1 : (List.replicate (n : Int).toNat (⟨#[c]⟩ : Str).cps).foldl (· ++ ·) #[] = (List.replicate n c).toArray := by
          have := rep_sign c n #[]
          rw [Int.toNat_natCast]
          show (List.replicate n (#[c] : Array Nat)).foldl (· ++ ·) #[] = _
          rw [this]
          simp
        rw [e1]
        refine ⟨?_, ⟨.str _, H, I.tok _, ⟨_, rfl⟩, q⟩⟩
        show ((List.replicate n c).toArray).size ≤ sizeLine
        simp
        omega
end
/-! ### the law of the texts -/
def spLawT (K : PySem.W.Frag) (P : Addr) : Sp := fun vs H Q _ => ∃ (a : Addr) (ns : List Int), vs = [.ref a] ∧ SqL K H a (ns.map V.int) ∧ ns.length ≤ 63 ∧ H P = some (.tbl #[]) ∧ ∀ H', Q (.bl true) H'
def spRd (C : Wd → Addr) : List (Option V) → Hp → VK → XK → Prop := fun ws H Q E => ∃ v, ws = [some v] ∧ spReadX (C .text) (C .heard) [v] H Q E
end Bw

set_option Elab.async false
set_option linter.all false
set_option maxRecDepth 100000
set_option maxHeartbeats 4000000
namespace Bw
open PySem PySem.Spec PyProof.Rows L2
/-! ### what the head's heap says of the error classes -/
def oexO (C : Addr) : Option Obj → Bool
  | some ⟨.type t, _, .cls ⟨_, _, .ref c :: bm, _, _, hd, _, _, _, _, dl⟩, ⟨[_, _, _, _, some (.builtin n), _]⟩⟩ => decide (t = "type") && (decide (c = C) && (PySem.HandSPX.refsVE bm && (hd && (!dl && decide (n = "ValueError.__new__")))))
  | _ => false
theorem oexO_ok {C : Addr} {o : Option Obj} (h : oexO C o = true) : ∃ nm q N bs bm sn sub ab col dd k0 k1 k2 k3 k5, o = some (excClassObj nm q C N bs bm true sn sub ab col dd k0 k1 k2 k3 k5 "ValueError.__new__") ∧ PySem.HandSPX.refsVE bm = true := by
  unfold oexO at h
  split at h
  · obtain ⟨h1, h⟩ := Bool.and_eq_true_iff.mp h
    obtain ⟨h2, h⟩ := Bool.and_eq_true_iff.mp h
    obtain ⟨h3, h⟩ := Bool.and_eq_true_iff.mp h
    obtain ⟨h4, h⟩ := Bool.and_eq_true_iff.mp h
    obtain ⟨h5, h6⟩ := Bool.and_eq_true_iff.mp h
    have e1 := of_decide_eq_true h1
    have e2 := of_decide_eq_true h2
    have e6 := of_decide_eq_true h6
    have e5 := (Bool.not_eq_true' _).mp h5
    subst e1 e2 e6 h4 e5
    exact ⟨_, _, _, _, _, _, _, _, _, _, _, _, _, _, _, rfl, h3⟩
  · cases h
def oexB (K : PySem.W.Frag) (C : Addr) : Bool := oexO C (K.lookup C) && (decide (PySem.W.findIn K (.ref C) "__setattr__" = some (some (.builtin "object.__setattr__"))) && (decide (PySem.W.subIn K (.ref C) (.type "BaseException") = some true) && (decide (PySem.W.typeIn K (.ref C) = some (.type "type")) && PySem.W.keepIn K (.ref C))))
theorem oexB_ok {K : PySem.W.Frag} {C : Addr} (h : oexB K C = true) : OexC K C := by
  obtain ⟨h1, h⟩ := Bool.and_eq_true_iff.mp h
  obtain ⟨h2, h⟩ := Bool.and_eq_true_iff.mp h
  obtain ⟨h3, h⟩ := Bool.and_eq_true_iff.mp h
  obtain ⟨h4, h5⟩ := Bool.and_eq_true_iff.mp h
  exact ⟨oexO_ok h1, of_decide_eq_true h2, of_decide_eq_true h3, of_decide_eq_true h4, h5⟩
def excB (K : PySem.W.Frag) (D : Addr) : Bool := decide (PySem.W.findIn K (.ref D) "__getattribute__" = some (some (.builtin "BaseException.__getattribute__"))) && (decide (PySem.W.findIn K (.ref D) "__getattr__" = some none) && (decide (PySem.W.subIn K (.ref D) (.type "BaseException") = some true) && (PySem.W.hasDictIn K D && (decide (PySem.W.findIn K (.ref D) "__class__" = some (some (.builtin "object.__class__"))) &&
  (decide (PySem.W.specialIn K (.builtin "object.__class__") "__get__" = some (some (.builtin "getset_descriptor.__get__"))) && (decide (PySem.W.takesIn K (.builtin "object.__class__") = some true) && decide (PySem.W.mroIn K D (.type "object") = some true)))))))
theorem excB_ok {K : PySem.W.Frag} {C : Addr} (h : excB K C = true) : ExcC K C := by
  obtain ⟨h1, h⟩ := Bool.and_eq_true_iff.mp h
  obtain ⟨h2, h⟩ := Bool.and_eq_true_iff.mp h
  obtain ⟨h3, h⟩ := Bool.and_eq_true_iff.mp h
  obtain ⟨h4, h⟩ := Bool.and_eq_true_iff.mp h
  obtain ⟨h5, h⟩ := Bool.and_eq_true_iff.mp h
  obtain ⟨h6, h⟩ := Bool.and_eq_true_iff.mp h
  obtain ⟨h7, h8⟩ := Bool.and_eq_true_iff.mp h
  exact ⟨of_decide_eq_true h1, of_decide_eq_true h2, of_decide_eq_true h3, h4, of_decide_eq_true h5, of_decide_eq_true h6, of_decide_eq_true h7, of_decide_eq_true h8⟩
abbrev xcl (K : PySem.W.Frag) (d : Wd) : Addr := He.ga K d.cls
structure XD (K : PySem.W.Frag) (d : Wd) : Prop where
  T : OexC K (xcl K d)
  x : ExcC K (xcl K d)
  xf : XfC K (xcl K d)
  no : PySem.W.findIn K (.ref (xcl K d)) d.fld = some none
  exm : PySem.W.exmOne K (.ref (xcl K d)) (.ref (He.ga K "BeatError")) = some true
  kitV : PySem.W.kitOne K (.ref (xcl K d)) (.type "ValueError") = some true
  fi : PySem.W.findIn K (.ref (xcl K d)) "__init__" = some (some (.ref (He.ma K (xcl K d) "__init__")))
  ti : PySem.W.typeIn K (.ref (He.ma K (xcl K d) "__init__")) = some (.type "function")
  kit : ∀ e : Wd, PySem.W.kitOne K (.ref (xcl K d)) (.ref (xcl K e)) = some (decide (e = d))
def xdB (K : PySem.W.Frag) (d : Wd) : Bool := oexB K (xcl K d) && (excB K (xcl K d) && (xfB K (xcl K d) && (decide (PySem.W.findIn K (.ref (xcl K d)) d.fld = some none) && (decide (PySem.W.exmOne K (.ref (xcl K d)) (.ref (He.ga K "BeatError")) = some true) && (decide (PySem.W.kitOne K (.ref (xcl K d)) (.type "ValueError") = some true) &&
  (decide (PySem.W.findIn K (.ref (xcl K d)) "__init__" = some (some (.ref (He.ma K (xcl K d) "__init__")))) && (decide (PySem.W.typeIn K (.ref (He.ma K (xcl K d) "__init__")) = some (.type "function")) && wds.all fun e => decide (PySem.W.kitOne K (.ref (xcl K d)) (.ref (xcl K e)) = some (decide (e = d))))))))))
theorem all_wds {p : Wd → Bool} (h : wds.all p = true) (d : Wd) : p d = true := List.all_eq_true.mp h d (by cases d <;> decide)
theorem xdB_ok {K : PySem.W.Frag} {d : Wd} (h : xdB K d = true) : XD K d := by
  obtain ⟨h1, h⟩ := Bool.and_eq_true_iff.mp h
  obtain ⟨h2, h⟩ := Bool.and_eq_true_iff.mp h
  obtain ⟨h3, h⟩ := Bool.and_eq_true_iff.mp h
  obtain ⟨h4, h⟩ := Bool.and_eq_true_iff.mp h
  obtain ⟨h5, h⟩ := Bool.and_eq_true_iff.mp h
  obtain ⟨h6, h⟩ := Bool.and_eq_true_iff.mp h
  obtain ⟨h7, h⟩ := Bool.and_eq_true_iff.mp h
  obtain ⟨h8, h9⟩ := Bool.and_eq_true_iff.mp h
  exact ⟨oexB_ok h1, excB_ok h2, xfB_ok h3, of_decide_eq_true h4, of_decide_eq_true h5, of_decide_eq_true h6, of_decide_eq_true h7, of_decide_eq_true h8, fun e => of_decide_eq_true (all_wds h9 e)⟩
structure XB (K : PySem.W.Frag) : Prop where
  d : ∀ d : Wd, XD K d
  hs : PySem.W.specialIn K (.ref (He.ga K "BeatError")) "__getattribute__" = some (some (.builtin "type.__getattribute__"))
  hrd : PySem.W.readsIn K (He.ga K "BeatError") (.type "type") = true
  hf : PySem.W.findCls K (.ref (He.ga K "BeatError")) (.type "type") "__init__" = some (.val (.builtin "ValueError.__init__"))
def fcB (K : PySem.W.Frag) : Bool := match PySem.W.findCls K (.ref (He.ga K "BeatError")) (.type "type") "__init__" with
  | some (.val (.builtin n)) => decide (n = "ValueError.__init__")
  | _ => false
theorem fcB_ok {K : PySem.W.Frag} (h : fcB K = true) : PySem.W.findCls K (.ref (He.ga K "BeatError")) (.type "type") "__init__" = some (.val (.builtin "ValueError.__init__")) := by
  unfold fcB at h
  split at h
  · rename_i n q
    rw [q, of_decide_eq_true h]
  · cases h
def xbB (K : PySem.W.Frag) : Bool := (wds.all fun d => xdB K d) && (decide (PySem.W.specialIn K (.ref (He.ga K "BeatError")) "__getattribute__" = some (some (.builtin "type.__getattribute__"))) && (PySem.W.readsIn K (He.ga K "BeatError") (.type "type") && fcB K))
theorem xbB_ok {K : PySem.W.Frag} (h : xbB K = true) : XB K := by
  obtain ⟨h1, h⟩ := Bool.and_eq_true_iff.mp h
  obtain ⟨h2, h⟩ := Bool.and_eq_true_iff.mp h
  obtain ⟨h3, h4⟩ := Bool.and_eq_true_iff.mp h
  exact ⟨fun d => xdB_ok (all_wds h1 d), of_decide_eq_true h2, h3, fcB_ok h4⟩
theorem XB.ref {K : PySem.W.Frag} {mg : Str → Option Value} (b : XB K) (gB : mg "BeatError" = some (.ref (He.ga K "BeatError"))) (g : ∀ d : Wd, mg d.cls = some (.ref (xcl K d))) : RefC K mg (He.ga K "BeatError") (xcl K) :=
  ⟨gB, g, fun d => (b.d d).x, fun d => (b.d d).xf, fun d => (b.d d).no, fun d => (b.d d).exm, fun d => (b.d d).kit, fun d => (b.d d).kitV⟩
theorem XB.xc {P : Program} {w : World} {K : PySem.W.Frag} {mg : Str → Option Value} {base : Heap} {k : Nat} {fd : FuncData} {ps : List Str} (b : XB K) (d : Wd) (g : mg d.cls = some (.ref (xcl K d))) (hb : Binds K fd ps []) (F : FnOk P w K mg base CX0 k (He.ma K (xcl K d) "__init__") fd ps (spXInit (xcl K d) d.fld)) : XC P w K mg base k d.cls (xcl K d) d.fld :=
  ⟨(b.d d).T, g, (b.d d).no, (b.d d).xf, _, fd, ps, (b.d d).fi, (b.d d).ti, hb, F⟩
/-! ### the hook: hookX's, and the interpreter's statics in K (a class's attribute is read) -/
def asZ (g : Addr → Option Obj) (n : Nat) : List Addr := He.asD g n ++ [cStatics]
def obsZ (n : Nat) (fa : List He.Fa) (fn : List He.DefD) (tf : List (Str × Option Str)) (ex : PySem.W.Frag → Bool) (g : Addr → Option Obj) : He.AlX := (He.obsT fa fn [] (He.frT g (asZ g n)), ex (He.frT g (asZ g n)) && He.tabsB g tf (He.frT g (asZ g n)))
theorem saysZ_of {n : Nat} {fa : List He.Fa} {fn : List He.DefD} {tf : List (Str × Option Str)} {ex : PySem.W.Frag → Bool} {w : World} {h : Heap} (e : obsZ n fa fn tf ex h.get? = He.valX fn [] w) : He.SaysX fa fn [] tf ex w h (He.frT h.get? (asZ h.get? n)) := by
  unfold obsZ at e
  generalize asZ h.get? n = as at e ⊢
  have e1 : He.obsT fa fn [] (He.frT h.get? as) = He.valT fn [] w := congrArg (fun z : He.AlX => z.1) e
  have e2 : (ex (He.frT h.get? as) && He.tabsB h.get? tf (He.frT h.get? as)) = true := congrArg (fun z : He.AlX => z.2) e
  obtain ⟨h1, h2⟩ := Bool.and_eq_true_iff.mp e2
  have key : ∀ p ∈ tf, PySem.W.codeHdIn (He.frT h.get? as) (He.cT (He.frT h.get? as) p).1 (He.cT (He.frT h.get? as) p).2 = true ∧ ∃ o, h.get? (He.cT (He.frT h.get? as) p).2 = some o ∧ He.emptyTab o = true := fun p hp => by
    obtain ⟨h3, h4⟩ := Bool.and_eq_true_iff.mp (List.all_eq_true.mp h2 p hp)
    refine ⟨h3, ?_⟩
    split at h4
    · rename_i o q
      exact ⟨o, q, h4⟩
    · cases h4
  refine ⟨e1, h1, fun p hp => (key p hp).1, fun p hp => ?_, fun p hp => ?_⟩
  · obtain ⟨_, o, q, z⟩ := key p hp
    exact He.frT_none q z
  · obtain ⟨_, o, q, z⟩ := key p hp
    rw [q, He.emptyTab_eq z]
def hookZ (n : Nat) (fa : List He.Fa) (fn : List He.DefD) (tf : List (Str × Option Str)) (ex : PySem.W.Frag → Bool) : PySem.W.Hook where
  α := He.AlX
  obs := fun s => obsZ n fa fn tf ex s.heap.get?
  val := fun w => He.valX fn [] w
  says := fun w h => ∃ K : PySem.W.Frag, K.In h ∧ He.SaysX fa fn [] tf ex w h K
  of := fun _ _ e => ⟨_, He.frT_in, saysZ_of e⟩
  keeps := fun _ _ _ ⟨K, hK, c⟩ k => ⟨K, PySem.W.Frag.In.keeps hK k, ⟨c.t, c.more, c.hd, c.out, fun p hp => k _ _ (c.empty p hp)⟩⟩
theorem obsZ_eq {n : Nat} {fa : List He.Fa} {fn : List He.DefD} {tf : List (Str × Option Str)} {ex : PySem.W.Frag → Bool} {g : Addr → Option Obj} {s : Shared} (h : ∀ a, g a = s.heap.get? a) : obsZ n fa fn tf ex g = (hookZ n fa fn tf ex).obs s := by
  have e : g = s.heap.get? := funext h
  rw [e]
  rfl
end Bw

set_option Elab.async false
set_option linter.all false
set_option maxRecDepth 100000
set_option maxHeartbeats 4000000
namespace Bw
open PySem PySem.Spec PyProof.Rows L2 LamX NdefX
/-! ### lambdas that lie in a list, each asked in a comprehension's filter -/
theorem CellsAt.unx {cl : List (Str × Addr)} {fr : List Str} {ws : List (Option V)} {fs ex : List Addr} {H H' : Hp} {h h' : Heap} (C : CellsAt cl fr ws h H) (u : Un fs ex H H' h h') (hx : ∀ y c, cl.lookup y = some c → c ∉ ex) : CellsAt cl fr ws h' H' := by
  have kp : ∀ y c, cl.lookup y = some c → ∀ v, h.IsCell c v → h'.IsCell c v := fun y c e v ⟨o, ho, hd⟩ => by
    obtain ⟨sl, q⟩ := u.any ho (C.all y c e).1 (hx y c e)
    exact ⟨_, q, hd⟩
  refine ⟨C.len, fun y c e => ?_, C.inj, fun i y e => ?_⟩
  · obtain ⟨n, v, z⟩ := C.all y c e
    refine ⟨?_, v, kp y c e v z⟩
    obtain ⟨o, ho, _⟩ := z
    exact u.free c o ho n (hx y c e)
  · obtain ⟨c, e2, k⟩ := C.has i y e
    refine ⟨c, e2, fun v hv => ?_⟩
    obtain ⟨u', r, z⟩ := k v hv
    exact ⟨u', r, kp y c e2 _ z⟩
/-- the lambda L of the running def answers as T says, its names being as σ says -/
def LamG (X : Cx) (kk : Nat) (σ : L2.St) (L : LF) (dV : Value) (T : Hp → VK → XK → Prop) : Prop := ∃ (ps fr : List Str) (vs : List V) (sp : List (Option V) → Hp → VK → XK → Prop) (js : List Nat), LamOk X.prog X.w X.K X.mg X.base kk L ps fr vs sp ∧ T = tyL L dV ps vs sp (js.map (slotAt σ)) ∧ (X.Ok → Caps X L.cl fr js)
theorem LamG.of {X : Cx} {kk : Nat} {F : LF} {ps fr : List Str} {vs : List V} {sp : List (Option V) → Hp → VK → XK → Prop} {js : List Nat} {σ : L2.St} {dV : Value} {scope : Scope} (L : LamOk X.prog X.w X.K X.mg X.base kk F ps fr vs sp) (hcl : F.cl = cloFrom X.env.cells scope.names [])
    (hfree : ∀ y ∈ scope.names, y.2 = .free → X.env.scope.names.lookup y.1 = some .cell ∨ X.env.scope.names.lookup y.1 = some .free) (hfr : ∀ y ∈ fr, (y, NameKind.free) ∈ scope.names) (hjs : js.map (fun j => X.N[j]?) = fr.map some) :
    LamG X kk σ F dV (tyL F dV ps vs sp (js.map (slotAt σ))) := ⟨ps, fr, vs, sp, js, L, rfl, fun ok => by
  rw [hcl]
  exact Caps.made ok hfree hfr hjs⟩
def tRefB (Good : LF → Value → (Hp → VK → XK → Prop) → Prop) (C : Wd → Addr) (t : TA) : TE := fun σ H Q => t σ H fun vs H1 => ∃ (fl : Addr) (L : LF) (dV : Value) (T : Hp → VK → XK → Prop) (wd : Wd) (v : V), vs = [.ref fl, .str wd.word, v] ∧ Scal v ∧ H1 fl = some (LamO fl L dV) ∧
  Good L dV T ∧ (∀ (Q' : VK) (E' : XK), Refused (C wd) wd.fld v H1 E' → T H1 Q' E') ∧ ∀ H', Same H1 H' → Q (.bl true) H'
def BlkAct (Y : Cx) (kk : Nat) (Good : LF → Value → (Hp → VK → XK → Prop) → Prop) : Prop := ∀ (fl : Addr) (L : LF) (dV : Value) (T : Hp → VK → XK → Prop), Good L dV T → ∀ pins σ s H, Inv Y pins σ H s → ActL Y.prog Y.w Y.K Y.mg Y.base kk fl L dV T (frs Y.stack) s H
theorem pe_refusedB {X : Cx} {kk j : Nat} {C : Wd → Addr} {Good : LF → Value → (Hp → VK → XK → Prop) → Prop} {e1 e2 e3 : Expr} {t : TA} {p pos : Pos} (hact : BlkAct X kk Good) (h : HasR X.prog X.w X.K X.mg X.base kk C) (hr : Room j X.A) (hg : Gl X "_law_refused") (ha : PA X [e1, e2, e3] t) (hj : kk + 1 ≤ j := by decide)
    (he : starEach (e1 :: [e2, e3]) X.env = (false, eval e1 X.env) :: starEach [e2, e3] X.env := by rfl) (hpl : (backTo pos (starEach [e2, e3] X.env)).any (·.1) = false := by rfl) :
    PE X (.Call (.Name "_law_refused" p) [e1, e2, e3] [] pos) (tRefB Good C t) := by
  obtain ⟨g, fd, hm, hk, hb, run⟩ := h.ex
  refine ⟨fun pins s σ H Q I h => wpAny_Call_Name_kw (ld_glob I hg hm (PySem.W.callWith_K (h₀ := X.base) I.ok.mod.kin hk (thn (ha.run pos pins s σ H _ I h) fun us s1 hh => ?_) he hpl) (by decide))⟩
  obtain ⟨vs, H1, I1, r1, fl, L, dV, T, wd, v, rfl, hs, hl, hgo, hT, hQ⟩ := hh
  refine ⟨I1.kIn, ?_⟩
  show wpAny _ _ (call (.ref g) us) _ _ _
  have hlen : us.length = 3 := r1.length.symm
  have b := hb s1 us I1.kIn (by rw [List.append_nil]; exact hlen)
  rw [List.append_nil] at b
  refine wpAny_call (codeAny_mono (run (hr.mono hj) I1.env0 (hact fl L dV T hgo pins σ s1 H1 I1) r1 b hl hs hT hQ) fun r s' hq => ?_)
  match r, hq with
  | .error e, hq => exact (show False from hq).elim
  | .ok (.ret u), hq => exact I1.after hq
  | .ok .next, hq => exact hq.elim
  | .ok .brk, hq => exact hq.elim
  | .ok .cont, hq => exact hq.elim
/-- a comprehension over a list, whose filter asks the lambdas of the running def -/
theorem pe_lcR {X : Cx} {kk : Nat} {elt tg iter : Expr} {ifs : List Expr} {scope : Scope} {own : List (Str × Nat)} {pos : Pos} {ti : TE} {g : TG} {tt : L2.St → TT} {te : TE} (hc : X.calm = true) (hN : X.N.Nodup) (hi : PE X iter ti) (ok : BlkOk X.N X.env.scope scope own)
    (hg : ∀ (s : Shared) (H : Hp) (C : Addr) (cl : List (Str × Addr)) (fp : List Addr), PG (X.blk s H scope (compEnvC scope cl C X.env) fp) tg g)
    (ht : ∀ (σ0 : L2.St) (s : Shared) (H : Hp) (C : Addr) (cl : List (Str × Addr)) (fp : List Addr), BlkAct (X.blk s H scope (compEnvC scope cl C X.env) fp) kk (LamG X kk σ0) → PTs (X.blk s H scope (compEnvC scope cl C X.env) fp) ifs (tt σ0))
    (he : ∀ (s : Shared) (H : Hp) (C : Addr) (cl : List (Str × Addr)) (fp : List Addr), PE (X.blk s H scope (compEnvC scope cl C X.env) fp) elt te) (hs : ∀ x, foldedSetIterable iter X.env x = pure x := by intro _; rfl) :
    PE X (.ListComp elt [⟨tg, iter, ifs, 0⟩] scope pos) (fun σ H Q => tLc (iList X.K ti) g (tt σ) te (own.map (·.2)) σ H Q) := by
  refine ⟨fun pins s σ H Q I h => ?_⟩
  rw [eval_ListComp]
  refine lcG_core (fun s H it => ∀ L dV T, LamG X kk σ L dV T → ∃ (ps fr : List Str) (vs : List V) (sp : List (Option V) → Hp → VK → XK → Prop) (ws : List (Option V)), LamOk X.prog X.w X.K X.mg X.base kk L ps fr vs sp ∧ T = tyL L dV ps vs sp ws ∧ CellsAt L.cl fr ws s.heap H ∧ ∀ y c, L.cl.lookup y = some c → c ≠ it) hN I hi ok (fun H' s' it J f => ?_) hg (fun s H C cl it G => ht σ s H C cl [it] ?_) (fun s H C cl it _ => he s H C cl [it]) (fun s H C cl it G => EndL.calm hc) hs h
  · rintro L dV T ⟨ps, fr, vs, sp, js, lo, hT, cp⟩
    have c := cp J.ok
    exact ⟨ps, fr, vs, sp, _, lo, hT, cells_of J c, fun y a e => f.2.2.2.2.1 y a (c.sub y a e)⟩
  · intro fl L dV T hL pins' σ' s' H' J
    obtain ⟨ps, fr, vs, sp, ws, lo, rfl, ce, hne⟩ := G L dV T hL
    exact actL_of lo (CellsAt.unx ce J.base fun y c e => by
      show c ∉ [it]
      rw [List.mem_singleton]
      exact hne y c e)
/-- the table of the code objects, when nothing of it is touched -/
theorem tabS_same {H H' : Hp} {TP : Addr} {q : Str} (T : LamX.TabS H TP q) (s : Same H H') : LamX.TabS H' TP q := by
  obtain ⟨pp, q1, q2, q3⟩ := T
  refine ⟨pp, s _ _ q1, q2, fun pos cv hcv => ?_⟩
  obtain ⟨cc, z1, z2⟩ := q3 pos cv hcv
  exact ⟨cc, z1, s _ _ z2⟩
/-! ### what refuses what cannot be heard -/
def spMayXh (K : PySem.W.Frag) (C : Addr) : Sp := fun vs H _ E => ∃ (lp hp : Addr) (l : Line) (hs : List Int) (i : Nat), vs = [.ref lp, .ref hp] ∧ SqT K H lp l.vs ∧ l.ok ∧ SqL K H hp (hs.map V.int) ∧ BadAt hs i ∧ Refused C "at" (.int i) H E
def spToldXh (K : PySem.W.Frag) (C : Addr) : Sp := fun vs H _ E => ∃ (q hp : Addr) (r : Rule) (hs : List Int) (i : Nat), vs = [.ref q, .ref hp] ∧ SqT K H q r.vs ∧ r.ok ∧ SqL K H hp (hs.map V.int) ∧ BadAt hs i ∧ Refused C "at" (.int i) H E
end Bw

set_option Elab.async false
set_option linter.all false
set_option maxRecDepth 100000
set_option maxHeartbeats 4000000
namespace Bw
open PySem PySem.Spec PyProof.Rows L2
/-! ### lines and rules that are refused -/
def BadR (x : Str) (ns : List Int) : Prop := ((∃ a, ns = [a]) ∨ ∃ a b, ns = [a, b]) ∧ isRuleB x ns = false
abbrev rV (x : Str) (ns : List Int) : List V := .str x :: ns.map V.int
def BadL (x y z : Int) (why : Str) : Prop := (why = "each" ∧ ¬ (1 ≤ x ∧ x ≤ 4)) ∨ (why = "late" ∧ (1 ≤ x ∧ x ≤ 4) ∧ ¬ (0 ≤ y ∧ y ≤ 3)) ∨ (why = "lost" ∧ (1 ≤ x ∧ x ≤ 4) ∧ (0 ≤ y ∧ y ≤ 3) ∧ ¬ (0 ≤ z ∧ z ≤ 2))
def spNeedLineX (K : PySem.W.Frag) (C : Addr) : Sp := fun vs H _ E => ∃ (q : Addr) (x y z : Int) (why : Str), vs = [.ref q] ∧ SqT K H q [.int x, .int y, .int z] ∧ BadL x y z why ∧ Refused C "why" (.str why) H E
def spLineX2 (K : PySem.W.Frag) (C : Addr) : Sp := fun vs H _ E => ∃ (q : Addr) (x y z : Int) (why : Str) (v : V), vs = [.ref q, v] ∧ SqT K H q [.int x, .int y, .int z] ∧ BadL x y z why ∧ Refused C "why" (.str why) H E
def spNeedRuleX (K : PySem.W.Frag) (C : Addr) : Sp := fun vs H _ E => ∃ (q : Addr) (x : Str) (ns : List Int), vs = [.ref q] ∧ SqT K H q (rV x ns) ∧ BadR x ns ∧ Refused C "number" (.int 0) H E
def spRuleX2 (K : PySem.W.Frag) (C : Addr) : Sp := fun vs H _ E => ∃ (q : Addr) (x : Str) (ns : List Int) (v : V), vs = [.ref q, v] ∧ SqT K H q (rV x ns) ∧ BadR x ns ∧ Refused C "number" (.int 0) H E
def spLRX (K : PySem.W.Frag) (C : Addr) : Sp := fun vs H _ E => ∃ (lp q : Addr) (l : Line) (x : Str) (ns : List Int), vs = [.ref lp, .ref q] ∧ SqT K H lp l.vs ∧ l.ok ∧ SqT K H q (rV x ns) ∧ BadR x ns ∧ Refused C "number" (.int 0) H E
def spWInitX (K : PySem.W.Frag) (C : Addr) : Sp := fun vs H _ E => ∃ (y : V) (q : Addr) (x : Str) (ns : List Int), vs = [y, .ref q] ∧ SqT K H q (rV x ns) ∧ BadR x ns ∧ Refused C "number" (.int 0) H E
def spChosenX (K : PySem.W.Frag) (C : Addr) : Sp := fun vs H _ E => ∃ (lp rp : Addr) (l : Line) (xs : List V) (i : Nat), vs = [.ref lp, .ref rp] ∧ SqT K H lp l.vs ∧ l.ok ∧ SqL K H rp xs ∧ (∀ (j : Nat) (y : V), j < i → xs[j]? = some y → ∃ (p : Addr) (r : Rule), y = .ref p ∧ SqT K H p r.vs ∧ r.ok) ∧
  (∃ (p : Addr) (x : Str) (ns : List Int), xs[i]? = some (.ref p) ∧ SqT K H p (rV x ns) ∧ BadR x ns) ∧ Refused C "number" (.int (i : Nat)) H E
structure HasCN (P : Program) (w : World) (K : PySem.W.Frag) (mg : Str → Option Value) (base : Heap) (k : Nat) (x : Str) (C : Addr) (ps : List Str) (sp : Sp) : Prop where
  ex : ∃ f fd, Mk K C f ∧ mg x = some (.ref C) ∧ Binds K fd ps [] ∧ FnOk P w K mg base (L2N.CX P w) k f fd ps sp
theorem pe_newN {X : Cx} {j k : Nat} {x : Str} {C : Addr} {ps : List Str} {sp : Sp} {E : XK} {e : Expr} {es : List Expr} {t : TA} {p pos : Pos} (h : HasCN X.prog X.w X.K X.mg X.base j x C ps sp) (hr : Room k X.A) (hg : Gl X x) (tk : L2N.Takes X (fun cls d _ H => E cls d H)) (ha : PA X (e :: es) t)
    (hjk : j + 1 ≤ k := by decide) (hdb : (x == ("__debug__" : Str)) = false := by decide) (he : starEach (e :: es) X.env = (false, eval e X.env) :: starEach es X.env := by rfl) (hpl : (backTo pos (starEach es X.env)).any (·.1) = false := by rfl) :
    PE X (.Call (.Name x p) (e :: es) [] pos) (tMake C sp [] E t) := by
  obtain ⟨f, fd, M, hm, hb, F⟩ := h.ex
  exact pe_make M F (hr.mono hjk) hg hm hb .nil (L2N.passes_call tk fun _ _ _ _ z => z) ha hdb he hpl
def tCutE (t : TE) : TE := fun σ H Q => ∃ M : VK, t σ H M ∧ ∀ v H', M v H' → Q v H'
theorem pe_cutE {X : Cx} {e : Expr} {t : TE} (h : PE X e t) : PE X e (tCutE t) := pe_cut h
/-! ### what the law draws -/
def spBadLine (K : PySem.W.Frag) : Sp := fun vs H Q _ => ∃ (d lp : Addr) (l : Line), vs = [.ref d, .ref lp] ∧ DiceAt H d ∧ H lp = some (.tup l.vs) ∧ l.ok ∧
  ∀ (x y z : Int) (why : Str) (p tp : Addr) (H' : Hp), BadL x y z why → Dr d H H' → H' p = some (.tup [.ref tp, .str why]) → H' tp = some (.tup [.int x, .int y, .int z]) → Q (.ref p) H'
def spBadRule : Sp := fun vs H Q _ => ∃ (d : Addr), vs = [.ref d] ∧ DiceAt H d ∧ ∀ (x : Str) (ns : List Int) (p : Addr) (H' : Hp), BadR x ns → Dr d H H' → H' p = some (.tup (rV x ns)) → Q (.ref p) H'
end Bw

set_option Elab.async false
set_option linter.all false
set_option maxRecDepth 100000
set_option maxHeartbeats 4000000
namespace Bw
open PySem PySem.Spec PyProof.Rows L2
def top (i : Nat) : Stmt := PySem.Challenge.pw_beatwatch_k01_lines_and_rules_refused.main.body.getD i (.Pass ⟨0, 0, 0, 0⟩)
abbrev s_BadLine___init__ : Stmt := inClass (top 2) 0
abbrev n_BadLine___init__ : List Str := ["self", "why"]
abbrev p_BadLine___init__ : List Str := ["self", "why"]
theorem sc_BadLine___init__ : FnScope n_BadLine___init__ ["self", "why"] (defScope s_BadLine___init__) := ⟨rfl, rfl, rfl, by decide +kernel, rfl, by decide +kernel, by decide +kernel⟩
abbrev s_BadRule___init__ : Stmt := inClass (top 3) 0
abbrev n_BadRule___init__ : List Str := ["self", "number"]
abbrev p_BadRule___init__ : List Str := ["self", "number"]
theorem sc_BadRule___init__ : FnScope n_BadRule___init__ ["self", "number"] (defScope s_BadRule___init__) := ⟨rfl, rfl, rfl, by decide +kernel, rfl, by decide +kernel, by decide +kernel⟩
abbrev s_BadHeard___init__ : Stmt := inClass (top 4) 0
abbrev n_BadHeard___init__ : List Str := ["self", "at"]
abbrev p_BadHeard___init__ : List Str := ["self", "at"]
theorem sc_BadHeard___init__ : FnScope n_BadHeard___init__ ["self", "at"] (defScope s_BadHeard___init__) := ⟨rfl, rfl, rfl, by decide +kernel, rfl, by decide +kernel, by decide +kernel⟩
abbrev s_BadText___init__ : Stmt := inClass (top 5) 0
abbrev n_BadText___init__ : List Str := ["self", "place"]
abbrev p_BadText___init__ : List Str := ["self", "place"]
theorem sc_BadText___init__ : FnScope n_BadText___init__ ["self", "place"] (defScope s_BadText___init__) := ⟨rfl, rfl, rfl, by decide +kernel, rfl, by decide +kernel, by decide +kernel⟩
abbrev s_need_line : Stmt := top 15
abbrev n_need_line : List Str := ["line", "each", "late", "lost"]
abbrev p_need_line : List Str := ["line"]
theorem sc_need_line : FnScope n_need_line ["line"] (defScope s_need_line) := ⟨rfl, rfl, rfl, by decide +kernel, rfl, by decide +kernel, by decide +kernel⟩
abbrev s_is_rule : Stmt := top 16
abbrev n_is_rule : List Str := ["rule"]
abbrev p_is_rule : List Str := ["rule"]
theorem sc_is_rule : FnScope n_is_rule ["rule"] (defScope s_is_rule) := ⟨rfl, rfl, rfl, by decide +kernel, rfl, by decide +kernel, by decide +kernel⟩
abbrev s_need_rule : Stmt := top 17
abbrev n_need_rule : List Str := ["rule"]
abbrev p_need_rule : List Str := ["rule"]
theorem sc_need_rule : FnScope n_need_rule ["rule"] (defScope s_need_rule) := ⟨rfl, rfl, rfl, by decide +kernel, rfl, by decide +kernel, by decide +kernel⟩
abbrev s_need_heard : Stmt := top 18
abbrev n_need_heard : List Str := ["heard", "at", "many"]
abbrev p_need_heard : List Str := ["heard"]
theorem sc_need_heard : FnScope n_need_heard ["heard"] (defScope s_need_heard) := ⟨rfl, rfl, rfl, by decide +kernel, rfl, by decide +kernel, by decide +kernel⟩
abbrev s_next_state : Stmt := top 19
abbrev n_next_state : List Str := ["rule", "state", "many"]
abbrev p_next_state : List Str := ["rule", "state", "many"]
theorem sc_next_state : FnScope n_next_state ["rule", "state", "many"] (defScope s_next_state) := ⟨rfl, rfl, rfl, by decide +kernel, rfl, by decide +kernel, by decide +kernel⟩
abbrev s_first_state : Stmt := top 20
abbrev n_first_state : List Str := ["rule"]
abbrev p_first_state : List Str := ["rule"]
theorem sc_first_state : FnScope n_first_state ["rule"] (defScope s_first_state) := ⟨rfl, rfl, rfl, by decide +kernel, rfl, by decide +kernel, by decide +kernel⟩
abbrev s_is_gone : Stmt := top 21
abbrev n_is_gone : List Str := ["rule", "state"]
abbrev p_is_gone : List Str := ["rule", "state"]
theorem sc_is_gone : FnScope n_is_gone ["rule", "state"] (defScope s_is_gone) := ⟨rfl, rfl, rfl, by decide +kernel, rfl, by decide +kernel, by decide +kernel⟩
abbrev s_Watcher___init__ : Stmt := inClass (top 22) 0
abbrev n_Watcher___init__ : List Str := ["self", "rule"]
abbrev p_Watcher___init__ : List Str := ["self", "rule"]
theorem sc_Watcher___init__ : FnScope n_Watcher___init__ ["self", "rule"] (defScope s_Watcher___init__) := ⟨rfl, rfl, rfl, by decide +kernel, rfl, by decide +kernel, by decide +kernel⟩
abbrev s_Watcher_hear : Stmt := inClass (top 22) 1
abbrev n_Watcher_hear : List Str := ["self", "many"]
abbrev p_Watcher_hear : List Str := ["self", "many"]
theorem sc_Watcher_hear : FnScope n_Watcher_hear ["self", "many"] (defScope s_Watcher_hear) := ⟨rfl, rfl, rfl, by decide +kernel, rfl, by decide +kernel, by decide +kernel⟩
abbrev s_told : Stmt := top 23
abbrev n_told : List Str := ["rule", "heard", "watcher", "many"]
abbrev p_told : List Str := ["rule", "heard"]
theorem sc_told : FnScope n_told ["rule", "heard"] (defScope s_told) := ⟨rfl, rfl, rfl, by decide +kernel, rfl, by decide +kernel, by decide +kernel⟩
abbrev s_turns : Stmt := top 24
abbrev n_turns : List Str := ["rule", "heard", "found", "ahead", "moment", "gone"]
abbrev p_turns : List Str := ["rule", "heard"]
theorem sc_turns : FnScope n_turns ["rule", "heard"] (defScope s_turns) := ⟨rfl, rfl, rfl, by decide +kernel, rfl, by decide +kernel, by decide +kernel⟩
abbrev s_begun : Stmt := top 27
abbrev n_begun : List Str := ["line", "state", "phase", "ages", "run", "found"]
abbrev p_begun : List Str := ["line", "state"]
theorem sc_begun : FnScope n_begun ["line", "state"] (defScope s_begun) := ⟨rfl, rfl, rfl, by decide +kernel, rfl, by decide +kernel, by decide +kernel⟩
abbrev s_heard_of : Stmt := top 28
abbrev n_heard_of : List Str := ["line", "ages", "found", "many", "age"]
abbrev p_heard_of : List Str := ["line", "ages"]
theorem sc_heard_of : FnScope n_heard_of ["line", "ages"] (defScope s_heard_of) := ⟨rfl, rfl, rfl, by decide +kernel, rfl, by decide +kernel, by decide +kernel⟩
abbrev s_moves : Stmt := top 29
abbrev n_moves : List Str := ["line", "state", "found", "ages", "run", "many", "left"]
abbrev p_moves : List Str := ["line", "state"]
theorem sc_moves : FnScope n_moves ["line", "state"] (defScope s_moves) := ⟨rfl, rfl, rfl, by decide +kernel, rfl, by decide +kernel, by decide +kernel⟩
abbrev s_may : Stmt := top 30
abbrev n_may : List Str := ["line", "heard", "level", "many", "behind", "state", "count", "other"]
abbrev p_may : List Str := ["line", "heard"]
theorem sc_may : FnScope n_may ["line", "heard"] (defScope s_may) := ⟨rfl, rfl, rfl, by decide +kernel, rfl, by decide +kernel, by decide +kernel⟩
abbrev s_all_standing : Stmt := top 32
abbrev n_all_standing : List Str := ["line", "rule", "first", "met", "level", "wrong", "behind", "state", "kept", "many", "other", "key"]
abbrev p_all_standing : List Str := ["line", "rule"]
theorem sc_all_standing : FnScope n_all_standing ["line", "rule"] (defScope s_all_standing) := ⟨rfl, rfl, rfl, by decide +kernel, rfl, by decide +kernel, by decide +kernel⟩
abbrev s_false_row : Stmt := top 33
abbrev n_false_row : List Str := ["line", "rule"]
abbrev p_false_row : List Str := ["line", "rule"]
theorem sc_false_row : FnScope n_false_row ["line", "rule"] (defScope s_false_row) := ⟨rfl, rfl, rfl, by decide +kernel, rfl, by decide +kernel, by decide +kernel⟩
abbrev s_Late___init__ : Stmt := inClass (top 34) 0
abbrev n_Late___init__ : List Str := ["self", "line", "rule"]
abbrev p_Late___init__ : List Str := ["self", "line", "rule"]
theorem sc_Late___init__ : FnScope n_Late___init__ ["self", "line", "rule"] (defScope s_Late___init__) := ⟨rfl, rfl, rfl, by decide +kernel, rfl, by decide +kernel, by decide +kernel⟩
abbrev s_Late_longest : Stmt := inClass (top 34) 1
abbrev n_Late_longest : List Str := ["self", "ages", "kept", "key", "found", "many", "left", "other", "row", "rest"]
abbrev p_Late_longest : List Str := ["self", "ages", "kept"]
theorem sc_Late_longest : FnScope n_Late_longest ["self", "ages", "kept"] (defScope s_Late_longest) := ⟨rfl, rfl, rfl, by decide +kernel, rfl, by decide +kernel, by decide +kernel⟩
abbrev s_latest : Stmt := top 35
abbrev n_latest : List Str := ["line", "rule", "late", "best", "met", "state", "kept", "most", "row", "heard"]
abbrev p_latest : List Str := ["line", "rule"]
theorem sc_latest : FnScope n_latest ["line", "rule"] (defScope s_latest) := ⟨rfl, rfl, rfl, by decide +kernel, rfl, by decide +kernel, by decide +kernel⟩
abbrev s_chosen : Stmt := top 36
abbrev n_chosen : List Str := ["line", "rules", "number", "rule", "best", "most"]
abbrev p_chosen : List Str := ["line", "rules"]
theorem sc_chosen : FnScope n_chosen ["line", "rules"] (defScope s_chosen) := ⟨rfl, rfl, rfl, by decide +kernel, rfl, by decide +kernel, by decide +kernel⟩
abbrev s__law_dice : Stmt := top 38
abbrev n__law_dice : List Str := ["_law_script", "_law_k", "_law_found", "_law_cell"]
abbrev p__law_dice : List Str := ["_law_script", "_law_k"]
theorem sc__law_dice : FnScope n__law_dice ["_law_script", "_law_k"] (defScope s__law_dice) := ⟨rfl, rfl, rfl, by decide +kernel, rfl, by decide +kernel, by decide +kernel⟩
abbrev s__law_off : Stmt := top 39
abbrev n__law_off : List Str := ["_law_d", "_law_most", "_law_found"]
abbrev p__law_off : List Str := ["_law_d", "_law_most"]
theorem sc__law_off : FnScope n__law_off ["_law_d", "_law_most"] (defScope s__law_off) := ⟨rfl, rfl, rfl, by decide +kernel, rfl, by decide +kernel, by decide +kernel⟩
abbrev s__law_alike : Stmt := top 40
abbrev n__law_alike : List Str := ["_law_found", "_law_due", "_law_k"]
abbrev p__law_alike : List Str := ["_law_found", "_law_due"]
theorem sc__law_alike : FnScope n__law_alike ["_law_found", "_law_due"] (defScope s__law_alike) := ⟨rfl, rfl, rfl, by decide +kernel, rfl, by decide +kernel, by decide +kernel⟩
abbrev s__law_refused : Stmt := top 41
abbrev n__law_refused : List Str := ["_law_work", "_law_word", "_law_value", "e", "_law_kinds", "_law_words", "_law_one"]
abbrev p__law_refused : List Str := ["_law_work", "_law_word", "_law_value"]
theorem sc__law_refused : FnScope n__law_refused ["_law_work", "_law_word", "_law_value"] (defScope s__law_refused) := ⟨rfl, rfl, rfl, by decide +kernel, rfl, by decide +kernel, by decide +kernel⟩
abbrev s__law_line : Stmt := top 42
abbrev n__law_line : List Str := ["_law_d", "_law_each", "_law_late"]
abbrev p__law_line : List Str := ["_law_d"]
theorem sc__law_line : FnScope n__law_line ["_law_d"] (defScope s__law_line) := ⟨rfl, rfl, rfl, by decide +kernel, rfl, by decide +kernel, by decide +kernel⟩
abbrev s__law_rule : Stmt := top 43
abbrev n__law_rule : List Str := ["_law_d"]
abbrev p__law_rule : List Str := ["_law_d"]
theorem sc__law_rule : FnScope n__law_rule ["_law_d"] (defScope s__law_rule) := ⟨rfl, rfl, rfl, by decide +kernel, rfl, by decide +kernel, by decide +kernel⟩
abbrev s__law_bad_line : Stmt := top 44
abbrev n__law_bad_line : List Str := ["_law_d", "_law_line_here", "_law_far", "_law_odd", "_law_at", "_law_parts", "_law_k"]
abbrev p__law_bad_line : List Str := ["_law_d", "_law_line_here"]
theorem sc__law_bad_line : FnScope n__law_bad_line ["_law_d", "_law_line_here"] (defScope s__law_bad_line) := ⟨rfl, rfl, rfl, by decide +kernel, rfl, by decide +kernel, by decide +kernel⟩
abbrev s__law_bad_rule : Stmt := top 45
abbrev n__law_bad_rule : List Str := ["_law_d", "_law_far", "_law_some"]
abbrev p__law_bad_rule : List Str := ["_law_d"]
theorem sc__law_bad_rule : FnScope n__law_bad_rule ["_law_d"] (defScope s__law_bad_rule) := ⟨rfl, rfl, rfl, by decide +kernel, rfl, by decide +kernel, by decide +kernel⟩
abbrev s_law : Stmt := top 46
abbrev n_law : List Str := ["_law_script", "_law_d", "_law_line_here", "_law_rule_here", "_law_bad", "_law_why", "_law_odd", "_law_works", "_law_work", "_law_rules", "_law_at"]
abbrev p_law : List Str := ["_law_script"]
theorem sc_law : FnScope n_law ["_law_script"] (defScope s_law) := ⟨rfl, rfl, rfl, by decide +kernel, rfl, by decide +kernel, by decide +kernel⟩
end Bw

set_option Elab.async false
set_option linter.all false
set_option maxRecDepth 100000
set_option maxHeartbeats 4000000
namespace Bw
open PySem PySem.Spec PyProof.Rows L2
section
variable {P : Program} {w : World} {K : PySem.W.Frag} {mg : Str → Option Value} {base : Heap} {f : Addr} {fd : FuncData}
theorem ok__law_off (F : FnP K "_law_off" s__law_off f fd) (g_len : mg "len" = none) : FnOk P w K mg base CX0 1 f fd p__law_off spOff := by
  refine F.ok sc__law_off (fun vs H Q E h => ?_) (fun cdv A outer s H vs Q E hr h => ?_)
  · obtain ⟨d, m, rfl, _⟩ := h
    rfl
  · obtain ⟨d, m, rfl, hd, h0, h1, k⟩ := h
    refine ⟨_, PSs.nox (Evl.pss_cut (ps_if (PW.pt (pw_and (pt_cmpR op_eq (pe_ix ix_list (pv 0) pe_int (fun _ _ => rfl)) pe_int (nomark _)) (pw_and1 (pt_cmpR op_gt (pe_callB call_len_seq (by rfl) g_len (by decide +kernel) (pa_cons (pv 0) pa_nil)) pe_int (nomark _)))))
          (pss_one (ps_asg (pe_bm PySem.F.plainAttrs_list PySem.F.slot_list_pop PySem.F.type_list_pop mt_popAt (pv 0) (pa_cons pe_int pa_nil)) (pg_sub (pv 0) pe_int set_list)))
          pss_nil)
        (pss_cons (ps_if (pt_cmpR op_gt (pe_ix ix_list (pv 0) pe_int (fun _ _ => rfl)) pe_int (nomark _))
          (pss_cons (ps_set (i := 2) sc__law_off.nd rfl (Or.inl rfl) (pe_op op_mod (pe_ix ix_list (pv 0) pe_int (fun _ _ => rfl)) (pv 1)))
            (pss_cons (ps_asg (pe_op op_fdiv (pe_ix ix_list (pv 0) pe_int (fun _ _ => rfl)) (pv 1)) (pg_sub (pv 0) pe_int set_list))
            (pss_one (ps_ret (pv 2)))))
          pss_nil)
        (pss_cons (ps_asg (pe_op op_mod (pe_op op_add (pe_op op_mul (pe_ix ix_list (pv 0) pe_int (fun _ _ => rfl)) pe_int) pe_int) pe_int) (pg_sub (pv 0) pe_int set_list))
        (pss_one (ps_ret (pe_op op_mod (pe_op op_fdiv (pe_ix ix_list (pv 0) pe_int (fun _ _ => rfl)) pe_int) (pv 1))))))), ?_⟩
    refine ⟨fun σ' H' => σ' = [some (.ref d), some (.int m), none] ∧ Dr d H H', ?_, ?_⟩
    · have hD := Dr.refl hd
      obtain ⟨xs, hx, a, b, r, rfl⟩ := hd
      refine ⟨_, rfl, d, _, _, _, rfl, rfl, SqL.of hx, atI_nat (j := 1) rfl, rfl, _, rfl, ?_⟩
      refine iteD (fun hb => ?_) (fun hb => ⟨rfl, hD⟩)
      refine ⟨_, rfl, d, _, rfl, Or.inl (SqL.of hx), _, _, rfl, rfl, _, rfl, ?_⟩
      refine iteD (fun hl => ?_) (fun hl => ⟨rfl, hD⟩)
      cases r with
      | nil => exact absurd hl (by simp)
      | cons x r =>
        refine ⟨_, rfl, Or.inl ⟨rfl, _, SqL.of hx⟩, d, _, 2, 2, V.int x, rfl, rfl, hx, by decide, by decide, ?_, rfl, ?_⟩
        · exact (ixN_seq (ixN_nat (i := 2) (by simp))).1
        refine ⟨_, rfl, d, _, 1, 1, rfl, rfl, upd_same, ixN_nat (i := 1) (by simp), rfl, ?_⟩
        rw [upd_upd]
        exact Dr.set hx ⟨a, x, r, rfl⟩
    · rintro σ' H' ⟨rfl, hD⟩
      obtain ⟨xs, hx, a, b, r, rfl⟩ := hD.dice
      refine ⟨_, rfl, d, _, _, _, rfl, rfl, SqL.of hx, atI_nat (j := 1) rfl, _, _, rfl, rfl, _, rfl, ?_⟩
      refine iteD (fun hb => ?_) (fun hb => ?_)
      · refine ⟨_, rfl, d, _, _, _, rfl, rfl, SqL.of hx, atI_nat (j := 1) rfl, _, rfl, _, _, rfl, rfl, h0, ?_⟩
        refine ⟨_, rfl, d, _, _, _, rfl, rfl, SqL.of hx, atI_nat (j := 1) rfl, _, rfl, _, _, rfl, rfl, ⟨h0, h1⟩, ?_⟩
        refine ⟨_, rfl, d, _, 1, 1, rfl, rfl, hx, ixN_nat (i := 1) (by simp), ?_⟩
        refine ⟨_, rfl, k _ _ (Int.emod_nonneg _ (by omega)) (Int.emod_lt_of_pos _ h0) (hD.trans (Dr.set hx ⟨a, _, r, rfl⟩))⟩
      · refine ⟨_, rfl, d, _, _, _, rfl, rfl, SqL.of hx, atI_nat (j := 0) rfl, _, _, rfl, rfl, Or.inr ⟨by decide, by decide⟩, _, _, rfl, rfl, _, _, rfl, rfl, (by show (0 : Int) < 2147483647; decide), ?_⟩
        refine ⟨_, rfl, d, _, 0, 0, rfl, rfl, hx, ixN_nat (i := 0) (by simp), ?_⟩
        refine ⟨_, rfl, d, _, _, _, rfl, rfl, SqL.of upd_same, atI_nat (j := 0) rfl, _, _, rfl, rfl, ⟨by decide, by decide⟩, _, rfl, _, _, rfl, rfl, h0, ?_⟩
        exact k _ _ (Int.emod_nonneg _ (by omega)) (Int.emod_lt_of_pos _ h0) (hD.trans (Dr.set hx ⟨_, b, r, rfl⟩))
end
end Bw

set_option Elab.async false
set_option linter.all false
set_option maxRecDepth 100000
set_option maxHeartbeats 4000000
namespace Bw
open PySem PySem.Spec PyProof.Rows L2
section
variable {P : Program} {w : World} {K : PySem.W.Frag} {mg : Str → Option Value} {base : Heap} {f : Addr} {fd : FuncData}
theorem ok__law_dice (F : FnP K "_law_dice" s__law_dice f fd) (g_abs : mg "abs" = none) : FnOk P w K mg base CX0 1 f fd p__law_dice (spDice K) := by
  refine F.ok sc__law_dice (fun vs H Q E h => ?_) (fun cdv A outer s H vs Q E hr h => ?_)
  · obtain ⟨a, k, ns, rfl, _⟩ := h
    rfl
  · obtain ⟨a, k, ns, rfl, hS, hlen, q⟩ := h
    refine ⟨_, PSs.nox (pss_cons (ps_set (i := 2) sc__law_dice.nd rfl (Or.inl rfl) (pv 1))
        (pss_cons (ps_for PassesOwn.never rfl (pi_list (pv 0)) (pg_name (i := 3) sc__law_dice.nd rfl (Or.inl rfl))
          (pss_one (ps_set (i := 2) sc__law_dice.nd rfl (Or.inl rfl) (pe_op op_mod (pe_op op_add (pe_op op_mul (pv 2) pe_int) (pe_callB call_abs (by rfl) g_abs (by decide +kernel) (pa_cons (pv 3) pa_nil))) pe_int))))
        (pss_one (ps_ret (pe_op op_cat (pe_lst (pa_cons (pv 2) (pa_cons pe_int pa_nil))) (pe_lc (own := [("_law_cell", 3)]) (g := gName 3) rfl sc__law_dice.nd (pi_list (pv 0)) (blkOk_by (own := [("_law_cell", 3)]) (N := n__law_dice) (sc := defScope s__law_dice) (by decide +kernel)) (fun _ _ _ _ _ => (pg_name (i := 3) sc__law_dice.nd rfl (Or.inl rfl))) (fun _ _ _ _ _ => (pts_one (pt_cmpR op_ge (pv 3) (pe_op op_pow pe_int pe_int) (nomark _)))) (fun _ _ _ _ _ => (pv 3)))))))), ?_⟩
    refine ⟨_, rfl, _, rfl, a, rfl, ⟨_, hS⟩, for_list (K := K) (a := a) (xs := ns.map V.int) (fun i σ H' => H' = H ∧ ∃ (z : Int) (v : Option V), σ = [some (.ref a), some (.int k), some (.int z), v]) ⟨rfl, k, none, rfl⟩ (fun i σ H' _ ⟨e, _⟩ => e ▸ hS) ?_ ?_⟩
    · rintro i y σ H' hi ⟨rfl, z, v, rfl⟩
      obtain ⟨c, _, rfl⟩ := int_at hi
      exact ⟨_, rfl, _, _, rfl, rfl, Or.inr ⟨by decide, by decide⟩, _, rfl, _, rfl, _, _, rfl, rfl, _, _, rfl, rfl, (by show (0 : Int) < 2147483647; decide), rfl, _, _, rfl⟩
    · rintro σ H' ⟨rfl, z, v, rfl⟩
      refine ⟨_, rfl, (by show 2 ≤ sizeLine; decide), fun p hp => ?_⟩
      refine ⟨_, rfl, a, rfl, ⟨_, (Same.newB hp).seq hS⟩, fun D hD => lc_list (K := K) (a := a) (xs := ns.map V.int) (fun i H2 => ∃ r : List Int, Same (upd H' p (.lst [.int z, .int 0])) H2 ∧ H2 D = some (.lst (r.map V.int)) ∧ r.length ≤ i) ⟨[], Same.newB hD, upd_same, Nat.le_refl _⟩ (fun i H2 _ ⟨r, s2, _⟩ => ((Same.newB hp).trans s2).seq hS) ?_ ?_⟩
      · rintro i y H2 hi ⟨r, s2, e2, l2⟩
        have hil := (List.getElem?_eq_some_iff.mp hi).1
        rw [List.length_map] at hil
        obtain ⟨c, _, rfl⟩ := int_at hi
        refine ⟨rfl, _, rfl, _, _, rfl, rfl, ⟨by decide, by decide, by decide⟩, _, _, rfl, rfl, _, rfl, ?_⟩
        refine iteD (fun hc => ?_) (fun hc => ⟨r, s2, e2, by omega⟩)
        refine ⟨_, rfl, _, e2, szlt (by rw [List.length_map]; omega), r ++ [c], s2.mutB hD, ?_, by rw [List.length_append]; simp; omega⟩
        rw [upd_same, List.map_append]
        rfl
      · rintro H2 ⟨r, s2, e2, l2⟩
        rw [List.length_map] at l2
        refine ⟨p, D, _, _, rfl, rfl, s2 _ _ upd_same, e2, szle (by rw [List.length_map]; simp; omega), fun q' hq => ?_⟩
        have s3 : Same H' H2 := (Same.newB hp).trans s2
        exact q q' _ (s3.moreB hq) (s3.free hq) ⟨_, upd_same, z, 0, r, rfl⟩
end
end Bw

set_option Elab.async false
set_option linter.all false
set_option maxRecDepth 100000
set_option maxHeartbeats 4000000
namespace Bw
open PySem PySem.Spec PyProof.Rows L2
section
variable {P : Program} {w : World} {K : PySem.W.Frag} {mg : Str → Option Value} {base : Heap} {f : Addr} {fd : FuncData}
theorem pick6 {r : Int} (h0 : 0 ≤ r) (h1 : r < 6) : ∃ e : Nat, 1 ≤ e ∧ e ≤ 4 ∧ atI [V.int 1, V.int 2, V.int 3, V.int 4, V.int 2, V.int 3] r = some (V.int (e : Int)) := by
  obtain ⟨n, rfl⟩ := Int.eq_ofNat_of_zero_le h0
  have h : n = 0 ∨ n = 1 ∨ n = 2 ∨ n = 3 ∨ n = 4 ∨ n = 5 := by omega
  rcases h with rfl | rfl | rfl | rfl | rfl | rfl
  · exact ⟨1, by omega, by omega, atI_nat (j := 0) rfl⟩
  · exact ⟨2, by omega, by omega, atI_nat (j := 1) rfl⟩
  · exact ⟨3, by omega, by omega, atI_nat (j := 2) rfl⟩
  · exact ⟨4, by omega, by omega, atI_nat (j := 3) rfl⟩
  · exact ⟨2, by omega, by omega, atI_nat (j := 4) rfl⟩
  · exact ⟨3, by omega, by omega, atI_nat (j := 5) rfl⟩
theorem ok__law_line (F : FnP K "_law_line" s__law_line f fd) (g_int : mg "int" = none) (h__law_off : Has P w K mg base 1 "_law_off" p__law_off spOff) : FnOk P w K mg base CX0 2 f fd ["_law_d"] spLine := by
  refine F.ok sc__law_line (fun vs H Q E h => ?_) (fun cdv A outer s H vs Q E hr h => ?_)
  · obtain ⟨d, rfl, _⟩ := h
    rfl
  · obtain ⟨d, rfl, hd, k⟩ := h
    refine ⟨_, PSs.nox (pss_cons (ps_set (i := 1) sc__law_line.nd rfl (Or.inl rfl) (pe_ix ix_list (pe_lst (pa_cons pe_int (pa_cons pe_int (pa_cons pe_int (pa_cons pe_int (pa_cons pe_int (pa_cons pe_int pa_nil))))))) (pe_fn h__law_off hr rfl (pa_cons (pv 0) (pa_cons pe_int pa_nil))) (fun _ _ => rfl)))
        (pss_cons (ps_set (i := 2) sc__law_line.nd rfl (Or.inl rfl) (pe_fn h__law_off hr rfl (pa_cons (pv 0) (pa_cons pe_int pa_nil))))
        (pss_one (ps_ret (pe_tup (pa_cons (pv 1) (pa_cons (pv 2) (pa_cons (pe_op op_mul (pe_fn h__law_off hr rfl (pa_cons (pv 0) (pa_cons pe_int pa_nil))) (pe_callTy call_int1 (by rfl) g_int (by decide +kernel) (pa_cons (pe_or (pe_cmpR op_gt (pv 1) pe_int (nomark _)) (pe_one (pe_cmpR op_lt (pv 2) pe_int (nomark _)))) pa_nil))) pa_nil)))))))), ?_⟩
    refine ⟨szle (Nat.le_of_ble_eq_true rfl), fun u hu => ⟨_, rfl, d, 6, rfl, hd.same (Same.newB hu), by decide, by decide, fun r1 H1 h1 g1 D1 => ?_⟩⟩
    have D1' : Dr d H H1 := (Dr.ofSame hd (Same.newB hu)).trans D1
    obtain ⟨e, he1, he4, hat⟩ := pick6 h1 g1
    refine ⟨u, _, _, _, rfl, rfl, SqL.of (D1.keep _ _ (hd.ne hu) upd_same), hat, ?_⟩
    refine ⟨_, rfl, d, 4, rfl, D1.dice, by decide, by decide, fun r2 H2 h2 g2 D2 => ?_⟩
    refine ⟨_, rfl, _, rfl, _, rfl, d, 3, rfl, D2.dice, by decide, by decide, fun r3 H3 h3 g3 D3 => ?_⟩
    have D := (D1'.trans D2).trans D3
    have fin : ∀ b : Bool, (b = false → ¬ ((e : Int) > 1) ∧ ¬ (r2 < 3)) → (b = true → (e : Int) > 1 ∨ r2 < 3) → ∀ p, H3 p = none → Q (.ref p) (upd H3 p (.tup [.int e, .int r2, .int (r3 * b2i b)])) := by
      intro b hb hb' p hp
      have hz : ∃ z : Nat, r3 * b2i b = (z : Int) ∧ z ≤ 2 ∧ (b = false → z = 0) := by
        cases b with
        | false => exact ⟨0, by show r3 * 0 = 0; omega, by omega, fun _ => rfl⟩
        | true => exact ⟨r3.toNat, by show r3 * 1 = _; omega, by omega, fun h => nomatch h⟩
      obtain ⟨z, ez, hz2, hz0⟩ := hz
      refine k ⟨e, r2.toNat, z⟩ p _ ⟨he1, he4, by show r2.toNat ≤ 3; omega, hz2⟩ (fun h1 h2 => ?_) (D.new hp) (D.free hp) ?_
      · have h1' : e = 1 := h1
        have h2' : r2.toNat = 3 := h2
        cases b with
        | false => exact hz0 rfl
        | true => exact absurd (hb' rfl) (by omega)
      · show _ = some (HO.tup [.int (e : Int), .int ((r2.toNat : Nat) : Int), .int (z : Int)])
        rw [ez, upd_same]
        have e2 : ((r2.toNat : Nat) : Int) = r2 := by omega
        rw [e2]
    refine ⟨_, rfl, _, _, rfl, rfl, _, rfl, iteD (fun hc => ?_) (fun hc => ?_)⟩
    · refine Or.inr ⟨_, rfl, ⟨_, _, rfl, rfl, Or.inl ⟨by omega, by omega⟩, ?_⟩⟩
      exact ⟨szle (Nat.le_of_ble_eq_true rfl), fin true (fun h => nomatch h) (fun _ => .inl hc)⟩
    · refine ⟨_, rfl, _, _, rfl, rfl, Or.inr ⟨_, rfl, ⟨_, _, rfl, rfl, Or.inl ⟨by omega, by omega⟩, ?_⟩⟩⟩
      refine ⟨szle (Nat.le_of_ble_eq_true rfl), fin _ (fun h => ⟨hc, of_decide_eq_false h⟩) (fun h => .inr (of_decide_eq_true h))⟩
end
end Bw

set_option Elab.async false
set_option linter.all false
set_option maxRecDepth 100000
set_option maxHeartbeats 4000000
namespace Bw
open PySem PySem.Spec PyProof.Rows L2
section
variable {P : Program} {w : World} {K : PySem.W.Frag} {mg : Str → Option Value} {base : Heap} {f : Addr} {fd : FuncData}
theorem ok__law_rule (F : FnP K "_law_rule" s__law_rule f fd) (h__law_off : Has P w K mg base 1 "_law_off" p__law_off spOff) : FnOk P w K mg base CX0 2 f fd ["_law_d"] spRule := by
  refine F.ok sc__law_rule (fun vs H Q E h => ?_) (fun cdv A outer s H vs Q E hr h => ?_)
  · obtain ⟨d, rfl, _⟩ := h
    rfl
  · obtain ⟨d, rfl, hd, k⟩ := h
    refine ⟨_, PSs.nox (pss_cons (ps_if (pt_cmpR op_eq (pe_fn h__law_off hr rfl (pa_cons (pv 0) (pa_cons pe_int pa_nil))) pe_int (nomark _))
          (pss_one (ps_ret (pe_tup (pa_cons pe_str (pa_cons (pe_op op_add pe_int (pe_fn h__law_off hr rfl (pa_cons (pv 0) (pa_cons pe_int pa_nil)))) pa_nil)))))
          pss_nil)
        (pss_one (ps_ret (pe_tup (pa_cons pe_str (pa_cons (pe_op op_add pe_int (pe_fn h__law_off hr rfl (pa_cons (pv 0) (pa_cons pe_int pa_nil)))) (pa_cons (pe_op op_add pe_int (pe_fn h__law_off hr rfl (pa_cons (pv 0) (pa_cons pe_int pa_nil)))) pa_nil))))))), ?_⟩
    refine ⟨_, rfl, d, 2, rfl, hd, by decide, by decide, fun r1 H1 h1 g1 D1 => ⟨rfl, _, rfl, iteD (fun _ => ?_) (fun _ => ?_)⟩⟩
    · refine ⟨_, rfl, d, 12, rfl, D1.dice, by decide, by decide, fun r2 H2 h2 g2 D2 => ⟨_, _, rfl, rfl, szle (Nat.le_of_ble_eq_true rfl), fun p hp => ?_⟩⟩
      have D3 := D1.trans D2
      have e : (((1 + r2).toNat : Nat) : Int) = 1 + r2 := by omega
      refine k (.since (1 + r2).toNat) p _ ⟨by omega, by omega⟩ (D3.new hp) (D3.free hp) ?_
      show _ = some (HO.tup [.str "since", .int (((1 + r2).toNat : Nat) : Int)])
      rw [e]
      exact upd_same
    · refine ⟨_, rfl, d, 5, rfl, D1.dice, by decide, by decide, fun r2 H2 h2 g2 D2 => ⟨_, _, rfl, rfl, ?_⟩⟩
      refine ⟨_, rfl, d, 3, rfl, D2.dice, by decide, by decide, fun r3 H3 h3 g3 D3 => ⟨_, _, rfl, rfl, szle (Nat.le_of_ble_eq_true rfl), fun p hp => ?_⟩⟩
      have D4 := (D1.trans D2).trans D3
      have e : (((1 + r2).toNat : Nat) : Int) = 1 + r2 := by omega
      have e' : (((1 + r3).toNat : Nat) : Int) = 1 + r3 := by omega
      refine k (.few (1 + r2).toNat (1 + r3).toNat) p _ ⟨by omega, by omega, by omega, by omega⟩ (D4.new hp) (D4.free hp) ?_
      show _ = some (HO.tup [.str "few", .int (((1 + r2).toNat : Nat) : Int), .int (((1 + r3).toNat : Nat) : Int)])
      rw [e, e']
      exact upd_same
end
end Bw

set_option Elab.async false
set_option linter.all false
set_option maxRecDepth 100000
set_option maxHeartbeats 4000000
namespace Bw
open PySem PySem.Spec PyProof.Rows L2
section
variable {P : Program} {w : World} {K : PySem.W.Frag} {mg : Str → Option Value} {base : Heap} {f : Addr} {fd : FuncData}
theorem ok_alikeS (F : FnP K "_law_alike" s__law_alike f fd) (g_isinstance : mg "isinstance" = none) (g_bool : mg "bool" = none) (g_int : mg "int" = none) (g_str : mg "str" = none) (g_tuple : mg "tuple" = none) (g_list : mg "list" = none) (g_len : mg "len" = none) : L2H.FnH P w K mg base CX0 1 f fd p__law_alike spAlikeS := by
  obtain ⟨oc, od, dV, kV, doc, pm, an, cdv, ct, osl, rfl, lk, hcd, _, _⟩ := F.ex
  refine L2H.fn_ofH lk hcd sc__law_alike (fun vs H Q E h => ?_) (fun A outer s H vs Q E p hot hr h => ?_)
  · obtain ⟨v, rfl, _⟩ := h
    rfl
  · obtain ⟨v, rfl, hs, k⟩ := h
    refine ⟨_, (pss_cons (ps_if (pt_cmpR op_isN (pv 1) pe_non (nomark _))
          (pss_one (ps_ret (pe_cmpR op_isN (pv 0) pe_non (nomark _))))
          pss_nil)
        (pss_cons (ps_if (pt_val (pe_callB call_isi (by rfl) g_isinstance (by decide +kernel) (pa_cons (pv 1) (pa_cons (pe_bltn (v := .ty "bool") (by rfl) g_bool (by decide +kernel) rfl) pa_nil))))
          (pss_one (ps_ret (pe_and (pe_callB call_isi (by rfl) g_isinstance (by decide +kernel) (pa_cons (pv 0) (pa_cons (pe_bltn (v := .ty "bool") (by rfl) g_bool (by decide +kernel) rfl) pa_nil))) (pe_one (pe_cmpR op_eq (pv 0) (pv 1) (nomark _))))))
          pss_nil)
        (pss_cons (ps_if (pt_val (pe_callB call_isi (by rfl) g_isinstance (by decide +kernel) (pa_cons (pv 1) (pa_cons (pe_bltn (v := .ty "int") (by rfl) g_int (by decide +kernel) rfl) pa_nil))))
          (pss_one (ps_ret (pe_and (pe_callB call_isi (by rfl) g_isinstance (by decide +kernel) (pa_cons (pv 0) (pa_cons (pe_bltn (v := .ty "int") (by rfl) g_int (by decide +kernel) rfl) pa_nil))) (pe_and (pe_not (pe_callB call_isi (by rfl) g_isinstance (by decide +kernel) (pa_cons (pv 0) (pa_cons (pe_bltn (v := .ty "bool") (by rfl) g_bool (by decide +kernel) rfl) pa_nil)))) (pe_one (pe_cmpR op_eq (pv 0) (pv 1) (nomark _)))))))
          pss_nil)
        (pss_cons (ps_if (pt_val (pe_callB call_isi (by rfl) g_isinstance (by decide +kernel) (pa_cons (pv 1) (pa_cons (pe_bltn (v := .ty "str") (by rfl) g_str (by decide +kernel) rfl) pa_nil))))
          (pss_one (ps_ret (pe_and (pe_callB call_isi (by rfl) g_isinstance (by decide +kernel) (pa_cons (pv 0) (pa_cons (pe_bltn (v := .ty "str") (by rfl) g_str (by decide +kernel) rfl) pa_nil))) (pe_one (pe_cmpR op_eq (pv 0) (pv 1) (nomark _))))))
          pss_nil)
        pss_never)))), ?_⟩
    refine ⟨_, rfl, rfl, _, rfl, ?_⟩
    rcases hs with ⟨i, rfl⟩ | ⟨i, rfl⟩
    · refine iteD (fun h => nomatch h) (fun _ => ?_)
      refine ⟨_, rfl, _, _, _, _, false, rfl, .ty _, (.base (.int i)), kit_ty (by decide +kernel), _, rfl, iteF ?_⟩
      refine ⟨_, rfl, _, _, _, _, true, rfl, .ty _, (.base (.int i)), kit_ty (by decide +kernel), _, rfl, iteT ?_⟩
      refine ⟨_, rfl, _, _, _, _, true, rfl, .ty _, (.base (.int i)), kit_ty (by decide +kernel), _, rfl, iteT ?_⟩
      exact ⟨_, rfl, _, _, _, _, false, rfl, .ty _, (.base (.int i)), kit_ty (by decide +kernel), _, rfl, _, rfl, iteT ⟨_, rfl, _, rfl, rfl, qd (Q := Q) rfl k⟩⟩
    · refine iteD (fun h => nomatch h) (fun _ => ?_)
      refine ⟨_, rfl, _, _, _, _, false, rfl, .ty _, (.base (.str i)), kit_ty (by decide +kernel), _, rfl, iteF ?_⟩
      refine ⟨_, rfl, _, _, _, _, false, rfl, .ty _, (.base (.str i)), kit_ty (by decide +kernel), _, rfl, iteF ?_⟩
      refine ⟨_, rfl, _, _, _, _, true, rfl, .ty _, (.base (.str i)), kit_ty (by decide +kernel), _, rfl, iteT ?_⟩
      exact ⟨_, rfl, _, _, _, _, true, rfl, .ty _, (.base (.str i)), kit_ty (by decide +kernel), _, rfl, iteT ⟨_, rfl, _, rfl, rfl, qd (Q := Q) rfl k⟩⟩
theorem bls_shp (bs : List Bool) : SeqAt.shaped (.list (bs.map PyData.bool)) = true := Shp.ok (n := 1) (shp_list fun d hd => by
  obtain ⟨b, _, rfl⟩ := List.mem_map.mp hd
  exact shp_bool 0 b) (by omega)
theorem refused_run {C : Wd → Addr} {B : Addr} (F : FnP K "_law_refused" s__law_refused f fd) (R : RefC K mg B C) (g_isinstance : mg "isinstance" = none) (g_ValueError : mg "ValueError" = none) (h__law_alike : HasH P w K mg base 1 "_law_alike" p__law_alike spAlikeS)
    {kk : Nat} {A : Around} {outer : List Env} {s : Shared} {H : Hp} {fl : Addr} {L : LF} {dV : Value} {T : Hp → VK → XK → Prop} {wd : Wd} {v : V} {Q : VK} {us : List Value} (hr : Room (kk + 1) A) (hkk : 1 ≤ kk) (e0 : Env0 P w K mg base A outer s H) (hact : ActL P w K mg base kk fl L dV T (frs outer) s H)
    (r : Vals [.ref fl, .str wd.word, v] us) (hb : BindsTo s fd ⟨us, []⟩ (p__law_refused.zip us)) (hl : H fl = some (LamO fl L dV)) (hs : Scal v) (hT : ∀ (Q' : VK) (E' : XK), (∀ x H', Same H H' → H x = none → H' x = some (.xd [(wd.fld, v)]) → E' (.ref (C wd)) (some x) H') → T H Q' E') (hQ : ∀ H', Same H H' → Q (.bl true) H') :
    codeAny (model P w) A (.call (.ref f) ⟨us, []⟩) (CR CX0 outer P w H s Q E0) s := by
  obtain ⟨oc, od, dV', kV, doc, pm, an, cdv, ct, osl, rfl, lk, hcd, _, _⟩ := F.ex
  refine LamX.run_ofS (N := n__law_refused) (ps := p__law_refused) (us := us) (vs := [.ref fl, .str wd.word, v]) (k := kk) lk hcd sc__law_refused hr e0 hb r rfl fun hr' => ?_
  have g1 : mg "BadLine" = some (.ref (C .line)) := R.g .line
  have g2 : mg "BadRule" = some (.ref (C .rule)) := R.g .rule
  have g3 : mg "BadHeard" = some (.ref (C .heard)) := R.g .heard
  have g4 : mg "BadText" = some (.ref (C .text)) := R.g .text
  refine ⟨_, (pss_cons (L2N.ps_try_as (i := 3) rfl rfl sc__law_refused.nd rfl rfl ⟨rfl, by decide, Or.inl R.gB⟩ takes0N
      (fun W pn xe tk _ => (pss_one (ps_expr (pe_actN (i := 0) hact tk hr' rfl (Or.inl rfl)))))
      (fun a oe cls d pn hz hf =>
        (pss_cons (ps_set (i := 4) sc__law_refused.nd rfl (Or.inl rfl) (pe_lst (pa_cons (pe_callB (call_isX hz hf) (by rfl) g_isinstance (by decide +kernel) (pa_cons (pv 3) (pa_cons (pe_gR rfl g1) pa_nil))) (pa_cons (pe_callB (call_isX hz hf) (by rfl) g_isinstance (by decide +kernel) (pa_cons (pv 3) (pa_cons (pe_gR rfl g2) pa_nil))) (pa_cons (pe_callB (call_isX hz hf) (by rfl) g_isinstance (by decide +kernel) (pa_cons (pv 3) (pa_cons (pe_gR rfl g3) pa_nil))) (pa_cons (pe_callB (call_isX hz hf) (by rfl) g_isinstance (by decide +kernel) (pa_cons (pv 3) (pa_cons (pe_gR rfl g4) pa_nil))) pa_nil))))))
        (pss_cons (ps_set (i := 5) sc__law_refused.nd rfl (Or.inl rfl) (pe_lst (pa_cons pe_str (pa_cons pe_str (pa_cons pe_str (pa_cons pe_str pa_nil))))))
        (pss_cons (ps_if (PW.pt (pw_or (pt_not (pt_val (pe_callB (call_isX hz hf) (by rfl) g_isinstance (by decide +kernel) (pa_cons (pv 3) (pa_cons (pe_bltn (v := .ty "ValueError") (by rfl) g_ValueError (by decide +kernel) rfl) pa_nil))))) (pw_or1 (pt_cmpR (r := rNeD K) (op_neD hr'.units) (pv 4) (pe_lcH (own := [("_law_one", 6)]) (g := gName 6) hz hf sc__law_refused.nd (pv 5) (blkOk_by (own := [("_law_one", 6)]) (N := n__law_refused) (sc := defScope s__law_refused) (by decide +kernel)) (fun _ _ _ _ _ => (pg_name (i := 6) sc__law_refused.nd rfl (Or.inl rfl))) (fun _ _ _ _ _ => pts_nil) (fun _ _ _ _ _ => (pe_cmpR op_eq (pv 1) (pv 6) (nomark _)))) (nomark _)))))
          (pss_one (ps_ret pe_bl))
          pss_nil)
        (pss_cons (ps_if (pt_cmpR op_eq (pv 1) pe_str (nomark _))
          (pss_one (ps_ret (pe_fnH h__law_alike hz hf hr' hkk rfl (pa_cons (pe_xf (R.xf .line) (R.no .line) hz.zc hf (pv 3)) (pa_cons (pv 2) pa_nil)))))
          pss_nil)
        (pss_cons (ps_if (pt_cmpR op_eq (pv 1) pe_str (nomark _))
          (pss_one (ps_ret (pe_fnH h__law_alike hz hf hr' hkk rfl (pa_cons (pe_xf (R.xf .rule) (R.no .rule) hz.zc hf (pv 3)) (pa_cons (pv 2) pa_nil)))))
          pss_nil)
        (pss_one (ps_ret (pe_fnH h__law_alike hz hf hr' hkk rfl (pa_cons (pe_ifExp (pt_cmpR op_eq (pv 1) pe_str (nomark _)) (pe_xf (R.xf .heard) (R.no .heard) hz.zc hf (pv 3)) (pe_xf (R.xf .text) (R.no .text) hz.zc hf (pv 3))) (pa_cons (pv 2) pa_nil))))))))))))
    (pss_one (ps_ret pe_bl))), ?_⟩
  refine ⟨rfl, hl, hT _ _ fun x H1 s1 nx hx => ⟨true, R.exm wd, fun _ a ha => ?_, fun q => nomatch q⟩⟩
  have isx : ∀ (e : Wd), PySem.W.kitOne K (.ref (C wd)) (.ref (C e)) = some (decide (e = wd)) := R.kit wd
  refine ⟨_, rfl, C wd, x, _, _, .ref (C .line), _, rfl, rfl, R.x wd, hx, rfl, (fun u h => h), isx .line, ?_⟩
  refine ⟨_, rfl, C wd, x, _, _, .ref (C .rule), _, rfl, rfl, R.x wd, hx, rfl, (fun u h => h), isx .rule, ?_⟩
  refine ⟨_, rfl, C wd, x, _, _, .ref (C .heard), _, rfl, rfl, R.x wd, hx, rfl, (fun u h => h), isx .heard, ?_⟩
  refine ⟨_, rfl, C wd, x, _, _, .ref (C .text), _, rfl, rfl, R.x wd, hx, rfl, (fun u h => h), isx .text, ?_⟩
  refine ⟨szle (Nat.le_of_ble_eq_true rfl), fun kp nkp => ⟨szle (Nat.le_of_ble_eq_true rfl), fun wp nwp => ?_⟩⟩
  have sK : Same H1 (upd H1 kp (.lst [V.bl (decide (Wd.line = wd)), V.bl (decide (Wd.rule = wd)), V.bl (decide (Wd.heard = wd)), V.bl (decide (Wd.text = wd))])) := Same.newB nkp
  have sW := sK.moreB (o := .lst [V.str ("line" : Str), V.str ("rule" : Str), V.str ("heard" : Str), V.str ("text" : Str)]) nwp
  have hx2 := sW _ _ hx
  have hkp2 : (upd (upd H1 kp (.lst [V.bl (decide (Wd.line = wd)), V.bl (decide (Wd.rule = wd)), V.bl (decide (Wd.heard = wd)), V.bl (decide (Wd.text = wd))])) wp (.lst [V.str ("line" : Str), V.str ("rule" : Str), V.str ("heard" : Str), V.str ("text" : Str)])) kp = some (.lst ((wds.map fun e => decide (e = wd)).map V.bl)) := (Same.newB (o := .lst [V.str ("line" : Str), V.str ("rule" : Str), V.str ("heard" : Str), V.str ("text" : Str)]) nwp) _ _ (upd_same (H := H1) (a := kp) (o := .lst [V.bl (decide (Wd.line = wd)), V.bl (decide (Wd.rule = wd)), V.bl (decide (Wd.heard = wd)), V.bl (decide (Wd.text = wd))]))
  have hwp2 : (upd (upd H1 kp (.lst [V.bl (decide (Wd.line = wd)), V.bl (decide (Wd.rule = wd)), V.bl (decide (Wd.heard = wd)), V.bl (decide (Wd.text = wd))])) wp (.lst [V.str ("line" : Str), V.str ("rule" : Str), V.str ("heard" : Str), V.str ("text" : Str)])) wp = some (.lst (wds.map fun e => V.str e.word)) := upd_same
  have s2 := s1.trans sW
  refine ⟨_, rfl, C wd, x, _, _, .type "ValueError", true, rfl, rfl, R.x wd, hx2, rfl, (fun u h => h), R.kitV wd, _, rfl, iteF ?_⟩
  revert hx2 hkp2 hwp2 s2
  generalize upd (upd H1 kp (.lst [V.bl (decide (Wd.line = wd)), V.bl (decide (Wd.rule = wd)), V.bl (decide (Wd.heard = wd)), V.bl (decide (Wd.text = wd))])) wp (.lst [V.str ("line" : Str), V.str ("rule" : Str), V.str ("heard" : Str), V.str ("text" : Str)]) = H2
  intro hx2 hkp2 hwp2 s2
  have fin : ∀ H3, Same H2 H3 → H3 x = some (.xd [(wd.fld, v)]) := fun H3 s => s _ _ hx2
  refine ⟨_, rfl, _, rfl, wp, rfl, ⟨_, SqL.of hwp2⟩, fun D nD => lc_list (K := K) (a := wp) (xs := wds.map fun e => V.str e.word) (fun i H' => Same H2 H' ∧ H' D = some (.lst (((wds.take i).map fun e => decide (V.str wd.word = V.str e.word)).map V.bl))) ⟨Same.newB nD, upd_same⟩ (fun i H' _ h => SqL.of (h.1 _ _ hwp2)) ?_ ?_⟩
  · rintro i y H' hi ⟨s', e'⟩
    rw [List.getElem?_map] at hi
    obtain ⟨e, he, rfl⟩ : ∃ e, wds[i]? = some e ∧ V.str e.word = y := by
      cases q : wds[i]? with
      | none => rw [q] at hi; cases hi
      | some e => rw [q] at hi; exact ⟨e, rfl, Option.some.inj hi⟩
    have hil := (List.getElem?_eq_some_iff.mp he).1
    have et : wds.take (i + 1) = wds.take i ++ [e] := by rw [List.take_succ, he]; rfl
    refine ⟨rfl, _, rfl, _, rfl, rfl, _, e', szlt (by rw [List.length_map, List.length_map, List.length_take]; have : wds.length = 4 := rfl; omega), s'.mutB nD, ?_⟩
    rw [upd_same, et, List.map_append, List.map_append]
    rfl
  · rintro H3 ⟨s3, e3⟩
    rw [List.length_map, List.take_length] at e3
    have hx3 := fin H3 s3
    have e4 : (wds.map fun e => decide (V.str wd.word = V.str e.word)) = wds.map fun e => decide (e = wd) := by
      cases wd <;> decide +kernel
    rw [e4] at e3
    have sQ : ∀ H4, Same H3 H4 → Q (.bl true) H4 := fun H4 s4 => hQ H4 (s2.trans (s3.trans s4))
    refine ⟨.list ((wds.map fun e => decide (e = wd)).map PyData.bool), .list ((wds.map fun e => decide (e = wd)).map PyData.bool), .lst (SqL.of (s3 _ _ hkp2)) (dp_bls _), .lst (SqL.of e3) (dp_bls _), bls_shp _, bls_shp _, _, rfl, ?_⟩
    rw [eqv_self (bls_shp _)]
    refine iteF ⟨_, rfl, rfl, _, rfl, ?_⟩
    cases wd with
    | line =>
      refine iteD (fun _ => ?_) (fun h => absurd rfl h)
      exact ⟨_, rfl, rfl, rfl, x, _, v, rfl, hx3, rfl, _, rfl, v, rfl, hs, sQ H3 (Same.refl _)⟩
    | rule =>
      refine iteD (fun h => absurd (V.str.inj h) (by decide +kernel)) (fun _ => ⟨_, rfl, rfl, _, rfl, iteD (fun _ => ?_) (fun h => absurd rfl h)⟩)
      exact ⟨_, rfl, rfl, rfl, x, _, v, rfl, hx3, rfl, _, rfl, v, rfl, hs, sQ H3 (Same.refl _)⟩
    | heard =>
      refine iteD (fun h => absurd (V.str.inj h) (by decide +kernel)) (fun _ => ⟨_, rfl, rfl, _, rfl, iteD (fun h => absurd (V.str.inj h) (by decide +kernel)) (fun _ => ?_)⟩)
      refine ⟨_, rfl, rfl, _, rfl, iteD (fun _ => ?_) (fun h => absurd rfl h)⟩
      exact ⟨_, rfl, rfl, rfl, x, _, v, rfl, hx3, rfl, _, rfl, v, rfl, hs, sQ H3 (Same.refl _)⟩
    | text =>
      refine iteD (fun h => absurd (V.str.inj h) (by decide +kernel)) (fun _ => ⟨_, rfl, rfl, _, rfl, iteD (fun h => absurd (V.str.inj h) (by decide +kernel)) (fun _ => ?_)⟩)
      refine ⟨_, rfl, rfl, _, rfl, iteD (fun h => absurd (V.str.inj h) (by decide +kernel)) (fun _ => ?_)⟩
      exact ⟨_, rfl, rfl, rfl, x, _, v, rfl, hx3, rfl, _, rfl, v, rfl, hs, sQ H3 (Same.refl _)⟩
end
end Bw

set_option Elab.async false
set_option linter.all false
set_option maxRecDepth 100000
set_option maxHeartbeats 4000000
namespace Bw
open PySem PySem.Spec PyProof.Rows L2
section
variable {P : Program} {w : World} {K : PySem.W.Frag} {mg : Str → Option Value} {base : Heap} {f : Addr} {fd : FuncData}
theorem ok_BadLine___init__ {B C : Addr} (F : FnQ K "__init__" "BadLine.__init__" s_BadLine___init__ f fd) (g_BeatError : mg "BeatError" = some (.ref B)) (hs : PySem.W.specialIn K (.ref B) "__getattribute__" = some (some (.builtin "type.__getattribute__"))) (hrd : PySem.W.readsIn K B (.type "type") = true)
    (hf : PySem.W.findCls K (.ref B) (.type "type") "__init__" = some (.val (.builtin "ValueError.__init__"))) (T : OexC K C) (no : PySem.W.findIn K (.ref C) "why" = some none) : FnOk P w K mg base CX0 1 f fd p_BadLine___init__ (spXInit C "why") := by
  refine F.ok sc_BadLine___init__ (fun vs H Q E h => ?_) (fun cdv A outer s H vs Q E hr h => ?_)
  · obtain ⟨a, v, rfl, _⟩ := h
    rfl
  · obtain ⟨a, v, rfl, ha, k⟩ := h
    refine ⟨_, PSs.nox (pss_cons (ps_expr (pe_owninit rfl g_BeatError hs hrd hf (pa_cons (pv 0) (pa_cons (pv 1) pa_nil)))) (pss_one (ps_ost (pv 0) (pv 1)))), ?_⟩
    refine ⟨_, rfl, _, rfl, a, C, [v], rfl, (by show 1 ≤ 1000; decide), T, ha, ?_⟩
    exact ⟨_, rfl, _, rfl, a, C, rfl, T, no, Or.inl ⟨ha, fun dx n ne => k dx n ne⟩⟩
theorem ok_BadRule___init__ {B C : Addr} (F : FnQ K "__init__" "BadRule.__init__" s_BadRule___init__ f fd) (g_BeatError : mg "BeatError" = some (.ref B)) (hs : PySem.W.specialIn K (.ref B) "__getattribute__" = some (some (.builtin "type.__getattribute__"))) (hrd : PySem.W.readsIn K B (.type "type") = true)
    (hf : PySem.W.findCls K (.ref B) (.type "type") "__init__" = some (.val (.builtin "ValueError.__init__"))) (T : OexC K C) (no : PySem.W.findIn K (.ref C) "number" = some none) : FnOk P w K mg base CX0 1 f fd p_BadRule___init__ (spXInit C "number") := by
  refine F.ok sc_BadRule___init__ (fun vs H Q E h => ?_) (fun cdv A outer s H vs Q E hr h => ?_)
  · obtain ⟨a, v, rfl, _⟩ := h
    rfl
  · obtain ⟨a, v, rfl, ha, k⟩ := h
    refine ⟨_, PSs.nox (pss_cons (ps_expr (pe_owninit rfl g_BeatError hs hrd hf (pa_cons (pv 0) (pa_cons (pv 1) pa_nil)))) (pss_one (ps_ost (pv 0) (pv 1)))), ?_⟩
    refine ⟨_, rfl, _, rfl, a, C, [v], rfl, (by show 1 ≤ 1000; decide), T, ha, ?_⟩
    exact ⟨_, rfl, _, rfl, a, C, rfl, T, no, Or.inl ⟨ha, fun dx n ne => k dx n ne⟩⟩
theorem ok_BadHeard___init__ {B C : Addr} (F : FnQ K "__init__" "BadHeard.__init__" s_BadHeard___init__ f fd) (g_BeatError : mg "BeatError" = some (.ref B)) (hs : PySem.W.specialIn K (.ref B) "__getattribute__" = some (some (.builtin "type.__getattribute__"))) (hrd : PySem.W.readsIn K B (.type "type") = true)
    (hf : PySem.W.findCls K (.ref B) (.type "type") "__init__" = some (.val (.builtin "ValueError.__init__"))) (T : OexC K C) (no : PySem.W.findIn K (.ref C) "at" = some none) : FnOk P w K mg base CX0 1 f fd p_BadHeard___init__ (spXInit C "at") := by
  refine F.ok sc_BadHeard___init__ (fun vs H Q E h => ?_) (fun cdv A outer s H vs Q E hr h => ?_)
  · obtain ⟨a, v, rfl, _⟩ := h
    rfl
  · obtain ⟨a, v, rfl, ha, k⟩ := h
    refine ⟨_, PSs.nox (pss_cons (ps_expr (pe_owninit rfl g_BeatError hs hrd hf (pa_cons (pv 0) (pa_cons (pv 1) pa_nil)))) (pss_one (ps_ost (pv 0) (pv 1)))), ?_⟩
    refine ⟨_, rfl, _, rfl, a, C, [v], rfl, (by show 1 ≤ 1000; decide), T, ha, ?_⟩
    exact ⟨_, rfl, _, rfl, a, C, rfl, T, no, Or.inl ⟨ha, fun dx n ne => k dx n ne⟩⟩
theorem ok_BadText___init__ {B C : Addr} (F : FnQ K "__init__" "BadText.__init__" s_BadText___init__ f fd) (g_BeatError : mg "BeatError" = some (.ref B)) (hs : PySem.W.specialIn K (.ref B) "__getattribute__" = some (some (.builtin "type.__getattribute__"))) (hrd : PySem.W.readsIn K B (.type "type") = true)
    (hf : PySem.W.findCls K (.ref B) (.type "type") "__init__" = some (.val (.builtin "ValueError.__init__"))) (T : OexC K C) (no : PySem.W.findIn K (.ref C) "place" = some none) : FnOk P w K mg base CX0 1 f fd p_BadText___init__ (spXInit C "place") := by
  refine F.ok sc_BadText___init__ (fun vs H Q E h => ?_) (fun cdv A outer s H vs Q E hr h => ?_)
  · obtain ⟨a, v, rfl, _⟩ := h
    rfl
  · obtain ⟨a, v, rfl, ha, k⟩ := h
    refine ⟨_, PSs.nox (pss_cons (ps_expr (pe_owninit rfl g_BeatError hs hrd hf (pa_cons (pv 0) (pa_cons (pv 1) pa_nil)))) (pss_one (ps_ost (pv 0) (pv 1)))), ?_⟩
    refine ⟨_, rfl, _, rfl, a, C, [v], rfl, (by show 1 ≤ 1000; decide), T, ha, ?_⟩
    exact ⟨_, rfl, _, rfl, a, C, rfl, T, no, Or.inl ⟨ha, fun dx n ne => k dx n ne⟩⟩
end
end Bw

set_option Elab.async false
set_option linter.all false
set_option maxRecDepth 100000
set_option maxHeartbeats 4000000
namespace Bw
open PySem PySem.Spec PyProof.Rows L2
section
variable {P : Program} {w : World} {K : PySem.W.Frag} {mg : Str → Option Value} {base : Heap} {f : Addr} {fd : FuncData}
theorem ok_need_heard {t1 t2 : Tok} (F : FnP K "need_heard" s_need_heard f fd) (g_enumerate : mg "enumerate" = none) (g_MOST_MOMENTS : mg "MOST_MOMENTS" = some (.int 200 t1)) (g_MOST_HEARD : mg "MOST_HEARD" = some (.int 9 t2)) : FnOk P w K mg base CX0 1 f fd ["heard"] (spNeedHeard K) := by
  refine F.ok sc_need_heard (fun vs H Q E h => ?_) (fun cdv A outer s H vs Q E hr h => ?_)
  · obtain ⟨l, hs, rfl, _⟩ := h
    rfl
  · obtain ⟨l, hs, rfl, hl, ho, k⟩ := h
    refine ⟨_, PSs.nox (pss_one (ps_for PassesOwn.never rfl (pi_enum (by rfl) g_enumerate (pa_cons (pv 0) pa_nil)) (pg_tup rfl (pgs_cons (pg_name (i := 1) sc_need_heard.nd rfl (Or.inl rfl)) (pgs_cons (pg_name (i := 2) sc_need_heard.nd rfl (Or.inl rfl)) pgs_nil)))
        (pss_one (ps_if (PW.pt (pw_or (pt_cmpR op_ge (pv 1) (pe_gI rfl g_MOST_MOMENTS) (nomark _)) (pw_or1 (pt_not (pt_chain op_le op_le pe_int (pv 2) (pe_gI rfl g_MOST_HEARD))))))
          (pss_one ps_never)
          pss_nil)))), ?_⟩
    refine ⟨_, rfl, l, _, rfl, hl, for_enum (K := K) (a := l) (xs := hs.map V.int) (fun i σ H' => Same H H' ∧ ∃ v1 v2, σ = [some (.ref l), v1, v2]) ⟨Same.refl H, none, none, rfl⟩ (fun i σ H' _ ⟨s1, _⟩ => s1.seq hl) ?_ ?_⟩
    · rintro i y σ H' T hi ⟨s1, v1, v2, rfl⟩ nT
      have hil := (List.getElem?_eq_some_iff.mp hi).1
      rw [List.length_map] at hil
      obtain ⟨c, hc, rfl⟩ := int_at hi
      have hb := ho.2 c (List.mem_of_getElem? hc)
      have hn := ho.1
      refine ⟨T, _, rfl, SqT.of upd_same, rfl, _, _, rfl, _, _, rfl, rfl, ?_⟩
      refine ⟨_, rfl, _, _, rfl, rfl, _, rfl, iteD (fun h => absurd h (by omega)) (fun _ => ?_)⟩
      refine ⟨_, rfl, _, _, rfl, rfl, _, rfl, iteD (fun _ => ?_) (fun h => absurd hb.1 h)⟩
      refine ⟨_, _, rfl, rfl, _, rfl, ?_⟩
      rw [decide_eq_true hb.2]
      exact iteF ⟨s1.moreB nT, _, _, rfl⟩
    · rintro σ H' ⟨s1, v1, v2, rfl⟩
      exact k _ s1
end
end Bw

set_option Elab.async false
set_option linter.all false
set_option maxRecDepth 100000
set_option maxHeartbeats 4000000
namespace Bw
open PySem PySem.Spec PyProof.Rows L2
section
variable {P : Program} {w : World} {K : PySem.W.Frag} {mg : Str → Option Value} {base : Heap} {f : Addr} {fd : FuncData}
theorem ok_Watcher___init__ {C : Addr} (F : FnQ K "__init__" "Watcher.__init__" s_Watcher___init__ f fd) (T : WTxt K C) (h_need_rule : Has P w K mg base 2 "need_rule" ["rule"] (spNeedRule K)) (h_first_state : Has P w K mg base 1 "first_state" ["rule"] (spFirst K)) : FnOk P w K mg base CX0 3 f fd p_Watcher___init__ (spWInit K C) := by
  refine F.ok sc_Watcher___init__ (fun vs H Q E h => ?_) (fun cdv A outer s H vs Q E hr h => ?_)
  · obtain ⟨x, q, dx, r, rfl, _⟩ := h
    rfl
  · obtain ⟨x, q, dx, r, rfl, hx, hq, ho, k⟩ := h
    refine ⟨_, PSs.nox (pss_cons (ps_expr (pe_fn h_need_rule hr rfl (pa_cons (pv 1) pa_nil)))
        (pss_cons (ps_fld (pv 0) (pv 1) rfl)
        (pss_one (ps_fld (pv 0) (pe_fn h_first_state hr rfl (pa_cons (pv 1) pa_nil)) rfl)))), ?_⟩
    refine ⟨_, rfl, q, r, rfl, hq, ho, ?_⟩
    refine ⟨_, rfl, _, rfl, x, C, dx, _, rfl, hx, T.cl, T.nR, by decide, ?_⟩
    have hq1 : SqT K (upd H x (.ins C dx (putF "rule" (.ref q) []))) q r.vs := sq_tup_ne hq hx
    refine ⟨_, rfl, q, r, rfl, hq1, ho, fun t H1 s1 ht => ?_⟩
    refine ⟨_, rfl, x, C, dx, _, rfl, s1 _ _ upd_same, T.cl, T.nK, (by show 1 < 1000; decide), ?_⟩
    have hx1 := s1 _ _ (upd_same (H := H) (a := x) (o := .ins C dx (putF "rule" (.ref q) [])))
    refine k _ ⟨dx, q, t, ?_, ?_, ?_⟩ fun b o nb hb => ?_
    · rw [upd_same, wF_new]
    · exact sq_tup_ne (s1.tupB hq1) hx1
    · exact sq_tup_ne ht hx1
    · rw [upd_ne nb]
      refine s1 _ _ ?_
      rw [upd_ne nb]
      exact hb
theorem ok_Watcher_hear {C : Addr} (F : FnQ K "hear" "Watcher.hear" s_Watcher_hear f fd) (T : WTxt K C) (h_next_state : Has P w K mg base 1 "next_state" p_next_state (spNext K)) (h_is_gone : Has P w K mg base 1 "is_gone" p_is_gone (spGone K)) : FnOk P w K mg base CX0 2 f fd p_Watcher_hear (spHear K C) := by
  refine F.ok sc_Watcher_hear (fun vs H Q E h => ?_) (fun cdv A outer s H vs Q E hr h => ?_)
  · obtain ⟨x, m, r, st, rfl, _⟩ := h
    rfl
  · obtain ⟨x, m, r, st, rfl, hW, ho, hs, k⟩ := h
    obtain ⟨dx, q, t, hx, hq, ht⟩ := hW.ex
    refine ⟨_, PSs.nox (pss_cons (ps_fld (pv 0) (pe_fn h_next_state hr rfl (pa_cons (pe_fld (pv 0) rfl) (pa_cons (pe_fld (pv 0) rfl) (pa_cons (pv 1) pa_nil)))) rfl)
        (pss_one (ps_ret (pe_fn h_is_gone hr rfl (pa_cons (pe_fld (pv 0) rfl) (pa_cons (pe_fld (pv 0) rfl) pa_nil)))))), ?_⟩
    refine ⟨_, rfl, x, C, dx, _, _, rfl, hx, T.cl, T.nR, wF_rule _ _, _, rfl, x, C, dx, _, _, rfl, hx, T.cl, T.nK, wF_kept _ _, _, rfl, q, t, m, r, st, rfl, hq, ho, ht, hs, fun p H1 s1 hp => ?_⟩
    refine ⟨_, rfl, x, C, dx, _, rfl, s1 _ _ hx, T.cl, T.nK, (by show 2 < 1000; decide), ?_⟩
    have hx1 := s1 _ _ hx
    have hx2 : (upd H1 x (.ins C dx (putF "kept" (.ref p) (wF q t)))) x = some (.ins C dx (wF q p)) := by rw [wF_put]; exact upd_same
    have hq2 : SqT K (upd H1 x (.ins C dx (putF "kept" (.ref p) (wF q t)))) q r.vs := sq_tup_ne (s1.tupB hq) hx1
    have hp2 : SqT K (upd H1 x (.ins C dx (putF "kept" (.ref p) (wF q t)))) p ((nextS r st m).map V.int) := sq_tup_ne hp hx1
    refine ⟨_, rfl, x, C, dx, _, _, rfl, hx2, T.cl, T.nR, wF_rule _ _, _, rfl, x, C, dx, _, _, rfl, hx2, T.cl, T.nK, wF_kept _ _, q, p, r, _, rfl, hq2, ho, hp2, stOk_next r st m, ?_⟩
    refine k _ ⟨dx, q, p, hx2, hq2, hp2⟩ fun b o nb hb => ?_
    rw [upd_ne nb]
    exact s1 _ _ hb
end
end Bw

set_option Elab.async false
set_option linter.all false
set_option maxRecDepth 100000
set_option maxHeartbeats 4000000
namespace Bw
open PySem PySem.Spec PyProof.Rows L2
section
variable {P : Program} {w : World} {K : PySem.W.Frag} {mg : Str → Option Value} {base : Heap} {f : Addr} {fd : FuncData}
theorem ok_told {C : Addr} (F : FnP K "told" s_told f fd) (h_need_rule : Has P w K mg base 2 "need_rule" ["rule"] (spNeedRule K)) (h_need_heard : Has P w K mg base 1 "need_heard" ["heard"] (spNeedHeard K))
    (h_Watcher : HasC P w K mg base 3 "Watcher" C p_Watcher___init__ (spWInit K C)) (h_Watcher_hear : HasM P w K mg base 2 C "hear" p_Watcher_hear (spHear K C)) : FnOk P w K mg base CX0 5 f fd p_told (spTold K) := by
  refine F.ok sc_told (fun vs H Q E h => ?_) (fun cdv A outer s H vs Q E hr h => ?_)
  · obtain ⟨q, l, r, hs, rfl, _⟩ := h
    rfl
  · obtain ⟨q, l, r, hs, rfl, hq, ho, hl, hh, k⟩ := h
    refine ⟨_, PSs.nox (pss_cons (ps_expr (pe_fn h_need_rule hr rfl (pa_cons (pv 0) pa_nil)))
        (pss_cons (ps_expr (pe_fn h_need_heard hr rfl (pa_cons (pv 1) pa_nil)))
        (pss_cons (ps_set (i := 2) sc_told.nd rfl (Or.inr rfl) (pe_new h_Watcher hr rfl (pa_cons (pv 0) pa_nil)))
        (pss_one (ps_ret (pe_lc (own := [("many", 3)]) (g := gName 3) rfl sc_told.nd (pi_list (pv 1)) (blkOk_by (own := [("many", 3)]) (N := n_told) (sc := defScope s_told) (by decide +kernel)) (fun _ _ _ _ _ => (pg_name (i := 3) sc_told.nd rfl (Or.inl rfl))) (fun _ _ _ _ _ => pts_nil) (fun _ _ _ _ _ => (pe_mth h_Watcher_hear (pv 2) hr (pa_cons (pv 3) pa_nil))))))))), ?_⟩
    refine ⟨_, rfl, q, r, rfl, hq, ho, ?_⟩
    refine ⟨_, rfl, l, hs, rfl, hl, hh, fun H1 s1 => ?_⟩
    refine ⟨_, rfl, fun x dx nx ndx ne => ?_⟩
    have keep0 : Same H1 (upd (upd H1 dx (.own x)) x (.ins C dx [])) := (Same.newB ndx).moreB (by rw [upd_ne (Ne.symm ne)]; exact nx)
    refine ⟨x, q, dx, r, rfl, upd_same, keep0.tupB (s1.tupB hq), ho, fun H2 hW kp => ⟨rfl, ?_⟩⟩
    have s2 : Same H1 H2 := fun b o hb => kp b o (ne_of_none hb nx) (keep0 b o hb)
    have s3 : Same H H2 := s1.trans s2
    have nx0 : H x = none := s1.free nx
    have hn := hh.1
    refine ⟨_, rfl, l, rfl, ⟨_, s3.seq hl⟩, fun D hD => lc_list (K := K) (a := l) (xs := hs.map V.int) (fun i H' => Same H H' ∧ WAt K C H' x r (stOf r (hs.take i)) ∧ H' D = some (.lst (((List.range i).map fun j => goneH r (hs.take (j + 1))).map V.bl))) ⟨s3.moreB hD, hW.same (Same.newB hD), upd_same⟩ (fun i H' _ h => h.1.seq hl) ?_ ?_⟩
    · rintro i y H' hi ⟨s', hW', e'⟩
      have hil := (List.getElem?_eq_some_iff.mp hi).1
      rw [List.length_map] at hil
      obtain ⟨c, hc, rfl⟩ := int_at hi
      obtain ⟨dx', q', t', hx, _⟩ := hW'.ex
      have et : hs.take (i + 1) = hs.take i ++ [c] := by rw [List.take_succ, hc]; rfl
      refine ⟨rfl, _, rfl, x, dx', _, rfl, hx, wF_no _ _ (by decide +kernel) (by decide +kernel), _, rfl, x, c, r, _, rfl, hW', ho, stOk_of _ _, fun H3 hW3 kp3 => ?_⟩
      have xD : D ≠ x := ne_of e' hx (by intro z; cases z)
      have e3 := kp3 _ _ xD e'
      refine ⟨_, e3, szlt (by rw [List.length_map, List.length_map, List.length_range]; omega), ?_, ?_, ?_⟩
      · have s4 : Same H H3 := fun b o hb => kp3 b o (ne_of_none hb nx0) (s' b o hb)
        exact s4.mutB (s3.free hD)
      · rw [et, stOf_snoc]
        exact hW3.keep (keepL e3)
      · rw [upd_same, List.range_succ, List.map_append, List.map_append, ← stOf_snoc, gone_is r ho, ← et]
        rfl
    · rintro H' ⟨s', hW', e'⟩
      rw [List.length_map] at e'
      exact k D H' s' (s3.free hD) e'
end
end Bw

set_option Elab.async false
set_option linter.all false
set_option maxRecDepth 100000
set_option maxHeartbeats 4000000
namespace Bw
open PySem PySem.Spec PyProof.Rows L2
section
variable {P : Program} {w : World} {K : PySem.W.Frag} {mg : Str → Option Value} {base : Heap} {f : Addr} {fd : FuncData}
theorem ok_turns (F : FnP K "turns" s_turns f fd) (g_enumerate : mg "enumerate" = none) (h_told : Has P w K mg base 5 "told" p_told (spTold K)) : FnOk P w K mg base CX0 6 f fd p_turns (spTurns K) := by
  refine F.ok sc_turns (fun vs H Q E h => ?_) (fun cdv A outer s H vs Q E hr h => ?_)
  · obtain ⟨q, l, r, hs, rfl, _⟩ := h
    rfl
  · obtain ⟨q, l, r, hs, rfl, hq, ho, hl, hh, k⟩ := h
    refine ⟨_, PSs.nox (pss_cons (ps_set (i := 2) sc_turns.nd rfl (Or.inl rfl) (pe_lst pa_nil))
        (pss_cons (ps_set (i := 3) sc_turns.nd rfl (Or.inl rfl) pe_bl)
        (pss_cons (ps_for PassesOwn.never rfl (pi_enum (by rfl) g_enumerate (pa_cons (pe_fn h_told hr rfl (pa_cons (pv 0) (pa_cons (pv 1) pa_nil))) pa_nil)) (pg_tup rfl (pgs_cons (pg_name (i := 4) sc_turns.nd rfl (Or.inl rfl)) (pgs_cons (pg_name (i := 5) sc_turns.nd rfl (Or.inl rfl)) pgs_nil)))
          (Evl.pss_cut (ps_if (pt_cmpR op_ne (pv 5) (pv 3) (nomark _))
              (pss_one (ps_expr (pe_bm PySem.F.plainAttrs_list PySem.F.slot_list_append PySem.F.type_list_append mt_append (pv 2) (pa_cons (pe_tup (pa_cons (pv 4) (pa_cons (pe_ifExp (pt_val (pv 5)) pe_str pe_str) pa_nil))) pa_nil))))
              pss_nil)
            (pss_one (ps_set (i := 3) sc_turns.nd rfl (Or.inl rfl) (pv 5)))))
        (pss_one (ps_ret (pv 2)))))), ?_⟩
    refine ⟨szle (Nat.le_of_ble_eq_true rfl), fun fo nfo => ?_⟩
    have s0 : Same H (upd H fo (.lst [])) := Same.newB nfo
    refine ⟨_, rfl, _, rfl, q, l, r, hs, rfl, s0.tupB hq, ho, s0.seq hl, hh, fun tp H1 s1 np hp => ?_⟩
    have hn := hh.1
    have ntp0 : tp ≠ fo := Ne.symm (ne_of_none (upd_same (H := H) (a := fo) (o := .lst [])) np)
    generalize hB : toldOf r hs = bs at *
    have hbl : bs.length = hs.length := by rw [← hB, toldOf_len]
    refine ⟨tp, _, rfl, SqL.of hp, for_enum (K := K) (a := tp) (xs := bs.map V.bl) (fun i σ H' => Same H H' ∧ H' tp = some (.lst (bs.map V.bl)) ∧ ∃ xs v4 v5, σ = [some (.ref q), some (.ref l), some (.ref fo), some (.bl ((false :: bs).getD i false)), v4, v5] ∧ H' fo = some (.lst xs) ∧ DpAll K H' xs (turnsTo bs i)) ?_ (fun i σ H' _ h => SqL.of h.2.1) ?_ ?_⟩
    · exact ⟨s0.trans s1, hp, [], none, none, rfl, s1 _ _ upd_same, .nil⟩
    · rintro i y σ H' T hi ⟨s', e', xs, v4, v5, rfl, ef, hD⟩ nT
      have hil := (List.getElem?_eq_some_iff.mp hi).1
      rw [List.length_map] at hil
      obtain ⟨b, hb, rfl⟩ : ∃ b, bs[i]? = some b ∧ y = V.bl b := by
        rw [List.getElem?_map] at hi
        cases e : bs[i]? with
        | none => rw [e] at hi; cases hi
        | some z => rw [e] at hi; exact ⟨z, rfl, (Option.some.inj hi).symm⟩
      have hgd : bs.getD i false = b := by rw [List.getD_eq_getElem?_getD, hb]; rfl
      have hgd1 : (false :: bs).getD (i + 1) false = b := by rw [← hgd]; rfl
      have sT : Same H' (upd H' T (.tup [.int (i : Int), .bl b])) := Same.newB nT
      refine ⟨T, _, rfl, SqT.of upd_same, rfl, _, _, rfl, _, _, rfl, rfl, ?_⟩
      refine ⟨fun σ2 H2 => Same H H2 ∧ H2 tp = some (.lst (bs.map V.bl)) ∧ ∃ xs v4 v3, σ2 = [some (.ref q), some (.ref l), some (.ref fo), v3, v4, some (.bl b)] ∧ H2 fo = some (.lst xs) ∧ DpAll K H2 xs (turnsTo bs (i + 1)), ?_, ?_⟩
      · refine ⟨_, rfl, _, rfl, rfl, _, rfl, ?_⟩
        refine iteN (fun h => ?_) (fun h => ?_)
        · have h' : ¬ bs.getD i false = (false :: bs).getD i false := fun e => h (by rw [← e, hgd])
          have step : ∀ (z : Str), (if b = true then ("gone" : Str) else "back") = z → ∀ T2 H2, Same (upd H' T (.tup [.int (i : Int), .bl b])) H2 → H2 T2 = some (.tup [.int (i : Int), .str z]) → DpAll K (upd H2 fo (.lst (xs ++ [.ref T2]))) (xs ++ [.ref T2]) (turnsTo bs (i + 1)) := by
            intro z hz T2 H2 sm hT2
            rw [turnsTo_succ_ne h', hgd, hz]
            have hf2 := sm _ _ (sT _ _ ef)
            refine DpAll.keepL (keepL hf2) (DpAll.snoc (DpAll.same sm (DpAll.same sT hD)) (.tup (SqT.of hT2) (.cons (.int _) (.cons (.str _) .nil)))) ?_
            have := turnsTo_noL bs (i + 1)
            rw [turnsTo_succ_ne h', hgd, hz] at this
            exact this
          refine ⟨_, rfl, Or.inl ⟨rfl, _, SqL.of (sT _ _ ef)⟩, _, rfl, _, rfl, b, rfl, ?_⟩
          have hxl : xs.length ≤ i := by
            have := DpAll.len hD
            have := turnsTo_len bs i
            omega
          cases b with
          | true => exact iteT ⟨szle (Nat.le_of_ble_eq_true rfl), fun T2 nT2 => ⟨fo, xs, _, rfl, rfl, (Same.newB nT2) _ _ (sT _ _ ef), szlt (by omega), (s'.trans (sT.trans (Same.newB nT2))).mutB nfo, by rw [upd_ne ntp0]; exact (Same.newB nT2) _ _ (sT _ _ e'), _, _, _, rfl, upd_same, step "gone" rfl T2 _ (Same.newB nT2) upd_same⟩⟩
          | false => exact iteF ⟨szle (Nat.le_of_ble_eq_true rfl), fun T2 nT2 => ⟨fo, xs, _, rfl, rfl, (Same.newB nT2) _ _ (sT _ _ ef), szlt (by omega), (s'.trans (sT.trans (Same.newB nT2))).mutB nfo, by rw [upd_ne ntp0]; exact (Same.newB nT2) _ _ (sT _ _ e'), _, _, _, rfl, upd_same, step "back" rfl T2 _ (Same.newB nT2) upd_same⟩⟩
        · have h' : bs.getD i false = (false :: bs).getD i false := by rw [hgd]; exact V.bl.inj h
          refine ⟨s'.trans sT, sT _ _ e', xs, _, _, rfl, sT _ _ ef, ?_⟩
          rw [turnsTo_succ_eq h']
          exact DpAll.same sT hD
      · rintro σ2 H2 ⟨s2, e2, xs2, u4, u3, rfl, ef2, hD2⟩
        refine ⟨_, rfl, s2, e2, xs2, u4, some (.bl b), ?_, ef2, hD2⟩
        rw [hgd1]
        rfl
    · rintro σ H' ⟨s', e', xs, v4, v5, rfl, ef, hD⟩
      rw [List.length_map, hbl] at hD
      exact ⟨_, rfl, k fo H' xs s' nfo ef hD⟩
end
end Bw

set_option Elab.async false
set_option linter.all false
set_option maxRecDepth 100000
set_option maxHeartbeats 4000000
namespace Bw
open PySem PySem.Spec PyProof.Rows L2
section
variable {P : Program} {w : World} {K : PySem.W.Frag} {mg : Str → Option Value} {base : Heap} {f : Addr} {fd : FuncData}
theorem ok_is_rule {t1 t2 t3 : Tok} (F : FnP K "is_rule" s_is_rule f fd) (g_len : mg "len" = none) (g_MOST_SILENT : mg "MOST_SILENT" = some (.int 12 t1)) (g_MOST_WIDE : mg "MOST_WIDE" = some (.int 5 t2)) (g_MOST_MANY : mg "MOST_MANY" = some (.int 3 t3)) : FnOk P w K mg base CX0 1 f fd ["rule"] (spIsRule K) := by
  refine F.ok sc_is_rule (fun vs H Q E h => ?_) (fun cdv A outer s H vs Q E hr h => ?_)
  · obtain ⟨q, x, ns, rfl, _⟩ := h
    rfl
  · obtain ⟨q, x, ns, rfl, hq, hn, k⟩ := h
    refine ⟨_, PSs.nox (pss_cons (ps_if (PW.pt (pw_and (pt_cmpR op_eq (pe_callB call_len_seq (by rfl) g_len (by decide +kernel) (pa_cons (pv 0) pa_nil)) pe_int (nomark _)) (pw_and1 (pt_cmpR op_eq (pe_ix ix_tup (pv 0) pe_int (fun _ _ => rfl)) pe_str (nomark _)))))
          (pss_one (ps_ret (pe_chain op_le op_le pe_int (pe_ix ix_tup (pv 0) pe_int (fun _ _ => rfl)) (pe_gI rfl g_MOST_SILENT))))
          pss_nil)
        (pss_cons (ps_if (PW.pt (pw_and (pt_cmpR op_eq (pe_callB call_len_seq (by rfl) g_len (by decide +kernel) (pa_cons (pv 0) pa_nil)) pe_int (nomark _)) (pw_and1 (pt_cmpR op_eq (pe_ix ix_tup (pv 0) pe_int (fun _ _ => rfl)) pe_str (nomark _)))))
          (pss_one (ps_ret (pe_and (pe_chain op_le op_le pe_int (pe_ix ix_tup (pv 0) pe_int (fun _ _ => rfl)) (pe_gI rfl g_MOST_WIDE)) (pe_one (pe_chain op_le op_le pe_int (pe_ix ix_tup (pv 0) pe_int (fun _ _ => rfl)) (pe_gI rfl g_MOST_MANY))))))
          pss_nil)
        (pss_one (ps_ret pe_bl)))), ?_⟩
    refine ⟨_, rfl, q, _, rfl, Or.inr hq, rfl, _, rfl, ?_⟩
    rcases hn with ⟨a, rfl⟩ | ⟨a, b, rfl⟩
    · refine iteD (fun _ => ?_) (fun h => absurd rfl h)
      refine ⟨_, rfl, q, _, _, _, rfl, rfl, hq, atI_nat (j := 0) rfl, rfl, _, rfl, ?_⟩
      refine iteD (fun hx => ?_) (fun hx => ?_)
      · refine ⟨_, rfl, q, _, _, _, rfl, rfl, hq, atI_nat (j := 1) rfl, _, _, rfl, rfl, _, rfl, ?_⟩
        have ex : x = "since" := V.str.inj hx
        refine iteD (fun h1 => ⟨_, _, rfl, rfl, ?_⟩) (fun h1 => ?_)
        · refine qb ?_ k
          simp [isRuleB, ex, h1]
        · refine qb ?_ k
          simp [isRuleB, ex, h1]
      · refine ⟨_, rfl, q, _, rfl, Or.inr hq, rfl, _, rfl, ?_⟩
        refine iteD (fun h => absurd h (by simp)) (fun _ => ?_)
        have ex : ¬ x = "since" := fun e => hx (congrArg V.str e)
        refine qb ?_ k
        simp [isRuleB, ex]
    · refine iteD (fun h => absurd h (by simp)) (fun _ => ?_)
      refine ⟨_, rfl, q, _, rfl, Or.inr hq, rfl, _, rfl, ?_⟩
      refine iteD (fun _ => ?_) (fun h => absurd rfl h)
      refine ⟨_, rfl, q, _, _, _, rfl, rfl, hq, atI_nat (j := 0) rfl, rfl, _, rfl, ?_⟩
      refine iteD (fun hx => ?_) (fun hx => ?_)
      · refine ⟨_, rfl, q, _, _, _, rfl, rfl, hq, atI_nat (j := 1) rfl, _, _, rfl, rfl, _, rfl, ?_⟩
        have ex : x = "few" := V.str.inj hx
        refine iteD (fun h1 => ⟨_, _, rfl, rfl, _, rfl, ?_⟩) (fun h1 => ⟨_, rfl, ?_⟩)
        · refine iteD (fun h2 => ?_) (fun h2 => ?_)
          · refine ⟨_, rfl, q, _, _, _, rfl, rfl, hq, atI_nat (j := 2) rfl, _, _, rfl, rfl, _, rfl, ?_⟩
            refine iteD (fun h3 => ⟨_, _, rfl, rfl, ?_⟩) (fun h3 => ?_)
            · refine qb ?_ k
              simp [isRuleB, ex, h1, h2, h3]
            · refine qb ?_ k
              simp [isRuleB, ex, h1, h2, h3]
          · refine qb ?_ k
            simp [isRuleB, ex, h1, h2]
        · refine qb ?_ k
          simp [isRuleB, ex, h1]
      · have ex : ¬ x = "few" := fun e => hx (congrArg V.str e)
        refine qb ?_ k
        simp [isRuleB, ex]
end
end Bw

set_option Elab.async false
set_option linter.all false
set_option maxRecDepth 100000
set_option maxHeartbeats 4000000
namespace Bw
open PySem PySem.Spec PyProof.Rows L2
section
variable {P : Program} {w : World} {K : PySem.W.Frag} {mg : Str → Option Value} {base : Heap} {f : Addr} {fd : FuncData}
theorem ok_need_rule (F : FnP K "need_rule" s_need_rule f fd) (h_is_rule : Has P w K mg base 1 "is_rule" ["rule"] (spIsRule K)) : FnOk P w K mg base CX0 2 f fd ["rule"] (spNeedRule K) := by
  refine F.ok sc_need_rule (fun vs H Q E h => ?_) (fun cdv A outer s H vs Q E hr h => ?_)
  · obtain ⟨q, r, rfl, _⟩ := h
    rfl
  · obtain ⟨q, r, rfl, hq, ho, k⟩ := h
    refine ⟨_, PSs.nox (pss_one (ps_if (pt_not (pt_val (pe_fn h_is_rule hr rfl (pa_cons (pv 0) pa_nil))))
        (pss_one ps_never)
        pss_nil)), ?_⟩
    obtain ⟨x, ns, e1, e2, e3⟩ := r.raw ho
    rw [e1] at hq
    refine ⟨_, rfl, q, x, ns, rfl, hq, e2, true, by rw [e3], ?_⟩
    exact k
theorem ok_first_state (F : FnP K "first_state" s_first_state f fd) : FnOk P w K mg base CX0 1 f fd ["rule"] (spFirst K) := by
  refine F.ok sc_first_state (fun vs H Q E h => ?_) (fun cdv A outer s H vs Q E hr h => ?_)
  · obtain ⟨q, r, rfl, _⟩ := h
    rfl
  · obtain ⟨q, r, rfl, hq, ho, k⟩ := h
    refine ⟨_, PSs.nox (pss_one (ps_ret (pe_ifExp (pt_cmpR op_eq (pe_ix ix_tup (pv 0) pe_int (fun _ _ => rfl)) pe_str (nomark _)) (pe_tup (pa_cons pe_int pa_nil)) (pe_tup pa_nil)))), ?_⟩
    cases r with
    | since n =>
      refine ⟨_, rfl, q, _, _, _, rfl, rfl, hq, atI_nat (j := 0) rfl, rfl, _, rfl, iteD (fun _ => ?_) (fun h => absurd rfl h)⟩
      exact ⟨by decide, fun p hp => k p _ (Same.newB hp) (SqT.of upd_same)⟩
    | few a b =>
      refine ⟨_, rfl, q, _, _, _, rfl, rfl, hq, atI_nat (j := 0) rfl, rfl, _, rfl, iteD (fun h => absurd (V.str.inj h) few_since) (fun _ => ?_)⟩
      exact ⟨by decide, fun p hp => k p _ (Same.newB hp) (SqT.of upd_same)⟩
theorem ok_is_gone (F : FnP K "is_gone" s_is_gone f fd) (g_len : mg "len" = none) (g_sum : mg "sum" = none) : FnOk P w K mg base CX0 1 f fd p_is_gone (spGone K) := by
  refine F.ok sc_is_gone (fun vs H Q E h => ?_) (fun cdv A outer s H vs Q E hr h => ?_)
  · obtain ⟨q, t, r, st, rfl, _⟩ := h
    rfl
  · obtain ⟨q, t, r, st, rfl, hq, ho, ht, hs, k⟩ := h
    refine ⟨_, PSs.nox (pss_cons (ps_if (pt_cmpR op_eq (pe_ix ix_tup (pv 0) pe_int (fun _ _ => rfl)) pe_str (nomark _))
          (pss_one (ps_ret (pe_cmpR op_ge (pe_ix ix_tup (pv 1) pe_int (fun _ _ => rfl)) (pe_ix ix_tup (pv 0) pe_int (fun _ _ => rfl)) (nomark _))))
          pss_nil)
        (pss_one (ps_ret (pe_and (pe_cmpR op_eq (pe_callB call_len_seq (by rfl) g_len (by decide +kernel) (pa_cons (pv 1) pa_nil)) (pe_ix ix_tup (pv 0) pe_int (fun _ _ => rfl)) (nomark _)) (pe_one (pe_cmpR op_lt (pe_callB (cr_sumT rfl) (by rfl) g_sum (by decide +kernel) (pa_cons (pv 1) pa_nil)) (pe_ix ix_tup (pv 0) pe_int (fun _ _ => rfl)) (nomark _))))))), ?_⟩
    cases r with
    | since n =>
      obtain ⟨z, rfl⟩ := hs
      refine ⟨_, rfl, q, _, _, _, rfl, rfl, hq, atI_nat (j := 0) rfl, rfl, _, rfl, iteD (fun _ => ?_) (fun h => absurd rfl h)⟩
      exact ⟨_, rfl, t, _, _, _, rfl, rfl, ht, atI_nat (j := 0) rfl, _, rfl, q, _, _, _, rfl, rfl, hq, atI_nat (j := 1) rfl, _, _, rfl, rfl, k⟩
    | few a b =>
      refine ⟨_, rfl, q, _, _, _, rfl, rfl, hq, atI_nat (j := 0) rfl, rfl, _, rfl, iteD (fun h => absurd (V.str.inj h) few_since) (fun _ => ?_)⟩
      refine ⟨_, rfl, t, _, rfl, Or.inr ht, _, rfl, q, _, _, _, rfl, rfl, hq, atI_nat (j := 1) rfl, rfl, _, rfl, ?_⟩
      refine iteD (fun h1 => ?_) (fun h1 => ?_)
      · refine ⟨_, rfl, t, _, rfl, ht, _, rfl, q, _, _, _, rfl, rfl, hq, atI_nat (j := 2) rfl, _, _, rfl, rfl, ?_⟩
        refine qb ?_ k
        have h2 := V.int.inj h1
        rw [List.length_map] at h2
        simp [goneS, h2]
      · refine qb ?_ k
        have h2 : ¬ ((st.length : Int) = (a : Int)) := fun e => h1 (by rw [List.length_map, e])
        simp only [goneS, h2, decide_false, Bool.false_and]
theorem ok_next_state (F : FnP K "next_state" s_next_state f fd) (g_min : mg "min" = none) : FnOk P w K mg base CX0 1 f fd p_next_state (spNext K) := by
  refine F.ok sc_next_state (fun vs H Q E h => ?_) (fun cdv A outer s H vs Q E hr h => ?_)
  · obtain ⟨q, t, m, r, st, rfl, _⟩ := h
    rfl
  · obtain ⟨q, t, m, r, st, rfl, hq, ho, ht, hs, k⟩ := h
    refine ⟨_, PSs.nox (pss_cons (ps_if (pt_cmpR op_eq (pe_ix ix_tup (pv 0) pe_int (fun _ _ => rfl)) pe_str (nomark _))
          (pss_one (ps_ret (pe_ifExp (pt_cmpR op_gt (pv 2) pe_int (nomark _)) (pe_tup (pa_cons pe_int pa_nil)) (pe_tup (pa_cons (pe_callB (call_min2 rfl) (by rfl) g_min (by decide +kernel) (pa_cons (pe_ix ix_tup (pv 0) pe_int (fun _ _ => rfl)) (pa_cons (pe_op op_add (pe_ix ix_tup (pv 1) pe_int (fun _ _ => rfl)) pe_int) pa_nil))) pa_nil)))))
          pss_nil)
        (pss_one (ps_ret (pe_slice sl_tupA (pe_op op_catA (pv 1) (pe_tup (pa_cons (pv 2) pa_nil))) (po_some (pe_un un_neg (pe_ix ix_tup (pv 0) pe_int (fun _ _ => rfl)))) po_none)))), ?_⟩
    cases r with
    | since n =>
      obtain ⟨z, rfl⟩ := hs
      refine ⟨_, rfl, q, _, _, _, rfl, rfl, hq, atI_nat (j := 0) rfl, rfl, _, rfl, iteD (fun _ => ?_) (fun h => absurd rfl h)⟩
      refine ⟨_, rfl, _, _, rfl, rfl, _, rfl, iteD (fun h => ?_) (fun h => ?_)⟩
      · refine ⟨by decide, fun p hp => k p _ (Same.newB hp) ?_⟩
        have e : nextS (.since n) [z] m = [0] := if_pos h
        rw [e]
        exact SqT.of upd_same
      · refine ⟨_, rfl, q, _, _, _, rfl, rfl, hq, atI_nat (j := 1) rfl, _, rfl, t, _, _, _, rfl, rfl, ht, atI_nat (j := 0) rfl, _, _, rfl, rfl, _, _, rfl, szle (Nat.le_of_ble_eq_true rfl), fun p hp => k p _ (Same.newB hp) ?_⟩
        have e : nextS (.since n) [z] m = [if z + 1 < (n : Int) then z + 1 else (n : Int)] := if_neg h
        rw [e]
        exact SqT.of upd_same
    | few a b =>
      refine ⟨_, rfl, q, _, _, _, rfl, rfl, hq, atI_nat (j := 0) rfl, rfl, _, rfl, iteD (fun h => absurd (V.str.inj h) few_since) (fun _ => ?_)⟩
      have hs' : st.length ≤ a := hs
      have ho' : 1 ≤ a ∧ a ≤ 5 ∧ 1 ≤ b ∧ b ≤ 3 := ho
      have fin : ∀ (u : Addr) (H2 : Hp), Same H H2 → SqT K H2 u ((st ++ [m]).map V.int) → rSlA K (.ref u) (some (-(a : Int))) none H2 Q := by
        intro u H2 s2 hu
        have e0 : HT.sIx ((st ++ [m]).map V.int).length 0 (some (-(a : Int))) = (st ++ [m]).length - a := by
          show (if -(a : Int) < 0 then (-(a : Int) + ((((st ++ [m]).map V.int).length : Nat) : Int)).toNat else _) = _
          rw [if_pos (by omega), List.length_map]
          omega
        refine ⟨u, _, rfl, hu, fun hw => ?_, fun hw p hp => ?_⟩
        · refine k u H2 s2 ?_
          have e : nextS (.few a b) st m = st ++ [m] := by
            show lastN a (st ++ [m]) = _
            unfold lastN
            rw [← e0, hw.1]
            rfl
          rw [e]
          exact hu
        · refine k p _ (s2.moreB hp) ?_
          have e : cutV ((st ++ [m]).map V.int) (some (-(a : Int))) none = (nextS (.few a b) st m).map V.int := by
            show ((((st ++ [m]).map V.int)).drop (HT.sIx ((st ++ [m]).map V.int).length 0 (some (-(a : Int))))).take (((st ++ [m]).map V.int).length - (HT.sIx ((st ++ [m]).map V.int).length 0 (some (-(a : Int))))) = _
            rw [e0, map_cut]
            rfl
          rw [e]
          exact SqT.of upd_same
      refine ⟨_, rfl, _, rfl, szle (Nat.le_of_ble_eq_true rfl), fun p hp => ⟨t, p, _, _, rfl, rfl, (Same.newB hp).tupB ht, SqT.of upd_same, szle (by rw [List.length_map]; simp; omega), fun e => ?_, (fun e e2 => nomatch e2), fun e _ p2 hp2 => ?_⟩⟩
      · have e' : st = [] := by simpa using e
        subst e'
        exact ⟨_, rfl, q, _, _, _, rfl, rfl, (Same.newB hp).tupB hq, atI_nat (j := 1) rfl, _, rfl, _, rfl, fin p _ (Same.newB hp) (SqT.of upd_same)⟩
      · have s2 := (Same.newB (o := .tup [.int m]) hp).moreB (o := .tup (st.map V.int ++ [.int m])) hp2
        refine ⟨_, rfl, q, _, _, _, rfl, rfl, s2.tupB hq, atI_nat (j := 1) rfl, _, rfl, _, rfl, fin p2 _ s2 ?_⟩
        rw [List.map_append]
        exact SqT.of upd_same
end
end Bw

set_option Elab.async false
set_option linter.all false
set_option maxRecDepth 100000
set_option maxHeartbeats 4000000
namespace Bw
open PySem PySem.Spec PyProof.Rows L2
section
variable {P : Program} {w : World} {K : PySem.W.Frag} {mg : Str → Option Value} {base : Heap} {f : Addr} {fd : FuncData}
theorem ok_need_line {t1 t2 t3 : Tok} (F : FnP K "need_line" s_need_line f fd) (g_MOST_EACH : mg "MOST_EACH" = some (.int 4 t1)) (g_MOST_LATE : mg "MOST_LATE" = some (.int 3 t2)) (g_MOST_LOST : mg "MOST_LOST" = some (.int 2 t3)) : FnOk P w K mg base CX0 1 f fd ["line"] (spNeedLine K) := by
  refine F.ok sc_need_line (fun vs H Q E h => ?_) (fun cdv A outer s H vs Q E hr h => ?_)
  · obtain ⟨q, l, rfl, _⟩ := h
    rfl
  · obtain ⟨q, l, rfl, hq, lo, k⟩ := h
    refine ⟨_, PSs.nox (pss_cons (ps_asg (pv 0) (pg_tup rfl (pgs_cons (pg_name (i := 1) sc_need_line.nd rfl (Or.inl rfl)) (pgs_cons (pg_name (i := 2) sc_need_line.nd rfl (Or.inl rfl)) (pgs_cons (pg_name (i := 3) sc_need_line.nd rfl (Or.inl rfl)) pgs_nil)))))
        (pss_cons (ps_if (pt_not (pt_chain op_le op_le pe_int (pv 1) (pe_gI rfl g_MOST_EACH)))
          (pss_one ps_never)
          pss_nil)
        (pss_cons (ps_if (pt_not (pt_chain op_le op_le pe_int (pv 2) (pe_gI rfl g_MOST_LATE)))
          (pss_one ps_never)
          pss_nil)
        (pss_one (ps_if (pt_not (pt_chain op_le op_le pe_int (pv 3) (pe_gI rfl g_MOST_LOST)))
          (pss_one ps_never)
          pss_nil))))), ?_⟩
    have e1 := lo.e1
    have e4 := lo.e4
    have l3 := lo.l3
    have s2 := lo.s2
    have h1 : (1 : Int) ≤ (l.each : Int) := by omega
    have h2 : (l.each : Int) ≤ 4 := by omega
    have h3 : (0 : Int) ≤ (l.late : Int) := by omega
    have h4 : (l.late : Int) ≤ 3 := by omega
    have h5 : (0 : Int) ≤ (l.lost : Int) := by omega
    have h6 : (l.lost : Int) ≤ 2 := by omega
    refine ⟨_, rfl, q, _, rfl, hq, rfl, _, _, rfl, _, _, rfl, _, _, rfl, rfl, ?_⟩
    refine ⟨_, rfl, _, _, rfl, rfl, _, rfl, iteD (fun _ => ⟨_, _, rfl, rfl, _, rfl, ?_⟩) (fun h => absurd h1 h)⟩
    rw [decide_eq_true h2]
    refine iteF ⟨_, rfl, _, _, rfl, rfl, _, rfl, iteD (fun _ => ⟨_, _, rfl, rfl, _, rfl, ?_⟩) (fun h => absurd h3 h)⟩
    rw [decide_eq_true h4]
    refine iteF ⟨_, rfl, _, _, rfl, rfl, _, rfl, iteD (fun _ => ⟨_, _, rfl, rfl, _, rfl, ?_⟩) (fun h => absurd h5 h)⟩
    rw [decide_eq_true h6]
    exact iteF k
end
end Bw

set_option Elab.async false
set_option linter.all false
set_option maxRecDepth 100000
set_option maxHeartbeats 4000000
namespace Bw
open PySem PySem.Spec PyProof.Rows L2
section
variable {P : Program} {w : World} {K : PySem.W.Frag} {mg : Str → Option Value} {base : Heap} {f : Addr} {fd : FuncData}
theorem ok_begun (F : FnP K "begun" s_begun f fd) : FnOk P w K mg base CX0 1 f fd p_begun (spBegun K) := by
  refine F.ok sc_begun (fun vs H Q E h => ?_) (fun cdv A outer s H vs Q E hr h => ?_)
  · obtain ⟨lp, v, l, st, rfl, _⟩ := h
    rfl
  · obtain ⟨lp, v, l, st, rfl, hl, lo, hv, ok, k⟩ := h
    obtain ⟨a, b, rfl, ha, hb⟩ := ls_at hv
    have hlen := ok.len
    have l3 := lo.l3
    refine ⟨_, PSs.nox (pss_cons (ps_asg (pv 1) (pg_tup rfl (pgs_cons (pg_name (i := 2) sc_begun.nd rfl (Or.inl rfl)) (pgs_cons (pg_name (i := 3) sc_begun.nd rfl (Or.inl rfl)) (pgs_cons (pg_name (i := 4) sc_begun.nd rfl (Or.inl rfl)) pgs_nil)))))
        (pss_cons (ps_if (pt_cmpR op_gt (pv 2) pe_int (nomark _))
          (pss_one (ps_ret (pe_lst (pa_cons (pe_tup (pa_cons (pv 3) (pa_cons (pv 4) pa_nil))) pa_nil))))
          pss_nil)
        (pss_cons (ps_set (i := 5) sc_begun.nd rfl (Or.inl rfl) (pe_lst (pa_cons (pe_tup (pa_cons (pe_op op_catU (pv 3) (pe_tup (pa_cons pe_int pa_nil))) (pa_cons pe_int pa_nil))) pa_nil)))
        (Evl.pss_cut (ps_if (pt_cmpR op_lt (pv 4) (pe_ix ix_tup (pv 0) pe_int (fun _ _ => rfl)) (nomark _))
          (pss_one (ps_expr (pe_bm PySem.F.plainAttrs_list PySem.F.slot_list_append PySem.F.type_list_append mt_append (pv 5) (pa_cons (pe_tup (pa_cons (pv 3) (pa_cons (pe_op op_add (pv 4) pe_int) pa_nil))) pa_nil))))
          pss_nil)
        (pss_one (ps_ret (pv 5))))))), ?_⟩
    refine ⟨_, rfl, a, _, rfl, ha, rfl, _, _, rfl, _, _, rfl, _, _, rfl, rfl, ?_⟩
    refine ⟨_, rfl, _, _, rfl, rfl, _, rfl, iteD (fun hp => ?_) (fun hp => ?_)⟩
    · refine ⟨_, rfl, _, rfl, szle (Nat.le_of_ble_eq_true rfl), fun T nT => ⟨szle (Nat.le_of_ble_eq_true rfl), fun p np => ?_⟩⟩
      have s1 := (Same.newB (o := .tup [.ref b, .int st.run]) nT).moreB (o := .lst [.ref T]) np
      refine k p _ _ s1 ((Same.newB nT).free np) upd_same ?_
      have e : begunL l st = [(st.ages, st.run)] := if_pos (by omega)
      rw [e]
      exact .cons (.tup (SqT.of ((Same.newB np) _ _ upd_same)) (.cons (ints_dp (s1.tupB hb)) (.cons (.int _) .nil))) .nil
    · refine ⟨_, rfl, szle (Nat.le_of_ble_eq_true rfl), fun z nz => ⟨b, z, _, [V.int 0], rfl, rfl, (Same.newB nz).tupB hb, SqT.of upd_same, szle (by rw [List.length_map, nI_len]; show st.ages.length + 1 ≤ _; omega), fun c H1 s1 hc => ?_⟩⟩
      have s01 : Same H H1 := (Same.newB nz).trans s1
      refine ⟨szle (Nat.le_of_ble_eq_true rfl), fun T nT => ⟨szle (Nat.le_of_ble_eq_true rfl), fun p np => ?_⟩⟩
      have s2 := (Same.newB (o := .tup [.ref c, .int 0]) nT).moreB (o := .lst [.ref T]) np
      have s02 := s01.trans s2
      have eC : (nI st.ages).map V.int ++ [V.int 0] = (nI (st.ages ++ [0])).map V.int := by
        unfold nI
        rw [List.map_append, List.map_append]
        rfl
      rw [eC] at hc
      have n0 : H p = none := s01.free ((Same.newB nT).free np)
      have d1 : Dp K (upd (upd H1 T (.tup [.ref c, .int 0])) p (.lst [.ref T])) (.ref T) (bgD (st.ages ++ [0], 0)) := .tup (SqT.of ((Same.newB np) _ _ upd_same)) (.cons (ints_dp (s2.tupB hc)) (.cons (.int _) .nil))
      have hpp : (upd (upd H1 T (.tup [.ref c, .int 0])) p (.lst [.ref T])) p = some (.lst [.ref T]) := upd_same
      revert s02 d1 hpp
      generalize upd (upd H1 T (.tup [.ref c, .int 0])) p (.lst [.ref T]) = H2
      intro s02 d1 hpp
      refine ⟨fun σ' H' => σ' = [some (.ref lp), some (.ref a), some (.int st.ph), some (.ref b), some (.int st.run), some (.ref p)] ∧ Same H H' ∧ ∃ xs, H' p = some (.lst xs) ∧ DpAll K H' xs ((begunL l st).map bgD), ?_, ?_⟩
      · refine ⟨_, rfl, _, rfl, lp, _, _, _, rfl, rfl, s02.tupB hl, atI_nat (j := 2) rfl, _, _, rfl, rfl, _, rfl, iteD (fun hr' => ?_) (fun hr' => ?_)⟩
        · refine ⟨_, rfl, Or.inl ⟨rfl, _, SqL.of hpp⟩, _, rfl, _, rfl, _, _, rfl, rfl, szle (Nat.le_of_ble_eq_true rfl), fun T2 nT2 => ?_⟩
          have s3 : Same H2 (upd H2 T2 (.tup [.ref b, .int (st.run + 1)])) := Same.newB nT2
          refine ⟨p, _, _, rfl, rfl, s3 _ _ hpp, szlt (by show 1 < _; omega), rfl, (s02.trans s3).mutB n0, _, upd_same, ?_⟩
          have e : begunL l st = [(st.ages ++ [0], 0), (st.ages, st.run + 1)] := by
            unfold begunL
            rw [if_neg (by omega), if_pos (by omega)]
          rw [e]
          have kk := keepL (ys := [.ref T, .ref T2]) (s3 _ _ hpp)
          refine DpAll.keepL kk (.cons (Dp.same s3 _ _ d1) (.cons (.tup (SqT.of upd_same) (.cons (ints_dp ((s02.trans s3).tupB hb)) (.cons (.int _) .nil))) .nil)) (map_noL bgD_noL [(st.ages ++ [0], 0), (st.ages, st.run + 1)])
        · refine ⟨rfl, s02, _, hpp, ?_⟩
          have e : begunL l st = [(st.ages ++ [0], 0)] := by
            unfold begunL
            rw [if_neg (by omega), if_neg (by omega)]
          rw [e]
          exact .cons d1 .nil
      · rintro σ' H' ⟨rfl, s', xs, e1, e2⟩
        exact ⟨_, rfl, k p H' xs s' n0 e1 e2⟩
end
end Bw

set_option Elab.async false
set_option linter.all false
set_option maxRecDepth 100000
set_option maxHeartbeats 4000000
namespace Bw
open PySem PySem.Spec PyProof.Rows L2
section
variable {P : Program} {w : World} {K : PySem.W.Frag} {mg : Str → Option Value} {base : Heap} {f : Addr} {fd : FuncData}
theorem ok_heard_of (F : FnP K "heard_of" s_heard_of f fd) (g_range : mg "range" = none) (g_len : mg "len" = none) (g_tuple : mg "tuple" = none) : FnOk P w K mg base CX0 1 f fd p_heard_of (spHeardOf K) := by
  refine F.ok sc_heard_of (fun vs H Q E h => ?_) (fun cdv A outer s H vs Q E hr h => ?_)
  · obtain ⟨lp, b, l, ages, rfl, _⟩ := h
    rfl
  · obtain ⟨lp, b, l, ages, rfl, hl, lo, hb, hlen, k⟩ := h
    refine ⟨_, PSs.nox (pss_cons (ps_set (i := 2) sc_heard_of.nd rfl (Or.inl rfl) (pe_lst pa_nil))
        (pss_cons (ps_for PassesOwn.never rfl (pi_range1 rfl g_range (pa_cons (pe_op op_add (pe_callB call_len_seq (by rfl) g_len (by decide +kernel) (pa_cons (pv 1) pa_nil)) pe_int) pa_nil)) (pg_name (i := 3) sc_heard_of.nd rfl (Or.inl rfl))
          (pss_one (ps_if (pt_cmpR (op_eqD hr.units) (pe_lc (own := [("age", 4)]) (g := gName 4) rfl sc_heard_of.nd (pi_tup (pe_slice sl_tupU (pv 1) (po_some (pv 3)) po_none)) (blkOk_by (own := [("age", 4)]) (N := n_heard_of) (sc := defScope s_heard_of) (by decide +kernel)) (fun _ _ _ _ _ => (pg_name (i := 4) sc_heard_of.nd rfl (Or.inl rfl))) (fun _ _ _ _ _ => (pts_one (pt_cmpR op_ge (pv 4) (pe_ix (r := rIxT K) ix_tup (pv 0) pe_int (fun _ _ => rfl)) (nomark _)))) (fun _ _ _ _ _ => (pv 4))) (pe_lst pa_nil) (nomark _))
            (pss_one (ps_expr (pe_bm PySem.F.plainAttrs_list PySem.F.slot_list_append PySem.F.type_list_append mt_append (pv 2) (pa_cons (pe_tup (pa_cons (pv 3) (pa_cons (pe_callTy call_tuple_of (by rfl) g_tuple (by decide +kernel) (pa_cons (pe_lc (own := [("age", 4)]) (g := gName 4) rfl sc_heard_of.nd (pi_tup (pe_slice sl_tupU (pv 1) (po_some (pv 3)) po_none)) (blkOk_by (own := [("age", 4)]) (N := n_heard_of) (sc := defScope s_heard_of) (by decide +kernel)) (fun _ _ _ _ _ => (pg_name (i := 4) sc_heard_of.nd rfl (Or.inl rfl))) (fun _ _ _ _ _ => pts_nil) (fun _ _ _ _ _ => (pe_op op_add (pv 4) pe_int))) pa_nil)) pa_nil))) pa_nil))))
            pss_nil)))
        (pss_one (ps_ret (pv 2))))), ?_⟩
    refine ⟨szle (Nat.le_of_ble_eq_true rfl), fun fo nfo => ?_⟩
    have s0 : Same H (upd H fo (.lst [])) := Same.newB nfo
    have hL : ((nI ages).map V.int).length = ages.length := by rw [List.length_map, nI_len]
    refine ⟨_, rfl, b, _, rfl, Or.inr (s0.tupB hb), _, _, rfl, rfl, _, rfl, by omega, by rw [hL]; omega, ?_⟩
    have eN : ((((nI ages).map V.int).length : Nat) + (1 : Int)).toNat = ages.length + 1 := by rw [hL]; omega
    refine for_range (lo := 0) (n := ((((nI ages).map V.int).length : Nat) + (1 : Int)).toNat) (fun i σ H' => Same H H' ∧ ∃ v3 v4 xs, σ = [some (.ref lp), some (.ref b), some (.ref fo), v3, v4] ∧ H' fo = some (.lst xs) ∧ DpAll K H' xs (((List.range i).filterMap fun m => if youngL l (ages.drop m) = true then some (m, (ages.drop m).map (· + 1)) else none).map hdD)) ?_ ?_ ?_
    · exact ⟨s0, none, none, [], rfl, upd_same, .nil⟩
    · rintro i σ H' hi ⟨s', v3, v4, xs, rfl, hfo, hD⟩
      rw [eN] at hi
      have e0 : (0 : Int) + (i : Int) = (i : Int) := Int.zero_add _
      have hxl : xs.length ≤ i := by
        have h1 := DpAll.len hD
        rw [List.length_map] at h1
        have h2 := List.length_filterMap_le (fun m => if youngL l (ages.drop m) = true then some (m, (ages.drop m).map (· + 1)) else none) (List.range i)
        rw [List.length_range] at h2
        omega
      have ec : ∀ j : Int, j = (i : Int) → cutV ((nI ages).map V.int) (some j) none = (nI (ages.drop i)).map V.int := fun j ej => by
        rw [ej, cut_from]
        unfold nI
        simp only [List.map_drop]
      generalize hg : ages.drop i = gs at *
      have hgl : gs.length ≤ 10 := by rw [← hg, List.length_drop]; omega
      refine ⟨_, rfl, _, rfl, _, rfl, b, _, rfl, s'.tupB hb, fun u H1 s1 hu => ?_⟩
      rw [ec _ e0] at hu
      refine ⟨u, rfl, ⟨_, hu⟩, fun D nD => lc_tup (K := K) (a := u) (xs := (nI gs).map V.int) (fun j H2 => Same H1 H2 ∧ H2 D = some (.lst (((nI (gs.take j)).filter fun a => decide ((l.late : Int) ≤ a)).map V.int))) ⟨Same.newB nD, upd_same⟩ (fun j H2 _ h => h.1.tupB hu) ?_ ?_⟩
      · rintro j y H2 hj ⟨s2, e2⟩
        obtain ⟨c, hc, rfl⟩ := int_at hj
        have et : nI (gs.take (j + 1)) = nI (gs.take j) ++ [c] := by
          unfold nI
          rw [List.map_take, List.map_take, List.take_succ]
          unfold nI at hc
          rw [hc]
          rfl
        have hfl : ((nI (gs.take j)).filter fun a => decide ((l.late : Int) ≤ a)).length ≤ 10 := Nat.le_trans (List.length_filter_le _ _) (by rw [nI_len, List.length_take]; omega)
        refine ⟨rfl, _, rfl, _, rfl, lp, _, _, _, rfl, rfl, (s'.trans (s1.trans s2)).tupB hl, atI_nat (j := 1) rfl, _, _, rfl, rfl, _, rfl, iteD (fun h => ?_) (fun h => ?_)⟩
        · refine ⟨_, rfl, _, e2, szlt (by rw [List.length_map]; omega), s2.mutB nD, ?_⟩
          rw [upd_same, et, List.filter_append, List.filter_cons, if_pos (by simpa using h), List.map_append]
          rfl
        · refine ⟨s2, ?_⟩
          rw [e2, et, List.filter_append, List.filter_cons, if_neg (by simpa using h)]
          simp
      · rintro H2 ⟨s2, e2⟩
        have eT : gs.take ((nI gs).map V.int).length = gs := List.take_of_length_le (by rw [List.length_map, nI_len]; omega)
        rw [eT] at e2
        have s12 := s'.trans (s1.trans s2)
        refine ⟨szle (Nat.le_of_ble_eq_true rfl), fun e he => ⟨.list (((nI gs).filter fun a => decide ((l.late : Int) ≤ a)).map PyData.int), .list [], .lst (SqL.of (Same.newB he _ _ e2)) (dp_ints _), .lst (SqL.of upd_same) .nil, PySem.W.ke_shaped_ints _, PySem.W.ke_shaped_ints [], _, rfl, ?_⟩⟩
        rw [eqv_nil]
        have eY : decide (((nI gs).filter fun a => decide ((l.late : Int) ≤ a)) = []) = youngL l gs := by
          unfold youngL
          refine decide_eq_decide.mpr ?_
          unfold nI
          rw [List.filter_map, List.map_eq_nil_iff]
          have e3 : ((fun a => decide ((l.late : Int) ≤ a)) ∘ fun a => ((a : Nat) : Int)) = fun a => decide (l.late ≤ a) := by
            funext a
            show decide ((l.late : Int) ≤ (a : Int)) = decide (l.late ≤ a)
            exact decide_eq_decide.mpr (by omega)
          rw [e3]
        rw [eY]
        have sE : Same H2 (upd H2 e (.lst [])) := Same.newB he
        have sHE : Same H (upd H2 e (.lst [])) := s12.trans sE
        have sF : Same H' (upd H2 e (.lst [])) := (s1.trans s2).trans sE
        have hfo3 := sF _ _ hfo
        have hD3 := DpAll.same sF hD
        revert sHE hfo3 hD3
        generalize upd H2 e (.lst []) = H3
        intro sHE hfo3 hD3
        refine iteB (fun hy => ?_) (fun hy => ?_)
        · refine ⟨_, rfl, Or.inl ⟨rfl, _, SqL.of hfo3⟩, _, rfl, _, rfl, _, rfl, _, rfl, b, _, rfl, sHE.tupB hb, fun u2 H4 s4 hu2 => ?_⟩
          rw [ec _ e0] at hu2
          refine ⟨u2, rfl, ⟨_, hu2⟩, fun D2 nD2 => lc_tup (K := K) (a := u2) (xs := (nI gs).map V.int) (fun j H5 => Same H4 H5 ∧ H5 D2 = some (.lst ((nI ((gs.take j).map (· + 1))).map V.int))) ⟨Same.newB nD2, upd_same⟩ (fun j H5 _ h => h.1.tupB hu2) ?_ ?_⟩
          · rintro j y H5 hj ⟨s5, e5⟩
            obtain ⟨c, hc, rfl⟩ := int_at hj
            have et : nI ((gs.take (j + 1)).map (· + 1)) = nI ((gs.take j).map (· + 1)) ++ [c + 1] := by
              unfold nI at hc ⊢
              rw [List.getElem?_map] at hc
              cases hcc : gs[j]? with
              | none => rw [hcc] at hc; cases hc
              | some z =>
                rw [hcc] at hc
                have hc' : (z : Int) = c := Option.some.inj hc
                rw [List.take_succ, hcc, Option.toList_some, List.map_append, List.map_append, ← hc']
                rfl
            refine ⟨rfl, _, rfl, _, _, rfl, rfl, _, e5, szlt (by rw [List.length_map, nI_len, List.length_map, List.length_take]; omega), s5.mutB nD2, ?_⟩
            rw [upd_same, et, List.map_append]
            rfl
          · rintro H5 ⟨s5, e5⟩
            rw [eT] at e5
            refine ⟨D2, _, rfl, Or.inl ⟨SqL.of e5, fun tp ntp => ⟨szle (Nat.le_of_ble_eq_true rfl), fun T nT => ?_⟩⟩⟩
            have s6 := (Same.newB (o := .tup ((nI (gs.map (· + 1))).map V.int)) ntp).moreB (o := .tup [.int (0 + (i : Int)), .ref tp]) nT
            have s36 := s4.trans (s5.trans s6)
            refine ⟨fo, xs, _, rfl, rfl, s36 _ _ hfo3, szlt (by omega), (sHE.trans s36).mutB nfo, _, _, _, rfl, upd_same, ?_⟩
            have eR : ((List.range (i + 1)).filterMap fun m => if youngL l (ages.drop m) = true then some (m, (ages.drop m).map (· + 1)) else none).map hdD = ((List.range i).filterMap fun m => if youngL l (ages.drop m) = true then some (m, (ages.drop m).map (· + 1)) else none).map hdD ++ [hdD (i, gs.map (· + 1))] := by
              rw [List.range_succ, List.filterMap_append, List.map_append]
              congr 1
              rw [List.filterMap_cons, hg, if_pos hy]
              rfl
            rw [eR]
            have hn : ∀ d ∈ ((List.range i).filterMap fun m => if youngL l (ages.drop m) = true then some (m, (ages.drop m).map (· + 1)) else none).map hdD ++ [hdD (i, gs.map (· + 1))], NoL d := by
              rw [← eR]
              exact map_noL hdD_noL _
            refine DpAll.keepL (keepL (s36 _ _ hfo3)) (DpAll.snoc (DpAll.same s36 hD3) ?_) hn
            have hT : (upd (upd H5 tp (.tup ((nI (gs.map (· + 1))).map V.int))) T (.tup [.int (0 + (i : Int)), .ref tp])) T = some (.tup [.int (i : Int), .ref tp]) := by rw [upd_same, e0]
            exact .tup (SqT.of hT) (.cons (.int _) (.cons (ints_dp (SqT.of ((Same.newB nT) _ _ upd_same))) .nil))
        · refine ⟨sHE, _, _, xs, rfl, hfo3, ?_⟩
          have eR : ((List.range (i + 1)).filterMap fun m => if youngL l (ages.drop m) = true then some (m, (ages.drop m).map (· + 1)) else none) = (List.range i).filterMap fun m => if youngL l (ages.drop m) = true then some (m, (ages.drop m).map (· + 1)) else none := by
            rw [List.range_succ, List.filterMap_append, List.filterMap_cons, hg, if_neg (by rw [hy]; decide)]
            simp
          rw [eR]
          exact hD3
    · rintro σ H' ⟨s', v3, v4, xs, rfl, hfo, hD⟩
      rw [eN] at hD
      exact ⟨_, rfl, k fo H' xs s' nfo hfo hD⟩
end
end Bw

set_option Elab.async false
set_option linter.all false
set_option maxRecDepth 100000
set_option maxHeartbeats 4000000
namespace Bw
open PySem PySem.Spec PyProof.Rows L2
section
variable {P : Program} {w : World} {K : PySem.W.Frag} {mg : Str → Option Value} {base : Heap} {f : Addr} {fd : FuncData}
theorem ok_moves (F : FnP K "moves" s_moves f fd) (h_begun : Has P w K mg base 1 "begun" p_begun (spBegun K)) (h_heard_of : Has P w K mg base 1 "heard_of" p_heard_of (spHeardOf K)) : FnOk P w K mg base CX0 2 f fd p_moves (spMoves K) := by
  refine F.ok sc_moves (fun vs H Q E h => ?_) (fun cdv A outer s H vs Q E hr h => ?_)
  · obtain ⟨lp, v, l, st, rfl, _⟩ := h
    rfl
  · obtain ⟨lp, v, l, st, rfl, hl, lo, hv, ok, k⟩ := h
    obtain ⟨a, b, rfl, ha, hb⟩ := ls_at hv
    have he := lo.e1
    have l3 := lo.l3
    refine ⟨_, PSs.nox (pss_cons (ps_set (i := 2) sc_moves.nd rfl (Or.inl rfl) (pe_lst pa_nil))
        (pss_cons (ps_for PassesOwn.never rfl (pi_list (pe_fn h_begun hr rfl (pa_cons (pv 0) (pa_cons (pv 1) pa_nil)))) (pg_tup rfl (pgs_cons (pg_name (i := 3) sc_moves.nd rfl (Or.inl rfl)) (pgs_cons (pg_name (i := 4) sc_moves.nd rfl (Or.inl rfl)) pgs_nil)))
          (pss_one (ps_for PassesOwn.never rfl (pi_list (pe_fn h_heard_of hr rfl (pa_cons (pv 0) (pa_cons (pv 3) pa_nil)))) (pg_tup rfl (pgs_cons (pg_name (i := 5) sc_moves.nd rfl (Or.inl rfl)) (pgs_cons (pg_name (i := 6) sc_moves.nd rfl (Or.inl rfl)) pgs_nil)))
            (pss_one (ps_expr (pe_bm PySem.F.plainAttrs_list PySem.F.slot_list_append PySem.F.type_list_append mt_append (pv 2) (pa_cons (pe_tup (pa_cons (pv 5) (pa_cons (pe_tup (pa_cons (pe_op op_mod (pe_op op_add (pe_ix ix_tup (pv 1) pe_int (fun _ _ => rfl)) pe_int) (pe_ix ix_tup (pv 0) pe_int (fun _ _ => rfl))) (pa_cons (pv 6) (pa_cons (pv 4) pa_nil)))) pa_nil))) pa_nil)))))))
        (pss_one (ps_ret (pv 2))))), ?_⟩
    refine ⟨szle (Nat.le_of_ble_eq_true rfl), fun fo nfo => ?_⟩
    have s0 : Same H (upd H fo (.lst [])) := Same.newB nfo
    refine ⟨_, rfl, _, rfl, lp, .ref a, l, st, rfl, s0.tupB hl, lo, Dp.same s0 _ _ hv, ok, fun bp H1 xB s1 nbp hbp hB => ?_⟩
    have fb : bp ≠ fo := Ne.symm (ne_of_none (upd_same (H := H) (a := fo) (o := .lst [])) nbp)
    let mv : List Nat × Nat → List (Nat × LS) := fun b => (heardL l b.1).map fun h => (h.1, ⟨(st.ph + 1) % l.each, h.2, b.2⟩)
    have small : ∀ b ∈ begunL l st, (mv b).length ≤ 5 := fun b hb => by
      show ((heardL l b.1).map _).length ≤ 5
      rw [List.length_map]
      have h1 := heardL_len l b.1
      have h2 := (begunL_mem hb ok).2.2.2
      omega
    have tot : ∀ (bs : List (List Nat × Nat)), (∀ b ∈ bs, (mv b).length ≤ 5) → (bs.flatMap mv).length ≤ 5 * bs.length := by
      intro bs
      induction bs with
      | nil => intro _; exact Nat.zero_le _
      | cons b bs ih =>
        intro h
        have h1 := h b List.mem_cons_self
        have h2 := ih fun c hc => h c (List.mem_cons_of_mem _ hc)
        rw [List.flatMap_cons, List.length_append, List.length_cons]
        omega
    have hb2 := begunL_len l st
    refine ⟨bp, rfl, ⟨_, SqL.of hbp⟩, for_list (K := K) (a := bp) (xs := xB) (fun i σ H' => Same H H' ∧ H' bp = some (.lst xB) ∧ DpAll K H' xB ((begunL l st).map bgD) ∧ ∃ v3 v4 v5 v6 ys, σ = [some (.ref lp), some (.ref a), some (.ref fo), v3, v4, v5, v6] ∧ H' fo = some (.lst ys) ∧ DpAll K H' ys ((((begunL l st).take i).flatMap mv).map mvD)) ⟨s0.trans s1, hbp, hB, none, none, none, none, [], rfl, s1 _ _ upd_same, .nil⟩ (fun i σ H' _ h => SqL.of h.2.1) ?_ ?_⟩
    · rintro i y σ H2 hi ⟨s2, hbp2, hB2, v3, v4, v5, v6, ys, rfl, hfo2, hD2⟩
      obtain ⟨d, hd, hy⟩ := dpAll_get hB2 hi
      rw [List.getElem?_map] at hd
      obtain ⟨⟨ages, run⟩, hbg, rfl⟩ : ∃ q, (begunL l st)[i]? = some q ∧ bgD q = d := by
        cases e : (begunL l st)[i]? with
        | none => rw [e] at hd; cases hd
        | some q => rw [e] at hd; exact ⟨q, rfl, Option.some.inj hd⟩
      have hmem := List.mem_of_getElem? hbg
      obtain ⟨c1, c2, c3, c4⟩ := begunL_mem hmem ok
      obtain ⟨T, xT, rfl, hT, hT2⟩ := dp_tup hy
      obtain ⟨x1, x2, rfl, g1, g2⟩ := dpAll_two hT2
      obtain ⟨ag, rfl, hag⟩ := dp_intsD g1
      cases dp_int g2
      refine ⟨T, _, rfl, hT, rfl, _, _, rfl, _, _, rfl, rfl, ?_⟩
      refine ⟨_, rfl, _, rfl, lp, ag, l, ages, rfl, s2.tupB hl, lo, hag, by omega, fun hp H3 xH s3 nhp hhp hH => ?_⟩
      have fh : hp ≠ fo := Ne.symm (ne_of_none hfo2 nhp)
      have hhl : xH.length ≤ 5 := by
        have h1 := DpAll.len hH
        rw [List.length_map] at h1
        have h2 := heardL_len l ages
        omega
      have hbs : ((begunL l st).take i).length ≤ 2 := by rw [List.length_take]; omega
      have hf2 := tot ((begunL l st).take i) (fun b hb => small b (List.mem_of_mem_take hb))
      refine ⟨hp, rfl, ⟨_, SqL.of hhp⟩, for_list (K := K) (a := hp) (xs := xH) (fun j σ H' => Same H H' ∧ H' bp = some (.lst xB) ∧ DpAll K H' xB ((begunL l st).map bgD) ∧ H' hp = some (.lst xH) ∧ DpAll K H' xH ((heardL l ages).map hdD) ∧ ∃ v5 v6 ys, σ = [some (.ref lp), some (.ref a), some (.ref fo), some (.ref ag), some (.int run), v5, v6] ∧ H' fo = some (.lst ys) ∧ DpAll K H' ys ((((begunL l st).take i).flatMap mv ++ ((heardL l ages).take j).map fun (h : Nat × List Nat) => (h.1, (⟨(st.ph + 1) % l.each, h.2, run⟩ : LS))).map mvD)) ?_ (fun j σ H' _ h => SqL.of h.2.2.2.1) ?_ ?_⟩
      · refine ⟨s2.trans s3, s3 _ _ hbp2, DpAll.same s3 hB2, hhp, hH, _, _, ys, rfl, s3 _ _ hfo2, ?_⟩
        rw [List.take_zero, List.map_nil, List.append_nil]
        exact DpAll.same s3 hD2
      · rintro j y σ H4 hj ⟨s4, hbp4, hB4, hhp4, hH4, v5, v6, ys4, rfl, hfo4, hD4⟩
        have hjl := (List.getElem?_eq_some_iff.mp hj).1
        obtain ⟨d, hd, hy⟩ := dpAll_get hH4 hj
        rw [List.getElem?_map] at hd
        obtain ⟨⟨m, left⟩, hhd, rfl⟩ : ∃ q, (heardL l ages)[j]? = some q ∧ hdD q = d := by
          cases e : (heardL l ages)[j]? with
          | none => rw [e] at hd; cases hd
          | some q => rw [e] at hd; exact ⟨q, rfl, Option.some.inj hd⟩
        obtain ⟨T, xT, rfl, hT, hT2⟩ := dp_tup hy
        obtain ⟨x1, x2, rfl, g1, g2⟩ := dpAll_two hT2
        obtain ⟨lf, rfl, hlf⟩ := dp_intsD g2
        cases dp_int g1
        refine ⟨T, _, rfl, hT, rfl, _, _, rfl, _, _, rfl, rfl, ?_⟩
        refine ⟨_, rfl, Or.inl ⟨rfl, _, SqL.of hfo4⟩, _, rfl, _, rfl, a, _, _, _, rfl, rfl, s4.tupB ha, atI_nat (j := 0) rfl, _, _, rfl, rfl, _, rfl, lp, _, _, _, rfl, rfl, s4.tupB hl, atI_nat (j := 0) rfl, _, _, rfl, rfl, by omega, _, rfl, _, rfl, szle (Nat.le_of_ble_eq_true rfl), fun T2 nT2 => ⟨szle (Nat.le_of_ble_eq_true rfl), fun T3 nT3 => ?_⟩⟩
        have eM : ((st.ph : Int) + 1) % (l.each : Int) = (((st.ph + 1) % l.each : Nat) : Int) := by
          rw [Int.natCast_emod]
          rfl
        have s5 := (Same.newB (o := .tup [.int (((st.ph : Int) + 1) % (l.each : Int)), .ref lf, .int run]) nT2).moreB (o := .tup [.int m, .ref T2]) nT3
        have hyl : ys4.length ≤ 20 := by
          have h1 := DpAll.len hD4
          rw [List.length_map, List.length_append, List.length_map, List.length_take] at h1
          omega
        have s05 := s4.trans s5
        have hfo5 := s5 _ _ hfo4
        have kk := keepL (ys := ys4 ++ [.ref T3]) hfo5
        refine ⟨fo, ys4, _, rfl, rfl, hfo5, szlt (by omega), s05.mutB nfo, by rw [upd_ne fb]; exact s5 _ _ hbp4, DpAll.keepL kk (DpAll.same s5 hB4) (map_noL bgD_noL _), by rw [upd_ne fh]; exact s5 _ _ hhp4, DpAll.keepL kk (DpAll.same s5 hH4) (map_noL hdD_noL _), _, _, _, rfl, upd_same, ?_⟩
        have eT : (heardL l ages).take (j + 1) = (heardL l ages).take j ++ [(m, left)] := by rw [List.take_succ, hhd]; rfl
        have eF : ((((begunL l st).take i).flatMap mv ++ ((heardL l ages).take (j + 1)).map fun (h : Nat × List Nat) => (h.1, (⟨(st.ph + 1) % l.each, h.2, run⟩ : LS))).map mvD) = ((((begunL l st).take i).flatMap mv ++ ((heardL l ages).take j).map fun (h : Nat × List Nat) => (h.1, (⟨(st.ph + 1) % l.each, h.2, run⟩ : LS))).map mvD) ++ [mvD (m, ⟨(st.ph + 1) % l.each, left, run⟩)] := by
          rw [eT]
          simp only [List.map_append, List.append_assoc, List.map_cons, List.map_nil]
        rw [eF]
        refine DpAll.keepL kk (DpAll.snoc (DpAll.same s5 hD4) ?_) ?_
        · refine .tup (SqT.of upd_same) (.cons (.int _) (.cons ?_ .nil))
          refine ls_mk (s := ⟨(st.ph + 1) % l.each, left, run⟩) (b := lf) (SqT.of ?_) (s5.tupB hlf)
          rw [(Same.newB nT3) _ _ upd_same]
          show some (HO.tup [V.int (((st.ph : Int) + 1) % (l.each : Int)), V.ref lf, V.int run]) = some (HO.tup [V.int (((st.ph + 1) % l.each : Nat) : Int), V.ref lf, V.int run])
          rw [eM]
        · intro d hd
          rcases List.mem_append.mp hd with hd | hd
          · exact map_noL mvD_noL _ d hd
          · rcases List.mem_cons.mp hd with rfl | hd
            · exact mvD_noL _
            · cases hd
      · rintro σ H4 ⟨s4, hbp4, hB4, hhp4, hH4, v5, v6, ys4, rfl, hfo4, hD4⟩
        refine ⟨s4, hbp4, hB4, _, _, _, _, ys4, rfl, hfo4, ?_⟩
        have hln : xH.length = (heardL l ages).length := by
          have h1 := DpAll.len hH
          rw [List.length_map] at h1
          exact h1
        rw [hln, List.take_length] at hD4
        have eT : (begunL l st).take (i + 1) = (begunL l st).take i ++ [(ages, run)] := by rw [List.take_succ, hbg]; rfl
        rw [eT, List.flatMap_append]
        have e2 : [(ages, run)].flatMap mv = (heardL l ages).map fun h => (h.1, ⟨(st.ph + 1) % l.each, h.2, run⟩) := by
          rw [List.flatMap_cons, List.flatMap_nil, List.append_nil]
        rw [e2]
        exact hD4
    · rintro σ H2 ⟨s2, hbp2, hB2, v3, v4, v5, v6, ys, rfl, hfo2, hD2⟩
      have hln : xB.length = (begunL l st).length := by
        have h1 := DpAll.len hB
        rw [List.length_map] at h1
        exact h1
      rw [hln, List.take_length] at hD2
      exact ⟨_, rfl, k fo H2 ys s2 nfo hfo2 hD2⟩
end
end Bw

set_option Elab.async false
set_option linter.all false
set_option maxRecDepth 100000
set_option maxHeartbeats 4000000
namespace Bw
open PySem PySem.Spec PyProof.Rows L2
section
variable {P : Program} {w : World} {K : PySem.W.Frag} {mg : Str → Option Value} {base : Heap} {f : Addr} {fd : FuncData}
theorem ok_all_standing {aF : Addr} (F : FnP K "all_standing" s_all_standing f fd) (g_FIRST : mg "FIRST" = some (.ref aF)) (hFI : ∀ H : Hp, Dp K H (.ref aF) (lsD LS.first))
    (h_first_state : Has P w K mg base 1 "first_state" ["rule"] (spFirst K)) (h_moves : Has P w K mg base 2 "moves" p_moves (spMoves K)) (h_next_state : Has P w K mg base 1 "next_state" p_next_state (spNext K)) (h_is_gone : Has P w K mg base 1 "is_gone" p_is_gone (spGone K)) : FnOk P w K mg base CX0 3 f fd p_all_standing (spAll P w K) := by
  refine F.ok sc_all_standing (fun vs H Q E h => ?_) (fun cdv A outer s H vs Q E hr h => ?_)
  · obtain ⟨lp, q, l, r, rfl, _⟩ := h
    rfl
  · obtain ⟨lp, q, l, r, rfl, hl, lo, hq, ro, k⟩ := h
    have he := lo.e1
    refine ⟨_, PSs.nox (pss_cons (ps_set (i := 2) sc_all_standing.nd rfl (Or.inl rfl) (pe_tup (pa_cons (pe_gR rfl g_FIRST) (pa_cons (pe_fn h_first_state hr rfl (pa_cons (pv 1) pa_nil)) pa_nil))))
        (pss_cons (ps_set (i := 3) sc_all_standing.nd rfl (Or.inl rfl) (pe_nd1 (hu20 hr) (pv 2) (pe_lst pa_nil)))
        (pss_cons (ps_set (i := 4) sc_all_standing.nd rfl (Or.inl rfl) (pe_lst (pa_cons (pv 2) pa_nil)))
        (pss_cons (ps_set (i := 5) sc_all_standing.nd rfl (Or.inl rfl) pe_non)
        (pss_cons (ps_while PassesOwn.never (pt_cmpR (op_neD hr.units) (pv 4) (pe_lst pa_nil) (nomark _))
          (pss_cons (ps_set (i := 6) sc_all_standing.nd rfl (Or.inl rfl) (pe_lst pa_nil))
            (pss_cons (ps_for PassesOwn.never rfl (pi_list (pv 4)) (pg_tup rfl (pgs_cons (pg_name (i := 7) sc_all_standing.nd rfl (Or.inl rfl)) (pgs_cons (pg_name (i := 8) sc_all_standing.nd rfl (Or.inl rfl)) pgs_nil)))
              (pss_one (ps_for PassesOwn.never rfl (pi_list (pe_fn h_moves hr rfl (pa_cons (pv 0) (pa_cons (pv 7) pa_nil)))) (pg_tup rfl (pgs_cons (pg_name (i := 9) sc_all_standing.nd rfl (Or.inl rfl)) (pgs_cons (pg_name (i := 10) sc_all_standing.nd rfl (Or.inl rfl)) pgs_nil)))
                (pss_cons (ps_set (i := 11) sc_all_standing.nd rfl (Or.inl rfl) (pe_tup (pa_cons (pv 10) (pa_cons (pe_fn h_next_state hr rfl (pa_cons (pv 1) (pa_cons (pv 8) (pa_cons (pv 9) pa_nil)))) pa_nil))))
                  (pss_one (ps_if (pt_cmpR (op_notin_nd (hu20 hr)) (pv 11) (pv 3) rfl)
                    (pss_cons (ps_asg (pe_op op_cat (pe_ix (ix_nd (hu20 hr)) (pv 3) (pe_tup (pa_cons (pv 7) (pa_cons (pv 8) pa_nil))) (fun _ _ => rfl)) (pe_lst (pa_cons (pv 9) pa_nil))) (pg_sub (pv 3) (pv 11) (set_nd (hu20 hr))))
                      (pss_cons (ps_expr (pe_bm PySem.F.plainAttrs_list PySem.F.slot_list_append PySem.F.type_list_append mt_append (pv 6) (pa_cons (pv 11) pa_nil)))
                      (pss_one (ps_if (PW.pt (pw_and (pt_cmpR op_isN (pv 5) pe_non (nomark _)) (pw_and1 (pt_val (pe_fn h_is_gone hr rfl (pa_cons (pv 1) (pa_cons (pe_ix ix_tup (pv 11) pe_int (fun _ _ => rfl)) pa_nil)))))))
                        (pss_one (ps_set (i := 5) sc_all_standing.nd rfl (Or.inl rfl) (pe_ix (ix_nd (hu20 hr)) (pv 3) (pv 11) (fun _ _ => rfl))))
                        pss_nil))))
                    pss_nil))))))
            (pss_one (ps_set (i := 4) sc_all_standing.nd rfl (Or.inl rfl) (pv 6))))))
        (pss_one (ps_ret (pe_tup (pa_cons (pv 3) (pa_cons (pv 5) pa_nil)))))))))), ?_⟩
    refine ⟨_, rfl, q, r, rfl, hq, ro, fun fp H1 s1 hfp => ⟨szle (Nat.le_of_ble_eq_true rfl), fun T nT => ?_⟩⟩
    have s2 : Same H1 (upd H1 T (.tup [.ref aF, .ref fp])) := Same.newB nT
    have hkT : Dp K (upd H1 T (.tup [.ref aF, .ref fp])) (.ref T) (pkD (firstP r)) := pk_mk (k := firstP r) (x := .ref aF) (b := fp) (SqT.of upd_same) (hFI _) (s2.tupB hfp)
    have s02 : Same H (upd H1 T (.tup [.ref aF, .ref fp])) := s1.trans s2
    revert hkT s02
    generalize upd H1 T (.tup [.ref aF, .ref fp]) = H2
    intro hkT s02
    refine fun mt o1 nmt hn => ⟨_, rfl, szle (Nat.le_of_ble_eq_true rfl), fun e ne => ⟨pkK (firstP r), hn.same (Same.newB ne), pk_key (Dp.same ((Same.newB nmt).moreB ne) _ _ hkT), fun o2 hn2 => ?_⟩⟩
    have nmt0 : H mt = none := s02.free nmt
    have ne0 : H e = none := s02.free ((Same.newB nmt).free ne)
    have em : e ≠ mt := Ne.symm (ne_of_none hn.here ne)
    have s3 : Same H (upd (upd (upd H2 mt (PinO mt o1)) e (.lst [])) mt (PinO mt o2)) := ((s02.trans (Same.newB nmt)).moreB ne).mutB nmt0
    have hkT3 : Dp K (upd (upd (upd H2 mt (PinO mt o1)) e (.lst [])) mt (PinO mt o2)) (.ref T) (pkD (firstP r)) := Dp.keepT (((TK.new nmt).trans (TK.new ne)).trans (TK.upd (hn.same (Same.newB ne)).here (pin_notT _ _))) hkT (pkD_noL _)
    have he3 : (upd (upd (upd H2 mt (PinO mt o1)) e (.lst [])) mt (PinO mt o2)) e = some (.lst []) := by rw [upd_ne em, upd_same]
    revert hn2 s3 hkT3 he3
    generalize upd (upd (upd H2 mt (PinO mt o1)) e (.lst [])) mt (PinO mt o2) = H3
    intro hn2 s3 hkT3 he3
    refine ⟨_, rfl, szle (Nat.le_of_ble_eq_true rfl), fun lvp nlvp => ?_⟩
    have s4 : Same H3 (upd H3 lvp (.lst [.ref T])) := Same.newB nlvp
    -- the while
    refine ⟨fun m σ H' => ∃ n, (Same H H' ∧ ∃ (lvp : Addr) (wv : V) (ms : MS) (zs : List V) (v2 v6 v7 v8 v9 v10 v11 : Option V), σ = [some (.ref lp), some (.ref q), v2, some (.ref mt), some (.ref lvp), some wv, v6, v7, v8, v9, v10, v11] ∧ (∀ x ∈ ms, H x.2.1 = none) ∧ msM ms = (bfsN (succP l r) (goneP r) (firstP r) n).met ∧ MetAt P w K H' mt ms ∧ WrAt ms (bfsN (succP l r) (goneP r) (firstP r) n).wr wv ∧ H' lvp = some (.lst zs) ∧ DpAll K H' zs ((bfsN (succP l r) (goneP r) (firstP r) n).lv.map pkD)) ∧ m = muP (bfsN (succP l r) (goneP r) (firstP r) n), ?_, ?_⟩
    · refine ⟨_, 0, ⟨s3.trans s4, lvp, .non, [(firstP r, e, [])], [.ref T], _, _, _, _, _, _, _, rfl, ?_, rfl, ⟨⟨o2, hn2.same s4⟩, ?_⟩, rfl, upd_same, .cons (Dp.same s4 _ _ hkT3) .nil⟩, rfl⟩
      · intro x hx
        rcases List.mem_cons.mp hx with rfl | hx
        · exact ne0
        · cases hx
      · intro x hx
        rcases List.mem_cons.mp hx with rfl | hx
        · exact s4 _ _ he3
        · cases hx
    rintro m σ H5 ⟨n, ⟨s5, lvp, wv, ms, zs, v2, v6, v7, v8, v9, v10, v11, rfl, hnew, hmet, hM, hW, hlv, hlvD⟩, rfl⟩
    have B := bfs_inv (succ := succP l r) (firstP_gone r ro) n
    have hlt := fun h => muP_lt (l := l) lo (r := r) ro (n := n) h
    have hgrow := bfs_grow (succ := succP l r) (gone := goneP r) (k0 := firstP r) n
    have hblen := binv_len lo ro (l := l) (r := r) n
    have hS : bfsN (succP l r) (goneP r) (firstP r) (n + 1) = (bfsN (succP l r) (goneP r) (firstP r) n).lv.foldl (nodeB (succP l r) (goneP r)) ⟨(bfsN (succP l r) (goneP r) (firstP r) n).met, [], (bfsN (succP l r) (goneP r) (firstP r) n).wr⟩ := rfl
    have hEnd : (bfsN (succP l r) (goneP r) (firstP r) n).lv = [] → endP l r (bfsN (succP l r) (goneP r) (firstP r) n) := fun h => ⟨n, rfl, h⟩
    revert hmet hW hlvD hlt hgrow hblen hS hEnd B
    generalize hb1 : bfsN (succP l r) (goneP r) (firstP r) (n + 1) = b1
    generalize bfsN (succP l r) (goneP r) (firstP r) n = b
    intro hmet hW hlvD B hlt hgrow hblen hS hEnd
    refine ⟨_, rfl, szle (Nat.le_of_ble_eq_true rfl), fun e5 ne5 => ⟨.list (b.lv.map pkD), .list [], .lst (SqL.of ((Same.newB ne5) _ _ hlv)) (DpAll.same (Same.newB ne5) hlvD), .lst (SqL.of upd_same) .nil, Shp.ok (n := 4) (shp_list fun d hd => ?_) (by omega), PySem.W.ke_shaped_ints [], _, rfl, ?_⟩⟩
    · obtain ⟨x, _, rfl⟩ := List.mem_map.mp hd
      exact pkD_shp x
    rw [eqv_nilD]
    have s6 : Same H5 (upd H5 e5 (.lst [])) := Same.newB ne5
    have s06 := s5.trans s6
    have hM6 := hM.same s6
    have hlv6 := s6 _ _ hlv
    have hlvD6 := DpAll.same s6 hlvD
    revert s06 hM6 hlv6 hlvD6
    generalize upd H5 e5 (.lst []) = H6
    intro s06 hM6 hlv6 hlvD6
    by_cases hz : b.lv = []
    · rw [hz]
      refine iteF ⟨_, rfl, _, rfl, szle (Nat.le_of_ble_eq_true rfl), fun p np => ?_⟩
      exact k p _ mt wv ms b (s06.moreB np) (hEnd hz) hmet (hM6.same (Same.newB np)) hW upd_same nmt0 hnew
    have hz2 : (!(b.lv.map pkD).isEmpty) = true := by
      cases hb : b.lv with
      | nil => exact absurd hb hz
      | cons a t => rfl
    rw [hz2]
    refine iteT ⟨fun σ' H' => Same H H' ∧ ∃ (lvp : Addr) (wv : V) (ms : MS) (zs : List V) (v2 v6 v7 v8 v9 v10 v11 : Option V), σ' = [some (.ref lp), some (.ref q), v2, some (.ref mt), some (.ref lvp), some wv, v6, v7, v8, v9, v10, v11] ∧ (∀ x ∈ ms, H x.2.1 = none) ∧ msM ms = b1.met ∧ MetAt P w K H' mt ms ∧ WrAt ms b1.wr wv ∧ H' lvp = some (.lst zs) ∧ DpAll K H' zs (b1.lv.map pkD), fun σ' H' h => ⟨_, hlt hz, n + 1, ?_, by rw [hb1]⟩, ?_⟩
    · rw [hb1]
      exact h
    have hrowlen : n + 1 ≤ pkMost := Nat.le_trans (hgrow hz) hblen
    refine ⟨szle (Nat.le_of_ble_eq_true rfl), fun bh nbh => ?_⟩
    have s7 : Same H6 (upd H6 bh (.lst [])) := Same.newB nbh
    have nbh0 : H bh = none := s06.free nbh
    obtain ⟨oM, hMA⟩ := hM6.nd
    have mb : mt ≠ bh := ne_of_none hMA.here nbh
    have lb : lvp ≠ bh := ne_of_none hlv6 nbh
    refine ⟨_, rfl, lvp, rfl, ⟨_, SqL.of (s7 _ _ hlv6)⟩, for_list (K := K) (a := lvp) (xs := zs) (fun j σ H' => ∃ (wv : V) (ms : MS) (ys : List V) (v7 v8 v9 v10 v11 : Option V), σ = [some (.ref lp), some (.ref q), v2, some (.ref mt), some (.ref lvp), some wv, some (.ref bh), v7, v8, v9, v10, v11] ∧ msM ms = ((b.lv.take j).foldl (nodeB (succP l r) (goneP r)) ⟨b.met, [], b.wr⟩).met ∧ WrAt ms ((b.lv.take j).foldl (nodeB (succP l r) (goneP r)) ⟨b.met, [], b.wr⟩).wr wv ∧ ASt P w K H H' mt lvp bh zs b.lv ms ys ((b.lv.take j).foldl (nodeB (succP l r) (goneP r)) ⟨b.met, [], b.wr⟩).lv) ?_ (fun j σ H' _ h => by
        obtain ⟨_, _, _, _, _, _, _, _, _, _, _, a⟩ := h
        exact SqL.of a.lvl) ?_ ?_⟩
    · refine ⟨wv, ms, [], _, _, _, _, _, rfl, hmet, hW, s06.trans s7, hM6.same s7, fun x hx => ⟨hnew x hx, ?_⟩, s7 _ _ hlv6, DpAll.same s7 hlvD6, upd_same, .nil⟩
      exact ne_of_none (hM6.rows x hx) nbh
    · rintro j y σ H8 hj ⟨wv8, ms8, ys8, v7, v8, v9, v10, v11, rfl, hm8, hw8, A8⟩
      obtain ⟨d, hd, hy⟩ := dpAll_get A8.lvD hj
      rw [List.getElem?_map] at hd
      obtain ⟨kj, hkj, rfl⟩ : ∃ x, b.lv[j]? = some x ∧ pkD x = d := by
        cases e : b.lv[j]? with
        | none => rw [e] at hd; cases hd
        | some x => rw [e] at hd; exact ⟨x, rfl, Option.some.inj hd⟩
      have hkm : kj ∈ b.lv := List.mem_of_getElem? hkj
      have eTk : b.lv.take (j + 1) = b.lv.take j ++ [kj] := by rw [List.take_succ, hkj]; rfl
      have J8 := JInv.nodes B (b.lv.take j) ⟨b.met, [], b.wr⟩ (fun x hx => List.mem_of_mem_take hx) (JInv.start B)
      obtain ⟨ρ, hρ, hρl⟩ := (B.lvl kj).mp hkm
      obtain ⟨okS, okK⟩ := pk_ok lo ro (B.row kj ρ hρ).1
      have eJ : (b.lv.take (j + 1)).foldl (nodeB (succP l r) (goneP r)) ⟨b.met, [], b.wr⟩ = nodeB (succP l r) (goneP r) ((b.lv.take j).foldl (nodeB (succP l r) (goneP r)) ⟨b.met, [], b.wr⟩) kj := by rw [eTk, List.foldl_append]; rfl
      have L8 := nodes_len (succP l r) (goneP r) (b.lv.take j) ⟨b.met, [], b.wr⟩ b.met.length rfl
      revert hm8 hw8 A8 J8 eJ L8
      generalize (b.lv.take j).foldl (nodeB (succP l r) (goneP r)) ⟨b.met, [], b.wr⟩ = bj
      intro hm8 hw8 A8 J8 eJ L8
      obtain ⟨Tj, xj, kb, rfl, hTj, hxj, hkb⟩ := pk_at hy
      refine ⟨Tj, _, rfl, hTj, rfl, _, _, rfl, _, _, rfl, rfl, ?_⟩
      refine ⟨_, rfl, _, rfl, lp, xj, l, kj.1, rfl, A8.same.tupB hl, lo, hxj, okS, fun mp H9 xM s9 nmp hmp hMv => ?_⟩
      have A9 := A8.more s9
      have mpb : mp ≠ bh := Ne.symm (ne_of_none A8.beh nmp)
      have hmlen : xM.length = (movesL l kj.1).length := by
        have h1 := DpAll.len hMv
        rw [List.length_map] at h1
        exact h1
      refine ⟨mp, rfl, ⟨_, SqL.of hmp⟩, for_list (K := K) (a := mp) (xs := xM) (fun i σ H' => ∃ (wv : V) (ms : MS) (ys : List V) (v9 v10 v11 : Option V), σ = [some (.ref lp), some (.ref q), v2, some (.ref mt), some (.ref lvp), some wv, some (.ref bh), some xj, some (.ref kb), v9, v10, v11] ∧ msM ms = (((succP l r kj).take i).foldl (edgeB (goneP r) kj) bj).met ∧ WrAt ms (((succP l r kj).take i).foldl (edgeB (goneP r) kj) bj).wr wv ∧ ASt P w K H H' mt lvp bh zs b.lv ms ys (((succP l r kj).take i).foldl (edgeB (goneP r) kj) bj).lv ∧ H' mp = some (.lst xM) ∧ DpAll K H' xM ((movesL l kj.1).map mvD) ∧ Dp K H' xj (lsD kj.1) ∧ SqT K H' kb (kj.2.map V.int)) ?_ (fun i σ H' _ h => by
        obtain ⟨_, _, _, _, _, _, _, _, _, _, a, _⟩ := h
        exact SqL.of a) ?_ ?_⟩
      · exact ⟨wv8, ms8, ys8, _, _, _, rfl, hm8, hw8, A9, hmp, hMv, Dp.same s9 _ _ hxj, s9.tupB hkb⟩
      · rintro i y2 σ H10 hi ⟨wvq, msq, ysq, u9, u10, u11, rfl, hmq, hwq, Aq, hmpq, hMq, hxq, hkq⟩
        obtain ⟨d2, hd2, hy2⟩ := dpAll_get hMq hi
        rw [List.getElem?_map] at hd2
        obtain ⟨⟨c, t⟩, hct, rfl⟩ : ∃ x, (movesL l kj.1)[i]? = some x ∧ mvD x = d2 := by
          cases e : (movesL l kj.1)[i]? with
          | none => rw [e] at hd2; cases hd2
          | some x => rw [e] at hd2; exact ⟨x, rfl, Option.some.inj hd2⟩
        have hsu : (succP l r kj)[i]? = some ((c : Int), (t, nextS r kj.2 (c : Int))) := by
          unfold succP
          rw [List.getElem?_map, hct]
          rfl
        have eT2 : (succP l r kj).take (i + 1) = (succP l r kj).take i ++ [((c : Int), (t, nextS r kj.2 (c : Int)))] := by rw [List.take_succ, hsu]; rfl
        have Jq := JInv.edges B hkm ((succP l r kj).take i) bj (fun x hx => List.mem_of_mem_take hx) J8
        have eQ : ((succP l r kj).take (i + 1)).foldl (edgeB (goneP r) kj) bj = edgeB (goneP r) kj (((succP l r kj).take i).foldl (edgeB (goneP r) kj) bj) ((c : Int), (t, nextS r kj.2 (c : Int))) := by rw [eT2, List.foldl_append]; rfl
        have Lq := edges_len (goneP r) kj ((succP l r kj).take i) bj b.met.length L8
        revert hmq hwq Aq Jq eQ Lq
        generalize ((succP l r kj).take i).foldl (edgeB (goneP r) kj) bj = bq
        intro hmq hwq Aq Jq eQ Lq
        obtain ⟨T2, x2, rfl, hT2, hx2⟩ := dp_tup hy2
        obtain ⟨z1, z2, rfl, g1, g2⟩ := dpAll_two hx2
        cases dp_int g1
        refine ⟨T2, _, rfl, hT2, rfl, _, _, rfl, _, _, rfl, rfl, ?_⟩
        refine ⟨_, rfl, _, rfl, _, rfl, _, rfl, q, kb, (c : Int), r, kj.2, rfl, Aq.same.tupB hq, ro, hkq, okK.st, fun np H11 s11 hnp => ⟨szle (Nat.le_of_ble_eq_true rfl), fun T5 nT5 => ?_⟩⟩
        have s12 : Same H11 (upd H11 T5 (.tup [z2, .ref np])) := Same.newB nT5
        have s1012 := s11.trans s12
        have hkey : Dp K (upd H11 T5 (.tup [z2, .ref np])) (.ref T5) (pkD (t, nextS r kj.2 (c : Int))) := pk_mk (k := (t, nextS r kj.2 (c : Int))) (x := z2) (b := np) (SqT.of upd_same) (Dp.same s1012 _ _ g2) (s12.tupB hnp)
        have hT5 : (upd H11 T5 (.tup [z2, .ref np])) T5 = some (.tup [z2, .ref np]) := upd_same
        have A12 := Aq.more s1012
        have hmp12 := s1012 _ _ hmpq
        have hM12 := DpAll.same s1012 hMq
        have hx12 := Dp.same s1012 _ _ hxq
        have hk12 := s1012.tupB hkq
        have hnp12 := s12.tupB hnp
        revert hkey A12 hmp12 hM12 hx12 hk12 hT5 hnp12
        generalize upd H11 T5 (.tup [z2, .ref np]) = H12
        intro hkey hT5 A12 hmp12 hM12 hx12 hk12 hnp12
        have hst : StOk r (nextS r kj.2 (c : Int)) := stOk_next _ _ _
        generalize hkk : (t, nextS r kj.2 (c : Int)) = key at *
        have hk2 : key.2 = nextS r kj.2 (c : Int) := by rw [← hkk]
        refine ⟨_, rfl, _, rfl, mt, _, pkK key, rfl, A12.met.nd, pk_key hkey, _, rfl, ?_⟩
        rw [ms_val_none, hmq, Bool.true_xor]
        refine iteN (fun hin => ?_) (fun hin => ?_)
        · -- a new one
          have eE : edgeB (goneP r) kj bq ((c : Int), key) = ⟨bq.met ++ [(key, rowOf bq.met kj ++ [(c : Int)])], bq.lv ++ [key], if bq.wr = none ∧ goneP r key = true then some (rowOf bq.met kj ++ [(c : Int)]) else bq.wr⟩ := if_neg hin
          have hρq := Jq.old _ hρ
          have eρ : rowOf bq.met kj = ρ := rowOf_mem Jq.nd hρq
          rw [eρ] at eE
          have hndq : ((msM msq).map (·.1)).Nodup := by rw [hmq]; exact Jq.nd
          obtain ⟨ra, hra⟩ : ∃ ra, (kj, ra, ρ) ∈ msq := by
            rw [← hmq] at hρq
            obtain ⟨⟨k', ra, ρ'⟩, h1, h2⟩ := List.mem_map.mp hρq
            injection h2 with h3 h4
            have h3' : k' = kj := h3
            have h4' : ρ' = ρ := h4
            subst h3' h4'
            exact ⟨ra, h1⟩
          have hlenq := jinv_len lo ro B Jq
          have hms : msq.length ≤ pkMost := by
            have : (msM msq).length = msq.length := List.length_map _
            rw [← this, hmq]
            exact hlenq
          refine ⟨_, rfl, _, rfl, _, rfl, szle (Nat.le_of_ble_eq_true rfl), fun T7 nT7 => ?_⟩
          have s13 : Same H12 (upd H12 T7 (.tup [xj, .ref kb])) := Same.newB nT7
          have A13 := A12.more s13
          refine ⟨mt, _, pkK kj, .ref ra, rfl, A13.met.nd, pk_key (pk_mk (k := kj) (x := xj) (b := kb) (SqT.of upd_same) (Dp.same s13 _ _ hx12) (s13.tupB hk12)), ms_val hndq hra, ?_⟩
          refine ⟨_, rfl, szle (Nat.le_of_ble_eq_true rfl), fun l1 nl1 => ?_⟩
          have s14 := s13.moreB (o := .lst [.int (c : Int)]) nl1
          have A14 := A12.more s14
          have hρb : ρ.length ≤ pkMost := by omega
          refine ⟨ra, l1, _, [V.int (c : Int)], rfl, rfl, A14.met.rows _ hra, upd_same, ?_, fun rp nrp => ?_⟩
          · show (ρ.map V.int).length + 1 ≤ sizeLine
            rw [List.length_map]
            have : pkMost + 1 ≤ sizeLine := by decide
            omega
          have s15 := s14.moreB (o := .lst (ρ.map V.int ++ [.int (c : Int)])) nrp
          have A15 := A12.more s15
          have hrp : (upd (upd (upd H12 T7 (.tup [xj, .ref kb])) l1 (.lst [.int (c : Int)])) rp (.lst (ρ.map V.int ++ [.int (c : Int)]))) rp = some (.lst ((ρ ++ [(c : Int)]).map V.int)) := by rw [upd_same, List.map_append]; rfl
          have nrp0 : H rp = none := A14.same.free nrp
          have rpb : rp ≠ bh := Ne.symm (ne_of_none A14.beh nrp)
          have hmp15 := s15 _ _ hmp12
          have hM15 := DpAll.same s15 hM12
          have hx15 := Dp.same s15 _ _ hx12
          have hk15 := s15.tupB hk12
          have hkey15 := Dp.same s15 _ _ hkey
          have hT515 := s15 _ _ hT5
          have hnp15 := s15.tupB hnp12
          revert A15 hrp hmp15 hM15 hx15 hk15 hkey15 hT515 hnp15
          generalize upd (upd (upd H12 T7 (.tup [xj, .ref kb])) l1 (.lst [.int (c : Int)])) rp (.lst (ρ.map V.int ++ [.int (c : Int)])) = H15
          intro A15 hrp hmp15 hM15 hx15 hk15 hkey15 hT515 hnp15
          refine ⟨_, rfl, _, rfl, mt, _, pkK key, rfl, A15.met.nd, pk_key hkey15, ?_, fun o' hn' => ?_⟩
          · show (List.map _ msq).length < sizeLine
            rw [List.length_map]
            have : pkMost < sizeLine := by decide
            omega
          have hin' : key ∉ (msM msq).map (·.1) := by rw [hmq]; exact hin
          rw [ms_put (ρ := ρ ++ [(c : Int)]) hin'] at hn'
          obtain ⟨oM15, hM15A⟩ := A15.met.nd
          have tk : TK H15 (upd H15 mt (PinO mt o')) := TK.upd hM15A.here (pin_notT _ _)
          have rowmt : ∀ p ρ', H15 p = some (.lst ρ') → p ≠ mt := fun p ρ' h => ne_of h hM15A.here (by intro z; cases z)
          -- the heap behind the store
          have hrp16 : (upd H15 mt (PinO mt o')) rp = some (.lst ((ρ ++ [(c : Int)]).map V.int)) := by rw [upd_ne (rowmt _ _ hrp)]; exact hrp
          have A16 : ASt P w K H (upd H15 mt (PinO mt o')) mt lvp bh zs b.lv (msq ++ [(key, rp, ρ ++ [(c : Int)])]) ysq bq.lv := by
            refine ⟨A15.same.mutB nmt0, ⟨⟨o', hn'⟩, fun x hx => ?_⟩, fun x hx => ?_, by rw [upd_ne (rowmt _ _ A15.lvl)]; exact A15.lvl, DpAll.keepT tk A15.lvD (map_noL pkD_noL _), by rw [upd_ne (rowmt _ _ A15.beh)]; exact A15.beh, DpAll.keepT tk A15.behD (map_noL pkD_noL _)⟩
            · rcases List.mem_append.mp hx with hx | hx
              · have := A15.met.rows x hx
                rw [upd_ne (rowmt _ _ this)]
                exact this
              · rcases List.mem_cons.mp hx with rfl | hx
                · exact hrp16
                · cases hx
            · rcases List.mem_append.mp hx with hx | hx
              · exact A15.new x hx
              · rcases List.mem_cons.mp hx with rfl | hx
                · exact ⟨nrp0, rpb⟩
                · cases hx
          have hmp16 : (upd H15 mt (PinO mt o')) mp = some (.lst xM) := by rw [upd_ne (rowmt _ _ hmp15)]; exact hmp15
          have hM16 := DpAll.keepT tk hM15 (map_noL mvD_noL _)
          have hx16 := Dp.keepT tk hx15 (lsD_noL _)
          have hk16 := tk.sqT hk15
          have hkey16 := Dp.keepT tk hkey15 (pkD_noL _)
          have hT516 := tk.tup _ _ hT515
          have hnp16 := tk.sqT hnp15
          revert A16 hmp16 hM16 hx16 hk16 hkey16 hT516 hnp16
          generalize upd H15 mt (PinO mt o') = H16
          intro A16 hmp16 hM16 hx16 hk16 hkey16 hT516 hnp16
          have hyl : ysq.length ≤ pkMost := by
            have h1 := DpAll.len Aq.behD
            rw [List.length_map] at h1
            omega
          refine ⟨_, rfl, Or.inl ⟨rfl, _, SqL.of A16.beh⟩, _, rfl, bh, ysq, _, rfl, rfl, A16.beh, Nat.lt_of_le_of_lt hyl (by decide), ?_⟩
          have A17 : ASt P w K H (upd H16 bh (.lst (ysq ++ [.ref T5]))) mt lvp bh zs b.lv (msq ++ [(key, rp, ρ ++ [(c : Int)])]) (ysq ++ [.ref T5]) (bq.lv ++ [key]) := by
            have tk2 : TK H16 (upd H16 bh (.lst (ysq ++ [.ref T5]))) := TK.upd A16.beh True.intro
            refine ⟨A16.same.mutB nbh0, A16.met.keep tk2 (fun o h => by rw [upd_ne mb]; exact h) (fun x hx o h => by rw [upd_ne (A16.new x hx).2]; exact h), A16.new, by rw [upd_ne lb]; exact A16.lvl, DpAll.keepT tk2 A16.lvD (map_noL pkD_noL _), upd_same, ?_⟩
            rw [List.map_append]
            exact DpAll.snoc (DpAll.keepT tk2 A16.behD (map_noL pkD_noL _)) (Dp.keepT tk2 hkey16 (pkD_noL _))
          have tk2 : TK H16 (upd H16 bh (.lst (ysq ++ [.ref T5]))) := TK.upd A16.beh True.intro
          have hmp17 : (upd H16 bh (.lst (ysq ++ [.ref T5]))) mp = some (.lst xM) := by rw [upd_ne mpb]; exact hmp16
          have hM17 := DpAll.keepT tk2 hM16 (map_noL mvD_noL _)
          have hx17 := Dp.keepT tk2 hx16 (lsD_noL _)
          have hk17 := tk2.sqT hk16
          have hkey17 := Dp.keepT tk2 hkey16 (pkD_noL _)
          have hT517 := tk2.tup _ _ hT516
          have hnp17 := tk2.sqT hnp16
          revert A17 hmp17 hM17 hx17 hk17 hkey17 hT517 hnp17
          generalize upd H16 bh (.lst (ysq ++ [.ref T5])) = H17
          intro A17 hmp17 hM17 hx17 hk17 hkey17 hT517 hnp17
          have hmet17 : msM (msq ++ [(key, rp, ρ ++ [(c : Int)])]) = bq.met ++ [(key, ρ ++ [(c : Int)])] := by
            rw [← hmq]
            unfold msM
            rw [List.map_append]
            rfl
          have hnd17 : ((msM (msq ++ [(key, rp, ρ ++ [(c : Int)])])).map (·.1)).Nodup := by
            rw [hmet17, List.map_append]
            refine List.nodup_append.mpr ⟨Jq.nd, List.pairwise_singleton _ _, fun a ha b' hb' => ?_⟩
            rcases List.mem_cons.mp hb' with rfl | hb'
            · rintro rfl
              exact hin ha
            · cases hb'
          have wrold : ∀ ρ', bq.wr = some ρ' → WrAt (msq ++ [(key, rp, ρ ++ [(c : Int)])]) (some ρ') wvq := fun ρ' h => by
            rw [h] at hwq
            obtain ⟨k1, p1, e1, h1⟩ := hwq
            exact ⟨k1, p1, e1, List.mem_append_left _ h1⟩
          have fin : ∀ wv' : V, WrAt (msq ++ [(key, rp, ρ ++ [(c : Int)])]) (if bq.wr = none ∧ goneP r key = true then some (ρ ++ [(c : Int)]) else bq.wr) wv' → ∃ (wv : V) (ms : MS) (ys : List V) (u9 u10 u11 : Option V), [some (V.ref lp), some (V.ref q), v2, some (V.ref mt), some (V.ref lvp), some wv', some (V.ref bh), some xj, some (V.ref kb), some (V.int (c : Int)), some z2, some (V.ref T5)] = [some (.ref lp), some (.ref q), v2, some (.ref mt), some (.ref lvp), some wv, some (.ref bh), some xj, some (.ref kb), u9, u10, u11] ∧ msM ms = (((succP l r kj).take (i + 1)).foldl (edgeB (goneP r) kj) bj).met ∧ WrAt ms (((succP l r kj).take (i + 1)).foldl (edgeB (goneP r) kj) bj).wr wv ∧ ASt P w K H H17 mt lvp bh zs b.lv ms ys (((succP l r kj).take (i + 1)).foldl (edgeB (goneP r) kj) bj).lv ∧ H17 mp = some (.lst xM) ∧ DpAll K H17 xM ((movesL l kj.1).map mvD) ∧ Dp K H17 xj (lsD kj.1) ∧ SqT K H17 kb (kj.2.map V.int) := fun wv' hw' => by
            rw [eQ, eE]
            exact ⟨wv', _, _, _, _, _, rfl, hmet17, hw', A17, hmp17, hM17, hx17, hk17⟩
          refine ⟨_, rfl, rfl, _, rfl, iteD (fun hwn => ?_) (fun hwn => ?_)⟩
          · have hwr : bq.wr = none := by
              cases hw : bq.wr with
              | none => rfl
              | some ρ' =>
                rw [hw] at hwq
                obtain ⟨k1, p1, e1, h1⟩ := hwq
                rw [e1] at hwn
                cases hwn
            refine ⟨_, rfl, _, rfl, T5, _, _, _, rfl, rfl, SqT.of hT517, atI_nat (j := 1) rfl, q, np, r, nextS r kj.2 (c : Int), rfl, A17.same.tupB hq, ro, hnp17, hst, _, rfl, iteB (fun hg => ?_) (fun hg => ?_)⟩
            · refine ⟨_, rfl, _, rfl, mt, _, pkK key, .ref rp, rfl, A17.met.nd, pk_key hkey17, ms_val hnd17 (List.mem_append_right _ List.mem_cons_self), ?_⟩
              refine fin (.ref rp) ?_
              have hg' : goneP r key = true := by
                show goneS r key.2 = true
                rw [hk2]
                exact hg
              rw [if_pos ⟨hwr, hg'⟩]
              exact ⟨key, rp, rfl, List.mem_append_right _ List.mem_cons_self⟩
            · refine fin wvq ?_
              have hg' : ¬ (bq.wr = none ∧ goneP r key = true) := fun h => by
                have h2 : goneS r key.2 = true := h.2
                rw [hk2, hg] at h2
                cases h2
              rw [if_neg hg', hwr]
              exact hwn
          · refine fin wvq ?_
            have hwr : ¬ (bq.wr = none ∧ goneP r key = true) := fun h => by
              rw [h.1] at hwq
              exact hwn hwq
            rw [if_neg hwr]
            cases hw : bq.wr with
            | none =>
              rw [hw] at hwq
              exact hwq
            | some ρ' => exact wrold ρ' hw
        · have eE : edgeB (goneP r) kj bq ((c : Int), key) = bq := if_pos hin
          rw [eE] at eQ
          refine ⟨wvq, msq, ysq, _, _, _, rfl, ?_⟩
          rw [eQ]
          exact ⟨hmq, hwq, A12, hmp12, hM12, hx12, hk12⟩
      · rintro σ H10 ⟨wvq, msq, ysq, u9, u10, u11, rfl, hmq, hwq, Aq, hmpq, hMq, hxq, hkq⟩
        have hln : xM.length = (succP l r kj).length := by
          rw [hmlen]
          unfold succP
          rw [List.length_map]
        rw [hln, List.take_length] at hmq hwq Aq
        refine ⟨wvq, msq, ysq, _, _, _, _, _, rfl, ?_⟩
        rw [eJ]
        exact ⟨hmq, hwq, Aq⟩
    · rintro σ H8 ⟨wv8, ms8, ys8, v7, v8, v9, v10, v11, rfl, hm8, hw8, A8⟩
      have hln : zs.length = b.lv.length := by
        have h1 := DpAll.len hlvD
        rw [List.length_map] at h1
        exact h1
      rw [hln, List.take_length, ← hS] at hm8 hw8 A8
      exact ⟨_, rfl, A8.same, bh, wv8, ms8, ys8, _, _, _, _, _, _, _, rfl, fun x hx => (A8.new x hx).1, hm8, A8.met, hw8, A8.beh, A8.behD⟩
end
end Bw

set_option Elab.async false
set_option linter.all false
set_option maxRecDepth 100000
set_option maxHeartbeats 4000000
namespace Bw
open PySem PySem.Spec PyProof.Rows L2
section
variable {P : Program} {w : World} {K : PySem.W.Frag} {mg : Str → Option Value} {base : Heap} {f : Addr} {fd : FuncData}
theorem ok_may {aF : Addr} (F : FnP K "may" s_may f fd) (g_len : mg "len" = none) (g_FIRST : mg "FIRST" = some (.ref aF)) (hFI : ∀ H : Hp, Dp K H (.ref aF) (lsD LS.first))
    (h_need_line : Has P w K mg base 1 "need_line" ["line"] (spNeedLine K)) (h_need_heard : Has P w K mg base 1 "need_heard" ["heard"] (spNeedHeard K)) (h_moves : Has P w K mg base 2 "moves" p_moves (spMoves K)) : FnOk P w K mg base CX0 3 f fd p_may (spMay K) := by
  refine F.ok sc_may (fun vs H Q E h => ?_) (fun cdv A outer s H vs Q E hr h => ?_)
  · obtain ⟨lp, hp, l, hs, rfl, _⟩ := h
    rfl
  · obtain ⟨lp, hp, l, hs, rfl, hl, lo, hh, ho, k⟩ := h
    have he := lo.e1
    refine ⟨_, PSs.nox (pss_cons (ps_expr (pe_fn h_need_line hr rfl (pa_cons (pv 0) pa_nil)))
        (pss_cons (ps_expr (pe_fn h_need_heard hr rfl (pa_cons (pv 1) pa_nil)))
        (pss_cons (ps_set (i := 2) sc_may.nd rfl (Or.inl rfl) (pe_nd1 (hu20 hr) (pe_gR rfl g_FIRST) pe_bl))
        (pss_cons (ps_for PassesOwn.never rfl (pi_list (pv 1)) (pg_name (i := 3) sc_may.nd rfl (Or.inl rfl))
          (pss_cons (ps_set (i := 4) sc_may.nd rfl (Or.inl rfl) pe_nd0)
            (pss_cons (ps_for PassesOwn.never rfl (pi_nd (pv 2)) (pg_name (i := 5) sc_may.nd rfl (Or.inl rfl))
              (pss_one (ps_for PassesOwn.never rfl (pi_list (pe_fn h_moves hr rfl (pa_cons (pv 0) (pa_cons (pv 5) pa_nil)))) (pg_tup rfl (pgs_cons (pg_name (i := 6) sc_may.nd rfl (Or.inl rfl)) (pgs_cons (pg_name (i := 7) sc_may.nd rfl (Or.inl rfl)) pgs_nil)))
                (pss_one (ps_if (pt_cmpR op_eq (pv 6) (pv 3) (nomark _))
                  (pss_one (ps_asg pe_bl (pg_sub (pv 4) (pv 7) (set_nd (hu20 hr)))))
                  pss_nil)))))
            (pss_one (ps_set (i := 2) sc_may.nd rfl (Or.inl rfl) (pv 4))))))
        (pss_one (ps_ret (pe_cmpR op_gt (pe_callB call_lenND (by rfl) g_len (by decide +kernel) (pa_cons (pv 2) pa_nil)) pe_int (nomark _)))))))), ?_⟩
    refine ⟨_, rfl, lp, l, rfl, hl, lo, ?_⟩
    refine ⟨_, rfl, hp, hs, rfl, hh, ho, fun H1 s1 => ?_⟩
    refine fun lv o1 nlv hn => ⟨lsK LS.first, hn, ls_key (hFI _), fun o2 hn2 => ?_⟩
    rw [upd_upd] at hn2 ⊢
    have nlv0 : H lv = none := s1.free nlv
    have few : ∀ (w : List Int) (ss : List LS), ss.Nodup → (∀ x ∈ ss, ∃ w, PathL l LS.first w x) → ss.length ≤ 1500 := fun w ss hn h => ls_few lo hn fun x hx => by
      obtain ⟨w, hw⟩ := h x hx
      exact path_ok he (first_ok he) hw
    have nod : ∀ {H : Hp} {d : Addr} {ss : List LS}, Nd P w K H d (ss.map fun a => (lsK a, V.bl true)) → ss.Nodup := fun {H d ss} h => by
      obtain ⟨o, h⟩ := h
      have := h.nodup
      rw [List.map_map] at this
      exact List.Pairwise.of_map _ (fun a b h e => h (congrArg _ e)) this
    refine ⟨_, rfl, hp, rfl, ⟨_, ((s1.trans (Same.newB nlv)).seq hh)⟩, for_list (K := K) (a := hp) (xs := hs.map V.int) (fun i σ H' => Same H H' ∧ ∃ (lv : Addr) (ss : List LS) (v3 v4 v5 v6 v7 : Option V), σ = [some (.ref lp), some (.ref hp), some (.ref lv), v3, v4, v5, v6, v7] ∧ H lv = none ∧ Nd P w K H' lv (ss.map fun a => (lsK a, V.bl true)) ∧ ∀ x, x ∈ ss ↔ PathL l LS.first (hs.take i) x) ?_ (fun i σ H' _ h => h.1.seq hh) ?_ ?_⟩
    · refine ⟨s1.trans (Same.newB nlv), lv, [LS.first], none, none, none, none, none, rfl, nlv0, ⟨o2, hn2⟩, fun x => ?_⟩
      rw [List.mem_singleton]
      exact ⟨fun e => e ▸ rfl, fun e => Eq.symm e⟩
    · rintro i y σ H2 hi ⟨s2, lv, ss, v3, v4, v5, v6, v7, rfl, nlv, hnd, hss⟩
      obtain ⟨m, hm, rfl⟩ := int_at hi
      obtain ⟨oL, hndA⟩ := hnd
      have et : hs.take (i + 1) = hs.take i ++ [m] := by rw [List.take_succ, hm]; rfl
      refine fun bh ob nbh hbh => ?_
      have nbh0 : H bh = none := s2.free nbh
      have lb : lv ≠ bh := ne_of_none hndA.here nbh
      let mv : LS → List LS := fun s => (movesL l s).filterMap fun q => if (q.1 : Int) = m then some q.2 else none
      have mvm : ∀ s x, x ∈ mv s ↔ ∃ c, (c, x) ∈ movesL l s ∧ m = (c : Int) := fun s x => by
        show x ∈ (movesL l s).filterMap _ ↔ _
        rw [List.mem_filterMap]
        constructor
        · rintro ⟨⟨c, t⟩, hq, h⟩
          split at h
          · rename_i hc
            have h' : t = x := Option.some.inj h
            subst h'
            exact ⟨c, hq, Eq.symm hc⟩
          · cases h
        · rintro ⟨c, hq, hc⟩
          exact ⟨(c, x), hq, if_pos (Eq.symm hc)⟩
      have okS : ∀ x ∈ ss, LSok l x := fun x hx => path_ok he (first_ok he) ((hss x).mp hx)
      refine ⟨_, rfl, lv, oL, _, rfl, hndA.same (Same.newB nbh), ?_⟩
      refine for_it walk_nd (fun j σ H' => Same H H' ∧ NdAt P w K H' lv oL (ss.map fun a => (lsK a, V.bl true)) ∧ ∃ (sb : List LS) (v5 v6 v7 : Option V), σ = [some (.ref lp), some (.ref hp), some (.ref lv), some (.int m), some (.ref bh), v5, v6, v7] ∧ Nd P w K H' bh (sb.map fun a => (lsK a, V.bl true)) ∧ ∀ x, x ∈ sb ↔ x ∈ (ss.take j).flatMap mv) ?_ (fun j σ H' _ h => h.2.1) ?_ ?_
      · exact ⟨s2.moreB nbh, hndA.same (Same.newB nbh), [], _, _, _, rfl, ⟨_, hbh⟩, fun x => Iff.rfl⟩
      · rintro j y σ H3' H3 hj ⟨s3, hL3, sb, v5, v6, v7, rfl, hB3, hsb⟩ ⟨rfl, kk, vv, hkv, hky⟩
        rw [List.length_map] at hj
        rw [List.getElem?_map, List.getElem?_eq_getElem hj] at hkv
        have hkv' : (lsK ss[j], V.bl true) = (kk, vv) := Option.some.inj hkv
        injection hkv' with e1 e2
        subst e1
        have hjm : ss[j] ∈ ss := List.getElem_mem hj
        have okj := okS _ hjm
        have eTk : ss.take (j + 1) = ss.take j ++ [ss[j]] := by rw [List.take_succ, List.getElem?_eq_getElem hj]; rfl
        generalize ss[j] = sj at *
        have hyD : Dp K H3 y (lsD sj) := by
          have := hky.dp
          rw [lsK_data] at this
          exact this
        refine ⟨_, rfl, _, rfl, lp, y, l, sj, rfl, s3.tupB hl, lo, hyD, okj, fun mp H4 xM s4 nmp hmp hM => ?_⟩
        obtain ⟨oB3, hB3A⟩ := hB3
        have mb : mp ≠ bh := Ne.symm (ne_of_none hB3A.here nmp)
        have hml : xM.length = (movesL l sj).length := by
          have h1 := DpAll.len hM
          rw [List.length_map] at h1
          exact h1
        refine ⟨mp, rfl, ⟨_, SqL.of hmp⟩, for_list (K := K) (a := mp) (xs := xM) (fun q σ H' => Same H H' ∧ NdAt P w K H' lv oL (ss.map fun a => (lsK a, V.bl true)) ∧ H' mp = some (.lst xM) ∧ DpAll K H' xM ((movesL l sj).map mvD) ∧ ∃ (sb : List LS) (v6 v7 : Option V), σ = [some (.ref lp), some (.ref hp), some (.ref lv), some (.int m), some (.ref bh), some y, v6, v7] ∧ Nd P w K H' bh (sb.map fun a => (lsK a, V.bl true)) ∧ ∀ x, x ∈ sb ↔ x ∈ (ss.take j).flatMap mv ∨ x ∈ ((movesL l sj).take q).filterMap fun q => if (q.1 : Int) = m then some q.2 else none) ?_ (fun q σ H' _ h => SqL.of h.2.2.1) ?_ ?_⟩
        · refine ⟨s3.trans s4, hL3.same s4, hmp, hM, sb, _, _, rfl, ⟨_, hB3A.same s4⟩, fun x => ?_⟩
          rw [hsb x]
          exact ⟨.inl, fun h => h.elim id (fun h => nomatch h)⟩
        · rintro q y2 σ H5 hq ⟨s5, hL5, hmp5, hM5, sb5, v6, v7, rfl, hB5, hsb5⟩
          obtain ⟨d, hd, hy2⟩ := dpAll_get hM5 hq
          rw [List.getElem?_map] at hd
          obtain ⟨⟨c, t⟩, hct, rfl⟩ : ∃ r, (movesL l sj)[q]? = some r ∧ mvD r = d := by
            cases e : (movesL l sj)[q]? with
            | none => rw [e] at hd; cases hd
            | some r => rw [e] at hd; exact ⟨r, rfl, Option.some.inj hd⟩
          have eT2 : (movesL l sj).take (q + 1) = (movesL l sj).take q ++ [(c, t)] := by rw [List.take_succ, hct]; rfl
          obtain ⟨T, xT, rfl, hT, hT2⟩ := dp_tup hy2
          obtain ⟨x1, x2, rfl, g1, g2⟩ := dpAll_two hT2
          cases dp_int g1
          refine ⟨T, _, rfl, hT, rfl, _, _, rfl, _, _, rfl, rfl, ?_⟩
          refine ⟨_, rfl, _, rfl, rfl, _, rfl, iteD (fun hc => ?_) (fun hc => ?_)⟩
          · have hc' : (c : Int) = m := V.int.inj hc
            have hlen : (sb5.map fun a => (lsK a, V.bl true)).length ≤ 1500 := by
              rw [List.length_map]
              refine few (hs.take i) sb5 (nod hB5) fun x hx => ?_
              rcases (hsb5 x).mp hx with h | h
              · obtain ⟨s', hs', hx'⟩ := List.mem_flatMap.mp h
                obtain ⟨c', hc1, hc2⟩ := (mvm s' x).mp hx'
                exact ⟨hs.take i ++ [m], (path_snoc l m x _ _).mpr ⟨s', c', (hss s').mp (List.mem_of_mem_take hs'), hc1, hc2⟩⟩
              · have hx' : x ∈ mv sj := List.Sublist.subset (List.Sublist.filterMap _ (List.take_sublist _ _)) h
                obtain ⟨c', hc1, hc2⟩ := (mvm sj x).mp hx'
                exact ⟨hs.take i ++ [m], (path_snoc l m x _ _).mpr ⟨sj, c', (hss sj).mp hjm, hc1, hc2⟩⟩
            refine ⟨_, rfl, _, rfl, bh, _, lsK t, rfl, hB5, ls_key g2, Nat.lt_of_le_of_lt hlen (by decide), fun o' hn' => ?_⟩
            rw [putK_set lsK (fun a b => lsK_inj) (V.bl true) sb5 t] at hn'
            obtain ⟨oB5, hB5A⟩ := hB5
            have tk : TK H5 (upd H5 bh (PinO bh o')) := TK.upd hB5A.here (pin_notT _ _)
            refine ⟨s5.mutB nbh0, hL5.keep tk (by rw [upd_ne lb]; exact hL5.here), by rw [upd_ne mb]; exact hmp5, DpAll.keepT tk hM5 (map_noL mvD_noL _), _, _, _, rfl, ⟨_, hn'⟩, fun x => ?_⟩
            rw [addS_mem, hsb5 x, eT2, List.filterMap_append, List.mem_append, List.filterMap_cons, if_pos hc', List.filterMap_nil, List.mem_singleton, or_assoc]
          · have hc' : ¬ (c : Int) = m := fun e => hc (by rw [e])
            refine ⟨s5, hL5, hmp5, hM5, _, _, _, rfl, hB5, fun x => ?_⟩
            rw [hsb5 x, eT2, List.filterMap_append, List.mem_append, List.filterMap_cons, if_neg hc', List.filterMap_nil]
            exact ⟨fun h => h.elim .inl (fun h => .inr (.inl h)), fun h => h.elim .inl (fun h => h.elim .inr (fun h => nomatch h))⟩
        · rintro σ H5 ⟨s5, hL5, hmp5, hM5, sb5, v6, v7, rfl, hB5, hsb5⟩
          refine ⟨s5, hL5, sb5, _, _, _, rfl, hB5, fun x => ?_⟩
          rw [hsb5 x, hml, List.take_length, eTk, List.flatMap_append, List.mem_append, List.flatMap_cons, List.flatMap_nil, List.append_nil]
      · rintro σ H3 ⟨s3, hL3, sb, v5, v6, v7, rfl, hB3, hsb⟩
        refine ⟨_, rfl, s3, bh, sb, _, _, _, _, _, rfl, nbh0, hB3, fun x => ?_⟩
        rw [List.length_map, List.take_length] at hsb
        rw [hsb x, List.mem_flatMap, et, path_snoc]
        constructor
        · rintro ⟨s', hs', hx⟩
          obtain ⟨c, h1, h2⟩ := (mvm s' x).mp hx
          exact ⟨s', c, (hss s').mp hs', h1, h2⟩
        · rintro ⟨s', c, h1, h2, h3⟩
          exact ⟨s', (hss s').mpr h1, (mvm s' x).mpr ⟨c, h2, h3⟩⟩
    · rintro σ H2 ⟨s2, lv, ss, v3, v4, v5, v6, v7, rfl, nlv, hnd, hss⟩
      rw [List.length_map, List.take_length] at hss
      refine ⟨_, rfl, lv, _, rfl, hnd, _, _, rfl, rfl, ?_⟩
      refine k _ H2 s2 ?_
      rw [← path_may he, decide_eq_true_eq, List.length_map]
      constructor
      · intro h
        cases ss with
        | nil => exact absurd h (by simp)
        | cons x ss => exact ⟨x, (hss x).mp List.mem_cons_self⟩
      · rintro ⟨t, ht⟩
        have := (hss t).mpr ht
        cases ss with
        | nil => cases this
        | cons x ss => simp
end
end Bw

set_option Elab.async false
set_option linter.all false
set_option maxRecDepth 100000
set_option maxHeartbeats 4000000
namespace Bw
open PySem PySem.Spec PyProof.Rows L2
section
variable {P : Program} {w : World} {K : PySem.W.Frag} {mg : Str → Option Value} {base : Heap} {f : Addr} {fd : FuncData}
theorem ok_Late___init__ {C : Addr} (F : FnQ K "__init__" "Late.__init__" s_Late___init__ f fd) (T : LTxt K C) : FnOk P w K mg base CX0 1 f fd p_Late___init__ (spLInit P w K C) := by
  refine F.ok sc_Late___init__ (fun vs H Q E h => ?_) (fun cdv A outer s H vs Q E hr h => ?_)
  · obtain ⟨x, lp, q, dx, rfl, _⟩ := h
    rfl
  · obtain ⟨x, lp, q, dx, rfl, hx, k⟩ := h
    refine ⟨_, PSs.nox (pss_cons (ps_fld (pv 0) (pv 1) rfl)
        (pss_cons (ps_fld (pv 0) (pv 2) rfl)
        (pss_one (ps_fld (pv 0) pe_nd0 rfl)))), ?_⟩
    refine ⟨_, rfl, _, rfl, x, C, dx, _, rfl, hx, T.cl, T.nL, by decide, ?_⟩
    refine ⟨_, rfl, _, rfl, x, C, dx, _, rfl, upd_same, T.cl, T.nR, (by show 1 < 1000; decide), ?_⟩
    rw [upd_upd]
    refine fun kd o nkd hn => ⟨_, rfl, x, C, dx, _, rfl, (Same.newB nkd) _ _ upd_same, T.cl, T.nK, ?_, ?_⟩
    · have e : putF "rule" (V.ref q) (putF "line" (.ref lp) []) = ([(("line" : Str), V.ref lp), (("rule" : Str), V.ref q)] : List (Str × V)) := by
        show (if ("line" : Str) = "rule" then _ else (("line" : Str), V.ref lp) :: putF "rule" (.ref q) []) = _
        rw [if_neg slr]
        rfl
      rw [e]
      show 2 < 1000
      decide
    · have nkx : kd ≠ x := Ne.symm (ne_of_none (upd_same (H := H) (a := x)) nkd)
      have nkd0 : H kd = none := by
        rw [upd_ne nkx] at nkd
        exact nkd
      refine k _ kd (by rw [upd_same, lF_new]) ⟨o, hn.keep (TK.upd ((Same.newB nkd) _ _ upd_same) True.intro) (by rw [upd_ne nkx]; exact hn.here)⟩ nkd0 fun b u nb hb => ?_
      rw [upd_ne nb, upd_ne (ne_of_none hb nkd0), upd_ne nb]
      exact hb
theorem ok_Late_longest {C : Addr} (F : FnQ K "longest" "Late.longest" s_Late_longest f fd) (bF : Binds K fd p_Late_longest []) (T : LTxt K C) (hme : Meth K C "longest" f)
    (h_heard_of : Has P w K mg base 1 "heard_of" p_heard_of (spHeardOf K)) (h_next_state : Has P w K mg base 1 "next_state" p_next_state (spNext K)) (h_is_gone : Has P w K mg base 1 "is_gone" p_is_gone (spGone K)) (n : Nat) :
    FnOk P w K mg base CX0 (n + 1) f fd p_Late_longest (spLongN P w K C n) := by
  induction n with
  | zero => exact fnOk_false
  | succ n ih =>
  have h_Late_longest : HasM P w K mg base (n + 1) C "longest" p_Late_longest (spLongN P w K C n) := ⟨f, fd, T.cl, hme, bF, ih⟩
  refine F.ok sc_Late_longest (fun vs H Q E h => ?_) (fun cdv A outer s H vs Q E hr h => ?_)
  · obtain ⟨x, ab, kb, dx, lp, q, kd, l, r, ages, kept, rfl, _⟩ := h
    rfl
  · obtain ⟨x, ab, kb, dx, lp, q, kd, l, r, ages, kept, rfl, hx, hl, lo, hq, ro, hKn, hab, okA, hkb, okK, hF, k⟩ := h
    have l3 := lo.l3
    have hal := okA.len
    refine ⟨_, PSs.nox (pss_cons (ps_set (i := 3) sc_Late_longest.nd rfl (Or.inl rfl) (pe_tup (pa_cons (pv 1) (pa_cons (pv 2) pa_nil))))
        (Evl.pss_cut (ps_if (pt_cmpR (op_notin_nd (hu20 hr)) (pv 3) (pe_fld (pv 0) rfl) rfl)
          (pss_cons (ps_set (i := 4) sc_Late_longest.nd rfl (Or.inl rfl) pe_non)
            (pss_cons (ps_for PassesOwn.never rfl (pi_list (pe_fn h_heard_of hr rfl (pa_cons (pe_fld (pv 0) rfl) (pa_cons (pv 1) pa_nil)) (Nat.le_add_left _ _))) (pg_tup rfl (pgs_cons (pg_name (i := 5) sc_Late_longest.nd rfl (Or.inl rfl)) (pgs_cons (pg_name (i := 6) sc_Late_longest.nd rfl (Or.inl rfl)) pgs_nil)))
              (pss_cons (ps_set (i := 7) sc_Late_longest.nd rfl (Or.inl rfl) (pe_fn h_next_state hr rfl (pa_cons (pe_fld (pv 0) rfl) (pa_cons (pv 2) (pa_cons (pv 5) pa_nil))) (Nat.le_add_left _ _)))
                (pss_cons (ps_set (i := 8) sc_Late_longest.nd rfl (Or.inl rfl) (pe_tup (pa_cons pe_int (pa_cons (pe_lst (pa_cons (pv 5) pa_nil)) pa_nil))))
                (Evl.pss_cut (ps_if (pt_not (pt_val (pe_fn h_is_gone hr rfl (pa_cons (pe_fld (pv 0) rfl) (pa_cons (pv 7) pa_nil)) (Nat.le_add_left _ _))))
                  (pss_cons (ps_set (i := 9) sc_Late_longest.nd rfl (Or.inl rfl) (pe_mth h_Late_longest (pv 0) hr (pa_cons (pv 6) (pa_cons (pv 7) pa_nil)) (Nat.le_refl _)))
                    (pss_one (ps_set (i := 8) sc_Late_longest.nd rfl (Or.inl rfl) (pe_tup (pa_cons (pe_op op_add (pe_ix ix_tup (pv 9) pe_int (fun _ _ => rfl)) pe_int) (pa_cons (pe_op op_cat (pe_lst (pa_cons (pv 5) pa_nil)) (pe_ix ix_tup (pv 9) pe_int (fun _ _ => rfl))) pa_nil))))))
                  pss_nil)
                (pss_one (ps_if (PW.pt (pw_or (pt_cmpR op_isN (pv 4) pe_non (nomark _)) (pw_or1 (pt_cmpR op_gt (pe_ix ix_tup (pv 8) pe_int (fun _ _ => rfl)) (pe_ix ix_tup (pv 4) pe_int (fun _ _ => rfl)) (nomark _)))))
                  (pss_one (ps_set (i := 4) sc_Late_longest.nd rfl (Or.inl rfl) (pv 8)))
                  pss_nil))))))
            (pss_one (ps_asg (pv 4) (pg_sub (pe_fld (pv 0) rfl) (pv 3) (set_nd (hu20 hr)))))))
          pss_nil)
        (pss_one (ps_ret (pe_ix (ix_nd (hu20 hr)) (pe_fld (pv 0) rfl) (pv 3) (fun _ _ => rfl)))))), ?_⟩
    refine ⟨_, rfl, _, rfl, szle (Nat.le_of_ble_eq_true rfl), fun Tk nTk => ?_⟩
    have sk : Same H (upd H Tk (.tup [.ref ab, .ref kb])) := Same.newB nTk
    have hTk : (upd H Tk (.tup [.ref ab, .ref kb])) Tk = some (.tup [.ref ab, .ref kb]) := upd_same
    have hx1 := sk _ _ hx
    have hl1 := sk.tupB hl
    have hq1 := sk.tupB hq
    have hK1 := hKn.same sk
    have hab1 := sk.tupB hab
    have hkb1 := sk.tupB hkb
    have kb0 : KB kd H (upd H Tk (.tup [.ref ab, .ref kb])) := KB.same sk
    revert hTk hx1 hl1 hq1 hK1 hab1 hkb1 kb0
    generalize upd H Tk (.tup [.ref ab, .ref kb]) = H1
    intro hTk hx1 hl1 hq1 hK1 hab1 hkb1 kb0
    obtain ⟨es, hKA⟩ := hK1
    -- behind the if: what is known holds the key
    refine ⟨fun σ' H' => KB kd H H' ∧ H' x = some (.ins C dx (lF lp q kd)) ∧ H' Tk = some (.tup [.ref ab, .ref kb]) ∧ SqT K H' ab ((nI ages).map V.int) ∧ SqT K H' kb (kept.map V.int) ∧ (∃ v4 v5 v6 v7 v8 v9, σ' = [some (.ref x), some (.ref ab), some (.ref kb), some (.ref Tk), v4, v5, v6, v7, v8, v9]) ∧ ∃ es, KnAt P w K l r H' kd es ∧ (ages, kept) ∈ es.map (·.1), ?_, ?_⟩
    · refine ⟨_, rfl, _, rfl, x, C, dx, _, _, rfl, hx1, T.cl, T.nK, lF_known _ _ _, kd, _, lkK (ages, kept), rfl, hKA.nd, lk_key (k := (ages, kept)) (SqT.of hTk) hab1 hkb1, _, rfl, ?_⟩
      rw [es_some, Bool.true_xor]
      refine iteN (fun hin => ?_) (fun hin => ?_)
      · -- not known yet
        refine ⟨_, rfl, x, C, dx, _, _, rfl, hx1, T.cl, T.nL, lF_line _ _ _, _, rfl, lp, ab, l, ages, rfl, hl1, lo, hab1, by omega, fun hp H2 xH s2 nhp hhp hH => ?_⟩
        obtain ⟨oK, hKo⟩ := hKA.nd
        have hhk : hp ≠ kd := Ne.symm (ne_of_none hKo.here nhp)
        have Tkk : Tk ≠ kd := ne_of hTk hKo.here (by intro z; cases z)
        have xk : x ≠ kd := ne_of hx1 hKo.here (by intro z; cases z)
        have hhl : xH.length = (heardL l ages).length := by
          have h1 := DpAll.len hH
          rw [List.length_map] at h1
          exact h1
        refine ⟨hp, rfl, ⟨_, SqL.of hhp⟩, for_list (K := K) (a := hp) (xs := xH) (fun i σ H' => KB kd H2 H' ∧ TK H2 H' ∧ Kn P w K l r H' kd ∧ ∃ (fv : V) (v5 v6 v7 v8 v9 : Option V), σ = [some (.ref x), some (.ref ab), some (.ref kb), some (.ref Tk), some fv, v5, v6, v7, v8, v9] ∧ FvAt (H') (fv) (((heardL l ages).take i).foldl (fun a q => better a (rowL (LNG l r) r kept q)) none)) ?_ (fun i σ H' _ h => SqL.of (h.1 _ _ hhk hhp)) ?_ ?_⟩
        · exact ⟨KB.refl kd H2, TK.refl H2, ⟨es, hKA.same s2⟩, .non, _, _, _, _, _, rfl, rfl⟩
        · rintro i y σ H3 hi ⟨kb3, tk3, hKn3, fv, v5, v6, v7, v8, v9, rfl, hfv⟩
          have hH3 := DpAll.keepT tk3 hH (map_noL hdD_noL _)
          obtain ⟨d, hd, hy⟩ := dpAll_get hH3 hi
          rw [List.getElem?_map] at hd
          obtain ⟨⟨m, left⟩, hml, rfl⟩ : ∃ z, (heardL l ages)[i]? = some z ∧ hdD z = d := by
            cases e : (heardL l ages)[i]? with
            | none => rw [e] at hd; cases hd
            | some z => rw [e] at hd; exact ⟨z, rfl, Option.some.inj hd⟩
          have hmem := List.mem_of_getElem? hml
          obtain ⟨okL, hmle⟩ := okA.next hmem
          have okK' := okK.next ro (m := (m : Int)) (by omega) (by omega)
          have eT : (heardL l ages).take (i + 1) = (heardL l ages).take i ++ [(m, left)] := by rw [List.take_succ, hml]; rfl
          have eFo : ((heardL l ages).take (i + 1)).foldl (fun a q => better a (rowL (LNG l r) r kept q)) none = better (((heardL l ages).take i).foldl (fun a q => better a (rowL (LNG l r) r kept q)) none) (rowL (LNG l r) r kept (m, left)) := by rw [eT, List.foldl_append]; rfl
          revert hfv eFo
          generalize ((heardL l ages).take i).foldl (fun a q => better a (rowL (LNG l r) r kept q)) none = acc
          intro hfv eFo
          obtain ⟨Tm, xT, rfl, hTm, hT2⟩ := dp_tup hy
          obtain ⟨z1, z2, rfl, g1, g2⟩ := dpAll_two hT2
          obtain ⟨lf, rfl, hlf⟩ := dp_intsD g2
          cases dp_int g1
          have hx3 : H3 x = some (.ins C dx (lF lp q kd)) := kb3 _ _ xk (s2 _ _ hx1)
          have hl3' := tk3.sqT (s2.tupB hl1)
          have hq3 := tk3.sqT (s2.tupB hq1)
          have hkb3 := tk3.sqT (s2.tupB hkb1)
          refine ⟨Tm, _, rfl, hTm, rfl, _, _, rfl, _, _, rfl, rfl, ?_⟩
          refine ⟨_, rfl, x, C, dx, _, _, rfl, hx3, T.cl, T.nR, lF_rule _ _ _, _, rfl, _, rfl, q, kb, (m : Int), r, kept, rfl, hq3, ro, hkb3, okK.st, fun ot H4 s4 hot => ?_⟩
          refine ⟨_, rfl, szle (Nat.le_of_ble_eq_true rfl), fun l1 nl1 => ⟨szle (Nat.le_of_ble_eq_true rfl), fun t1 nt1 => ?_⟩⟩
          have s5 := (Same.newB (o := .lst [.int (m : Int)]) nl1).moreB (o := .tup [.int 0, .ref l1]) nt1
          have s35 := s4.trans s5
          have hrow0 : LvAt (upd (upd H4 l1 (.lst [.int (m : Int)])) t1 (.tup [.int 0, .ref l1])) t1 (0, [(m : Int)]) := ⟨l1, upd_same, (Same.newB nt1) _ _ upd_same⟩
          have hx5 := s35 _ _ hx3
          have hl5 := s35.tupB hl3'
          have hq5 := s35.tupB hq3
          have hkb5 := s35.tupB hkb3
          have hlf5 := s35.tupB hlf
          have hot5 := s5.tupB hot
          have hK5 := hKn3.same s35
          have kb5 : KB kd H2 (upd (upd H4 l1 (.lst [.int (m : Int)])) t1 (.tup [.int 0, .ref l1])) := kb3.trans (KB.same s35)
          have tk5 : TK H2 (upd (upd H4 l1 (.lst [.int (m : Int)])) t1 (.tup [.int 0, .ref l1])) := tk3.trans (TK.same s35)
          have hfv5 : FvAt ((upd (upd H4 l1 (.lst [.int (m : Int)])) t1 (.tup [.int 0, .ref l1]))) (fv) (acc) := by
            cases acc with
            | none => exact hfv
            | some y =>
              obtain ⟨t, e1, e2⟩ := hfv
              exact ⟨t, e1, e2.same s35⟩
          revert hrow0 hx5 hl5 hq5 hkb5 hlf5 hot5 hK5 kb5 tk5 hfv5
          generalize upd (upd H4 l1 (.lst [.int (m : Int)])) t1 (.tup [.int 0, .ref l1]) = H5
          intro hrow0 hx5 hl5 hq5 hkb5 hlf5 hot5 hK5 kb5 tk5 hfv5
          refine ⟨fun σ' H' => KB kd H2 H' ∧ TK H2 H' ∧ Kn P w K l r H' kd ∧ (∃ t v9, σ' = [some (.ref x), some (.ref ab), some (.ref kb), some (.ref Tk), some fv, some (.int (m : Int)), some (.ref lf), some (.ref ot), some (.ref t), v9] ∧ LvAt H' t (rowL (LNG l r) r kept (m, left))) ∧ FvAt (H') (fv) (acc), ?_, ?_⟩
          · refine ⟨_, rfl, x, C, dx, _, _, rfl, hx5, T.cl, T.nR, lF_rule _ _ _, _, rfl, q, ot, r, nextS r kept (m : Int), rfl, hq5, ro, hot5, stOk_next _ _ _, _, rfl, ?_⟩
            cases hg : goneS r (nextS r kept (m : Int)) with
            | true =>
              refine iteF ⟨kb5, tk5, hK5, ⟨t1, _, rfl, ?_⟩, hfv5⟩
              unfold rowL
              rw [if_pos hg]
              exact hrow0
            | false =>
              have hFc : Fin l r n left (nextS r kept (m : Int)) := (hF m left hmem).resolve_left (by rw [hg]; decide)
              have eR : rowL (LNG l r) r kept (m, left) = ((LNG l r left (nextS r kept (m : Int))).1 + 1, (m : Int) :: (LNG l r left (nextS r kept (m : Int))).2) := if_neg (by rw [hg]; decide)
              have hLle := LNG_le lo ro okL okK'
              have hLlen := (LNG_ok lo ro okL okK').len
              cases n with
              | zero => exact hFc.elim
              | succ n =>
              refine iteT ⟨_, rfl, x, dx, _, rfl, hx5, lF_no _ _ _ (by decide +kernel) (by decide +kernel) (by decide +kernel), _, rfl, _, rfl, x, lf, ot, dx, lp, q, kd, l, r, left, nextS r kept (m : Int), rfl, hx5, hl5, lo, hq5, ro, hK5, hlf5, okL, hot5, okK', hFc, fun rt H6 kb6 hK6 hrt => ?_⟩
              obtain ⟨es5, hK5A⟩ := hK5
              obtain ⟨oK5, hK5o⟩ := hK5A.nd
              have tk6 : TK H5 H6 := kb6.tk hK5o.here (pin_notT _ _)
              obtain ⟨rp, hr1, hr2⟩ := hrt
              refine ⟨_, rfl, rt, _, _, _, rfl, rfl, SqT.of hr1, atI_nat (j := 0) rfl, _, _, rfl, rfl, _, rfl, szle (Nat.le_of_ble_eq_true rfl), fun l2 nl2 => ?_⟩
              have s7 : Same H6 (upd H6 l2 (.lst [.int (m : Int)])) := Same.newB nl2
              refine ⟨_, rfl, rt, _, _, _, rfl, rfl, SqT.of (s7 _ _ hr1), atI_nat (j := 1) rfl, l2, rp, [V.int (m : Int)], _, rfl, rfl, upd_same, s7 _ _ hr2, szle (by rw [List.length_map]; show 1 + _ ≤ _; omega), fun l3' nl3 => ⟨szle (Nat.le_of_ble_eq_true rfl), fun t2 nt2 => ?_⟩⟩
              have s8 := (s7.moreB (o := .lst ([.int (m : Int)] ++ (LNG l r left (nextS r kept (m : Int))).2.map V.int)) nl3).moreB (o := .tup [.int (((LNG l r left (nextS r kept (m : Int))).1 : Int) + 1), .ref l3']) nt2
              refine ⟨kb5.trans (kb6.trans (KB.same s8)), tk5.trans (tk6.trans (TK.same s8)), hK6.same s8, ⟨t2, _, rfl, ?_⟩, ?_⟩
              · rw [eR]
                refine ⟨l3', ?_, (Same.newB nt2) _ _ upd_same⟩
                rw [upd_same]
                rfl
              · cases acc with
                | none => exact hfv5
                | some y =>
                  obtain ⟨t, e1, e2⟩ := hfv5
                  exact ⟨t, e1, (e2.kb kb6 hK5o.here).same s8⟩
          · rintro σ' H6 ⟨kb6, tk6, hK6, ⟨t, u9, rfl, hrow⟩, hfv6⟩
            refine ⟨_, rfl, rfl, _, rfl, ?_⟩
            cases acc with
            | none =>
              have hfn : fv = .non := hfv6
              subst hfn
              refine iteT ⟨_, rfl, kb6, tk6, hK6, .ref t, _, _, _, _, _, rfl, ?_⟩
              rw [eFo]
              exact ⟨t, rfl, hrow⟩
            | some y =>
              obtain ⟨t0, hfe, hLv⟩ := hfv6
              subst hfe
              obtain ⟨rp, hr1, hr2⟩ := hrow
              obtain ⟨fp0, hf1, hf2⟩ := hLv
              refine iteF ⟨_, rfl, t, _, _, _, rfl, rfl, SqT.of hr1, atI_nat (j := 0) rfl, _, rfl, t0, _, _, _, rfl, rfl, SqT.of hf1, atI_nat (j := 0) rfl, _, _, rfl, rfl, _, rfl, iteD (fun hgt => ?_) (fun hgt => ?_)⟩
              · have hgt' : (rowL (LNG l r) r kept (m, left)).1 > y.1 := by omega
                refine ⟨_, rfl, kb6, tk6, hK6, .ref t, _, _, _, _, _, rfl, ?_⟩
                rw [eFo]
                show FvAt (H6) (V.ref t) ((if (rowL (LNG l r) r kept (m, left)).1 > y.1 then some (rowL (LNG l r) r kept (m, left)) else some y))
                rw [if_pos hgt']
                exact ⟨t, rfl, rp, hr1, hr2⟩
              · have hgt' : ¬ (rowL (LNG l r) r kept (m, left)).1 > y.1 := by omega
                refine ⟨kb6, tk6, hK6, .ref t0, _, _, _, _, _, rfl, ?_⟩
                rw [eFo]
                show FvAt (H6) (V.ref t0) ((if (rowL (LNG l r) r kept (m, left)).1 > y.1 then some (rowL (LNG l r) r kept (m, left)) else some y))
                rw [if_neg hgt']
                exact ⟨t0, rfl, fp0, hf1, hf2⟩
        · rintro σ H3 ⟨kb3, tk3, hKn3, fv, v5, v6, v7, v8, v9, rfl, hfv⟩
          rw [hhl, List.take_length, LNG_step lo ro okA okK] at hfv
          obtain ⟨t, rfl, hLv⟩ := hfv
          obtain ⟨es3, hK3⟩ := hKn3
          obtain ⟨oK3, hK3o⟩ := hK3.nd
          have hx3 : H3 x = some (.ins C dx (lF lp q kd)) := kb3 _ _ xk (s2 _ _ hx1)
          have hTk3 := kb3 _ _ Tkk (s2 _ _ hTk)
          have hab3 := tk3.sqT (s2.tupB hab1)
          have hkb3 := tk3.sqT (s2.tupB hkb1)
          refine ⟨_, rfl, _, rfl, x, C, dx, _, _, rfl, hx3, T.cl, T.nK, lF_known _ _ _, _, rfl, kd, _, lkK (ages, kept), rfl, hK3.nd, lk_key (k := (ages, kept)) (SqT.of hTk3) hab3 hkb3, ?_, fun o' hn' => ?_⟩
          · have := lk_few lo ro hK3.nodup (fun z hz => by
              obtain ⟨e, he, rfl⟩ := List.mem_map.mp hz
              exact hK3.ok e he)
            rw [List.length_map] at this
            unfold esK
            rw [List.length_map]
            exact Nat.lt_of_le_of_lt this (by decide)
          · rw [putE_K] at hn'
            have kb4 : KB kd H3 (upd H3 kd (PinO kd o')) := (KB.refl kd H3).upd
            have tk4 : TK H3 (upd H3 kd (PinO kd o')) := TK.upd hK3o.here (pin_notT _ _)
            refine ⟨((kb0.trans (KB.same s2)).trans kb3).trans kb4, kb4 _ _ xk hx3, kb4 _ _ Tkk hTk3, tk4.sqT hab3, tk4.sqT hkb3, ⟨_, _, _, _, _, _, rfl⟩, putE es3 (ages, kept) t, ⟨⟨o', hn'⟩, fun e he => ?_, fun e he => ?_⟩, putE_in _ _ _⟩
            · rcases putE_mem _ _ _ e he with rfl | he
              · exact hLv.kb kb4 hK3o.here
              · exact (hK3.val e he).kb kb4 hK3o.here
            · rcases putE_mem _ _ _ e he with rfl | he
              · exact ⟨okA, okK⟩
              · exact hK3.ok e he
      · exact ⟨kb0, hx1, hTk, hab1, hkb1, ⟨_, _, _, _, _, _, rfl⟩, es, hKA, hin⟩
    · rintro σ' H2 ⟨kb2, hx2, hTk2, hab2, hkb2, ⟨v4, v5, v6, v7, v8, v9, rfl⟩, es2, hK2, hin⟩
      obtain ⟨⟨kk, t⟩, he, hke⟩ := List.mem_map.mp hin
      have hke' : kk = (ages, kept) := hke
      subst hke'
      refine ⟨_, rfl, x, C, dx, _, _, rfl, hx2, T.cl, T.nK, lF_known _ _ _, _, rfl, kd, _, lkK (ages, kept), .ref t, rfl, hK2.nd, lk_key (k := (ages, kept)) (SqT.of hTk2) hab2 hkb2, es_val hK2.nodup he, ?_⟩
      exact k t H2 kb2 ⟨es2, hK2⟩ (hK2.val _ he)
end
end Bw

set_option Elab.async false
set_option linter.all false
set_option maxRecDepth 100000
set_option maxHeartbeats 4000000
namespace Bw
open PySem PySem.Spec PyProof.Rows L2
section
variable {P : Program} {w : World} {K : PySem.W.Frag} {mg : Str → Option Value} {base : Heap} {f : Addr} {fd : FuncData}
theorem ok_latest {C : Addr} (F : FnP K "latest" s_latest f fd) (g_len : mg "len" = none) (h_need_line : Has P w K mg base 1 "need_line" ["line"] (spNeedLine K)) (h_need_rule : Has P w K mg base 2 "need_rule" ["rule"] (spNeedRule K))
    (h_Late : HasC P w K mg base 1 "Late" C p_Late___init__ (spLInit P w K C)) (h_Late_longest : HasM P w K mg base 17 C "longest" p_Late_longest (spLongN P w K C 16)) (h_all_standing : Has P w K mg base 3 "all_standing" p_all_standing (spAll P w K)) : FnOk P w K mg base CX0 18 f fd p_latest (spLatest K) := by
  refine F.ok sc_latest (fun vs H Q E h => ?_) (fun cdv A outer s H vs Q E hr h => ?_)
  · obtain ⟨lp, q, l, r, rfl, _⟩ := h
    rfl
  · obtain ⟨lp, q, l, r, rfl, hl, lo, hq, ro, k⟩ := h
    refine ⟨_, PSs.nox (pss_cons (ps_expr (pe_fn h_need_line hr rfl (pa_cons (pv 0) pa_nil)))
        (pss_cons (ps_expr (pe_fn h_need_rule hr rfl (pa_cons (pv 1) pa_nil)))
        (pss_cons (ps_set (i := 2) sc_latest.nd rfl (Or.inl rfl) (pe_new h_Late hr rfl (pa_cons (pv 0) (pa_cons (pv 1) pa_nil))))
        (pss_cons (ps_set (i := 3) sc_latest.nd rfl (Or.inl rfl) pe_non)
        (pss_cons (ps_set (i := 4) sc_latest.nd rfl (Or.inl rfl) (pe_ix ix_tup (pe_fn h_all_standing hr rfl (pa_cons (pv 0) (pa_cons (pv 1) pa_nil))) pe_int (fun _ _ => rfl)))
        (pss_cons (ps_for PassesOwn.never rfl (pi_nd (pv 4)) (pg_tup rfl (pgs_cons (pg_name (i := 5) sc_latest.nd rfl (Or.inl rfl)) (pgs_cons (pg_name (i := 6) sc_latest.nd rfl (Or.inl rfl)) pgs_nil)))
          (pss_cons (ps_asg (pe_mth h_Late_longest (pv 2) hr (pa_cons (pe_ix ix_tup (pv 5) pe_int (fun _ _ => rfl)) (pa_cons (pv 6) pa_nil))) (pg_tup rfl (pgs_cons (pg_name (i := 7) sc_latest.nd rfl (Or.inl rfl)) (pgs_cons (pg_name (i := 8) sc_latest.nd rfl (Or.inl rfl)) pgs_nil))))
            (pss_one (ps_if (pt_cut (PW.pt (pw_or (pt_cmpR op_isN (pv 3) pe_non (nomark _)) (pw_or1 (pt_cmpR op_gt (pv 7) (pe_ix ix_tup (pv 3) pe_int (fun _ _ => rfl)) (nomark _))))))
              (pss_cons (ps_set (i := 9) sc_latest.nd rfl (Or.inl rfl) (pe_ix (ix_nd (hu20 hr)) (pv 4) (pe_tup (pa_cons (pv 5) (pa_cons (pv 6) pa_nil))) (fun _ _ => rfl)))
                (pss_one (ps_set (i := 3) sc_latest.nd rfl (Or.inl rfl) (pe_tup (pa_cons (pv 7) (pa_cons (pe_callB call_len_seq (by rfl) g_len (by decide +kernel) (pa_cons (pv 9) pa_nil)) (pa_cons (pe_op op_cat (pv 9) (pv 8)) pa_nil)))))))
              pss_nil))))
        (pss_one (ps_ret (pv 3))))))))), ?_⟩
    refine ⟨_, rfl, lp, l, rfl, hl, lo, _, rfl, q, r, rfl, hq, ro, ?_⟩
    refine ⟨_, rfl, _, rfl, fun x dx nx ndx ne => ?_⟩
    have keep0 : Same H (upd (upd H dx (.own x)) x (.ins C dx [])) := (Same.newB ndx).moreB (by rw [upd_ne (Ne.symm ne)]; exact nx)
    refine ⟨x, lp, q, dx, rfl, upd_same, fun H2 kd hx hkd nkd kp => ⟨rfl, ?_⟩⟩
    have s2 : Same H H2 := fun b o hb => kp b o (ne_of_none hb nx) (keep0 b o hb)
    have nkd0 : H kd = none := keep0.free nkd
    refine ⟨_, rfl, _, rfl, lp, q, l, r, rfl, s2.tupB hl, lo, s2.tupB hq, ro, fun p H3 mt wv ms b s3 hE hm hM hW hp nmt hnew => ?_⟩
    refine ⟨p, _, _, _, rfl, rfl, SqT.of hp, atI_nat (j := 0) rfl, ?_⟩
    have R := BEnd.res (firstP_gone r ro) hE
    have s03 := s2.trans s3
    have hkd3 := hkd.same s3
    have hKn3 : Kn P w K l r H3 kd := ⟨[], hkd3, fun e he => (nomatch he), fun e he => (nomatch he)⟩
    obtain ⟨oK, hKo⟩ := hkd3
    have hx3 := s3 _ _ hx
    obtain ⟨oM, hMA⟩ := hM.nd
    have mtk : mt ≠ kd := by
      obtain ⟨o', h'⟩ := hkd
      exact Ne.symm (ne_of_none h'.here nmt)
    have xk : x ≠ kd := ne_of hx3 hKo.here (by intro z; cases z)
    have hlen : ms.length = b.met.length := by rw [← hm]; unfold msM; rw [List.length_map]
    have ndup : ((msM ms).map (·.1)).Nodup := by rw [hm]; exact R.nd
    refine ⟨_, rfl, mt, oM, _, rfl, hMA, ?_⟩
    refine for_it walk_nd (fun j σ H' => KB kd H3 H' ∧ Kn P w K l r H' kd ∧ ∃ (bv : V) (v5 v6 v7 v8 v9 : Option V), σ = [some (.ref lp), some (.ref q), some (.ref x), some bv, some (.ref mt), v5, v6, v7, v8, v9] ∧ BvAt H H' bv ((b.met.take j).foldl (bst l r) none)) ?_ (fun j σ H' _ h => hMA.keep (h.1.tk hKo.here (pin_notT _ _)) (h.1 _ _ mtk hMA.here)) ?_ ?_
    · exact ⟨KB.refl kd H3, hKn3, .non, _, _, _, _, _, rfl, rfl⟩
    · rintro j y σ H4' H4 hj ⟨kb4, hKn4, bv, v5, v6, v7, v8, v9, rfl, hbv⟩ ⟨rfl, kk, vv, hkv, hky⟩
      have tk4 : TK H3 H4 := kb4.tk hKo.here (pin_notT _ _)
      have hMA4 := hMA.keep tk4 (kb4 _ _ mtk hMA.here)
      unfold msK at hj hkv
      rw [List.length_map] at hj
      rw [List.getElem?_map, List.getElem?_eq_getElem hj] at hkv
      have hmj : ms[j] ∈ ms := List.getElem_mem hj
      have hbj : b.met[j]? = some (ms[j].1, ms[j].2.2) := by
        rw [← hm]
        unfold msM
        rw [List.getElem?_map, List.getElem?_eq_getElem hj]
        rfl
      revert hkv hmj hbj
      generalize ms[j] = mj
      obtain ⟨key, ra, ρ⟩ := mj
      intro hkv hmj hbj
      have hkv' : (pkK key, V.ref ra) = (kk, vv) := Option.some.inj hkv
      injection hkv' with e1 e2
      subst e1
      have hbm : (key, ρ) ∈ b.met := List.mem_of_getElem? hbj
      have hpk := R.row key ρ hbm
      obtain ⟨okS, okK⟩ := pk_ok lo ro hpk
      have hsh := bfs_row_short lo ro hE hbm
      have eT : b.met.take (j + 1) = b.met.take j ++ [(key, ρ)] := by rw [List.take_succ, hbj]; rfl
      have eFo : (b.met.take (j + 1)).foldl (bst l r) none = bst l r ((b.met.take j).foldl (bst l r) none) (key, ρ) := by rw [eT, List.foldl_append]; rfl
      revert hbv eFo
      generalize (b.met.take j).foldl (bst l r) none = acc
      intro hbv eFo
      have hyD : Dp K H4 y (pkD key) := by
        have := hky.dp
        rw [pkK_data] at this
        exact this
      obtain ⟨Tj, xj, kb, rfl, hTj, hxj, hkb⟩ := pk_at hyD
      refine ⟨Tj, _, rfl, hTj, rfl, _, _, rfl, _, _, rfl, rfl, ?_⟩
      obtain ⟨sp, ab, rfl, hsp, hab⟩ := ls_at hxj
      have hx4 := kb4 _ _ xk hx3
      have s04 : Same H H4 := fun b o hb => kb4 b o (ne_of_none hb nkd0) (s03 b o hb)
      refine ⟨_, rfl, x, dx, _, rfl, hx4, lF_no _ _ _ (by decide +kernel) (by decide +kernel) (by decide +kernel), _, rfl, sp, _, _, _, rfl, rfl, hsp, atI_nat (j := 1) rfl, _, rfl, x, ab, kb, dx, lp, q, kd, l, r, key.1.ages, key.2, rfl, hx4, s04.tupB hl, lo, s04.tupB hq, ro, hKn4, hab, okS.ag, hkb, okK, fin16 lo ro okS.ag okK, fun t H5 kb5 hKn5 hLv => ?_⟩
      have hLle := LNG_le lo ro okS.ag okK
      have hLlen := (LNG_ok lo ro okS.ag okK).len
      obtain ⟨es4, hK4A⟩ := hKn4
      obtain ⟨oK4, hK4o⟩ := hK4A.nd
      have tk5 : TK H4 H5 := kb5.tk hK4o.here (pin_notT _ _)
      have hbv5 := hbv.kb kb5 hK4o.here
      have kb35 := kb4.trans kb5
      have hMA5 := hMA4.keep tk5 (kb5 _ _ mtk hMA4.here)
      have s05 : Same H H5 := fun b o hb => kb35 b o (ne_of_none hb nkd0) (s03 b o hb)
      have hra : H5 ra = some (.lst (ρ.map V.int)) := by
        have h3 := hM.rows _ hmj
        exact kb35 _ _ (ne_of h3 hKo.here (by intro z; cases z)) h3
      have hTj5 := tk5.sqT hTj
      have hky5 := hky.keep tk5
      obtain ⟨rp, hr1, hr2⟩ := hLv
      refine ⟨t, _, rfl, SqT.of hr1, rfl, _, _, rfl, _, _, rfl, rfl, ?_⟩
      refine ⟨fun tb H' => H' = H5 ∧ tb = bstT (LNG l r key.1.ages key.2).1 acc, ?_, ?_⟩
      · refine ⟨_, rfl, rfl, _, rfl, ?_⟩
        cases acc with
        | none =>
          have hfn : bv = .non := hbv5
          subst hfn
          exact iteT ⟨rfl, rfl⟩
        | some y =>
          obtain ⟨t0, p0, rfl, hf1, hf2, _⟩ := hbv5
          refine iteF ⟨_, rfl, _, rfl, t0, _, _, _, rfl, rfl, SqT.of hf1, atI_nat (j := 0) rfl, _, _, rfl, rfl, _, rfl, rfl, ?_⟩
          exact decide_eq_decide.mpr (by omega)
      · rintro tb H6 ⟨rfl, rfl⟩
        refine iteB (fun hb => ?_) (fun hb => ?_)
        · refine ⟨_, rfl, _, rfl, _, rfl, szle (Nat.le_of_ble_eq_true rfl), fun T6 nT6 => ?_⟩
          have s6 : Same H6 (upd H6 T6 (.tup [.ref sp, .ref kb])) := Same.newB nT6
          refine ⟨mt, _, pkK key, V.ref ra, rfl, ⟨oM, hMA5.same s6⟩, pk_key (pk_mk (k := key) (x := .ref sp) (b := kb) (SqT.of upd_same) (Dp.same s6 _ _ (Dp.keepT tk5 hxj (lsD_noL _))) (s6.tupB (tk5.sqT hkb))), ms_val ndup hmj, ?_⟩
          have hra6 := s6 _ _ hra
          refine ⟨_, rfl, _, rfl, ra, _, rfl, Or.inl (SqL.of hra6), _, rfl, _, rfl, ra, rp, _, _, rfl, rfl, hra6, s6 _ _ hr2, szle (by rw [List.length_map, List.length_map]; omega), fun l3 nl3 => ⟨szle (Nat.le_of_ble_eq_true rfl), fun t2 nt2 => ?_⟩⟩
          have s8 := (s6.moreB (o := .lst (ρ.map V.int ++ (LNG l r key.1.ages key.2).2.map V.int)) nl3).moreB (o := .tup [.int ((LNG l r key.1.ages key.2).1 : Int), .int ((ρ.map V.int).length : Int), .ref l3]) nt2
          refine ⟨kb35.trans (KB.same s8), hKn5.same s8, .ref t2, _, _, _, _, _, rfl, ?_⟩
          have eB : bst l r acc (key, ρ) = some ((LNG l r key.1.ages key.2).1, ρ.length, ρ ++ (LNG l r key.1.ages key.2).2) := by
            cases acc with
            | none => rfl
            | some y => exact if_pos (of_decide_eq_true hb)
          rw [eFo, eB]
          refine ⟨t2, l3, rfl, ?_, ?_, ?_, ?_⟩
          · rw [upd_same, List.length_map]
          · rw [(Same.newB nt2) _ _ upd_same, List.map_append]
          · exact (s05.trans (s6.moreB nl3)).free nt2
          · exact (s05.trans s6).free nl3
        · have eB : bst l r acc (key, ρ) = acc := by
            cases acc with
            | none => cases hb
            | some y => exact if_neg (of_decide_eq_false hb)
          refine ⟨kb35, hKn5, bv, _, _, _, _, _, rfl, ?_⟩
          rw [eFo, eB]
          exact hbv5
    · rintro σ H4 ⟨kb4, hKn4, bv, v5, v6, v7, v8, v9, rfl, hbv⟩
      have e9 : (msK ms).length = b.met.length := by unfold msK; rw [List.length_map]; exact hlen
      rw [e9, List.take_length] at hbv
      have hne : b.met ≠ [] := fun e => by
        obtain ⟨ρ, h1, _⟩ := R.all [] (firstP r) rfl
        rw [e] at h1
        cases h1
      obtain ⟨y, g1, _⟩ := bst_fold l r b.met none (.inr hne)
      rw [g1] at hbv
      obtain ⟨t, p2, rfl, h1, h2, h3, h4⟩ := hbv
      refine ⟨_, rfl, k t p2 H4 y (fun b o hb => kb4 b o (ne_of_none hb nkd0) (s03 b o hb)) ⟨b, hE, g1⟩ h1 h2 h4 h3⟩
end
end Bw

set_option Elab.async false
set_option linter.all false
set_option maxRecDepth 100000
set_option maxHeartbeats 4000000
namespace Bw
open PySem PySem.Spec PyProof.Rows L2
section
variable {P : Program} {w : World} {K : PySem.W.Frag} {mg : Str → Option Value} {base : Heap} {f : Addr} {fd : FuncData}
theorem ok_need_lineX {t1 t2 t3 : Tok} {C : Addr} (F : FnP K "need_line" s_need_line f fd) (g_MOST_EACH : mg "MOST_EACH" = some (.int 4 t1)) (g_MOST_LATE : mg "MOST_LATE" = some (.int 3 t2)) (g_MOST_LOST : mg "MOST_LOST" = some (.int 2 t3)) (h_BadLine : XC P w K mg base 1 "BadLine" C "why") : FnOk P w K mg base (L2N.CX P w) 3 f fd ["line"] (spNeedLineX K C) := by
  refine F.ok sc_need_line (fun vs H Q E h => ?_) (fun cdv A outer s H vs Q E hr h => ?_)
  · obtain ⟨q, x, y, z, why, rfl, _⟩ := h
    rfl
  · obtain ⟨q, x, y, z, why, rfl, hq, hb, k⟩ := h
    refine ⟨_, (pss_cons (ps_asg (pv 0) (pg_tup rfl (pgs_cons (pg_name (i := 1) sc_need_line.nd rfl (Or.inl rfl)) (pgs_cons (pg_name (i := 2) sc_need_line.nd rfl (Or.inl rfl)) (pgs_cons (pg_name (i := 3) sc_need_line.nd rfl (Or.inl rfl)) pgs_nil)))))
        (pss_cons (ps_if (pt_not (pt_chain op_le op_le pe_int (pv 1) (pe_gI rfl g_MOST_EACH)))
          (pss_one (ps_raiseN rfl (L2N.takes_of rfl rfl rfl rfl) h_BadLine hr rfl (pa_cons pe_str pa_nil)))
          pss_nil)
        (pss_cons (ps_if (pt_not (pt_chain op_le op_le pe_int (pv 2) (pe_gI rfl g_MOST_LATE)))
          (pss_one (ps_raiseN rfl (L2N.takes_of rfl rfl rfl rfl) h_BadLine hr rfl (pa_cons pe_str pa_nil)))
          pss_nil)
        (pss_one (ps_if (pt_not (pt_chain op_le op_le pe_int (pv 3) (pe_gI rfl g_MOST_LOST)))
          (pss_one (ps_raiseN rfl (L2N.takes_of rfl rfl rfl rfl) h_BadLine hr rfl (pa_cons pe_str pa_nil)))
          pss_nil))))), ?_⟩
    have raise := k.raise (Same.refl H)
    refine ⟨_, rfl, q, _, rfl, hq, rfl, _, _, rfl, _, _, rfl, _, _, rfl, rfl, ?_⟩
    rcases hb with ⟨rfl, hb⟩ | ⟨rfl, hx, hb⟩ | ⟨rfl, hx, hy, hb⟩
    · refine ⟨_, rfl, _, _, rfl, rfl, _, rfl, iteD (fun h1 => ⟨_, _, rfl, rfl, _, rfl, ?_⟩) (fun h1 => ⟨_, rfl, iteT raise⟩)⟩
      rw [decide_eq_false (fun h2 => hb ⟨h1, h2⟩)]
      exact iteT raise
    · refine ⟨_, rfl, _, _, rfl, rfl, _, rfl, iteD (fun h1 => ⟨_, _, rfl, rfl, _, rfl, ?_⟩) (fun h1 => absurd hx.1 h1)⟩
      rw [decide_eq_true hx.2]
      refine iteF ⟨_, rfl, _, _, rfl, rfl, _, rfl, iteD (fun h1 => ⟨_, _, rfl, rfl, _, rfl, ?_⟩) (fun h1 => ⟨_, rfl, iteT raise⟩)⟩
      rw [decide_eq_false (fun h2 => hb ⟨h1, h2⟩)]
      exact iteT raise
    · refine ⟨_, rfl, _, _, rfl, rfl, _, rfl, iteD (fun h1 => ⟨_, _, rfl, rfl, _, rfl, ?_⟩) (fun h1 => absurd hx.1 h1)⟩
      rw [decide_eq_true hx.2]
      refine iteF ⟨_, rfl, _, _, rfl, rfl, _, rfl, iteD (fun h1 => ⟨_, _, rfl, rfl, _, rfl, ?_⟩) (fun h1 => absurd hy.1 h1)⟩
      rw [decide_eq_true hy.2]
      refine iteF ⟨_, rfl, _, _, rfl, rfl, _, rfl, iteD (fun h1 => ⟨_, _, rfl, rfl, _, rfl, ?_⟩) (fun h1 => ⟨_, rfl, iteT raise⟩)⟩
      rw [decide_eq_false (fun h2 => hb ⟨h1, h2⟩)]
      exact iteT raise
theorem ok_need_ruleX {C : Addr} (F : FnP K "need_rule" s_need_rule f fd) (h_is_rule : Has P w K mg base 1 "is_rule" ["rule"] (spIsRule K)) (h_BadRule : XC P w K mg base 1 "BadRule" C "number") : FnOk P w K mg base (L2N.CX P w) 3 f fd ["rule"] (spNeedRuleX K C) := by
  refine F.ok sc_need_rule (fun vs H Q E h => ?_) (fun cdv A outer s H vs Q E hr h => ?_)
  · obtain ⟨q, x, ns, rfl, _⟩ := h
    rfl
  · obtain ⟨q, x, ns, rfl, hq, hb, k⟩ := h
    refine ⟨_, (pss_one (ps_if (pt_not (pt_val (pe_fn h_is_rule hr rfl (pa_cons (pv 0) pa_nil))))
        (pss_one (ps_raiseN rfl (L2N.takes_of rfl rfl rfl rfl) h_BadRule hr rfl (pa_cons pe_int pa_nil)))
        pss_nil)), ?_⟩
    refine ⟨_, rfl, q, x, ns, rfl, hq, hb.1, false, by rw [hb.2], ?_⟩
    exact k.raise (Same.refl H)
theorem ok_mayXl {C : Addr} (F : FnP K "may" s_may f fd) (h_need_line : HasN P w K mg base 3 "need_line" ["line"] (spNeedLineX K C)) : FnOk P w K mg base (L2N.CX P w) 4 f fd p_may (spLineX2 K C) := by
  refine F.ok sc_may (fun vs H Q E h => ?_) (fun cdv A outer s H vs Q E hr h => ?_)
  · obtain ⟨q, x, y, z, why, v, rfl, _⟩ := h
    rfl
  · obtain ⟨q, x, y, z, why, v, rfl, hq, hb, k⟩ := h
    refine ⟨_, (pss_cons (ps_expr (pe_fnN h_need_line hr rfl (L2N.takes_of rfl rfl rfl rfl) (pa_cons (pv 0) pa_nil)))
        pss_never), ?_⟩
    exact ⟨_, rfl, q, x, y, z, why, rfl, hq, hb, k⟩
theorem ok_false_rowXl {C : Addr} (F : FnP K "false_row" s_false_row f fd) (h_need_line : HasN P w K mg base 3 "need_line" ["line"] (spNeedLineX K C)) : FnOk P w K mg base (L2N.CX P w) 4 f fd p_false_row (spLineX2 K C) := by
  refine F.ok sc_false_row (fun vs H Q E h => ?_) (fun cdv A outer s H vs Q E hr h => ?_)
  · obtain ⟨q, x, y, z, why, v, rfl, _⟩ := h
    rfl
  · obtain ⟨q, x, y, z, why, v, rfl, hq, hb, k⟩ := h
    refine ⟨_, (pss_cons (ps_expr (pe_fnN h_need_line hr rfl (L2N.takes_of rfl rfl rfl rfl) (pa_cons (pv 0) pa_nil)))
        pss_never), ?_⟩
    exact ⟨_, rfl, q, x, y, z, why, rfl, hq, hb, k⟩
theorem ok_latestXl {C : Addr} (F : FnP K "latest" s_latest f fd) (h_need_line : HasN P w K mg base 3 "need_line" ["line"] (spNeedLineX K C)) : FnOk P w K mg base (L2N.CX P w) 4 f fd p_latest (spLineX2 K C) := by
  refine F.ok sc_latest (fun vs H Q E h => ?_) (fun cdv A outer s H vs Q E hr h => ?_)
  · obtain ⟨q, x, y, z, why, v, rfl, _⟩ := h
    rfl
  · obtain ⟨q, x, y, z, why, v, rfl, hq, hb, k⟩ := h
    refine ⟨_, (pss_cons (ps_expr (pe_fnN h_need_line hr rfl (L2N.takes_of rfl rfl rfl rfl) (pa_cons (pv 0) pa_nil)))
        pss_never), ?_⟩
    exact ⟨_, rfl, q, x, y, z, why, rfl, hq, hb, k⟩
theorem ok_chosenXl {C : Addr} (F : FnP K "chosen" s_chosen f fd) (h_need_line : HasN P w K mg base 3 "need_line" ["line"] (spNeedLineX K C)) : FnOk P w K mg base (L2N.CX P w) 4 f fd p_chosen (spLineX2 K C) := by
  refine F.ok sc_chosen (fun vs H Q E h => ?_) (fun cdv A outer s H vs Q E hr h => ?_)
  · obtain ⟨q, x, y, z, why, v, rfl, _⟩ := h
    rfl
  · obtain ⟨q, x, y, z, why, v, rfl, hq, hb, k⟩ := h
    refine ⟨_, (pss_cons (ps_expr (pe_fnN h_need_line hr rfl (L2N.takes_of rfl rfl rfl rfl) (pa_cons (pv 0) pa_nil)))
        pss_never), ?_⟩
    exact ⟨_, rfl, q, x, y, z, why, rfl, hq, hb, k⟩
theorem ok_false_rowXr {C : Addr} (F : FnP K "false_row" s_false_row f fd) (h_need_line : Has P w K mg base 1 "need_line" ["line"] (spNeedLine K)) (h_need_rule : HasN P w K mg base 3 "need_rule" ["rule"] (spNeedRuleX K C)) : FnOk P w K mg base (L2N.CX P w) 4 f fd p_false_row (spLRX K C) := by
  refine F.ok sc_false_row (fun vs H Q E h => ?_) (fun cdv A outer s H vs Q E hr h => ?_)
  · obtain ⟨lp, q, l, x, ns, rfl, _⟩ := h
    rfl
  · obtain ⟨lp, q, l, x, ns, rfl, hl, lo, hq, hb, k⟩ := h
    refine ⟨_, (pss_cons (ps_expr (pe_fn h_need_line hr rfl (pa_cons (pv 0) pa_nil)))
        (pss_cons (ps_expr (pe_fnN h_need_rule hr rfl (L2N.takes_of rfl rfl rfl rfl) (pa_cons (pv 1) pa_nil)))
        pss_never)), ?_⟩
    exact ⟨_, rfl, lp, l, rfl, hl, lo, _, rfl, q, x, ns, rfl, hq, hb, k⟩
theorem ok_latestXr {C : Addr} (F : FnP K "latest" s_latest f fd) (h_need_line : Has P w K mg base 1 "need_line" ["line"] (spNeedLine K)) (h_need_rule : HasN P w K mg base 3 "need_rule" ["rule"] (spNeedRuleX K C)) : FnOk P w K mg base (L2N.CX P w) 4 f fd p_latest (spLRX K C) := by
  refine F.ok sc_latest (fun vs H Q E h => ?_) (fun cdv A outer s H vs Q E hr h => ?_)
  · obtain ⟨lp, q, l, x, ns, rfl, _⟩ := h
    rfl
  · obtain ⟨lp, q, l, x, ns, rfl, hl, lo, hq, hb, k⟩ := h
    refine ⟨_, (pss_cons (ps_expr (pe_fn h_need_line hr rfl (pa_cons (pv 0) pa_nil)))
        (pss_cons (ps_expr (pe_fnN h_need_rule hr rfl (L2N.takes_of rfl rfl rfl rfl) (pa_cons (pv 1) pa_nil)))
        pss_never)), ?_⟩
    exact ⟨_, rfl, lp, l, rfl, hl, lo, _, rfl, q, x, ns, rfl, hq, hb, k⟩
theorem ok_toldXr {C : Addr} (F : FnP K "told" s_told f fd) (h_need_rule : HasN P w K mg base 3 "need_rule" ["rule"] (spNeedRuleX K C)) : FnOk P w K mg base (L2N.CX P w) 4 f fd p_told (spRuleX2 K C) := by
  refine F.ok sc_told (fun vs H Q E h => ?_) (fun cdv A outer s H vs Q E hr h => ?_)
  · obtain ⟨q, x, ns, v, rfl, _⟩ := h
    rfl
  · obtain ⟨q, x, ns, v, rfl, hq, hb, k⟩ := h
    refine ⟨_, (pss_cons (ps_expr (pe_fnN h_need_rule hr rfl (L2N.takes_of rfl rfl rfl rfl) (pa_cons (pv 0) pa_nil)))
        pss_never), ?_⟩
    exact ⟨_, rfl, q, x, ns, rfl, hq, hb, k⟩
theorem ok_turnsXr {C : Addr} (F : FnP K "turns" s_turns f fd) (g_enumerate : mg "enumerate" = none) (h_told : HasN P w K mg base 4 "told" p_told (spRuleX2 K C)) : FnOk P w K mg base (L2N.CX P w) 5 f fd p_turns (spRuleX2 K C) := by
  refine F.ok sc_turns (fun vs H Q E h => ?_) (fun cdv A outer s H vs Q E hr h => ?_)
  · obtain ⟨q, x, ns, v, rfl, _⟩ := h
    rfl
  · obtain ⟨q, x, ns, v, rfl, hq, hb, k⟩ := h
    refine ⟨_, (pss_cons (ps_set (i := 2) sc_turns.nd rfl (Or.inl rfl) (pe_lst pa_nil))
        (pss_cons (ps_set (i := 3) sc_turns.nd rfl (Or.inl rfl) pe_bl)
        (pss_cons (ps_for PassesOwn.leaving rfl (pi_enum (by rfl) g_enumerate (pa_cons (pe_fnN h_told hr rfl (L2N.takes_of rfl rfl rfl rfl) (pa_cons (pv 0) (pa_cons (pv 1) pa_nil))) pa_nil)) (pg_tup rfl (pgs_cons (pg_name (i := 4) sc_turns.nd rfl (Or.inl rfl)) (pgs_cons (pg_name (i := 5) sc_turns.nd rfl (Or.inl rfl)) pgs_nil)))
          (Evl.pss_cut (ps_if (pt_cmpR op_ne (pv 5) (pv 3) (nomark _))
              (pss_one (ps_expr (pe_bm PySem.F.plainAttrs_list PySem.F.slot_list_append PySem.F.type_list_append mt_append (pv 2) (pa_cons (pe_tup (pa_cons (pv 4) (pa_cons (pe_ifExp (pt_val (pv 5)) pe_str pe_str) pa_nil))) pa_nil))))
              pss_nil)
            (pss_one (ps_set (i := 3) sc_turns.nd rfl (Or.inl rfl) (pv 5)))))
        (pss_one (ps_ret (pv 2)))))), ?_⟩
    refine ⟨szle (Nat.le_of_ble_eq_true rfl), fun fo nfo => ?_⟩
    have sB : Same H (upd H fo (.lst [])) := Same.newB nfo
    exact ⟨_, rfl, _, rfl, q, x, ns, v, rfl, sB.tupB hq, hb, k.same sB⟩
theorem ok_WatcherX {C : Addr} (F : FnQ K "__init__" "Watcher.__init__" s_Watcher___init__ f fd) (h_need_rule : HasN P w K mg base 3 "need_rule" ["rule"] (spNeedRuleX K C)) : FnOk P w K mg base (L2N.CX P w) 4 f fd p_Watcher___init__ (spWInitX K C) := by
  refine F.ok sc_Watcher___init__ (fun vs H Q E h => ?_) (fun cdv A outer s H vs Q E hr h => ?_)
  · obtain ⟨y, q, x, ns, rfl, _⟩ := h
    rfl
  · obtain ⟨y, q, x, ns, rfl, hq, hb, k⟩ := h
    refine ⟨_, (pss_cons (ps_expr (pe_fnN h_need_rule hr rfl (L2N.takes_of rfl rfl rfl rfl) (pa_cons (pv 1) pa_nil)))
        pss_never), ?_⟩
    exact ⟨_, rfl, q, x, ns, rfl, hq, hb, k⟩
theorem ok_chosenXr {C : Addr} (F : FnP K "chosen" s_chosen f fd) (g_enumerate : mg "enumerate" = none) (h_need_line : Has P w K mg base 1 "need_line" ["line"] (spNeedLine K)) (h_is_rule : Has P w K mg base 1 "is_rule" ["rule"] (spIsRule K)) (h_BadRule : XC P w K mg base 1 "BadRule" C "number") : FnOk P w K mg base (L2N.CX P w) 3 f fd p_chosen (spChosenX K C) := by
  refine F.ok sc_chosen (fun vs H Q E h => ?_) (fun cdv A outer s H vs Q E hr h => ?_)
  · obtain ⟨lp, rp, l, xs, i, rfl, _⟩ := h
    rfl
  · obtain ⟨lp, rp, l, xs, b, rfl, hl, lo, hrp, hgood, ⟨bp, x, ns, hbx, hbp, hbr⟩, k⟩ := h
    refine ⟨_, (pss_cons (ps_expr (pe_fn h_need_line hr rfl (pa_cons (pv 0) pa_nil)))
        (pss_cons (ps_for PassesOwn.leaving rfl (pi_enum (by rfl) g_enumerate (pa_cons (pv 1) pa_nil)) (pg_tup rfl (pgs_cons (pg_name (i := 2) sc_chosen.nd rfl (Or.inl rfl)) (pgs_cons (pg_name (i := 3) sc_chosen.nd rfl (Or.inl rfl)) pgs_nil)))
          (pss_one (ps_if (pt_not (pt_val (pe_fn h_is_rule hr rfl (pa_cons (pv 3) pa_nil))))
            (pss_one (ps_raiseN rfl (L2N.takes_of rfl rfl rfl rfl) h_BadRule hr rfl (pa_cons (pv 2) pa_nil)))
            pss_nil)))
        pss_never)), ?_⟩
    have hbl := (List.getElem?_eq_some_iff.mp hbx).1
    refine ⟨_, rfl, lp, l, rfl, hl, lo, ?_⟩
    refine ⟨_, rfl, rp, _, rfl, hrp, for_enum (K := K) (a := rp) (xs := xs) (fun i σ H' => Same H H' ∧ i ≤ b ∧ ∃ v2 v3, σ = [some (.ref lp), some (.ref rp), v2, v3, none, none]) ⟨Same.refl H, Nat.zero_le _, none, none, rfl⟩ (fun i σ H' _ h => h.1.seq hrp) ?_ ?_⟩
    · rintro i y σ H' T hi ⟨s1, hib, v2, v3, rfl⟩ nT
      refine ⟨T, _, rfl, SqT.of upd_same, rfl, _, _, rfl, _, _, rfl, rfl, ?_⟩
      by_cases hb : i = b
      · subst hb
        rw [hbx] at hi
        cases hi
        refine ⟨_, rfl, bp, x, ns, rfl, (s1.moreB nT).tupB hbp, hbr.1, false, by rw [hbr.2], ?_⟩
        exact ⟨_, rfl, k.raise (s1.moreB nT)⟩
      · obtain ⟨p, r, rfl, hp, ho⟩ := hgood i y (by omega) hi
        obtain ⟨x', ns', e1, e2, e3⟩ := r.raw ho
        rw [e1] at hp
        refine ⟨_, rfl, p, x', ns', rfl, (s1.moreB nT).tupB hp, e2, true, by rw [e3], ?_⟩
        exact ⟨s1.moreB nT, by omega, _, _, rfl⟩
    · rintro σ H' ⟨s1, hib, v2, v3, rfl⟩
      omega
end
end Bw

set_option Elab.async false
set_option linter.all false
set_option maxRecDepth 100000
set_option maxHeartbeats 4000000
namespace Bw
open PySem PySem.Spec PyProof.Rows L2
section
variable {P : Program} {w : World} {K : PySem.W.Frag} {mg : Str → Option Value} {base : Heap} {f : Addr} {fd : FuncData}
def bads (H : Hp) (vs : List V) : Prop := ∀ v ∈ vs, ∃ (p : Addr) (x : Str) (ns : List Int), v = .ref p ∧ H p = some (.tup (rV x ns)) ∧ BadR x ns
theorem br1 (x : Str) (a : Int) (h : isRuleB x [a] = false) : BadR x [a] := ⟨.inl ⟨a, rfl⟩, h⟩
theorem br2 (x : Str) (a b : Int) (h : isRuleB x [a, b] = false) : BadR x [a, b] := ⟨.inr ⟨a, b, rfl⟩, h⟩
theorem bads.nil (H : Hp) : bads H [] := fun v h => nomatch h
theorem bads.same {H H' : Hp} {vs : List V} (b : bads H vs) (s : Same H H') : bads H' vs := fun v hv => by
  obtain ⟨p, x, ns, e, h, r⟩ := b v hv
  exact ⟨p, x, ns, e, s _ _ h, r⟩
theorem bads.add {H : Hp} {vs : List V} (b : bads H vs) {p : Addr} {x : Str} {ns : List Int} (n : H p = none) (r : BadR x ns) : bads (upd H p (.tup (rV x ns))) (vs ++ [.ref p]) := fun v hv => by
  rcases List.mem_append.mp hv with hv | hv
  · exact (b.same (Same.newB n)) v hv
  · rw [List.mem_singleton.mp hv]
    exact ⟨p, x, ns, rfl, upd_same, r⟩
theorem bads.mut {H : Hp} {vs xs ys : List V} (b : bads H vs) {s : Addr} (h : H s = some (.lst xs)) : bads (upd H s (.lst ys)) vs := fun v hv => by
  obtain ⟨p, x, ns, e, hp, r⟩ := b v hv
  refine ⟨p, x, ns, e, ?_, r⟩
  rw [upd_ne (ne_of hp h (by intro z; cases z))]
  exact hp
theorem bads.app {H : Hp} {vs ws : List V} (a : bads H vs) (b : bads H ws) : bads H (vs ++ ws) := fun v hv => by
  rcases List.mem_append.mp hv with hv | hv
  · exact a v hv
  · exact b v hv
theorem atI_mem {zs : List V} {r : Int} (h0 : 0 ≤ r) (h1 : r < zs.length) : ∃ v ∈ zs, atI zs r = some v := by
  obtain ⟨n, rfl⟩ := Int.eq_ofNat_of_zero_le h0
  have hn : n < zs.length := by omega
  exact ⟨zs[n], List.getElem_mem hn, atI_nat (j := n) (List.getElem?_eq_getElem hn)⟩
theorem ok__law_bad_rule (F : FnP K "_law_bad_rule" s__law_bad_rule f fd) (g_max : mg "max" = none) (h__law_off : Has P w K mg base 1 "_law_off" p__law_off spOff) : FnOk P w K mg base CX0 2 f fd p__law_bad_rule spBadRule := by
  refine F.ok sc__law_bad_rule (fun vs H Q E h => ?_) (fun cdv A outer s H vs Q E hr h => ?_)
  · obtain ⟨d, rfl, _⟩ := h
    rfl
  · obtain ⟨d, rfl, hd, k⟩ := h
    refine ⟨_, PSs.nox (pss_cons (ps_set (i := 1) sc__law_bad_rule.nd rfl (Or.inl rfl) (pe_callB (call_max2 rfl) (by rfl) g_max (by decide +kernel) (pa_cons pe_int (pa_cons (pe_op op_sub (pe_fn h__law_off hr rfl (pa_cons (pv 0) (pa_cons (pe_op op_pow pe_int pe_int) pa_nil))) pe_int) pa_nil))))
        (pss_cons (ps_set (i := 2) sc__law_bad_rule.nd rfl (Or.inl rfl) (pe_lst (pa_cons (pe_tup (pa_cons pe_str (pa_cons pe_int pa_nil))) (pa_cons (pe_tup (pa_cons pe_str (pa_cons pe_int pa_nil))) (pa_cons (pe_tup (pa_cons pe_str (pa_cons (pe_op op_sub (pe_un un_neg pe_int) (pv 1)) pa_nil))) (pa_cons (pe_tup (pa_cons pe_str (pa_cons (pe_op op_add pe_int (pv 1)) pa_nil))) (pa_cons (pe_tup (pa_cons pe_str (pa_cons pe_int (pa_cons pe_int pa_nil)))) (pa_cons (pe_tup (pa_cons pe_str (pa_cons pe_int pa_nil))) pa_nil))))))))
        (pss_cons (ps_set (i := 2) sc__law_bad_rule.nd rfl (Or.inl rfl) (pe_op op_cat (pv 2) (pe_lst (pa_cons (pe_tup (pa_cons pe_str (pa_cons pe_int (pa_cons pe_int pa_nil)))) (pa_cons (pe_tup (pa_cons pe_str (pa_cons pe_int (pa_cons pe_int pa_nil)))) (pa_cons (pe_tup (pa_cons pe_str (pa_cons pe_int (pa_cons pe_int pa_nil)))) (pa_cons (pe_tup (pa_cons pe_str (pa_cons pe_int (pa_cons pe_int pa_nil)))) (pa_cons (pe_tup (pa_cons pe_str (pa_cons (pe_un un_neg (pv 1)) (pa_cons pe_int pa_nil)))) (pa_cons (pe_tup (pa_cons pe_str (pa_cons pe_int (pa_cons (pe_op op_add pe_int (pv 1)) pa_nil)))) pa_nil)))))))))
        (pss_cons (ps_expr (pe_bm PySem.F.plainAttrs_list PySem.F.slot_list_append PySem.F.type_list_append mt_append (pv 2) (pa_cons (pe_tup (pa_cons pe_str (pa_cons (pe_op op_add pe_int (pe_op op_mod (pv 1) pe_int)) (pa_cons pe_int pa_nil)))) pa_nil)))
        (pss_one (ps_ret (pe_ix ix_list (pe_op op_cat (pv 2) (pe_lst (pa_cons (pe_tup (pa_cons pe_str (pa_cons pe_int pa_nil))) (pa_cons (pe_tup (pa_cons pe_str (pa_cons pe_int pa_nil))) (pa_cons (pe_tup (pa_cons pe_str (pa_cons pe_int (pa_cons pe_int pa_nil)))) (pa_cons (pe_tup (pa_cons pe_str (pa_cons pe_int (pa_cons (pe_op op_sub (pe_un un_neg pe_int) (pv 1)) pa_nil)))) pa_nil)))))) (pe_fn h__law_off hr rfl (pa_cons (pv 0) (pa_cons pe_int pa_nil))) (fun _ _ => rfl)))))))), ?_⟩
    refine ⟨_, rfl, _, _, rfl, rfl, ⟨by decide, by decide, by decide⟩, d, _, rfl, hd, by decide, by decide, fun r1 H1 h10 h11 D1 => ?_⟩
    refine ⟨_, _, rfl, rfl, _, _, rfl, ?_⟩
    have hfar : 0 ≤ (if r1 - 500000 > 0 then r1 - 500000 else 0) := by split <;> omega
    revert hfar
    generalize (if r1 - 500000 > 0 then r1 - 500000 else 0) = far
    intro hfar
    refine ⟨szle (Nat.le_of_ble_eq_true rfl), fun p1 n1 => ⟨szle (Nat.le_of_ble_eq_true rfl), fun p2 n2 => ⟨_, rfl, _, rfl, _, _, rfl, rfl, szle (Nat.le_of_ble_eq_true rfl), fun p3 n3 => ⟨_, rfl, _, _, rfl, rfl, szle (Nat.le_of_ble_eq_true rfl), fun p4 n4 => ⟨szle (Nat.le_of_ble_eq_true rfl), fun p5 n5 => ⟨szle (Nat.le_of_ble_eq_true rfl), fun p6 n6 => ⟨szle (Nat.le_of_ble_eq_true rfl), fun s1 ns1 => ?_⟩⟩⟩⟩⟩⟩⟩
    dsimp only
    have ba : bads (upd (upd (upd (upd (upd (upd (upd H1 p1 (.tup [V.str "since", V.int 0])) p2 (.tup [V.str "since", V.int 13])) p3 (.tup [V.str "since", V.int (-1 - far)])) p4 (.tup [V.str "since", V.int (13 + far)])) p5 (.tup [V.str "since", V.int 3, V.int 1])) p6 (.tup [V.str "few", V.int 2])) s1 (.lst [V.ref p1, V.ref p2, V.ref p3, V.ref p4, V.ref p5, V.ref p6])) [V.ref p1, V.ref p2, V.ref p3, V.ref p4, V.ref p5, V.ref p6] := bads.same ((bads.add (bads.add (bads.add (bads.add (bads.add (bads.add (bads.nil H1) n1 (br1 "since" 0 (by decide +kernel))) n2 (br1 "since" 13 (by decide +kernel))) n3 (br1 "since" (-1 - far) (by simp [isRuleB]; omega))) n4 (br1 "since" (13 + far) (by simp [isRuleB]; omega))) n5 (br2 "since" 3 1 (by decide +kernel))) n6 (br1 "few" 2 (by decide +kernel)))) (Same.newB (o := .lst [V.ref p1, V.ref p2, V.ref p3, V.ref p4, V.ref p5, V.ref p6]) ns1)
    have Sa : Same H1 (upd (upd (upd (upd (upd (upd (upd H1 p1 (.tup [V.str "since", V.int 0])) p2 (.tup [V.str "since", V.int 13])) p3 (.tup [V.str "since", V.int (-1 - far)])) p4 (.tup [V.str "since", V.int (13 + far)])) p5 (.tup [V.str "since", V.int 3, V.int 1])) p6 (.tup [V.str "few", V.int 2])) s1 (.lst [V.ref p1, V.ref p2, V.ref p3, V.ref p4, V.ref p5, V.ref p6])) := Same.moreB (o := .lst [V.ref p1, V.ref p2, V.ref p3, V.ref p4, V.ref p5, V.ref p6]) (Same.moreB (Same.moreB (Same.moreB (Same.moreB (Same.moreB (Same.newB n1) n2) n3) n4) n5) n6) ns1
    have hs1 : (upd (upd (upd (upd (upd (upd (upd H1 p1 (.tup [V.str "since", V.int 0])) p2 (.tup [V.str "since", V.int 13])) p3 (.tup [V.str "since", V.int (-1 - far)])) p4 (.tup [V.str "since", V.int (13 + far)])) p5 (.tup [V.str "since", V.int 3, V.int 1])) p6 (.tup [V.str "few", V.int 2])) s1 (.lst [V.ref p1, V.ref p2, V.ref p3, V.ref p4, V.ref p5, V.ref p6])) s1 = some (.lst [V.ref p1, V.ref p2, V.ref p3, V.ref p4, V.ref p5, V.ref p6]) := upd_same
    revert ba Sa hs1
    generalize upd (upd (upd (upd (upd (upd (upd H1 p1 (.tup [V.str "since", V.int 0])) p2 (.tup [V.str "since", V.int 13])) p3 (.tup [V.str "since", V.int (-1 - far)])) p4 (.tup [V.str "since", V.int (13 + far)])) p5 (.tup [V.str "since", V.int 3, V.int 1])) p6 (.tup [V.str "few", V.int 2])) s1 (.lst [V.ref p1, V.ref p2, V.ref p3, V.ref p4, V.ref p5, V.ref p6]) = H2
    intro ba Sa hs1
    refine ⟨_, rfl, szle (Nat.le_of_ble_eq_true rfl), fun p7 n7 => ⟨szle (Nat.le_of_ble_eq_true rfl), fun p8 n8 => ⟨szle (Nat.le_of_ble_eq_true rfl), fun p9 n9 => ⟨szle (Nat.le_of_ble_eq_true rfl), fun p10 n10 => ⟨_, rfl, _, rfl, szle (Nat.le_of_ble_eq_true rfl), fun p11 n11 => ⟨_, rfl, _, _, rfl, rfl, szle (Nat.le_of_ble_eq_true rfl), fun p12 n12 => ⟨szle (Nat.le_of_ble_eq_true rfl), fun s2 ns2 => ?_⟩⟩⟩⟩⟩⟩⟩
    dsimp only
    have bb : bads (upd (upd (upd (upd (upd (upd (upd H2 p7 (.tup [V.str "few", V.int 0, V.int 1])) p8 (.tup [V.str "few", V.int 6, V.int 1])) p9 (.tup [V.str "few", V.int 2, V.int 0])) p10 (.tup [V.str "few", V.int 2, V.int 4])) p11 (.tup [V.str "few", V.int (-far), V.int 2])) p12 (.tup [V.str "few", V.int 3, V.int (4 + far)])) s2 (.lst [V.ref p7, V.ref p8, V.ref p9, V.ref p10, V.ref p11, V.ref p12])) [V.ref p7, V.ref p8, V.ref p9, V.ref p10, V.ref p11, V.ref p12] := bads.same ((bads.add (bads.add (bads.add (bads.add (bads.add (bads.add (bads.nil H2) n7 (br2 "few" 0 1 (by decide +kernel))) n8 (br2 "few" 6 1 (by decide +kernel))) n9 (br2 "few" 2 0 (by decide +kernel))) n10 (br2 "few" 2 4 (by decide +kernel))) n11 (br2 "few" (-far) 2 (by simp [isRuleB]; omega))) n12 (br2 "few" 3 (4 + far) (by simp [isRuleB]; omega)))) (Same.newB (o := .lst [V.ref p7, V.ref p8, V.ref p9, V.ref p10, V.ref p11, V.ref p12]) ns2)
    have Sb : Same H2 (upd (upd (upd (upd (upd (upd (upd H2 p7 (.tup [V.str "few", V.int 0, V.int 1])) p8 (.tup [V.str "few", V.int 6, V.int 1])) p9 (.tup [V.str "few", V.int 2, V.int 0])) p10 (.tup [V.str "few", V.int 2, V.int 4])) p11 (.tup [V.str "few", V.int (-far), V.int 2])) p12 (.tup [V.str "few", V.int 3, V.int (4 + far)])) s2 (.lst [V.ref p7, V.ref p8, V.ref p9, V.ref p10, V.ref p11, V.ref p12])) := Same.moreB (o := .lst [V.ref p7, V.ref p8, V.ref p9, V.ref p10, V.ref p11, V.ref p12]) (Same.moreB (Same.moreB (Same.moreB (Same.moreB (Same.moreB (Same.newB n7) n8) n9) n10) n11) n12) ns2
    have hs2 : (upd (upd (upd (upd (upd (upd (upd H2 p7 (.tup [V.str "few", V.int 0, V.int 1])) p8 (.tup [V.str "few", V.int 6, V.int 1])) p9 (.tup [V.str "few", V.int 2, V.int 0])) p10 (.tup [V.str "few", V.int 2, V.int 4])) p11 (.tup [V.str "few", V.int (-far), V.int 2])) p12 (.tup [V.str "few", V.int 3, V.int (4 + far)])) s2 (.lst [V.ref p7, V.ref p8, V.ref p9, V.ref p10, V.ref p11, V.ref p12])) s2 = some (.lst [V.ref p7, V.ref p8, V.ref p9, V.ref p10, V.ref p11, V.ref p12]) := upd_same
    revert bb Sb hs2
    generalize upd (upd (upd (upd (upd (upd (upd H2 p7 (.tup [V.str "few", V.int 0, V.int 1])) p8 (.tup [V.str "few", V.int 6, V.int 1])) p9 (.tup [V.str "few", V.int 2, V.int 0])) p10 (.tup [V.str "few", V.int 2, V.int 4])) p11 (.tup [V.str "few", V.int (-far), V.int 2])) p12 (.tup [V.str "few", V.int 3, V.int (4 + far)])) s2 (.lst [V.ref p7, V.ref p8, V.ref p9, V.ref p10, V.ref p11, V.ref p12]) = H3
    intro bb Sb hs2
    have ba3 := ba.same Sb
    have hs13 := Sb _ _ hs1
    refine ⟨s1, s2, _, _, rfl, rfl, hs13, hs2, szle (Nat.le_of_ble_eq_true rfl), fun s3 ns3 => ?_⟩
    have S14 := (Sa.trans Sb).moreB (o := .lst ([V.ref p1, V.ref p2, V.ref p3, V.ref p4, V.ref p5, V.ref p6] ++ [V.ref p7, V.ref p8, V.ref p9, V.ref p10, V.ref p11, V.ref p12])) ns3
    have b4 : bads (upd H3 s3 (.lst ([V.ref p1, V.ref p2, V.ref p3, V.ref p4, V.ref p5, V.ref p6] ++ [V.ref p7, V.ref p8, V.ref p9, V.ref p10, V.ref p11, V.ref p12]))) ([V.ref p1, V.ref p2, V.ref p3, V.ref p4, V.ref p5, V.ref p6] ++ [V.ref p7, V.ref p8, V.ref p9, V.ref p10, V.ref p11, V.ref p12]) := (ba3.app bb).same (Same.newB ns3)
    have hs3 : (upd H3 s3 (.lst ([V.ref p1, V.ref p2, V.ref p3, V.ref p4, V.ref p5, V.ref p6] ++ [V.ref p7, V.ref p8, V.ref p9, V.ref p10, V.ref p11, V.ref p12]))) s3 = some (.lst ([V.ref p1, V.ref p2, V.ref p3, V.ref p4, V.ref p5, V.ref p6] ++ [V.ref p7, V.ref p8, V.ref p9, V.ref p10, V.ref p11, V.ref p12])) := upd_same
    have hn3 : H1 s3 = none := (Sa.trans Sb).free ns3
    revert S14 b4 hs3
    generalize upd H3 s3 (.lst ([V.ref p1, V.ref p2, V.ref p3, V.ref p4, V.ref p5, V.ref p6] ++ [V.ref p7, V.ref p8, V.ref p9, V.ref p10, V.ref p11, V.ref p12])) = H4
    intro S14 b4 hs3
    refine ⟨_, rfl, Or.inl ⟨rfl, _, SqL.of hs3⟩, ?_⟩
    refine ⟨_, rfl, _, _, rfl, rfl, (by show (0 : Int) < 2; decide), _, _, rfl, rfl, szle (Nat.le_of_ble_eq_true rfl), fun p13 n13 => ?_⟩
    have hs3' : (upd H4 p13 (.tup [V.str "few", V.int (4 + far % 2), V.int 4])) s3 = some (.lst ([V.ref p1, V.ref p2, V.ref p3, V.ref p4, V.ref p5, V.ref p6] ++ [V.ref p7, V.ref p8, V.ref p9, V.ref p10, V.ref p11, V.ref p12])) := (Same.newB n13) _ _ hs3
    refine ⟨s3, _, _, rfl, rfl, hs3', szlt (Nat.le_of_ble_eq_true rfl), ?_⟩
    dsimp only
    have b5 : bads (upd (upd H4 p13 (.tup [V.str "few", V.int (4 + far % 2), V.int 4])) s3 (.lst (([V.ref p1, V.ref p2, V.ref p3, V.ref p4, V.ref p5, V.ref p6] ++ [V.ref p7, V.ref p8, V.ref p9, V.ref p10, V.ref p11, V.ref p12]) ++ [V.ref p13]))) (([V.ref p1, V.ref p2, V.ref p3, V.ref p4, V.ref p5, V.ref p6] ++ [V.ref p7, V.ref p8, V.ref p9, V.ref p10, V.ref p11, V.ref p12]) ++ [V.ref p13]) := (bads.add b4 n13 (br2 "few" (4 + far % 2) 4 (by simp [isRuleB]))).mut hs3'
    have D5 : Dr d H (upd (upd H4 p13 (.tup [V.str "few", V.int (4 + far % 2), V.int 4])) s3 (.lst (([V.ref p1, V.ref p2, V.ref p3, V.ref p4, V.ref p5, V.ref p6] ++ [V.ref p7, V.ref p8, V.ref p9, V.ref p10, V.ref p11, V.ref p12]) ++ [V.ref p13]))) := ((D1.same S14).new n13).mutB hd (D1.free hn3)
    have hs5 : (upd (upd H4 p13 (.tup [V.str "few", V.int (4 + far % 2), V.int 4])) s3 (.lst (([V.ref p1, V.ref p2, V.ref p3, V.ref p4, V.ref p5, V.ref p6] ++ [V.ref p7, V.ref p8, V.ref p9, V.ref p10, V.ref p11, V.ref p12]) ++ [V.ref p13]))) s3 = some (.lst (([V.ref p1, V.ref p2, V.ref p3, V.ref p4, V.ref p5, V.ref p6] ++ [V.ref p7, V.ref p8, V.ref p9, V.ref p10, V.ref p11, V.ref p12]) ++ [V.ref p13])) := upd_same
    have hs3d : s3 ≠ d := D1.dice.ne hn3
    revert b5 D5 hs5
    generalize upd (upd H4 p13 (.tup [V.str "few", V.int (4 + far % 2), V.int 4])) s3 (.lst (([V.ref p1, V.ref p2, V.ref p3, V.ref p4, V.ref p5, V.ref p6] ++ [V.ref p7, V.ref p8, V.ref p9, V.ref p10, V.ref p11, V.ref p12]) ++ [V.ref p13])) = H5
    intro b5 D5 hs5
    refine ⟨_, rfl, szle (Nat.le_of_ble_eq_true rfl), fun p14 n14 => ⟨szle (Nat.le_of_ble_eq_true rfl), fun p15 n15 => ⟨szle (Nat.le_of_ble_eq_true rfl), fun p16 n16 => ⟨_, rfl, _, rfl, _, _, rfl, rfl, szle (Nat.le_of_ble_eq_true rfl), fun p17 n17 => ⟨szle (Nat.le_of_ble_eq_true rfl), fun s4 ns4 => ?_⟩⟩⟩⟩⟩
    dsimp only
    have b6 : bads (upd (upd (upd (upd (upd H5 p14 (.tup [V.str "Since", V.int 2])) p15 (.tup [V.str "", V.int 2])) p16 (.tup [V.str "fews", V.int 2, V.int 1])) p17 (.tup [V.str "few", V.int 2, V.int (-1 - far)])) s4 (.lst [V.ref p14, V.ref p15, V.ref p16, V.ref p17])) [V.ref p14, V.ref p15, V.ref p16, V.ref p17] := bads.same (bads.add (bads.add (bads.add (bads.add (bads.nil H5) n14 (br1 "Since" 2 (by decide +kernel))) n15 (br1 "" 2 (by decide +kernel))) n16 (br2 "fews" 2 1 (by decide +kernel))) n17 (br2 "few" 2 (-1 - far) (by simp [isRuleB]; omega))) (Same.newB ns4)
    have S6 : Same H5 (upd (upd (upd (upd (upd H5 p14 (.tup [V.str "Since", V.int 2])) p15 (.tup [V.str "", V.int 2])) p16 (.tup [V.str "fews", V.int 2, V.int 1])) p17 (.tup [V.str "few", V.int 2, V.int (-1 - far)])) s4 (.lst [V.ref p14, V.ref p15, V.ref p16, V.ref p17])) := Same.moreB (Same.moreB (Same.moreB (Same.moreB (Same.newB n14) n15) n16) n17) ns4
    have hs4 : (upd (upd (upd (upd (upd H5 p14 (.tup [V.str "Since", V.int 2])) p15 (.tup [V.str "", V.int 2])) p16 (.tup [V.str "fews", V.int 2, V.int 1])) p17 (.tup [V.str "few", V.int 2, V.int (-1 - far)])) s4 (.lst [V.ref p14, V.ref p15, V.ref p16, V.ref p17])) s4 = some (.lst [V.ref p14, V.ref p15, V.ref p16, V.ref p17]) := upd_same
    revert b6 S6 hs4
    generalize upd (upd (upd (upd (upd H5 p14 (.tup [V.str "Since", V.int 2])) p15 (.tup [V.str "", V.int 2])) p16 (.tup [V.str "fews", V.int 2, V.int 1])) p17 (.tup [V.str "few", V.int 2, V.int (-1 - far)])) s4 (.lst [V.ref p14, V.ref p15, V.ref p16, V.ref p17]) = H6
    intro b6 S6 hs4
    refine ⟨s3, s4, _, _, rfl, rfl, S6 _ _ hs5, hs4, szle (Nat.le_of_ble_eq_true rfl), fun s5 ns5 => ?_⟩
    have S7 : Same H6 (upd H6 s5 (.lst (([V.ref p1, V.ref p2, V.ref p3, V.ref p4, V.ref p5, V.ref p6] ++ [V.ref p7, V.ref p8, V.ref p9, V.ref p10, V.ref p11, V.ref p12]) ++ [V.ref p13] ++ [V.ref p14, V.ref p15, V.ref p16, V.ref p17]))) := Same.newB ns5
    have b7 := ((b5.same S6).app b6).same S7
    have D7 := (D5.same S6).same S7
    have hs5d : s5 ≠ d := (D5.same S6).dice.ne ns5
    refine ⟨_, rfl, d, 17, rfl, D7.dice, by decide, by decide, fun r2 H8 h20 h21 D8 => ?_⟩
    obtain ⟨v, hv, hat⟩ := atI_mem (zs := ([V.ref p1, V.ref p2, V.ref p3, V.ref p4, V.ref p5, V.ref p6] ++ [V.ref p7, V.ref p8, V.ref p9, V.ref p10, V.ref p11, V.ref p12]) ++ [V.ref p13] ++ [V.ref p14, V.ref p15, V.ref p16, V.ref p17]) h20 (by show r2 < ((17 : Nat) : Int); omega)
    obtain ⟨p, x, ns, rfl, hp, hbr⟩ := b7 v hv
    have hpd : p ≠ d := by
      obtain ⟨ys, z1, _⟩ := D7.dice
      exact ne_of hp z1 (by intro z; cases z)
    exact ⟨s5, _, _, _, rfl, rfl, SqL.of (D8.keep _ _ hs5d upd_same), hat, k x ns p H8 hbr (D7.trans D8) (D8.keep _ _ hpd hp)⟩
def cmpL (l : Line) : Nat → Int
  | 0 => l.each
  | 1 => l.late
  | _ => l.lost
def badc (j : Nat) (m : Int) : Prop := match j with
  | 0 => ¬ (1 ≤ m ∧ m ≤ 4)
  | 1 => ¬ (0 ≤ m ∧ m ≤ 3)
  | _ => ¬ (0 ≤ m ∧ m ≤ 2)
theorem ok__law_bad_line (F : FnP K "_law_bad_line" s__law_bad_line f fd) (g_max : mg "max" = none) (g_range : mg "range" = none) (g_tuple : mg "tuple" = none) (h__law_off : Has P w K mg base 1 "_law_off" p__law_off spOff) : FnOk P w K mg base CX0 2 f fd p__law_bad_line (spBadLine K) := by
  refine F.ok sc__law_bad_line (fun vs H Q E h => ?_) (fun cdv A outer s H vs Q E hr h => ?_)
  · obtain ⟨d, lp, l, rfl, _⟩ := h
    rfl
  · obtain ⟨d, lp, l, rfl, hd, hlp, lo, k⟩ := h
    refine ⟨_, PSs.nox (pss_cons (ps_set (i := 2) sc__law_bad_line.nd rfl (Or.inl rfl) (pe_callB (call_max2 rfl) (by rfl) g_max (by decide +kernel) (pa_cons pe_int (pa_cons (pe_op op_sub (pe_fn h__law_off hr rfl (pa_cons (pv 0) (pa_cons (pe_op op_pow pe_int pe_int) pa_nil))) pe_int) pa_nil))))
        (pss_cons (ps_set (i := 3) sc__law_bad_line.nd rfl (Or.inr rfl) (pe_lst (pa_cons (pe_lst (pa_cons pe_int (pa_cons pe_int (pa_cons (pe_op op_sub (pe_un un_neg pe_int) (pv 2)) (pa_cons (pe_op op_add pe_int (pv 2)) pa_nil))))) (pa_cons (pe_lst (pa_cons (pe_un un_neg pe_int) (pa_cons pe_int (pa_cons (pe_op op_sub (pe_un un_neg pe_int) (pv 2)) (pa_cons (pe_op op_add pe_int (pv 2)) pa_nil))))) (pa_cons (pe_lst (pa_cons (pe_un un_neg pe_int) (pa_cons pe_int (pa_cons (pe_op op_sub (pe_un un_neg pe_int) (pv 2)) (pa_cons (pe_op op_add pe_int (pv 2)) pa_nil))))) pa_nil)))))
        (pss_cons (ps_set (i := 4) sc__law_bad_line.nd rfl (Or.inr rfl) (pe_fn h__law_off hr rfl (pa_cons (pv 0) (pa_cons pe_int pa_nil))))
        (pss_cons (ps_setLc (i := 5) (own := [("_law_k", 6)]) (g := gName 6) rfl sc__law_bad_line.nd rfl rfl (sw_true rfl rfl rfl (by decide +kernel)) (pi_range1 rfl g_range (pa_cons pe_int pa_nil)) (blkOk_by (own := [("_law_k", 6)]) (N := n__law_bad_line) (sc := defScope s__law_bad_line) (by decide +kernel)) (fun _ _ _ _ _ => (pg_name (i := 6) sc__law_bad_line.nd rfl (Or.inl rfl))) (fun _ _ _ _ _ => pts_nil) (fun _ _ _ _ _ => (pe_cutE (pe_ifExp (PW.pt (pw_or (pt_cmpR op_lt (pv 6) (pv 4) (nomark _)) (pw_or1 (PW.pt (pw_and (pt_cmpR op_eq (pe_fn h__law_off hr rfl (pa_cons (pv 0) (pa_cons pe_int pa_nil))) pe_int (nomark _)) (pw_and1 (pt_cmpR op_gt (pv 6) (pv 4) (nomark _)))))))) (pe_ix (r := rIxT K) ix_tup (pv 1) (pv 6) (fun _ _ => rfl)) (pe_ix (r := rIxL K) ix_list (pe_ix (r := rIxL K) ix_list (pv 3) (pv 6) (fun _ _ => rfl)) (pe_fn h__law_off hr rfl (pa_cons (pv 0) (pa_cons pe_int pa_nil))) (fun _ _ => rfl))))))
        (pss_one (ps_ret (pe_tup (pa_cons (pe_callTy call_tuple_of (by rfl) g_tuple (by decide +kernel) (pa_cons (pv 5) pa_nil)) (pa_cons (pe_ix ix_list (pe_lst (pa_cons pe_str (pa_cons pe_str (pa_cons pe_str pa_nil)))) (pv 4) (fun _ _ => rfl)) pa_nil))))))))), ?_⟩
    refine ⟨_, rfl, _, _, rfl, rfl, ⟨by decide, by decide, by decide⟩, d, _, rfl, hd, by decide, by decide, fun r1 H1 h10 h11 D1 => ?_⟩
    refine ⟨_, _, rfl, rfl, _, _, rfl, ?_⟩
    have hfar : 0 ≤ (if r1 - 500000 > 0 then r1 - 500000 else 0) := by split <;> omega
    revert hfar
    generalize (if r1 - 500000 > 0 then r1 - 500000 else 0) = far
    intro hfar
    refine ⟨_, rfl, _, rfl, _, _, rfl, rfl, _, rfl, _, _, rfl, rfl, szle (Nat.le_of_ble_eq_true rfl), fun o1 no1 => ⟨_, rfl, _, rfl, _, rfl, _, _, rfl, rfl, _, rfl, _, _, rfl, rfl, szle (Nat.le_of_ble_eq_true rfl), fun o2 no2 => ⟨_, rfl, _, rfl, _, rfl, _, _, rfl, rfl, _, rfl, _, _, rfl, rfl, szle (Nat.le_of_ble_eq_true rfl), fun o3 no3 => ⟨szle (Nat.le_of_ble_eq_true rfl), fun oo noo => ?_⟩⟩⟩⟩
    dsimp only
    have S2 : Same H1 (upd (upd (upd (upd H1 o1 (.lst [V.int 0, V.int 5, V.int (-1 - far), V.int (5 + far)])) o2 (.lst [V.int (-1), V.int 4, V.int (-1 - far), V.int (4 + far)])) o3 (.lst [V.int (-1), V.int 3, V.int (-1 - far), V.int (3 + far)])) oo (.lst [V.ref o1, V.ref o2, V.ref o3])) := Same.moreB (Same.moreB (Same.moreB (Same.newB no1) no2) no3) noo
    have ho1 : (upd (upd (upd (upd H1 o1 (.lst [V.int 0, V.int 5, V.int (-1 - far), V.int (5 + far)])) o2 (.lst [V.int (-1), V.int 4, V.int (-1 - far), V.int (4 + far)])) o3 (.lst [V.int (-1), V.int 3, V.int (-1 - far), V.int (3 + far)])) oo (.lst [V.ref o1, V.ref o2, V.ref o3])) o1 = some (.lst (([0, 5, -1 - far, 5 + far] : List Int).map V.int)) := (Same.newB noo) _ _ ((Same.newB no3) _ _ ((Same.newB no2) _ _ upd_same))
    have ho2 : (upd (upd (upd (upd H1 o1 (.lst [V.int 0, V.int 5, V.int (-1 - far), V.int (5 + far)])) o2 (.lst [V.int (-1), V.int 4, V.int (-1 - far), V.int (4 + far)])) o3 (.lst [V.int (-1), V.int 3, V.int (-1 - far), V.int (3 + far)])) oo (.lst [V.ref o1, V.ref o2, V.ref o3])) o2 = some (.lst (([-1, 4, -1 - far, 4 + far] : List Int).map V.int)) := (Same.newB noo) _ _ ((Same.newB no3) _ _ upd_same)
    have ho3 : (upd (upd (upd (upd H1 o1 (.lst [V.int 0, V.int 5, V.int (-1 - far), V.int (5 + far)])) o2 (.lst [V.int (-1), V.int 4, V.int (-1 - far), V.int (4 + far)])) o3 (.lst [V.int (-1), V.int 3, V.int (-1 - far), V.int (3 + far)])) oo (.lst [V.ref o1, V.ref o2, V.ref o3])) o3 = some (.lst (([-1, 3, -1 - far, 3 + far] : List Int).map V.int)) := (Same.newB noo) _ _ upd_same
    have hoo : (upd (upd (upd (upd H1 o1 (.lst [V.int 0, V.int 5, V.int (-1 - far), V.int (5 + far)])) o2 (.lst [V.int (-1), V.int 4, V.int (-1 - far), V.int (4 + far)])) o3 (.lst [V.int (-1), V.int 3, V.int (-1 - far), V.int (3 + far)])) oo (.lst [V.ref o1, V.ref o2, V.ref o3])) oo = some (.lst [V.ref o1, V.ref o2, V.ref o3]) := upd_same
    have hood : oo ≠ d := D1.dice.ne (Same.free (Same.moreB (Same.moreB (Same.newB no1) no2) no3) noo)
    have ho1d : o1 ≠ d := D1.dice.ne no1
    have ho2d : o2 ≠ d := D1.dice.ne (Same.free (Same.newB no1) no2)
    have ho3d : o3 ≠ d := D1.dice.ne (Same.free (Same.moreB (Same.newB no1) no2) no3)
    revert S2 ho1 ho2 ho3 hoo
    generalize upd (upd (upd (upd H1 o1 (.lst [V.int 0, V.int 5, V.int (-1 - far), V.int (5 + far)])) o2 (.lst [V.int (-1), V.int 4, V.int (-1 - far), V.int (4 + far)])) o3 (.lst [V.int (-1), V.int 3, V.int (-1 - far), V.int (3 + far)])) oo (.lst [V.ref o1, V.ref o2, V.ref o3]) = H2
    intro S2 ho1 ho2 ho3 hoo
    have hodd : ∀ j : Nat, j < 3 → ∃ (o : Addr) (xs : List Int), o ≠ d ∧ atI [V.ref o1, V.ref o2, V.ref o3] (j : Int) = some (.ref o) ∧ H2 o = some (.lst (xs.map V.int)) ∧ xs.length = 4 ∧ ∀ x ∈ xs, badc j x := fun j hj => by
      have h3 : j = 0 ∨ j = 1 ∨ j = 2 := by omega
      rcases h3 with rfl | rfl | rfl
      · refine ⟨o1, _, ho1d, atI_nat (j := 0) rfl, ho1, rfl, fun x hx => ?_⟩
        simp only [List.mem_cons, List.not_mem_nil, or_false] at hx
        show ¬ (1 ≤ x ∧ x ≤ 4)
        omega
      · refine ⟨o2, _, ho2d, atI_nat (j := 1) rfl, ho2, rfl, fun x hx => ?_⟩
        simp only [List.mem_cons, List.not_mem_nil, or_false] at hx
        show ¬ (0 ≤ x ∧ x ≤ 3)
        omega
      · refine ⟨o3, _, ho3d, atI_nat (j := 2) rfl, ho3, rfl, fun x hx => ?_⟩
        simp only [List.mem_cons, List.not_mem_nil, or_false] at hx
        show ¬ (0 ≤ x ∧ x ≤ 2)
        omega
    have D2 := D1.same S2
    have hlpd : lp ≠ d := by
      obtain ⟨ys, z1, _⟩ := hd
      exact ne_of hlp z1 (by intro z; cases z)
    refine ⟨_, rfl, d, 3, rfl, D2.dice, by decide, by decide, fun at' H3 ha0 ha1 D3 => ?_⟩
    obtain ⟨at_, rfl⟩ := Int.eq_ofNat_of_zero_le ha0
    have hat3 : at_ < 3 := by omega
    have hoo3 := D3.keep _ _ hood hoo
    have hlp3 := D3.keep _ _ hlpd (D2.keep _ _ hlpd hlp)
    refine ⟨_, rfl, by decide, by decide, fun D nD => lc_range (lo := 0) (n := Int.toNat 3) (fun i H' => Dr d H3 H' ∧ ∃ ms : List Int, H' D = some (.lst (ms.map V.int)) ∧ ms.length = i ∧ ∀ (j : Nat) (m : Int), ms[j]? = some m → (j < at_ → m = cmpL l j) ∧ (j = at_ → badc j m)) ⟨(Dr.refl D3.dice).new nD, [], upd_same, rfl, fun j m h => (nomatch h)⟩ ?_ ?_⟩
    · rintro j H4 hj ⟨D4, ms, e4, l4, b4⟩
      have hDd : D ≠ d := D3.dice.ne nD
      refine ⟨rfl, fun v H' => ∃ m : Int, v = .int m ∧ Dr d H4 H' ∧ (j < at_ → m = cmpL l j) ∧ (j = at_ → badc j m), ?_, ?_⟩
      · have hj3 : j < 3 := by have : j < Int.toNat 3 := hj; omega
        have e0 : (0 : Int) + (j : Int) = (j : Int) := Int.zero_add _
        rw [e0]
        obtain ⟨o, xs, hod, hat1, hox, hxl, hxb⟩ := hodd j hj3
        have hlj : atI l.vs (j : Int) = some (.int (cmpL l j)) := by
          have h3 : j = 0 ∨ j = 1 ∨ j = 2 := by omega
          rcases h3 with rfl | rfl | rfl
          · exact atI_nat (j := 0) rfl
          · exact atI_nat (j := 1) rfl
          · exact atI_nat (j := 2) rfl
        have D34 := D3.trans D4
        have leafL : ∀ H', Dr d H4 H' → j ≠ at_ → tOp (rIxT K) (tVar 1) (tVar 6) (List.set (wipe (((List.set (L2.start n__law_bad_line [V.ref d, V.ref lp]) 2 (some (V.int far))).set 3 (some (V.ref oo))).set 4 (some (V.int (at_ : Int)))) (List.map (fun x => x.snd) [(Str.ofString "_law_k", 6)])) 6 (some (V.int (j : Int)))) H' (fun v H' => ∃ m, v = V.int m ∧ Dr d H4 H' ∧ (j < at_ → m = cmpL l j) ∧ (j = at_ → badc j m)) := fun H' D' hne =>
          ⟨_, rfl, _, rfl, lp, _, _, _, rfl, rfl, SqT.of (D'.keep _ _ hlpd (D4.keep _ _ hlpd hlp3)), hlj, cmpL l j, rfl, D', fun _ => rfl, fun h => absurd h hne⟩
        have leafO : ∀ H', Dr d H4 H' → ¬ j < at_ → tOp (rIxL K) (tOp (rIxL K) (tVar 3) (tVar 6)) (tCall spOff [] E0 (tCons (tVar 0) (tCons (tC (V.int 4)) tNil))) (List.set (wipe (((List.set (L2.start n__law_bad_line [V.ref d, V.ref lp]) 2 (some (V.int far))).set 3 (some (V.ref oo))).set 4 (some (V.int (at_ : Int)))) (List.map (fun x => x.snd) [(Str.ofString "_law_k", 6)])) 6 (some (V.int (j : Int)))) H' (fun v H' => ∃ m, v = V.int m ∧ Dr d H4 H' ∧ (j < at_ → m = cmpL l j) ∧ (j = at_ → badc j m)) := fun H' D' hge => by
          refine ⟨_, rfl, _, rfl, oo, _, _, _, rfl, rfl, SqL.of (D'.keep _ _ hood (D4.keep _ _ hood hoo3)), hat1, _, rfl, d, 4, rfl, D'.dice, by decide, by decide, fun r4 H'' h40 h41 D'' => ?_⟩
          obtain ⟨v, hv, hat2⟩ := atI_mem (zs := xs.map V.int) h40 (by rw [List.length_map, hxl]; exact h41)
          obtain ⟨m, hm, rfl⟩ := List.mem_map.mp hv
          exact ⟨o, _, _, _, rfl, rfl, SqL.of (D''.keep _ _ hod (D'.keep _ _ hod (D34.keep _ _ hod hox))), hat2, m, rfl, D'.trans D'', fun h => absurd h hge, fun _ => hxb m hm⟩
        refine ⟨_, rfl, _, rfl, _, _, rfl, rfl, _, rfl, iteD (fun h => ?_) (fun h => ?_)⟩
        · exact leafL _ (Dr.refl D4.dice) (by omega)
        · have hge : ¬ j < at_ := by omega
          refine ⟨_, rfl, d, 2, rfl, D4.dice, by decide, by decide, fun r2 H5 h20 h21 D5 => ⟨rfl, _, rfl, iteD (fun _ => ?_) (fun _ => leafO _ D5 hge)⟩⟩
          exact ⟨_, rfl, _, rfl, _, _, rfl, rfl, _, rfl, iteD (fun h2 => leafL _ D5 (by omega)) (fun h2 => leafO _ D5 hge)⟩
      · rintro v H5 ⟨m, rfl, D5, m1, m2⟩
        refine ⟨_, D5.keep _ _ hDd e4, szlt (by rw [List.length_map]; omega), (D4.trans D5).mutB D3.dice nD, ms ++ [m], by rw [upd_same, List.map_append]; rfl, by rw [List.length_append, l4]; rfl, fun i m' h => ?_⟩
        rcases Nat.lt_or_ge i ms.length with hi | hi
        · rw [List.getElem?_append_left hi] at h
          exact b4 i m' h
        · have hi2 := (List.getElem?_eq_some_iff.mp h).1
          rw [List.length_append] at hi2
          have hi3 : i = ms.length := by
            have : i < ms.length + 1 := hi2
            omega
          subst hi3
          rw [List.getElem?_append_right (Nat.le_refl _), Nat.sub_self] at h
          cases h
          rw [l4]
          exact ⟨m1, m2⟩
    · rintro H4 ⟨D4, ms, e4, l4, b4⟩
      have l3 : ms.length = 3 := l4
      match ms, l3 with
      | [x, y, z], _ =>
        have g0 := b4 0 x rfl
        have g1 := b4 1 y rfl
        have g2 := b4 2 z rfl
        obtain ⟨why, hwhy, hB⟩ : ∃ why : Str, atI [V.str "each", V.str "late", V.str "lost"] (at_ : Int) = some (.str why) ∧ BadL x y z why := by
          have e1 := lo.e1
          have e4' := lo.e4
          have l3' := lo.l3
          have s2' := lo.s2
          have h3 : at_ = 0 ∨ at_ = 1 ∨ at_ = 2 := by omega
          rcases h3 with rfl | rfl | rfl
          · exact ⟨"each", atI_nat (j := 0) rfl, .inl ⟨rfl, g0.2 rfl⟩⟩
          · have hx : x = (l.each : Int) := g0.1 (by decide)
            exact ⟨"late", atI_nat (j := 1) rfl, .inr (.inl ⟨rfl, by omega, g1.2 rfl⟩)⟩
          · have hx : x = (l.each : Int) := g0.1 (by decide)
            have hy : y = (l.late : Int) := g1.1 (by decide)
            exact ⟨"lost", atI_nat (j := 2) rfl, .inr (.inr ⟨rfl, by omega, by omega, g2.2 rfl⟩)⟩
        refine ⟨_, rfl, D, _, rfl, .inl ⟨SqL.of e4, fun tp ntp => ⟨szle (Nat.le_of_ble_eq_true rfl), fun u nu => ⟨_, rfl, u, _, _, _, rfl, rfl, SqL.of upd_same, hwhy, szle (Nat.le_of_ble_eq_true rfl), fun p np => ?_⟩⟩⟩⟩
        refine k x y z why p tp _ hB ((((D2.trans D3).trans D4).new ntp).new nu |>.new np) upd_same ?_
        exact (Same.newB np) _ _ ((Same.newB nu) _ _ upd_same)
end
end Bw

set_option Elab.async false
set_option linter.all false
set_option maxRecDepth 100000
set_option maxHeartbeats 4000000
namespace Bw
open PySem PySem.Spec PyProof.Rows L2
section
variable {P : Program} {w : World} {K : PySem.W.Frag} {mg : Str → Option Value} {base : Heap} {f : Addr} {fd : FuncData}
theorem cut_toV (l : List V) (n : Nat) : cutV l none (some (n : Int)) = l.take n := by
  unfold cutV
  rw [HT.sIx_none, HT.sIx_nat, List.drop_zero, Nat.sub_zero]
  by_cases h : n ≤ l.length
  · rw [Nat.min_eq_left h]
  · rw [Nat.min_eq_right (by omega), List.take_of_length_le (Nat.le_refl _), List.take_of_length_le (by omega)]
theorem tabS_mv {H H' : Hp} {TP : Addr} {q : Str} (T : LamX.TabS H TP q) (mv : ∀ (b : Addr) (o : HO), H b = some o → (∀ xs, o ≠ .lst xs) → H' b = some o) : LamX.TabS H' TP q := by
  obtain ⟨pp, q1, q2, q3⟩ := T
  refine ⟨pp, mv _ _ q1 (fun xs z => nomatch z), q2, fun pos cv hcv => ?_⟩
  obtain ⟨cc, z1, z2⟩ := q3 pos cv hcv
  exact ⟨cc, z1, mv _ _ z2 (fun xs z => by
    have z' : HO.ext _ = HO.lst xs := z
    cases z')⟩
theorem mv_mut {H : Hp} {wp : Addr} {xs ys : List V} (h : H wp = some (.lst xs)) : ∀ (b : Addr) (o : HO), H b = some o → (∀ xs, o ≠ .lst xs) → (upd H wp (.lst ys)) b = some o := fun b o e n => by
  rw [upd_ne (ne_of e h (n _))]
  exact e
theorem mv_dr {H H' : Hp} {d : Addr} (hd : DiceAt H d) (D : Dr d H H') : ∀ (b : Addr) (o : HO), H b = some o → (∀ xs, o ≠ .lst xs) → H' b = some o := fun b o e n => by
  obtain ⟨ys, z1, _⟩ := hd
  exact D.keep _ _ (ne_of e z1 (n _)) e
def spW1 (sp : Sp) : List (Option V) → Hp → VK → XK → Prop := fun ws H Q E => ∃ u, ws = [some u] ∧ sp [u] H Q E
def spW2 (sp : Sp) : List (Option V) → Hp → VK → XK → Prop := fun ws H Q E => ∃ u v, ws = [some u, some v] ∧ sp [u, v] H Q E
def spWl (sp : Sp) : List (Option V) → Hp → VK → XK → Prop := fun ws H Q E => ∃ u v, ws = [some u, some v] ∧ sp [u] H Q E
theorem pick2 {r a b : Int} (h0 : 0 ≤ r) (h1 : r < 2) : ∃ e : Int, (e = a ∨ e = b) ∧ atI [V.int a, V.int b] r = some (V.int e) := by
  obtain ⟨n, rfl⟩ := Int.eq_ofNat_of_zero_le h0
  have h : n = 0 ∨ n = 1 := by omega
  rcases h with rfl | rfl
  · exact ⟨a, .inl rfl, atI_nat (j := 0) rfl⟩
  · exact ⟨b, .inr rfl, atI_nat (j := 1) rfl⟩
theorem rep1 {α : Type} (x : α) : ∀ n : Nat, (List.replicate n [x]).flatten = List.replicate n x
  | 0 => rfl
  | n + 1 => by
    rw [List.replicate_succ, List.replicate_succ, List.flatten_cons, rep1 x n]
    rfl
theorem ok_law {C : Wd → Addr} {W c TP : Addr} (F : FnP K "law" s_law f fd) (hcode : fd.code = .ref c) (TB : LamX.TabB base mg c TP) (g_len : mg "len" = none) (g_isinstance : mg "isinstance" = none) (g_bool : mg "bool" = none) (g_tuple : mg "tuple" = none)
    (h__law_dice : Has P w K mg base 1 "_law_dice" p__law_dice (spDice K)) (h__law_off : Has P w K mg base 1 "_law_off" p__law_off spOff) (h__law_line : Has P w K mg base 2 "_law_line" ["_law_d"] spLine) (h__law_rule : Has P w K mg base 2 "_law_rule" ["_law_d"] spRule)
    (h__law_bad_line : Has P w K mg base 2 "_law_bad_line" p__law_bad_line (spBadLine K)) (h__law_bad_rule : Has P w K mg base 2 "_law_bad_rule" p__law_bad_rule spBadRule)
    (h_may : Has P w K mg base 3 "may" p_may (spMay K)) (h_latest : Has P w K mg base 18 "latest" p_latest (spLatest K)) (h_told : Has P w K mg base 5 "told" p_told (spTold K)) (h_turns : Has P w K mg base 6 "turns" p_turns (spTurns K))
    (h_mayXl : HasN P w K mg base 4 "may" p_may (spLineX2 K (C .line))) (h_false_rowXl : HasN P w K mg base 4 "false_row" p_false_row (spLineX2 K (C .line))) (h_latestXl : HasN P w K mg base 4 "latest" p_latest (spLineX2 K (C .line))) (h_chosenXl : HasN P w K mg base 4 "chosen" p_chosen (spLineX2 K (C .line)))
    (h_false_rowXr : HasN P w K mg base 4 "false_row" p_false_row (spLRX K (C .rule))) (h_latestXr : HasN P w K mg base 4 "latest" p_latest (spLRX K (C .rule))) (h_toldXr : HasN P w K mg base 4 "told" p_told (spRuleX2 K (C .rule))) (h_turnsXr : HasN P w K mg base 5 "turns" p_turns (spRuleX2 K (C .rule)))
    (h_WatcherX : HasCN P w K mg base 4 "Watcher" W p_Watcher___init__ (spWInitX K (C .rule))) (h_chosenXr : HasN P w K mg base 3 "chosen" p_chosen (spChosenX K (C .rule))) (h__law_refused : HasR P w K mg base 6 C) : FnOk P w K mg base CX0 20 f fd p_law (spLawT K TP) := by
  refine okT F sc_law (fun vs H Q E h => ?_) (fun A outer s H vs Q E hr h => ?_)
  · obtain ⟨a, ns, rfl, _⟩ := h
    rfl
  · obtain ⟨a, ns, rfl, hS, hlen, hT, k⟩ := h
    refine ⟨_, PSs.nox (pss_cons (ps_set (i := 1) sc_law.nd rfl (Or.inl rfl) (pe_fn h__law_dice hr rfl (pa_cons (pv 0) (pa_cons pe_int pa_nil))))
        (pss_cons (ps_asg (pe_tup (pa_cons (pe_fn h__law_line hr rfl (pa_cons (pv 1) pa_nil)) (pa_cons (pe_fn h__law_rule hr rfl (pa_cons (pv 1) pa_nil)) pa_nil))) (pg_tup rfl (pgs_cons (pg_name (i := 2) sc_law.nd rfl (Or.inr rfl)) (pgs_cons (pg_name (i := 3) sc_law.nd rfl (Or.inl rfl)) pgs_nil))))
        (pss_cons (ps_asg (pe_fn h__law_bad_line hr rfl (pa_cons (pv 1) (pa_cons (pv 2) pa_nil))) (pg_tup rfl (pgs_cons (pg_name (i := 4) sc_law.nd rfl (Or.inr rfl)) (pgs_cons (pg_name (i := 5) sc_law.nd rfl (Or.inr rfl)) pgs_nil))))
        (pss_cons (ps_set (i := 6) sc_law.nd rfl (Or.inr rfl) (pe_fn h__law_bad_rule hr rfl (pa_cons (pv 1) pa_nil)))
        (pss_cons (ps_set (i := 7) sc_law.nd rfl (Or.inl rfl) (pe_lst (pa_cons (pe_lam0 TB hcode rfl (NdefX.ndef_free (sc := defScope s_law) (fr := ["_law_bad"]) (by decide +kernel)) rfl) (pa_cons (pe_lamD TB hcode rfl (NdefX.ndef_free (sc := defScope s_law) (fr := ["_law_bad", "_law_odd"]) (by decide +kernel)) rfl rfl) (pa_cons (pe_lamD TB hcode rfl (NdefX.ndef_free (sc := defScope s_law) (fr := ["_law_bad", "_law_odd"]) (by decide +kernel)) rfl rfl) pa_nil)))))
        (pss_cons (ps_expr (pe_bm PySem.F.plainAttrs_list PySem.F.slot_list_append PySem.F.type_list_append mt_append (pv 7) (pa_cons (pe_lam0 TB hcode rfl (NdefX.ndef_free (sc := defScope s_law) (fr := ["_law_bad", "_law_odd"]) (by decide +kernel)) rfl) pa_nil)))
        (pss_cons (ps_if (pt_cmpR (op_neD hr.units) (pe_lcR (own := [("_law_work", 8)]) (g := gName 8) rfl sc_law.nd (pv 7) (blkOk_by (own := [("_law_work", 8)]) (N := n_law) (sc := defScope s_law) (by decide +kernel)) (fun _ _ _ _ _ => (pg_name (i := 8) sc_law.nd rfl (Or.inl rfl))) (fun _ _ _ _ _ _ hact => (pts_one (pt_not (pt_val (pe_refusedB hact h__law_refused hr rfl (pa_cons (pv 8) (pa_cons pe_str (pa_cons (pv 5) pa_nil)))))))) (fun _ _ _ _ _ => (pv 8))) (pe_lst pa_nil) (nomark _))
          (pss_one (ps_ret pe_bl))
          pss_nil)
        (pss_cons (ps_set (i := 7) sc_law.nd rfl (Or.inl rfl) (pe_lst (pa_cons (pe_lam0 TB hcode rfl (NdefX.ndef_free (sc := defScope s_law) (fr := ["_law_line_here", "_law_odd"]) (by decide +kernel)) rfl) (pa_cons (pe_lamD TB hcode rfl (NdefX.ndef_free (sc := defScope s_law) (fr := ["_law_line_here", "_law_odd"]) (by decide +kernel)) rfl rfl) (pa_cons (pe_lamD TB hcode rfl (NdefX.ndef_free (sc := defScope s_law) (fr := ["_law_odd"]) (by decide +kernel)) rfl rfl) pa_nil)))))
        (pss_cons (ps_set (i := 7) sc_law.nd rfl (Or.inl rfl) (pe_op op_cat (pv 7) (pe_lst (pa_cons (pe_lam0 TB hcode rfl (NdefX.ndef_free (sc := defScope s_law) (fr := ["_law_odd"]) (by decide +kernel)) rfl) (pa_cons (pe_lamD TB hcode rfl (NdefX.ndef_free (sc := defScope s_law) (fr := ["_law_odd"]) (by decide +kernel)) rfl rfl) pa_nil)))))
        (pss_cons (ps_if (pt_cmpR (op_neD hr.units) (pe_lcR (own := [("_law_work", 8)]) (g := gName 8) rfl sc_law.nd (pv 7) (blkOk_by (own := [("_law_work", 8)]) (N := n_law) (sc := defScope s_law) (by decide +kernel)) (fun _ _ _ _ _ => (pg_name (i := 8) sc_law.nd rfl (Or.inl rfl))) (fun _ _ _ _ _ _ hact => (pts_one (pt_not (pt_val (pe_refusedB hact h__law_refused hr rfl (pa_cons (pv 8) (pa_cons pe_str (pa_cons pe_int pa_nil)))))))) (fun _ _ _ _ _ => (pv 8))) (pe_lst pa_nil) (nomark _))
          (pss_one (ps_ret pe_bl))
          pss_nil)
        (pss_cons (ps_set (i := 9) sc_law.nd rfl (Or.inr rfl) (pe_op op_rep (pe_lst (pa_cons (pe_tup (pa_cons pe_str (pa_cons pe_int pa_nil))) pa_nil)) (pe_fn h__law_off hr rfl (pa_cons (pv 1) (pa_cons (pe_ix ix_list (pe_lst (pa_cons pe_int (pa_cons pe_int pa_nil))) (pe_fn h__law_off hr rfl (pa_cons (pv 1) (pa_cons pe_int pa_nil))) (fun _ _ => rfl)) pa_nil)))))
        (pss_cons (ps_set (i := 10) sc_law.nd rfl (Or.inl rfl) (pe_fn h__law_off hr rfl (pa_cons (pv 1) (pa_cons (pe_op op_add (pe_callB call_len_seq (by rfl) g_len (by decide +kernel) (pa_cons (pv 9) pa_nil)) pe_int) pa_nil))))
        (pss_cons (ps_set (i := 9) sc_law.nd rfl (Or.inr rfl) (pe_slice sl_list (pe_op op_cat (pe_op op_cat (pe_op op_cat (pe_slice sl_list (pv 9) po_none (po_some (pv 10))) (pe_lst (pa_cons (pv 6) pa_nil))) (pe_slice sl_list (pv 9) (po_some (pv 10)) po_none)) (pe_op op_rep (pe_lst (pa_cons (pe_tup (pa_cons pe_str (pa_cons pe_int pa_nil))) pa_nil)) (pe_fn h__law_off hr rfl (pa_cons (pv 1) (pa_cons pe_int pa_nil))))) po_none (po_some pe_int)))
        (pss_cons (ps_if (pt_not (pt_val (pe_refused h__law_refused hr rfl (pa_cons (pe_lam0 TB hcode rfl (NdefX.ndef_free (sc := defScope s_law) (fr := ["_law_line_here", "_law_rules"]) (by decide +kernel)) rfl) (pa_cons pe_str (pa_cons (pv 10) pa_nil))))))
          (pss_one (ps_ret pe_bl))
          pss_nil)
        (pss_cons (ps_if (PW.pt (pw_or (pt_not (pt_val (pe_callB call_isi (by rfl) g_isinstance (by decide +kernel) (pa_cons (pe_fn h_may hr rfl (pa_cons (pv 2) (pa_cons (pe_lst pa_nil) pa_nil))) (pa_cons (pe_bltn (v := .ty "bool") (by rfl) g_bool (by decide +kernel) rfl) pa_nil))))) (pw_or1 (pt_not (pt_val (pe_callB call_isi (by rfl) g_isinstance (by decide +kernel) (pa_cons (pe_fn h_latest hr rfl (pa_cons (pv 2) (pa_cons (pe_tup (pa_cons pe_str (pa_cons pe_int pa_nil))) pa_nil))) (pa_cons (pe_bltn (v := .ty "tuple") (by rfl) g_tuple (by decide +kernel) rfl) pa_nil))))))))
          (pss_one (ps_ret pe_bl))
          pss_nil)
        (pss_one (ps_ret (pe_and (pe_cmpR (op_eqD hr.units) (pe_fn h_told hr rfl (pa_cons (pv 3) (pa_cons (pe_lst pa_nil) pa_nil))) (pe_lst pa_nil) (nomark _)) (pe_one (pe_cmpR (op_eqD hr.units) (pe_fn h_turns hr rfl (pa_cons (pv 3) (pa_cons (pe_lst pa_nil) pa_nil))) (pe_lst pa_nil) (nomark _))))))))))))))))))))), ?_⟩
    refine ⟨_, rfl, a, 0, ns, rfl, hS, hlen, fun d H1 s1 nd hd => ?_⟩
    have hT1 := s1 _ _ hT
    refine ⟨_, rfl, d, rfl, hd, fun l lp H2 lo _ D2 nlp hlp => ⟨_, rfl, d, rfl, D2.dice, fun r q H3 ro D3 nq hq => ⟨szle (Nat.le_of_ble_eq_true rfl), fun t nt => ?_⟩⟩⟩
    have sT : Same H3 (upd H3 t (.tup [.ref lp, .ref q])) := Same.newB nt
    have D13 := D2.trans (D3.same sT)
    have hTd : TP ≠ d := by
      obtain ⟨ys, g1, _⟩ := hd
      exact ne_of hT1 g1 (by intro z; cases z)
    have hlpd : lp ≠ d := hd.ne nlp
    have hqd : q ≠ d := D2.dice.ne nq
    refine ⟨t, _, rfl, SqT.of upd_same, rfl, _, _, rfl, _, _, rfl, rfl, ?_⟩
    have hT3 := D13.keep _ _ hTd hT1
    have hlp3 := sT _ _ (D3.keep _ _ hlpd hlp)
    have hq3 := sT _ _ hq
    have hd3 := D13.dice
    revert hT3 hlp3 hq3 hd3
    generalize upd H3 t (.tup [.ref lp, .ref q]) = H4
    intro hT3 hlp3 hq3 hd3
    refine ⟨_, rfl, _, rfl, d, lp, l, rfl, hd3, hlp3, lo, fun x y z why bp tp H5a hB D5a hbp htp => ⟨bp, _, rfl, SqT.of hbp, rfl, _, _, rfl, _, _, rfl, rfl, ?_⟩⟩
    refine ⟨_, rfl, d, rfl, D5a.dice, fun ox ons op H5 hOB D5b hop => ?_⟩
    have D45 := D5a.trans D5b
    have htpd : tp ≠ d := by
      obtain ⟨ys, g1, _⟩ := D5a.dice
      exact ne_of htp g1 (by intro z; cases z)
    have hT5 := D45.keep _ _ hTd hT3
    have hlp5 := D45.keep _ _ hlpd hlp3
    have hq5 := D45.keep _ _ hqd hq3
    have htp5 := D5b.keep _ _ htpd htp
    have hd5 := D45.dice
    clear D45 D5a D5b D13 D3 D2 hbp htp hq hlp
    refine ⟨LamX.TabS.nil hT5, fun f1 c1 H6 g6 T6 nf1 hf1 hc1 => ⟨T6, fun f2 c2 t2 H7 g7 T7 nf2 hf2 hc2 ht2 => ⟨T7, fun f3 c3 t3 H8 g8 T8 nf3 hf3 hc3 ht3 => ⟨szle (Nat.le_of_ble_eq_true rfl), fun wp nwp => ?_⟩⟩⟩⟩
    have sW : Same H8 (upd H8 wp (.lst [.ref f1, .ref f2, .ref f3])) := Same.newB nwp
    refine ⟨_, rfl, Or.inl ⟨rfl, _, SqL.of upd_same⟩, tabS_same T8 sW, fun f4 c4 H9 g9 T9 nf4 hf4 hc4 => ?_⟩
    have g89 := (Grow.of sW).trans g9
    have g79 := g8.trans g89
    have g69 := g7.trans g79
    have g59 := g6.trans g69
    have hwp9 : H9 wp = some (.lst [.ref f1, .ref f2, .ref f3]) := g9.ext _ _ upd_same (fun ps z => nomatch z)
    refine ⟨wp, _, _, rfl, rfl, hwp9, szlt (Nat.le_of_ble_eq_true rfl), ?_⟩
    have sZ := mv_mut (ys := [.ref f1, .ref f2, .ref f3] ++ [.ref f4]) hwp9
    have hzp : (upd H9 wp (.lst ([.ref f1, .ref f2, .ref f3] ++ [.ref f4]))) wp = some (.lst [.ref f1, .ref f2, .ref f3, .ref f4]) := upd_same
    have hdz : DiceAt (upd H9 wp (.lst ([.ref f1, .ref f2, .ref f3] ++ [.ref f4]))) d := by
      obtain ⟨ys, z1, z2⟩ := hd5
      refine ⟨ys, ?_, z2⟩
      have h8 : H8 d = some (.lst ys) := ((g6.trans g7).trans g8).ext _ _ z1 (fun ps z => nomatch z)
      rw [upd_ne (ne_of_none h8 nwp)]
      exact g59.ext _ _ z1 (fun ps z => nomatch z)
    have Tz := tabS_mv T9 sZ
    revert sZ hzp hdz Tz
    generalize upd H9 wp (.lst ([.ref f1, .ref f2, .ref f3] ++ [.ref f4])) = Hz
    intro sZ hzp hdz Tz
    have lam : ∀ {H : Hp} {f : Addr} {L : LF} {dV : Value}, Grow H H9 → H f = some (LamO f L dV) → Hz f = some (LamO f L dV) := fun {H f L dV} g e => sZ _ _ (g.ext _ _ e (fun ps z => by
      have z' : HO.ext _ = HO.tbl ps := z
      cases z')) (fun xs z => by
      have z' : HO.ext _ = HO.lst xs := z
      cases z')
    have cod : ∀ {H : Hp} {c : Addr} {q : Str}, Grow H H9 → H c = some (LamX.CodeO c q) → Hz c = some (LamX.CodeO c q) := fun {H c q} g e => sZ _ _ (g.ext _ _ e (fun ps z => by
      have z' : HO.ext _ = HO.tbl ps := z
      cases z')) (fun xs z => by
      have z' : HO.ext _ = HO.lst xs := z
      cases z')
    have tup : ∀ {H : Hp} {b : Addr} {xs : List V}, Grow H H9 → H b = some (.tup xs) → Hz b = some (.tup xs) := fun {H b xs} g e => sZ _ _ (g.ext _ _ e (fun ps z => nomatch z)) (fun xs z => nomatch z)
    have key : ∀ y ∈ [V.ref f1, V.ref f2, V.ref f3, V.ref f4], ∃ (fl : Addr) (L : LF) (dV : Value) (T : Hp → VK → XK → Prop), y = .ref fl ∧ Hz fl = some (LamO fl L dV) ∧ LamG (cxOf CX0 P w K mg base n_law (Str.ofString "law") (defScope s_law) f fd.code A outer s H E).nox 6 [some (V.ref a), some (V.ref d), some (V.ref lp), some (V.ref q), some (V.ref tp), some (V.str why), some (V.ref op), some (V.ref wp), none, none, none] L dV T ∧ ∀ H', Same Hz H' → ∀ (Q' : VK) (E' : XK), Refused (C .line) "why" (.str why) H' E' → T H' Q' E' := by
      intro y hy
      rcases List.mem_cons.mp hy with rfl | hy
      · refine ⟨f1, _, _, _, rfl, lam g69 hf1, LamG.of (js := [4]) (ps := []) (fr := ["_law_bad"]) (vs := []) (sp := spW1 (spNeedLineX K (C .line))) (lamOk_of (N := ["_law_bad"]) (k := 5) (NdefX.nscope_by (by dsimp only; decide +kernel)) (fun _ _ _ _ => rfl) (fun _ _ _ _ _ h => nomatch h) (fun f' A' outer' s' H' ws Q' E' hr' hl' hsp => ?_)) rfl (NdefX.ndef_free (sc := defScope s_law) (fr := ["_law_bad"]) (by decide +kernel)) (NdefX.ndef_fr (sc := defScope s_law) (by decide +kernel)) rfl, fun H' sH Q' E' hE => ⟨sH _ _ (cod g69 hc1), .inl ⟨rfl, rfl, rfl⟩, _, rfl, tp, x, y, z, why, rfl, SqT.of (sH _ _ (tup g59 htp5)), hB, hE⟩⟩
        · obtain ⟨u', rfl, q', x', y', z', why', h0', hq', hb', k'⟩ := hsp
          exact (by cases h0'; exact ⟨_, pe_fnN h_mayXl hr' rfl (L2N.takes_of rfl rfl rfl rfl) (pa_cons (pv 0) (pa_cons (pe_lst (pa_cons (pe_un un_neg pe_int) pa_nil)) pa_nil)), _, rfl, _, rfl, szle (Nat.le_of_ble_eq_true rfl), fun p' np' => ⟨q', x', y', z', why', _, rfl, (Same.newB np').tupB hq', hb', k'.same (Same.newB np')⟩⟩)
      rcases List.mem_cons.mp hy with rfl | hy
      · refine ⟨f2, _, _, _, rfl, lam g79 hf2, LamG.of (js := [4, 6]) (ps := ["_law_a"]) (fr := ["_law_bad", "_law_odd"]) (vs := [.int 0]) (sp := spWl (spNeedLineX K (C .line))) (lamOk_of (N := ["_law_a", "_law_bad", "_law_odd"]) (k := 5) (NdefX.nscope_by (by dsimp only; decide +kernel)) (fun _ _ _ h => nomatch h) (fun t doc pm ctv x h => ?_) (fun f' A' outer' s' H' ws Q' E' hr' hl' hsp => ?_)) rfl (NdefX.ndef_free (sc := defScope s_law) (fr := ["_law_bad", "_law_odd"]) (by decide +kernel)) (NdefX.ndef_fr (sc := defScope s_law) (by decide +kernel)) rfl, fun H' sH Q' E' hE => ⟨sH _ _ (cod g79 hc2), .inr ⟨t2, _, rfl, rfl, rfl, sH _ _ (tup g79 ht2)⟩, _, _, rfl, tp, x, y, z, why, rfl, SqT.of (sH _ _ (tup g59 htp5)), hB, hE⟩⟩
        · cases h
          exact ⟨_, rfl, fun tk => rfl⟩
        · obtain ⟨u', v', rfl, q', x', y', z', why', h0', hq', hb', k'⟩ := hsp
          exact (by cases h0'; exact ⟨_, pe_fnN h_false_rowXl hr' rfl (L2N.takes_of rfl rfl rfl rfl) (pa_cons (pv 1) (pa_cons (pv 2) pa_nil)), _, rfl, _, rfl, q', x', y', z', why', _, rfl, hq', hb', k'⟩)
      rcases List.mem_cons.mp hy with rfl | hy
      · refine ⟨f3, _, _, _, rfl, lam g89 hf3, LamG.of (js := [4, 6]) (ps := ["_law_b"]) (fr := ["_law_bad", "_law_odd"]) (vs := [.int 0]) (sp := spWl (spNeedLineX K (C .line))) (lamOk_of (N := ["_law_b", "_law_bad", "_law_odd"]) (k := 5) (NdefX.nscope_by (by dsimp only; decide +kernel)) (fun _ _ _ h => nomatch h) (fun t doc pm ctv x h => ?_) (fun f' A' outer' s' H' ws Q' E' hr' hl' hsp => ?_)) rfl (NdefX.ndef_free (sc := defScope s_law) (fr := ["_law_bad", "_law_odd"]) (by decide +kernel)) (NdefX.ndef_fr (sc := defScope s_law) (by decide +kernel)) rfl, fun H' sH Q' E' hE => ⟨sH _ _ (cod g89 hc3), .inr ⟨t3, _, rfl, rfl, rfl, sH _ _ (tup g89 ht3)⟩, _, _, rfl, tp, x, y, z, why, rfl, SqT.of (sH _ _ (tup g59 htp5)), hB, hE⟩⟩
        · cases h
          exact ⟨_, rfl, fun tk => rfl⟩
        · obtain ⟨u', v', rfl, q', x', y', z', why', h0', hq', hb', k'⟩ := hsp
          exact (by cases h0'; exact ⟨_, pe_fnN h_latestXl hr' rfl (L2N.takes_of rfl rfl rfl rfl) (pa_cons (pv 1) (pa_cons (pv 2) pa_nil)), _, rfl, _, rfl, q', x', y', z', why', _, rfl, hq', hb', k'⟩)
      rcases List.mem_cons.mp hy with rfl | hy
      · refine ⟨f4, _, _, _, rfl, lam (Grow.refl H9) hf4, LamG.of (js := [4, 6]) (ps := []) (fr := ["_law_bad", "_law_odd"]) (vs := []) (sp := spWl (spNeedLineX K (C .line))) (lamOk_of (N := ["_law_bad", "_law_odd"]) (k := 5) (NdefX.nscope_by (by dsimp only; decide +kernel)) (fun _ _ _ _ => rfl) (fun _ _ _ _ _ h => nomatch h) (fun f' A' outer' s' H' ws Q' E' hr' hl' hsp => ?_)) rfl (NdefX.ndef_free (sc := defScope s_law) (fr := ["_law_bad", "_law_odd"]) (by decide +kernel)) (NdefX.ndef_fr (sc := defScope s_law) (by decide +kernel)) rfl, fun H' sH Q' E' hE => ⟨sH _ _ (cod (Grow.refl H9) hc4), .inl ⟨rfl, rfl, rfl⟩, _, _, rfl, tp, x, y, z, why, rfl, SqT.of (sH _ _ (tup g59 htp5)), hB, hE⟩⟩
        · obtain ⟨u', v', rfl, q', x', y', z', why', h0', hq', hb', k'⟩ := hsp
          exact (by cases h0'; exact ⟨_, pe_fnN h_chosenXl hr' rfl (L2N.takes_of rfl rfl rfl rfl) (pa_cons (pv 0) (pa_cons (pe_lst (pa_cons (pv 1) pa_nil)) pa_nil)), _, rfl, _, rfl, szle (Nat.le_of_ble_eq_true rfl), fun p' np' => ⟨q', x', y', z', why', _, rfl, (Same.newB np').tupB hq', hb', k'.same (Same.newB np')⟩⟩)
      cases hy
    refine ⟨_, rfl, wp, rfl, ⟨_, SqL.of hzp⟩, fun D nD => lc_list (K := K) (a := wp) (xs := [V.ref f1, V.ref f2, V.ref f3, V.ref f4]) (fun i H' => Same Hz H' ∧ H' D = some (.lst [])) ⟨Same.newB nD, upd_same⟩ (fun i H' _ h => SqL.of (h.1 _ _ hzp)) ?_ ?_⟩
    · rintro j y H' hj ⟨s', e'⟩
      obtain ⟨fl, L, dV, T, rfl, hfl, hG, hTT⟩ := key y (List.mem_of_getElem? hj)
      refine ⟨rfl, _, rfl, _, rfl, fl, L, dV, T, .line, .str why, rfl, .inr ⟨_, rfl⟩, s' _ _ hfl, hG, fun Q' E' hE => hTT _ s' Q' E' hE, fun H'' s'' => ⟨true, rfl, ?_⟩⟩
      exact ⟨s'.trans s'', s'' _ _ e'⟩
    rintro Hy ⟨sy, hDy⟩
    refine ⟨szle (Nat.le_of_ble_eq_true rfl), fun ep nep => ?_⟩
    have sE : Same Hy (upd Hy ep (.lst [])) := Same.newB nep
    refine ⟨.list [], .list [], .lst (SqL.of (sE _ _ hDy)) (dp_ints []), .lst (SqL.of upd_same) (dp_ints []), PySem.W.ke_shaped_ints [], PySem.W.ke_shaped_ints [], _, rfl, ?_⟩
    have e9 : (PyData.list []).eqv (PyData.list []) = true := eqv_self (PySem.W.ke_shaped_ints [])
    rw [e9]
    refine iteF ?_
    have sx := sy.trans sE
    have Ga : ∀ (b : Addr) (xs : List V), H5 b = some (.tup xs) → (upd Hy ep (.lst [])) b = some (.tup xs) := fun b xs e => sx _ _ (tup g59 e)
    have hlpa := Ga _ _ hlp5
    have hqa := Ga _ _ hq5
    have hopa := Ga _ _ hop
    have hda := hdz.same sx
    have Ta := tabS_same Tz sx
    clear Ga key lam cod tup
    revert hlpa hqa hopa hda Ta
    generalize upd Hy ep (.lst []) = Ha
    intro hlpa hqa hopa hda Ta
    clear sx e9 sE hDy sy sZ hzp hdz Tz g89 g79 g69 g59 hwp9 sW
    refine ⟨Ta, fun f1 c1 H6 g6 T6 nf1 hf1 hc1 => ⟨T6, fun f2 c2 t2 H7 g7 T7 nf2 hf2 hc2 ht2 => ⟨T7, fun f3 c3 t3 H8 g8 T8 nf3 hf3 hc3 ht3 => ⟨szle (Nat.le_of_ble_eq_true rfl), fun wq nwq => ?_⟩⟩⟩⟩
    have sW : Same H8 (upd H8 wq (.lst [.ref f1, .ref f2, .ref f3])) := Same.newB nwq
    refine ⟨_, rfl, tabS_same T8 sW, fun f4 c4 H9 g9 T9 nf4 hf4 hc4 => ⟨T9, fun f5 c5 t5 Hb gb Tb nf5 hf5 hc5 ht5 => ⟨szle (Nat.le_of_ble_eq_true rfl), fun xp nxp => ?_⟩⟩⟩
    have g8b := ((Grow.of sW).trans g9).trans gb
    have g7b := g8.trans g8b
    have g6b := g7.trans g7b
    have gab := g6.trans g6b
    have hwqb : Hb wq = some (.lst [.ref f1, .ref f2, .ref f3]) := (g9.trans gb).ext _ _ upd_same (fun ps z => nomatch z)
    refine ⟨wq, xp, _, _, rfl, rfl, (Same.newB nxp) _ _ hwqb, upd_same, szle (Nat.le_of_ble_eq_true rfl), fun zp nzp => ?_⟩
    have sZ' : Same Hb (upd (upd Hb xp (.lst [.ref f4, .ref f5])) zp (.lst ([.ref f1, .ref f2, .ref f3] ++ [.ref f4, .ref f5]))) := (Same.newB nxp).moreB nzp
    have hzp : (upd (upd Hb xp (.lst [.ref f4, .ref f5])) zp (.lst ([.ref f1, .ref f2, .ref f3] ++ [.ref f4, .ref f5]))) zp = some (.lst [.ref f1, .ref f2, .ref f3, .ref f4, .ref f5]) := upd_same
    revert sZ' hzp
    generalize upd (upd Hb xp (.lst [.ref f4, .ref f5])) zp (.lst ([.ref f1, .ref f2, .ref f3] ++ [.ref f4, .ref f5])) = Hz
    intro sZ' hzp
    have sZ : ∀ (b : Addr) (o : HO), Hb b = some o → (∀ xs, o ≠ .lst xs) → Hz b = some o := fun b o e _ => sZ' _ _ e
    have hdz : DiceAt Hz d := by
      obtain ⟨ys, z1, z2⟩ := hda
      exact ⟨ys, sZ' _ _ (gab.ext _ _ z1 (fun ps z => nomatch z)), z2⟩
    have Tz := tabS_same Tb sZ'
    have lam : ∀ {H : Hp} {f : Addr} {L : LF} {dV : Value}, Grow H Hb → H f = some (LamO f L dV) → Hz f = some (LamO f L dV) := fun {H f L dV} g e => sZ _ _ (g.ext _ _ e (fun ps z => by
      have z' : HO.ext _ = HO.tbl ps := z
      cases z')) (fun xs z => by
      have z' : HO.ext _ = HO.lst xs := z
      cases z')
    have cod : ∀ {H : Hp} {c : Addr} {q : Str}, Grow H Hb → H c = some (LamX.CodeO c q) → Hz c = some (LamX.CodeO c q) := fun {H c q} g e => sZ _ _ (g.ext _ _ e (fun ps z => by
      have z' : HO.ext _ = HO.tbl ps := z
      cases z')) (fun xs z => by
      have z' : HO.ext _ = HO.lst xs := z
      cases z')
    have tup : ∀ {H : Hp} {b : Addr} {xs : List V}, Grow H Hb → H b = some (.tup xs) → Hz b = some (.tup xs) := fun {H b xs} g e => sZ _ _ (g.ext _ _ e (fun ps z => nomatch z)) (fun xs z => nomatch z)
    have key : ∀ y ∈ [V.ref f1, V.ref f2, V.ref f3, V.ref f4, V.ref f5], ∃ (fl : Addr) (L : LF) (dV : Value) (T : Hp → VK → XK → Prop), y = .ref fl ∧ Hz fl = some (LamO fl L dV) ∧ LamG (cxOf CX0 P w K mg base n_law (Str.ofString "law") (defScope s_law) f fd.code A outer s H E).nox 6 [some (V.ref a), some (V.ref d), some (V.ref lp), some (V.ref q), some (V.ref tp), some (V.str why), some (V.ref op), some (V.ref zp), none, none, none] L dV T ∧ ∀ H', Same Hz H' → ∀ (Q' : VK) (E' : XK), Refused (C .rule) "number" (.int 0) H' E' → T H' Q' E' := by
      intro y hy
      rcases List.mem_cons.mp hy with rfl | hy
      · refine ⟨f1, _, _, _, rfl, lam g6b hf1, LamG.of (js := [2, 6]) (ps := []) (fr := ["_law_line_here", "_law_odd"]) (vs := []) (sp := spW2 (spLRX K (C .rule))) (lamOk_of (N := ["_law_line_here", "_law_odd"]) (k := 5) (NdefX.nscope_by (by dsimp only; decide +kernel)) (fun _ _ _ _ => rfl) (fun _ _ _ _ _ h => nomatch h) (fun f' A' outer' s' H' ws Q' E' hr' hl' hsp => ?_)) rfl (NdefX.ndef_free (sc := defScope s_law) (fr := ["_law_line_here", "_law_odd"]) (by decide +kernel)) (NdefX.ndef_fr (sc := defScope s_law) (by decide +kernel)) rfl, fun H' sH Q' E' hE => ⟨sH _ _ (cod g6b hc1), .inl ⟨rfl, rfl, rfl⟩, _, _, rfl, lp, op, l, ox, ons, rfl, SqT.of (sH _ _ (tup gab hlpa)), lo, SqT.of (sH _ _ (tup gab hopa)), hOB, hE⟩⟩
        · obtain ⟨u', v', rfl, hsp'⟩ := hsp
          exact ⟨_, pe_fnN h_false_rowXr hr' rfl (L2N.takes_of rfl rfl rfl rfl) (pa_cons (pv 0) (pa_cons (pv 1) pa_nil)), _, rfl, _, rfl, hsp'⟩
      rcases List.mem_cons.mp hy with rfl | hy
      · refine ⟨f2, _, _, _, rfl, lam g7b hf2, LamG.of (js := [2, 6]) (ps := ["_law_a"]) (fr := ["_law_line_here", "_law_odd"]) (vs := [.int 0]) (sp := spW2 (spLRX K (C .rule))) (lamOk_of (N := ["_law_a", "_law_line_here", "_law_odd"]) (k := 5) (NdefX.nscope_by (by dsimp only; decide +kernel)) (fun _ _ _ h => nomatch h) (fun t doc pm ctv x h => ?_) (fun f' A' outer' s' H' ws Q' E' hr' hl' hsp => ?_)) rfl (NdefX.ndef_free (sc := defScope s_law) (fr := ["_law_line_here", "_law_odd"]) (by decide +kernel)) (NdefX.ndef_fr (sc := defScope s_law) (by decide +kernel)) rfl, fun H' sH Q' E' hE => ⟨sH _ _ (cod g7b hc2), .inr ⟨t2, _, rfl, rfl, rfl, sH _ _ (tup g7b ht2)⟩, _, _, rfl, lp, op, l, ox, ons, rfl, SqT.of (sH _ _ (tup gab hlpa)), lo, SqT.of (sH _ _ (tup gab hopa)), hOB, hE⟩⟩
        · cases h
          exact ⟨_, rfl, fun tk => rfl⟩
        · obtain ⟨u', v', rfl, hsp'⟩ := hsp
          exact ⟨_, pe_fnN h_latestXr hr' rfl (L2N.takes_of rfl rfl rfl rfl) (pa_cons (pv 1) (pa_cons (pv 2) pa_nil)), _, rfl, _, rfl, hsp'⟩
      rcases List.mem_cons.mp hy with rfl | hy
      · refine ⟨f3, _, _, _, rfl, lam g8b hf3, LamG.of (js := [6]) (ps := ["_law_b"]) (fr := ["_law_odd"]) (vs := [.int 0]) (sp := spW1 (spNeedRuleX K (C .rule))) (lamOk_of (N := ["_law_b", "_law_odd"]) (k := 5) (NdefX.nscope_by (by dsimp only; decide +kernel)) (fun _ _ _ h => nomatch h) (fun t doc pm ctv x h => ?_) (fun f' A' outer' s' H' ws Q' E' hr' hl' hsp => ?_)) rfl (NdefX.ndef_free (sc := defScope s_law) (fr := ["_law_odd"]) (by decide +kernel)) (NdefX.ndef_fr (sc := defScope s_law) (by decide +kernel)) rfl, fun H' sH Q' E' hE => ⟨sH _ _ (cod g8b hc3), .inr ⟨t3, _, rfl, rfl, rfl, sH _ _ (tup g8b ht3)⟩, _, rfl, op, ox, ons, rfl, SqT.of (sH _ _ (tup gab hopa)), hOB, hE⟩⟩
        · cases h
          exact ⟨_, rfl, fun tk => rfl⟩
        · obtain ⟨u', rfl, q', x', n', h0', hq', hb', k'⟩ := hsp
          exact (by cases h0'; exact ⟨_, pe_fnN h_toldXr hr' rfl (L2N.takes_of rfl rfl rfl rfl) (pa_cons (pv 1) (pa_cons (pe_lst (pa_cons (pe_un un_neg pe_int) pa_nil)) pa_nil)), _, rfl, _, rfl, szle (Nat.le_of_ble_eq_true rfl), fun p' np' => ⟨q', x', n', _, rfl, (Same.newB np').tupB hq', hb', k'.same (Same.newB np')⟩⟩)
      rcases List.mem_cons.mp hy with rfl | hy
      · refine ⟨f4, _, _, _, rfl, lam gb hf4, LamG.of (js := [6]) (ps := []) (fr := ["_law_odd"]) (vs := []) (sp := spW1 (spNeedRuleX K (C .rule))) (lamOk_of (N := ["_law_odd"]) (k := 5) (NdefX.nscope_by (by dsimp only; decide +kernel)) (fun _ _ _ _ => rfl) (fun _ _ _ _ _ h => nomatch h) (fun f' A' outer' s' H' ws Q' E' hr' hl' hsp => ?_)) rfl (NdefX.ndef_free (sc := defScope s_law) (fr := ["_law_odd"]) (by decide +kernel)) (NdefX.ndef_fr (sc := defScope s_law) (by decide +kernel)) rfl, fun H' sH Q' E' hE => ⟨sH _ _ (cod gb hc4), .inl ⟨rfl, rfl, rfl⟩, _, rfl, op, ox, ons, rfl, SqT.of (sH _ _ (tup gab hopa)), hOB, hE⟩⟩
        · obtain ⟨u', rfl, q', x', n', h0', hq', hb', k'⟩ := hsp
          exact (by cases h0'; exact ⟨_, pe_newN h_WatcherX hr' rfl (L2N.takes_of rfl rfl rfl rfl) (pa_cons (pv 0) pa_nil), _, rfl, fun x2 dx nx2 ndx ne2 => ⟨_, q', x', n', rfl, ((Same.newB ndx).moreB (by rw [upd_ne (Ne.symm ne2)]; exact nx2)).tupB hq', hb', k'.same ((Same.newB ndx).moreB (by rw [upd_ne (Ne.symm ne2)]; exact nx2))⟩⟩)
      rcases List.mem_cons.mp hy with rfl | hy
      · refine ⟨f5, _, _, _, rfl, lam (Grow.refl Hb) hf5, LamG.of (js := [6]) (ps := ["_law_a"]) (fr := ["_law_odd"]) (vs := [.int 0]) (sp := spW1 (spNeedRuleX K (C .rule))) (lamOk_of (N := ["_law_a", "_law_odd"]) (k := 5) (NdefX.nscope_by (by dsimp only; decide +kernel)) (fun _ _ _ h => nomatch h) (fun t doc pm ctv x h => ?_) (fun f' A' outer' s' H' ws Q' E' hr' hl' hsp => ?_)) rfl (NdefX.ndef_free (sc := defScope s_law) (fr := ["_law_odd"]) (by decide +kernel)) (NdefX.ndef_fr (sc := defScope s_law) (by decide +kernel)) rfl, fun H' sH Q' E' hE => ⟨sH _ _ (cod (Grow.refl Hb) hc5), .inr ⟨t5, _, rfl, rfl, rfl, sH _ _ (tup (Grow.refl Hb) ht5)⟩, _, rfl, op, ox, ons, rfl, SqT.of (sH _ _ (tup gab hopa)), hOB, hE⟩⟩
        · cases h
          exact ⟨_, rfl, fun tk => rfl⟩
        · obtain ⟨u', rfl, q', x', n', h0', hq', hb', k'⟩ := hsp
          exact (by cases h0'; exact ⟨_, pe_fnN h_turnsXr hr' rfl (L2N.takes_of rfl rfl rfl rfl) (pa_cons (pv 1) (pa_cons (pe_lst (pa_cons (pe_un un_neg pe_int) pa_nil)) pa_nil)), _, rfl, _, rfl, szle (Nat.le_of_ble_eq_true rfl), fun p' np' => ⟨q', x', n', _, rfl, (Same.newB np').tupB hq', hb', k'.same (Same.newB np')⟩⟩)
      cases hy
    refine ⟨_, rfl, zp, rfl, ⟨_, SqL.of hzp⟩, fun D nD => lc_list (K := K) (a := zp) (xs := [V.ref f1, V.ref f2, V.ref f3, V.ref f4, V.ref f5]) (fun i H' => Same Hz H' ∧ H' D = some (.lst [])) ⟨Same.newB nD, upd_same⟩ (fun i H' _ h => SqL.of (h.1 _ _ hzp)) ?_ ?_⟩
    · rintro j y H' hj ⟨s', e'⟩
      obtain ⟨fl, L, dV, T, rfl, hfl, hG, hTT⟩ := key y (List.mem_of_getElem? hj)
      refine ⟨rfl, _, rfl, fl, L, dV, T, .rule, .int 0, rfl, .inl ⟨_, rfl⟩, s' _ _ hfl, hG, fun Q' E' hE => hTT _ s' Q' E' hE, fun H'' s'' => ⟨true, rfl, ?_⟩⟩
      exact ⟨s'.trans s'', s'' _ _ e'⟩
    rintro Hy ⟨sy, hDy⟩
    refine ⟨szle (Nat.le_of_ble_eq_true rfl), fun ep nep => ?_⟩
    have sE : Same Hy (upd Hy ep (.lst [])) := Same.newB nep
    refine ⟨.list [], .list [], .lst (SqL.of (sE _ _ hDy)) (dp_ints []), .lst (SqL.of upd_same) (dp_ints []), PySem.W.ke_shaped_ints [], PySem.W.ke_shaped_ints [], _, rfl, ?_⟩
    have e9 : (PyData.list []).eqv (PyData.list []) = true := eqv_self (PySem.W.ke_shaped_ints [])
    rw [e9]
    refine iteF ?_
    have sx := sy.trans sE
    have Ga : ∀ (b : Addr) (xs : List V), Ha b = some (.tup xs) → (upd Hy ep (.lst [])) b = some (.tup xs) := fun b xs e => sx _ _ (tup gab e)
    have hlpc := Ga _ _ hlpa
    have hqc := Ga _ _ hqa
    have hopc := Ga _ _ hopa
    have hdc := hdz.same sx
    have Tc := tabS_same Tz sx
    clear Ga key lam cod tup
    revert hlpc hqc hopc hdc Tc
    generalize upd Hy ep (.lst []) = Hc
    intro hlpc hqc hopc hdc Tc
    clear sx e9 sE hDy sy sZ hzp hdz Tz
    refine ⟨szle (Nat.le_of_ble_eq_true rfl), fun sp nsp => ⟨szle (Nat.le_of_ble_eq_true rfl), fun s1 ns1 => ⟨_, rfl, szle (Nat.le_of_ble_eq_true rfl), fun u nu => ?_⟩⟩⟩
    have S1 := ((Same.newB (o := .tup [V.str "since", V.int 12]) nsp).moreB (o := .lst [V.ref sp]) ns1).moreB (o := .lst [V.int 4, V.int 10]) nu
    have hsp1 : (upd (upd (upd Hc sp (.tup [V.str "since", V.int 12])) s1 (.lst [V.ref sp])) u (.lst [V.int 4, V.int 10])) sp = some (.tup [V.str "since", V.int 12]) := (Same.newB nu) _ _ ((Same.newB ns1) _ _ upd_same)
    have hs11 : (upd (upd (upd Hc sp (.tup [V.str "since", V.int 12])) s1 (.lst [V.ref sp])) u (.lst [V.int 4, V.int 10])) s1 = some (.lst [V.ref sp]) := (Same.newB nu) _ _ upd_same
    have hu1 : (upd (upd (upd Hc sp (.tup [V.str "since", V.int 12])) s1 (.lst [V.ref sp])) u (.lst [V.int 4, V.int 10])) u = some (.lst [V.int 4, V.int 10]) := upd_same
    have hs1d : s1 ≠ d := (hdc.same (Same.newB nsp)).ne ns1
    have hud : u ≠ d := (hdc.same ((Same.newB nsp).moreB ns1)).ne nu
    revert S1 hsp1 hs11 hu1
    generalize upd (upd (upd Hc sp (.tup [V.str "since", V.int 12])) s1 (.lst [V.ref sp])) u (.lst [V.int 4, V.int 10]) = Hd
    intro S1 hsp1 hs11 hu1
    have hdd := hdc.same S1
    have hlpd1 := S1 _ _ hlpc
    have hqd1 := S1 _ _ hqc
    have hopd1 := S1 _ _ hopc
    have Td := tabS_same Tc S1
    refine ⟨_, rfl, d, 2, rfl, hdd, by decide, by decide, fun r1 H6 h10 h11 D6 => ?_⟩
    obtain ⟨m, hm, hat⟩ := pick2 (a := 4) (b := 10) h10 h11
    refine ⟨u, _, _, _, rfl, rfl, SqL.of (D6.keep _ _ hud hu1), hat, d, m, rfl, D6.dice, by omega, by omega, fun n H7 h20 h21 D7 => ?_⟩
    obtain ⟨mn, rfl⟩ := Int.eq_ofNat_of_zero_le h20
    have hmn : mn ≤ 9 := by omega
    have Dd7 := D6.trans D7
    refine ⟨s1, _, _, rfl, rfl, Dd7.keep _ _ hs1d hs11, by omega, by omega, szle (by show 1 * mn ≤ _; omega), fun rp nrp => ?_⟩
    have e5 : (List.replicate (Int.toNat (mn : Int)) [V.ref sp]).flatten = List.replicate mn (V.ref sp) := rep1 (V.ref sp) mn
    rw [e5]
    have mvd := mv_dr hdd Dd7
    have S2 : Same H7 (upd H7 rp (.lst (List.replicate mn (V.ref sp)))) := Same.newB nrp
    have hrp : (upd H7 rp (.lst (List.replicate mn (V.ref sp)))) rp = some (.lst (List.replicate mn (V.ref sp))) := upd_same
    have tl : ∀ {b : Addr} {xs : List V}, Hd b = some (.tup xs) → (upd H7 rp (.lst (List.replicate mn (V.ref sp)))) b = some (.tup xs) := fun e => S2 _ _ (mvd _ _ e (fun xs z => nomatch z))
    have hsp2 := tl hsp1
    have hlp2 := tl hlpd1
    have hq2 := tl hqd1
    have hop2 := tl hopd1
    have T2 := tabS_same (tabS_mv Td mvd) S2
    have hd2 := Dd7.dice.same S2
    have hrpd : rp ≠ d := Dd7.dice.ne nrp
    clear tl mvd
    revert hrp hsp2 hlp2 hq2 hop2 T2 hd2 S2
    generalize upd H7 rp (.lst (List.replicate mn (V.ref sp))) = H8
    intro S2 hrp hsp2 hlp2 hq2 hop2 T2 hd2
    refine ⟨_, rfl, _, rfl, rp, _, rfl, .inl (SqL.of hrp), ?_⟩
    rw [List.length_replicate]
    refine ⟨_, _, rfl, rfl, d, _, rfl, hd2, by omega, by omega, fun at' H9 ha0 ha1 D9 => ?_⟩
    obtain ⟨at_, rfl⟩ := Int.eq_ofNat_of_zero_le ha0
    have hat_ : at_ ≤ mn := by omega
    have mvd := mv_dr hd2 D9
    have hrp9 := D9.keep _ _ hrpd hrp
    have hsp9 := mvd _ _ hsp2 (fun xs z => nomatch z)
    have hlp9 := mvd _ _ hlp2 (fun xs z => nomatch z)
    have hq9 := mvd _ _ hq2 (fun xs z => nomatch z)
    have hop9 := mvd _ _ hop2 (fun xs z => nomatch z)
    have T9 := tabS_mv T2 mvd
    have hd9 := D9.dice
    have hrl : (List.replicate mn (V.ref sp)).length = mn := List.length_replicate
    have hrm : ∀ (j : Nat) (y : V), (List.replicate mn (V.ref sp))[j]? = some y → y = V.ref sp := fun j y h => List.eq_of_mem_replicate (List.mem_of_getElem? h)
    clear mvd
    revert hrp9 hrl hrm
    generalize List.replicate mn (V.ref sp) = rs
    intro hrp9 hrl hrm
    refine ⟨_, rfl, _, rfl, _, rfl, rp, _, rfl, SqL.of hrp9, fun c1 nc1 => ?_⟩
    rw [cut_toV]
    have k1 : Same H9 (upd H9 c1 (.lst (rs.take at_))) := Same.newB nc1
    refine ⟨_, rfl, szle (Nat.le_of_ble_eq_true rfl), fun c2 nc2 => ?_⟩
    have k2 := k1.moreB (o := .lst [V.ref op]) nc2
    have htl : (rs.take at_).length = at_ := by rw [List.length_take]; omega
    refine ⟨c1, c2, _, _, rfl, rfl, (Same.newB nc2) _ _ upd_same, upd_same, szle (by rw [htl]; show at_ + 1 ≤ _; omega), fun c3 nc3 => ?_⟩
    have k3 := k2.moreB (o := .lst (rs.take at_ ++ [V.ref op])) nc3
    have hc3 := upd_same (H := upd (upd H9 c1 (.lst (rs.take at_))) c2 (.lst [V.ref op])) (a := c3) (o := .lst (rs.take at_ ++ [V.ref op]))
    revert k3 hc3
    generalize upd (upd (upd H9 c1 (.lst (rs.take at_))) c2 (.lst [V.ref op])) c3 (.lst (rs.take at_ ++ [V.ref op])) = H10
    intro k3 hc3
    refine ⟨_, rfl, _, rfl, _, rfl, rp, _, rfl, SqL.of (k3 _ _ hrp9), fun c4 nc4 => ?_⟩
    rw [cut_fromV]
    refine ⟨c3, c4, _, _, rfl, rfl, (Same.newB nc4) _ _ hc3, upd_same, szle (by rw [List.length_append, htl, List.length_drop]; show at_ + 1 + _ ≤ _; omega), fun c5 nc5 => ?_⟩
    have k5 := (k3.moreB (o := .lst (rs.drop at_)) nc4).moreB (o := .lst (rs.take at_ ++ [V.ref op] ++ rs.drop at_)) nc5
    have hc5 := upd_same (H := upd H10 c4 (.lst (rs.drop at_))) (a := c5) (o := .lst (rs.take at_ ++ [V.ref op] ++ rs.drop at_))
    have hc5d : c5 ≠ d := (hd9.same (k3.moreB (o := .lst (rs.drop at_)) nc4)).ne nc5
    have hbl : (rs.take at_ ++ [V.ref op] ++ rs.drop at_).length = mn + 1 := by
      rw [List.length_append, List.length_append, htl, List.length_drop, hrl]
      show at_ + 1 + _ = _
      omega
    revert k5 hc5
    generalize upd (upd H10 c4 (.lst (rs.drop at_))) c5 (.lst (rs.take at_ ++ [V.ref op] ++ rs.drop at_)) = H11
    intro k5 hc5
    refine ⟨szle (Nat.le_of_ble_eq_true rfl), fun z1 nz1 => ⟨szle (Nat.le_of_ble_eq_true rfl), fun z2 nz2 => ?_⟩⟩
    have k6 := (k5.moreB (o := .tup [V.str "since", V.int 0]) nz1).moreB (o := .lst [V.ref z1]) nz2
    have hz2 := upd_same (H := upd H11 z1 (.tup [V.str "since", V.int 0])) (a := z2) (o := .lst [V.ref z1])
    have hc56 := (Same.newB (o := .lst [V.ref z1]) nz2) _ _ ((Same.newB (o := .tup [V.str "since", V.int 0]) nz1) _ _ hc5)
    have hz2d : z2 ≠ d := (hd9.same (k5.moreB (o := .tup [V.str "since", V.int 0]) nz1)).ne nz2
    revert k6 hz2 hc56
    generalize upd (upd H11 z1 (.tup [V.str "since", V.int 0])) z2 (.lst [V.ref z1]) = H12
    intro k6 hz2 hc56
    have hd12 := hd9.same k6
    refine ⟨_, rfl, d, 2, rfl, hd12, by decide, by decide, fun r2 H13 h30 h31 D13 => ?_⟩
    obtain ⟨zn, rfl⟩ := Int.eq_ofNat_of_zero_le h30
    have mvd := mv_dr hd12 D13
    refine ⟨z2, _, _, rfl, rfl, D13.keep _ _ hz2d hz2, by omega, by omega, szle (by show 1 * zn ≤ _; omega), fun c6 nc6 => ?_⟩
    have e6 : (List.replicate (Int.toNat (zn : Int)) [V.ref z1]).flatten = List.replicate zn (V.ref z1) := rep1 (V.ref z1) zn
    rw [e6]
    have S6 : Same H13 (upd H13 c6 (.lst (List.replicate zn (V.ref z1)))) := Same.newB nc6
    refine ⟨c5, c6, _, _, rfl, rfl, S6 _ _ (D13.keep _ _ hc5d hc56), upd_same, szle (by rw [hbl, List.length_replicate]; omega), fun c7 nc7 => ?_⟩
    have S7 := S6.moreB (o := .lst (rs.take at_ ++ [V.ref op] ++ rs.drop at_ ++ List.replicate zn (V.ref z1))) nc7
    have hc7 := upd_same (H := upd H13 c6 (.lst (List.replicate zn (V.ref z1)))) (a := c7) (o := .lst (rs.take at_ ++ [V.ref op] ++ rs.drop at_ ++ List.replicate zn (V.ref z1)))
    revert S7 hc7
    generalize upd (upd H13 c6 (.lst (List.replicate zn (V.ref z1)))) c7 (.lst (rs.take at_ ++ [V.ref op] ++ rs.drop at_ ++ List.replicate zn (V.ref z1))) = H14
    intro S7 hc7
    have hget : ∀ j : Nat, (rs.take at_ ++ [V.ref op] ++ rs.drop at_ ++ List.replicate zn (V.ref z1))[j]? = if j < at_ then rs[j]? else if j = at_ then some (V.ref op) else (rs.take at_ ++ [V.ref op] ++ rs.drop at_ ++ List.replicate zn (V.ref z1))[j]? := fun j => by
      split
      · rename_i hj
        rw [List.append_assoc, List.append_assoc, List.getElem?_append_left (by rw [htl]; exact hj), List.getElem?_take_of_lt hj]
      · split
        · rename_i hj
          rw [hj, List.append_assoc, List.append_assoc, List.getElem?_append_right (by rw [htl]; exact Nat.le_refl _), htl, Nat.sub_self]
          rfl
        · rfl
    revert hc7 hget
    generalize rs.take at_ ++ [V.ref op] ++ rs.drop at_ ++ List.replicate zn (V.ref z1) = zs
    intro hc7 hget
    refine ⟨_, rfl, c7, _, rfl, SqL.of hc7, fun c8 nc8 => ?_⟩
    have e10 : cutV zs none (some (10 : Int)) = zs.take 10 := cut_toV zs 10
    rw [e10]
    have S8 : Same H13 (upd H14 c8 (.lst (zs.take 10))) := S7.moreB nc8
    have hc8 : (upd H14 c8 (.lst (zs.take 10))) c8 = some (.lst (zs.take 10)) := upd_same
    have tl : ∀ {b : Addr} {xs : List V}, H9 b = some (.tup xs) → (upd H14 c8 (.lst (zs.take 10))) b = some (.tup xs) := fun e => S8 _ _ (mvd _ _ (k6 _ _ e) (fun xs z => nomatch z))
    have hsp15 := tl hsp9
    have hlp15 := tl hlp9
    have hq15 := tl hq9
    have hop15 := tl hop9
    have T15 := tabS_same (tabS_mv (tabS_same T9 k6) mvd) S8
    clear tl
    revert S8 hc8 hsp15 hlp15 hq15 hop15 T15
    generalize upd H14 c8 (.lst (zs.take 10)) = H15
    intro S8 hc8 hsp15 hlp15 hq15 hop15 T15
    have hgood : ∀ (j : Nat) (y : V), j < at_ → (zs.take 10)[j]? = some y → y = V.ref sp := fun j y hj h => by
      rw [List.getElem?_take_of_lt (by omega), hget j, if_pos hj] at h
      exact hrm j y h
    have hbadat : (zs.take 10)[at_]? = some (V.ref op) := by
      rw [List.getElem?_take_of_lt (by omega), hget at_, if_neg (Nat.lt_irrefl _), if_pos rfl]
    refine ⟨T15, fun fl c' H16 g16 T16 nfl hfl hc' => ⟨_, rfl, ?_⟩⟩
    have tl : ∀ {b : Addr} {xs : List V}, H15 b = some (.tup xs) → H16 b = some (.tup xs) := fun e => g16.ext _ _ e (fun ps z => nomatch z)
    have hc816 : H16 c8 = some (.lst (zs.take 10)) := g16.ext _ _ hc8 (fun ps z => nomatch z)
    refine ⟨fl, _, _, _, .rule, .int (at_ : Int), rfl, .inl ⟨_, rfl⟩, hfl, actX_of (js := [2, 9]) (ps := []) (fr := ["_law_line_here", "_law_rules"]) (vs := []) (sp := spW2 (spChosenX K (C .rule))) (lamOk_of (N := ["_law_line_here", "_law_rules"]) (k := 5) (NdefX.nscope_by (by dsimp only; decide +kernel)) (fun _ _ _ _ => rfl) (fun _ _ _ _ _ h => nomatch h) (fun f' A' outer' s' H' ws Q' E' hr' hl' hsp => ?_)) rfl (NdefX.ndef_free (sc := defScope s_law) (fr := ["_law_line_here", "_law_rules"]) (by decide +kernel)) (NdefX.ndef_fr (sc := defScope s_law) (by decide +kernel)) rfl, fun Q' E' hE => ⟨hc', .inl ⟨rfl, rfl, rfl⟩, _, _, rfl, lp, c8, l, zs.take 10, at_, rfl, SqT.of (tl hlp15), lo, SqL.of hc816, fun j y hj h => ⟨sp, .since 12, hgood j y hj h, SqT.of (tl hsp15), (by show 1 ≤ 12 ∧ 12 ≤ 12; decide)⟩, ⟨op, ox, ons, hbadat, SqT.of (tl hop15), hOB⟩, hE⟩, fun H17 s17 => ⟨_, rfl, iteF ?_⟩⟩
    · obtain ⟨u', v', rfl, hsp'⟩ := hsp
      exact ⟨_, pe_fnN h_chosenXr hr' rfl (L2N.takes_of rfl rfl rfl rfl) (pa_cons (pv 0) (pa_cons (pv 1) pa_nil)), _, rfl, _, rfl, hsp'⟩
    have hlp17 := s17 _ _ (tl hlp15)
    have hq17 := s17 _ _ (tl hq15)
    have ok0 : HeardOk [] := ⟨by decide, fun m hm => nomatch hm⟩
    refine ⟨_, rfl, szle (Nat.le_of_ble_eq_true rfl), fun e1 ne1 => ?_⟩
    have q1 : Same H17 (upd H17 e1 (.lst [])) := Same.newB ne1
    refine ⟨lp, e1, l, [], rfl, SqT.of (q1 _ _ hlp17), lo, SqL.of upd_same, ok0, fun b H18 s18 _ => ?_⟩
    refine ⟨_, _, _, _, true, rfl, .ty _, .base (.bl b), kit_ty (by decide +kernel), _, rfl, iteF ?_⟩
    have q2 := q1.trans s18
    refine ⟨_, rfl, szle (Nat.le_of_ble_eq_true rfl), fun e2 ne2 => ?_⟩
    have q3 := q2.moreB (o := .tup [V.str "since", V.int 3]) ne2
    refine ⟨lp, e2, l, .since 3, rfl, SqT.of (q3 _ _ hlp17), lo, SqT.of upd_same, (by show 1 ≤ 3 ∧ 3 ≤ 12; decide), fun p hp H19 x9 s19 _ hp19 _ _ _ => ?_⟩
    refine ⟨_, _, _, _, true, rfl, .ty _, tyx_tup (SqT.of hp19), kit_ty (by decide +kernel), _, rfl, iteF ?_⟩
    have q4 := q3.trans s19
    refine ⟨_, rfl, szle (Nat.le_of_ble_eq_true rfl), fun e3 ne3 => ?_⟩
    have q5 := q4.moreB (o := .lst []) ne3
    refine ⟨q, e3, r, [], rfl, SqT.of (q5 _ _ hq17), ro, SqL.of upd_same, ok0, fun p1 H20 s20 np1 hp1 => ?_⟩
    refine ⟨szle (Nat.le_of_ble_eq_true rfl), fun e4 ne4 => ?_⟩
    have q6 := (q5.trans s20).moreB (o := .lst []) ne4
    have e9 : (PyData.list []).eqv (PyData.list []) = true := eqv_self (PySem.W.ke_shaped_ints [])
    refine ⟨.list [], .list [], .lst (SqL.of ((Same.newB ne4) _ _ hp1)) .nil, .lst (SqL.of upd_same) .nil, PySem.W.ke_shaped_ints [], PySem.W.ke_shaped_ints [], _, rfl, ?_⟩
    rw [e9]
    refine iteT ⟨_, rfl, szle (Nat.le_of_ble_eq_true rfl), fun e5 ne5 => ?_⟩
    have q7 := q6.moreB (o := .lst []) ne5
    refine ⟨q, e5, r, [], rfl, SqT.of (q7 _ _ hq17), ro, SqL.of upd_same, ok0, fun p2 H21 xs2 s21 np2 hp2 hD2 => ?_⟩
    refine ⟨szle (Nat.le_of_ble_eq_true rfl), fun e6 ne6 => ?_⟩
    cases hD2
    refine ⟨.list [], .list [], .lst (SqL.of ((Same.newB ne6) _ _ hp2)) .nil, .lst (SqL.of upd_same) .nil, PySem.W.ke_shaped_ints [], PySem.W.ke_shaped_ints [], ?_⟩
    rw [e9]
    exact k _
end
end Bw

set_option Elab.async false
set_option linter.all false
set_option maxRecDepth 100000
set_option maxHeartbeats 0
namespace Bw
open PySem PySem.Spec PyProof.Rows L2
def d_BadLine___init__ : He.DefD := ⟨("BadLine", some "__init__"), "__init__", "BadLine.__init__", defArgs s_BadLine___init__, defBody s_BadLine___init__, defScope s_BadLine___init__, [], []⟩
def d_BadRule___init__ : He.DefD := ⟨("BadRule", some "__init__"), "__init__", "BadRule.__init__", defArgs s_BadRule___init__, defBody s_BadRule___init__, defScope s_BadRule___init__, [], []⟩
def d_BadHeard___init__ : He.DefD := ⟨("BadHeard", some "__init__"), "__init__", "BadHeard.__init__", defArgs s_BadHeard___init__, defBody s_BadHeard___init__, defScope s_BadHeard___init__, [], []⟩
def d_BadText___init__ : He.DefD := ⟨("BadText", some "__init__"), "__init__", "BadText.__init__", defArgs s_BadText___init__, defBody s_BadText___init__, defScope s_BadText___init__, [], []⟩
def d_need_line : He.DefD := ⟨("need_line", none), "need_line", "need_line", defArgs s_need_line, defBody s_need_line, defScope s_need_line, [], []⟩
def d_is_rule : He.DefD := ⟨("is_rule", none), "is_rule", "is_rule", defArgs s_is_rule, defBody s_is_rule, defScope s_is_rule, [], []⟩
def d_need_rule : He.DefD := ⟨("need_rule", none), "need_rule", "need_rule", defArgs s_need_rule, defBody s_need_rule, defScope s_need_rule, [], []⟩
def d_need_heard : He.DefD := ⟨("need_heard", none), "need_heard", "need_heard", defArgs s_need_heard, defBody s_need_heard, defScope s_need_heard, [], []⟩
def d_next_state : He.DefD := ⟨("next_state", none), "next_state", "next_state", defArgs s_next_state, defBody s_next_state, defScope s_next_state, [], []⟩
def d_first_state : He.DefD := ⟨("first_state", none), "first_state", "first_state", defArgs s_first_state, defBody s_first_state, defScope s_first_state, [], []⟩
def d_is_gone : He.DefD := ⟨("is_gone", none), "is_gone", "is_gone", defArgs s_is_gone, defBody s_is_gone, defScope s_is_gone, [], []⟩
def d_Watcher___init__ : He.DefD := ⟨("Watcher", some "__init__"), "__init__", "Watcher.__init__", defArgs s_Watcher___init__, defBody s_Watcher___init__, defScope s_Watcher___init__, [], []⟩
def d_Watcher_hear : He.DefD := ⟨("Watcher", some "hear"), "hear", "Watcher.hear", defArgs s_Watcher_hear, defBody s_Watcher_hear, defScope s_Watcher_hear, [], []⟩
def d_told : He.DefD := ⟨("told", none), "told", "told", defArgs s_told, defBody s_told, defScope s_told, [], []⟩
def d_turns : He.DefD := ⟨("turns", none), "turns", "turns", defArgs s_turns, defBody s_turns, defScope s_turns, [], []⟩
def d_begun : He.DefD := ⟨("begun", none), "begun", "begun", defArgs s_begun, defBody s_begun, defScope s_begun, [], []⟩
def d_heard_of : He.DefD := ⟨("heard_of", none), "heard_of", "heard_of", defArgs s_heard_of, defBody s_heard_of, defScope s_heard_of, [], []⟩
def d_moves : He.DefD := ⟨("moves", none), "moves", "moves", defArgs s_moves, defBody s_moves, defScope s_moves, [], []⟩
def d_may : He.DefD := ⟨("may", none), "may", "may", defArgs s_may, defBody s_may, defScope s_may, [], []⟩
def d_all_standing : He.DefD := ⟨("all_standing", none), "all_standing", "all_standing", defArgs s_all_standing, defBody s_all_standing, defScope s_all_standing, [], []⟩
def d_false_row : He.DefD := ⟨("false_row", none), "false_row", "false_row", defArgs s_false_row, defBody s_false_row, defScope s_false_row, [], []⟩
def d_Late___init__ : He.DefD := ⟨("Late", some "__init__"), "__init__", "Late.__init__", defArgs s_Late___init__, defBody s_Late___init__, defScope s_Late___init__, [], []⟩
def d_Late_longest : He.DefD := ⟨("Late", some "longest"), "longest", "Late.longest", defArgs s_Late_longest, defBody s_Late_longest, defScope s_Late_longest, [], []⟩
def d_latest : He.DefD := ⟨("latest", none), "latest", "latest", defArgs s_latest, defBody s_latest, defScope s_latest, [], []⟩
def d_chosen : He.DefD := ⟨("chosen", none), "chosen", "chosen", defArgs s_chosen, defBody s_chosen, defScope s_chosen, [], []⟩
def d__law_dice : He.DefD := ⟨("_law_dice", none), "_law_dice", "_law_dice", defArgs s__law_dice, defBody s__law_dice, defScope s__law_dice, [], []⟩
def d__law_off : He.DefD := ⟨("_law_off", none), "_law_off", "_law_off", defArgs s__law_off, defBody s__law_off, defScope s__law_off, [], []⟩
def d__law_alike : He.DefD := ⟨("_law_alike", none), "_law_alike", "_law_alike", defArgs s__law_alike, defBody s__law_alike, defScope s__law_alike, [], []⟩
def d__law_refused : He.DefD := ⟨("_law_refused", none), "_law_refused", "_law_refused", defArgs s__law_refused, defBody s__law_refused, defScope s__law_refused, [], []⟩
def d__law_line : He.DefD := ⟨("_law_line", none), "_law_line", "_law_line", defArgs s__law_line, defBody s__law_line, defScope s__law_line, [], []⟩
def d__law_rule : He.DefD := ⟨("_law_rule", none), "_law_rule", "_law_rule", defArgs s__law_rule, defBody s__law_rule, defScope s__law_rule, [], []⟩
def d__law_bad_line : He.DefD := ⟨("_law_bad_line", none), "_law_bad_line", "_law_bad_line", defArgs s__law_bad_line, defBody s__law_bad_line, defScope s__law_bad_line, [], []⟩
def d__law_bad_rule : He.DefD := ⟨("_law_bad_rule", none), "_law_bad_rule", "_law_bad_rule", defArgs s__law_bad_rule, defBody s__law_bad_rule, defScope s__law_bad_rule, [], []⟩
def d_law : He.DefD := ⟨("law", none), "law", "law", defArgs s_law, defBody s_law, defScope s_law, [], []⟩
def fn : List He.DefD := [d_BadLine___init__, d_BadRule___init__, d_BadHeard___init__, d_BadText___init__, d_need_line, d_is_rule, d_need_rule, d_need_heard, d_next_state, d_first_state, d_is_gone, d_Watcher___init__, d_Watcher_hear, d_told, d_turns, d_begun, d_heard_of, d_moves, d_may, d_all_standing, d_false_row, d_Late___init__, d_Late_longest, d_latest, d_chosen, d__law_dice, d__law_off, d__law_alike, d__law_refused, d__law_line, d__law_rule, d__law_bad_line, d__law_bad_rule, d_law]
def fa : List He.Fa := [.free "len", .free "min", .free "max", .free "sum", .free "abs", .free "isinstance", .free "bool", .free "int", .free "str", .free "tuple", .free "list", .free "all", .free "range", .free "enumerate", .free "ValueError", .int "MOST_EACH" 4, .int "MOST_LATE" 3, .int "MOST_LOST" 2, .int "MOST_SILENT" 12, .int "MOST_WIDE" 5, .int "MOST_MANY" 3, .int "MOST_MOMENTS" 200, .int "MOST_HEARD" 9, .glo "FIRST", .glo "need_line", .glo "is_rule", .glo "need_rule", .glo "need_heard", .glo "next_state", .glo "first_state", .glo "is_gone", .glo "told", .glo "turns", .glo "begun", .glo "heard_of", .glo "moves", .glo "may", .glo "all_standing", .glo "false_row", .glo "latest", .glo "chosen", .glo "_law_dice", .glo "_law_off", .glo "_law_alike", .glo "_law_refused", .glo "_law_line", .glo "_law_rule", .glo "_law_bad_line", .glo "_law_bad_rule", .glo "law", .glo "Watcher", .cls "Watcher", .mkr "Watcher", .noat "Watcher" "rule", .noat "Watcher" "kept", .meth "Watcher" "hear", .glo "Late", .cls "Late", .mkr "Late", .noat "Late" "line", .noat "Late" "rule", .noat "Late" "known", .meth "Late" "longest", .glo "BeatError", .glo "BadLine", .glo "BadRule", .glo "BadHeard", .glo "BadText"]
abbrev R : PySem.W.OpenRow := PySem.W.OpenLaw.row PySem.Challenge.rw_beatwatch_k01_lines_and_rules_refused
def firstB (K : PySem.W.Frag) : Bool := match K.lookup (He.ga K "FIRST") with
  | some ⟨.type c, _, .seq its _, _⟩ => decide (c = "tuple") && (match its.toList with
    | [.int i _, .ref b, .int j _] => decide (i = 0) && (decide (j = 0) && (match K.lookup b with
      | some ⟨.type c2, _, .seq its2 _, _⟩ => decide (c2 = "tuple") && its2.toList.isEmpty
      | _ => false))
    | _ => false)
  | _ => false
theorem firstB_ok {K : PySem.W.Frag} (h : firstB K = true) (H : Hp) : Dp K H (.ref (He.ga K "FIRST")) (lsD LS.first) := by
  unfold firstB at h
  split at h
  · rename_i c od its n sl q
    obtain ⟨h1, h2⟩ := Bool.and_eq_true_iff.mp h
    split at h2
    · rename_i i t b j u q2
      obtain ⟨h3, h4⟩ := Bool.and_eq_true_iff.mp h2
      obtain ⟨h5, h6⟩ := Bool.and_eq_true_iff.mp h4
      split at h6
      · rename_i c2 od2 its2 n2 sl2 q3
        obtain ⟨h7, h8⟩ := Bool.and_eq_true_iff.mp h6
        have e8 : its2.toList = [] := List.isEmpty_iff.mp h8
        have hi : i = 0 := of_decide_eq_true h3
        have hj : j = 0 := of_decide_eq_true h5
        subst hi hj
        refine ls_mk (s := LS.first) (b := b) (.inr ⟨_, its, n, q, congrArg Value.type (of_decide_eq_true h1), rfl, ?_, ?_⟩) (.inr ⟨_, its2, n2, q3, congrArg Value.type (of_decide_eq_true h7), rfl, ?_, ?_⟩)
        · show its.size ≤ sizeLine
          rw [← Array.length_toList, q2]
          show 3 ≤ sizeLine
          decide
        · rw [q2]
          exact .cons ⟨_, rfl⟩ (.cons rfl (.cons ⟨_, rfl⟩ .nil))
        · show its2.size ≤ sizeLine
          rw [← Array.length_toList, e8]
          decide
        · rw [e8]
          exact .nil
      · cases h6
    · cases h2
  · cases h
def exB (K : PySem.W.Frag) : Bool := firstB K && xbB K
def tf : List (Str × Option Str) := [("law", none)]
abbrev hk : PySem.W.Hook := hookZ 5 fa fn tf exB
def ob (s : PySem.W.SharedT) : He.AlX := obsZ 5 fa fn tf exB (HandSHeadRun.getT s)
theorem ob_eq (s : PySem.W.SharedT) : ob s = hk.obs s.abs := obsZ_eq (HandSHeadRun.getT_eq s)
def loose : List Str := [("BeatError" : Str), ("BadLine" : Str), ("BadRule" : Str), ("BadHeard" : Str), ("BadText" : Str), ("MOST_EACH" : Str), ("MOST_LATE" : Str), ("MOST_LOST" : Str), ("MOST_SILENT" : Str), ("MOST_WIDE" : Str), ("MOST_MANY" : Str), ("MOST_MOMENTS" : Str), ("MOST_HEARD" : Str), ("need_line" : Str), ("is_rule" : Str), ("need_rule" : Str), ("need_heard" : Str), ("next_state" : Str), ("first_state" : Str), ("is_gone" : Str), ("Watcher" : Str), ("told" : Str), ("turns" : Str), ("FIRST" : Str), ("begun" : Str), ("heard_of" : Str), ("moves" : Str), ("may" : Str), ("all_standing" : Str), ("false_row" : Str), ("Late" : Str), ("latest" : Str), ("chosen" : Str), ("_law_dice" : Str), ("_law_off" : Str), ("_law_alike" : Str), ("_law_refused" : Str), ("_law_line" : Str), ("_law_rule" : Str), ("_law_bad_line" : Str), ("_law_bad_rule" : Str)]
theorem run (w : World) : HandSHeadRun.RunEq R (PySem.W.view R.prog [46]) hk ob 20000 loose w := by
  intro os
  kernel_rfl
theorem facts {P : Program} {w : World} {K : PySem.W.Frag} {h : Heap} {mg : Str → Option Value} {f : Addr} (X : K.In h) (G : h.Ns mainGlobals mg) (hfa : mg ("law" : Str) = some (.ref f)) (c : He.SaysX fa fn [] tf exB w h K) :
    ∃ fd : FuncData, (∀ (s : Shared) (v : Value), BindsTo s fd ⟨[v], []⟩ [("_law_script", v)]) ∧ ∀ base : Heap, K.In base → base.Ns mainGlobals mg → LamX.TabB base mg (He.cT K ("law", none)).1 (He.cT K ("law", none)).2 → FnOk P w K mg base CX0 21 f fd ["_law_script"] (spLawT K (He.cT K ("law", none)).2) := by
  have c0 := c
  replace c := c0.t.d
  have hFI : ∀ H : Hp, Dp K H (.ref (He.ga K "FIRST")) (lsD LS.first) := firstB_ok ((Bool.and_eq_true_iff.mp c0.more).1)
  have hXB : XB K := xbB_ok ((Bool.and_eq_true_iff.mp c0.more).2)
  have g_len : mg "len" = none := He.free_ok X G (c.fact 0 (f := .free "len") rfl)
  have g_min : mg "min" = none := He.free_ok X G (c.fact 1 (f := .free "min") rfl)
  have g_max : mg "max" = none := He.free_ok X G (c.fact 2 (f := .free "max") rfl)
  have g_sum : mg "sum" = none := He.free_ok X G (c.fact 3 (f := .free "sum") rfl)
  have g_abs : mg "abs" = none := He.free_ok X G (c.fact 4 (f := .free "abs") rfl)
  have g_isinstance : mg "isinstance" = none := He.free_ok X G (c.fact 5 (f := .free "isinstance") rfl)
  have g_bool : mg "bool" = none := He.free_ok X G (c.fact 6 (f := .free "bool") rfl)
  have g_int : mg "int" = none := He.free_ok X G (c.fact 7 (f := .free "int") rfl)
  have g_str : mg "str" = none := He.free_ok X G (c.fact 8 (f := .free "str") rfl)
  have g_tuple : mg "tuple" = none := He.free_ok X G (c.fact 9 (f := .free "tuple") rfl)
  have g_list : mg "list" = none := He.free_ok X G (c.fact 10 (f := .free "list") rfl)
  have g_all : mg "all" = none := He.free_ok X G (c.fact 11 (f := .free "all") rfl)
  have g_range : mg "range" = none := He.free_ok X G (c.fact 12 (f := .free "range") rfl)
  have g_enumerate : mg "enumerate" = none := He.free_ok X G (c.fact 13 (f := .free "enumerate") rfl)
  have g_ValueError : mg "ValueError" = none := He.free_ok X G (c.fact 14 (f := .free "ValueError") rfl)
  obtain ⟨t_MOST_EACH, g_MOST_EACH⟩ := He.int_ok X G (c.fact 15 (f := .int "MOST_EACH" 4) rfl)
  obtain ⟨t_MOST_LATE, g_MOST_LATE⟩ := He.int_ok X G (c.fact 16 (f := .int "MOST_LATE" 3) rfl)
  obtain ⟨t_MOST_LOST, g_MOST_LOST⟩ := He.int_ok X G (c.fact 17 (f := .int "MOST_LOST" 2) rfl)
  obtain ⟨t_MOST_SILENT, g_MOST_SILENT⟩ := He.int_ok X G (c.fact 18 (f := .int "MOST_SILENT" 12) rfl)
  obtain ⟨t_MOST_WIDE, g_MOST_WIDE⟩ := He.int_ok X G (c.fact 19 (f := .int "MOST_WIDE" 5) rfl)
  obtain ⟨t_MOST_MANY, g_MOST_MANY⟩ := He.int_ok X G (c.fact 20 (f := .int "MOST_MANY" 3) rfl)
  obtain ⟨t_MOST_MOMENTS, g_MOST_MOMENTS⟩ := He.int_ok X G (c.fact 21 (f := .int "MOST_MOMENTS" 200) rfl)
  obtain ⟨t_MOST_HEARD, g_MOST_HEARD⟩ := He.int_ok X G (c.fact 22 (f := .int "MOST_HEARD" 9) rfl)
  have g_FIRST : mg "FIRST" = some (.ref (He.ga K "FIRST")) := He.glo_ok X G (c.fact 23 (f := .glo "FIRST") rfl)
  have g_need_line : mg "need_line" = some (.ref (He.ga K "need_line")) := He.glo_ok X G (c.fact 24 (f := .glo "need_line") rfl)
  have g_is_rule : mg "is_rule" = some (.ref (He.ga K "is_rule")) := He.glo_ok X G (c.fact 25 (f := .glo "is_rule") rfl)
  have g_need_rule : mg "need_rule" = some (.ref (He.ga K "need_rule")) := He.glo_ok X G (c.fact 26 (f := .glo "need_rule") rfl)
  have g_need_heard : mg "need_heard" = some (.ref (He.ga K "need_heard")) := He.glo_ok X G (c.fact 27 (f := .glo "need_heard") rfl)
  have g_next_state : mg "next_state" = some (.ref (He.ga K "next_state")) := He.glo_ok X G (c.fact 28 (f := .glo "next_state") rfl)
  have g_first_state : mg "first_state" = some (.ref (He.ga K "first_state")) := He.glo_ok X G (c.fact 29 (f := .glo "first_state") rfl)
  have g_is_gone : mg "is_gone" = some (.ref (He.ga K "is_gone")) := He.glo_ok X G (c.fact 30 (f := .glo "is_gone") rfl)
  have g_told : mg "told" = some (.ref (He.ga K "told")) := He.glo_ok X G (c.fact 31 (f := .glo "told") rfl)
  have g_turns : mg "turns" = some (.ref (He.ga K "turns")) := He.glo_ok X G (c.fact 32 (f := .glo "turns") rfl)
  have g_begun : mg "begun" = some (.ref (He.ga K "begun")) := He.glo_ok X G (c.fact 33 (f := .glo "begun") rfl)
  have g_heard_of : mg "heard_of" = some (.ref (He.ga K "heard_of")) := He.glo_ok X G (c.fact 34 (f := .glo "heard_of") rfl)
  have g_moves : mg "moves" = some (.ref (He.ga K "moves")) := He.glo_ok X G (c.fact 35 (f := .glo "moves") rfl)
  have g_may : mg "may" = some (.ref (He.ga K "may")) := He.glo_ok X G (c.fact 36 (f := .glo "may") rfl)
  have g_all_standing : mg "all_standing" = some (.ref (He.ga K "all_standing")) := He.glo_ok X G (c.fact 37 (f := .glo "all_standing") rfl)
  have g_false_row : mg "false_row" = some (.ref (He.ga K "false_row")) := He.glo_ok X G (c.fact 38 (f := .glo "false_row") rfl)
  have g_latest : mg "latest" = some (.ref (He.ga K "latest")) := He.glo_ok X G (c.fact 39 (f := .glo "latest") rfl)
  have g_chosen : mg "chosen" = some (.ref (He.ga K "chosen")) := He.glo_ok X G (c.fact 40 (f := .glo "chosen") rfl)
  have g__law_dice : mg "_law_dice" = some (.ref (He.ga K "_law_dice")) := He.glo_ok X G (c.fact 41 (f := .glo "_law_dice") rfl)
  have g__law_off : mg "_law_off" = some (.ref (He.ga K "_law_off")) := He.glo_ok X G (c.fact 42 (f := .glo "_law_off") rfl)
  have g__law_alike : mg "_law_alike" = some (.ref (He.ga K "_law_alike")) := He.glo_ok X G (c.fact 43 (f := .glo "_law_alike") rfl)
  have g__law_refused : mg "_law_refused" = some (.ref (He.ga K "_law_refused")) := He.glo_ok X G (c.fact 44 (f := .glo "_law_refused") rfl)
  have g__law_line : mg "_law_line" = some (.ref (He.ga K "_law_line")) := He.glo_ok X G (c.fact 45 (f := .glo "_law_line") rfl)
  have g__law_rule : mg "_law_rule" = some (.ref (He.ga K "_law_rule")) := He.glo_ok X G (c.fact 46 (f := .glo "_law_rule") rfl)
  have g__law_bad_line : mg "_law_bad_line" = some (.ref (He.ga K "_law_bad_line")) := He.glo_ok X G (c.fact 47 (f := .glo "_law_bad_line") rfl)
  have g__law_bad_rule : mg "_law_bad_rule" = some (.ref (He.ga K "_law_bad_rule")) := He.glo_ok X G (c.fact 48 (f := .glo "_law_bad_rule") rfl)
  have g_law : mg "law" = some (.ref (He.ga K "law")) := He.glo_ok X G (c.fact 49 (f := .glo "law") rfl)
  have g_Watcher : mg "Watcher" = some (.ref (He.ga K "Watcher")) := He.glo_ok X G (c.fact 50 (f := .glo "Watcher") rfl)
  have cl_Watcher : Cls K (He.ga K "Watcher") := He.cls_ok (c.fact 51 (f := .cls "Watcher") rfl)
  have mk_Watcher := He.mkr_ok (c.fact 52 (f := .mkr "Watcher") rfl)
  have na_Watcher_rule := He.noat_ok (c.fact 53 (f := .noat "Watcher" "rule") rfl)
  have na_Watcher_kept := He.noat_ok (c.fact 54 (f := .noat "Watcher" "kept") rfl)
  have me_Watcher_hear := He.meth_ok (c.fact 55 (f := .meth "Watcher" "hear") rfl)
  have g_Late : mg "Late" = some (.ref (He.ga K "Late")) := He.glo_ok X G (c.fact 56 (f := .glo "Late") rfl)
  have cl_Late : Cls K (He.ga K "Late") := He.cls_ok (c.fact 57 (f := .cls "Late") rfl)
  have mk_Late := He.mkr_ok (c.fact 58 (f := .mkr "Late") rfl)
  have na_Late_line := He.noat_ok (c.fact 59 (f := .noat "Late" "line") rfl)
  have na_Late_rule := He.noat_ok (c.fact 60 (f := .noat "Late" "rule") rfl)
  have na_Late_known := He.noat_ok (c.fact 61 (f := .noat "Late" "known") rfl)
  have me_Late_longest := He.meth_ok (c.fact 62 (f := .meth "Late" "longest") rfl)
  have g_BeatError : mg "BeatError" = some (.ref (He.ga K "BeatError")) := He.glo_ok X G (c.fact 63 (f := .glo "BeatError") rfl)
  have g_BadLine : mg "BadLine" = some (.ref (He.ga K "BadLine")) := He.glo_ok X G (c.fact 64 (f := .glo "BadLine") rfl)
  have g_BadRule : mg "BadRule" = some (.ref (He.ga K "BadRule")) := He.glo_ok X G (c.fact 65 (f := .glo "BadRule") rfl)
  have g_BadHeard : mg "BadHeard" = some (.ref (He.ga K "BadHeard")) := He.glo_ok X G (c.fact 66 (f := .glo "BadHeard") rfl)
  have g_BadText : mg "BadText" = some (.ref (He.ga K "BadText")) := He.glo_ok X G (c.fact 67 (f := .glo "BadText") rfl)
  obtain ⟨fd_BadLine___init__, F_BadLine___init__⟩ := c.def_ 0 (d := d_BadLine___init__) rfl
  have b_BadLine___init__ : Binds K fd_BadLine___init__ ["self", "why"] [] := FunD.bindsN (ps := ["self", "why"]) F_BadLine___init__ fun _ _ _ _ _ _ us hl => match us, hl with | [_, _], _ => rfl
  obtain ⟨fd_BadRule___init__, F_BadRule___init__⟩ := c.def_ 1 (d := d_BadRule___init__) rfl
  have b_BadRule___init__ : Binds K fd_BadRule___init__ ["self", "number"] [] := FunD.bindsN (ps := ["self", "number"]) F_BadRule___init__ fun _ _ _ _ _ _ us hl => match us, hl with | [_, _], _ => rfl
  obtain ⟨fd_BadHeard___init__, F_BadHeard___init__⟩ := c.def_ 2 (d := d_BadHeard___init__) rfl
  have b_BadHeard___init__ : Binds K fd_BadHeard___init__ ["self", "at"] [] := FunD.bindsN (ps := ["self", "at"]) F_BadHeard___init__ fun _ _ _ _ _ _ us hl => match us, hl with | [_, _], _ => rfl
  obtain ⟨fd_BadText___init__, F_BadText___init__⟩ := c.def_ 3 (d := d_BadText___init__) rfl
  have b_BadText___init__ : Binds K fd_BadText___init__ ["self", "place"] [] := FunD.bindsN (ps := ["self", "place"]) F_BadText___init__ fun _ _ _ _ _ _ us hl => match us, hl with | [_, _], _ => rfl
  obtain ⟨fd_need_line, F_need_line⟩ := c.def_ 4 (d := d_need_line) rfl
  have b_need_line : Binds K fd_need_line ["line"] [] := FunD.bindsN (ps := ["line"]) F_need_line fun _ _ _ _ _ _ us hl => match us, hl with | [_], _ => rfl
  obtain ⟨fd_is_rule, F_is_rule⟩ := c.def_ 5 (d := d_is_rule) rfl
  have b_is_rule : Binds K fd_is_rule ["rule"] [] := FunD.bindsN (ps := ["rule"]) F_is_rule fun _ _ _ _ _ _ us hl => match us, hl with | [_], _ => rfl
  obtain ⟨fd_need_rule, F_need_rule⟩ := c.def_ 6 (d := d_need_rule) rfl
  have b_need_rule : Binds K fd_need_rule ["rule"] [] := FunD.bindsN (ps := ["rule"]) F_need_rule fun _ _ _ _ _ _ us hl => match us, hl with | [_], _ => rfl
  obtain ⟨fd_need_heard, F_need_heard⟩ := c.def_ 7 (d := d_need_heard) rfl
  have b_need_heard : Binds K fd_need_heard ["heard"] [] := FunD.bindsN (ps := ["heard"]) F_need_heard fun _ _ _ _ _ _ us hl => match us, hl with | [_], _ => rfl
  obtain ⟨fd_next_state, F_next_state⟩ := c.def_ 8 (d := d_next_state) rfl
  have b_next_state : Binds K fd_next_state ["rule", "state", "many"] [] := FunD.bindsN (ps := ["rule", "state", "many"]) F_next_state fun _ _ _ _ _ _ us hl => match us, hl with | [_, _, _], _ => rfl
  obtain ⟨fd_first_state, F_first_state⟩ := c.def_ 9 (d := d_first_state) rfl
  have b_first_state : Binds K fd_first_state ["rule"] [] := FunD.bindsN (ps := ["rule"]) F_first_state fun _ _ _ _ _ _ us hl => match us, hl with | [_], _ => rfl
  obtain ⟨fd_is_gone, F_is_gone⟩ := c.def_ 10 (d := d_is_gone) rfl
  have b_is_gone : Binds K fd_is_gone ["rule", "state"] [] := FunD.bindsN (ps := ["rule", "state"]) F_is_gone fun _ _ _ _ _ _ us hl => match us, hl with | [_, _], _ => rfl
  obtain ⟨fd_Watcher___init__, F_Watcher___init__⟩ := c.def_ 11 (d := d_Watcher___init__) rfl
  have b_Watcher___init__ : Binds K fd_Watcher___init__ ["self", "rule"] [] := FunD.bindsN (ps := ["self", "rule"]) F_Watcher___init__ fun _ _ _ _ _ _ us hl => match us, hl with | [_, _], _ => rfl
  obtain ⟨fd_Watcher_hear, F_Watcher_hear⟩ := c.def_ 12 (d := d_Watcher_hear) rfl
  have b_Watcher_hear : Binds K fd_Watcher_hear ["self", "many"] [] := FunD.bindsN (ps := ["self", "many"]) F_Watcher_hear fun _ _ _ _ _ _ us hl => match us, hl with | [_, _], _ => rfl
  obtain ⟨fd_told, F_told⟩ := c.def_ 13 (d := d_told) rfl
  have b_told : Binds K fd_told ["rule", "heard"] [] := FunD.bindsN (ps := ["rule", "heard"]) F_told fun _ _ _ _ _ _ us hl => match us, hl with | [_, _], _ => rfl
  obtain ⟨fd_turns, F_turns⟩ := c.def_ 14 (d := d_turns) rfl
  have b_turns : Binds K fd_turns ["rule", "heard"] [] := FunD.bindsN (ps := ["rule", "heard"]) F_turns fun _ _ _ _ _ _ us hl => match us, hl with | [_, _], _ => rfl
  obtain ⟨fd_begun, F_begun⟩ := c.def_ 15 (d := d_begun) rfl
  have b_begun : Binds K fd_begun ["line", "state"] [] := FunD.bindsN (ps := ["line", "state"]) F_begun fun _ _ _ _ _ _ us hl => match us, hl with | [_, _], _ => rfl
  obtain ⟨fd_heard_of, F_heard_of⟩ := c.def_ 16 (d := d_heard_of) rfl
  have b_heard_of : Binds K fd_heard_of ["line", "ages"] [] := FunD.bindsN (ps := ["line", "ages"]) F_heard_of fun _ _ _ _ _ _ us hl => match us, hl with | [_, _], _ => rfl
  obtain ⟨fd_moves, F_moves⟩ := c.def_ 17 (d := d_moves) rfl
  have b_moves : Binds K fd_moves ["line", "state"] [] := FunD.bindsN (ps := ["line", "state"]) F_moves fun _ _ _ _ _ _ us hl => match us, hl with | [_, _], _ => rfl
  obtain ⟨fd_may, F_may⟩ := c.def_ 18 (d := d_may) rfl
  have b_may : Binds K fd_may ["line", "heard"] [] := FunD.bindsN (ps := ["line", "heard"]) F_may fun _ _ _ _ _ _ us hl => match us, hl with | [_, _], _ => rfl
  obtain ⟨fd_all_standing, F_all_standing⟩ := c.def_ 19 (d := d_all_standing) rfl
  have b_all_standing : Binds K fd_all_standing ["line", "rule"] [] := FunD.bindsN (ps := ["line", "rule"]) F_all_standing fun _ _ _ _ _ _ us hl => match us, hl with | [_, _], _ => rfl
  obtain ⟨fd_false_row, F_false_row⟩ := c.def_ 20 (d := d_false_row) rfl
  have b_false_row : Binds K fd_false_row ["line", "rule"] [] := FunD.bindsN (ps := ["line", "rule"]) F_false_row fun _ _ _ _ _ _ us hl => match us, hl with | [_, _], _ => rfl
  obtain ⟨fd_Late___init__, F_Late___init__⟩ := c.def_ 21 (d := d_Late___init__) rfl
  have b_Late___init__ : Binds K fd_Late___init__ ["self", "line", "rule"] [] := FunD.bindsN (ps := ["self", "line", "rule"]) F_Late___init__ fun _ _ _ _ _ _ us hl => match us, hl with | [_, _, _], _ => rfl
  obtain ⟨fd_Late_longest, F_Late_longest⟩ := c.def_ 22 (d := d_Late_longest) rfl
  have b_Late_longest : Binds K fd_Late_longest ["self", "ages", "kept"] [] := FunD.bindsN (ps := ["self", "ages", "kept"]) F_Late_longest fun _ _ _ _ _ _ us hl => match us, hl with | [_, _, _], _ => rfl
  obtain ⟨fd_latest, F_latest⟩ := c.def_ 23 (d := d_latest) rfl
  have b_latest : Binds K fd_latest ["line", "rule"] [] := FunD.bindsN (ps := ["line", "rule"]) F_latest fun _ _ _ _ _ _ us hl => match us, hl with | [_, _], _ => rfl
  obtain ⟨fd_chosen, F_chosen⟩ := c.def_ 24 (d := d_chosen) rfl
  have b_chosen : Binds K fd_chosen ["line", "rules"] [] := FunD.bindsN (ps := ["line", "rules"]) F_chosen fun _ _ _ _ _ _ us hl => match us, hl with | [_, _], _ => rfl
  obtain ⟨fd__law_dice, F__law_dice⟩ := c.def_ 25 (d := d__law_dice) rfl
  have b__law_dice : Binds K fd__law_dice ["_law_script", "_law_k"] [] := FunD.bindsN (ps := ["_law_script", "_law_k"]) F__law_dice fun _ _ _ _ _ _ us hl => match us, hl with | [_, _], _ => rfl
  obtain ⟨fd__law_off, F__law_off⟩ := c.def_ 26 (d := d__law_off) rfl
  have b__law_off : Binds K fd__law_off ["_law_d", "_law_most"] [] := FunD.bindsN (ps := ["_law_d", "_law_most"]) F__law_off fun _ _ _ _ _ _ us hl => match us, hl with | [_, _], _ => rfl
  obtain ⟨fd__law_alike, F__law_alike⟩ := c.def_ 27 (d := d__law_alike) rfl
  have b__law_alike : Binds K fd__law_alike ["_law_found", "_law_due"] [] := FunD.bindsN (ps := ["_law_found", "_law_due"]) F__law_alike fun _ _ _ _ _ _ us hl => match us, hl with | [_, _], _ => rfl
  obtain ⟨fd__law_refused, F__law_refused⟩ := c.def_ 28 (d := d__law_refused) rfl
  have b__law_refused : Binds K fd__law_refused ["_law_work", "_law_word", "_law_value"] [] := FunD.bindsN (ps := ["_law_work", "_law_word", "_law_value"]) F__law_refused fun _ _ _ _ _ _ us hl => match us, hl with | [_, _, _], _ => rfl
  obtain ⟨fd__law_line, F__law_line⟩ := c.def_ 29 (d := d__law_line) rfl
  have b__law_line : Binds K fd__law_line ["_law_d"] [] := FunD.bindsN (ps := ["_law_d"]) F__law_line fun _ _ _ _ _ _ us hl => match us, hl with | [_], _ => rfl
  obtain ⟨fd__law_rule, F__law_rule⟩ := c.def_ 30 (d := d__law_rule) rfl
  have b__law_rule : Binds K fd__law_rule ["_law_d"] [] := FunD.bindsN (ps := ["_law_d"]) F__law_rule fun _ _ _ _ _ _ us hl => match us, hl with | [_], _ => rfl
  obtain ⟨fd__law_bad_line, F__law_bad_line⟩ := c.def_ 31 (d := d__law_bad_line) rfl
  have b__law_bad_line : Binds K fd__law_bad_line ["_law_d", "_law_line_here"] [] := FunD.bindsN (ps := ["_law_d", "_law_line_here"]) F__law_bad_line fun _ _ _ _ _ _ us hl => match us, hl with | [_, _], _ => rfl
  obtain ⟨fd__law_bad_rule, F__law_bad_rule⟩ := c.def_ 32 (d := d__law_bad_rule) rfl
  have b__law_bad_rule : Binds K fd__law_bad_rule ["_law_d"] [] := FunD.bindsN (ps := ["_law_d"]) F__law_bad_rule fun _ _ _ _ _ _ us hl => match us, hl with | [_], _ => rfl
  obtain ⟨fd_law, F_law⟩ := c.def_ 33 (d := d_law) rfl
  have b_law : Binds K fd_law ["_law_script"] [] := FunD.bindsN (ps := ["_law_script"]) F_law fun _ _ _ _ _ _ us hl => match us, hl with | [_], _ => rfl
  cases hfa.symm.trans g_law
  have b := FunD.bindsA (ps := ["_law_script"]) F_law fun _ _ _ _ _ _ us hl => match us, hl with | [_], _ => rfl
  have gW : ∀ d : Wd, mg d.cls = some (.ref (xcl K d)) := fun d => by
    cases d with
    | line => exact g_BadLine
    | rule => exact g_BadRule
    | heard => exact g_BadHeard
    | text => exact g_BadText
  have RC := hXB.ref g_BeatError gW
  refine ⟨fd_law, fun s v => b s [v] rfl, fun base _ _ TB => ?_⟩
  have h_BadLine : XC P w K mg base 1 "BadLine" (He.ga K "BadLine") "why" := hXB.xc .line g_BadLine b_BadLine___init__ (ok_BadLine___init__ F_BadLine___init__ g_BeatError hXB.hs hXB.hrd hXB.hf (hXB.d .line).T (hXB.d .line).no)
  have h_BadRule : XC P w K mg base 1 "BadRule" (He.ga K "BadRule") "number" := hXB.xc .rule g_BadRule b_BadRule___init__ (ok_BadRule___init__ F_BadRule___init__ g_BeatError hXB.hs hXB.hrd hXB.hf (hXB.d .rule).T (hXB.d .rule).no)
  have h_BadHeard : XC P w K mg base 1 "BadHeard" (He.ga K "BadHeard") "at" := hXB.xc .heard g_BadHeard b_BadHeard___init__ (ok_BadHeard___init__ F_BadHeard___init__ g_BeatError hXB.hs hXB.hrd hXB.hf (hXB.d .heard).T (hXB.d .heard).no)
  have h_BadText : XC P w K mg base 1 "BadText" (He.ga K "BadText") "place" := hXB.xc .text g_BadText b_BadText___init__ (ok_BadText___init__ F_BadText___init__ g_BeatError hXB.hs hXB.hrd hXB.hf (hXB.d .text).T (hXB.d .text).no)
  have h__law_off : Has P w K mg base 1 "_law_off" p__law_off spOff := ⟨_, _, g__law_off, F__law_off.kp, b__law_off, ok__law_off F__law_off g_len⟩
  have h__law_dice : Has P w K mg base 1 "_law_dice" p__law_dice (spDice K) := ⟨_, _, g__law_dice, F__law_dice.kp, b__law_dice, ok__law_dice F__law_dice g_abs⟩
  have h__law_line : Has P w K mg base 2 "_law_line" p__law_line spLine := ⟨_, _, g__law_line, F__law_line.kp, b__law_line, ok__law_line F__law_line g_int h__law_off⟩
  have h__law_rule : Has P w K mg base 2 "_law_rule" p__law_rule spRule := ⟨_, _, g__law_rule, F__law_rule.kp, b__law_rule, ok__law_rule F__law_rule h__law_off⟩
  have h__law_bad_line : Has P w K mg base 2 "_law_bad_line" p__law_bad_line (spBadLine K) := ⟨_, _, g__law_bad_line, F__law_bad_line.kp, b__law_bad_line, ok__law_bad_line F__law_bad_line g_max g_range g_tuple h__law_off⟩
  have h__law_bad_rule : Has P w K mg base 2 "_law_bad_rule" p__law_bad_rule spBadRule := ⟨_, _, g__law_bad_rule, F__law_bad_rule.kp, b__law_bad_rule, ok__law_bad_rule F__law_bad_rule g_max h__law_off⟩
  have h_is_rule : Has P w K mg base 1 "is_rule" p_is_rule (spIsRule K) := ⟨_, _, g_is_rule, F_is_rule.kp, b_is_rule, ok_is_rule F_is_rule g_len g_MOST_SILENT g_MOST_WIDE g_MOST_MANY⟩
  have h_need_rule : Has P w K mg base 2 "need_rule" p_need_rule (spNeedRule K) := ⟨_, _, g_need_rule, F_need_rule.kp, b_need_rule, ok_need_rule F_need_rule h_is_rule⟩
  have h_first_state : Has P w K mg base 1 "first_state" p_first_state (spFirst K) := ⟨_, _, g_first_state, F_first_state.kp, b_first_state, ok_first_state F_first_state⟩
  have h_next_state : Has P w K mg base 1 "next_state" p_next_state (spNext K) := ⟨_, _, g_next_state, F_next_state.kp, b_next_state, ok_next_state F_next_state g_min⟩
  have h_is_gone : Has P w K mg base 1 "is_gone" p_is_gone (spGone K) := ⟨_, _, g_is_gone, F_is_gone.kp, b_is_gone, ok_is_gone F_is_gone g_len g_sum⟩
  have h_need_line : Has P w K mg base 1 "need_line" p_need_line (spNeedLine K) := ⟨_, _, g_need_line, F_need_line.kp, b_need_line, ok_need_line F_need_line g_MOST_EACH g_MOST_LATE g_MOST_LOST⟩
  have h_begun : Has P w K mg base 1 "begun" p_begun (spBegun K) := ⟨_, _, g_begun, F_begun.kp, b_begun, ok_begun F_begun⟩
  have h_heard_of : Has P w K mg base 1 "heard_of" p_heard_of (spHeardOf K) := ⟨_, _, g_heard_of, F_heard_of.kp, b_heard_of, ok_heard_of F_heard_of g_range g_len g_tuple⟩
  have h_moves : Has P w K mg base 2 "moves" p_moves (spMoves K) := ⟨_, _, g_moves, F_moves.kp, b_moves, ok_moves F_moves h_begun h_heard_of⟩
  have h_all_standing : Has P w K mg base 3 "all_standing" p_all_standing (spAll P w K) := ⟨_, _, g_all_standing, F_all_standing.kp, b_all_standing, ok_all_standing F_all_standing g_FIRST hFI h_first_state h_moves h_next_state h_is_gone⟩
  have T : WTxt K (He.ga K "Watcher") := ⟨cl_Watcher, na_Watcher_rule, na_Watcher_kept⟩
  have h_Watcher : HasC P w K mg base 3 "Watcher" (He.ga K "Watcher") p_Watcher___init__ (spWInit K (He.ga K "Watcher")) := ⟨_, _, mk_Watcher, g_Watcher, b_Watcher___init__, ok_Watcher___init__ F_Watcher___init__ T h_need_rule h_first_state⟩
  have h_Watcher_hear : HasM P w K mg base 2 (He.ga K "Watcher") "hear" p_Watcher_hear (spHear K (He.ga K "Watcher")) := ⟨_, _, cl_Watcher, me_Watcher_hear, b_Watcher_hear, ok_Watcher_hear F_Watcher_hear T h_next_state h_is_gone⟩
  have h_need_heard : Has P w K mg base 1 "need_heard" p_need_heard (spNeedHeard K) := ⟨_, _, g_need_heard, F_need_heard.kp, b_need_heard, ok_need_heard F_need_heard g_enumerate g_MOST_MOMENTS g_MOST_HEARD⟩
  have h_may : Has P w K mg base 3 "may" p_may (spMay K) := ⟨_, _, g_may, F_may.kp, b_may, ok_may F_may g_len g_FIRST hFI h_need_line h_need_heard h_moves⟩
  have h_told : Has P w K mg base 5 "told" p_told (spTold K) := ⟨_, _, g_told, F_told.kp, b_told, ok_told F_told h_need_rule h_need_heard h_Watcher h_Watcher_hear⟩
  have h_turns : Has P w K mg base 6 "turns" p_turns (spTurns K) := ⟨_, _, g_turns, F_turns.kp, b_turns, ok_turns F_turns g_enumerate h_told⟩
  have TL : LTxt K (He.ga K "Late") := ⟨cl_Late, na_Late_line, na_Late_rule, na_Late_known⟩
  have h_Late : HasC P w K mg base 1 "Late" (He.ga K "Late") p_Late___init__ (spLInit P w K (He.ga K "Late")) := ⟨_, _, mk_Late, g_Late, b_Late___init__, ok_Late___init__ F_Late___init__ TL⟩
  have h_Late_longest : HasM P w K mg base 17 (He.ga K "Late") "longest" p_Late_longest (spLongN P w K (He.ga K "Late") 16) := ⟨_, _, cl_Late, me_Late_longest, b_Late_longest, ok_Late_longest F_Late_longest b_Late_longest TL me_Late_longest h_heard_of h_next_state h_is_gone 16⟩
  have h_latest : Has P w K mg base 18 "latest" p_latest (spLatest K) := ⟨_, _, g_latest, F_latest.kp, b_latest, ok_latest F_latest g_len h_need_line h_need_rule h_Late h_Late_longest h_all_standing⟩
  have h_alikeS : HasH P w K mg base 1 "_law_alike" p__law_alike spAlikeS := ⟨_, _, g__law_alike, F__law_alike.kp, b__law_alike, ok_alikeS F__law_alike g_isinstance g_bool g_int g_str g_tuple g_list g_len⟩
  have h_need_lineX : HasN P w K mg base 3 "need_line" ["line"] (spNeedLineX K (xcl K .line)) := ⟨_, _, g_need_line, F_need_line.kp, b_need_line, ok_need_lineX F_need_line g_MOST_EACH g_MOST_LATE g_MOST_LOST h_BadLine⟩
  have h_need_ruleX : HasN P w K mg base 3 "need_rule" ["rule"] (spNeedRuleX K (xcl K .rule)) := ⟨_, _, g_need_rule, F_need_rule.kp, b_need_rule, ok_need_ruleX F_need_rule h_is_rule h_BadRule⟩
  have h_mayXl : HasN P w K mg base 4 "may" p_may (spLineX2 K (xcl K .line)) := ⟨_, _, g_may, F_may.kp, b_may, ok_mayXl F_may h_need_lineX⟩
  have h_false_rowXl : HasN P w K mg base 4 "false_row" p_false_row (spLineX2 K (xcl K .line)) := ⟨_, _, g_false_row, F_false_row.kp, b_false_row, ok_false_rowXl F_false_row h_need_lineX⟩
  have h_latestXl : HasN P w K mg base 4 "latest" p_latest (spLineX2 K (xcl K .line)) := ⟨_, _, g_latest, F_latest.kp, b_latest, ok_latestXl F_latest h_need_lineX⟩
  have h_chosenXl : HasN P w K mg base 4 "chosen" p_chosen (spLineX2 K (xcl K .line)) := ⟨_, _, g_chosen, F_chosen.kp, b_chosen, ok_chosenXl F_chosen h_need_lineX⟩
  have h_false_rowXr : HasN P w K mg base 4 "false_row" p_false_row (spLRX K (xcl K .rule)) := ⟨_, _, g_false_row, F_false_row.kp, b_false_row, ok_false_rowXr F_false_row h_need_line h_need_ruleX⟩
  have h_latestXr : HasN P w K mg base 4 "latest" p_latest (spLRX K (xcl K .rule)) := ⟨_, _, g_latest, F_latest.kp, b_latest, ok_latestXr F_latest h_need_line h_need_ruleX⟩
  have h_toldXr : HasN P w K mg base 4 "told" p_told (spRuleX2 K (xcl K .rule)) := ⟨_, _, g_told, F_told.kp, b_told, ok_toldXr F_told h_need_ruleX⟩
  have h_turnsXr : HasN P w K mg base 5 "turns" p_turns (spRuleX2 K (xcl K .rule)) := ⟨_, _, g_turns, F_turns.kp, b_turns, ok_turnsXr F_turns g_enumerate h_toldXr⟩
  have h_WatcherX : HasCN P w K mg base 4 "Watcher" (He.ga K "Watcher") p_Watcher___init__ (spWInitX K (xcl K .rule)) := ⟨_, _, mk_Watcher, g_Watcher, b_Watcher___init__, ok_WatcherX F_Watcher___init__ h_need_ruleX⟩
  have h_chosenXr : HasN P w K mg base 3 "chosen" p_chosen (spChosenX K (xcl K .rule)) := ⟨_, _, g_chosen, F_chosen.kp, b_chosen, ok_chosenXr F_chosen g_enumerate h_need_line h_is_rule h_BadRule⟩
  have h__law_refused : HasR P w K mg base 6 (xcl K) := ⟨_, _, g__law_refused, F__law_refused.kp, b__law_refused, fun hr e0 hact r hb hl hs hT hQ => refused_run F__law_refused RC g_isinstance g_ValueError h_alikeS hr (by decide) e0 hact r hb hl hs hT hQ⟩
  exact (ok_law F_law (code_of F_law) TB g_len g_isinstance g_bool g_tuple h__law_dice h__law_off h__law_line h__law_rule h__law_bad_line h__law_bad_rule h_may h_latest h_told h_turns h_mayXl h_false_rowXl h_latestXl h_chosenXl h_false_rowXr h_latestXr h_toldXr h_turnsXr h_WatcherX h_chosenXr h__law_refused).mono (by decide)
end Bw
open PySem PySem.W PySem.Calls PyProof.Rows
set_option maxRecDepth 100000 in
set_option maxHeartbeats 0 in
theorem PySem.Challenge.cw_beatwatch_k01_lines_and_rules_refused_holds : PySem.Challenge.rw_beatwatch_k01_lines_and_rules_refused.Holds := by
  w_on; o_law
  refine HandSHeadRun.head_any (r := OpenLaw.row PySem.Challenge.rw_beatwatch_k01_lines_and_rules_refused) (q := view (OpenLaw.row PySem.Challenge.rw_beatwatch_k01_lines_and_rules_refused).prog [46]) (H := Bw.hk) (ob := Bw.ob) (M := 20000) (loose := Bw.loose) (d := HandSHeadRun.topDef (OpenLaw.row PySem.Challenge.rw_beatwatch_k01_lines_and_rules_refused).prog 46) (kwd := []) Bw.ob_eq
    (by kernel_rfl) (fun s => by kernel_rfl) Bw.run (by kernel_rfl) (by kernel_rfl) (by kernel_rfl) (by rfl) (by first | assumption | decide +kernel) (by decide +kernel) ⟨rfl, rfl, rfl, rfl, rfl, by decide +kernel⟩ ?hw ?hc
  case hw => w_witness2
  case hc =>
    refine LamX.walk_ofTsE (l := PySem.Challenge.rw_beatwatch_k01_lines_and_rules_refused) (n := 63) (k := 21) (x := "_law_script") (CX := fun _ => L2.CX0) rfl (by decide) (by kernel_rfl) ⟨rfl, by decide, by decide⟩ ?F (fun _ _ _ _ _ z => z)
    intro w mg fa h Y G hmg0
    obtain ⟨K, KX, c⟩ := Y
    have hmg : mg ("law" : PySem.Str) = some (.ref fa) := by
      have e : (HandSHeadRun.topDef (OpenLaw.row PySem.Challenge.rw_beatwatch_k01_lines_and_rules_refused).prog 46).name = ("law" : PySem.Str) := by kernel_rfl
      rw [← e]
      exact hmg0
    obtain ⟨fd, hb, hF⟩ := Bw.facts (P := (PySem.Challenge.rw_beatwatch_k01_lines_and_rules_refused).prog) (w := w) KX G hmg c
    refine ⟨K, KX, fd, [He.cT K ("law", none)], Bw.spLawT K (He.cT K ("law", none)).2, ?_, ?_, ?_, hb, fun H a ns hl _ hT hS => ⟨a, ns, rfl, hS, hl, hT _ (List.mem_singleton.mpr rfl), fun _ => rfl⟩, fun base h1 h2 h3 => hF base h1 h2 (h3 _ (List.mem_singleton.mpr rfl))⟩
    · intro p hp
      rw [List.mem_singleton.mp hp]
      exact c.empty _ (List.mem_singleton.mpr rfl)
    · intro p hp
      rw [List.mem_singleton.mp hp]
      exact c.out _ (List.mem_singleton.mpr rfl)
    · intro p hp
      rw [List.mem_singleton.mp hp]
      exact PySem.W.codeHd_of_K KX (c.hd _ (List.mem_singleton.mpr rfl))

