import PyProof.Rows.All
import Wide.All
import OpenK.AllK
import Wide.FinOn
import HandS.ForMost
import HandS.TupAny
import HandS.TupMul
import HandS.IsInst
import HandS.Defaults
import HandS.Evl
import KE.KTupSum
import KE.KStateDown
import KE.KDictKeyed
import HandS.Walk
import HandS.TupLen
import HandS.Style
import HandS.HeadHook3
import HandS.HeadHook4
import HandS.Head0
import HandS.Head1
import HandS.Head2
import HandS.HeadEnd
import HandS.HeadHook1
import HandS.HeadHook2
import PySem.Challenge.RW_beatwatch_k05_whole_what_may_be_heard
set_option Elab.async false
set_option linter.all false
set_option maxRecDepth 100000
set_option maxHeartbeats 4000000
namespace Bw
open PySem PySem.Spec PyProof.Rows L2
/-! ### own rules -/
section
variable {X : Cx}
/-- sum of a tuple of ints -/
def rSumT (K : PySem.W.Frag) : List V → Hp → VK → Prop := fun vs H Q => ∃ (a : Addr) (ns : List Int), vs = [V.ref a] ∧ SqT K H a (ns.map V.int) ∧ Q (.int ns.sum) H
theorem cr_sumT (hc : X.calm = true) : CallR X (.builtin "sum") (rSumT X.K) := by
  intro pins s σ H vs us Q I r h
  obtain ⟨a, ns, rfl, hs, q⟩ := h
  obtain ⟨its, rv, hl, _⟩ := I.tuple hs
  rw [Vals.ref1 r]
  have hi := rv.ints
  obtain ⟨xs, e⟩ := hi.allInts.items
  have hn : numsOf (intItems xs).toList = ns := by rw [← e]; exact hi.numsOf
  rw [nums_intItems] at hn
  rw [e] at hl
  refine PySem.W.ktm_sumG (I.ok.hd hc) hl fun h' tk t' hk => ?_
  have z : EP X pins σ Q (.int ns.sum t') { s with heap := h', toks := tk } := ⟨.int _, H, I.kept hk, ⟨_, rfl⟩, q⟩
  rw [preSum_eq, List.take_of_length_le (by simp), hn]
  exact z
end
section
variable {X : Cx}
theorem pe_gI {x : Str} {i : Int} {t : Tok} {pos : Pos} (hg : Gl X x) (hm : X.mg x = some (.int i t)) (hd : (x == ("__debug__" : Str)) = false := by decide) : PE X (.Name x pos) (tC (.int i)) := pe_glob (v := .int i) hg hm ⟨_, rfl⟩ hd
theorem pe_gS {x : Str} {i : Str} {t : Tok} {pos : Pos} (hg : Gl X x) (hm : X.mg x = some (.str i t)) (hd : (x == ("__debug__" : Str)) = false := by decide) : PE X (.Name x pos) (tC (.str i)) := pe_glob (v := .str i) hg hm ⟨_, rfl⟩ hd
theorem pe_gR {x : Str} {a : Addr} {pos : Pos} (hg : Gl X x) (hm : X.mg x = some (.ref a)) (hd : (x == ("__debug__" : Str)) = false := by decide) : PE X (.Name x pos) (tC (.ref a)) := pe_glob (v := .ref a) hg hm rfl hd
end
/-! ### tests -/
theorem iteD {c A B : Prop} [Decidable c] (h1 : c → A) (h2 : ¬ c → B) : if decide c = true then A else B := by
  by_cases h : c
  · rw [decide_eq_true h]
    exact iteT (h1 h)
  · rw [decide_eq_false h]
    exact iteF (h2 h)
theorem iteN {c A B : Prop} [Decidable c] (h1 : ¬ c → A) (h2 : c → B) : if (!decide c) = true then A else B := by
  by_cases h : c
  · rw [decide_eq_true h]
    exact iteF (h2 h)
  · rw [decide_eq_false h]
    exact iteT (h1 h)
theorem iteB {c : Bool} {A B : Prop} (h1 : c = true → A) (h2 : c = false → B) : if c = true then A else B := by
  cases c with
  | true => exact iteT (h1 rfl)
  | false => exact iteF (h2 rfl)
theorem nat_at {i n : Nat} (h : i < n) (hn : n ≤ sizeLine) : seqIndex? (i : Int) n = some i := by
  have h1 : ixN n (i : Int) = some i := by
    unfold ixN
    rw [if_pos (by omega), if_pos (by omega)]
    rfl
  exact (ixN_seq h1).1
theorem ixN_nat {i n : Nat} (h : i < n) : ixN n (i : Int) = some i := by
  unfold ixN
  rw [if_pos (by omega), if_pos (by omega)]
  rfl
/-! ### a def by its name -/
structure Has (P : Program) (w : World) (K : PySem.W.Frag) (mg : Str → Option Value) (base : Heap) (k : Nat) (x : Str) (ps : List Str) (sp : Sp) : Prop where
  ex : ∃ f fd, mg x = some (.ref f) ∧ PySem.W.keepIn K (.ref f) = true ∧ Binds K fd ps [] ∧ FnOk P w K mg base CX0 k f fd ps sp
theorem pe_fn {X : Cx} {j k : Nat} {x : Str} {ps : List Str} {sp : Sp} {e : Expr} {es : List Expr} {t : TA} {p pos : Pos} (h : Has X.prog X.w X.K X.mg X.base j x ps sp) (hr : Room k X.A) (hg : Gl X x) (ha : PA X (e :: es) t)
    (hjk : j ≤ k := by decide) (hdb : (x == ("__debug__" : Str)) = false := by decide) (he : starEach (e :: es) X.env = (false, eval e X.env) :: starEach es X.env := by rfl) (hpl : (backTo pos (starEach es X.env)).any (·.1) = false := by rfl) :
    PE X (.Call (.Name x p) (e :: es) [] pos) (tCall sp [] E0 t) := by
  obtain ⟨f, fd, hm, hk, hb, F⟩ := h.ex
  exact pe_call F (hr.mono hjk) hg hm hk hb .nil pass0 ha hdb he hpl
/-- a method of a class by its name -/
structure HasM (P : Program) (w : World) (K : PySem.W.Frag) (mg : Str → Option Value) (base : Heap) (k : Nat) (C : Addr) (m : Str) (ps : List Str) (sp : Sp) : Prop where
  ex : ∃ f fd, Cls K C ∧ Meth K C m f ∧ Binds K fd ps [] ∧ FnOk P w K mg base CX0 k f fd ps sp
theorem pe_mth {X : Cx} {j k : Nat} {C : Addr} {m : Str} {ps : List Str} {sp : Sp} {o e : Expr} {es : List Expr} {ta : TE} {t : TA} {apos pos : Pos} {pl : Sem Bool} (h : HasM X.prog X.w X.K X.mg X.base j C m ps sp) (ho : PE X o ta) (hr : Room k X.A) (ha : PA X (e :: es) t)
    (hjk : j ≤ k := by decide) (hst : starEach (e :: es) X.env = (false, eval e X.env) :: starEach es X.env := by rfl) (hpl : (backTo pos (starEach es X.env)).any (·.1) = false := by rfl)
    (ht : eval (.Call (.Attribute o m apos) (e :: es) [] pos) X.env = (do
      let ov ← eval o X.env
      standAt apos.atName
      let (f, first) ← holding [ov] (getMethod ov m pl)
      callWith pos f first (backTo pos (starEach (e :: es) X.env)) (backToKw pos (keywordEach [] X.env))) := by rfl) :
    PE X (.Call (.Attribute o m apos) (e :: es) [] pos) (tMeth C m sp [] E0 ta t) := by
  obtain ⟨f, fd, hc, hm, hb, F⟩ := h.ex
  exact pe_meth ho hc hm F (hr.mono hjk) hb .nil pass0 ha hst hpl ht
/-- a class that is made by its __init__ -/
structure HasC (P : Program) (w : World) (K : PySem.W.Frag) (mg : Str → Option Value) (base : Heap) (k : Nat) (x : Str) (C : Addr) (ps : List Str) (sp : Sp) : Prop where
  ex : ∃ f fd, Mk K C f ∧ mg x = some (.ref C) ∧ Binds K fd ps [] ∧ FnOk P w K mg base CX0 k f fd ps sp
theorem pe_new {X : Cx} {j k : Nat} {x : Str} {C : Addr} {ps : List Str} {sp : Sp} {e : Expr} {es : List Expr} {t : TA} {p pos : Pos} (h : HasC X.prog X.w X.K X.mg X.base j x C ps sp) (hr : Room k X.A) (hg : Gl X x) (ha : PA X (e :: es) t)
    (hjk : j + 1 ≤ k := by decide) (hdb : (x == ("__debug__" : Str)) = false := by decide) (he : starEach (e :: es) X.env = (false, eval e X.env) :: starEach es X.env := by rfl) (hpl : (backTo pos (starEach es X.env)).any (·.1) = false := by rfl) :
    PE X (.Call (.Name x p) (e :: es) [] pos) (tMake C sp [] E0 t) := by
  obtain ⟨f, fd, M, hm, hb, F⟩ := h.ex
  exact pe_make M F (hr.mono hjk) hg hm hb .nil pass0 ha hdb he hpl
/-- a def of the text -/
abbrev FnP (K : PySem.W.Frag) (x : Str) (st : Stmt) (f : Addr) (fd : FuncData) : Prop := FunD K x x (defArgs st) (defBody st) (defScope st) [] [] f fd
abbrev FnQ (K : PySem.W.Frag) (x q : Str) (st : Stmt) (f : Addr) (fd : FuncData) : Prop := FunD K x q (defArgs st) (defBody st) (defScope st) [] [] f fd
end Bw

set_option Elab.async false
set_option linter.all false
set_option maxRecDepth 100000
set_option maxHeartbeats 4000000
namespace Bw
open PySem PySem.Spec PyProof.Rows L2
/-! ### heaps -/
theorem _root_.L2.Same.tupB {K : PySem.W.Frag} {H H' : Hp} {a : Addr} {xs : List V} (e : Same H H') (h : SqT K H a xs) : SqT K H' a xs := by
  rcases h with (h | ⟨o, h⟩) | h
  · exact .inl (.inl (e _ _ h))
  · exact .inl (.inr ⟨o, e _ _ h⟩)
  · exact .inr h
theorem _root_.L2.Same.newB {H : Hp} {p : Addr} {o : HO} (h : H p = none) : Same H (upd H p o) := fun a u e => by
  rw [upd_ne (ne_of_none e h)]
  exact e
theorem _root_.L2.Same.moreB {H H' : Hp} {p : Addr} {o : HO} (e : Same H H') (h : H' p = none) : Same H (upd H' p o) := e.trans (Same.newB h)
/-- an object that H doesn't know may change -/
theorem _root_.L2.Same.mutB {H H' : Hp} {p : Addr} {o : HO} (e : Same H H') (h : H p = none) : Same H (upd H' p o) := fun a u ha => by
  rw [upd_ne (ne_of_none ha h)]
  exact e a u ha
/-! ### the draws -/
def DiceL (xs : List V) : Prop := ∃ (a b : Int) (r : List Int), xs = V.int a :: V.int b :: r.map V.int
def DiceAt (H : Hp) (d : Addr) : Prop := ∃ xs, H d = some (.lst xs) ∧ DiceL xs
/-- from H to H' all is kept but the draws at d -/
structure Dr (d : Addr) (H H' : Hp) : Prop where
  dice : DiceAt H' d
  keep : ∀ b o, b ≠ d → H b = some o → H' b = some o
section
variable {d : Addr} {H H1 H2 : Hp}
theorem Dr.refl (h : DiceAt H d) : Dr d H H := ⟨h, fun _ _ _ e => e⟩
theorem Dr.trans (a : Dr d H H1) (b : Dr d H1 H2) : Dr d H H2 := ⟨b.dice, fun c o n e => b.keep c o n (a.keep c o n e)⟩
theorem DiceAt.ne {p : Addr} (h : DiceAt H d) (e : H p = none) : p ≠ d := by
  rintro rfl
  obtain ⟨xs, h1, _⟩ := h
  rw [h1] at e
  cases e
theorem DiceAt.same (h : DiceAt H d) (s : Same H H1) : DiceAt H1 d := let ⟨xs, h1, h2⟩ := h; ⟨xs, s _ _ h1, h2⟩
theorem Dr.same (a : Dr d H H1) (s : Same H1 H2) : Dr d H H2 := ⟨a.dice.same s, fun c o n e => s c o (a.keep c o n e)⟩
theorem Dr.ofSame (a : DiceAt H d) (s : Same H H1) : Dr d H H1 := (Dr.refl a).same s
theorem Dr.new {p : Addr} {o : HO} (a : Dr d H H1) (e : H1 p = none) : Dr d H (upd H1 p o) := a.same (Same.newB e)
theorem Dr.free {p : Addr} (a : Dr d H H1) (e : H1 p = none) : H p = none := by
  cases h : H p with
  | none => rfl
  | some o => rw [a.keep p o (a.dice.ne e) h] at e; cases e
theorem Dr.tup {K : PySem.W.Frag} {p : Addr} {xs : List V} (a : Dr d H H1) (hd : DiceAt H d) (h : SqT K H p xs) : SqT K H1 p xs := by
  obtain ⟨ys, h1, _⟩ := hd
  rcases h with (h | ⟨o, h⟩) | h
  · exact .inl (.inl (a.keep _ _ (ne_of h h1 (by intro z; cases z)) h))
  · exact .inl (.inr ⟨o, a.keep _ _ (ne_of h h1 (by intro z; cases z)) h⟩)
  · exact .inr h
theorem Dr.set {xs ys : List V} (h : H d = some (.lst xs)) (hy : DiceL ys) : Dr d H (upd H d (.lst ys)) := ⟨⟨ys, upd_same, hy⟩, fun b o n e => by rw [upd_ne n]; exact e⟩
end
def spDice (K : PySem.W.Frag) : Sp := fun vs H Q _ => ∃ (a : Addr) (k : Int) (ns : List Int), vs = [.ref a, .int k] ∧ SqL K H a (ns.map V.int) ∧ ns.length ≤ 63 ∧
  ∀ p H', Same H H' → H p = none → DiceAt H' p → Q (.ref p) H'
def spOff : Sp := fun vs H Q _ => ∃ (d : Addr) (m : Int), vs = [.ref d, .int m] ∧ DiceAt H d ∧ 0 < m ∧ m < 1073741824 ∧ ∀ (r : Int) (H' : Hp), 0 ≤ r → r < m → Dr d H H' → Q (.int r) H'
/-! ### rules -/
inductive Rule where
  | since (n : Nat)
  | few (w m : Nat)
def Rule.ok : Rule → Prop
  | .since n => 1 ≤ n ∧ n ≤ 12
  | .few w m => 1 ≤ w ∧ w ≤ 5 ∧ 1 ≤ m ∧ m ≤ 3
def Rule.vs : Rule → List V
  | .since n => [.str "since", .int n]
  | .few w m => [.str "few", .int w, .int m]
/-- r[1] -/
def Rule.wide : Rule → Nat
  | .since n => n
  | .few w _ => w
theorem since_few : ¬ (("since" : Str) = "few") := by decide +kernel
theorem few_since : ¬ (("few" : Str) = "since") := by decide +kernel
def spRule : Sp := fun vs H Q _ => ∃ (d : Addr), vs = [.ref d] ∧ DiceAt H d ∧ ∀ (r : Rule) (p : Addr) (H' : Hp), r.ok → Dr d H H' → H p = none → H' p = some (.tup r.vs) → Q (.ref p) H'
/-! ### what a watcher keeps -/
def lastN (w : Nat) (l : List Int) : List Int := l.drop (l.length - w)
def nextS : Rule → List Int → Int → List Int
  | .since n, st, many => if many > 0 then [0] else [if st.headD 0 + 1 < (n : Int) then st.headD 0 + 1 else (n : Int)]
  | .few w _, st, many => lastN w (st ++ [many])
def firstS : Rule → List Int
  | .since _ => [0]
  | .few _ _ => []
def goneS : Rule → List Int → Bool
  | .since n, st => decide ((n : Int) ≤ st.headD 0)
  | .few w m, st => decide ((st.length : Int) = (w : Int)) && decide (st.sum < (m : Int))
def StOk : Rule → List Int → Prop
  | .since _, st => ∃ k, st = [k]
  | .few w _, st => st.length ≤ w
theorem stOk_first (r : Rule) : StOk r (firstS r) := by
  cases r with
  | since n => exact ⟨0, rfl⟩
  | few w m => exact Nat.zero_le _
theorem stOk_next (r : Rule) (st : List Int) (many : Int) : StOk r (nextS r st many) := by
  cases r with
  | since n =>
    show ∃ k, (if many > 0 then [0] else [if st.headD 0 + 1 < (n : Int) then st.headD 0 + 1 else (n : Int)]) = [k]
    by_cases h : many > 0
    · rw [if_pos h]
      exact ⟨_, rfl⟩
    · rw [if_neg h]
      exact ⟨_, rfl⟩
  | few w m =>
    show (lastN w (st ++ [many])).length ≤ w
    unfold lastN
    rw [List.length_drop]
    omega
/-- behind what was heard -/
def stOf (r : Rule) (hs : List Int) : List Int := hs.foldl (nextS r) (firstS r)
theorem stOf_snoc (r : Rule) (hs : List Int) (m : Int) : stOf r (hs ++ [m]) = nextS r (stOf r hs) m := by
  unfold stOf
  rw [List.foldl_append]
  rfl
theorem stOk_of (r : Rule) (hs : List Int) : StOk r (stOf r hs) := by
  rcases List.eq_nil_or_concat hs with rfl | ⟨l, a, rfl⟩
  · exact stOk_first r
  · rw [List.concat_eq_append, stOf_snoc]
    exact stOk_next r _ a
/-- the other one is gone by a rule, behind what was heard -/
def goneH : Rule → List Int → Bool
  | .since n, hs => decide (n ≤ hs.length) && decide ((lastN n hs).filter (fun m => decide (0 < m)) = [])
  | .few w m, hs => decide (w ≤ hs.length) && decide ((lastN w hs).sum < (m : Int))
theorem snoc_ind {α : Type} {P : List α → Prop} (h0 : P []) (hs : ∀ l a, P l → P (l ++ [a])) (l : List α) : P l := by
  have key : ∀ n (l : List α), l.length = n → P l := by
    intro n
    induction n with
    | zero => intro l e; rw [List.length_eq_zero_iff.mp e]; exact h0
    | succ n ih =>
      intro l e
      rcases List.eq_nil_or_concat l with rfl | ⟨l', a, rfl⟩
      · exact h0
      · rw [List.concat_eq_append] at e ⊢
        rw [List.length_append] at e
        exact hs l' a (ih l' (by simpa using e))
  exact key _ l rfl
/-- how many moments at the end were silent -/
def quiet : List Int → Nat := fun l => (l.reverse.takeWhile fun m => decide (m ≤ 0)).length
theorem quiet_nil : quiet [] = 0 := rfl
theorem quiet_snoc (l : List Int) (m : Int) : quiet (l ++ [m]) = if m > 0 then 0 else quiet l + 1 := by
  unfold quiet
  rw [List.reverse_append]
  show (List.takeWhile _ (m :: l.reverse)).length = _
  rw [List.takeWhile_cons]
  by_cases h : m > 0
  · rw [if_pos h, if_neg (by simp; omega)]
    rfl
  · rw [if_neg h, if_pos (by simp; omega)]
    rfl
theorem since_is (n : Nat) (hs : List Int) : stOf (.since n) hs = [((min n (quiet hs) : Nat) : Int)] := by
  refine snoc_ind (P := fun hs => stOf (.since n) hs = [((min n (quiet hs) : Nat) : Int)]) ?_ ?_ hs
  · show [(0 : Int)] = _
    rw [quiet_nil, Nat.min_zero]
    rfl
  · intro l a ih
    rw [stOf_snoc, ih, quiet_snoc]
    show (if a > 0 then [0] else [if (((min n (quiet l) : Nat) : Int)) + 1 < (n : Int) then (((min n (quiet l) : Nat) : Int)) + 1 else (n : Int)]) = _
    by_cases h : a > 0
    · rw [if_pos h, if_pos h, Nat.min_zero]
      rfl
    · rw [if_neg h, if_neg h]
      congr 1
      split <;> omega
theorem lastN_len (w : Nat) (l : List Int) : (lastN w l).length = min w l.length := by
  unfold lastN
  rw [List.length_drop]
  omega
theorem lastN_snoc (w : Nat) (l : List Int) (a : Int) (hw : 1 ≤ w) : lastN w (lastN w l ++ [a]) = lastN w (l ++ [a]) := by
  unfold lastN
  rw [List.length_append, List.length_append, List.length_drop, List.drop_append, List.drop_append, List.drop_drop, List.length_drop]
  simp only [List.length_singleton]
  congr 1
  · congr 1
    omega
  · congr 1
    omega
theorem few_is (w m : Nat) (hw : 1 ≤ w) (hs : List Int) : stOf (.few w m) hs = lastN w hs := by
  refine snoc_ind (P := fun hs => stOf (.few w m) hs = lastN w hs) ?_ ?_ hs
  · show ([] : List Int) = lastN w []
    unfold lastN
    rw [List.drop_nil]
  · intro l a ih
    rw [stOf_snoc, ih]
    exact lastN_snoc w l a hw
theorem quiet_le (l : List Int) : quiet l ≤ l.length := by
  refine snoc_ind (P := fun l => quiet l ≤ l.length) ?_ ?_ l
  · exact Nat.le_refl _
  · intro l a ih
    rw [quiet_snoc, List.length_append]
    split <;> simp <;> omega
theorem quiet_iff (n : Nat) (hs : List Int) : n ≤ quiet hs ↔ n ≤ hs.length ∧ (lastN n hs).filter (fun m => decide (0 < m)) = [] := by
  revert n
  refine snoc_ind (P := fun hs => ∀ n, n ≤ quiet hs ↔ n ≤ hs.length ∧ (lastN n hs).filter (fun m => decide (0 < m)) = []) ?_ ?_ hs
  · intro n
    rw [quiet_nil]
    constructor
    · intro h
      refine ⟨h, ?_⟩
      unfold lastN
      rw [List.drop_nil]
      rfl
    · intro h
      exact h.1
  · intro l a ih n
    rw [quiet_snoc, List.length_append, List.length_singleton]
    cases n with
    | zero =>
      constructor
      · intro _
        refine ⟨Nat.zero_le _, ?_⟩
        unfold lastN
        rw [Nat.sub_zero, List.drop_length]
        rfl
      · intro _
        exact Nat.zero_le _
    | succ n =>
      have e : n + 1 ≤ l.length + 1 → lastN (n + 1) (l ++ [a]) = lastN n l ++ [a] := by
        intro h
        unfold lastN
        rw [List.length_append, List.length_singleton, List.drop_append]
        have h1 : l.length + 1 - (n + 1) = l.length - n := by omega
        have h2 : l.length - n - l.length = 0 := by omega
        rw [h1, h2]
        rfl
      by_cases h : a > 0
      · rw [if_pos h]
        constructor
        · intro q
          omega
        · rintro ⟨h1, h2⟩
          rw [e h1, List.filter_append] at h2
          have h3 := (List.append_eq_nil_iff.mp h2).2
          rw [List.filter_cons, if_pos (by simpa using h)] at h3
          cases h3
      · rw [if_neg h]
        have hi := ih n
        constructor
        · intro q
          obtain ⟨h1, h2⟩ := hi.mp (by omega)
          refine ⟨by omega, ?_⟩
          rw [e (by omega), List.filter_append, h2, List.filter_cons, if_neg (by simpa using h)]
          rfl
        · rintro ⟨h1, h2⟩
          rw [e h1, List.filter_append] at h2
          have h3 := hi.mpr ⟨by omega, (List.append_eq_nil_iff.mp h2).1⟩
          omega
theorem gone_is (r : Rule) (hr : r.ok) (hs : List Int) : goneS r (stOf r hs) = goneH r hs := by
  cases r with
  | since n =>
    rw [since_is]
    show decide ((n : Int) ≤ ((min n (quiet hs) : Nat) : Int)) = (decide (n ≤ hs.length) && decide ((lastN n hs).filter (fun m => decide (0 < m)) = []))
    rw [← Bool.decide_and]
    refine decide_eq_decide.mpr ?_
    rw [← quiet_iff]
    omega
  | few w m =>
    rw [few_is w m hr.1]
    show (decide (((lastN w hs).length : Int) = (w : Int)) && decide ((lastN w hs).sum < (m : Int))) = (decide (w ≤ hs.length) && decide ((lastN w hs).sum < (m : Int)))
    congr 1
    refine decide_eq_decide.mpr ?_
    rw [lastN_len]
    omega
/-! ### alike -/
inductive Dn : Nat → PyData → Prop where
  | non (n : Nat) : Dn n .none
  | bool (n : Nat) (b : Bool) : Dn n (.bool b)
  | int (n : Nat) (i : Int) : Dn n (.int i)
  | str (n : Nat) (x : Str) : Dn n (.str x)
  | list (n : Nat) (ds : List PyData) (hl : ds.length ≤ 1000) (h : ∀ d ∈ ds, Dn n d) : Dn (n + 1) (.list ds)
  | tuple (n : Nat) (ds : List PyData) (hl : ds.length ≤ 1000) (h : ∀ d ∈ ds, Dn n d) : Dn (n + 1) (.tuple ds)
def spAlike (K : PySem.W.Frag) (n : Nat) : Sp := fun vs H Q _ => ∃ (x y : V) (D : PyData), vs = [x, y] ∧ Dp K H x D ∧ Dp K H y D ∧ Dn n D ∧ ∀ H', Same H H' → Q (.bl true) H'
def spAlikeN (K : PySem.W.Frag) : Nat → Sp
  | 0 => fun _ _ _ _ => False
  | n + 1 => spAlike K n
theorem Dp.same {K : PySem.W.Frag} {H H' : Hp} (s : Same H H') : ∀ (d : PyData) (v : V), Dp K H v d → Dp K H' v d := by
  intro d v h
  refine Dp.rec (K := K) (H := H) (motive_1 := fun v d _ => Dp K H' v d) (motive_2 := fun vs ds _ => DpAll K H' vs ds) ?_ ?_ ?_ ?_ ?_ ?_ ?_ ?_ h
  · exact .non
  · exact fun b => .bl b
  · exact fun b => .int b
  · exact fun b => .str b
  · exact fun h1 _ h2 => .lst (s.seq h1) h2
  · exact fun h1 _ h2 => .tup (s.tupB h1) h2
  · exact .nil
  · exact fun _ _ h1 h2 => .cons h1 h2
theorem DpAll.len {K : PySem.W.Frag} {H : Hp} : ∀ {vs : List V} {ds : List PyData}, DpAll K H vs ds → vs.length = ds.length
  | _, _, .nil => rfl
  | _, _, .cons _ h => congrArg Nat.succ (DpAll.len h)
theorem DpAll.get {K : PySem.W.Frag} {H : Hp} : ∀ {vs : List V} {ds : List PyData} {i : Nat}, DpAll K H vs ds → i < ds.length → ∃ v d, vs[i]? = some v ∧ ds[i]? = some d ∧ Dp K H v d
  | _, _, _, .nil, h => absurd h (Nat.not_lt_zero _)
  | _, _, 0, .cons h _, _ => ⟨_, _, rfl, rfl, h⟩
  | _, _, i + 1, .cons _ h, hi => DpAll.get (i := i) h (Nat.lt_of_succ_lt_succ hi)
theorem tyx_list {K : PySem.W.Frag} {H : Hp} {a : Addr} {xs : List V} (h : SqL K H a xs) : TyX K H (.ref a) (.type "list") := by
  rcases h with (h | ⟨o, h⟩) | ⟨o, its, n, h, c, _⟩
  · exact .base (.lst h)
  · exact .base (.frz h)
  · exact .kList h c
theorem tyx_tup {K : PySem.W.Frag} {H : Hp} {a : Addr} {xs : List V} (h : SqT K H a xs) : TyX K H (.ref a) (.type "tuple") := by
  rcases h with (h | ⟨o, h⟩) | ⟨o, its, n, h, c, _⟩
  · exact .base (.tup h)
  · exact .fTuple h
  · exact .kTuple h c
theorem rd_isi {K : PySem.W.Frag} {H : Hp} {x : V} {a b : String} {r : Bool} {Q : VK} (ty : TyX K H x (.type a)) (h : kitB a b = some r) (q : Q (.bl r) H) : rIsi K [x, .ty b] H Q := ⟨x, .ty b, _, _, r, rfl, .ty b, ty, kit_ty h, q⟩
theorem qd {c : Prop} [Decidable c] {Q : VK} {H : Hp} (hc : c) (q : Q (.bl true) H) : Q (.bl (decide c)) H := by
  rw [decide_eq_true hc]
  exact q
theorem qb {a b : Bool} {Q : VK} {H : Hp} (e : a = b) (q : Q (.bl a) H) : Q (.bl b) H := by
  rw [← e]
  exact q
theorem int_at {ns : List Int} {i : Nat} {y : V} (h : (ns.map V.int)[i]? = some y) : ∃ z, ns[i]? = some z ∧ y = V.int z := by
  rw [List.getElem?_map] at h
  cases e : ns[i]? with
  | none => rw [e] at h; cases h
  | some z => rw [e] at h; exact ⟨z, rfl, (Option.some.inj h).symm⟩
theorem szle {n : Nat} (h : n ≤ 100000) : n ≤ sizeLine := Nat.le_trans h (by decide)
theorem szlt {n : Nat} (h : n < 100000) : n < sizeLine := Nat.lt_of_lt_of_le h (by decide)
theorem fnOk_false {P : Program} {w : World} {K : PySem.W.Frag} {mg : Str → Option Value} {base : Heap} {CX : CXT} {k : Nat} {f : Addr} {fd : FuncData} {ps : List Str} : FnOk P w K mg base CX k f fd ps (fun _ _ _ _ => False) :=
  ⟨fun _ _ _ _ h => h.elim, fun _ _ _ _ _ _ _ _ _ _ _ _ _ h => h.elim⟩
/-! ### what is a rule -/
def isRuleB (x : Str) : List Int → Bool
  | [n] => decide (x = "since") && (decide (1 ≤ n) && decide (n ≤ 12))
  | [a, b] => decide (x = "few") && ((decide (1 ≤ a) && decide (a ≤ 5)) && (decide (1 ≤ b) && decide (b ≤ 3)))
  | _ => false
def spIsRule (K : PySem.W.Frag) : Sp := fun vs H Q _ => ∃ (q : Addr) (x : Str) (ns : List Int), vs = [.ref q] ∧ SqT K H q (.str x :: ns.map V.int) ∧ ((∃ a, ns = [a]) ∨ ∃ a b, ns = [a, b]) ∧ Q (.bl (isRuleB x ns)) H
theorem Rule.raw (r : Rule) (h : r.ok) : ∃ (x : Str) (ns : List Int), r.vs = .str x :: ns.map V.int ∧ ((∃ a, ns = [a]) ∨ ∃ a b, ns = [a, b]) ∧ isRuleB x ns = true := by
  cases r with
  | since n =>
    refine ⟨"since", [(n : Int)], rfl, .inl ⟨_, rfl⟩, ?_⟩
    have h1 : 1 ≤ n ∧ n ≤ 12 := h
    simp only [isRuleB, decide_true, Bool.true_and, Bool.and_eq_true, decide_eq_true_eq]
    omega
  | few a b =>
    refine ⟨"few", [(a : Int), (b : Int)], rfl, .inr ⟨_, _, rfl⟩, ?_⟩
    have h1 : 1 ≤ a ∧ a ≤ 5 ∧ 1 ≤ b ∧ b ≤ 3 := h
    simp only [isRuleB, decide_true, Bool.true_and, Bool.and_eq_true, decide_eq_true_eq]
    omega
def spNeedRule (K : PySem.W.Frag) : Sp := fun vs H Q _ => ∃ (q : Addr) (r : Rule), vs = [.ref q] ∧ SqT K H q r.vs ∧ r.ok ∧ Q .non H
def spNext (K : PySem.W.Frag) : Sp := fun vs H Q _ => ∃ (q t : Addr) (m : Int) (r : Rule) (st : List Int), vs = [.ref q, .ref t, .int m] ∧ SqT K H q r.vs ∧ r.ok ∧ SqT K H t (st.map V.int) ∧ StOk r st ∧
  ∀ p H', Same H H' → SqT K H' p ((nextS r st m).map V.int) → Q (.ref p) H'
def spFirst (K : PySem.W.Frag) : Sp := fun vs H Q _ => ∃ (q : Addr) (r : Rule), vs = [.ref q] ∧ SqT K H q r.vs ∧ r.ok ∧ ∀ p H', Same H H' → SqT K H' p ((firstS r).map V.int) → Q (.ref p) H'
def spGone (K : PySem.W.Frag) : Sp := fun vs H Q _ => ∃ (q t : Addr) (r : Rule) (st : List Int), vs = [.ref q, .ref t] ∧ SqT K H q r.vs ∧ r.ok ∧ SqT K H t (st.map V.int) ∧ StOk r st ∧ Q (.bl (goneS r st)) H
/-! ### a watcher -/
theorem rk : ¬ (("rule" : Str) = "kept") := by decide +kernel
def wF (q t : Addr) : List (Str × V) := [("rule", .ref q), ("kept", .ref t)]
theorem wF_rule (q t : Addr) : (wF q t).lookup ("rule" : Str) = some (.ref q) := by simp [wF, List.lookup]
theorem wF_kept (q t : Addr) : (wF q t).lookup ("kept" : Str) = some (.ref t) := by
  have h : (("kept" : Str) == "rule") = false := by decide +kernel
  simp [wF, List.lookup, h]
theorem wF_no (q t : Addr) {m : Str} (h1 : (m == ("rule" : Str)) = false) (h2 : (m == ("kept" : Str)) = false) : (wF q t).lookup m = none := by simp [wF, List.lookup, h1, h2]
theorem wF_put (q t u : Addr) : putF "kept" (.ref u) (wF q t) = wF q u := by
  show (if ("rule" : Str) = "kept" then _ else (("rule" : Str), V.ref q) :: (if ("kept" : Str) = "kept" then [(("kept" : Str), V.ref u)] else _)) = _
  rw [if_neg rk, if_pos rfl]
  rfl
theorem wF_new (q t : Addr) : putF "kept" (.ref t) (putF "rule" (.ref q) []) = wF q t := by
  show (if ("rule" : Str) = "kept" then _ else (("rule" : Str), V.ref q) :: putF "kept" (.ref t) []) = _
  rw [if_neg rk]
  rfl
structure WAt (K : PySem.W.Frag) (C : Addr) (H : Hp) (x : Addr) (r : Rule) (st : List Int) : Prop where
  ex : ∃ dx q t, H x = some (.ins C dx (wF q t)) ∧ SqT K H q r.vs ∧ SqT K H t (st.map V.int)
theorem WAt.same {K : PySem.W.Frag} {C : Addr} {H H' : Hp} {x : Addr} {r : Rule} {st : List Int} (h : WAt K C H x r st) (s : Same H H') : WAt K C H' x r st := by
  obtain ⟨dx, q, t, h1, h2, h3⟩ := h.ex
  exact ⟨dx, q, t, s _ _ h1, s.tupB h2, s.tupB h3⟩
def spWInit (K : PySem.W.Frag) (C : Addr) : Sp := fun vs H Q _ => ∃ (x q dx : Addr) (r : Rule), vs = [.ref x, .ref q] ∧ H x = some (.ins C dx []) ∧ SqT K H q r.vs ∧ r.ok ∧
  ∀ H', WAt K C H' x r (firstS r) → (∀ b o, b ≠ x → H b = some o → H' b = some o) → Q .non H'
def spHear (K : PySem.W.Frag) (C : Addr) : Sp := fun vs H Q _ => ∃ (x : Addr) (m : Int) (r : Rule) (st : List Int), vs = [.ref x, .int m] ∧ WAt K C H x r st ∧ r.ok ∧ StOk r st ∧
  ∀ H', WAt K C H' x r (nextS r st m) → (∀ b o, b ≠ x → H b = some o → H' b = some o) → Q (.bl (goneS r (nextS r st m))) H'
/-- the class Watcher as the top has made it -/
structure WTxt (K : PySem.W.Frag) (C : Addr) : Prop where
  cl : Cls K C
  nR : NoAttr K C "rule"
  nK : NoAttr K C "kept"
/-! ### the law's own look -/
def spLGone (K : PySem.W.Frag) : Sp := fun vs H Q _ => ∃ (q l : Addr) (r : Rule) (hs : List Int), vs = [.ref q, .ref l] ∧ SqT K H q r.vs ∧ r.ok ∧ SqL K H l (hs.map V.int) ∧ hs.length ≤ 1000 ∧ ∀ H', Same H H' → Q (.bl (goneH r hs)) H'
theorem sq_tup_ne {K : PySem.W.Frag} {H : Hp} {a x C dx : Addr} {xs : List V} {fs : List (Str × V)} (h : SqT K H a xs) (e : H x = some (.ins C dx fs)) {o : HO} : SqT K (upd H x o) a xs := by
  rcases h with (h | ⟨u, h⟩) | h
  · exact .inl (.inl (by rw [upd_ne (ne_of h e (by intro z; cases z))]; exact h))
  · exact .inl (.inr ⟨u, by rw [upd_ne (ne_of h e (by intro z; cases z))]; exact h⟩)
  · exact .inr h
theorem map_cut (l : List Int) (n : Nat) : ((l.map V.int).drop n).take ((l.map V.int).length - n) = (l.drop n).map V.int := by
  rw [List.take_of_length_le (by rw [List.length_drop]; omega), List.map_drop]
theorem eqv_nil (r : List Int) : PyData.eqv (.list (r.map PyData.int)) (.list []) = decide (r = []) := by
  cases r with
  | nil => rfl
  | cons a r => rfl
theorem dp_ints {K : PySem.W.Frag} {H : Hp} : ∀ ns : List Int, DpAll K H (ns.map V.int) (ns.map PyData.int)
  | [] => .nil
  | n :: ns => .cons (.int n) (dp_ints ns)
theorem Rule.at1 (r : Rule) : r.vs[1]? = some (.int (r.wide : Int)) := by cases r <;> rfl
theorem rng_ext {α : Type} {f g : Nat → α} {i : Nat} (h : ∀ j, j < i → g j = f j) : (List.range (i + 1)).map g = (List.range i).map f ++ [g i] := by
  rw [List.range_succ, List.map_append]
  congr 1
  exact List.map_congr_left fun j hj => h j (List.mem_range.mp hj)
def spLaw (K : PySem.W.Frag) : Sp := fun vs H Q _ => ∃ (a : Addr) (ns : List Int), vs = [.ref a] ∧ SqL K H a (ns.map V.int) ∧ ns.length ≤ 63 ∧ ∀ H', Q (.bl true) H'
end Bw

set_option Elab.async false
set_option linter.all false
set_option maxRecDepth 100000
set_option maxHeartbeats 4000000
namespace Bw
open PySem PySem.Spec PyProof.Rows L2
/-! ### walks by enumerate -/
theorem for_enum {K : PySem.W.Frag} {a : Addr} {xs : List V} {g : TG} {tb : TS} {D : Ends} {σ : L2.St} {H : Hp} (Pv : Nat → L2.St → Hp → Prop) (h0 : Pv 0 σ H) (hl : ∀ i σ H, i ≤ xs.length → Pv i σ H → SqL K H a xs)
    (hs : ∀ i x σ H T, xs[i]? = some x → Pv i σ H → H T = none → g (.ref T) σ (upd H T (.tup [.int (i : Nat), x])) fun σ2 H2 => tb { D with nx := Pv (i + 1), ct := Pv (i + 1), bk := D.nx } σ2 H2) (hd : ∀ σ H, Pv xs.length σ H → D.nx σ H) :
    ∃ W : Nat → Nat → L2.St → Hp → Prop, (∃ m, W 0 m σ H) ∧ ∀ i m σ H, W i m σ H →
      ((Ite K a).stop i H ∧ D.nx σ H) ∨ ((Ite K a).go i H ∧ ∃ N : L2.St → Hp → Prop, (∀ σ' H', N σ' H' → ∃ m', m' < m ∧ W (i + 1) m' σ' H') ∧ ∀ x H', (Ite K a).yld i H x H' → g x σ H' fun σ2 H2 => tb { D with nx := N, ct := N, bk := D.nx } σ2 H2) := by
  refine ⟨fun i m σ H => m = xs.length - i ∧ i ≤ xs.length ∧ Pv i σ H, ⟨xs.length, by simp, Nat.zero_le _, h0⟩, ?_⟩
  rintro i m σ H ⟨rfl, hi, p⟩
  have q := hl i σ H hi p
  by_cases hlt : i < xs.length
  · refine .inr ⟨⟨xs, xs[i], q, by simp [hlt]⟩, Pv (i + 1), fun σ' H' p' => ⟨xs.length - (i + 1), by omega, rfl, hlt, p'⟩, fun v H' y => ?_⟩
    obtain ⟨T, x, rfl, nT, rfl, y⟩ := y
    exact hs i x σ _ T (y xs q) p nT
  · have e : i = xs.length := by omega
    subst e
    exact .inl ⟨⟨xs, q, Nat.le_refl _⟩, hd σ H p⟩
theorem rgs_up {n c : Nat} (hc : 1 ≤ c ∧ c ≤ 4) : Builtin.Range.rangeSize 0 (n : Int) (c : Int) = (((n + c - 1) / c : Nat) : Int) := by
  have h4 : c = 1 ∨ c = 2 ∨ c = 3 ∨ c = 4 := by omega
  rcases h4 with rfl | rfl | rfl | rfl
  all_goals
    unfold Builtin.Range.rangeSize
    rw [if_pos (by decide)]
    split <;> omega
theorem rgc_up {n c : Nat} (hn : n ≤ 1000) (hc : 1 ≤ c ∧ c ≤ 4) : RgC 0 (n : Int) (c : Int) ((n + c - 1) / c) := by
  have e := rgs_up (n := n) hc
  have hb : (n + c - 1) / c ≤ 1003 := Nat.le_trans (Nat.div_le_self _ _) (by omega)
  refine ⟨by omega, by omega, ?_, e⟩
  unfold Builtin.Range.small
  rw [e]
  generalize (n + c - 1) / c = m at *
  simp only [Builtin.Range.rangeFitsLong, Bool.and_eq_true, Bool.or_eq_true, decide_eq_true_eq, beq_iff_eq]
  have hc0 : (c : Int) > 0 := by omega
  simp only [hc0, if_true, Bool.and_eq_true, decide_eq_true_eq]
  omega
/-! ### lines -/
structure Line where
  each : Nat
  late : Nat
  lost : Nat
structure Line.ok (l : Line) : Prop where
  e1 : 1 ≤ l.each
  e4 : l.each ≤ 4
  l3 : l.late ≤ 3
  s2 : l.lost ≤ 2
def Line.vs (l : Line) : List V := [.int l.each, .int l.late, .int l.lost]
def spLine : Sp := fun vs H Q _ => ∃ (d : Addr), vs = [.ref d] ∧ DiceAt H d ∧ ∀ (l : Line) (p : Addr) (H' : Hp), l.ok → (l.each = 1 → l.late = 3 → l.lost = 0) → Dr d H H' → H p = none → H' p = some (.tup l.vs) → Q (.ref p) H'
/-! ### what is heard of one who is there: each beat's fate -/
/-- the fates of the beats so far, in turn (lost, or how late); r: how many were lost on end -/
inductive Outs (l : Line) : Nat → List (Option Nat) → Prop where
  | nil : Outs l 0 []
  | lose {r : Nat} {os : List (Option Nat)} (h : Outs l r os) (hr : r < l.lost) : Outs l (r + 1) (os ++ [none])
  | hear {r : Nat} {os : List (Option Nat)} (h : Outs l r os) (d : Nat) (hd : d ≤ l.late) : Outs l 0 (os ++ [some d])
def hit (each : Nat) (t : Nat) (p : Option Nat × Nat) : Bool := match p.1 with
  | none => false
  | some d => decide (p.2 * each + d = t)
def cnt (each : Nat) (os : List (Option Nat)) (t : Nat) : Nat := (os.zipIdx.filter (hit each t)).length
theorem cnt_nil (each t : Nat) : cnt each [] t = 0 := rfl
theorem cnt_snoc (each : Nat) (os : List (Option Nat)) (o : Option Nat) (t : Nat) : cnt each (os ++ [o]) t = cnt each os t + if hit each t (o, os.length) = true then 1 else 0 := by
  unfold cnt
  rw [List.zipIdx_append, List.filter_append, List.length_append]
  congr 1
  show (List.filter (hit each t) [(o, 0 + os.length)]).length = _
  rw [Nat.zero_add]
  by_cases h : hit each t (o, os.length) = true
  · rw [List.filter_cons, if_pos h, if_pos h]
    rfl
  · rw [List.filter_cons, if_neg h, if_neg h]
    rfl
theorem cnt_lose (each : Nat) (os : List (Option Nat)) (t : Nat) : cnt each (os ++ [none]) t = cnt each os t := by
  rw [cnt_snoc]
  rfl
theorem cnt_hear (each : Nat) (os : List (Option Nat)) (d t : Nat) : cnt each (os ++ [some d]) t = cnt each os t + if os.length * each + d = t then 1 else 0 := by
  rw [cnt_snoc]
  congr 1
  show (if decide (os.length * each + d = t) = true then 1 else 0) = _
  by_cases h : os.length * each + d = t
  · rw [if_pos h, if_pos (decide_eq_true h)]
  · rw [if_neg h, if_neg (by rw [decide_eq_false h]; decide)]
theorem cnt_le {l : Line} {r : Nat} {os : List (Option Nat)} (h : Outs l r os) (h1 : 1 ≤ l.each) (t : Nat) : cnt l.each os t ≤ min (t + 1) (os.length * l.each) + l.late - t := by
  induction h with
  | nil =>
    rw [cnt_nil]
    exact Nat.zero_le _
  | lose h hr ih =>
    rw [cnt_lose, List.length_append, List.length_singleton, Nat.succ_mul]
    omega
  | hear h d hd ih =>
    rw [cnt_hear, List.length_append, List.length_singleton, Nat.succ_mul]
    split <;> omega
theorem cnt_four {l : Line} (lo : l.ok) {r : Nat} {os : List (Option Nat)} (h : Outs l r os) (t : Nat) : cnt l.each os t ≤ 4 := by
  have h1 := cnt_le h lo.e1 t
  have h2 := lo.l3
  omega
def heardOf (each : Nat) (os : List (Option Nat)) (n : Nat) : List Int := (List.range n).map fun t => ((cnt each os t : Nat) : Int)
theorem heardOf_len (each : Nat) (os : List (Option Nat)) (n : Nat) : (heardOf each os n).length = n := by
  unfold heardOf
  rw [List.length_map, List.length_range]
theorem heardOf_at {each : Nat} {os : List (Option Nat)} {n t : Nat} (h : t < n) : (heardOf each os n)[t]? = some ((cnt each os t : Nat) : Int) := by
  unfold heardOf
  rw [List.getElem?_map, List.getElem?_range h]
  rfl
theorem heardOf_nil (each n : Nat) : heardOf each [] n = List.replicate n 0 := by
  refine List.ext_getElem? fun t => ?_
  by_cases h : t < n
  · rw [heardOf_at h, List.getElem?_replicate, if_pos h]
    rfl
  · rw [List.getElem?_eq_none (by rw [heardOf_len]; omega), List.getElem?_eq_none (by rw [List.length_replicate]; omega)]
theorem heardOf_lose (each : Nat) (os : List (Option Nat)) (n : Nat) : heardOf each (os ++ [none]) n = heardOf each os n := by
  unfold heardOf
  exact List.map_congr_left fun t _ => by rw [cnt_lose]
theorem heardOf_out {each : Nat} {os : List (Option Nat)} {d n : Nat} (h : ¬ os.length * each + d < n) : heardOf each (os ++ [some d]) n = heardOf each os n := by
  unfold heardOf
  refine List.map_congr_left fun t ht => ?_
  have h1 := List.mem_range.mp ht
  rw [cnt_hear, if_neg (by omega), Nat.add_zero]
theorem heardOf_in {each : Nat} {os : List (Option Nat)} {d n : Nat} (h : os.length * each + d < n) :
    heardOf each (os ++ [some d]) n = (heardOf each os n).set (os.length * each + d) (((cnt each os (os.length * each + d) : Nat) : Int) + 1) := by
  refine List.ext_getElem? fun t => ?_
  by_cases ht : t < n
  · rw [heardOf_at ht, cnt_hear]
    by_cases e : os.length * each + d = t
    · subst e
      rw [if_pos rfl, List.getElem?_set_self (by rw [heardOf_len]; exact h)]
      congr 1
    · rw [if_neg e, List.getElem?_set_ne e, heardOf_at ht]
      rfl
  · rw [List.getElem?_eq_none (by rw [heardOf_len]; omega), List.getElem?_eq_none (by rw [List.length_set, heardOf_len]; omega)]
/-- what can be heard -/
def HeardOk (hs : List Int) : Prop := hs.length ≤ 200 ∧ ∀ m ∈ hs, 0 ≤ m ∧ m ≤ 9
theorem heardOf_mem {l : Line} (lo : l.ok) {r : Nat} {os : List (Option Nat)} (h : Outs l r os) {n : Nat} {m : Int} (hm : m ∈ heardOf l.each os n) : 0 ≤ m ∧ m ≤ 4 := by
  obtain ⟨t, _, rfl⟩ := List.mem_map.mp hm
  have := cnt_four lo h t
  omega
def spRun (K : PySem.W.Frag) : Sp := fun vs H Q _ => ∃ (d lp : Addr) (l : Line) (there more : Nat), vs = [.ref d, .ref lp, .int there, .int more] ∧ DiceAt H d ∧ SqT K H lp l.vs ∧ l.ok ∧ there ≤ 300 ∧ more ≤ 300 ∧
  ∀ (r : Nat) (os : List (Option Nat)) (p : Addr) (H' : Hp), Outs l r os → os.length = (there + l.each - 1) / l.each → Dr d H H' → H p = none → H' p = some (.lst ((heardOf l.each os (there + more)).map V.int)) → Q (.ref p) H'
/-! ### told -/
def toldOf (r : Rule) (hs : List Int) : List Bool := (List.range hs.length).map fun i => goneH r (hs.take (i + 1))
def spNeedHeard (K : PySem.W.Frag) : Sp := fun vs H Q _ => ∃ (l : Addr) (hs : List Int), vs = [.ref l] ∧ SqL K H l (hs.map V.int) ∧ HeardOk hs ∧ ∀ H', Same H H' → Q .non H'
def spTold (K : PySem.W.Frag) : Sp := fun vs H Q _ => ∃ (q l : Addr) (r : Rule) (hs : List Int), vs = [.ref q, .ref l] ∧ SqT K H q r.vs ∧ r.ok ∧ SqL K H l (hs.map V.int) ∧ HeardOk hs ∧
  ∀ p H', Same H H' → H p = none → H' p = some (.lst ((toldOf r hs).map V.bl)) → Q (.ref p) H'
/-- the turns among what is told, up to the n-th moment -/
def turnsTo (bs : List Bool) (n : Nat) : List PyData := (List.range n).filterMap fun i => if bs.getD i false = (false :: bs).getD i false then none else some (.tuple [.int (i : Int), .str (if bs.getD i false = true then "gone" else "back")])
def spTurns (K : PySem.W.Frag) : Sp := fun vs H Q _ => ∃ (q l : Addr) (r : Rule) (hs : List Int), vs = [.ref q, .ref l] ∧ SqT K H q r.vs ∧ r.ok ∧ SqL K H l (hs.map V.int) ∧ HeardOk hs ∧
  ∀ p H' xs, Same H H' → H p = none → H' p = some (.lst xs) → DpAll K H' xs (turnsTo (toldOf r hs) hs.length) → Q (.ref p) H'
def spLTold (K : PySem.W.Frag) : Sp := fun vs H Q _ => ∃ (q l : Addr) (r : Rule) (hs : List Int), vs = [.ref q, .ref l] ∧ SqT K H q r.vs ∧ r.ok ∧ SqL K H l (hs.map V.int) ∧ hs.length ≤ 1000 ∧
  ∀ p H', Same H H' → H p = none → H' p = some (.lst ((toldOf r hs).map V.bl)) → Q (.ref p) H'
theorem toldOf_len (r : Rule) (hs : List Int) : (toldOf r hs).length = hs.length := by
  unfold toldOf
  rw [List.length_map, List.length_range]
theorem turnsTo_succ_eq {bs : List Bool} {n : Nat} (h : bs.getD n false = (false :: bs).getD n false) : turnsTo bs (n + 1) = turnsTo bs n := by
  unfold turnsTo
  rw [List.range_succ, List.filterMap_append, List.filterMap_cons, if_pos h]
  simp
theorem turnsTo_succ_ne {bs : List Bool} {n : Nat} (h : ¬ bs.getD n false = (false :: bs).getD n false) : turnsTo bs (n + 1) = turnsTo bs n ++ [.tuple [.int (n : Int), .str (if bs.getD n false = true then "gone" else "back")]] := by
  unfold turnsTo
  rw [List.range_succ, List.filterMap_append, List.filterMap_cons, if_neg h]
  rfl
theorem turnsTo_len (bs : List Bool) (n : Nat) : (turnsTo bs n).length ≤ n := by
  unfold turnsTo
  exact Nat.le_trans (List.length_filterMap_le _ _) (by rw [List.length_range]; exact Nat.le_refl _)
theorem DpAll.snoc {K : PySem.W.Frag} {H : Hp} : ∀ {vs : List V} {ds : List PyData} {v : V} {d : PyData}, DpAll K H vs ds → Dp K H v d → DpAll K H (vs ++ [v]) (ds ++ [d])
  | _, _, _, _, .nil, h => .cons h .nil
  | _, _, _, _, .cons a b, h => .cons a (DpAll.snoc b h)
theorem DpAll.same {K : PySem.W.Frag} {H H' : Hp} (s : Same H H') : ∀ {vs : List V} {ds : List PyData}, DpAll K H vs ds → DpAll K H' vs ds
  | _, _, .nil => .nil
  | _, _, .cons a b => .cons (Dp.same s _ _ a) (DpAll.same s b)
theorem dp_bls {K : PySem.W.Frag} {H : Hp} : ∀ bs : List Bool, DpAll K H (bs.map V.bl) (bs.map PyData.bool)
  | [] => .nil
  | n :: ns => .cons (.bl n) (dp_bls ns)
/-! ### cuts -/
section
variable {X : Cx}
theorem pt_cut {e : Expr} {t : L2.TT} (h : PT X e t) : PT X e (fun σ H Q => ∃ M : Bool → Hp → Prop, t σ H M ∧ ∀ b H', M b H' → Q b H') :=
  ⟨fun pins s σ H Q I ⟨M, h1, h2⟩ => thn (h.run pins s σ H M I h1) fun b s' ⟨H', I', m⟩ => ⟨H', I', h2 b H' m⟩⟩
theorem pe_cut {e : Expr} {t : TE} (h : PE X e t) : PE X e (fun σ H Q => ∃ M : VK, t σ H M ∧ ∀ v H', M v H' → Q v H') :=
  ⟨fun pins s σ H Q I ⟨M, h1, h2⟩ => thn (h.run pins s σ H M I h1) fun u s' ⟨v, H', I', r, m⟩ => ⟨v, H', I', r, h2 v H' m⟩⟩
end
theorem WAt.keep {K : PySem.W.Frag} {C : Addr} {H H' : Hp} {x : Addr} {r : Rule} {st : List Int} (h : WAt K C H x r st) (hk : ∀ b o, (∀ xs, o ≠ .lst xs) → H b = some o → H' b = some o) : WAt K C H' x r st := by
  obtain ⟨dx, q, t, h1, h2, h3⟩ := h.ex
  have kt : ∀ {a xs}, SqT K H a xs → SqT K H' a xs := by
    intro a xs h
    rcases h with (h | ⟨u, h⟩) | h
    · exact .inl (.inl (hk _ _ (by intro xs z; cases z) h))
    · exact .inl (.inr ⟨u, hk _ _ (by intro xs z; cases z) h⟩)
    · exact .inr h
  exact ⟨dx, q, t, hk _ _ (by intro xs z; cases z) h1, kt h2, kt h3⟩
/-- an update of a list keeps what is no list -/
theorem keepL {H : Hp} {p : Addr} {xs ys : List V} (h : H p = some (.lst xs)) : ∀ b o, (∀ xs, o ≠ .lst xs) → H b = some o → upd H p (.lst ys) b = some o := fun b o n e => by
  rw [upd_ne (ne_of e h (n _))]
  exact e
/-! ### data without lists -/
inductive NoL : PyData → Prop where
  | non : NoL .none
  | bool (b : Bool) : NoL (.bool b)
  | int (i : Int) : NoL (.int i)
  | str (x : Str) : NoL (.str x)
  | tuple (ds : List PyData) (h : ∀ d ∈ ds, NoL d) : NoL (.tuple ds)
theorem sqT_keepL {K : PySem.W.Frag} {H H' : Hp} (hk : ∀ b o, (∀ xs, o ≠ .lst xs) → H b = some o → H' b = some o) {a : Addr} {xs : List V} (h : SqT K H a xs) : SqT K H' a xs := by
  rcases h with (h | ⟨u, h⟩) | h
  · exact .inl (.inl (hk _ _ (by intro xs z; cases z) h))
  · exact .inl (.inr ⟨u, hk _ _ (by intro xs z; cases z) h⟩)
  · exact .inr h
theorem Dp.keepL {K : PySem.W.Frag} {H H' : Hp} (hk : ∀ b o, (∀ xs, o ≠ .lst xs) → H b = some o → H' b = some o) {v : V} {d : PyData} (h : Dp K H v d) (hn : NoL d) : Dp K H' v d := by
  revert hn
  refine Dp.rec (K := K) (H := H) (motive_1 := fun v d _ => NoL d → Dp K H' v d) (motive_2 := fun vs ds _ => (∀ d ∈ ds, NoL d) → DpAll K H' vs ds) ?_ ?_ ?_ ?_ ?_ ?_ ?_ ?_ h
  · exact fun _ => .non
  · exact fun b _ => .bl b
  · exact fun b _ => .int b
  · exact fun b _ => .str b
  · exact fun h1 _ h2 hn => nomatch hn
  · intro a xs ds h1 h2 ih hn
    cases hn with
    | tuple _ hd => exact .tup (sqT_keepL hk h1) (ih hd)
  · exact fun _ => .nil
  · exact fun _ _ h1 h2 hn => .cons (h1 (hn _ List.mem_cons_self)) (h2 fun d hd => hn d (List.mem_cons_of_mem _ hd))
theorem DpAll.keepL {K : PySem.W.Frag} {H H' : Hp} (hk : ∀ b o, (∀ xs, o ≠ .lst xs) → H b = some o → H' b = some o) : ∀ {vs : List V} {ds : List PyData}, DpAll K H vs ds → (∀ d ∈ ds, NoL d) → DpAll K H' vs ds
  | _, _, .nil, _ => .nil
  | _, _, .cons a b, hn => .cons (Dp.keepL hk a (hn _ List.mem_cons_self)) (DpAll.keepL hk b fun d hd => hn d (List.mem_cons_of_mem _ hd))
theorem turnsTo_noL (bs : List Bool) (n : Nat) : ∀ d ∈ turnsTo bs n, NoL d := by
  intro d hd
  unfold turnsTo at hd
  obtain ⟨i, _, h⟩ := List.mem_filterMap.mp hd
  split at h
  · cases h
  · cases h
    refine .tuple _ fun d hd => ?_
    rcases List.mem_cons.mp hd with rfl | hd
    · exact .int _
    rcases List.mem_cons.mp hd with rfl | hd
    · exact .str _
    · cases hd
def spHeard : Sp := fun vs H Q _ => ∃ (d : Addr), vs = [.ref d] ∧ DiceAt H d ∧ ∀ (hs : List Int) (p : Addr) (H' : Hp), HeardOk hs → Dr d H H' → H p = none → H' p = some (.lst (hs.map V.int)) → Q (.ref p) H'
/-- one of a written list -/
theorem pickL {xs : List V} {r : Int} (h0 : 0 ≤ r) (h1 : r < (xs.length : Int)) : ∃ v, v ∈ xs ∧ atI xs r = some v := by
  obtain ⟨n, rfl⟩ := Int.eq_ofNat_of_zero_le h0
  have h : n < xs.length := by omega
  exact ⟨xs[n], List.getElem_mem h, atI_nat (by rw [List.getElem?_eq_getElem h])⟩
theorem Dr.mutB {d p : Addr} {H H1 : Hp} {o : HO} (a : Dr d H H1) (hd : DiceAt H d) (e : H p = none) : Dr d H (upd H1 p o) := by
  have n := hd.ne e
  refine ⟨?_, fun b u nb hb => ?_⟩
  · obtain ⟨ds, a1, a2⟩ := a.dice
    exact ⟨ds, by rw [upd_ne (Ne.symm n)]; exact a1, a2⟩
  · rw [upd_ne (ne_of_none hb e)]
    exact a.keep b u nb hb
theorem rep_map (n : Nat) (x : V) : (List.replicate n [x]).flatten = List.replicate n x := by
  induction n with
  | zero => rfl
  | succ n ih => rw [List.replicate_succ, List.replicate_succ, List.flatten_cons, ih]; rfl
theorem eqv_self {d : PyData} (h : SeqAt.shaped d = true) : PyData.eqv d d = true := SeqAt.eqv_refl d (Bool.and_eq_true_iff.mp h).1
end Bw

set_option Elab.async false
set_option linter.all false
set_option maxRecDepth 100000
set_option maxHeartbeats 4000000
namespace Bw
open PySem PySem.Spec PyProof.Rows L2
/-! ### dicts whose keys are nested tuples -/
abbrev NK := PySem.NestedKey
def NotT : HO → Prop
  | .tup _ => False
  | .frz _ _ => False
  | _ => True
/-- the tuples stay -/
structure TK (H H' : Hp) : Prop where
  tup : ∀ b xs, H b = some (.tup xs) → H' b = some (.tup xs)
  frz : ∀ b o u, H b = some (.frz o u) → H' b = some (.frz o u)
theorem TK.refl (H : Hp) : TK H H := ⟨fun _ _ e => e, fun _ _ _ e => e⟩
theorem TK.trans {H H1 H2 : Hp} (a : TK H H1) (b : TK H1 H2) : TK H H2 := ⟨fun c xs e => b.tup c xs (a.tup c xs e), fun c o u e => b.frz c o u (a.frz c o u e)⟩
theorem TK.same {H H' : Hp} (s : Same H H') : TK H H' := ⟨fun _ _ e => s _ _ e, fun _ _ _ e => s _ _ e⟩
theorem TK.upd {H : Hp} {p : Addr} {o o' : HO} (h : H p = some o) (n : NotT o) : TK H (upd H p o') := by
  refine ⟨fun b xs e => ?_, fun b q u e => ?_⟩
  · rw [upd_ne (ne_of e h (by intro z; subst z; exact n))]; exact e
  · rw [upd_ne (ne_of e h (by intro z; subst z; exact n))]; exact e
theorem TK.new {H : Hp} {p : Addr} {o' : HO} (h : H p = none) : TK H (L2.upd H p o') := TK.same (Same.newB h)
theorem TK.dr {d : Addr} {H H' : Hp} (D : Dr d H H') (hd : DiceAt H d) : TK H H' := by
  obtain ⟨ys, h1, _⟩ := hd
  exact ⟨fun b xs e => D.keep _ _ (ne_of e h1 (by intro z; cases z)) e, fun b o u e => D.keep _ _ (ne_of e h1 (by intro z; cases z)) e⟩
theorem TK.sqT {K : PySem.W.Frag} {H H' : Hp} (t : TK H H') {a : Addr} {xs : List V} (h : SqT K H a xs) : SqT K H' a xs := by
  rcases h with (h | ⟨u, h⟩) | h
  · exact .inl (.inl (t.tup _ _ h))
  · exact .inl (.inr ⟨u, t.frz _ _ _ h⟩)
  · exact .inr h
theorem Dp.keepT {K : PySem.W.Frag} {H H' : Hp} (t : TK H H') {v : V} {d : PyData} (h : Dp K H v d) (hn : NoL d) : Dp K H' v d := by
  revert hn
  refine Dp.rec (K := K) (H := H) (motive_1 := fun v d _ => NoL d → Dp K H' v d) (motive_2 := fun vs ds _ => (∀ d ∈ ds, NoL d) → DpAll K H' vs ds) ?_ ?_ ?_ ?_ ?_ ?_ ?_ ?_ h
  · exact fun _ => .non
  · exact fun b _ => .bl b
  · exact fun b _ => .int b
  · exact fun b _ => .str b
  · exact fun h1 _ h2 hn => nomatch hn
  · intro a xs ds h1 h2 ih hn
    cases hn with
    | tuple _ hd => exact .tup (t.sqT h1) (ih hd)
  · exact fun _ => .nil
  · exact fun _ _ h1 h2 hn => .cons (h1 (hn _ List.mem_cons_self)) (h2 fun d hd => hn d (List.mem_cons_of_mem _ hd))
theorem DpAll.keepT {K : PySem.W.Frag} {H H' : Hp} (t : TK H H') : ∀ {vs : List V} {ds : List PyData}, DpAll K H vs ds → (∀ d ∈ ds, NoL d) → DpAll K H' vs ds
  | _, _, .nil, _ => .nil
  | _, _, .cons a b, hn => .cons (Dp.keepT t a (hn _ List.mem_cons_self)) (DpAll.keepT t b fun d hd => hn d (List.mem_cons_of_mem _ hd))
mutual
theorem nk_noL : ∀ k : NK, NoL k.data
  | .none => .non
  | .num i => .int i
  | .text x => .str x
  | .tup ks => .tuple _ (nks_noL ks)
theorem nks_noL : ∀ ks : List NK, ∀ d ∈ NestedKey.datas ks, NoL d
  | [], d, h => nomatch h
  | k :: ks, d, h => by
    rcases List.mem_cons.mp h with rfl | h
    · exact nk_noL k
    · exact nks_noL ks d h
end
section
variable {X : Cx} {pins : List (Addr × Obj)} {σ : L2.St} {H : Hp} {s : Shared}
theorem nk_of (I : Inv X pins σ H s) {v : V} {d : PyData} (h : Dp X.K H v d) : ∀ (k : NK) (u : Value), k.data = d → RelV v u → NestedIs s.heap k u := by
  refine Dp.rec (K := X.K) (H := H) (motive_1 := fun v d _ => ∀ (k : NK) (u : Value), k.data = d → RelV v u → NestedIs s.heap k u) (motive_2 := fun vs ds _ => ∀ (ks : List NK) (us : List Value), NestedKey.datas ks = ds → Vals vs us → NestedAll s.heap ks us) ?_ ?_ ?_ ?_ ?_ ?_ ?_ ?_ h
  · intro k u e r
    cases k with
    | none => cases r; exact .none
    | num i => cases e
    | text x => cases e
    | tup ks => cases e
  · intro b k u e r
    cases k <;> cases e
  · intro i k u e r
    cases k with
    | none => cases e
    | num j => cases e; obtain ⟨t, rfl⟩ := r; exact .int _ _
    | text x => cases e
    | tup ks => cases e
  · intro x k u e r
    cases k with
    | none => cases e
    | num j => cases e
    | text y => cases e; obtain ⟨t, rfl⟩ := r; exact .text _ _
    | tup ks => cases e
  · intro a xs ds h1 h2 ih k u e r
    cases k <;> cases e
  · intro a xs ds h1 h2 ih k u e r
    cases k with
    | none => cases e
    | num j => cases e
    | text y => cases e
    | tup ks =>
      obtain ⟨its, rv, ⟨o, ho, hc, n, hd⟩, _⟩ := I.tuple h1
      obtain rfl : u = Value.ref a := r
      have e' : NestedKey.datas ks = ds := by
        have : PyData.tuple (NestedKey.datas ks) = .tuple ds := e
        injection this
      exact .tup ho hc hd (by simpa using ih ks its e' rv)
  · intro ks us e r
    cases ks with
    | nil => cases r; exact .nil
    | cons k ks => cases e
  · intro v vs d ds h1 h2 ih1 ih2 ks us e r
    cases ks with
    | nil => cases e
    | cons k ks =>
      have e' : k.data = d ∧ NestedKey.datas ks = ds := by
        have : k.data :: NestedKey.datas ks = d :: ds := e
        injection this with a b
        exact ⟨a, b⟩
      cases r with
      | cons r1 r2 => exact .cons (ih1 k _ e'.1 r1) (ih2 ks _ e'.2 r2)
end
/-- one object, just so -/
def PinO (d : Addr) (o : Obj) : HO := .ext fun h => h.get? d = some o
theorem pin_ok {P : Program} {w : World} {H : Hp} {h : Heap} {d : Addr} {o : Obj} (e : h.get? d = some o) : ObjOk P w H h d (PinO d o) := ⟨e, ⟨o, e⟩, fun _ _ p q => q _ p⟩
theorem pin_get {P : Program} {w : World} {H : Hp} {h : Heap} {d : Addr} {o : Obj} (ok : HOk P w H h) (e : H d = some (PinO d o)) : h.get? d = some o := (ok d _ e).1
theorem pin_notT (d : Addr) (o : Obj) : NotT (PinO d o) := True.intro
/-- at d, the object o, stands a dict with the keys and values kvs -/
structure NdAt (P : Program) (w : World) (K : PySem.W.Frag) (H : Hp) (d : Addr) (o : Obj) (kvs : List (NK × V)) : Prop where
  here : H d = some (PinO d o)
  ex : ∃ (es : Array DictEntry) (ep : Nat) (xs : List (NK × Addr × Value)), o.ExactDict ∧ o.data = .dict es ep ∧ es.toList = xs.map (entryOfKey (nestedKind P w)) ∧ (xs.map (·.1)).Nodup ∧
    Paired (fun (p : NK × V) (q : NK × Addr × Value) => p.1 = q.1 ∧ RelV p.2 q.2.2) kvs xs ∧ ∀ x ∈ xs, Dp K H (.ref x.2.1) x.1.data ∧ x.1.depth ≤ 8
  sz : kvs.length ≤ sizeLine
  sys : (d == sysModules) = false
def Nd (P : Program) (w : World) (K : PySem.W.Frag) (H : Hp) (d : Addr) (kvs : List (NK × V)) : Prop := ∃ o, NdAt P w K H d o kvs
section
variable {P : Program} {w : World} {K : PySem.W.Frag} {H H' : Hp} {d : Addr} {o : Obj} {kvs : List (NK × V)}
theorem NdAt.keep (n : NdAt P w K H d o kvs) (t : TK H H') (e : H' d = some (PinO d o)) : NdAt P w K H' d o kvs := by
  obtain ⟨es, ep, xs, h1, h2, h3, h4, h5, h6⟩ := n.ex
  exact ⟨e, ⟨es, ep, xs, h1, h2, h3, h4, h5, fun x hx => ⟨Dp.keepT t (h6 x hx).1 (nk_noL _), (h6 x hx).2⟩⟩, n.sz, n.sys⟩
theorem NdAt.same (n : NdAt P w K H d o kvs) (s : Same H H') : NdAt P w K H' d o kvs := n.keep (TK.same s) (s _ _ n.here)
theorem Nd.same (n : Nd P w K H d kvs) (s : Same H H') : Nd P w K H' d kvs := let ⟨o, h⟩ := n; ⟨o, h.same s⟩
theorem paired_keys {xs : List (NK × Addr × Value)} (h : Paired (fun (p : NK × V) (q : NK × Addr × Value) => p.1 = q.1 ∧ RelV p.2 q.2.2) kvs xs) : kvs.map (·.1) = xs.map (·.1) := by
  induction h with
  | nil => rfl
  | cons r t ih => rw [List.map_cons, List.map_cons, r.1, ih]
theorem NdAt.nodup (n : NdAt P w K H d o kvs) : (kvs.map (·.1)).Nodup := by
  obtain ⟨es, ep, xs, _, _, _, h4, h5, _⟩ := n.ex
  rw [paired_keys h5]
  exact h4
theorem paired_val {xs : List (NK × Addr × Value)} (h : Paired (fun (p : NK × V) (q : NK × Addr × Value) => p.1 = q.1 ∧ RelV p.2 q.2.2) kvs xs) (k : NK) : RelO (valV kvs k) ((atKey xs k).map (·.2)) := by
  induction h with
  | nil => exact True.intro
  | @cons p q l1 l2 r t ih =>
    by_cases e : p.1 = k
    · rw [valV_pos e]
      have e2 : q.1 = k := r.1.symm.trans e
      simp only [atKey, List.find?_cons, e2, decide_true, Option.map_some]
      exact r.2
    · rw [valV_neg e]
      have e2 : ¬ q.1 = k := fun z => e (r.1.trans z)
      simp only [atKey, List.find?_cons, e2, decide_false]
      exact ih
theorem paired_put {xs : List (NK × Addr × Value)} (h : Paired (fun (p : NK × V) (q : NK × Addr × Value) => p.1 = q.1 ∧ RelV p.2 q.2.2) kvs xs) (k : NK) (a : Addr) {v : V} {u : Value} (r : RelV v u) :
    Paired (fun (p : NK × V) (q : NK × Addr × Value) => p.1 = q.1 ∧ RelV p.2 q.2.2) (putK kvs k v) (storedH xs k a u) := by
  have hs : (kvs.any fun kv => decide (kv.1 = k)) = (atKey xs k).isSome := by
    have := (paired_val h k).isSome_eq
    rw [valV_any, this, Option.isSome_map]
  unfold putK storedH
  rw [hs]
  split
  · rename_i hz
    clear hs hz
    induction h with
    | nil => exact .nil
    | @cons p q l1 l2 r1 t ih =>
      refine .cons ?_ ih
      by_cases e : p.1 = k
      · have e2 : q.1 = k := r1.1.symm.trans e
        show (if p.1 = k then (p.1, v) else p).1 = _ ∧ RelV (if p.1 = k then (p.1, v) else p).2 _
        rw [if_pos e, putAt, if_pos e2]
        exact ⟨r1.1, r⟩
      · have e2 : ¬ q.1 = k := fun z => e (r1.1.trans z)
        show (if p.1 = k then (p.1, v) else p).1 = _ ∧ RelV (if p.1 = k then (p.1, v) else p).2 _
        rw [if_neg e, putAt, if_neg e2]
        exact r1
  · rename_i hz
    clear hs hz
    induction h with
    | nil => exact .cons ⟨rfl, r⟩ .nil
    | cons r1 t ih => exact .cons r1 ih
end
section
variable {X : Cx} {pins : List (Addr × Obj)} {σ : L2.St} {H : Hp} {s : Shared} {d : Addr} {o : Obj} {kvs : List (NK × V)}
theorem NdAt.dict (n : NdAt X.prog X.w X.K H d o kvs) (I : Inv X pins σ H s) : ∃ xs, Paired (fun (p : NK × V) (q : NK × Addr × Value) => p.1 = q.1 ∧ RelV p.2 q.2.2) kvs xs ∧ s.heap.DictOfH (nestedKind X.prog X.w) d xs ∧ ∀ x ∈ xs, Dp X.K H (.ref x.2.1) x.1.data ∧ x.1.depth ≤ 8 := by
  obtain ⟨es, ep, xs, h1, h2, h3, h4, h5, h6⟩ := n.ex
  exact ⟨xs, h5, ⟨o, es, ep, pin_get I.hok n.here, h1, h2, h3, fun x hx => ⟨nk_of I (h6 x hx).1 _ _ rfl rfl, (h6 x hx).2⟩, h4⟩, h6⟩
end
/-- a key at an address -/
structure KeyV (K : PySem.W.Frag) (H : Hp) (v : V) (k : NK) : Prop where
  ref : ∃ a, v = .ref a
  dp : Dp K H v k.data
  dep : k.depth ≤ 8
section
variable {X : Cx}
theorem KeyV.is {pins : List (Addr × Obj)} {σ : L2.St} {H : Hp} {s : Shared} {v : V} {k : NK} {u : Value} (h : KeyV X.K H v k) (I : Inv X pins σ H s) (r : RelV v u) : ∃ a, v = .ref a ∧ u = .ref a ∧ (nestedKind X.prog X.w).is s.heap k a := by
  obtain ⟨a, rfl⟩ := h.ref
  obtain rfl : u = Value.ref a := r
  exact ⟨a, rfl, rfl, nk_of I h.dp _ _ rfl rfl, h.dep⟩
def rNdIn (P : Program) (w : World) (K : PySem.W.Frag) (neg : Bool) : R2 := fun x y H Q => ∃ d kvs k, y = .ref d ∧ Nd P w K H d kvs ∧ KeyV K H x k ∧ Q (.bl (neg ^^ (valV kvs k).isSome)) H
theorem op_in_nd (hu : X.A.units + 20 < cLine) : OpR X (compareOp .In) (rNdIn X.prog X.w X.K false) := by
  intro pins s σ H x y v u Q I rx ry h
  obtain ⟨d, kvs, k, rfl, ⟨o, n⟩, hk, q⟩ := h
  obtain ⟨a, rfl, rfl, hi⟩ := hk.is I rx
  obtain rfl : u = Value.ref d := ry
  obtain ⟨xs, h5, dd, _⟩ := n.dict I
  refine wpAny_in_heap (by show X.A.units + 1 + 8 < cLine; omega) hi n.sys dd ?_
  have e := (paired_val h5 k).isSome_eq
  rw [Option.isSome_map] at e
  refine ⟨_, H, I.tok _, ?_, q⟩
  rw [e, Bool.false_xor]
  rfl
theorem op_notin_nd (hu : X.A.units + 20 < cLine) : OpR X (compareOp .NotIn) (rNdIn X.prog X.w X.K true) := by
  intro pins s σ H x y v u Q I rx ry h
  obtain ⟨d, kvs, k, rfl, ⟨o, n⟩, hk, q⟩ := h
  obtain ⟨a, rfl, rfl, hi⟩ := hk.is I rx
  obtain rfl : u = Value.ref d := ry
  obtain ⟨xs, h5, dd, _⟩ := n.dict I
  refine wpAny_notIn_heap (by show X.A.units + 1 + 8 < cLine; omega) hi n.sys dd ?_
  have e := (paired_val h5 k).isSome_eq
  rw [Option.isSome_map] at e
  refine ⟨_, H, I.tok _, ?_, q⟩
  rw [e, Bool.true_xor]
  rfl
def rNdIx (P : Program) (w : World) (K : PySem.W.Frag) : R2 := fun x y H Q => ∃ d kvs k v, x = .ref d ∧ Nd P w K H d kvs ∧ KeyV K H y k ∧ valV kvs k = some v ∧ Q v H
theorem ix_nd (hu : X.A.units + 20 < cLine) : IxR X (rNdIx X.prog X.w X.K) := by
  intro value slice pins s σ H x y v u Q I rx ry h hs
  obtain ⟨d, kvs, k, z, rfl, ⟨o, n⟩, hk, hv, q⟩ := h
  obtain rfl : v = Value.ref d := rx
  obtain ⟨a, rfl, rfl, hi⟩ := hk.is I ry
  obtain ⟨xs, h5, dd, _⟩ := n.dict I
  have r := paired_val h5 k
  rw [hv] at r
  obtain ⟨w', hw, rw'⟩ := RelO.some_of (v := z) (o := (atKey xs k).map (·.2)) r
  obtain ⟨p, hp, hp2⟩ := Option.map_eq_some_iff.mp hw
  refine subscriptTail_builtinR (x := w') dd.typeIs F.slot_dict_getitem.lookup (wpAny_getItem_heap (by show X.A.units + 1 + 8 < cLine; omega) hi dd hp ?_) hs
  exact ⟨hp2, z, H, I.tok _, by rw [hp2]; exact rw', q⟩
theorem mem_storedH {xs : List (NK × Addr × Value)} {k : NK} {a : Addr} {u : Value} {x : NK × Addr × Value} (h : x ∈ storedH xs k a u) : (∃ y ∈ xs, y.1 = x.1 ∧ y.2.1 = x.2.1) ∨ (x.1 = k ∧ x.2.1 = a) := by
  unfold storedH at h
  split at h
  · obtain ⟨y, hy, rfl⟩ := List.mem_map.mp h
    refine .inl ⟨y, hy, ?_⟩
    unfold putAt
    split <;> exact ⟨rfl, rfl⟩
  · rcases List.mem_append.mp h with h | h
    · exact .inl ⟨x, h, rfl, rfl⟩
    · rcases List.mem_cons.mp h with rfl | h
      · exact .inr ⟨rfl, rfl⟩
      · cases h
/-- what stands behind d[k] = v -/
def rNdSet (P : Program) (w : World) (K : PySem.W.Frag) : TSet := fun o i v H Q => ∃ d kvs k, o = .ref d ∧ Nd P w K H d kvs ∧ KeyV K H i k ∧ kvs.length < sizeLine ∧
  ∀ o', NdAt P w K (upd H d (PinO d o')) d o' (putK kvs k v) → Q (upd H d (PinO d o'))
theorem nd_store {pins : List (Addr × Obj)} {σ : L2.St} {H : Hp} {s : Shared} {d : Addr} {o : Obj} {kvs : List (NK × V)} {xs : List (NK × Addr × Value)} {k : NK} {a : Addr} {v : V} {u : Value} {h' : Heap} {t' : Nat} (I : Inv X pins σ H s) (n : NdAt X.prog X.w X.K H d o kvs)
    (h5 : Paired (fun (p : NK × V) (q : NK × Addr × Value) => p.1 = q.1 ∧ RelV p.2 q.2.2) kvs xs) (h6 : ∀ x ∈ xs, Dp X.K H (.ref x.2.1) x.1.data ∧ x.1.depth ≤ 8) (hl : kvs.length < sizeLine) (hk : KeyV X.K H (.ref a) k) (rv : RelV v u)
    (dd : h'.DictOfH (nestedKind X.prog X.w) d (storedH xs k a u)) (sb : Heap.SameBut d s.heap h') : ∃ o', NdAt X.prog X.w X.K (upd H d (PinO d o')) d o' (putK kvs k v) ∧ Inv X pins σ (upd H d (PinO d o')) { s with heap := h', toks := t' } := by
  obtain ⟨o', es, ep, g1, g2, g3, g4, g5, g6⟩ := dd
  have t : TK H (upd H d (PinO d o')) := TK.upd n.here (pin_notT d o)
  refine ⟨o', ⟨upd_same, ⟨es, ep, _, g2, g3, g4, g6, paired_put h5 k a rv, fun x hx => ?_⟩, ?_, n.sys⟩, d_write I (by rw [n.here]; exact True.intro) sb ⟨o', g1⟩ (pin_ok g1)⟩
  · rcases mem_storedH hx with ⟨y, hy, e1, e2⟩ | ⟨e1, e2⟩
    · rw [← e1, ← e2]
      exact ⟨Dp.keepT t (h6 y hy).1 (nk_noL _), (h6 y hy).2⟩
    · rw [e1, e2]
      exact ⟨Dp.keepT t hk.dp (nk_noL _), hk.dep⟩
  · have := length_putK kvs k v
    omega
theorem set_nd (hu : X.A.units + 20 < cLine) : PSet X (rNdSet X.prog X.w X.K) := by
  intro pins s σ H o i v ov iv u Q I ro ri rv h
  obtain ⟨d, kvs, k, rfl, ⟨ob, n⟩, hk, hl, q⟩ := h
  obtain rfl : ov = Value.ref d := ro
  obtain ⟨a, rfl, rfl, hi⟩ := hk.is I ri
  obtain ⟨xs, h5, dd, h6⟩ := n.dict I
  have hz : xs.length ≤ sizeLine := by rw [← Paired.length h5]; exact n.sz
  refine wpAny_setItem_heap (hsz := hz) (by show X.A.units + 1 + 8 < cLine; omega) hi dd fun h' dd' sb => ?_
  obtain ⟨o', n', I'⟩ := nd_store (t' := s.toks + (nestedKind X.prog X.w).draws k) I n h5 h6 hl hk rv dd' sb
  exact ⟨_, I', q o' n'⟩
/-! {} -/
def tNd0 (P : Program) (w : World) (K : PySem.W.Frag) : TE := fun _ H Q => ∀ p o, H p = none → NdAt P w K (upd H p (PinO p o)) p o [] → Q (.ref p) (upd H p (PinO p o))
theorem nd_empty {P : Program} {w : World} {K : PySem.W.Frag} {H : Hp} {p : Addr} (hp : H p = none) (hs : (p == sysModules) = false) : NdAt P w K (upd H p (PinO p { cls := .type "dict", data := .dict #[] })) p { cls := .type "dict", data := .dict #[] } [] :=
  ⟨upd_same, ⟨#[], 0, [], ⟨rfl, rfl, rfl⟩, rfl, rfl, List.nodup_nil, .nil, fun x hx => nomatch hx⟩, Nat.zero_le _, hs⟩
theorem pe_nd0 {pos : Pos} : PE X (.Dict [] [] pos) (tNd0 X.prog X.w X.K) := ⟨fun pins s σ H Q I h => by
  have hn := I.hok.fresh (Nat.le_refl s.heap.objs.size)
  have hs : (s.heap.objs.size == sysModules) = false := beq_eq_false_iff_ne.mpr (Ne.symm (Nat.ne_of_lt I.big))
  refine wpAny_Dict_empty ⟨.ref s.heap.objs.size, _, I.laid (a := s.heap.objs.size) (o := PinO s.heap.objs.size { cls := .type "dict", data := .dict #[] }) (t' := s.toks) (fun _ _ q => Heap.get?_push_of_some _ q) (Nat.le_refl _) (pin_ok (Heap.get?_push_size _ rfl)), rfl, h _ _ hn (nd_empty hn hs)⟩⟩
/-! {k: v} -/
theorem storeAll_one {M : Model} {A : Around} {E : Value → Shared → Prop} {s : Shared} {d : Addr} {k v : Value} {Q : Shared → Prop} (h : wpAny M A (dictSet d k v) (fun _ s' => Q s') E s) : wpAny M A (storeAll d [(k, v)]) (fun _ s' => Q s') E s := by
  unfold storeAll
  rw [List.forIn_cons]
  refine wpAny_bind (wpAny_bind (wpAny_mono h (fun _ s1 h1 => wpAny_pure ?_) fun _ _ e => e))
  show wpAny M A (forIn ([] : List (Value × Value)) PUnit.unit _) _ _ _
  rw [List.forIn_nil]
  exact wpAny_pure h1
def tNd1 (P : Program) (w : World) (K : PySem.W.Frag) (tk tv : TE) : TE := fun σ H Q => ∀ p o, H p = none → NdAt P w K (upd H p (PinO p o)) p o [] → tk σ (upd H p (PinO p o)) fun x H1 => tv σ H1 fun v H2 => ∃ k, NdAt P w K H2 p o [] ∧ KeyV K H2 x k ∧
  ∀ o', NdAt P w K (upd H2 p (PinO p o')) p o' [(k, v)] → Q (.ref p) (upd H2 p (PinO p o'))
theorem pe_nd1 {k v : Expr} {tk tv : TE} {pos : Pos} (hu : X.A.units + 20 < cLine) (hk : PE X k tk) (hv : PE X v tv) : PE X (.Dict [some k] [v] pos) (tNd1 X.prog X.w X.K tk tv) := by
  refine ⟨fun pins s σ H Q I h => ?_⟩
  have hn := I.hok.fresh (Nat.le_refl s.heap.objs.size)
  have hs : (s.heap.objs.size == sysModules) = false := beq_eq_false_iff_ne.mpr (Ne.symm (Nat.ne_of_lt I.big))
  have I1 := I.laid (a := s.heap.objs.size) (o := PinO s.heap.objs.size { cls := .type "dict", data := .dict #[] }) (h' := s.heap.push { cls := .type "dict", data := .dict #[] }) (t' := s.toks) (fun _ _ q => Heap.get?_push_of_some _ q) (Nat.le_refl _) (pin_ok (Heap.get?_push_size _ rfl))
  have q := h _ _ hn (nd_empty hn hs)
  refine wpAny_Dict_any rfl rfl (by intro z; cases z) (by show 1 ≤ 15; omega) ?_
  refine pairTrees_cons_walk (thn (hk.run pins _ σ _ _ I1 q) fun kv s1 ⟨x, H1, I2, rx, q1⟩ => thn (hv.run pins s1 σ H1 _ I2 q1) fun vv s2 ⟨z, H2, I3, rz, kk, n, hkk, q2⟩ => pairTrees_nil_walk (storeAll_one ?_))
  obtain ⟨a, rfl, rfl, hi⟩ := hkk.is I3 rx
  obtain ⟨xs, h5, dd, h6⟩ := n.dict I3
  cases h5
  refine wpAny_dictSet_heap (hsz := Nat.zero_le _) (by show X.A.units + 8 < cLine; omega) hi dd fun h' dd' sb => ?_
  obtain ⟨o', n', I'⟩ := nd_store (t' := s2.toks + (nestedKind X.prog X.w).draws kk) I3 n .nil (fun x hx => nomatch hx) (by decide) hkk rz dd' sb
  exact ⟨.ref s.heap.objs.size, _, I', rfl, q2 o' n'⟩
/-! len(d) -/
def rLenN (P : Program) (w : World) (K : PySem.W.Frag) : List V → Hp → VK → Prop := fun xs H Q => ∃ (d : Addr) (kvs : List (NK × V)), xs = [.ref d] ∧ Nd P w K H d kvs ∧ Q (.int ((kvs.length : Nat) : Int)) H
theorem call_lenND : CallR X (.builtin "len") (rLenN X.prog X.w X.K) := by
  intro pins s σ H xs us Q I r h
  obtain ⟨d, kvs, rfl, ⟨o, n⟩, q⟩ := h
  obtain ⟨u, rfl, rx⟩ := vals1 r
  obtain rfl : u = .ref d := rx
  obtain ⟨ys, h5, dd, _⟩ := n.dict I
  have hl : kvs.length = ys.length := Paired.length h5
  have hz := n.sz
  rw [sizeLine_eq] at hz
  refine call_len_dictH n.sys dd (by omega) ?_
  exact ⟨.int ((kvs.length : Nat) : Int), H, I.tok _, ⟨_, by rw [hl]⟩, q⟩
/-! walks -/
/-- the keys of the dict at d, the object o -/
def ItN (P : Program) (w : World) (K : PySem.W.Frag) (d : Addr) (o : Obj) (kvs : List (NK × V)) : It :=
  ⟨fun i H => NdAt P w K H d o kvs ∧ i < kvs.length, fun i H x H' => H' = H ∧ ∃ k v, kvs[i]? = some (k, v) ∧ KeyV K H x k, fun i H => NdAt P w K H d o kvs ∧ kvs.length ≤ i⟩
theorem NdAt.walk {pins : List (Addr × Obj)} {σ : L2.St} {H : Hp} {s : Shared} {d : Addr} {o : Obj} {kvs : List (NK × V)} (I : Inv X pins σ H s) (n : NdAt X.prog X.w X.K H d o kvs) :
    s.heap.get? d = some o ∧ o.ExactDict ∧ ∃ (es : Array DictEntry) (ep : Nat), o.data = .dict es ep ∧ es.size = kvs.length ∧ ∀ (i : Nat) (k : NK) (v : V), kvs[i]? = some (k, v) → ∃ (en : DictEntry) (q : Addr), es[i]? = some en ∧ en.key = .ref q ∧ KeyV X.K H (.ref q) k := by
  obtain ⟨es, ep, xs, h1, h2, h3, h4, h5, h6⟩ := n.ex
  refine ⟨pin_get I.hok n.here, h1, es, ep, h2, ?_, fun i k v e => ?_⟩
  · have l1 : es.size = xs.length := size_of_entries h3
    have l2 : kvs.length = xs.length := Paired.length h5
    omega
  · obtain ⟨b, hb, e1, e2⟩ := paired_get h5 e
    have q := entry_at h3 i
    rw [hb] at q
    have hm := h6 b (List.mem_of_getElem? hb)
    have e1' : k = b.1 := e1
    exact ⟨_, b.2.1, q, rfl, ⟨_, rfl⟩, by rw [e1']; exact hm.1, by rw [e1']; exact hm.2⟩
theorem turn_nd {P : Program} {w : World} {K : PySem.W.Frag} {tg : Expr} {d : Addr} {o : Obj} {es : Array DictEntry} {ep : Nat} {kvs : List (NK × V)} (it : Addr) (hod : o.data = .dict es ep) : Turn P w K tg (ItN P w K d o kvs) [it] it (fun i h => h.IsKeyIter it d i kvs.length ep) where
  mem := by simp
  obj := fun i h st b hb => by
    have e : b = it := by simpa using hb
    subst e
    obtain ⟨oi, e, c, dd⟩ := st
    exact ⟨oi, e, fun v z => by rw [dd] at z; cases z⟩
  keep := fun i h h' st k => st.at fun oi e => k it (by simp) oi e
  item := by
    intro X hP hw hK hc i pins s σ H E I hf st hg
    subst hP hw hK
    obtain ⟨hd, hi⟩ := hg
    obtain ⟨f0, f1, f2, f3, f4, f5⟩ := hf it (by simp)
    obtain ⟨hgd, hx, es', ep', hdt, hsz, ent⟩ := hd.walk I
    obtain ⟨rfl, rfl⟩ := dict_ep hod hdt
    obtain ⟨⟨k, v⟩, hkv⟩ : ∃ p, kvs[i]? = some p := ⟨kvs[i], List.getElem?_eq_getElem hi⟩
    obtain ⟨en, q, hen, hkey, hq⟩ := ent i k v hkv
    refine next_key_item st hgd hdt hsz hen fun h' st' sb => ?_
    have I1 : Inv X pins σ H { s with heap := h' } := I.turned (t' := s.toks) (fun b ob hb e => (sb.2 b hb).trans e) f0 f1 f3 f4 f5
    obtain ⟨oi, e, c, dd⟩ := id st'
    exact ⟨en.key, rfl, go_of (s := { s with heap := h' }) e c dd (by decide) ⟨.ref q, H, I1, hkey, ⟨rfl, k, v, hkv, hq⟩, st', fun b hb => (hf b hb).1⟩⟩
  done := by
    intro X hP hw hK hc i pins s σ H E I hf st hg
    subst hP hw hK
    obtain ⟨hd, hi⟩ := hg
    obtain ⟨f0, f1, f2, f3, f4, f5⟩ := hf it (by simp)
    obtain ⟨hgd, hx, es', ep', hdt, hsz, ent⟩ := hd.walk I
    obtain ⟨rfl, rfl⟩ := dict_ep hod hdt
    exact next_key_end (I.ok.hd hc) st hgd hdt hsz hi fun h' eb => ⟨rfl, I.turned (t' := s.toks) (fun b ob hb e => eb b ob hb e) f0 f1 f3 f4 f5⟩
  self := fun A i s Q E st h => by
    refine wpAny_pyIter_slot st.typeIs F.slot_dict_keyiterator_iter (wpAny_call_entry F.slot_dict_keyiterator_iter st.typeIs F.entry_dict_keyiterator_iter ?_ (F.args_dict_keyiterator_iter_1 _))
    show wpAny _ _ (ret (.ref it)) _ _ s
    exact wpAny_pure ⟨_, rfl, "dict_keyiterator", _, st.typeIs, F.slot_dict_keyiterator_next.lookup, h⟩
def iNd (P : Program) (w : World) (K : PySem.W.Frag) (td : TE) : TI := fun σ H R => td σ H fun x H1 => ∃ d o kvs, x = .ref d ∧ NdAt P w K H1 d o kvs ∧ R (ItN P w K d o kvs) H1
theorem pi_nd {tg e : Expr} {td : TE} (he : PE X e td) : PI X tg e (iNd X.prog X.w X.K td) := by
  refine ⟨fun pins s σ H R I h => ?_⟩
  refine thn (he.run pins s σ H _ I h) fun u s1 ⟨x, H1, I1, rx, d, o, kvs, ex, n, q⟩ => ?_
  subst ex
  obtain rfl : u = Value.ref d := rx
  obtain ⟨hgd, hx, es, ep, hdt, hsz, ent⟩ := n.walk I1
  refine iter_keys n.sys hgd hx hdt (pi_one (tk := s1.toks) I1 _ (turn_nd _ hdt) ⟨_, Heap.get?_push_size _ rfl, rfl, ?_⟩ q)
  rw [hsz] <;> rfl
theorem walk_nd {P : Program} {w : World} {K : PySem.W.Frag} {d : Addr} {o : Obj} {kvs : List (NK × V)} : Walk (ItN P w K d o kvs) kvs.length (fun H => NdAt P w K H d o kvs) (fun i H x H' => H' = H ∧ ∃ k v, kvs[i]? = some (k, v) ∧ KeyV K H x k) :=
  ⟨fun _ _ hi q => ⟨q, hi⟩, fun _ q => ⟨q, Nat.le_refl _⟩, fun _ _ _ _ _ _ y => y⟩
end
theorem KeyV.keep {K : PySem.W.Frag} {H H' : Hp} {v : V} {k : NK} (h : KeyV K H v k) (t : TK H H') : KeyV K H' v k := ⟨h.ref, Dp.keepT t h.dp (nk_noL _), h.dep⟩
end Bw

set_option Elab.async false
set_option linter.all false
set_option maxRecDepth 100000
set_option maxHeartbeats 4000000
namespace Bw
open PySem PySem.Spec PyProof.Rows L2
/-! ### fates, from the front -/
def RunOk (l : Line) : Nat → List (Option Nat) → Prop
  | _, [] => True
  | r, none :: os => r < l.lost ∧ RunOk l (r + 1) os
  | _, some d :: os => d ≤ l.late ∧ RunOk l 0 os
def runEnd : Nat → List (Option Nat) → Nat
  | r, [] => r
  | r, none :: os => runEnd (r + 1) os
  | _, some _ :: os => runEnd 0 os
def FitsO (l : Line) (r : Nat) : Option Nat → Prop
  | none => r < l.lost
  | some d => d ≤ l.late
theorem runOk_snoc (l : Line) (o : Option Nat) : ∀ (os : List (Option Nat)) (r : Nat), RunOk l r (os ++ [o]) ↔ RunOk l r os ∧ FitsO l (runEnd r os) o
  | [], r => by
    cases o with
    | none => exact ⟨fun h => ⟨trivial, h.1⟩, fun h => ⟨h.2, trivial⟩⟩
    | some d => exact ⟨fun h => ⟨trivial, h.1⟩, fun h => ⟨h.2, trivial⟩⟩
  | none :: os, r => by
    have ih := runOk_snoc l o os (r + 1)
    constructor
    · rintro ⟨h1, h2⟩
      exact ⟨⟨h1, (ih.mp h2).1⟩, (ih.mp h2).2⟩
    · rintro ⟨⟨h1, h2⟩, h3⟩
      exact ⟨h1, ih.mpr ⟨h2, h3⟩⟩
  | some d :: os, r => by
    have ih := runOk_snoc l o os 0
    constructor
    · rintro ⟨h1, h2⟩
      exact ⟨⟨h1, (ih.mp h2).1⟩, (ih.mp h2).2⟩
    · rintro ⟨⟨h1, h2⟩, h3⟩
      exact ⟨h1, ih.mpr ⟨h2, h3⟩⟩
theorem runEnd_snoc (o : Option Nat) : ∀ (os : List (Option Nat)) (r : Nat), runEnd r (os ++ [o]) = match o with | none => runEnd r os + 1 | some _ => 0
  | [], r => by cases o <;> rfl
  | none :: os, r => runEnd_snoc o os (r + 1)
  | some d :: os, r => runEnd_snoc o os 0
theorem outs_iff (l : Line) (r : Nat) (os : List (Option Nat)) : Outs l r os ↔ RunOk l 0 os ∧ runEnd 0 os = r := by
  constructor
  · intro h
    induction h with
    | nil => exact ⟨trivial, rfl⟩
    | lose h hr ih =>
      refine ⟨(runOk_snoc l none _ 0).mpr ⟨ih.1, ?_⟩, ?_⟩
      · show runEnd 0 _ < l.lost
        rw [ih.2]
        exact hr
      · rw [runEnd_snoc, ih.2]
    | hear h d hd ih =>
      refine ⟨(runOk_snoc l (some d) _ 0).mpr ⟨ih.1, hd⟩, ?_⟩
      rw [runEnd_snoc]
  · revert r
    refine snoc_ind (P := fun os => ∀ r, RunOk l 0 os ∧ runEnd 0 os = r → Outs l r os) ?_ ?_ os
    · rintro r ⟨_, h⟩
      have h' : 0 = r := h
      subst h'
      exact .nil
    · intro os o ih r h
      obtain ⟨h1, h2⟩ := (runOk_snoc l o os 0).mp h.1
      have h3 := h.2
      rw [runEnd_snoc] at h3
      cases o with
      | none =>
        have h4 : runEnd 0 os + 1 = r := h3
        subst h4
        exact .lose (ih _ ⟨h1, rfl⟩) h2
      | some d =>
        have h4 : 0 = r := h3
        subst h4
        exact .hear (ih _ ⟨h1, rfl⟩) d h2
/-! ### how many are heard in a moment -/
def hit1 (t0 t : Nat) : Option Nat → Nat
  | none => 0
  | some d => if t0 + d = t then 1 else 0
def cntT (each : Nat) : Nat → List (Option Nat) → Nat → Nat
  | _, [], _ => 0
  | t0, o :: os, t => hit1 t0 t o + cntT each (t0 + each) os t
theorem cntT_snoc (each : Nat) (o : Option Nat) (t : Nat) : ∀ (os : List (Option Nat)) (t0 : Nat), cntT each t0 (os ++ [o]) t = cntT each t0 os t + hit1 (t0 + os.length * each) t o
  | [], t0 => by
    show hit1 t0 t o + 0 = 0 + hit1 (t0 + 0 * each) t o
    rw [Nat.zero_mul, Nat.add_zero, Nat.zero_add, Nat.add_zero]
  | p :: os, t0 => by
    show hit1 t0 t p + cntT each (t0 + each) (os ++ [o]) t = hit1 t0 t p + cntT each (t0 + each) os t + hit1 (t0 + (os.length + 1) * each) t o
    have e : t0 + each + os.length * each = t0 + (os.length + 1) * each := by
      rw [Nat.succ_mul]
      omega
    rw [cntT_snoc each o t os (t0 + each), e, Nat.add_assoc]
theorem cnt_eq (each : Nat) (os : List (Option Nat)) (t : Nat) : cnt each os t = cntT each 0 os t := by
  refine snoc_ind (P := fun os => cnt each os t = cntT each 0 os t) rfl ?_ os
  intro os o ih
  rw [cnt_snoc, cntT_snoc, ih, Nat.zero_add]
  congr 1
  cases o with
  | none => rfl
  | some d =>
    show (if decide (os.length * each + d = t) = true then 1 else 0) = if os.length * each + d = t then 1 else 0
    by_cases h : os.length * each + d = t
    · rw [if_pos (decide_eq_true h), if_pos h]
    · rw [if_neg (by rw [decide_eq_false h]; decide), if_neg h]
theorem hit1_shift (t0 t : Nat) (o : Option Nat) : hit1 (t0 + 1) (t + 1) o = hit1 t0 t o := by
  cases o with
  | none => rfl
  | some d =>
    show (if t0 + 1 + d = t + 1 then 1 else 0) = if t0 + d = t then 1 else 0
    by_cases h : t0 + d = t
    · rw [if_pos h, if_pos (by omega)]
    · rw [if_neg h, if_neg (by omega)]
theorem cntT_shift (each t : Nat) : ∀ (os : List (Option Nat)) (t0 : Nat), cntT each (t0 + 1) os (t + 1) = cntT each t0 os t
  | [], _ => rfl
  | o :: os, t0 => by
    show hit1 (t0 + 1) (t + 1) o + cntT each (t0 + 1 + each) os (t + 1) = hit1 t0 t o + cntT each (t0 + each) os t
    rw [hit1_shift, Nat.add_right_comm, cntT_shift each t os (t0 + each)]
theorem cntT_before (each : Nat) {t : Nat} : ∀ (os : List (Option Nat)) (t0 : Nat), t < t0 → cntT each t0 os t = 0
  | [], _, _ => rfl
  | o :: os, t0, h => by
    show hit1 t0 t o + cntT each (t0 + each) os t = 0
    rw [cntT_before each os (t0 + each) (by omega)]
    cases o with
    | none => rfl
    | some d =>
      show (if t0 + d = t then 1 else 0) + 0 = 0
      rw [if_neg (by omega)]
/-- k beats are sent within n moments, the first at t0 -/
def LenOk (each t0 n k : Nat) : Prop := ∀ i, i < k ↔ t0 + i * each < n
theorem lenOk_up {each n : Nat} (h : 1 ≤ each) : LenOk each 0 n ((n + each - 1) / each) := by
  intro i
  rw [Nat.zero_add]
  constructor
  · intro hi
    have h1 : i + 1 ≤ (n + each - 1) / each := hi
    rw [Nat.le_div_iff_mul_le (by omega), Nat.succ_mul] at h1
    omega
  · intro hi
    have h1 : i + 1 ≤ (n + each - 1) / each := by
      rw [Nat.le_div_iff_mul_le (by omega), Nat.succ_mul]
      omega
    exact h1
theorem lenOk_uniq {each t0 n k k' : Nat} (h : LenOk each t0 n k) (h' : LenOk each t0 n k') : k = k' := by
  by_cases h1 : k < k'
  · have := (h' k).mp h1
    have := (h k).mpr this
    omega
  · by_cases h2 : k' < k
    · have := (h k').mp h2
      have := (h' k').mpr this
      omega
    · omega
theorem lenOk_shift {each t0 n k : Nat} : LenOk each (t0 + 1) (n + 1) k ↔ LenOk each t0 n k := by
  constructor
  · intro h i
    rw [h i]
    omega
  · intro h i
    rw [h i]
    omega
theorem lenOk_first {each n k : Nat} (he : 1 ≤ each) : LenOk each 0 (n + 1) (k + 1) ↔ LenOk each (each - 1) n k := by
  constructor
  · intro h i
    have := h (i + 1)
    rw [Nat.succ_mul] at this
    omega
  · intro h i
    cases i with
    | zero =>
      rw [Nat.zero_mul]
      omega
    | succ i =>
      have := h i
      rw [Nat.succ_mul]
      omega
/-! ### beats on their way: (age, how long it takes yet) -/
def cnt0 : List (Nat × Nat) → Nat
  | [] => 0
  | (_, 0) :: P => cnt0 P + 1
  | (_, _ + 1) :: P => cnt0 P
def tick : List (Nat × Nat) → List (Nat × Nat)
  | [] => []
  | (_, 0) :: P => tick P
  | (a, r + 1) :: P => (a + 1, r) :: tick P
def cntR : List (Nat × Nat) → Nat → Nat
  | [], _ => 0
  | (_, r) :: P, t => (if r = t then 1 else 0) + cntR P t
theorem cntR_zero : ∀ P : List (Nat × Nat), cntR P 0 = cnt0 P
  | [] => rfl
  | (a, 0) :: P => by
    show (if 0 = 0 then 1 else 0) + cntR P 0 = cnt0 P + 1
    rw [cntR_zero P, if_pos rfl, Nat.add_comm]
  | (a, r + 1) :: P => by
    show (if r + 1 = 0 then 1 else 0) + cntR P 0 = cnt0 P
    rw [cntR_zero P, if_neg (by omega), Nat.zero_add]
theorem cntR_tick (t : Nat) : ∀ P : List (Nat × Nat), cntR (tick P) t = cntR P (t + 1)
  | [] => rfl
  | (a, 0) :: P => by
    show cntR (tick P) t = (if 0 = t + 1 then 1 else 0) + cntR P (t + 1)
    rw [cntR_tick t P, if_neg (by omega), Nat.zero_add]
  | (a, r + 1) :: P => by
    show (if r = t then 1 else 0) + cntR (tick P) t = (if r + 1 = t + 1 then 1 else 0) + cntR P (t + 1)
    rw [cntR_tick t P]
    congr 1
    by_cases h : r = t
    · rw [if_pos h, if_pos (by omega)]
    · rw [if_neg h, if_neg (by omega)]
theorem cntR_snoc (a d t : Nat) : ∀ P : List (Nat × Nat), cntR (P ++ [(a, d)]) t = cntR P t + if d = t then 1 else 0
  | [] => by
    show (if d = t then 1 else 0) + 0 = 0 + _
    rw [Nat.add_zero, Nat.zero_add]
  | (b, r) :: P => by
    show (if r = t then 1 else 0) + cntR (P ++ [(a, d)]) t = (if r = t then 1 else 0) + cntR P t + _
    rw [cntR_snoc a d t P, Nat.add_assoc]
def AccDG : List (Nat × Nat) → List Int → Prop
  | _, [] => True
  | P, m :: v => m = (cnt0 P : Int) ∧ AccDG (tick P) v
/-- a moment begins: t0 moments till the next beat -/
inductive Send (l : Line) : Nat → List (Nat × Nat) → Nat → List (Nat × Nat) → Nat → Nat → Prop where
  | wait (t0 : Nat) (P : List (Nat × Nat)) (run : Nat) : Send l (t0 + 1) P run P run t0
  | lose (P : List (Nat × Nat)) (run : Nat) (h : run < l.lost) : Send l 0 P run P (run + 1) (l.each - 1)
  | keep (P : List (Nat × Nat)) (run d : Nat) (h : d ≤ l.late) : Send l 0 P run (P ++ [(0, d)]) 0 (l.each - 1)
def AccD (l : Line) : Nat → List (Nat × Nat) → Nat → List Int → List Int → Prop
  | _, P, _, [], v => AccDG P v
  | t0, P, run, m :: u, v => ∃ P' run' t0', Send l t0 P run P' run' t0' ∧ m = (cnt0 P' : Int) ∧ AccD l t0' (tick P') run' u v
theorem accDG_iff : ∀ (v : List Int) (P : List (Nat × Nat)), AccDG P v ↔ ∀ t, t < v.length → v[t]? = some ((cntR P t : Nat) : Int)
  | [], P => ⟨fun _ t h => absurd h (Nat.not_lt_zero _), fun _ => trivial⟩
  | m :: v, P => by
    have ih := accDG_iff v (tick P)
    constructor
    · rintro ⟨h1, h2⟩ t ht
      cases t with
      | zero => rw [cntR_zero, ← h1]; rfl
      | succ t =>
        have := ih.mp h2 t (by simpa using ht)
        rw [cntR_tick] at this
        exact this
    · intro h
      refine ⟨?_, ih.mpr fun t ht => ?_⟩
      · have := h 0 (by simp)
        rw [cntR_zero] at this
        exact Option.some.inj this
      · have := h (t + 1) (by simpa using ht)
        rw [cntR_tick]
        exact this
theorem accD_iff (l : Line) (he : 1 ≤ l.each) : ∀ (u v : List Int) (t0 : Nat) (P : List (Nat × Nat)) (run : Nat), AccD l t0 P run u v ↔
    ∃ os, RunOk l run os ∧ LenOk l.each t0 u.length os.length ∧ ∀ t, t < u.length + v.length → (u ++ v)[t]? = some ((cntR P t + cntT l.each t0 os t : Nat) : Int)
  | [], v, t0, P, run => by
    have ih := accDG_iff v P
    constructor
    · intro h
      refine ⟨[], trivial, fun i => ⟨fun h => absurd h (Nat.not_lt_zero _), fun h => absurd h (Nat.not_lt_zero _)⟩, fun t ht => ?_⟩
      have := ih.mp h t (by simpa using ht)
      exact this
    · rintro ⟨os, h1, h2, h3⟩
      refine ih.mpr fun t ht => ?_
      have e : os = [] := by
        cases os with
        | nil => rfl
        | cons o os => exact absurd ((h2 0).mp (by simp)) (Nat.not_lt_zero _)
      subst e
      exact h3 t (by simpa using ht)
  | m :: u, v, t0, P, run => by
    constructor
    · rintro ⟨P', run', t0', hs, hm, h⟩
      obtain ⟨os, h1, h2, h3⟩ := (accD_iff l he u v t0' (tick P') run').mp h
      cases hs with
      | wait =>
        refine ⟨os, h1, lenOk_shift.mpr h2, fun t ht => ?_⟩
        cases t with
        | zero => rw [cntR_zero, cntT_before _ _ _ (by omega), Nat.add_zero, ← hm]; rfl
        | succ t =>
          have := h3 t (by simp at ht; omega)
          rw [cntR_tick] at this
          rw [cntT_shift]
          exact this
      | lose _ _ hr =>
        refine ⟨none :: os, ⟨hr, h1⟩, (lenOk_first he).mpr h2, fun t ht => ?_⟩
        have e : cntT l.each 0 (none :: os) t = cntT l.each l.each os t := by
          show 0 + cntT l.each (0 + l.each) os t = _
          rw [Nat.zero_add, Nat.zero_add]
        rw [e]
        cases t with
        | zero => rw [cntR_zero, cntT_before _ _ _ (by omega), Nat.add_zero, ← hm]; rfl
        | succ t =>
          have := h3 t (by simp at ht; omega)
          rw [cntR_tick] at this
          have e2 : l.each = l.each - 1 + 1 := by omega
          have e3 : cntT l.each l.each os (t + 1) = cntT l.each (l.each - 1) os t := by
            conv => lhs; arg 2; rw [e2]
            exact cntT_shift _ _ _ _
          rw [e3]
          exact this
      | keep _ _ d hd =>
        refine ⟨some d :: os, ⟨hd, h1⟩, (lenOk_first he).mpr h2, fun t ht => ?_⟩
        have e : cntT l.each 0 (some d :: os) t = (if d = t then 1 else 0) + cntT l.each l.each os t := by
          show (if 0 + d = t then 1 else 0) + cntT l.each (0 + l.each) os t = _
          rw [Nat.zero_add, Nat.zero_add]
        rw [e, ← Nat.add_assoc, ← cntR_snoc 0 d t P]
        cases t with
        | zero => rw [cntR_zero, cntT_before _ _ _ (by omega), Nat.add_zero, ← hm]; rfl
        | succ t =>
          have := h3 t (by simp at ht; omega)
          rw [cntR_tick] at this
          have e2 : l.each = l.each - 1 + 1 := by omega
          have e3 : cntT l.each l.each os (t + 1) = cntT l.each (l.each - 1) os t := by
            conv => lhs; arg 2; rw [e2]
            exact cntT_shift _ _ _ _
          rw [e3]
          exact this
    · rintro ⟨os, h1, h2, h3⟩
      have h0 := h3 0 (by simp; omega)
      have hS : ∀ t, t < u.length + v.length → (u ++ v)[t]? = some ((cntR P (t + 1) + cntT l.each t0 os (t + 1) : Nat) : Int) := fun t ht => h3 (t + 1) (by simp; omega)
      cases t0 with
      | succ t0 =>
        refine ⟨P, run, t0, .wait _ _ _, ?_, (accD_iff l he u v t0 (tick P) run).mpr ⟨os, h1, lenOk_shift.mp h2, fun t ht => ?_⟩⟩
        · rw [cntR_zero, cntT_before _ _ _ (by omega), Nat.add_zero] at h0
          exact Option.some.inj h0
        · rw [cntR_tick, ← cntT_shift]
          exact hS t ht
      | zero =>
        cases os with
        | nil => exact absurd ((h2 0).mpr (by simp)) (by simp)
        | cons o os =>
          have h2' := (lenOk_first (k := os.length) he).mp h2
          have e3 : ∀ t, cntT l.each l.each os (t + 1) = cntT l.each (l.each - 1) os t := fun t => by
            have e2 : l.each = l.each - 1 + 1 := by omega
            conv => lhs; arg 2; rw [e2]
            exact cntT_shift _ _ _ _
          cases o with
          | none =>
            have e : ∀ t, cntT l.each 0 (none :: os) t = cntT l.each l.each os t := fun t => by
              show 0 + cntT l.each (0 + l.each) os t = _
              rw [Nat.zero_add, Nat.zero_add]
            refine ⟨P, run + 1, l.each - 1, .lose _ _ h1.1, ?_, (accD_iff l he u v _ (tick P) (run + 1)).mpr ⟨os, h1.2, h2', fun t ht => ?_⟩⟩
            · rw [cntR_zero, e, cntT_before _ _ _ (by omega), Nat.add_zero] at h0
              exact Option.some.inj h0
            · rw [cntR_tick, ← e3, ← e]
              exact hS t ht
          | some d =>
            have e : ∀ t, cntT l.each 0 (some d :: os) t = (if d = t then 1 else 0) + cntT l.each l.each os t := fun t => by
              show (if 0 + d = t then 1 else 0) + cntT l.each (0 + l.each) os t = _
              rw [Nat.zero_add, Nat.zero_add]
            refine ⟨P ++ [(0, d)], 0, l.each - 1, .keep _ _ _ h1.1, ?_, (accD_iff l he u v _ (tick (P ++ [(0, d)])) 0).mpr ⟨os, h1.2, h2', fun t ht => ?_⟩⟩
            · rw [e, ← Nat.add_assoc, ← cntR_snoc 0 d 0 P, cntR_zero, cntT_before _ _ _ (by omega), Nat.add_zero] at h0
              exact Option.some.inj h0
            · rw [cntR_tick, ← e3, cntR_snoc, Nat.add_assoc, ← e]
              exact hS t ht
/-! ### the program's own states: the eldest ones are heard first -/
structure LS where
  ph : Nat
  ages : List Nat
  run : Nat
  deriving DecidableEq
def LS.first : LS := ⟨0, [], 0⟩
def begunL (l : Line) (s : LS) : List (List Nat × Nat) := if 0 < s.ph then [(s.ages, s.run)] else (s.ages ++ [0], 0) :: if s.run < l.lost then [(s.ages, s.run + 1)] else []
def youngL (l : Line) (ages : List Nat) : Bool := decide (ages.filter (fun a => decide (l.late ≤ a)) = [])
theorem youngL_iff (l : Line) (ages : List Nat) : youngL l ages = true ↔ ∀ a ∈ ages, a < l.late := by
  unfold youngL
  rw [decide_eq_true_eq, List.filter_eq_nil_iff]
  constructor
  · intro h a ha
    have := h a ha
    simp only [decide_eq_true_eq] at this
    omega
  · intro h a ha
    have := h a ha
    simp only [decide_eq_true_eq]
    omega
def heardL (l : Line) (ages : List Nat) : List (Nat × List Nat) := (List.range (ages.length + 1)).filterMap fun m => if youngL l (ages.drop m) = true then some (m, (ages.drop m).map (· + 1)) else none
theorem heardL_mem {l : Line} {ages : List Nat} {c : Nat} {left : List Nat} : (c, left) ∈ heardL l ages ↔ c ≤ ages.length ∧ (∀ a ∈ ages.drop c, a < l.late) ∧ left = (ages.drop c).map (· + 1) := by
  unfold heardL
  rw [List.mem_filterMap]
  constructor
  · rintro ⟨m, hm, h⟩
    split at h
    · rename_i hy
      have h' := Option.some.inj h
      injection h' with e1 e2
      subst e1
      have := List.mem_range.mp hm
      exact ⟨by omega, (youngL_iff l _).mp hy, e2.symm⟩
    · cases h
  · rintro ⟨h1, h2, rfl⟩
    refine ⟨c, List.mem_range.mpr (by omega), ?_⟩
    rw [if_pos ((youngL_iff l _).mpr h2)]
def movesL (l : Line) (s : LS) : List (Nat × LS) := (begunL l s).flatMap fun b => (heardL l b.1).map fun h => (h.1, ⟨(s.ph + 1) % l.each, h.2, b.2⟩)
theorem movesL_mem {l : Line} {s s' : LS} {c : Nat} : (c, s') ∈ movesL l s ↔ ∃ ages run, (ages, run) ∈ begunL l s ∧ c ≤ ages.length ∧ (∀ a ∈ ages.drop c, a < l.late) ∧ s' = ⟨(s.ph + 1) % l.each, (ages.drop c).map (· + 1), run⟩ := by
  unfold movesL
  rw [List.mem_flatMap]
  constructor
  · rintro ⟨⟨ages, run⟩, hb, h⟩
    obtain ⟨⟨c', left⟩, hh, e⟩ := List.mem_map.mp h
    injection e with e1 e2
    have e1' : c' = c := e1
    subst e1'
    obtain ⟨h1, h2, h3⟩ := heardL_mem.mp hh
    refine ⟨ages, run, hb, h1, h2, ?_⟩
    rw [← e2, ← h3]
  · rintro ⟨ages, run, hb, h1, h2, rfl⟩
    exact ⟨(ages, run), hb, List.mem_map.mpr ⟨(c, (ages.drop c).map (· + 1)), heardL_mem.mpr ⟨h1, h2, rfl⟩, rfl⟩⟩
def AccG (l : Line) : List Nat → List Int → Prop
  | _, [] => True
  | ages, m :: v => ∃ c left, (c, left) ∈ heardL l ages ∧ m = (c : Int) ∧ AccG l left v
def AccF (l : Line) : LS → List Int → List Int → Prop
  | s, [], v => AccG l s.ages v
  | s, m :: u, v => ∃ c s', (c, s') ∈ movesL l s ∧ m = (c : Int) ∧ AccF l s' u v
def Bnd (late : Nat) (P : List (Nat × Nat)) : Prop := ∀ p ∈ P, p.1 + p.2 ≤ late
theorem zip_step : ∀ (c : Nat) (ages : List Nat) (rs : List Nat), c ≤ ages.length → rs.length = ages.length - c → cnt0 (ages.zip (List.replicate c 0 ++ rs.map (· + 1))) = c ∧ tick (ages.zip (List.replicate c 0 ++ rs.map (· + 1))) = ((ages.drop c).map (· + 1)).zip rs
  | 0, ages, rs, _, h => by
    rw [List.replicate_zero, List.nil_append, List.drop_zero]
    induction ages generalizing rs with
    | nil =>
      cases rs with
      | nil => exact ⟨rfl, rfl⟩
      | cons r rs => simp at h
    | cons a ages ih =>
      cases rs with
      | nil => simp at h
      | cons r rs =>
        obtain ⟨h1, h2⟩ := ih rs (Nat.zero_le _) (by simpa using h)
        refine ⟨?_, ?_⟩
        · show cnt0 ((a, r + 1) :: ages.zip (rs.map (· + 1))) = 0
          exact h1
        · show (a + 1, r) :: tick (ages.zip (rs.map (· + 1))) = (a + 1, r) :: (ages.map (· + 1)).zip rs
          rw [h2]
  | c + 1, [], rs, h, _ => absurd h (by simp)
  | c + 1, a :: ages, rs, h, h' => by
    obtain ⟨h1, h2⟩ := zip_step c ages rs (by simpa using h) (by simpa using h')
    refine ⟨?_, ?_⟩
    · show cnt0 ((a, 0) :: ages.zip (List.replicate c 0 ++ rs.map (· + 1))) = c + 1
      show cnt0 (ages.zip (List.replicate c 0 ++ rs.map (· + 1))) + 1 = c + 1
      rw [h1]
    · show tick (ages.zip (List.replicate c 0 ++ rs.map (· + 1))) = ((ages.drop c).map (· + 1)).zip rs
      exact h2
theorem zip_bnd {late : Nat} : ∀ (c : Nat) (ages : List Nat) (rs : List Nat), (∀ a ∈ ages, a ≤ late) → Bnd late (((ages.drop c).map (· + 1)).zip rs) → Bnd late (ages.zip (List.replicate c 0 ++ rs.map (· + 1)))
  | 0, ages, rs, h, hb => by
    rw [List.replicate_zero, List.nil_append]
    rw [List.drop_zero] at hb
    induction ages generalizing rs with
    | nil => intro p hp; cases hp
    | cons a ages ih =>
      cases rs with
      | nil => intro p hp; cases hp
      | cons r rs =>
        intro p hp
        rcases List.mem_cons.mp hp with rfl | hp
        · have := hb (a + 1, r) List.mem_cons_self
          have this : a + 1 + r ≤ late := this
          show a + (r + 1) ≤ late
          omega
        · exact ih rs (fun b hb' => h b (List.mem_cons_of_mem _ hb')) (fun q hq => hb q (List.mem_cons_of_mem _ hq)) p hp
  | c + 1, [], rs, h, hb => by intro p hp; cases hp
  | c + 1, a :: ages, rs, h, hb => by
    intro p hp
    rcases List.mem_cons.mp hp with rfl | hp
    · have := h a List.mem_cons_self
      show a + 0 ≤ late
      omega
    · exact zip_bnd c ages rs (fun b hb' => h b (List.mem_cons_of_mem _ hb')) hb p hp
def T0 (l : Line) (ph : Nat) : Nat := if ph = 0 then 0 else l.each - ph
theorem T0_next {l : Line} {ph : Nat} (he : 1 ≤ l.each) (h : ph < l.each) : (ph = 0 → T0 l ((ph + 1) % l.each) = l.each - 1) ∧ (0 < ph → T0 l ph = T0 l ((ph + 1) % l.each) + 1) := by
  unfold T0
  by_cases h1 : ph + 1 = l.each
  · rw [h1, Nat.mod_self, if_pos rfl]
    constructor
    · intro e
      omega
    · intro e
      rw [if_neg (by omega)]
      omega
  · rw [Nat.mod_eq_of_lt (by omega), if_neg (by omega)]
    constructor
    · intro e
      omega
    · intro e
      rw [if_neg (by omega)]
      omega
theorem gone_D (l : Line) : ∀ (v : List Int) (ages : List Nat), (∀ a ∈ ages, a ≤ l.late) → AccG l ages v → ∃ rs : List Nat, rs.length = ages.length ∧ Bnd l.late (ages.zip rs) ∧ AccDG (ages.zip rs) v
  | [], ages, ha, _ => by
    refine ⟨List.replicate ages.length 0, by simp, ?_, trivial⟩
    intro p hp
    have h1 := List.of_mem_zip (a := p.1) (b := p.2) hp
    have h2 := List.eq_of_mem_replicate h1.2
    have h3 := ha _ h1.1
    omega
  | m :: v, ages, ha, h => by
    obtain ⟨c, left, hc, rfl, h⟩ := h
    obtain ⟨h1, h2, rfl⟩ := heardL_mem.mp hc
    obtain ⟨rs, e1, e2, e3⟩ := gone_D l v ((ages.drop c).map (· + 1)) (fun a ha' => by
      obtain ⟨b, hb, rfl⟩ := List.mem_map.mp ha'
      have := h2 b hb
      omega) h
    rw [List.length_map, List.length_drop] at e1
    obtain ⟨z1, z2⟩ := zip_step c ages rs h1 e1
    refine ⟨List.replicate c 0 ++ rs.map (· + 1), by rw [List.length_append, List.length_replicate, List.length_map]; omega, zip_bnd c ages rs ha e2, ?_, ?_⟩
    · rw [z1]
    · rw [z2]
      exact e3
theorem split_last {rs : List Nat} {n : Nat} (h : rs.length = n + 1) : ∃ r d, rs = r ++ [d] ∧ r.length = n := by
  rcases List.eq_nil_or_concat rs with rfl | ⟨r, d, rfl⟩
  · simp at h
  · refine ⟨r, d, by rw [List.concat_eq_append], ?_⟩
    rw [List.concat_eq_append, List.length_append, List.length_singleton] at h
    omega
theorem fifo_D (l : Line) (he : 1 ≤ l.each) : ∀ (u v : List Int) (s : LS), (∀ a ∈ s.ages, a ≤ l.late) → s.ph < l.each → AccF l s u v → ∃ rs : List Nat, rs.length = s.ages.length ∧ Bnd l.late (s.ages.zip rs) ∧ AccD l (T0 l s.ph) (s.ages.zip rs) s.run u v
  | [], v, s, ha, _, h => gone_D l v s.ages ha h
  | m :: u, v, s, ha, hp, h => by
    obtain ⟨c, s', hc, rfl, h⟩ := h
    obtain ⟨ages, run, hb, h1, h2, rfl⟩ := movesL_mem.mp hc
    obtain ⟨rs, e1, e2, e3⟩ := fifo_D l he u v ⟨(s.ph + 1) % l.each, (ages.drop c).map (· + 1), run⟩ (fun a ha' => by
      obtain ⟨b, hb, rfl⟩ := List.mem_map.mp ha'
      have := h2 b hb
      omega) (Nat.mod_lt _ (by omega)) h
    have e1' : rs.length = ages.length - c := by
      have : rs.length = ((ages.drop c).map (· + 1)).length := e1
      rw [List.length_map, List.length_drop] at this
      exact this
    obtain ⟨z1, z2⟩ := zip_step c ages rs h1 e1'
    have hl1 : (List.replicate c 0 ++ rs.map (· + 1)).length = ages.length := by rw [List.length_append, List.length_replicate, List.length_map]; omega
    have htn := T0_next (l := l) (ph := s.ph) he hp
    unfold begunL at hb
    split at hb
    · rename_i hph
      rcases List.mem_cons.mp hb with e | hb
      · injection e with ea er
        subst ea er
        refine ⟨_, hl1, zip_bnd c _ rs ha e2, ?_⟩
        refine ⟨_, _, _, ?_, by rw [z1], by rw [z2]; exact e3⟩
        rw [htn.2 hph]
        exact .wait _ _ _
      · cases hb
    · rename_i hph
      have hph0 : s.ph = 0 := by omega
      have hT : T0 l s.ph = 0 := by rw [hph0]; rfl
      rcases List.mem_cons.mp hb with e | hb
      · injection e with ea er
        subst ea er
        have hbn := zip_bnd (late := l.late) c (s.ages ++ [0]) rs (fun a ha' => by
          rcases List.mem_append.mp ha' with ha' | ha'
          · exact ha a ha'
          · rcases List.mem_cons.mp ha' with rfl | ha'
            · exact Nat.zero_le _
            · cases ha') e2
        obtain ⟨r, d, er, hr⟩ := split_last (n := s.ages.length) (by rw [hl1, List.length_append, List.length_singleton])
        rw [er] at hbn z1 z2
        have ez : (s.ages ++ [0]).zip (r ++ [d]) = s.ages.zip r ++ [(0, d)] := by
          rw [List.zip_append (by rw [hr])]
          rfl
        rw [ez] at hbn z1 z2
        refine ⟨r, hr, fun p hp => hbn p (List.mem_append_left _ hp), ?_⟩
        have hd : d ≤ l.late := by
          have := hbn (0, d) (List.mem_append_right _ List.mem_cons_self)
          have : 0 + d ≤ l.late := this
          omega
        refine ⟨_, _, _, ?_, by rw [z1], by rw [z2]; exact e3⟩
        rw [hT, htn.1 hph0]
        exact .keep _ _ d hd
      · split at hb
        · rename_i hl
          rcases List.mem_cons.mp hb with e | hb
          · injection e with ea er
            subst ea er
            refine ⟨_, hl1, zip_bnd c _ rs ha e2, ?_⟩
            refine ⟨_, _, _, ?_, by rw [z1], by rw [z2]; exact e3⟩
            rw [hT, htn.1 hph0]
            exact .lose _ _ hl
          · cases hb
        · cases hb
/-- the program's ages are no greater -/
inductive Le2 : List Nat → List (Nat × Nat) → Prop where
  | nil : Le2 [] []
  | cons {b a r : Nat} {bs : List Nat} {P : List (Nat × Nat)} (h : b ≤ a) (t : Le2 bs P) : Le2 (b :: bs) ((a, r) :: P)
def Desc : List (Nat × Nat) → Prop
  | [] => True
  | (a, _) :: P => (∀ p ∈ P, p.1 ≤ a) ∧ Desc P
theorem Le2.len {bs : List Nat} {P : List (Nat × Nat)} (h : Le2 bs P) : bs.length = P.length := by
  induction h with
  | nil => rfl
  | cons _ _ ih => rw [List.length_cons, List.length_cons, ih]
theorem cnt0_le : ∀ P : List (Nat × Nat), cnt0 P ≤ P.length
  | [] => Nat.le_refl _
  | (a, 0) :: P => by
    show cnt0 P + 1 ≤ P.length + 1
    have := cnt0_le P
    omega
  | (a, r + 1) :: P => by
    show cnt0 P ≤ P.length + 1
    have := cnt0_le P
    omega
theorem Le2.get {bs : List Nat} {P : List (Nat × Nat)} (h : Le2 bs P) : ∀ {i : Nat} {b : Nat}, bs[i]? = some b → ∃ p ∈ P, b ≤ p.1 := by
  induction h with
  | nil => intro i b e; cases e
  | @cons b a r bs P h t ih =>
    intro i b' e
    cases i with
    | zero =>
      have e' : b = b' := Option.some.inj e
      subst e'
      exact ⟨_, List.mem_cons_self, h⟩
    | succ i =>
      obtain ⟨p, hp, hb⟩ := ih (i := i) (b := b') e
      exact ⟨p, List.mem_cons_of_mem _ hp, hb⟩
/-- what is left behind a moment -/
theorem Le2.step {late : Nat} {bs : List Nat} {P : List (Nat × Nat)} (h : Le2 bs P) : Desc P → Bnd late P → Le2 ((bs.drop (cnt0 P)).map (· + 1)) (tick P) ∧ ∀ b ∈ bs.drop (cnt0 P), b < late := by
  induction h with
  | nil => exact fun _ _ => ⟨.nil, fun b hb => nomatch hb⟩
  | @cons b a r bs P h t ih =>
    intro hd hb
    obtain ⟨i1, i2⟩ := ih hd.2 fun p hp => hb p (List.mem_cons_of_mem _ hp)
    cases r with
    | zero => exact ⟨i1, i2⟩
    | succ r =>
      have hbd : a + (r + 1) ≤ late := hb (a, r + 1) List.mem_cons_self
      have key : ∃ x, (b :: bs).drop (cnt0 P) = x :: bs.drop (cnt0 P) ∧ x ≤ a := by
        cases hm : cnt0 P with
        | zero => exact ⟨b, rfl, h⟩
        | succ m =>
          have hlt : m < bs.length := by
            have h1 := cnt0_le P
            have h2 := t.len
            omega
          refine ⟨bs[m], ?_, ?_⟩
          · show bs.drop m = bs[m] :: bs.drop (m + 1)
            exact List.drop_eq_getElem_cons hlt
          · obtain ⟨p, hp, hx⟩ := t.get (i := m) (b := bs[m]) (by rw [List.getElem?_eq_getElem hlt])
            exact Nat.le_trans hx (hd.1 p hp)
      obtain ⟨x, e, hx⟩ := key
      show Le2 (((b :: bs).drop (cnt0 P)).map (· + 1)) ((a + 1, r) :: tick P) ∧ ∀ b' ∈ (b :: bs).drop (cnt0 P), b' < late
      rw [e]
      refine ⟨.cons (Nat.succ_le_succ hx) i1, fun y hy => ?_⟩
      rcases List.mem_cons.mp hy with rfl | hy
      · omega
      · exact i2 y hy
theorem tick_mem : ∀ {P : List (Nat × Nat)} {p : Nat × Nat}, p ∈ tick P → ∃ q ∈ P, p.1 = q.1 + 1 ∧ p.2 + 1 = q.2
  | (a, 0) :: P, p, h => by
    obtain ⟨q, hq, e⟩ := tick_mem (P := P) h
    exact ⟨q, List.mem_cons_of_mem _ hq, e⟩
  | (a, r + 1) :: P, p, h => by
    rcases List.mem_cons.mp h with rfl | h
    · exact ⟨_, List.mem_cons_self, rfl, rfl⟩
    · obtain ⟨q, hq, e⟩ := tick_mem (P := P) h
      exact ⟨q, List.mem_cons_of_mem _ hq, e⟩
theorem tick_bnd {late : Nat} {P : List (Nat × Nat)} (h : Bnd late P) : Bnd late (tick P) := fun p hp => by
  obtain ⟨q, hq, e1, e2⟩ := tick_mem hp
  have := h q hq
  omega
theorem tick_desc : ∀ {P : List (Nat × Nat)}, Desc P → Desc (tick P)
  | [], _ => trivial
  | (a, 0) :: P, h => tick_desc (P := P) h.2
  | (a, r + 1) :: P, h => by
    refine ⟨fun p hp => ?_, tick_desc (P := P) h.2⟩
    obtain ⟨q, hq, e1, _⟩ := tick_mem hp
    have := h.1 q hq
    omega
theorem desc_snoc {d : Nat} : ∀ {P : List (Nat × Nat)}, Desc P → Desc (P ++ [(0, d)])
  | [], _ => ⟨fun p hp => (nomatch hp), trivial⟩
  | (a, r) :: P, h => by
    refine ⟨fun p hp => ?_, desc_snoc (P := P) h.2⟩
    rcases List.mem_append.mp hp with hp | hp
    · exact h.1 p hp
    · rcases List.mem_cons.mp hp with rfl | hp
      · exact Nat.zero_le _
      · cases hp
theorem Le2.snoc {d : Nat} {bs : List Nat} {P : List (Nat × Nat)} (h : Le2 bs P) : Le2 (bs ++ [0]) (P ++ [(0, d)]) := by
  induction h with
  | nil => exact .cons (Nat.le_refl _) .nil
  | cons h t ih => exact .cons h ih
theorem D_gone (l : Line) : ∀ (v : List Int) (P : List (Nat × Nat)) (ages : List Nat), Le2 ages P → Desc P → Bnd l.late P → AccDG P v → AccG l ages v
  | [], _, _, _, _, _, _ => trivial
  | m :: v, P, ages, hL, hD, hB, h => by
    obtain ⟨rfl, h⟩ := h
    obtain ⟨s1, s2⟩ := hL.step hD hB
    exact ⟨cnt0 P, _, heardL_mem.mpr ⟨by rw [hL.len]; exact cnt0_le P, s2, rfl⟩, rfl, D_gone l v _ _ s1 (tick_desc hD) (tick_bnd hB) h⟩
theorem D_fifo (l : Line) (he : 1 ≤ l.each) : ∀ (u v : List Int) (t0 : Nat) (P : List (Nat × Nat)) (run : Nat) (s : LS), Le2 s.ages P → Desc P → Bnd l.late P → T0 l s.ph = t0 → s.ph < l.each → s.run = run → AccD l t0 P run u v → AccF l s u v
  | [], v, t0, P, run, s, hL, hD, hB, _, _, _, h => D_gone l v P s.ages hL hD hB h
  | m :: u, v, t0, P, run, s, hL, hD, hB, hT, hp, hr, h => by
    obtain ⟨P', run', t0', hs, rfl, h⟩ := h
    have htn := T0_next (l := l) (ph := s.ph) he hp
    cases hs with
    | wait =>
      have hph : 0 < s.ph := by
        rcases Nat.eq_zero_or_pos s.ph with z | z
        · rw [z] at hT
          have : (0 : Nat) = _ + 1 := hT
          omega
        · exact z
      obtain ⟨s1, s2⟩ := hL.step hD hB
      refine ⟨cnt0 P, ⟨(s.ph + 1) % l.each, (s.ages.drop (cnt0 P)).map (· + 1), s.run⟩, movesL_mem.mpr ⟨s.ages, s.run, ?_, by rw [hL.len]; exact cnt0_le P, s2, rfl⟩, rfl, ?_⟩
      · unfold begunL
        rw [if_pos hph]
        exact List.mem_cons_self
      · refine D_fifo l he u v _ _ _ _ s1 (tick_desc hD) (tick_bnd hB) ?_ (Nat.mod_lt _ (by omega)) hr h
        have := htn.2 hph
        show T0 l ((s.ph + 1) % l.each) = _
        omega
    | lose _ _ hl =>
      have hph : s.ph = 0 := by
        unfold T0 at hT
        split at hT
        · assumption
        · omega
      obtain ⟨s1, s2⟩ := hL.step hD hB
      refine ⟨cnt0 P, ⟨(s.ph + 1) % l.each, (s.ages.drop (cnt0 P)).map (· + 1), s.run + 1⟩, movesL_mem.mpr ⟨s.ages, s.run + 1, ?_, by rw [hL.len]; exact cnt0_le P, s2, rfl⟩, rfl, ?_⟩
      · unfold begunL
        rw [if_neg (by omega), hr, if_pos hl]
        exact List.mem_cons_of_mem _ List.mem_cons_self
      · refine D_fifo l he u v _ _ _ _ s1 (tick_desc hD) (tick_bnd hB) (htn.1 hph) (Nat.mod_lt _ (by omega)) ?_ h
        show s.run + 1 = run + 1
        rw [hr]
    | keep _ _ d hd =>
      have hph : s.ph = 0 := by
        unfold T0 at hT
        split at hT
        · assumption
        · omega
      have hL' := hL.snoc (d := d)
      have hD' := desc_snoc (d := d) hD
      have hB' : Bnd l.late (P ++ [(0, d)]) := fun p hp => by
        rcases List.mem_append.mp hp with hp | hp
        · exact hB p hp
        · rcases List.mem_cons.mp hp with rfl | hp
          · show 0 + d ≤ l.late
            omega
          · cases hp
      obtain ⟨s1, s2⟩ := hL'.step hD' hB'
      refine ⟨cnt0 (P ++ [(0, d)]), ⟨(s.ph + 1) % l.each, ((s.ages ++ [0]).drop (cnt0 (P ++ [(0, d)]))).map (· + 1), 0⟩, movesL_mem.mpr ⟨s.ages ++ [0], 0, ?_, by rw [hL'.len]; exact cnt0_le _, s2, rfl⟩, rfl, ?_⟩
      · unfold begunL
        rw [if_neg (by omega)]
        exact List.mem_cons_self
      · exact D_fifo l he u v _ _ _ _ s1 (tick_desc hD') (tick_bnd hB') (htn.1 hph) (Nat.mod_lt _ (by omega)) rfl h
/-- what may be heard, u while the other one is there, v behind that: by fates -/
def MayH (l : Line) (u v : List Int) : Prop := ∃ r os, Outs l r os ∧ os.length = (u.length + l.each - 1) / l.each ∧ u ++ v = heardOf l.each os (u.length + v.length)
theorem accD_may (l : Line) (he : 1 ≤ l.each) (u v : List Int) : AccD l 0 [] 0 u v ↔ MayH l u v := by
  rw [accD_iff l he]
  constructor
  · rintro ⟨os, h1, h2, h3⟩
    refine ⟨runEnd 0 os, os, (outs_iff l _ os).mpr ⟨h1, rfl⟩, lenOk_uniq h2 (lenOk_up he), List.ext_getElem? fun t => ?_⟩
    by_cases ht : t < u.length + v.length
    · rw [h3 t ht, heardOf_at ht, cnt_eq]
      show some (((0 + cntT l.each 0 os t : Nat)) : Int) = _
      rw [Nat.zero_add]
    · rw [List.getElem?_eq_none (by rw [List.length_append]; omega), List.getElem?_eq_none (by rw [heardOf_len]; omega)]
  · rintro ⟨r, os, h1, h2, h3⟩
    refine ⟨os, ((outs_iff l r os).mp h1).1, by rw [h2]; exact lenOk_up he, fun t ht => ?_⟩
    rw [h3, heardOf_at ht, cnt_eq]
    show _ = some (((0 + cntT l.each 0 os t : Nat)) : Int)
    rw [Nat.zero_add]
theorem fifo_may (l : Line) (he : 1 ≤ l.each) (u v : List Int) : AccF l LS.first u v ↔ MayH l u v := by
  rw [← accD_may l he]
  constructor
  · intro h
    obtain ⟨rs, e1, e2, e3⟩ := fifo_D l he u v LS.first (fun a ha => nomatch ha) (by show 0 < l.each; omega) h
    exact e3
  · intro h
    exact D_fifo l he u v 0 [] 0 LS.first .nil trivial (fun p hp => nomatch hp) rfl (by show 0 < l.each; omega) rfl h
end Bw

set_option Elab.async false
set_option linter.all false
set_option maxRecDepth 100000
set_option maxHeartbeats 4000000
namespace Bw
open PySem PySem.Spec PyProof.Rows L2
/-! ### tuples, by what they hold -/
theorem hu20 {k : Nat} {A : Around} (hr : Room k A) : A.units + 20 < cLine := by
  have := hr.un
  omega
theorem cutV_all {xs : List V} {lo hi : Option Int} (h : HT.sIx xs.length 0 lo = 0 ∧ HT.sIx xs.length xs.length hi = xs.length) : cutV xs lo hi = xs := by
  unfold cutV
  rw [h.1, h.2, List.drop_zero, Nat.sub_zero, List.take_length]
section
variable {X : Cx}
def rCatU (K : PySem.W.Frag) : R2 := fun x y H Q => ∃ a b xs ys, x = .ref a ∧ y = .ref b ∧ SqT K H a xs ∧ SqT K H b ys ∧ xs.length + ys.length ≤ sizeLine ∧ ∀ p H', Same H H' → SqT K H' p (xs ++ ys) → Q (.ref p) H'
theorem op_catU : OpR X (binaryOp .Add) (rCatU X.K) := by
  intro pins s σ H x y v u Q I rx ry h
  obtain ⟨a, b, xs, ys, rfl, rfl, ha, hb, hz, q⟩ := h
  refine op_catA pins s σ H (.ref a) (.ref b) v u Q I rx ry ⟨a, b, xs, ys, rfl, rfl, ha, hb, hz, fun e => ?_, fun _ e => ?_, fun _ _ p hp => ?_⟩
  · exact q b H (Same.refl H) (by rw [e]; exact hb)
  · exact q a H (Same.refl H) (by rw [e, List.append_nil]; exact ha)
  · exact q p _ (Same.newB hp) (SqT.of upd_same)
def rSlU (K : PySem.W.Frag) : V → Option Int → Option Int → Hp → VK → Prop := fun x lo hi H Q => ∃ a xs, x = .ref a ∧ SqT K H a xs ∧ ∀ p H', Same H H' → SqT K H' p (cutV xs lo hi) → Q (.ref p) H'
theorem sl_tupU : SlR X (rSlU X.K) := by
  intro pins s σ H x v vl vu lo hi sl Q I rx hs pl pu h
  obtain ⟨a, xs, rfl, hx, q⟩ := h
  refine sl_tupA pins s σ H (.ref a) v vl vu lo hi sl Q I rx hs pl pu ⟨a, xs, rfl, hx, fun e => ?_, fun _ p hp => ?_⟩
  · exact q a H (Same.refl H) (by rw [cutV_all e]; exact hx)
  · exact q p _ (Same.newB hp) (SqT.of upd_same)
end
theorem cut_from (l : List Int) (n : Nat) : cutV (l.map V.int) (some (n : Int)) none = (l.drop n).map V.int := by
  unfold cutV
  rw [HT.sIx_nat, HT.sIx_none, List.length_map]
  by_cases h : n ≤ l.length
  · rw [Nat.min_eq_left h, List.take_of_length_le (by rw [List.length_drop, List.length_map]; omega), List.map_drop]
  · rw [Nat.min_eq_right (by omega), Nat.sub_self, List.take_zero, List.drop_of_length_le (by omega)]
    rfl
theorem cut_to (l : List Int) (n : Nat) : cutV (l.map V.int) none (some (n : Int)) = (l.take n).map V.int := by
  unfold cutV
  rw [HT.sIx_none, HT.sIx_nat, List.drop_zero, Nat.sub_zero, List.length_map, ← List.map_take]
  by_cases h : n ≤ l.length
  · rw [Nat.min_eq_left h]
  · rw [Nat.min_eq_right (by omega), List.take_of_length_le (Nat.le_refl _), List.take_of_length_le (by omega)]
/-- natural numbers as values -/
def nI (l : List Nat) : List Int := l.map fun a => ((a : Nat) : Int)
theorem nI_len (l : List Nat) : (nI l).length = l.length := by
  unfold nI
  rw [List.length_map]
theorem nI_inj : ∀ {a b : List Nat}, nI a = nI b → a = b
  | [], [], _ => rfl
  | [], _ :: _, h => nomatch h
  | _ :: _, [], h => nomatch h
  | x :: a, y :: b, h => by
    have h' : (x : Int) :: nI a = (y : Int) :: nI b := h
    injection h' with h1 h2
    rw [nI_inj h2]
    congr 1
    omega
/-! ### data and keys -/
def intsD (l : List Int) : PyData := .tuple (l.map PyData.int)
def intsK (l : List Int) : NK := .tup (l.map NestedKey.num)
theorem intsK_data (l : List Int) : (intsK l).data = intsD l := by
  show PyData.tuple (NestedKey.datas (l.map NestedKey.num)) = PyData.tuple (l.map PyData.int)
  congr 1
  induction l with
  | nil => rfl
  | cons a l ih =>
    show NestedKey.data (.num a) :: NestedKey.datas (l.map NestedKey.num) = _
    rw [ih]
    rfl
theorem intsK_depth (l : List Int) : (intsK l).depth ≤ 1 := by
  show NestedKey.depthAll (l.map NestedKey.num) + 1 ≤ 1
  have h : NestedKey.depthAll (l.map NestedKey.num) = 0 := by
    induction l with
    | nil => rfl
    | cons a l ih =>
      show max (NestedKey.depth (.num a)) (NestedKey.depthAll (l.map NestedKey.num)) = 0
      rw [ih]
      rfl
  omega
theorem intsK_inj {a b : List Int} (h : intsK a = intsK b) : a = b := by
  have h' : a.map NestedKey.num = b.map NestedKey.num := by
    injection h
  clear h
  induction a generalizing b with
  | nil =>
    cases b with
    | nil => rfl
    | cons y b => cases h'
  | cons x a ih =>
    cases b with
    | nil => cases h'
    | cons y b =>
      injection h' with h1 h2
      injection h1 with h3
      rw [h3, ih h2]
section
variable {K : PySem.W.Frag} {H : Hp}
theorem ints_dp {a : Addr} {l : List Int} (h : SqT K H a (l.map V.int)) : Dp K H (.ref a) (intsD l) := .tup h (dp_ints l)
theorem dpAll_ints {xs : List V} : ∀ {l : List Int}, DpAll K H xs (l.map PyData.int) → xs = l.map V.int := by
  intro l
  induction l generalizing xs with
  | nil => intro h; cases h; rfl
  | cons a l ih =>
    intro h
    cases h with
    | cons h1 h2 =>
      cases h1
      rw [ih h2]
      rfl
theorem dp_intsD {v : V} {l : List Int} (h : Dp K H v (intsD l)) : ∃ a, v = .ref a ∧ SqT K H a (l.map V.int) := by
  cases h with
  | tup h1 h2 =>
    have e := dpAll_ints h2
    subst e
    exact ⟨_, rfl, h1⟩
/-- one level of a tuple's data -/
theorem dp_tup {v : V} {ds : List PyData} (h : Dp K H v (.tuple ds)) : ∃ a xs, v = .ref a ∧ SqT K H a xs ∧ DpAll K H xs ds := by
  cases h with
  | tup h1 h2 => exact ⟨_, _, rfl, h1, h2⟩
theorem dp_int {v : V} {i : Int} (h : Dp K H v (.int i)) : v = .int i := by
  cases h
  rfl
theorem dpAll_get {xs : List V} {ds : List PyData} {i : Nat} {x : V} (h : DpAll K H xs ds) (hx : xs[i]? = some x) : ∃ d, ds[i]? = some d ∧ Dp K H x d := by
  have hl := DpAll.len h
  have hi := (List.getElem?_eq_some_iff.mp hx).1
  obtain ⟨v, d, h1, h2, h3⟩ := DpAll.get (i := i) h (by omega)
  rw [hx] at h1
  cases h1
  exact ⟨d, h2, h3⟩
theorem dpAll_one {xs : List V} {d : PyData} (h : DpAll K H xs [d]) : ∃ x, xs = [x] ∧ Dp K H x d := by
  cases h with
  | cons h1 h2 => cases h2; exact ⟨_, rfl, h1⟩
theorem dpAll_two {xs : List V} {d e : PyData} (h : DpAll K H xs [d, e]) : ∃ x y, xs = [x, y] ∧ Dp K H x d ∧ Dp K H y e := by
  cases h with
  | cons h1 h2 =>
    obtain ⟨y, rfl, h3⟩ := dpAll_one h2
    exact ⟨_, _, rfl, h1, h3⟩
theorem dpAll_three {xs : List V} {d e g : PyData} (h : DpAll K H xs [d, e, g]) : ∃ x y z, xs = [x, y, z] ∧ Dp K H x d ∧ Dp K H y e ∧ Dp K H z g := by
  cases h with
  | cons h1 h2 =>
    obtain ⟨y, z, rfl, h3, h4⟩ := dpAll_two h2
    exact ⟨_, _, _, rfl, h1, h3, h4⟩
end
/-! ### a line's state as a key -/
def lsK (s : LS) : NK := .tup [.num s.ph, intsK (nI s.ages), .num s.run]
def lsD (s : LS) : PyData := .tuple [.int s.ph, intsD (nI s.ages), .int s.run]
theorem lsK_data (s : LS) : (lsK s).data = lsD s := by
  show PyData.tuple [.int s.ph, (intsK (nI s.ages)).data, .int s.run] = _
  rw [intsK_data]
  rfl
theorem lsK_depth (s : LS) : (lsK s).depth ≤ 2 := by
  show max 0 (max (intsK (nI s.ages)).depth (max 0 0)) + 1 ≤ 2
  have := intsK_depth (nI s.ages)
  omega
theorem lsK_inj {s t : LS} (h : lsK s = lsK t) : s = t := by
  injection h with h
  injection h with h1 h2
  injection h2 with h2 h3
  injection h3 with h3 _
  injection h1 with h1
  injection h3 with h3
  have h4 := nI_inj (intsK_inj h2)
  have h5 : s.ph = t.ph := by omega
  have h6 : s.run = t.run := by omega
  cases s
  cases t
  simp only [LS.mk.injEq]
  exact ⟨h5, h4, h6⟩
section
variable {K : PySem.W.Frag} {H : Hp}
theorem ls_at {v : V} {s : LS} (h : Dp K H v (lsD s)) : ∃ a b, v = .ref a ∧ SqT K H a [.int s.ph, .ref b, .int s.run] ∧ SqT K H b ((nI s.ages).map V.int) := by
  obtain ⟨a, xs, rfl, h1, h2⟩ := dp_tup h
  obtain ⟨x, y, z, rfl, h3, h4, h5⟩ := dpAll_three h2
  obtain ⟨b, rfl, h6⟩ := dp_intsD h4
  cases dp_int h3
  cases dp_int h5
  exact ⟨a, b, rfl, h1, h6⟩
theorem ls_mk {a b : Addr} {s : LS} (h1 : SqT K H a [.int s.ph, .ref b, .int s.run]) (h2 : SqT K H b ((nI s.ages).map V.int)) : Dp K H (.ref a) (lsD s) := .tup h1 (.cons (.int _) (.cons (ints_dp h2) (.cons (.int _) .nil)))
theorem ls_key {v : V} {s : LS} (h : Dp K H v (lsD s)) : KeyV K H v (lsK s) := by
  obtain ⟨a, b, rfl, h1, h2⟩ := ls_at h
  refine ⟨⟨a, rfl⟩, by rw [lsK_data]; exact h, ?_⟩
  have := lsK_depth s
  omega
end
theorem intsD_noL (l : List Int) : NoL (intsD l) := .tuple _ fun d hd => by
  obtain ⟨i, _, rfl⟩ := List.mem_map.mp hd
  exact .int _
theorem lsD_noL (s : LS) : NoL (lsD s) := .tuple _ fun d hd => by
  rcases List.mem_cons.mp hd with rfl | hd
  · exact .int _
  rcases List.mem_cons.mp hd with rfl | hd
  · exact intsD_noL _
  rcases List.mem_cons.mp hd with rfl | hd
  · exact .int _
  · cases hd
/-! ### what stands stays small -/
structure LSok (l : Line) (s : LS) : Prop where
  ph : s.ph < l.each
  run : s.run ≤ l.lost
  ge : ∀ a ∈ s.ages, 1 ≤ a
  le : ∀ a ∈ s.ages, a ≤ l.late
  desc : s.ages.Pairwise (· > ·)
theorem desc_len : ∀ {l : List Nat} {n : Nat}, l.Pairwise (· > ·) → (∀ a ∈ l, 1 ≤ a) → (∀ a ∈ l, a ≤ n) → l.length ≤ n
  | [], n, _, _, _ => Nat.zero_le _
  | a :: l, n, h, h1, h2 => by
    have h3 := List.pairwise_cons.mp h
    have h4 := h1 a List.mem_cons_self
    have h5 := h2 a List.mem_cons_self
    have := desc_len (l := l) (n := a - 1) h3.2 (fun b hb => h1 b (List.mem_cons_of_mem _ hb)) (fun b hb => by
      have := h3.1 b hb
      omega)
    rw [List.length_cons]
    omega
theorem LSok.len {l : Line} {s : LS} (h : LSok l s) : s.ages.length ≤ l.late := desc_len h.desc h.ge h.le
theorem first_ok {l : Line} (he : 1 ≤ l.each) : LSok l LS.first := ⟨by show 0 < l.each; omega, Nat.zero_le _, fun a ha => (nomatch ha), fun a ha => (nomatch ha), .nil⟩
theorem begunL_mem {l : Line} {s : LS} {ages : List Nat} {run : Nat} (h : (ages, run) ∈ begunL l s) (ok : LSok l s) : run ≤ l.lost ∧ ages.Pairwise (· > ·) ∧ (∀ a ∈ ages, a ≤ l.late) ∧ ages.length ≤ l.late + 1 := by
  have hl := ok.len
  unfold begunL at h
  split at h
  · rcases List.mem_cons.mp h with e | h
    · injection e with e1 e2
      subst e1 e2
      exact ⟨ok.run, ok.desc, ok.le, by omega⟩
    · cases h
  · rcases List.mem_cons.mp h with e | h
    · injection e with e1 e2
      subst e1 e2
      refine ⟨Nat.zero_le _, ?_, fun a ha => ?_, by rw [List.length_append, List.length_singleton]; omega⟩
      · rw [List.pairwise_append]
        refine ⟨ok.desc, List.pairwise_singleton _ _, fun a ha b hb => ?_⟩
        have := ok.ge a ha
        rcases List.mem_cons.mp hb with rfl | hb
        · exact this
        · cases hb
      · rcases List.mem_append.mp ha with ha | ha
        · exact ok.le a ha
        · rcases List.mem_cons.mp ha with rfl | ha
          · exact Nat.zero_le _
          · cases ha
    · split at h
      · rename_i hr
        rcases List.mem_cons.mp h with e | h
        · injection e with e1 e2
          subst e1 e2
          exact ⟨hr, ok.desc, ok.le, by omega⟩
        · cases h
      · cases h
theorem moves_ok {l : Line} {s s' : LS} {c : Nat} (he : 1 ≤ l.each) (ok : LSok l s) (h : (c, s') ∈ movesL l s) : LSok l s' ∧ c ≤ l.late + 1 := by
  obtain ⟨ages, run, hb, h1, h2, rfl⟩ := movesL_mem.mp h
  obtain ⟨b1, b2, b3, b4⟩ := begunL_mem hb ok
  refine ⟨⟨Nat.mod_lt _ (by omega), b1, fun a ha => ?_, fun a ha => ?_, ?_⟩, by omega⟩
  · obtain ⟨b, _, rfl⟩ := List.mem_map.mp ha
    exact Nat.succ_le_succ (Nat.zero_le _)
  · obtain ⟨b, hb', rfl⟩ := List.mem_map.mp ha
    exact h2 b hb'
  · refine List.Pairwise.map _ (fun a b h => ?_) (b2.sublist (List.drop_sublist _ _))
    exact Nat.succ_lt_succ h
/-- a code of a list of small numbers -/
def codeL (b : Nat) : List Nat → Nat
  | [] => 0
  | a :: l => (a + 1) + b * codeL b l
theorem codeL_lt {b : Nat} (hb : 1 ≤ b) : ∀ (l : List Nat) (n : Nat), l.length ≤ n → (∀ a ∈ l, a + 1 < b) → codeL b l < b ^ n
  | [], n, _, _ => Nat.pow_pos (by omega)
  | a :: l, 0, h, _ => by simp at h
  | a :: l, n + 1, h, ha => by
    have h1 := codeL_lt hb l n (by simpa using h) (fun x hx => ha x (List.mem_cons_of_mem _ hx))
    have h2 := ha a List.mem_cons_self
    show (a + 1) + b * codeL b l < b ^ (n + 1)
    rw [Nat.pow_succ, Nat.mul_comm (b ^ n) b]
    have h3 : b * (codeL b l + 1) ≤ b * b ^ n := Nat.mul_le_mul_left b h1
    rw [Nat.mul_add, Nat.mul_one] at h3
    omega
theorem codeL_inj {b : Nat} : ∀ {l m : List Nat}, (∀ a ∈ l, a + 1 < b) → (∀ a ∈ m, a + 1 < b) → codeL b l = codeL b m → l = m
  | [], [], _, _, _ => rfl
  | [], a :: m, _, _, h => by
    have h' : 0 = (a + 1) + b * codeL b m := h
    omega
  | a :: l, [], _, _, h => by
    have h' : (a + 1) + b * codeL b l = 0 := h
    omega
  | x :: l, y :: m, h1, h2, h => by
    have h' : (x + 1) + b * codeL b l = (y + 1) + b * codeL b m := h
    have hx := h1 x List.mem_cons_self
    have hy := h2 y List.mem_cons_self
    have e1 : x + 1 = y + 1 := by
      have := congrArg (· % b) h'
      simp only [Nat.add_mul_mod_self_left] at this
      rw [Nat.mod_eq_of_lt hx, Nat.mod_eq_of_lt hy] at this
      exact this
    have e2 : b * codeL b l = b * codeL b m := by omega
    have e3 := Nat.eq_of_mul_eq_mul_left (show 0 < b by omega) e2
    rw [codeL_inj (fun a ha => h1 a (List.mem_cons_of_mem _ ha)) (fun a ha => h2 a (List.mem_cons_of_mem _ ha)) e3]
    congr 1
    omega
theorem nodup_lt : ∀ (B : Nat) (l : List Nat), l.Nodup → (∀ a ∈ l, a < B) → l.length ≤ B
  | 0, l, _, h => by
    cases l with
    | nil => exact Nat.le_refl _
    | cons a l => exact absurd (h a List.mem_cons_self) (Nat.not_lt_zero _)
  | B + 1, l, hn, h => by
    have h1 := nodup_lt B (l.filter fun a => decide (a ≠ B)) (hn.sublist List.filter_sublist) (fun a ha => by
      have h2 := List.mem_filter.mp ha
      have h3 := h a h2.1
      have h4 : a ≠ B := of_decide_eq_true h2.2
      omega)
    have h5 : l.length ≤ (l.filter fun a => decide (a ≠ B)).length + 1 := by
      clear h1 h
      induction l with
      | nil => exact Nat.zero_le _
      | cons a l ih =>
        have hn' := List.nodup_cons.mp hn
        by_cases e : a = B
        · have e1 : (a :: l).filter (fun a => decide (a ≠ B)) = l := by
            rw [List.filter_cons, if_neg (by simp [e])]
            refine List.filter_eq_self.mpr fun x hx => ?_
            exact decide_eq_true (fun z => hn'.1 (by rw [e, ← z]; exact hx))
          rw [e1, List.length_cons]
          exact Nat.le_refl _
        · have := ih hn'.2
          rw [List.filter_cons, if_pos (by simp [e]), List.length_cons, List.length_cons]
          omega
    omega
theorem nodup_code {α : Type} {B : Nat} {l : List α} (f : α → Nat) (hn : l.Nodup) (h : ∀ a ∈ l, f a < B) (hi : ∀ a ∈ l, ∀ b ∈ l, f a = f b → a = b) : l.length ≤ B := by
  have h1 : (l.map f).Nodup := by
    induction l with
    | nil => exact .nil
    | cons a l ih =>
      have hn' := List.nodup_cons.mp hn
      rw [List.map_cons]
      refine List.nodup_cons.mpr ⟨fun hm => ?_, ih hn'.2 (fun b hb => h b (List.mem_cons_of_mem _ hb)) (fun b hb c hc => hi b (List.mem_cons_of_mem _ hb) c (List.mem_cons_of_mem _ hc))⟩
      obtain ⟨b, hb, e⟩ := List.mem_map.mp hm
      have := hi b (List.mem_cons_of_mem _ hb) a List.mem_cons_self e
      subst this
      exact hn'.1 hb
  have := nodup_lt B (l.map f) h1 (fun x hx => by
    obtain ⟨a, ha, rfl⟩ := List.mem_map.mp hx
    exact h a ha)
  rw [List.length_map] at this
  exact this
def lsCode (s : LS) : Nat := (s.ph * 125 + codeL 5 s.ages) * 3 + s.run
theorem lsCode_lt {l : Line} (lo : l.ok) {s : LS} (h : LSok l s) : lsCode s < 1500 := by
  have h1 := codeL_lt (b := 5) (by omega) s.ages 3 (by have := h.len; have := lo.l3; omega) (fun a ha => by have := h.le a ha; have := lo.l3; omega)
  have h2 := h.ph
  have h3 := lo.e4
  have h4 := h.run
  have h5 := lo.s2
  unfold lsCode
  have h6 : codeL 5 s.ages < 125 := h1
  omega
theorem lsCode_inj {l : Line} (lo : l.ok) {s t : LS} (hs : LSok l s) (ht : LSok l t) (e : lsCode s = lsCode t) : s = t := by
  have a1 := codeL_lt (b := 5) (by omega) s.ages 3 (by have := hs.len; have := lo.l3; omega) (fun a ha => by have := hs.le a ha; have := lo.l3; omega)
  have a2 := codeL_lt (b := 5) (by omega) t.ages 3 (by have := ht.len; have := lo.l3; omega) (fun a ha => by have := ht.le a ha; have := lo.l3; omega)
  have a1' : codeL 5 s.ages < 125 := a1
  have a2' : codeL 5 t.ages < 125 := a2
  have r1 := hs.run
  have r2 := ht.run
  have r3 := lo.s2
  unfold lsCode at e
  have e1 : s.run = t.run := by omega
  have e2 : s.ph = t.ph := by omega
  have e3 : codeL 5 s.ages = codeL 5 t.ages := by omega
  have e4 := codeL_inj (fun a ha => by have := hs.le a ha; have := lo.l3; omega) (fun a ha => by have := ht.le a ha; have := lo.l3; omega) e3
  cases s
  cases t
  simp only [LS.mk.injEq]
  exact ⟨e2, e4, e1⟩
theorem ls_few {l : Line} (lo : l.ok) {ss : List LS} (hn : ss.Nodup) (h : ∀ s ∈ ss, LSok l s) : ss.length ≤ 1500 :=
  nodup_code lsCode hn (fun s hs => lsCode_lt lo (h s hs)) (fun s hs t ht e => lsCode_inj lo (h s hs) (h t ht) e)
/-! ### going from state to state -/
def PathL (l : Line) : LS → List Int → LS → Prop
  | s, [], t => s = t
  | s, m :: w, t => ∃ c s', (c, s') ∈ movesL l s ∧ m = (c : Int) ∧ PathL l s' w t
theorem path_snoc (l : Line) (m : Int) (t : LS) : ∀ (w : List Int) (s : LS), PathL l s (w ++ [m]) t ↔ ∃ s1 c, PathL l s w s1 ∧ (c, t) ∈ movesL l s1 ∧ m = (c : Int)
  | [], s => by
    constructor
    · rintro ⟨c, s', h1, h2, h3⟩
      have h3' : s' = t := h3
      subst h3'
      exact ⟨s, c, rfl, h1, h2⟩
    · rintro ⟨s1, c, h1, h2, h3⟩
      have h1' : s = s1 := h1
      subst h1'
      exact ⟨c, t, h2, h3, rfl⟩
  | a :: w, s => by
    constructor
    · rintro ⟨c, s', h1, h2, h3⟩
      obtain ⟨s1, c', h4, h5, h6⟩ := (path_snoc l m t w s').mp h3
      exact ⟨s1, c', ⟨c, s', h1, h2, h4⟩, h5, h6⟩
    · rintro ⟨s1, c', ⟨c, s', h1, h2, h4⟩, h5, h6⟩
      exact ⟨c, s', h1, h2, (path_snoc l m t w s').mpr ⟨s1, c', h4, h5, h6⟩⟩
theorem path_ok {l : Line} (he : 1 ≤ l.each) : ∀ {w : List Int} {s t : LS}, LSok l s → PathL l s w t → LSok l t
  | [], s, t, h, p => by
    have p' : s = t := p
    subst p'
    exact h
  | m :: w, s, t, h, p => by
    obtain ⟨c, s', h1, _, h3⟩ := p
    exact path_ok he (moves_ok he h h1).1 h3
theorem accF_path (l : Line) (v : List Int) : ∀ (u : List Int) (s : LS), AccF l s u v ↔ ∃ t, PathL l s u t ∧ AccG l t.ages v
  | [], s => by
    constructor
    · intro h
      exact ⟨s, rfl, h⟩
    · rintro ⟨t, h1, h2⟩
      have h1' : s = t := h1
      subst h1'
      exact h2
  | m :: u, s => by
    constructor
    · rintro ⟨c, s', h1, h2, h3⟩
      obtain ⟨t, h4, h5⟩ := (accF_path l v u s').mp h3
      exact ⟨t, ⟨c, s', h1, h2, h4⟩, h5⟩
    · rintro ⟨t, ⟨c, s', h1, h2, h4⟩, h5⟩
      exact ⟨c, s', h1, h2, (accF_path l v u s').mpr ⟨t, h4, h5⟩⟩
theorem path_may {l : Line} (he : 1 ≤ l.each) (u : List Int) : (∃ t, PathL l LS.first u t) ↔ MayH l u [] := by
  rw [← fifo_may l he, accF_path]
  constructor
  · rintro ⟨t, h⟩
    exact ⟨t, h, trivial⟩
  · rintro ⟨t, h, _⟩
    exact ⟨t, h⟩
/-! ### a set of keys in a dict -/
section
variable {α : Type} [DecidableEq α]
def addS (ss : List α) (s : α) : List α := if s ∈ ss then ss else ss ++ [s]
theorem addS_mem {ss : List α} {s x : α} : x ∈ addS ss s ↔ x ∈ ss ∨ x = s := by
  unfold addS
  split
  · rename_i h
    constructor
    · exact .inl
    · rintro (h1 | rfl)
      · exact h1
      · exact h
  · rw [List.mem_append, List.mem_singleton]
theorem putK_set (kf : α → NK) (hi : ∀ a b, kf a = kf b → a = b) (v : V) (ss : List α) (s : α) : putK (ss.map fun a => (kf a, v)) (kf s) v = (addS ss s).map fun a => (kf a, v) := by
  unfold putK addS
  have e : ((ss.map fun a => (kf a, v)).any fun kv => decide (kv.1 = kf s)) = decide (s ∈ ss) := by
    rw [List.any_map]
    by_cases h : s ∈ ss
    · rw [decide_eq_true h]
      exact List.any_eq_true.mpr ⟨s, h, decide_eq_true rfl⟩
    · rw [decide_eq_false h]
      refine Bool.eq_false_iff.mpr fun z => ?_
      obtain ⟨x, hx, e⟩ := List.any_eq_true.mp z
      have : x = s := hi _ _ (of_decide_eq_true e)
      subst this
      exact h hx
  rw [e]
  by_cases h : s ∈ ss
  · rw [decide_eq_true h, if_pos rfl, if_pos h, List.map_map]
    refine List.map_congr_left fun a _ => ?_
    show (if kf a = kf s then (kf a, v) else (kf a, v)) = _
    split <;> rfl
  · rw [decide_eq_false h, if_neg (by decide), if_neg h, List.map_append]
    rfl
end
/-! ### what is promised of a line's defs -/
def spNeedLine (K : PySem.W.Frag) : Sp := fun vs H Q _ => ∃ (q : Addr) (l : Line), vs = [.ref q] ∧ SqT K H q l.vs ∧ l.ok ∧ Q .non H
def bgD (b : List Nat × Nat) : PyData := .tuple [intsD (nI b.1), .int b.2]
def hdD (b : Nat × List Nat) : PyData := .tuple [.int b.1, intsD (nI b.2)]
def mvD (b : Nat × LS) : PyData := .tuple [.int b.1, lsD b.2]
def spBegun (K : PySem.W.Frag) : Sp := fun vs H Q _ => ∃ (lp : Addr) (v : V) (l : Line) (s : LS), vs = [.ref lp, v] ∧ SqT K H lp l.vs ∧ l.ok ∧ Dp K H v (lsD s) ∧ LSok l s ∧
  ∀ p H' xs, Same H H' → H p = none → H' p = some (.lst xs) → DpAll K H' xs ((begunL l s).map bgD) → Q (.ref p) H'
def spHeardOf (K : PySem.W.Frag) : Sp := fun vs H Q _ => ∃ (lp b : Addr) (l : Line) (ages : List Nat), vs = [.ref lp, .ref b] ∧ SqT K H lp l.vs ∧ l.ok ∧ SqT K H b ((nI ages).map V.int) ∧ ages.length ≤ 10 ∧
  ∀ p H' xs, Same H H' → H p = none → H' p = some (.lst xs) → DpAll K H' xs ((heardL l ages).map hdD) → Q (.ref p) H'
def spMoves (K : PySem.W.Frag) : Sp := fun vs H Q _ => ∃ (lp : Addr) (v : V) (l : Line) (s : LS), vs = [.ref lp, v] ∧ SqT K H lp l.vs ∧ l.ok ∧ Dp K H v (lsD s) ∧ LSok l s ∧
  ∀ p H' xs, Same H H' → H p = none → H' p = some (.lst xs) → DpAll K H' xs ((movesL l s).map mvD) → Q (.ref p) H'
def spMay (K : PySem.W.Frag) : Sp := fun vs H Q _ => ∃ (lp hp : Addr) (l : Line) (hs : List Int), vs = [.ref lp, .ref hp] ∧ SqT K H lp l.vs ∧ l.ok ∧ SqL K H hp (hs.map V.int) ∧ HeardOk hs ∧
  ∀ (b : Bool) H', Same H H' → (b = true ↔ MayH l hs []) → Q (.bl b) H'
theorem begunL_len (l : Line) (s : LS) : (begunL l s).length ≤ 2 := by
  unfold begunL
  split
  · simp
  · split <;> simp
theorem heardL_len (l : Line) (ages : List Nat) : (heardL l ages).length ≤ ages.length + 1 := by
  unfold heardL
  exact Nat.le_trans (List.length_filterMap_le _ _) (by rw [List.length_range]; exact Nat.le_refl _)
theorem bgD_noL (b : List Nat × Nat) : NoL (bgD b) := .tuple _ fun d hd => by
  rcases List.mem_cons.mp hd with rfl | hd
  · exact intsD_noL _
  rcases List.mem_cons.mp hd with rfl | hd
  · exact .int _
  · cases hd
theorem hdD_noL (b : Nat × List Nat) : NoL (hdD b) := .tuple _ fun d hd => by
  rcases List.mem_cons.mp hd with rfl | hd
  · exact .int _
  rcases List.mem_cons.mp hd with rfl | hd
  · exact intsD_noL _
  · cases hd
theorem mvD_noL (b : Nat × LS) : NoL (mvD b) := .tuple _ fun d hd => by
  rcases List.mem_cons.mp hd with rfl | hd
  · exact .int _
  rcases List.mem_cons.mp hd with rfl | hd
  · exact lsD_noL _
  · cases hd
theorem map_noL {α : Type} {f : α → PyData} (h : ∀ a, NoL (f a)) (l : List α) : ∀ d ∈ l.map f, NoL d := fun d hd => by
  obtain ⟨a, _, rfl⟩ := List.mem_map.mp hd
  exact h a
end Bw

set_option Elab.async false
set_option linter.all false
set_option maxRecDepth 100000
set_option maxHeartbeats 4000000
namespace Bw
open PySem PySem.Spec PyProof.Rows L2
/-! ### data of a small depth -/
def Shp (n : Nat) (d : PyData) : Prop := d.canLay0 = true ∧ d.depth ≤ n
theorem shp_int (n : Nat) (i : Int) : Shp n (.int i) := ⟨by simp [PyData.canLay0], by simp [PyData.depth]⟩
theorem shp_bool (n : Nat) (i : Bool) : Shp n (.bool i) := ⟨by simp [PyData.canLay0], by simp [PyData.depth]⟩
theorem shp_none (n : Nat) : Shp n .none := ⟨by simp [PyData.canLay0], by simp [PyData.depth]⟩
theorem shp_all {n : Nat} : ∀ {ds : List PyData}, (∀ d ∈ ds, Shp n d) → PyData.canLayAll0 ds = true ∧ PyData.depthAll ds ≤ n
  | [], _ => ⟨by simp [PyData.canLayAll0], by simp [PyData.depthAll]⟩
  | d :: ds, h => by
    obtain ⟨h1, h2⟩ := shp_all (ds := ds) fun x hx => h x (List.mem_cons_of_mem _ hx)
    obtain ⟨h3, h4⟩ := h d List.mem_cons_self
    refine ⟨by rw [PyData.canLayAll0, h3, h1]; rfl, ?_⟩
    rw [PyData.depthAll]
    omega
theorem shp_list {n : Nat} {ds : List PyData} (h : ∀ d ∈ ds, Shp n d) : Shp (n + 1) (.list ds) := by
  obtain ⟨h1, h2⟩ := shp_all h
  refine ⟨by rw [PyData.canLay0]; exact h1, ?_⟩
  rw [PyData.depth]
  omega
theorem shp_tuple {n : Nat} {ds : List PyData} (h : ∀ d ∈ ds, Shp n d) : Shp (n + 1) (.tuple ds) := by
  obtain ⟨h1, h2⟩ := shp_all h
  refine ⟨by rw [PyData.canLay0]; exact h1, ?_⟩
  rw [PyData.depth]
  omega
theorem Shp.ok {n : Nat} {d : PyData} (h : Shp n d) (hn : n ≤ 64) : SeqAt.shaped d = true := by
  unfold SeqAt.shaped
  rw [h.1, decide_eq_true (Nat.le_trans h.2 hn)]
  rfl
theorem shp_ints (n : Nat) (l : List Int) : Shp (n + 1) (intsD l) := shp_tuple fun d hd => by
  obtain ⟨i, _, rfl⟩ := List.mem_map.mp hd
  exact shp_int _ _
theorem eqv_nilD (ds : List PyData) : PyData.eqv (.list ds) (.list []) = ds.isEmpty := by
  cases ds with
  | nil => rfl
  | cons a r => rfl
/-! ### beats taken away one by one -/
def subL (hs : List Int) (each : Nat) (os : List (Option Nat)) : List Int := (List.range hs.length).map fun t => hs.getD t 0 - ((cnt each os t : Nat) : Int)
theorem subL_len (hs : List Int) (each : Nat) (os : List (Option Nat)) : (subL hs each os).length = hs.length := by
  unfold subL
  rw [List.length_map, List.length_range]
theorem subL_at {hs : List Int} {each : Nat} {os : List (Option Nat)} {t : Nat} (h : t < hs.length) : (subL hs each os)[t]? = some (hs.getD t 0 - ((cnt each os t : Nat) : Int)) := by
  unfold subL
  rw [List.getElem?_map, List.getElem?_range h]
  rfl
theorem subL_getD {hs : List Int} {each : Nat} {os : List (Option Nat)} {t : Nat} (h : t < hs.length) : (subL hs each os).getD t 0 = hs.getD t 0 - ((cnt each os t : Nat) : Int) := by
  rw [List.getD_eq_getElem?_getD, subL_at h]
  rfl
theorem subL_nil (hs : List Int) (each : Nat) : subL hs each [] = hs := by
  refine List.ext_getElem? fun t => ?_
  by_cases h : t < hs.length
  · rw [subL_at h, cnt_nil, List.getD_eq_getElem?_getD, List.getElem?_eq_getElem h]
    simp
  · rw [List.getElem?_eq_none (by rw [subL_len]; omega), List.getElem?_eq_none (by omega)]
theorem subL_lose (hs : List Int) (each : Nat) (os : List (Option Nat)) : subL hs each (os ++ [none]) = subL hs each os := by
  unfold subL
  exact List.map_congr_left fun t _ => by rw [cnt_lose]
theorem subL_out {hs : List Int} {each : Nat} {os : List (Option Nat)} {d : Nat} (h : hs.length ≤ os.length * each + d) : subL hs each (os ++ [some d]) = subL hs each os := by
  unfold subL
  refine List.map_congr_left fun t ht => ?_
  have h1 := List.mem_range.mp ht
  rw [cnt_hear, if_neg (by omega), Nat.add_zero]
theorem subL_in {hs : List Int} {each : Nat} {os : List (Option Nat)} {d : Nat} (h : os.length * each + d < hs.length) : subL hs each (os ++ [some d]) = (subL hs each os).set (os.length * each + d) ((subL hs each os).getD (os.length * each + d) 0 - 1) := by
  refine List.ext_getElem? fun t => ?_
  by_cases ht : t < hs.length
  · rw [subL_at ht, cnt_hear]
    by_cases e : os.length * each + d = t
    · subst e
      rw [if_pos rfl, List.getElem?_set_self (by rw [subL_len]; exact h), subL_getD h]
      congr 1
      omega
    · rw [if_neg e, List.getElem?_set_ne e, subL_at ht]
      rfl
  · rw [List.getElem?_eq_none (by rw [subL_len]; omega), List.getElem?_eq_none (by rw [List.length_set, subL_len]; omega)]
theorem cnt_app (each : Nat) (os ext : List (Option Nat)) (t : Nat) : cnt each (os ++ ext) t = cnt each os t + cntT each (os.length * each) ext t := by
  rw [cnt_eq, cnt_eq]
  have key : ∀ (os : List (Option Nat)) (t0 : Nat), cntT each t0 (os ++ ext) t = cntT each t0 os t + cntT each (t0 + os.length * each) ext t := by
    intro os
    induction os with
    | nil => intro t0; show cntT each t0 ext t = 0 + cntT each (t0 + 0 * each) ext t; rw [Nat.zero_mul, Nat.add_zero, Nat.zero_add]
    | cons o os ih =>
      intro t0
      show hit1 t0 t o + cntT each (t0 + each) (os ++ ext) t = hit1 t0 t o + cntT each (t0 + each) os t + cntT each (t0 + (os.length + 1) * each) ext t
      have e : t0 + each + os.length * each = t0 + (os.length + 1) * each := by
        rw [Nat.succ_mul]
        omega
      rw [ih, e, Nat.add_assoc]
  rw [key os 0, Nat.zero_add]
inductive GL (l : Line) (hs : List Int) : Nat → List (Option Nat) → Prop where
  | nil : GL l hs 0 []
  | lose {r : Nat} {os : List (Option Nat)} (h : GL l hs r os) (hp : ((subL hs l.each os).take (os.length * l.each)).sum = 0) (hr : r < l.lost) : GL l hs (r + 1) (os ++ [none])
  | hear {r : Nat} {os : List (Option Nat)} (h : GL l hs r os) (hp : ((subL hs l.each os).take (os.length * l.each)).sum = 0) (d : Nat) (hd : d ≤ l.late)
      (ha : hs.length ≤ os.length * l.each + d ∨ 0 < (subL hs l.each os).getD (os.length * l.each + d) 0) : GL l hs 0 (os ++ [some d])
theorem GL.outs {l : Line} {hs : List Int} {r : Nat} {os : List (Option Nat)} (h : GL l hs r os) : Outs l r os := by
  induction h with
  | nil => exact .nil
  | lose _ _ hr ih => exact .lose ih hr
  | hear _ _ d hd _ ih => exact .hear ih d hd
theorem GL.pos {l : Line} {hs : List Int} {r : Nat} {os : List (Option Nat)} (h : GL l hs r os) (h0 : ∀ m ∈ hs, 0 ≤ m) : ∀ m ∈ subL hs l.each os, 0 ≤ m := by
  induction h with
  | nil => rw [subL_nil]; exact h0
  | lose _ _ _ ih => rw [subL_lose]; exact ih
  | @hear r os h hp d hd ha ih =>
    by_cases hn : hs.length ≤ os.length * l.each + d
    · rw [subL_out hn]
      exact ih
    · rw [subL_in (by omega)]
      intro m hm
      rcases List.mem_or_eq_of_mem_set hm with hm | rfl
      · exact ih m hm
      · rcases ha with ha | ha
        · omega
        · omega
theorem sum_zero : ∀ {l : List Int}, (∀ m ∈ l, 0 ≤ m) → l.sum = 0 → ∀ m ∈ l, m = 0
  | [], _, _, m, hm => nomatch hm
  | a :: l, h, hs, m, hm => by
    have hn : ∀ {l : List Int}, (∀ m ∈ l, 0 ≤ m) → 0 ≤ l.sum := by
      intro l
      induction l with
      | nil => intro _; exact Int.le_refl _
      | cons b l ih =>
        intro h
        have h1 := h b List.mem_cons_self
        have h2 := ih fun x hx => h x (List.mem_cons_of_mem _ hx)
        rw [List.sum_cons]
        omega
    have h1 := h a List.mem_cons_self
    have h2 := hn (l := l) fun x hx => h x (List.mem_cons_of_mem _ hx)
    rw [List.sum_cons] at hs
    rcases List.mem_cons.mp hm with rfl | hm
    · omega
    · exact sum_zero (l := l) (fun x hx => h x (List.mem_cons_of_mem _ hx)) (by omega) m hm
theorem zero_sum : ∀ {l : List Int}, (∀ m ∈ l, m = 0) → l.sum = 0
  | [], _ => rfl
  | a :: l, h => by
    rw [List.sum_cons, h a List.mem_cons_self, zero_sum fun x hx => h x (List.mem_cons_of_mem _ hx)]
    rfl
/-- all is taken away just where what is heard is what these beats bring -/
theorem GL.done {l : Line} {hs : List Int} {r : Nat} {os : List (Option Nat)} (h : GL l hs r os) (h0 : ∀ m ∈ hs, 0 ≤ m) (hz : (subL hs l.each os).sum = 0) : hs = heardOf l.each os hs.length := by
  have hp := sum_zero (h.pos h0) hz
  refine List.ext_getElem? fun t => ?_
  by_cases ht : t < hs.length
  · rw [heardOf_at ht]
    have h1 := hp _ (List.mem_of_getElem? (subL_at (each := l.each) (os := os) ht))
    rw [List.getD_eq_getElem?_getD, List.getElem?_eq_getElem ht] at h1
    rw [List.getElem?_eq_getElem ht]
    congr 1
    have h2 : hs[t] - ((cnt l.each os t : Nat) : Int) = 0 := h1
    omega
  · rw [List.getElem?_eq_none (by omega), List.getElem?_eq_none (by rw [heardOf_len]; omega)]
theorem Outs.gl {l : Line} (he : 1 ≤ l.each) {hs : List Int} {r : Nat} {os : List (Option Nat)} (h : Outs l r os) : ∀ ext, hs = heardOf l.each (os ++ ext) hs.length → GL l hs r os := by
  have prune : ∀ (os ext : List (Option Nat)), hs = heardOf l.each (os ++ ext) hs.length → ((subL hs l.each os).take (os.length * l.each)).sum = 0 := by
    intro os ext e
    refine zero_sum fun m hm => ?_
    obtain ⟨t, ht⟩ := List.mem_iff_getElem?.mp hm
    rw [List.getElem?_take] at ht
    split at ht
    · rename_i hlt
      have htl : t < hs.length := by
        have := (List.getElem?_eq_some_iff.mp ht).1
        rw [subL_len] at this
        exact this
      rw [subL_at htl] at ht
      have h1 : hs.getD t 0 = ((cnt l.each (os ++ ext) t : Nat) : Int) := by
        rw [List.getD_eq_getElem?_getD]
        conv => lhs; rw [e]
        rw [heardOf_at htl]
        rfl
      rw [h1, cnt_app, cntT_before _ _ _ hlt] at ht
      have := Option.some.inj ht
      omega
    · cases ht
  induction h with
  | nil => intro ext _; exact .nil
  | @lose r os h hr ih =>
    intro ext e
    have e' : hs = heardOf l.each (os ++ ([none] ++ ext)) hs.length := by rw [← List.append_assoc]; exact e
    exact .lose (ih _ e') (prune _ _ e') hr
  | @hear r os h d hd ih =>
    intro ext e
    have e' : hs = heardOf l.each (os ++ ([some d] ++ ext)) hs.length := by rw [← List.append_assoc]; exact e
    refine .hear (ih _ e') (prune _ _ e') d hd ?_
    by_cases hn : hs.length ≤ os.length * l.each + d
    · exact .inl hn
    · refine .inr ?_
      have htl : os.length * l.each + d < hs.length := by omega
      rw [subL_getD htl]
      have h1 : hs.getD (os.length * l.each + d) 0 = ((cnt l.each (os ++ ([some d] ++ ext)) (os.length * l.each + d) : Nat) : Int) := by
        rw [List.getD_eq_getElem?_getD]
        conv => lhs; rw [e']
        rw [heardOf_at htl]
        rfl
      rw [h1, cnt_app]
      have h2 : cntT l.each (os.length * l.each) ([some d] ++ ext) (os.length * l.each + d) = 1 + cntT l.each (os.length * l.each + l.each) ext (os.length * l.each + d) := by
        show (if os.length * l.each + d = os.length * l.each + d then 1 else 0) + cntT l.each (os.length * l.each + l.each) ext (os.length * l.each + d) = _
        rw [if_pos rfl]
      rw [h2]
      omega
theorem gl_may {l : Line} (he : 1 ≤ l.each) {hs : List Int} (h0 : ∀ m ∈ hs, 0 ≤ m) (k : Nat) : (∃ r os, GL l hs r os ∧ os.length = k ∧ (subL hs l.each os).sum = 0) ↔ ∃ r os, Outs l r os ∧ os.length = k ∧ hs = heardOf l.each os hs.length := by
  constructor
  · rintro ⟨r, os, h1, h2, h3⟩
    exact ⟨r, os, h1.outs, h2, h1.done h0 h3⟩
  · rintro ⟨r, os, h1, h2, h3⟩
    refine ⟨r, os, h1.gl he [] (by rw [List.append_nil]; exact h3), h2, zero_sum fun m hm => ?_⟩
    obtain ⟨t, ht⟩ := List.mem_iff_getElem?.mp hm
    have htl : t < hs.length := by
      have := (List.getElem?_eq_some_iff.mp ht).1
      rw [subL_len] at this
      exact this
    rw [subL_at htl] at ht
    have h4 : hs.getD t 0 = ((cnt l.each os t : Nat) : Int) := by
      rw [List.getD_eq_getElem?_getD]
      conv => lhs; rw [h3]
      rw [heardOf_at htl]
      rfl
    rw [h4] at ht
    have := Option.some.inj ht
    omega
theorem may_split {l : Line} {hs : List Int} {th : Nat} (h : th ≤ hs.length) : MayH l (hs.take th) (hs.drop th) ↔ ∃ r os, Outs l r os ∧ os.length = (min th hs.length + l.each - 1) / l.each ∧ hs = heardOf l.each os hs.length := by
  unfold MayH
  rw [List.take_append_drop, List.length_take, List.length_drop]
  have e : min th hs.length + (hs.length - th) = hs.length := by omega
  rw [e]
/-! ### what stands in between is little -/
def winC (hs : List Int) (b : Nat) (q : Nat × List Int) : Nat := q.1 + 3 * ((hs.getD b 0 - q.2.getD b 0).toNat + 5 * ((hs.getD (b + 1) 0 - q.2.getD (b + 1) 0).toNat + 5 * ((hs.getD (b + 2) 0 - q.2.getD (b + 2) 0).toNat + 5 * (hs.getD (b + 3) 0 - q.2.getD (b + 3) 0).toNat)))
/-- (r, left) behind i + 1 beats -/
def GAt (l : Line) (hs : List Int) (i : Nat) (q : Nat × List Int) : Prop := ∃ os, GL l hs q.1 os ∧ os.length = i ∧ q.2 = subL hs l.each os
theorem cnt_past {l : Line} {r : Nat} {os : List (Option Nat)} (h : Outs l r os) {t : Nat} (ht : os.length * l.each + l.late < t + l.each) (hne : os ≠ []) : cnt l.each os t = 0 := by
  clear hne
  induction h with
  | nil => rfl
  | @lose r os h hr ih =>
    rw [List.length_append, List.length_singleton, Nat.succ_mul] at ht
    rw [cnt_lose]
    exact ih (by omega)
  | @hear r os h d hd ih =>
    rw [List.length_append, List.length_singleton, Nat.succ_mul] at ht
    rw [cnt_hear, ih (by omega), if_neg (by omega)]
theorem GAt.diff {l : Line} (lo : l.ok) {hs : List Int} {i : Nat} {q : Nat × List Int} (h : GAt l hs i q) (t : Nat) : ∃ c : Nat, c ≤ 4 ∧ hs.getD t 0 - q.2.getD t 0 = (c : Int) := by
  obtain ⟨os, h1, h2, h3⟩ := h
  by_cases ht : t < hs.length
  · refine ⟨cnt l.each os t, cnt_four lo h1.outs t, ?_⟩
    rw [h3, subL_getD ht]
    omega
  · refine ⟨0, by omega, ?_⟩
    rw [h3, List.getD_eq_getElem?_getD, List.getD_eq_getElem?_getD, List.getElem?_eq_none (by omega), List.getElem?_eq_none (by rw [subL_len]; omega)]
    rfl
theorem GAt.run {l : Line} {hs : List Int} {i : Nat} {q : Nat × List Int} (h : GAt l hs i q) : q.1 ≤ l.lost := by
  obtain ⟨os, h1, h2, h3⟩ := h
  generalize q.1 = r at *
  cases h1 with
  | nil => exact Nat.zero_le _
  | lose _ _ hr => exact hr
  | hear => exact Nat.zero_le _
theorem winC_lt {l : Line} (lo : l.ok) {hs : List Int} {i b : Nat} {q : Nat × List Int} (h : GAt l hs i q) : winC hs b q < 1875 := by
  obtain ⟨c0, h0, e0⟩ := h.diff lo b
  obtain ⟨c1, h1, e1⟩ := h.diff lo (b + 1)
  obtain ⟨c2, h2, e2⟩ := h.diff lo (b + 2)
  obtain ⟨c3, h3, e3⟩ := h.diff lo (b + 3)
  have := h.run
  have := lo.s2
  unfold winC
  rw [e0, e1, e2, e3]
  omega
/-- outside the window all such are alike -/
theorem GAt.outside {l : Line} (lo : l.ok) {hs : List Int} (h0 : ∀ m ∈ hs, 0 ≤ m) {i : Nat} {q : Nat × List Int} (h : GAt l hs (i + 1) q) : (∀ t, t < i * l.each → q.2.getD t 0 = 0) ∧ ∀ t, i * l.each + 3 < t → q.2.getD t 0 = hs.getD t 0 := by
  obtain ⟨os, h1, h2, h3⟩ := h
  have hl3 := lo.l3
  constructor
  · intro t ht
    by_cases htl : t < hs.length
    · have key : ∀ (r : Nat) (os' : List (Option Nat)) (o : Option Nat), GL l hs r os' → ((subL hs l.each os').take (os'.length * l.each)).sum = 0 → os'.length = i → cnt l.each (os' ++ [o]) t = cnt l.each os' t → (subL hs l.each (os' ++ [o])).getD t 0 = 0 := by
        intro r os' o g hp hl hc
        rw [subL_getD htl, hc, ← subL_getD (each := l.each) (os := os') htl]
        have hz := sum_zero (l := (subL hs l.each os').take (os'.length * l.each)) (fun m hm => g.pos h0 m (List.mem_of_mem_take hm)) hp
        refine hz _ ?_
        rw [List.getD_eq_getElem?_getD, subL_at htl]
        refine List.mem_iff_getElem?.mpr ⟨t, ?_⟩
        rw [List.getElem?_take, if_pos (by rw [hl]; exact ht), subL_at htl]
        rfl
      rw [h3]
      generalize q.1 = r at *
      cases h1 with
      | nil => simp at h2
      | @lose r os' g hp hr =>
        rw [List.length_append, List.length_singleton] at h2
        exact key r os' none g hp (by omega) (cnt_lose _ _ _)
      | @hear r os' g hp d hd ha =>
        rw [List.length_append, List.length_singleton] at h2
        refine key r os' (some d) g hp (by omega) ?_
        rw [cnt_hear, if_neg (by have e : os'.length = i := by omega
                                 rw [e]; omega), Nat.add_zero]
    · rw [h3, List.getD_eq_getElem?_getD, List.getElem?_eq_none (by rw [subL_len]; omega)]
      rfl
  · intro t ht
    by_cases htl : t < hs.length
    · rw [h3, subL_getD htl, cnt_past h1.outs (by rw [h2, Nat.succ_mul]; omega) (by intro z; rw [z] at h2; simp at h2)]
      simp
    · rw [h3, List.getD_eq_getElem?_getD, List.getD_eq_getElem?_getD, List.getElem?_eq_none (by rw [subL_len]; omega), List.getElem?_eq_none (by omega)]
theorem winC_inj {l : Line} (lo : l.ok) {hs : List Int} (h0 : ∀ m ∈ hs, 0 ≤ m) {i : Nat} {q q' : Nat × List Int} (h : GAt l hs (i + 1) q) (h' : GAt l hs (i + 1) q') (e : winC hs (i * l.each) q = winC hs (i * l.each) q') : q = q' := by
  obtain ⟨o1, o2⟩ := h.outside lo h0
  obtain ⟨p1, p2⟩ := h'.outside lo h0
  obtain ⟨c0, a0, e0⟩ := h.diff lo (i * l.each)
  obtain ⟨c1, a1, e1⟩ := h.diff lo (i * l.each + 1)
  obtain ⟨c2, a2, e2⟩ := h.diff lo (i * l.each + 2)
  obtain ⟨c3, a3, e3⟩ := h.diff lo (i * l.each + 3)
  obtain ⟨d0, b0, f0⟩ := h'.diff lo (i * l.each)
  obtain ⟨d1, b1, f1⟩ := h'.diff lo (i * l.each + 1)
  obtain ⟨d2, b2, f2⟩ := h'.diff lo (i * l.each + 2)
  obtain ⟨d3, b3, f3⟩ := h'.diff lo (i * l.each + 3)
  have r1 := h.run
  have r2 := h'.run
  have r3 := lo.s2
  unfold winC at e
  rw [e0, e1, e2, e3, f0, f1, f2, f3] at e
  have er : q.1 = q'.1 := by omega
  have eg : ∀ t, q.2.getD t 0 = q'.2.getD t 0 := by
    intro t
    by_cases t1 : t < i * l.each
    · rw [o1 t t1, p1 t t1]
    · by_cases t2 : i * l.each + 3 < t
      · rw [o2 t t2, p2 t t2]
      · have t3 : t = i * l.each ∨ t = i * l.each + 1 ∨ t = i * l.each + 2 ∨ t = i * l.each + 3 := by omega
        rcases t3 with rfl | rfl | rfl | rfl <;> omega
  have el : q.2.length = q'.2.length := by
    obtain ⟨os, _, _, h3⟩ := h
    obtain ⟨os', _, _, h3'⟩ := h'
    rw [h3, h3', subL_len, subL_len]
  refine Prod.ext er (List.ext_getElem? fun t => ?_)
  by_cases ht : t < q.2.length
  · have := eg t
    rw [List.getD_eq_getElem?_getD, List.getD_eq_getElem?_getD, List.getElem?_eq_getElem ht, List.getElem?_eq_getElem (by omega)] at this
    rw [List.getElem?_eq_getElem ht, List.getElem?_eq_getElem (by omega)]
    exact congrArg some this
  · rw [List.getElem?_eq_none (by omega), List.getElem?_eq_none (by omega)]
theorem gl_few {l : Line} (lo : l.ok) {hs : List Int} (h0 : ∀ m ∈ hs, 0 ≤ m) {i : Nat} {ps : List (Nat × List Int)} (hn : ps.Nodup) (h : ∀ q ∈ ps, GAt l hs (i + 1) q) : ps.length ≤ 1875 :=
  nodup_code (winC hs (i * l.each)) hn (fun q hq => winC_lt lo (h q hq)) (fun q hq q' hq' e => winC_inj lo h0 (h q hq) (h q' hq') e)
/-- what one of them brings with the next beat -/
def extL (l : Line) (hs : List Int) (i : Nat) (q : Nat × List Int) : List (Nat × List Int) :=
  if (q.2.take (i * l.each)).sum = 0 then (if q.1 < l.lost then [(q.1 + 1, q.2)] else []) ++ (List.range (l.late + 1)).filterMap fun d =>
    if hs.length ≤ i * l.each + d then some (0, q.2) else if 0 < q.2.getD (i * l.each + d) 0 then some (0, q.2.set (i * l.each + d) (q.2.getD (i * l.each + d) 0 - 1)) else none
  else []
theorem ext_at {l : Line} {hs : List Int} {i : Nat} (x : Nat × List Int) : GAt l hs (i + 1) x ↔ ∃ q, GAt l hs i q ∧ x ∈ extL l hs i q := by
  constructor
  · rintro ⟨os, h1, h2, h3⟩
    obtain ⟨r, lf⟩ := x
    have h1' : GL l hs r os := h1
    have h3' : lf = subL hs l.each os := h3
    subst h3'
    clear h1 h3
    cases h1' with
    | nil => simp at h2
    | @lose r os' g hp hr =>
      rw [List.length_append, List.length_singleton] at h2
      have hi : os'.length = i := by omega
      subst hi
      refine ⟨(r, subL hs l.each os'), ⟨os', g, rfl, rfl⟩, ?_⟩
      unfold extL
      rw [if_pos hp]
      refine List.mem_append_left _ ?_
      show _ ∈ if r < l.lost then _ else _
      rw [if_pos hr, subL_lose]
      exact List.mem_cons_self
    | @hear r os' g hp d hd ha =>
      rw [List.length_append, List.length_singleton] at h2
      have hi : os'.length = i := by omega
      subst hi
      refine ⟨(r, subL hs l.each os'), ⟨os', g, rfl, rfl⟩, ?_⟩
      unfold extL
      rw [if_pos hp]
      refine List.mem_append_right _ (List.mem_filterMap.mpr ⟨d, List.mem_range.mpr (by omega), ?_⟩)
      by_cases hn : hs.length ≤ os'.length * l.each + d
      · rw [if_pos hn, subL_out hn]
      · rw [if_neg hn, if_pos (ha.resolve_left hn), subL_in (by omega)]
  · rintro ⟨⟨r, lf⟩, ⟨os, h1, h2, h3⟩, hx⟩
    have h1' : GL l hs r os := h1
    have h3' : lf = subL hs l.each os := h3
    subst h3' h2
    clear h1 h3
    unfold extL at hx
    split at hx
    · rename_i hp
      rcases List.mem_append.mp hx with hx | hx
      · split at hx
        · rename_i hr
          rcases List.mem_cons.mp hx with rfl | hx
          · exact ⟨os ++ [none], .lose h1' hp hr, by rw [List.length_append]; rfl, by rw [subL_lose]⟩
          · cases hx
        · cases hx
      · obtain ⟨d, hd, h⟩ := List.mem_filterMap.mp hx
        have hd' := List.mem_range.mp hd
        split at h
        · rename_i hn
          cases h
          exact ⟨os ++ [some d], .hear h1' hp d (by omega) (.inl hn), by rw [List.length_append]; rfl, by rw [subL_out hn]⟩
        · rename_i hn
          split at h
          · rename_i hg
            cases h
            exact ⟨os ++ [some d], .hear h1' hp d (by omega) (.inr hg), by rw [List.length_append]; rfl, by rw [subL_in (by omega)]⟩
          · cases h
    · cases hx
/-! ### such a pair as a key -/
def prK (q : Nat × List Int) : NK := .tup [.num q.1, intsK q.2]
def prD (q : Nat × List Int) : PyData := .tuple [.int q.1, intsD q.2]
theorem prK_data (q : Nat × List Int) : (prK q).data = prD q := by
  show PyData.tuple [.int q.1, (intsK q.2).data] = _
  rw [intsK_data]
  rfl
theorem prK_depth (q : Nat × List Int) : (prK q).depth ≤ 2 := by
  show max 0 (max (intsK q.2).depth 0) + 1 ≤ 2
  have := intsK_depth q.2
  omega
theorem prK_inj {s t : Nat × List Int} (h : prK s = prK t) : s = t := by
  injection h with h
  injection h with h1 h2
  injection h2 with h2 _
  injection h1 with h1
  exact Prod.ext (by omega) (intsK_inj h2)
section
variable {K : PySem.W.Frag} {H : Hp}
theorem pr_at {v : V} {q : Nat × List Int} (h : Dp K H v (prD q)) : ∃ a b, v = .ref a ∧ SqT K H a [.int q.1, .ref b] ∧ SqT K H b (q.2.map V.int) := by
  obtain ⟨a, xs, rfl, h1, h2⟩ := dp_tup h
  obtain ⟨x, y, rfl, h3, h4⟩ := dpAll_two h2
  obtain ⟨b, rfl, h6⟩ := dp_intsD h4
  cases dp_int h3
  exact ⟨a, b, rfl, h1, h6⟩
theorem pr_mk {a b : Addr} {q : Nat × List Int} (h1 : SqT K H a [.int q.1, .ref b]) (h2 : SqT K H b (q.2.map V.int)) : Dp K H (.ref a) (prD q) := .tup h1 (.cons (.int _) (.cons (ints_dp h2) .nil))
theorem pr_key {v : V} {q : Nat × List Int} (h : Dp K H v (prD q)) : KeyV K H v (prK q) := by
  obtain ⟨a, b, rfl, h1, h2⟩ := pr_at h
  refine ⟨⟨a, rfl⟩, by rw [prK_data]; exact h, ?_⟩
  have := prK_depth q
  omega
end
theorem prD_noL (q : Nat × List Int) : NoL (prD q) := .tuple _ fun d hd => by
  rcases List.mem_cons.mp hd with rfl | hd
  · exact .int _
  rcases List.mem_cons.mp hd with rfl | hd
  · exact intsD_noL _
  · cases hd
theorem prD_shp (q : Nat × List Int) : Shp 2 (prD q) := shp_tuple fun d hd => by
  rcases List.mem_cons.mp hd with rfl | hd
  · exact shp_int _ _
  rcases List.mem_cons.mp hd with rfl | hd
  · exact shp_ints 0 _
  · cases hd
def spLMay (K : PySem.W.Frag) : Sp := fun vs H Q _ => ∃ (lp hp : Addr) (l : Line) (hs : List Int) (th : Nat), vs = [.ref lp, .ref hp, .int th] ∧ SqT K H lp l.vs ∧ l.ok ∧ SqL K H hp (hs.map V.int) ∧ hs.length ≤ 100000 ∧ (∀ m ∈ hs, 0 ≤ m) ∧ th ≤ hs.length ∧
  ∀ (b : Bool) H', Same H H' → (b = true ↔ MayH l (hs.take th) (hs.drop th)) → Q (.bl b) H'
theorem rgc_up2 {n c : Nat} (hn : n ≤ 100000) (hc : 1 ≤ c ∧ c ≤ 4) : RgC 0 (n : Int) (c : Int) ((n + c - 1) / c) := by
  have e := rgs_up (n := n) hc
  have hb : (n + c - 1) / c ≤ 100003 := Nat.le_trans (Nat.div_le_self _ _) (by omega)
  refine ⟨by omega, by omega, ?_, e⟩
  unfold Builtin.Range.small
  rw [e]
  generalize (n + c - 1) / c = m at *
  simp only [Builtin.Range.rangeFitsLong, Bool.and_eq_true, Bool.or_eq_true, decide_eq_true_eq, beq_iff_eq]
  have hc0 : (c : Int) > 0 := by omega
  simp only [hc0, if_true, Bool.and_eq_true, decide_eq_true_eq]
  omega
theorem set_cut {lf : List Int} {t : Nat} (h : t < lf.length) (x : Int) : (lf.take t).map V.int ++ [V.int x] ++ (lf.drop (t + 1)).map V.int = (lf.set t x).map V.int := by
  rw [List.set_eq_take_append_cons_drop, if_pos h, List.map_append, List.map_cons, List.append_assoc]
  rfl
def spOther (K : PySem.W.Frag) : Sp := fun vs H Q _ => ∃ (d hp : Addr) (hs : List Int) (b : Int), vs = [.ref d, .ref hp] ∧ DiceAt H d ∧ H hp = some (.lst (hs.map V.int)) ∧ hp ≠ d ∧ hs.length ≤ 300 ∧ (∀ m ∈ hs, 0 ≤ m ∧ m ≤ b) ∧
  ∀ (ms : List Int) (p : Addr) (H' : Hp), ms.length = hs.length → (∀ m ∈ ms, 0 ≤ m ∧ m ≤ b + 1) → Dr d H H' → H p = none → H' p = some (.lst (ms.map V.int)) → Q (.ref p) H'
theorem atI_ints {hs : List Int} {n : Nat} (h : n < hs.length) : atI (hs.map V.int) (n : Int) = some (.int (hs.getD n 0)) := atI_nat (by
  rw [List.getElem?_map, List.getD_eq_getElem?_getD, List.getElem?_eq_getElem h]
  rfl)
theorem getD_mem {hs : List Int} {n : Nat} (h : n < hs.length) : hs.getD n 0 ∈ hs := by
  rw [List.getD_eq_getElem?_getD, List.getElem?_eq_getElem h]
  exact List.getElem_mem h
theorem run_may {l : Line} {r : Nat} {os : List (Option Nat)} {n : Nat} (h : Outs l r os) (hl : os.length = (n + l.each - 1) / l.each) : MayH l (heardOf l.each os n) [] := by
  refine ⟨r, os, h, by rw [heardOf_len]; exact hl, ?_⟩
  rw [List.append_nil, heardOf_len]
  rfl
theorem may_four {l : Line} (lo : l.ok) {u v : List Int} (h : MayH l u v) : ∀ m ∈ u ++ v, 0 ≤ m ∧ m ≤ 4 := by
  obtain ⟨r, os, h1, h2, h3⟩ := h
  rw [h3]
  exact fun m hm => heardOf_mem lo h1 hm
theorem sIx_some (n d : Nat) (v : Int) : HT.sIx n d (some v) = if v < 0 then (v + (n : Int)).toNat else min v.toNat n := rfl
theorem cut_init (ini : List Int) (lst : Int) : cutV ((ini ++ [lst]).map V.int) none (some (-1)) = ini.map V.int := by
  unfold cutV
  have e0 : HT.sIx ((ini ++ [lst]).map V.int).length ((ini ++ [lst]).map V.int).length (some (-1)) = ini.length := by
    rw [sIx_some, if_pos (by omega), List.length_map, List.length_append, List.length_singleton]
    omega
  rw [e0, HT.sIx_none, List.drop_zero, Nat.sub_zero, List.map_append, List.take_append_of_le_length (by rw [List.length_map]; omega), List.take_of_length_le (by rw [List.length_map]; omega)]
end Bw

set_option Elab.async false
set_option linter.all false
set_option maxRecDepth 100000
set_option maxHeartbeats 4000000
namespace Bw
open PySem PySem.Spec PyProof.Rows L2
def top (i : Nat) : Stmt := PySem.Challenge.pw_beatwatch_k05_whole_what_may_be_heard.main.body.getD i (.Pass ⟨0, 0, 0, 0⟩)
abbrev s_BadLine___init__ : Stmt := inClass (top 2) 0
abbrev n_BadLine___init__ : List Str := ["self", "why"]
abbrev p_BadLine___init__ : List Str := ["self", "why"]
theorem sc_BadLine___init__ : FnScope n_BadLine___init__ ["self", "why"] (defScope s_BadLine___init__) := ⟨rfl, rfl, rfl, by decide +kernel, rfl, by decide +kernel, by decide +kernel⟩
abbrev s_BadHeard___init__ : Stmt := inClass (top 3) 0
abbrev n_BadHeard___init__ : List Str := ["self", "at"]
abbrev p_BadHeard___init__ : List Str := ["self", "at"]
theorem sc_BadHeard___init__ : FnScope n_BadHeard___init__ ["self", "at"] (defScope s_BadHeard___init__) := ⟨rfl, rfl, rfl, by decide +kernel, rfl, by decide +kernel, by decide +kernel⟩
abbrev s_need_line : Stmt := top 10
abbrev n_need_line : List Str := ["line", "each", "late", "lost"]
abbrev p_need_line : List Str := ["line"]
theorem sc_need_line : FnScope n_need_line ["line"] (defScope s_need_line) := ⟨rfl, rfl, rfl, by decide +kernel, rfl, by decide +kernel, by decide +kernel⟩
abbrev s_need_heard : Stmt := top 11
abbrev n_need_heard : List Str := ["heard", "at", "many"]
abbrev p_need_heard : List Str := ["heard"]
theorem sc_need_heard : FnScope n_need_heard ["heard"] (defScope s_need_heard) := ⟨rfl, rfl, rfl, by decide +kernel, rfl, by decide +kernel, by decide +kernel⟩
abbrev s_begun : Stmt := top 14
abbrev n_begun : List Str := ["line", "state", "phase", "ages", "run", "found"]
abbrev p_begun : List Str := ["line", "state"]
theorem sc_begun : FnScope n_begun ["line", "state"] (defScope s_begun) := ⟨rfl, rfl, rfl, by decide +kernel, rfl, by decide +kernel, by decide +kernel⟩
abbrev s_heard_of : Stmt := top 15
abbrev n_heard_of : List Str := ["line", "ages", "found", "many", "age"]
abbrev p_heard_of : List Str := ["line", "ages"]
theorem sc_heard_of : FnScope n_heard_of ["line", "ages"] (defScope s_heard_of) := ⟨rfl, rfl, rfl, by decide +kernel, rfl, by decide +kernel, by decide +kernel⟩
abbrev s_moves : Stmt := top 16
abbrev n_moves : List Str := ["line", "state", "found", "ages", "run", "many", "left"]
abbrev p_moves : List Str := ["line", "state"]
theorem sc_moves : FnScope n_moves ["line", "state"] (defScope s_moves) := ⟨rfl, rfl, rfl, by decide +kernel, rfl, by decide +kernel, by decide +kernel⟩
abbrev s_may : Stmt := top 17
abbrev n_may : List Str := ["line", "heard", "level", "many", "behind", "state", "count", "other"]
abbrev p_may : List Str := ["line", "heard"]
theorem sc_may : FnScope n_may ["line", "heard"] (defScope s_may) := ⟨rfl, rfl, rfl, by decide +kernel, rfl, by decide +kernel, by decide +kernel⟩
abbrev s__law_dice : Stmt := top 19
abbrev n__law_dice : List Str := ["_law_script", "_law_k", "_law_found", "_law_cell"]
abbrev p__law_dice : List Str := ["_law_script", "_law_k"]
theorem sc__law_dice : FnScope n__law_dice ["_law_script", "_law_k"] (defScope s__law_dice) := ⟨rfl, rfl, rfl, by decide +kernel, rfl, by decide +kernel, by decide +kernel⟩
abbrev s__law_off : Stmt := top 20
abbrev n__law_off : List Str := ["_law_d", "_law_most", "_law_found"]
abbrev p__law_off : List Str := ["_law_d", "_law_most"]
theorem sc__law_off : FnScope n__law_off ["_law_d", "_law_most"] (defScope s__law_off) := ⟨rfl, rfl, rfl, by decide +kernel, rfl, by decide +kernel, by decide +kernel⟩
abbrev s__law_alike : Stmt := top 21
abbrev n__law_alike : List Str := ["_law_found", "_law_due", "_law_k"]
abbrev p__law_alike : List Str := ["_law_found", "_law_due"]
theorem sc__law_alike : FnScope n__law_alike ["_law_found", "_law_due"] (defScope s__law_alike) := ⟨rfl, rfl, rfl, by decide +kernel, rfl, by decide +kernel, by decide +kernel⟩
abbrev s__law_line : Stmt := top 22
abbrev n__law_line : List Str := ["_law_d", "_law_each", "_law_late"]
abbrev p__law_line : List Str := ["_law_d"]
theorem sc__law_line : FnScope n__law_line ["_law_d"] (defScope s__law_line) := ⟨rfl, rfl, rfl, by decide +kernel, rfl, by decide +kernel, by decide +kernel⟩
abbrev s__law_run : Stmt := top 23
abbrev n__law_run : List Str := ["_law_d", "_law_line_here", "_law_there", "_law_more", "_law_heard", "_law_often", "_law_run_here", "_law_sent", "_law_at"]
abbrev p__law_run : List Str := ["_law_d", "_law_line_here", "_law_there", "_law_more"]
theorem sc__law_run : FnScope n__law_run ["_law_d", "_law_line_here", "_law_there", "_law_more"] (defScope s__law_run) := ⟨rfl, rfl, rfl, by decide +kernel, rfl, by decide +kernel, by decide +kernel⟩
abbrev s__law_may : Stmt := top 24
abbrev n__law_may : List Str := ["_law_line_here", "_law_heard", "_law_there", "_law_level", "_law_sent", "_law_behind", "_law_run_here", "_law_left", "_law_at", "_law_pair"]
abbrev p__law_may : List Str := ["_law_line_here", "_law_heard", "_law_there"]
theorem sc__law_may : FnScope n__law_may ["_law_line_here", "_law_heard", "_law_there"] (defScope s__law_may) := ⟨rfl, rfl, rfl, by decide +kernel, rfl, by decide +kernel, by decide +kernel⟩
abbrev s__law_other : Stmt := top 25
abbrev n__law_other : List Str := ["_law_d", "_law_heard", "_law_found", "_law_at", "_law_kind"]
abbrev p__law_other : List Str := ["_law_d", "_law_heard"]
theorem sc__law_other : FnScope n__law_other ["_law_d", "_law_heard"] (defScope s__law_other) := ⟨rfl, rfl, rfl, by decide +kernel, rfl, by decide +kernel, by decide +kernel⟩
abbrev s_law : Stmt := top 26
abbrev n_law : List Str := ["_law_script", "_law_d", "_law_line_here", "_law_turn", "_law_many", "_law_heard", "_law_change", "_law_k", "_law_handed"]
abbrev p_law : List Str := ["_law_script"]
theorem sc_law : FnScope n_law ["_law_script"] (defScope s_law) := ⟨rfl, rfl, rfl, by decide +kernel, rfl, by decide +kernel, by decide +kernel⟩
end Bw

set_option Elab.async false
set_option linter.all false
set_option maxRecDepth 100000
set_option maxHeartbeats 4000000
namespace Bw
open PySem PySem.Spec PyProof.Rows L2
section
variable {P : Program} {w : World} {K : PySem.W.Frag} {mg : Str → Option Value} {base : Heap} {f : Addr} {fd : FuncData}
theorem ok__law_off (F : FnP K "_law_off" s__law_off f fd) (g_len : mg "len" = none) : FnOk P w K mg base CX0 1 f fd p__law_off spOff := by
  refine F.ok sc__law_off (fun vs H Q E h => ?_) (fun cdv A outer s H vs Q E hr h => ?_)
  · obtain ⟨d, m, rfl, _⟩ := h
    rfl
  · obtain ⟨d, m, rfl, hd, h0, h1, k⟩ := h
    refine ⟨_, PSs.nox (Evl.pss_cut (ps_if (PW.pt (pw_and (pt_cmpR op_eq (pe_ix ix_list (pv 0) pe_int (fun _ _ => rfl)) pe_int (nomark _)) (pw_and1 (pt_cmpR op_gt (pe_callB call_len_seq (by rfl) g_len (by decide +kernel) (pa_cons (pv 0) pa_nil)) pe_int (nomark _)))))
          (pss_one (ps_asg (pe_bm PySem.F.plainAttrs_list PySem.F.slot_list_pop PySem.F.type_list_pop mt_popAt (pv 0) (pa_cons pe_int pa_nil)) (pg_sub (pv 0) pe_int set_list)))
          pss_nil)
        (pss_cons (ps_if (pt_cmpR op_gt (pe_ix ix_list (pv 0) pe_int (fun _ _ => rfl)) pe_int (nomark _))
          (pss_cons (ps_set (i := 2) sc__law_off.nd rfl (Or.inl rfl) (pe_op op_mod (pe_ix ix_list (pv 0) pe_int (fun _ _ => rfl)) (pv 1)))
            (pss_cons (ps_asg (pe_op op_fdiv (pe_ix ix_list (pv 0) pe_int (fun _ _ => rfl)) (pv 1)) (pg_sub (pv 0) pe_int set_list))
            (pss_one (ps_ret (pv 2)))))
          pss_nil)
        (pss_cons (ps_asg (pe_op op_mod (pe_op op_add (pe_op op_mul (pe_ix ix_list (pv 0) pe_int (fun _ _ => rfl)) pe_int) pe_int) pe_int) (pg_sub (pv 0) pe_int set_list))
        (pss_one (ps_ret (pe_op op_mod (pe_op op_fdiv (pe_ix ix_list (pv 0) pe_int (fun _ _ => rfl)) pe_int) (pv 1))))))), ?_⟩
    refine ⟨fun σ' H' => σ' = [some (.ref d), some (.int m), none] ∧ Dr d H H', ?_, ?_⟩
    · have hD := Dr.refl hd
      obtain ⟨xs, hx, a, b, r, rfl⟩ := hd
      refine ⟨_, rfl, d, _, _, _, rfl, rfl, SqL.of hx, atI_nat (j := 1) rfl, rfl, _, rfl, ?_⟩
      refine iteD (fun hb => ?_) (fun hb => ⟨rfl, hD⟩)
      refine ⟨_, rfl, d, _, rfl, Or.inl (SqL.of hx), _, _, rfl, rfl, _, rfl, ?_⟩
      refine iteD (fun hl => ?_) (fun hl => ⟨rfl, hD⟩)
      cases r with
      | nil => exact absurd hl (by simp)
      | cons x r =>
        refine ⟨_, rfl, Or.inl ⟨rfl, _, SqL.of hx⟩, d, _, 2, 2, V.int x, rfl, rfl, hx, by decide, by decide, ?_, rfl, ?_⟩
        · exact (ixN_seq (ixN_nat (i := 2) (by simp))).1
        refine ⟨_, rfl, d, _, 1, 1, rfl, rfl, upd_same, ixN_nat (i := 1) (by simp), rfl, ?_⟩
        rw [upd_upd]
        exact Dr.set hx ⟨a, x, r, rfl⟩
    · rintro σ' H' ⟨rfl, hD⟩
      obtain ⟨xs, hx, a, b, r, rfl⟩ := hD.dice
      refine ⟨_, rfl, d, _, _, _, rfl, rfl, SqL.of hx, atI_nat (j := 1) rfl, _, _, rfl, rfl, _, rfl, ?_⟩
      refine iteD (fun hb => ?_) (fun hb => ?_)
      · refine ⟨_, rfl, d, _, _, _, rfl, rfl, SqL.of hx, atI_nat (j := 1) rfl, _, rfl, _, _, rfl, rfl, h0, ?_⟩
        refine ⟨_, rfl, d, _, _, _, rfl, rfl, SqL.of hx, atI_nat (j := 1) rfl, _, rfl, _, _, rfl, rfl, ⟨h0, h1⟩, ?_⟩
        refine ⟨_, rfl, d, _, 1, 1, rfl, rfl, hx, ixN_nat (i := 1) (by simp), ?_⟩
        refine ⟨_, rfl, k _ _ (Int.emod_nonneg _ (by omega)) (Int.emod_lt_of_pos _ h0) (hD.trans (Dr.set hx ⟨a, _, r, rfl⟩))⟩
      · refine ⟨_, rfl, d, _, _, _, rfl, rfl, SqL.of hx, atI_nat (j := 0) rfl, _, _, rfl, rfl, Or.inr ⟨by decide, by decide⟩, _, _, rfl, rfl, _, _, rfl, rfl, (by show (0 : Int) < 2147483647; decide), ?_⟩
        refine ⟨_, rfl, d, _, 0, 0, rfl, rfl, hx, ixN_nat (i := 0) (by simp), ?_⟩
        refine ⟨_, rfl, d, _, _, _, rfl, rfl, SqL.of upd_same, atI_nat (j := 0) rfl, _, _, rfl, rfl, ⟨by decide, by decide⟩, _, rfl, _, _, rfl, rfl, h0, ?_⟩
        exact k _ _ (Int.emod_nonneg _ (by omega)) (Int.emod_lt_of_pos _ h0) (hD.trans (Dr.set hx ⟨_, b, r, rfl⟩))
end
end Bw

set_option Elab.async false
set_option linter.all false
set_option maxRecDepth 100000
set_option maxHeartbeats 4000000
namespace Bw
open PySem PySem.Spec PyProof.Rows L2
section
variable {P : Program} {w : World} {K : PySem.W.Frag} {mg : Str → Option Value} {base : Heap} {f : Addr} {fd : FuncData}
theorem ok__law_dice (F : FnP K "_law_dice" s__law_dice f fd) (g_abs : mg "abs" = none) : FnOk P w K mg base CX0 1 f fd p__law_dice (spDice K) := by
  refine F.ok sc__law_dice (fun vs H Q E h => ?_) (fun cdv A outer s H vs Q E hr h => ?_)
  · obtain ⟨a, k, ns, rfl, _⟩ := h
    rfl
  · obtain ⟨a, k, ns, rfl, hS, hlen, q⟩ := h
    refine ⟨_, PSs.nox (pss_cons (ps_set (i := 2) sc__law_dice.nd rfl (Or.inl rfl) (pv 1))
        (pss_cons (ps_for PassesOwn.never rfl (pi_list (pv 0)) (pg_name (i := 3) sc__law_dice.nd rfl (Or.inl rfl))
          (pss_one (ps_set (i := 2) sc__law_dice.nd rfl (Or.inl rfl) (pe_op op_mod (pe_op op_add (pe_op op_mul (pv 2) pe_int) (pe_callB call_abs (by rfl) g_abs (by decide +kernel) (pa_cons (pv 3) pa_nil))) pe_int))))
        (pss_one (ps_ret (pe_op op_cat (pe_lst (pa_cons (pv 2) (pa_cons pe_int pa_nil))) (pe_lc (own := [("_law_cell", 3)]) (g := gName 3) rfl sc__law_dice.nd (pi_list (pv 0)) (blkOk_by (own := [("_law_cell", 3)]) (N := n__law_dice) (sc := defScope s__law_dice) (by decide +kernel)) (fun _ _ _ _ _ => (pg_name (i := 3) sc__law_dice.nd rfl (Or.inl rfl))) (fun _ _ _ _ _ => (pts_one (pt_cmpR op_ge (pv 3) (pe_op op_pow pe_int pe_int) (nomark _)))) (fun _ _ _ _ _ => (pv 3)))))))), ?_⟩
    refine ⟨_, rfl, _, rfl, a, rfl, ⟨_, hS⟩, for_list (K := K) (a := a) (xs := ns.map V.int) (fun i σ H' => H' = H ∧ ∃ (z : Int) (v : Option V), σ = [some (.ref a), some (.int k), some (.int z), v]) ⟨rfl, k, none, rfl⟩ (fun i σ H' _ ⟨e, _⟩ => e ▸ hS) ?_ ?_⟩
    · rintro i y σ H' hi ⟨rfl, z, v, rfl⟩
      obtain ⟨c, _, rfl⟩ := int_at hi
      exact ⟨_, rfl, _, _, rfl, rfl, Or.inr ⟨by decide, by decide⟩, _, rfl, _, rfl, _, _, rfl, rfl, _, _, rfl, rfl, (by show (0 : Int) < 2147483647; decide), rfl, _, _, rfl⟩
    · rintro σ H' ⟨rfl, z, v, rfl⟩
      refine ⟨_, rfl, (by show 2 ≤ sizeLine; decide), fun p hp => ?_⟩
      refine ⟨_, rfl, a, rfl, ⟨_, (Same.newB hp).seq hS⟩, fun D hD => lc_list (K := K) (a := a) (xs := ns.map V.int) (fun i H2 => ∃ r : List Int, Same (upd H' p (.lst [.int z, .int 0])) H2 ∧ H2 D = some (.lst (r.map V.int)) ∧ r.length ≤ i) ⟨[], Same.newB hD, upd_same, Nat.le_refl _⟩ (fun i H2 _ ⟨r, s2, _⟩ => ((Same.newB hp).trans s2).seq hS) ?_ ?_⟩
      · rintro i y H2 hi ⟨r, s2, e2, l2⟩
        have hil := (List.getElem?_eq_some_iff.mp hi).1
        rw [List.length_map] at hil
        obtain ⟨c, _, rfl⟩ := int_at hi
        refine ⟨rfl, _, rfl, _, _, rfl, rfl, ⟨by decide, by decide, by decide⟩, _, _, rfl, rfl, _, rfl, ?_⟩
        refine iteD (fun hc => ?_) (fun hc => ⟨r, s2, e2, by omega⟩)
        refine ⟨_, rfl, _, e2, szlt (by rw [List.length_map]; omega), r ++ [c], s2.mutB hD, ?_, by rw [List.length_append]; simp; omega⟩
        rw [upd_same, List.map_append]
        rfl
      · rintro H2 ⟨r, s2, e2, l2⟩
        rw [List.length_map] at l2
        refine ⟨p, D, _, _, rfl, rfl, s2 _ _ upd_same, e2, szle (by rw [List.length_map]; simp; omega), fun q' hq => ?_⟩
        have s3 : Same H' H2 := (Same.newB hp).trans s2
        exact q q' _ (s3.moreB hq) (s3.free hq) ⟨_, upd_same, z, 0, r, rfl⟩
end
end Bw

set_option Elab.async false
set_option linter.all false
set_option maxRecDepth 100000
set_option maxHeartbeats 4000000
namespace Bw
open PySem PySem.Spec PyProof.Rows L2
section
variable {P : Program} {w : World} {K : PySem.W.Frag} {mg : Str → Option Value} {base : Heap} {f : Addr} {fd : FuncData}
theorem ok__law_alike (F : FnP K "_law_alike" s__law_alike f fd) (bF : Binds K fd p__law_alike []) (g_f : mg "_law_alike" = some (.ref f)) (g_isinstance : mg "isinstance" = none) (g_bool : mg "bool" = none) (g_int : mg "int" = none) (g_str : mg "str" = none) (g_tuple : mg "tuple" = none) (g_list : mg "list" = none) (g_len : mg "len" = none) (g_all : mg "all" = none) (g_range : mg "range" = none) (n : Nat) :
    FnOk P w K mg base CX0 n f fd p__law_alike (spAlikeN K n) := by
  induction n with
  | zero => exact fnOk_false
  | succ n ih =>
  have h__law_alike : Has P w K mg base n "_law_alike" p__law_alike (spAlikeN K n) := ⟨f, fd, g_f, F.kp, bF, ih⟩
  refine F.ok sc__law_alike (fun vs H Q E h => ?_) (fun cdv A outer s H vs Q E hr h => ?_)
  · obtain ⟨x, y, D, rfl, _⟩ := h
    rfl
  · obtain ⟨x, y, D, rfl, hx, hy, hn, q⟩ := h
    refine ⟨_, PSs.nox (pss_cons (ps_if (pt_cmpR op_isN (pv 1) pe_non (nomark _))
          (pss_one (ps_ret (pe_cmpR op_isN (pv 0) pe_non (nomark _))))
          pss_nil)
        (pss_cons (ps_if (pt_val (pe_callB call_isi (by rfl) g_isinstance (by decide +kernel) (pa_cons (pv 1) (pa_cons (pe_bltn (v := .ty "bool") (by rfl) g_bool (by decide +kernel) rfl) pa_nil))))
          (pss_one (ps_ret (pe_and (pe_callB call_isi (by rfl) g_isinstance (by decide +kernel) (pa_cons (pv 0) (pa_cons (pe_bltn (v := .ty "bool") (by rfl) g_bool (by decide +kernel) rfl) pa_nil))) (pe_one (pe_cmpR op_eq (pv 0) (pv 1) (nomark _))))))
          pss_nil)
        (pss_cons (ps_if (pt_val (pe_callB call_isi (by rfl) g_isinstance (by decide +kernel) (pa_cons (pv 1) (pa_cons (pe_bltn (v := .ty "int") (by rfl) g_int (by decide +kernel) rfl) pa_nil))))
          (pss_one (ps_ret (pe_and (pe_callB call_isi (by rfl) g_isinstance (by decide +kernel) (pa_cons (pv 0) (pa_cons (pe_bltn (v := .ty "int") (by rfl) g_int (by decide +kernel) rfl) pa_nil))) (pe_and (pe_not (pe_callB call_isi (by rfl) g_isinstance (by decide +kernel) (pa_cons (pv 0) (pa_cons (pe_bltn (v := .ty "bool") (by rfl) g_bool (by decide +kernel) rfl) pa_nil)))) (pe_one (pe_cmpR op_eq (pv 0) (pv 1) (nomark _)))))))
          pss_nil)
        (pss_cons (ps_if (pt_val (pe_callB call_isi (by rfl) g_isinstance (by decide +kernel) (pa_cons (pv 1) (pa_cons (pe_bltn (v := .ty "str") (by rfl) g_str (by decide +kernel) rfl) pa_nil))))
          (pss_one (ps_ret (pe_and (pe_callB call_isi (by rfl) g_isinstance (by decide +kernel) (pa_cons (pv 0) (pa_cons (pe_bltn (v := .ty "str") (by rfl) g_str (by decide +kernel) rfl) pa_nil))) (pe_one (pe_cmpR op_eq (pv 0) (pv 1) (nomark _))))))
          pss_nil)
        (pss_cons (ps_if (PW.pt (pw_or (pt_cmpR op_ne (pe_callB call_isi (by rfl) g_isinstance (by decide +kernel) (pa_cons (pv 1) (pa_cons (pe_bltn (v := .ty "tuple") (by rfl) g_tuple (by decide +kernel) rfl) pa_nil))) (pe_callB call_isi (by rfl) g_isinstance (by decide +kernel) (pa_cons (pv 0) (pa_cons (pe_bltn (v := .ty "tuple") (by rfl) g_tuple (by decide +kernel) rfl) pa_nil))) (nomark _)) (pw_or1 (pt_cmpR op_ne (pe_callB call_isi (by rfl) g_isinstance (by decide +kernel) (pa_cons (pv 1) (pa_cons (pe_bltn (v := .ty "list") (by rfl) g_list (by decide +kernel) rfl) pa_nil))) (pe_callB call_isi (by rfl) g_isinstance (by decide +kernel) (pa_cons (pv 0) (pa_cons (pe_bltn (v := .ty "list") (by rfl) g_list (by decide +kernel) rfl) pa_nil))) (nomark _)))))
          (pss_one (ps_ret pe_bl))
          pss_nil)
        (pss_cons (ps_if (pt_cmpR op_ne (pe_callB call_len_seq (by rfl) g_len (by decide +kernel) (pa_cons (pv 0) pa_nil)) (pe_callB call_len_seq (by rfl) g_len (by decide +kernel) (pa_cons (pv 1) pa_nil)) (nomark _))
          (pss_one (ps_ret pe_bl))
          pss_nil)
        (pss_one (ps_ret (pe_callB (cr_all rfl) (by rfl) g_all (by decide +kernel) (pa_cons (pe_lc (own := [("_law_k", 2)]) (g := gName 2) rfl sc__law_alike.nd (pi_range1 rfl g_range (pa_cons (pe_callB call_len_seq (by rfl) g_len (by decide +kernel) (pa_cons (pv 1) pa_nil)) pa_nil)) (blkOk_by (own := [("_law_k", 2)]) (N := n__law_alike) (sc := defScope s__law_alike) (by decide +kernel)) (fun _ _ _ _ _ => (pg_name (i := 2) sc__law_alike.nd rfl (Or.inl rfl))) (fun _ _ _ _ _ => pts_nil) (fun _ _ _ _ _ => (pe_fn h__law_alike hr rfl (pa_cons (pe_ix (r := rIx K) ix_seq (pv 0) (pv 2) (fun _ _ => rfl)) (pa_cons (pe_ix (r := rIx K) ix_seq (pv 1) (pv 2) (fun _ _ => rfl)) pa_nil)) (Nat.le_refl _)))) pa_nil)))))))))), ?_⟩
    refine ⟨_, rfl, rfl, _, rfl, ?_⟩
    cases hy with
    | non =>
      cases hx
      refine iteD (fun _ => ?_) (fun h => absurd rfl h)
      exact ⟨_, rfl, rfl, qd (Q := Q) rfl (q H (Same.refl H))⟩
    | bl b =>
      cases hx
      refine iteD (fun h => nomatch h) (fun _ => ?_)
      refine ⟨_, rfl, _, _, _, _, true, rfl, .ty _, (.base (.bl b)), kit_ty (by decide +kernel), _, rfl, iteT ?_⟩
      exact ⟨_, rfl, _, _, _, _, true, rfl, .ty _, (.base (.bl b)), kit_ty (by decide +kernel), _, rfl, iteT ⟨_, rfl, _, rfl, rfl, qd (Q := Q) rfl (q H (Same.refl H))⟩⟩
    | int i =>
      cases hx
      refine iteD (fun h => nomatch h) (fun _ => ?_)
      refine ⟨_, rfl, _, _, _, _, false, rfl, .ty _, (.base (.int i)), kit_ty (by decide +kernel), _, rfl, iteF ?_⟩
      refine ⟨_, rfl, _, _, _, _, true, rfl, .ty _, (.base (.int i)), kit_ty (by decide +kernel), _, rfl, iteT ?_⟩
      refine ⟨_, rfl, _, _, _, _, true, rfl, .ty _, (.base (.int i)), kit_ty (by decide +kernel), _, rfl, iteT ?_⟩
      exact ⟨_, rfl, _, _, _, _, false, rfl, .ty _, (.base (.int i)), kit_ty (by decide +kernel), _, rfl, _, rfl, iteT ⟨_, rfl, _, rfl, rfl, qd (Q := Q) rfl (q H (Same.refl H))⟩⟩
    | str i =>
      cases hx
      refine iteD (fun h => nomatch h) (fun _ => ?_)
      refine ⟨_, rfl, _, _, _, _, false, rfl, .ty _, (.base (.str i)), kit_ty (by decide +kernel), _, rfl, iteF ?_⟩
      refine ⟨_, rfl, _, _, _, _, false, rfl, .ty _, (.base (.str i)), kit_ty (by decide +kernel), _, rfl, iteF ?_⟩
      refine ⟨_, rfl, _, _, _, _, true, rfl, .ty _, (.base (.str i)), kit_ty (by decide +kernel), _, rfl, iteT ?_⟩
      exact ⟨_, rfl, _, _, _, _, true, rfl, .ty _, (.base (.str i)), kit_ty (by decide +kernel), _, rfl, iteT ⟨_, rfl, _, rfl, rfl, qd (Q := Q) rfl (q H (Same.refl H))⟩⟩
    | @lst b ys ds sy ay =>
      cases hx with
      | @lst a xs _ sx ax =>
      cases hn with
      | list m _ hl hd =>
      have tx := tyx_list sx
      have ty := tyx_list sy
      refine iteD (fun h => nomatch h) (fun _ => ?_)
      refine ⟨_, rfl, _, _, _, _, false, rfl, .ty _, ty, kit_ty (by decide +kernel), _, rfl, iteF ?_⟩
      refine ⟨_, rfl, _, _, _, _, false, rfl, .ty _, ty, kit_ty (by decide +kernel), _, rfl, iteF ?_⟩
      refine ⟨_, rfl, _, _, _, _, false, rfl, .ty _, ty, kit_ty (by decide +kernel), _, rfl, iteF ?_⟩
      refine ⟨_, rfl, _, _, _, _, false, rfl, .ty _, ty, kit_ty (by decide +kernel), _, rfl, _, _, _, _, false, rfl, .ty _, tx, kit_ty (by decide +kernel), rfl, _, rfl, iteF ?_⟩
      refine ⟨_, rfl, _, _, _, _, true, rfl, .ty _, ty, kit_ty (by decide +kernel), _, rfl, _, _, _, _, true, rfl, .ty _, tx, kit_ty (by decide +kernel), rfl, _, rfl, iteF ?_⟩
      refine ⟨_, rfl, a, _, rfl, Or.inl sx, _, rfl, b, _, rfl, Or.inl sy, rfl, _, rfl, ?_⟩
      have lx := DpAll.len ax
      have ly := DpAll.len ay
      refine iteN (fun h => absurd (by rw [lx, ly]) h) (fun _ => ?_)
      refine ⟨_, rfl, b, _, rfl, Or.inl sy, _, rfl, by omega, by rw [ly]; omega, fun L hL => lc_range (lo := 0) (n := ys.length) (fun i H' => Same H H' ∧ H' L = some (.lst ((List.replicate i true).map V.bl))) ⟨Same.newB hL, upd_same⟩ ?_ ?_⟩
      · rintro i H' hi ⟨s1, e1⟩
        obtain ⟨v, d1, hv, hd1, p1⟩ := DpAll.get (i := i) ax (by omega)
        obtain ⟨u, d2, hu, hd2, p2⟩ := DpAll.get (i := i) ay (by omega)
        obtain rfl : d1 = d2 := Option.some.inj (hd1.symm.trans hd2)
        have e0 : (0 : Int) + (i : Int) = (i : Int) := Int.zero_add _
        refine ⟨rfl, _, rfl, _, rfl, Or.inl ⟨a, _, _, v, rfl, rfl, s1.seq sx, by rw [e0]; exact atI_nat hv, _, rfl, _, rfl, Or.inl ⟨b, _, _, u, rfl, rfl, s1.seq sy, by rw [e0]; exact atI_nat hu, ?_⟩⟩⟩
        refine ⟨v, u, d1, rfl, Dp.same s1 _ _ p1, Dp.same s1 _ _ p2, hd d1 (List.mem_of_getElem? hd1), fun H2 s2 => ?_⟩
        refine ⟨_, s2 _ _ e1, szlt (by rw [List.length_map, List.length_replicate]; omega), (s1.trans s2).mutB hL, ?_⟩
        rw [upd_same, List.replicate_succ', List.map_append]
        rfl
      · rintro H' ⟨s1, e1⟩
        refine ⟨L, _, rfl, SqL.of e1, ?_⟩
        have e : (List.replicate ys.length true).all id = true := by simp
        show Q (.bl ((List.replicate ys.length true).all id)) H'
        rw [e]
        exact q H' s1
    | @tup b ys ds sy ay =>
      cases hx with
      | @tup a xs _ sx ax =>
      cases hn with
      | tuple m _ hl hd =>
      have tx := tyx_tup sx
      have ty := tyx_tup sy
      refine iteD (fun h => nomatch h) (fun _ => ?_)
      refine ⟨_, rfl, _, _, _, _, false, rfl, .ty _, ty, kit_ty (by decide +kernel), _, rfl, iteF ?_⟩
      refine ⟨_, rfl, _, _, _, _, false, rfl, .ty _, ty, kit_ty (by decide +kernel), _, rfl, iteF ?_⟩
      refine ⟨_, rfl, _, _, _, _, false, rfl, .ty _, ty, kit_ty (by decide +kernel), _, rfl, iteF ?_⟩
      refine ⟨_, rfl, _, _, _, _, true, rfl, .ty _, ty, kit_ty (by decide +kernel), _, rfl, _, _, _, _, true, rfl, .ty _, tx, kit_ty (by decide +kernel), rfl, _, rfl, iteF ?_⟩
      refine ⟨_, rfl, _, _, _, _, false, rfl, .ty _, ty, kit_ty (by decide +kernel), _, rfl, _, _, _, _, false, rfl, .ty _, tx, kit_ty (by decide +kernel), rfl, _, rfl, iteF ?_⟩
      refine ⟨_, rfl, a, _, rfl, Or.inr sx, _, rfl, b, _, rfl, Or.inr sy, rfl, _, rfl, ?_⟩
      have lx := DpAll.len ax
      have ly := DpAll.len ay
      refine iteN (fun h => absurd (by rw [lx, ly]) h) (fun _ => ?_)
      refine ⟨_, rfl, b, _, rfl, Or.inr sy, _, rfl, by omega, by rw [ly]; omega, fun L hL => lc_range (lo := 0) (n := ys.length) (fun i H' => Same H H' ∧ H' L = some (.lst ((List.replicate i true).map V.bl))) ⟨Same.newB hL, upd_same⟩ ?_ ?_⟩
      · rintro i H' hi ⟨s1, e1⟩
        obtain ⟨v, d1, hv, hd1, p1⟩ := DpAll.get (i := i) ax (by omega)
        obtain ⟨u, d2, hu, hd2, p2⟩ := DpAll.get (i := i) ay (by omega)
        obtain rfl : d1 = d2 := Option.some.inj (hd1.symm.trans hd2)
        have e0 : (0 : Int) + (i : Int) = (i : Int) := Int.zero_add _
        refine ⟨rfl, _, rfl, _, rfl, Or.inr (Or.inl ⟨a, _, _, v, rfl, rfl, s1.tupB sx, by rw [e0]; exact atI_nat hv, _, rfl, _, rfl, Or.inr (Or.inl ⟨b, _, _, u, rfl, rfl, s1.tupB sy, by rw [e0]; exact atI_nat hu, ?_⟩)⟩)⟩
        refine ⟨v, u, d1, rfl, Dp.same s1 _ _ p1, Dp.same s1 _ _ p2, hd d1 (List.mem_of_getElem? hd1), fun H2 s2 => ?_⟩
        refine ⟨_, s2 _ _ e1, szlt (by rw [List.length_map, List.length_replicate]; omega), (s1.trans s2).mutB hL, ?_⟩
        rw [upd_same, List.replicate_succ', List.map_append]
        rfl
      · rintro H' ⟨s1, e1⟩
        refine ⟨L, _, rfl, SqL.of e1, ?_⟩
        have e : (List.replicate ys.length true).all id = true := by simp
        show Q (.bl ((List.replicate ys.length true).all id)) H'
        rw [e]
        exact q H' s1
end
end Bw

set_option Elab.async false
set_option linter.all false
set_option maxRecDepth 100000
set_option maxHeartbeats 4000000
namespace Bw
open PySem PySem.Spec PyProof.Rows L2
section
variable {P : Program} {w : World} {K : PySem.W.Frag} {mg : Str → Option Value} {base : Heap} {f : Addr} {fd : FuncData}
theorem ok_need_heard {t1 t2 : Tok} (F : FnP K "need_heard" s_need_heard f fd) (g_enumerate : mg "enumerate" = none) (g_MOST_MOMENTS : mg "MOST_MOMENTS" = some (.int 200 t1)) (g_MOST_HEARD : mg "MOST_HEARD" = some (.int 9 t2)) : FnOk P w K mg base CX0 1 f fd ["heard"] (spNeedHeard K) := by
  refine F.ok sc_need_heard (fun vs H Q E h => ?_) (fun cdv A outer s H vs Q E hr h => ?_)
  · obtain ⟨l, hs, rfl, _⟩ := h
    rfl
  · obtain ⟨l, hs, rfl, hl, ho, k⟩ := h
    refine ⟨_, PSs.nox (pss_one (ps_for PassesOwn.never rfl (pi_enum (by rfl) g_enumerate (pa_cons (pv 0) pa_nil)) (pg_tup rfl (pgs_cons (pg_name (i := 1) sc_need_heard.nd rfl (Or.inl rfl)) (pgs_cons (pg_name (i := 2) sc_need_heard.nd rfl (Or.inl rfl)) pgs_nil)))
        (pss_one (ps_if (PW.pt (pw_or (pt_cmpR op_ge (pv 1) (pe_gI rfl g_MOST_MOMENTS) (nomark _)) (pw_or1 (pt_not (pt_chain op_le op_le pe_int (pv 2) (pe_gI rfl g_MOST_HEARD))))))
          (pss_one ps_never)
          pss_nil)))), ?_⟩
    refine ⟨_, rfl, l, _, rfl, hl, for_enum (K := K) (a := l) (xs := hs.map V.int) (fun i σ H' => Same H H' ∧ ∃ v1 v2, σ = [some (.ref l), v1, v2]) ⟨Same.refl H, none, none, rfl⟩ (fun i σ H' _ ⟨s1, _⟩ => s1.seq hl) ?_ ?_⟩
    · rintro i y σ H' T hi ⟨s1, v1, v2, rfl⟩ nT
      have hil := (List.getElem?_eq_some_iff.mp hi).1
      rw [List.length_map] at hil
      obtain ⟨c, hc, rfl⟩ := int_at hi
      have hb := ho.2 c (List.mem_of_getElem? hc)
      have hn := ho.1
      refine ⟨T, _, rfl, SqT.of upd_same, rfl, _, _, rfl, _, _, rfl, rfl, ?_⟩
      refine ⟨_, rfl, _, _, rfl, rfl, _, rfl, iteD (fun h => absurd h (by omega)) (fun _ => ?_)⟩
      refine ⟨_, rfl, _, _, rfl, rfl, _, rfl, iteD (fun _ => ?_) (fun h => absurd hb.1 h)⟩
      refine ⟨_, _, rfl, rfl, _, rfl, ?_⟩
      rw [decide_eq_true hb.2]
      exact iteF ⟨s1.moreB nT, _, _, rfl⟩
    · rintro σ H' ⟨s1, v1, v2, rfl⟩
      exact k _ s1
end
end Bw

set_option Elab.async false
set_option linter.all false
set_option maxRecDepth 100000
set_option maxHeartbeats 4000000
namespace Bw
open PySem PySem.Spec PyProof.Rows L2
section
variable {P : Program} {w : World} {K : PySem.W.Frag} {mg : Str → Option Value} {base : Heap} {f : Addr} {fd : FuncData}
theorem ok_need_line {t1 t2 t3 : Tok} (F : FnP K "need_line" s_need_line f fd) (g_MOST_EACH : mg "MOST_EACH" = some (.int 4 t1)) (g_MOST_LATE : mg "MOST_LATE" = some (.int 3 t2)) (g_MOST_LOST : mg "MOST_LOST" = some (.int 2 t3)) : FnOk P w K mg base CX0 1 f fd ["line"] (spNeedLine K) := by
  refine F.ok sc_need_line (fun vs H Q E h => ?_) (fun cdv A outer s H vs Q E hr h => ?_)
  · obtain ⟨q, l, rfl, _⟩ := h
    rfl
  · obtain ⟨q, l, rfl, hq, lo, k⟩ := h
    refine ⟨_, PSs.nox (pss_cons (ps_asg (pv 0) (pg_tup rfl (pgs_cons (pg_name (i := 1) sc_need_line.nd rfl (Or.inl rfl)) (pgs_cons (pg_name (i := 2) sc_need_line.nd rfl (Or.inl rfl)) (pgs_cons (pg_name (i := 3) sc_need_line.nd rfl (Or.inl rfl)) pgs_nil)))))
        (pss_cons (ps_if (pt_not (pt_chain op_le op_le pe_int (pv 1) (pe_gI rfl g_MOST_EACH)))
          (pss_one ps_never)
          pss_nil)
        (pss_cons (ps_if (pt_not (pt_chain op_le op_le pe_int (pv 2) (pe_gI rfl g_MOST_LATE)))
          (pss_one ps_never)
          pss_nil)
        (pss_one (ps_if (pt_not (pt_chain op_le op_le pe_int (pv 3) (pe_gI rfl g_MOST_LOST)))
          (pss_one ps_never)
          pss_nil))))), ?_⟩
    have e1 := lo.e1
    have e4 := lo.e4
    have l3 := lo.l3
    have s2 := lo.s2
    have h1 : (1 : Int) ≤ (l.each : Int) := by omega
    have h2 : (l.each : Int) ≤ 4 := by omega
    have h3 : (0 : Int) ≤ (l.late : Int) := by omega
    have h4 : (l.late : Int) ≤ 3 := by omega
    have h5 : (0 : Int) ≤ (l.lost : Int) := by omega
    have h6 : (l.lost : Int) ≤ 2 := by omega
    refine ⟨_, rfl, q, _, rfl, hq, rfl, _, _, rfl, _, _, rfl, _, _, rfl, rfl, ?_⟩
    refine ⟨_, rfl, _, _, rfl, rfl, _, rfl, iteD (fun _ => ⟨_, _, rfl, rfl, _, rfl, ?_⟩) (fun h => absurd h1 h)⟩
    rw [decide_eq_true h2]
    refine iteF ⟨_, rfl, _, _, rfl, rfl, _, rfl, iteD (fun _ => ⟨_, _, rfl, rfl, _, rfl, ?_⟩) (fun h => absurd h3 h)⟩
    rw [decide_eq_true h4]
    refine iteF ⟨_, rfl, _, _, rfl, rfl, _, rfl, iteD (fun _ => ⟨_, _, rfl, rfl, _, rfl, ?_⟩) (fun h => absurd h5 h)⟩
    rw [decide_eq_true h6]
    exact iteF k
end
end Bw

set_option Elab.async false
set_option linter.all false
set_option maxRecDepth 100000
set_option maxHeartbeats 4000000
namespace Bw
open PySem PySem.Spec PyProof.Rows L2
section
variable {P : Program} {w : World} {K : PySem.W.Frag} {mg : Str → Option Value} {base : Heap} {f : Addr} {fd : FuncData}
theorem ok_begun (F : FnP K "begun" s_begun f fd) : FnOk P w K mg base CX0 1 f fd p_begun (spBegun K) := by
  refine F.ok sc_begun (fun vs H Q E h => ?_) (fun cdv A outer s H vs Q E hr h => ?_)
  · obtain ⟨lp, v, l, st, rfl, _⟩ := h
    rfl
  · obtain ⟨lp, v, l, st, rfl, hl, lo, hv, ok, k⟩ := h
    obtain ⟨a, b, rfl, ha, hb⟩ := ls_at hv
    have hlen := ok.len
    have l3 := lo.l3
    refine ⟨_, PSs.nox (pss_cons (ps_asg (pv 1) (pg_tup rfl (pgs_cons (pg_name (i := 2) sc_begun.nd rfl (Or.inl rfl)) (pgs_cons (pg_name (i := 3) sc_begun.nd rfl (Or.inl rfl)) (pgs_cons (pg_name (i := 4) sc_begun.nd rfl (Or.inl rfl)) pgs_nil)))))
        (pss_cons (ps_if (pt_cmpR op_gt (pv 2) pe_int (nomark _))
          (pss_one (ps_ret (pe_lst (pa_cons (pe_tup (pa_cons (pv 3) (pa_cons (pv 4) pa_nil))) pa_nil))))
          pss_nil)
        (pss_cons (ps_set (i := 5) sc_begun.nd rfl (Or.inl rfl) (pe_lst (pa_cons (pe_tup (pa_cons (pe_op op_catU (pv 3) (pe_tup (pa_cons pe_int pa_nil))) (pa_cons pe_int pa_nil))) pa_nil)))
        (Evl.pss_cut (ps_if (pt_cmpR op_lt (pv 4) (pe_ix ix_tup (pv 0) pe_int (fun _ _ => rfl)) (nomark _))
          (pss_one (ps_expr (pe_bm PySem.F.plainAttrs_list PySem.F.slot_list_append PySem.F.type_list_append mt_append (pv 5) (pa_cons (pe_tup (pa_cons (pv 3) (pa_cons (pe_op op_add (pv 4) pe_int) pa_nil))) pa_nil))))
          pss_nil)
        (pss_one (ps_ret (pv 5))))))), ?_⟩
    refine ⟨_, rfl, a, _, rfl, ha, rfl, _, _, rfl, _, _, rfl, _, _, rfl, rfl, ?_⟩
    refine ⟨_, rfl, _, _, rfl, rfl, _, rfl, iteD (fun hp => ?_) (fun hp => ?_)⟩
    · refine ⟨_, rfl, _, rfl, szle (Nat.le_of_ble_eq_true rfl), fun T nT => ⟨szle (Nat.le_of_ble_eq_true rfl), fun p np => ?_⟩⟩
      have s1 := (Same.newB (o := .tup [.ref b, .int st.run]) nT).moreB (o := .lst [.ref T]) np
      refine k p _ _ s1 ((Same.newB nT).free np) upd_same ?_
      have e : begunL l st = [(st.ages, st.run)] := if_pos (by omega)
      rw [e]
      exact .cons (.tup (SqT.of ((Same.newB np) _ _ upd_same)) (.cons (ints_dp (s1.tupB hb)) (.cons (.int _) .nil))) .nil
    · refine ⟨_, rfl, szle (Nat.le_of_ble_eq_true rfl), fun z nz => ⟨b, z, _, [V.int 0], rfl, rfl, (Same.newB nz).tupB hb, SqT.of upd_same, szle (by rw [List.length_map, nI_len]; show st.ages.length + 1 ≤ _; omega), fun c H1 s1 hc => ?_⟩⟩
      have s01 : Same H H1 := (Same.newB nz).trans s1
      refine ⟨szle (Nat.le_of_ble_eq_true rfl), fun T nT => ⟨szle (Nat.le_of_ble_eq_true rfl), fun p np => ?_⟩⟩
      have s2 := (Same.newB (o := .tup [.ref c, .int 0]) nT).moreB (o := .lst [.ref T]) np
      have s02 := s01.trans s2
      have eC : (nI st.ages).map V.int ++ [V.int 0] = (nI (st.ages ++ [0])).map V.int := by
        unfold nI
        rw [List.map_append, List.map_append]
        rfl
      rw [eC] at hc
      have n0 : H p = none := s01.free ((Same.newB nT).free np)
      have d1 : Dp K (upd (upd H1 T (.tup [.ref c, .int 0])) p (.lst [.ref T])) (.ref T) (bgD (st.ages ++ [0], 0)) := .tup (SqT.of ((Same.newB np) _ _ upd_same)) (.cons (ints_dp (s2.tupB hc)) (.cons (.int _) .nil))
      have hpp : (upd (upd H1 T (.tup [.ref c, .int 0])) p (.lst [.ref T])) p = some (.lst [.ref T]) := upd_same
      revert s02 d1 hpp
      generalize upd (upd H1 T (.tup [.ref c, .int 0])) p (.lst [.ref T]) = H2
      intro s02 d1 hpp
      refine ⟨fun σ' H' => σ' = [some (.ref lp), some (.ref a), some (.int st.ph), some (.ref b), some (.int st.run), some (.ref p)] ∧ Same H H' ∧ ∃ xs, H' p = some (.lst xs) ∧ DpAll K H' xs ((begunL l st).map bgD), ?_, ?_⟩
      · refine ⟨_, rfl, _, rfl, lp, _, _, _, rfl, rfl, s02.tupB hl, atI_nat (j := 2) rfl, _, _, rfl, rfl, _, rfl, iteD (fun hr' => ?_) (fun hr' => ?_)⟩
        · refine ⟨_, rfl, Or.inl ⟨rfl, _, SqL.of hpp⟩, _, rfl, _, rfl, _, _, rfl, rfl, szle (Nat.le_of_ble_eq_true rfl), fun T2 nT2 => ?_⟩
          have s3 : Same H2 (upd H2 T2 (.tup [.ref b, .int (st.run + 1)])) := Same.newB nT2
          refine ⟨p, _, _, rfl, rfl, s3 _ _ hpp, szlt (by show 1 < _; omega), rfl, (s02.trans s3).mutB n0, _, upd_same, ?_⟩
          have e : begunL l st = [(st.ages ++ [0], 0), (st.ages, st.run + 1)] := by
            unfold begunL
            rw [if_neg (by omega), if_pos (by omega)]
          rw [e]
          have kk := keepL (ys := [.ref T, .ref T2]) (s3 _ _ hpp)
          refine DpAll.keepL kk (.cons (Dp.same s3 _ _ d1) (.cons (.tup (SqT.of upd_same) (.cons (ints_dp ((s02.trans s3).tupB hb)) (.cons (.int _) .nil))) .nil)) (map_noL bgD_noL [(st.ages ++ [0], 0), (st.ages, st.run + 1)])
        · refine ⟨rfl, s02, _, hpp, ?_⟩
          have e : begunL l st = [(st.ages ++ [0], 0)] := by
            unfold begunL
            rw [if_neg (by omega), if_neg (by omega)]
          rw [e]
          exact .cons d1 .nil
      · rintro σ' H' ⟨rfl, s', xs, e1, e2⟩
        exact ⟨_, rfl, k p H' xs s' n0 e1 e2⟩
end
end Bw

set_option Elab.async false
set_option linter.all false
set_option maxRecDepth 100000
set_option maxHeartbeats 4000000
namespace Bw
open PySem PySem.Spec PyProof.Rows L2
section
variable {P : Program} {w : World} {K : PySem.W.Frag} {mg : Str → Option Value} {base : Heap} {f : Addr} {fd : FuncData}
theorem ok_heard_of (F : FnP K "heard_of" s_heard_of f fd) (g_range : mg "range" = none) (g_len : mg "len" = none) (g_tuple : mg "tuple" = none) : FnOk P w K mg base CX0 1 f fd p_heard_of (spHeardOf K) := by
  refine F.ok sc_heard_of (fun vs H Q E h => ?_) (fun cdv A outer s H vs Q E hr h => ?_)
  · obtain ⟨lp, b, l, ages, rfl, _⟩ := h
    rfl
  · obtain ⟨lp, b, l, ages, rfl, hl, lo, hb, hlen, k⟩ := h
    refine ⟨_, PSs.nox (pss_cons (ps_set (i := 2) sc_heard_of.nd rfl (Or.inl rfl) (pe_lst pa_nil))
        (pss_cons (ps_for PassesOwn.never rfl (pi_range1 rfl g_range (pa_cons (pe_op op_add (pe_callB call_len_seq (by rfl) g_len (by decide +kernel) (pa_cons (pv 1) pa_nil)) pe_int) pa_nil)) (pg_name (i := 3) sc_heard_of.nd rfl (Or.inl rfl))
          (pss_one (ps_if (pt_cmpR (op_eqD hr.units) (pe_lc (own := [("age", 4)]) (g := gName 4) rfl sc_heard_of.nd (pi_tup (pe_slice sl_tupU (pv 1) (po_some (pv 3)) po_none)) (blkOk_by (own := [("age", 4)]) (N := n_heard_of) (sc := defScope s_heard_of) (by decide +kernel)) (fun _ _ _ _ _ => (pg_name (i := 4) sc_heard_of.nd rfl (Or.inl rfl))) (fun _ _ _ _ _ => (pts_one (pt_cmpR op_ge (pv 4) (pe_ix (r := rIxT K) ix_tup (pv 0) pe_int (fun _ _ => rfl)) (nomark _)))) (fun _ _ _ _ _ => (pv 4))) (pe_lst pa_nil) (nomark _))
            (pss_one (ps_expr (pe_bm PySem.F.plainAttrs_list PySem.F.slot_list_append PySem.F.type_list_append mt_append (pv 2) (pa_cons (pe_tup (pa_cons (pv 3) (pa_cons (pe_callTy call_tuple_of (by rfl) g_tuple (by decide +kernel) (pa_cons (pe_lc (own := [("age", 4)]) (g := gName 4) rfl sc_heard_of.nd (pi_tup (pe_slice sl_tupU (pv 1) (po_some (pv 3)) po_none)) (blkOk_by (own := [("age", 4)]) (N := n_heard_of) (sc := defScope s_heard_of) (by decide +kernel)) (fun _ _ _ _ _ => (pg_name (i := 4) sc_heard_of.nd rfl (Or.inl rfl))) (fun _ _ _ _ _ => pts_nil) (fun _ _ _ _ _ => (pe_op op_add (pv 4) pe_int))) pa_nil)) pa_nil))) pa_nil))))
            pss_nil)))
        (pss_one (ps_ret (pv 2))))), ?_⟩
    refine ⟨szle (Nat.le_of_ble_eq_true rfl), fun fo nfo => ?_⟩
    have s0 : Same H (upd H fo (.lst [])) := Same.newB nfo
    have hL : ((nI ages).map V.int).length = ages.length := by rw [List.length_map, nI_len]
    refine ⟨_, rfl, b, _, rfl, Or.inr (s0.tupB hb), _, _, rfl, rfl, _, rfl, by omega, by rw [hL]; omega, ?_⟩
    have eN : ((((nI ages).map V.int).length : Nat) + (1 : Int)).toNat = ages.length + 1 := by rw [hL]; omega
    refine for_range (lo := 0) (n := ((((nI ages).map V.int).length : Nat) + (1 : Int)).toNat) (fun i σ H' => Same H H' ∧ ∃ v3 v4 xs, σ = [some (.ref lp), some (.ref b), some (.ref fo), v3, v4] ∧ H' fo = some (.lst xs) ∧ DpAll K H' xs (((List.range i).filterMap fun m => if youngL l (ages.drop m) = true then some (m, (ages.drop m).map (· + 1)) else none).map hdD)) ?_ ?_ ?_
    · exact ⟨s0, none, none, [], rfl, upd_same, .nil⟩
    · rintro i σ H' hi ⟨s', v3, v4, xs, rfl, hfo, hD⟩
      rw [eN] at hi
      have e0 : (0 : Int) + (i : Int) = (i : Int) := Int.zero_add _
      have hxl : xs.length ≤ i := by
        have h1 := DpAll.len hD
        rw [List.length_map] at h1
        have h2 := List.length_filterMap_le (fun m => if youngL l (ages.drop m) = true then some (m, (ages.drop m).map (· + 1)) else none) (List.range i)
        rw [List.length_range] at h2
        omega
      have ec : ∀ j : Int, j = (i : Int) → cutV ((nI ages).map V.int) (some j) none = (nI (ages.drop i)).map V.int := fun j ej => by
        rw [ej, cut_from]
        unfold nI
        simp only [List.map_drop]
      generalize hg : ages.drop i = gs at *
      have hgl : gs.length ≤ 10 := by rw [← hg, List.length_drop]; omega
      refine ⟨_, rfl, _, rfl, _, rfl, b, _, rfl, s'.tupB hb, fun u H1 s1 hu => ?_⟩
      rw [ec _ e0] at hu
      refine ⟨u, rfl, ⟨_, hu⟩, fun D nD => lc_tup (K := K) (a := u) (xs := (nI gs).map V.int) (fun j H2 => Same H1 H2 ∧ H2 D = some (.lst (((nI (gs.take j)).filter fun a => decide ((l.late : Int) ≤ a)).map V.int))) ⟨Same.newB nD, upd_same⟩ (fun j H2 _ h => h.1.tupB hu) ?_ ?_⟩
      · rintro j y H2 hj ⟨s2, e2⟩
        obtain ⟨c, hc, rfl⟩ := int_at hj
        have et : nI (gs.take (j + 1)) = nI (gs.take j) ++ [c] := by
          unfold nI
          rw [List.map_take, List.map_take, List.take_succ]
          unfold nI at hc
          rw [hc]
          rfl
        have hfl : ((nI (gs.take j)).filter fun a => decide ((l.late : Int) ≤ a)).length ≤ 10 := Nat.le_trans (List.length_filter_le _ _) (by rw [nI_len, List.length_take]; omega)
        refine ⟨rfl, _, rfl, _, rfl, lp, _, _, _, rfl, rfl, (s'.trans (s1.trans s2)).tupB hl, atI_nat (j := 1) rfl, _, _, rfl, rfl, _, rfl, iteD (fun h => ?_) (fun h => ?_)⟩
        · refine ⟨_, rfl, _, e2, szlt (by rw [List.length_map]; omega), s2.mutB nD, ?_⟩
          rw [upd_same, et, List.filter_append, List.filter_cons, if_pos (by simpa using h), List.map_append]
          rfl
        · refine ⟨s2, ?_⟩
          rw [e2, et, List.filter_append, List.filter_cons, if_neg (by simpa using h)]
          simp
      · rintro H2 ⟨s2, e2⟩
        have eT : gs.take ((nI gs).map V.int).length = gs := List.take_of_length_le (by rw [List.length_map, nI_len]; omega)
        rw [eT] at e2
        have s12 := s'.trans (s1.trans s2)
        refine ⟨szle (Nat.le_of_ble_eq_true rfl), fun e he => ⟨.list (((nI gs).filter fun a => decide ((l.late : Int) ≤ a)).map PyData.int), .list [], .lst (SqL.of (Same.newB he _ _ e2)) (dp_ints _), .lst (SqL.of upd_same) .nil, PySem.W.ke_shaped_ints _, PySem.W.ke_shaped_ints [], _, rfl, ?_⟩⟩
        rw [eqv_nil]
        have eY : decide (((nI gs).filter fun a => decide ((l.late : Int) ≤ a)) = []) = youngL l gs := by
          unfold youngL
          refine decide_eq_decide.mpr ?_
          unfold nI
          rw [List.filter_map, List.map_eq_nil_iff]
          have e3 : ((fun a => decide ((l.late : Int) ≤ a)) ∘ fun a => ((a : Nat) : Int)) = fun a => decide (l.late ≤ a) := by
            funext a
            show decide ((l.late : Int) ≤ (a : Int)) = decide (l.late ≤ a)
            exact decide_eq_decide.mpr (by omega)
          rw [e3]
        rw [eY]
        have sE : Same H2 (upd H2 e (.lst [])) := Same.newB he
        have sHE : Same H (upd H2 e (.lst [])) := s12.trans sE
        have sF : Same H' (upd H2 e (.lst [])) := (s1.trans s2).trans sE
        have hfo3 := sF _ _ hfo
        have hD3 := DpAll.same sF hD
        revert sHE hfo3 hD3
        generalize upd H2 e (.lst []) = H3
        intro sHE hfo3 hD3
        refine iteB (fun hy => ?_) (fun hy => ?_)
        · refine ⟨_, rfl, Or.inl ⟨rfl, _, SqL.of hfo3⟩, _, rfl, _, rfl, _, rfl, _, rfl, b, _, rfl, sHE.tupB hb, fun u2 H4 s4 hu2 => ?_⟩
          rw [ec _ e0] at hu2
          refine ⟨u2, rfl, ⟨_, hu2⟩, fun D2 nD2 => lc_tup (K := K) (a := u2) (xs := (nI gs).map V.int) (fun j H5 => Same H4 H5 ∧ H5 D2 = some (.lst ((nI ((gs.take j).map (· + 1))).map V.int))) ⟨Same.newB nD2, upd_same⟩ (fun j H5 _ h => h.1.tupB hu2) ?_ ?_⟩
          · rintro j y H5 hj ⟨s5, e5⟩
            obtain ⟨c, hc, rfl⟩ := int_at hj
            have et : nI ((gs.take (j + 1)).map (· + 1)) = nI ((gs.take j).map (· + 1)) ++ [c + 1] := by
              unfold nI at hc ⊢
              rw [List.getElem?_map] at hc
              cases hcc : gs[j]? with
              | none => rw [hcc] at hc; cases hc
              | some z =>
                rw [hcc] at hc
                have hc' : (z : Int) = c := Option.some.inj hc
                rw [List.take_succ, hcc, Option.toList_some, List.map_append, List.map_append, ← hc']
                rfl
            refine ⟨rfl, _, rfl, _, _, rfl, rfl, _, e5, szlt (by rw [List.length_map, nI_len, List.length_map, List.length_take]; omega), s5.mutB nD2, ?_⟩
            rw [upd_same, et, List.map_append]
            rfl
          · rintro H5 ⟨s5, e5⟩
            rw [eT] at e5
            refine ⟨D2, _, rfl, Or.inl ⟨SqL.of e5, fun tp ntp => ⟨szle (Nat.le_of_ble_eq_true rfl), fun T nT => ?_⟩⟩⟩
            have s6 := (Same.newB (o := .tup ((nI (gs.map (· + 1))).map V.int)) ntp).moreB (o := .tup [.int (0 + (i : Int)), .ref tp]) nT
            have s36 := s4.trans (s5.trans s6)
            refine ⟨fo, xs, _, rfl, rfl, s36 _ _ hfo3, szlt (by omega), (sHE.trans s36).mutB nfo, _, _, _, rfl, upd_same, ?_⟩
            have eR : ((List.range (i + 1)).filterMap fun m => if youngL l (ages.drop m) = true then some (m, (ages.drop m).map (· + 1)) else none).map hdD = ((List.range i).filterMap fun m => if youngL l (ages.drop m) = true then some (m, (ages.drop m).map (· + 1)) else none).map hdD ++ [hdD (i, gs.map (· + 1))] := by
              rw [List.range_succ, List.filterMap_append, List.map_append]
              congr 1
              rw [List.filterMap_cons, hg, if_pos hy]
              rfl
            rw [eR]
            have hn : ∀ d ∈ ((List.range i).filterMap fun m => if youngL l (ages.drop m) = true then some (m, (ages.drop m).map (· + 1)) else none).map hdD ++ [hdD (i, gs.map (· + 1))], NoL d := by
              rw [← eR]
              exact map_noL hdD_noL _
            refine DpAll.keepL (keepL (s36 _ _ hfo3)) (DpAll.snoc (DpAll.same s36 hD3) ?_) hn
            have hT : (upd (upd H5 tp (.tup ((nI (gs.map (· + 1))).map V.int))) T (.tup [.int (0 + (i : Int)), .ref tp])) T = some (.tup [.int (i : Int), .ref tp]) := by rw [upd_same, e0]
            exact .tup (SqT.of hT) (.cons (.int _) (.cons (ints_dp (SqT.of ((Same.newB nT) _ _ upd_same))) .nil))
        · refine ⟨sHE, _, _, xs, rfl, hfo3, ?_⟩
          have eR : ((List.range (i + 1)).filterMap fun m => if youngL l (ages.drop m) = true then some (m, (ages.drop m).map (· + 1)) else none) = (List.range i).filterMap fun m => if youngL l (ages.drop m) = true then some (m, (ages.drop m).map (· + 1)) else none := by
            rw [List.range_succ, List.filterMap_append, List.filterMap_cons, hg, if_neg (by rw [hy]; decide)]
            simp
          rw [eR]
          exact hD3
    · rintro σ H' ⟨s', v3, v4, xs, rfl, hfo, hD⟩
      rw [eN] at hD
      exact ⟨_, rfl, k fo H' xs s' nfo hfo hD⟩
end
end Bw

set_option Elab.async false
set_option linter.all false
set_option maxRecDepth 100000
set_option maxHeartbeats 4000000
namespace Bw
open PySem PySem.Spec PyProof.Rows L2
section
variable {P : Program} {w : World} {K : PySem.W.Frag} {mg : Str → Option Value} {base : Heap} {f : Addr} {fd : FuncData}
theorem ok_moves (F : FnP K "moves" s_moves f fd) (h_begun : Has P w K mg base 1 "begun" p_begun (spBegun K)) (h_heard_of : Has P w K mg base 1 "heard_of" p_heard_of (spHeardOf K)) : FnOk P w K mg base CX0 2 f fd p_moves (spMoves K) := by
  refine F.ok sc_moves (fun vs H Q E h => ?_) (fun cdv A outer s H vs Q E hr h => ?_)
  · obtain ⟨lp, v, l, st, rfl, _⟩ := h
    rfl
  · obtain ⟨lp, v, l, st, rfl, hl, lo, hv, ok, k⟩ := h
    obtain ⟨a, b, rfl, ha, hb⟩ := ls_at hv
    have he := lo.e1
    have l3 := lo.l3
    refine ⟨_, PSs.nox (pss_cons (ps_set (i := 2) sc_moves.nd rfl (Or.inl rfl) (pe_lst pa_nil))
        (pss_cons (ps_for PassesOwn.never rfl (pi_list (pe_fn h_begun hr rfl (pa_cons (pv 0) (pa_cons (pv 1) pa_nil)))) (pg_tup rfl (pgs_cons (pg_name (i := 3) sc_moves.nd rfl (Or.inl rfl)) (pgs_cons (pg_name (i := 4) sc_moves.nd rfl (Or.inl rfl)) pgs_nil)))
          (pss_one (ps_for PassesOwn.never rfl (pi_list (pe_fn h_heard_of hr rfl (pa_cons (pv 0) (pa_cons (pv 3) pa_nil)))) (pg_tup rfl (pgs_cons (pg_name (i := 5) sc_moves.nd rfl (Or.inl rfl)) (pgs_cons (pg_name (i := 6) sc_moves.nd rfl (Or.inl rfl)) pgs_nil)))
            (pss_one (ps_expr (pe_bm PySem.F.plainAttrs_list PySem.F.slot_list_append PySem.F.type_list_append mt_append (pv 2) (pa_cons (pe_tup (pa_cons (pv 5) (pa_cons (pe_tup (pa_cons (pe_op op_mod (pe_op op_add (pe_ix ix_tup (pv 1) pe_int (fun _ _ => rfl)) pe_int) (pe_ix ix_tup (pv 0) pe_int (fun _ _ => rfl))) (pa_cons (pv 6) (pa_cons (pv 4) pa_nil)))) pa_nil))) pa_nil)))))))
        (pss_one (ps_ret (pv 2))))), ?_⟩
    refine ⟨szle (Nat.le_of_ble_eq_true rfl), fun fo nfo => ?_⟩
    have s0 : Same H (upd H fo (.lst [])) := Same.newB nfo
    refine ⟨_, rfl, _, rfl, lp, .ref a, l, st, rfl, s0.tupB hl, lo, Dp.same s0 _ _ hv, ok, fun bp H1 xB s1 nbp hbp hB => ?_⟩
    have fb : bp ≠ fo := Ne.symm (ne_of_none (upd_same (H := H) (a := fo) (o := .lst [])) nbp)
    let mv : List Nat × Nat → List (Nat × LS) := fun b => (heardL l b.1).map fun h => (h.1, ⟨(st.ph + 1) % l.each, h.2, b.2⟩)
    have small : ∀ b ∈ begunL l st, (mv b).length ≤ 5 := fun b hb => by
      show ((heardL l b.1).map _).length ≤ 5
      rw [List.length_map]
      have h1 := heardL_len l b.1
      have h2 := (begunL_mem hb ok).2.2.2
      omega
    have tot : ∀ (bs : List (List Nat × Nat)), (∀ b ∈ bs, (mv b).length ≤ 5) → (bs.flatMap mv).length ≤ 5 * bs.length := by
      intro bs
      induction bs with
      | nil => intro _; exact Nat.zero_le _
      | cons b bs ih =>
        intro h
        have h1 := h b List.mem_cons_self
        have h2 := ih fun c hc => h c (List.mem_cons_of_mem _ hc)
        rw [List.flatMap_cons, List.length_append, List.length_cons]
        omega
    have hb2 := begunL_len l st
    refine ⟨bp, rfl, ⟨_, SqL.of hbp⟩, for_list (K := K) (a := bp) (xs := xB) (fun i σ H' => Same H H' ∧ H' bp = some (.lst xB) ∧ DpAll K H' xB ((begunL l st).map bgD) ∧ ∃ v3 v4 v5 v6 ys, σ = [some (.ref lp), some (.ref a), some (.ref fo), v3, v4, v5, v6] ∧ H' fo = some (.lst ys) ∧ DpAll K H' ys ((((begunL l st).take i).flatMap mv).map mvD)) ⟨s0.trans s1, hbp, hB, none, none, none, none, [], rfl, s1 _ _ upd_same, .nil⟩ (fun i σ H' _ h => SqL.of h.2.1) ?_ ?_⟩
    · rintro i y σ H2 hi ⟨s2, hbp2, hB2, v3, v4, v5, v6, ys, rfl, hfo2, hD2⟩
      obtain ⟨d, hd, hy⟩ := dpAll_get hB2 hi
      rw [List.getElem?_map] at hd
      obtain ⟨⟨ages, run⟩, hbg, rfl⟩ : ∃ q, (begunL l st)[i]? = some q ∧ bgD q = d := by
        cases e : (begunL l st)[i]? with
        | none => rw [e] at hd; cases hd
        | some q => rw [e] at hd; exact ⟨q, rfl, Option.some.inj hd⟩
      have hmem := List.mem_of_getElem? hbg
      obtain ⟨c1, c2, c3, c4⟩ := begunL_mem hmem ok
      obtain ⟨T, xT, rfl, hT, hT2⟩ := dp_tup hy
      obtain ⟨x1, x2, rfl, g1, g2⟩ := dpAll_two hT2
      obtain ⟨ag, rfl, hag⟩ := dp_intsD g1
      cases dp_int g2
      refine ⟨T, _, rfl, hT, rfl, _, _, rfl, _, _, rfl, rfl, ?_⟩
      refine ⟨_, rfl, _, rfl, lp, ag, l, ages, rfl, s2.tupB hl, lo, hag, by omega, fun hp H3 xH s3 nhp hhp hH => ?_⟩
      have fh : hp ≠ fo := Ne.symm (ne_of_none hfo2 nhp)
      have hhl : xH.length ≤ 5 := by
        have h1 := DpAll.len hH
        rw [List.length_map] at h1
        have h2 := heardL_len l ages
        omega
      have hbs : ((begunL l st).take i).length ≤ 2 := by rw [List.length_take]; omega
      have hf2 := tot ((begunL l st).take i) (fun b hb => small b (List.mem_of_mem_take hb))
      refine ⟨hp, rfl, ⟨_, SqL.of hhp⟩, for_list (K := K) (a := hp) (xs := xH) (fun j σ H' => Same H H' ∧ H' bp = some (.lst xB) ∧ DpAll K H' xB ((begunL l st).map bgD) ∧ H' hp = some (.lst xH) ∧ DpAll K H' xH ((heardL l ages).map hdD) ∧ ∃ v5 v6 ys, σ = [some (.ref lp), some (.ref a), some (.ref fo), some (.ref ag), some (.int run), v5, v6] ∧ H' fo = some (.lst ys) ∧ DpAll K H' ys ((((begunL l st).take i).flatMap mv ++ ((heardL l ages).take j).map fun (h : Nat × List Nat) => (h.1, (⟨(st.ph + 1) % l.each, h.2, run⟩ : LS))).map mvD)) ?_ (fun j σ H' _ h => SqL.of h.2.2.2.1) ?_ ?_⟩
      · refine ⟨s2.trans s3, s3 _ _ hbp2, DpAll.same s3 hB2, hhp, hH, _, _, ys, rfl, s3 _ _ hfo2, ?_⟩
        rw [List.take_zero, List.map_nil, List.append_nil]
        exact DpAll.same s3 hD2
      · rintro j y σ H4 hj ⟨s4, hbp4, hB4, hhp4, hH4, v5, v6, ys4, rfl, hfo4, hD4⟩
        have hjl := (List.getElem?_eq_some_iff.mp hj).1
        obtain ⟨d, hd, hy⟩ := dpAll_get hH4 hj
        rw [List.getElem?_map] at hd
        obtain ⟨⟨m, left⟩, hhd, rfl⟩ : ∃ q, (heardL l ages)[j]? = some q ∧ hdD q = d := by
          cases e : (heardL l ages)[j]? with
          | none => rw [e] at hd; cases hd
          | some q => rw [e] at hd; exact ⟨q, rfl, Option.some.inj hd⟩
        obtain ⟨T, xT, rfl, hT, hT2⟩ := dp_tup hy
        obtain ⟨x1, x2, rfl, g1, g2⟩ := dpAll_two hT2
        obtain ⟨lf, rfl, hlf⟩ := dp_intsD g2
        cases dp_int g1
        refine ⟨T, _, rfl, hT, rfl, _, _, rfl, _, _, rfl, rfl, ?_⟩
        refine ⟨_, rfl, Or.inl ⟨rfl, _, SqL.of hfo4⟩, _, rfl, _, rfl, a, _, _, _, rfl, rfl, s4.tupB ha, atI_nat (j := 0) rfl, _, _, rfl, rfl, _, rfl, lp, _, _, _, rfl, rfl, s4.tupB hl, atI_nat (j := 0) rfl, _, _, rfl, rfl, by omega, _, rfl, _, rfl, szle (Nat.le_of_ble_eq_true rfl), fun T2 nT2 => ⟨szle (Nat.le_of_ble_eq_true rfl), fun T3 nT3 => ?_⟩⟩
        have eM : ((st.ph : Int) + 1) % (l.each : Int) = (((st.ph + 1) % l.each : Nat) : Int) := by
          rw [Int.natCast_emod]
          rfl
        have s5 := (Same.newB (o := .tup [.int (((st.ph : Int) + 1) % (l.each : Int)), .ref lf, .int run]) nT2).moreB (o := .tup [.int m, .ref T2]) nT3
        have hyl : ys4.length ≤ 20 := by
          have h1 := DpAll.len hD4
          rw [List.length_map, List.length_append, List.length_map, List.length_take] at h1
          omega
        have s05 := s4.trans s5
        have hfo5 := s5 _ _ hfo4
        have kk := keepL (ys := ys4 ++ [.ref T3]) hfo5
        refine ⟨fo, ys4, _, rfl, rfl, hfo5, szlt (by omega), s05.mutB nfo, by rw [upd_ne fb]; exact s5 _ _ hbp4, DpAll.keepL kk (DpAll.same s5 hB4) (map_noL bgD_noL _), by rw [upd_ne fh]; exact s5 _ _ hhp4, DpAll.keepL kk (DpAll.same s5 hH4) (map_noL hdD_noL _), _, _, _, rfl, upd_same, ?_⟩
        have eT : (heardL l ages).take (j + 1) = (heardL l ages).take j ++ [(m, left)] := by rw [List.take_succ, hhd]; rfl
        have eF : ((((begunL l st).take i).flatMap mv ++ ((heardL l ages).take (j + 1)).map fun (h : Nat × List Nat) => (h.1, (⟨(st.ph + 1) % l.each, h.2, run⟩ : LS))).map mvD) = ((((begunL l st).take i).flatMap mv ++ ((heardL l ages).take j).map fun (h : Nat × List Nat) => (h.1, (⟨(st.ph + 1) % l.each, h.2, run⟩ : LS))).map mvD) ++ [mvD (m, ⟨(st.ph + 1) % l.each, left, run⟩)] := by
          rw [eT]
          simp only [List.map_append, List.append_assoc, List.map_cons, List.map_nil]
        rw [eF]
        refine DpAll.keepL kk (DpAll.snoc (DpAll.same s5 hD4) ?_) ?_
        · refine .tup (SqT.of upd_same) (.cons (.int _) (.cons ?_ .nil))
          refine ls_mk (s := ⟨(st.ph + 1) % l.each, left, run⟩) (b := lf) (SqT.of ?_) (s5.tupB hlf)
          rw [(Same.newB nT3) _ _ upd_same]
          show some (HO.tup [V.int (((st.ph : Int) + 1) % (l.each : Int)), V.ref lf, V.int run]) = some (HO.tup [V.int (((st.ph + 1) % l.each : Nat) : Int), V.ref lf, V.int run])
          rw [eM]
        · intro d hd
          rcases List.mem_append.mp hd with hd | hd
          · exact map_noL mvD_noL _ d hd
          · rcases List.mem_cons.mp hd with rfl | hd
            · exact mvD_noL _
            · cases hd
      · rintro σ H4 ⟨s4, hbp4, hB4, hhp4, hH4, v5, v6, ys4, rfl, hfo4, hD4⟩
        refine ⟨s4, hbp4, hB4, _, _, _, _, ys4, rfl, hfo4, ?_⟩
        have hln : xH.length = (heardL l ages).length := by
          have h1 := DpAll.len hH
          rw [List.length_map] at h1
          exact h1
        rw [hln, List.take_length] at hD4
        have eT : (begunL l st).take (i + 1) = (begunL l st).take i ++ [(ages, run)] := by rw [List.take_succ, hbg]; rfl
        rw [eT, List.flatMap_append]
        have e2 : [(ages, run)].flatMap mv = (heardL l ages).map fun h => (h.1, ⟨(st.ph + 1) % l.each, h.2, run⟩) := by
          rw [List.flatMap_cons, List.flatMap_nil, List.append_nil]
        rw [e2]
        exact hD4
    · rintro σ H2 ⟨s2, hbp2, hB2, v3, v4, v5, v6, ys, rfl, hfo2, hD2⟩
      have hln : xB.length = (begunL l st).length := by
        have h1 := DpAll.len hB
        rw [List.length_map] at h1
        exact h1
      rw [hln, List.take_length] at hD2
      exact ⟨_, rfl, k fo H2 ys s2 nfo hfo2 hD2⟩
end
end Bw

set_option Elab.async false
set_option linter.all false
set_option maxRecDepth 100000
set_option maxHeartbeats 4000000
namespace Bw
open PySem PySem.Spec PyProof.Rows L2
section
variable {P : Program} {w : World} {K : PySem.W.Frag} {mg : Str → Option Value} {base : Heap} {f : Addr} {fd : FuncData}
theorem ok_may {aF : Addr} (F : FnP K "may" s_may f fd) (g_len : mg "len" = none) (g_FIRST : mg "FIRST" = some (.ref aF)) (hFI : ∀ H : Hp, Dp K H (.ref aF) (lsD LS.first))
    (h_need_line : Has P w K mg base 1 "need_line" ["line"] (spNeedLine K)) (h_need_heard : Has P w K mg base 1 "need_heard" ["heard"] (spNeedHeard K)) (h_moves : Has P w K mg base 2 "moves" p_moves (spMoves K)) : FnOk P w K mg base CX0 3 f fd p_may (spMay K) := by
  refine F.ok sc_may (fun vs H Q E h => ?_) (fun cdv A outer s H vs Q E hr h => ?_)
  · obtain ⟨lp, hp, l, hs, rfl, _⟩ := h
    rfl
  · obtain ⟨lp, hp, l, hs, rfl, hl, lo, hh, ho, k⟩ := h
    have he := lo.e1
    refine ⟨_, PSs.nox (pss_cons (ps_expr (pe_fn h_need_line hr rfl (pa_cons (pv 0) pa_nil)))
        (pss_cons (ps_expr (pe_fn h_need_heard hr rfl (pa_cons (pv 1) pa_nil)))
        (pss_cons (ps_set (i := 2) sc_may.nd rfl (Or.inl rfl) (pe_nd1 (hu20 hr) (pe_gR rfl g_FIRST) pe_bl))
        (pss_cons (ps_for PassesOwn.never rfl (pi_list (pv 1)) (pg_name (i := 3) sc_may.nd rfl (Or.inl rfl))
          (pss_cons (ps_set (i := 4) sc_may.nd rfl (Or.inl rfl) pe_nd0)
            (pss_cons (ps_for PassesOwn.never rfl (pi_nd (pv 2)) (pg_name (i := 5) sc_may.nd rfl (Or.inl rfl))
              (pss_one (ps_for PassesOwn.never rfl (pi_list (pe_fn h_moves hr rfl (pa_cons (pv 0) (pa_cons (pv 5) pa_nil)))) (pg_tup rfl (pgs_cons (pg_name (i := 6) sc_may.nd rfl (Or.inl rfl)) (pgs_cons (pg_name (i := 7) sc_may.nd rfl (Or.inl rfl)) pgs_nil)))
                (pss_one (ps_if (pt_cmpR op_eq (pv 6) (pv 3) (nomark _))
                  (pss_one (ps_asg pe_bl (pg_sub (pv 4) (pv 7) (set_nd (hu20 hr)))))
                  pss_nil)))))
            (pss_one (ps_set (i := 2) sc_may.nd rfl (Or.inl rfl) (pv 4))))))
        (pss_one (ps_ret (pe_cmpR op_gt (pe_callB call_lenND (by rfl) g_len (by decide +kernel) (pa_cons (pv 2) pa_nil)) pe_int (nomark _)))))))), ?_⟩
    refine ⟨_, rfl, lp, l, rfl, hl, lo, ?_⟩
    refine ⟨_, rfl, hp, hs, rfl, hh, ho, fun H1 s1 => ?_⟩
    refine fun lv o1 nlv hn => ⟨lsK LS.first, hn, ls_key (hFI _), fun o2 hn2 => ?_⟩
    rw [upd_upd] at hn2 ⊢
    have nlv0 : H lv = none := s1.free nlv
    have few : ∀ (w : List Int) (ss : List LS), ss.Nodup → (∀ x ∈ ss, ∃ w, PathL l LS.first w x) → ss.length ≤ 1500 := fun w ss hn h => ls_few lo hn fun x hx => by
      obtain ⟨w, hw⟩ := h x hx
      exact path_ok he (first_ok he) hw
    have nod : ∀ {H : Hp} {d : Addr} {ss : List LS}, Nd P w K H d (ss.map fun a => (lsK a, V.bl true)) → ss.Nodup := fun {H d ss} h => by
      obtain ⟨o, h⟩ := h
      have := h.nodup
      rw [List.map_map] at this
      exact List.Pairwise.of_map _ (fun a b h e => h (congrArg _ e)) this
    refine ⟨_, rfl, hp, rfl, ⟨_, ((s1.trans (Same.newB nlv)).seq hh)⟩, for_list (K := K) (a := hp) (xs := hs.map V.int) (fun i σ H' => Same H H' ∧ ∃ (lv : Addr) (ss : List LS) (v3 v4 v5 v6 v7 : Option V), σ = [some (.ref lp), some (.ref hp), some (.ref lv), v3, v4, v5, v6, v7] ∧ H lv = none ∧ Nd P w K H' lv (ss.map fun a => (lsK a, V.bl true)) ∧ ∀ x, x ∈ ss ↔ PathL l LS.first (hs.take i) x) ?_ (fun i σ H' _ h => h.1.seq hh) ?_ ?_⟩
    · refine ⟨s1.trans (Same.newB nlv), lv, [LS.first], none, none, none, none, none, rfl, nlv0, ⟨o2, hn2⟩, fun x => ?_⟩
      rw [List.mem_singleton]
      exact ⟨fun e => e ▸ rfl, fun e => Eq.symm e⟩
    · rintro i y σ H2 hi ⟨s2, lv, ss, v3, v4, v5, v6, v7, rfl, nlv, hnd, hss⟩
      obtain ⟨m, hm, rfl⟩ := int_at hi
      obtain ⟨oL, hndA⟩ := hnd
      have et : hs.take (i + 1) = hs.take i ++ [m] := by rw [List.take_succ, hm]; rfl
      refine fun bh ob nbh hbh => ?_
      have nbh0 : H bh = none := s2.free nbh
      have lb : lv ≠ bh := ne_of_none hndA.here nbh
      let mv : LS → List LS := fun s => (movesL l s).filterMap fun q => if (q.1 : Int) = m then some q.2 else none
      have mvm : ∀ s x, x ∈ mv s ↔ ∃ c, (c, x) ∈ movesL l s ∧ m = (c : Int) := fun s x => by
        show x ∈ (movesL l s).filterMap _ ↔ _
        rw [List.mem_filterMap]
        constructor
        · rintro ⟨⟨c, t⟩, hq, h⟩
          split at h
          · rename_i hc
            have h' : t = x := Option.some.inj h
            subst h'
            exact ⟨c, hq, Eq.symm hc⟩
          · cases h
        · rintro ⟨c, hq, hc⟩
          exact ⟨(c, x), hq, if_pos (Eq.symm hc)⟩
      have okS : ∀ x ∈ ss, LSok l x := fun x hx => path_ok he (first_ok he) ((hss x).mp hx)
      refine ⟨_, rfl, lv, oL, _, rfl, hndA.same (Same.newB nbh), ?_⟩
      refine for_it walk_nd (fun j σ H' => Same H H' ∧ NdAt P w K H' lv oL (ss.map fun a => (lsK a, V.bl true)) ∧ ∃ (sb : List LS) (v5 v6 v7 : Option V), σ = [some (.ref lp), some (.ref hp), some (.ref lv), some (.int m), some (.ref bh), v5, v6, v7] ∧ Nd P w K H' bh (sb.map fun a => (lsK a, V.bl true)) ∧ ∀ x, x ∈ sb ↔ x ∈ (ss.take j).flatMap mv) ?_ (fun j σ H' _ h => h.2.1) ?_ ?_
      · exact ⟨s2.moreB nbh, hndA.same (Same.newB nbh), [], _, _, _, rfl, ⟨_, hbh⟩, fun x => Iff.rfl⟩
      · rintro j y σ H3' H3 hj ⟨s3, hL3, sb, v5, v6, v7, rfl, hB3, hsb⟩ ⟨rfl, kk, vv, hkv, hky⟩
        rw [List.length_map] at hj
        rw [List.getElem?_map, List.getElem?_eq_getElem hj] at hkv
        have hkv' : (lsK ss[j], V.bl true) = (kk, vv) := Option.some.inj hkv
        injection hkv' with e1 e2
        subst e1
        have hjm : ss[j] ∈ ss := List.getElem_mem hj
        have okj := okS _ hjm
        have eTk : ss.take (j + 1) = ss.take j ++ [ss[j]] := by rw [List.take_succ, List.getElem?_eq_getElem hj]; rfl
        generalize ss[j] = sj at *
        have hyD : Dp K H3 y (lsD sj) := by
          have := hky.dp
          rw [lsK_data] at this
          exact this
        refine ⟨_, rfl, _, rfl, lp, y, l, sj, rfl, s3.tupB hl, lo, hyD, okj, fun mp H4 xM s4 nmp hmp hM => ?_⟩
        obtain ⟨oB3, hB3A⟩ := hB3
        have mb : mp ≠ bh := Ne.symm (ne_of_none hB3A.here nmp)
        have hml : xM.length = (movesL l sj).length := by
          have h1 := DpAll.len hM
          rw [List.length_map] at h1
          exact h1
        refine ⟨mp, rfl, ⟨_, SqL.of hmp⟩, for_list (K := K) (a := mp) (xs := xM) (fun q σ H' => Same H H' ∧ NdAt P w K H' lv oL (ss.map fun a => (lsK a, V.bl true)) ∧ H' mp = some (.lst xM) ∧ DpAll K H' xM ((movesL l sj).map mvD) ∧ ∃ (sb : List LS) (v6 v7 : Option V), σ = [some (.ref lp), some (.ref hp), some (.ref lv), some (.int m), some (.ref bh), some y, v6, v7] ∧ Nd P w K H' bh (sb.map fun a => (lsK a, V.bl true)) ∧ ∀ x, x ∈ sb ↔ x ∈ (ss.take j).flatMap mv ∨ x ∈ ((movesL l sj).take q).filterMap fun q => if (q.1 : Int) = m then some q.2 else none) ?_ (fun q σ H' _ h => SqL.of h.2.2.1) ?_ ?_⟩
        · refine ⟨s3.trans s4, hL3.same s4, hmp, hM, sb, _, _, rfl, ⟨_, hB3A.same s4⟩, fun x => ?_⟩
          rw [hsb x]
          exact ⟨.inl, fun h => h.elim id (fun h => nomatch h)⟩
        · rintro q y2 σ H5 hq ⟨s5, hL5, hmp5, hM5, sb5, v6, v7, rfl, hB5, hsb5⟩
          obtain ⟨d, hd, hy2⟩ := dpAll_get hM5 hq
          rw [List.getElem?_map] at hd
          obtain ⟨⟨c, t⟩, hct, rfl⟩ : ∃ r, (movesL l sj)[q]? = some r ∧ mvD r = d := by
            cases e : (movesL l sj)[q]? with
            | none => rw [e] at hd; cases hd
            | some r => rw [e] at hd; exact ⟨r, rfl, Option.some.inj hd⟩
          have eT2 : (movesL l sj).take (q + 1) = (movesL l sj).take q ++ [(c, t)] := by rw [List.take_succ, hct]; rfl
          obtain ⟨T, xT, rfl, hT, hT2⟩ := dp_tup hy2
          obtain ⟨x1, x2, rfl, g1, g2⟩ := dpAll_two hT2
          cases dp_int g1
          refine ⟨T, _, rfl, hT, rfl, _, _, rfl, _, _, rfl, rfl, ?_⟩
          refine ⟨_, rfl, _, rfl, rfl, _, rfl, iteD (fun hc => ?_) (fun hc => ?_)⟩
          · have hc' : (c : Int) = m := V.int.inj hc
            have hlen : (sb5.map fun a => (lsK a, V.bl true)).length ≤ 1500 := by
              rw [List.length_map]
              refine few (hs.take i) sb5 (nod hB5) fun x hx => ?_
              rcases (hsb5 x).mp hx with h | h
              · obtain ⟨s', hs', hx'⟩ := List.mem_flatMap.mp h
                obtain ⟨c', hc1, hc2⟩ := (mvm s' x).mp hx'
                exact ⟨hs.take i ++ [m], (path_snoc l m x _ _).mpr ⟨s', c', (hss s').mp (List.mem_of_mem_take hs'), hc1, hc2⟩⟩
              · have hx' : x ∈ mv sj := List.Sublist.subset (List.Sublist.filterMap _ (List.take_sublist _ _)) h
                obtain ⟨c', hc1, hc2⟩ := (mvm sj x).mp hx'
                exact ⟨hs.take i ++ [m], (path_snoc l m x _ _).mpr ⟨sj, c', (hss sj).mp hjm, hc1, hc2⟩⟩
            refine ⟨_, rfl, _, rfl, bh, _, lsK t, rfl, hB5, ls_key g2, Nat.lt_of_le_of_lt hlen (by decide), fun o' hn' => ?_⟩
            rw [putK_set lsK (fun a b => lsK_inj) (V.bl true) sb5 t] at hn'
            obtain ⟨oB5, hB5A⟩ := hB5
            have tk : TK H5 (upd H5 bh (PinO bh o')) := TK.upd hB5A.here (pin_notT _ _)
            refine ⟨s5.mutB nbh0, hL5.keep tk (by rw [upd_ne lb]; exact hL5.here), by rw [upd_ne mb]; exact hmp5, DpAll.keepT tk hM5 (map_noL mvD_noL _), _, _, _, rfl, ⟨_, hn'⟩, fun x => ?_⟩
            rw [addS_mem, hsb5 x, eT2, List.filterMap_append, List.mem_append, List.filterMap_cons, if_pos hc', List.filterMap_nil, List.mem_singleton, or_assoc]
          · have hc' : ¬ (c : Int) = m := fun e => hc (by rw [e])
            refine ⟨s5, hL5, hmp5, hM5, _, _, _, rfl, hB5, fun x => ?_⟩
            rw [hsb5 x, eT2, List.filterMap_append, List.mem_append, List.filterMap_cons, if_neg hc', List.filterMap_nil]
            exact ⟨fun h => h.elim .inl (fun h => .inr (.inl h)), fun h => h.elim .inl (fun h => h.elim .inr (fun h => nomatch h))⟩
        · rintro σ H5 ⟨s5, hL5, hmp5, hM5, sb5, v6, v7, rfl, hB5, hsb5⟩
          refine ⟨s5, hL5, sb5, _, _, _, rfl, hB5, fun x => ?_⟩
          rw [hsb5 x, hml, List.take_length, eTk, List.flatMap_append, List.mem_append, List.flatMap_cons, List.flatMap_nil, List.append_nil]
      · rintro σ H3 ⟨s3, hL3, sb, v5, v6, v7, rfl, hB3, hsb⟩
        refine ⟨_, rfl, s3, bh, sb, _, _, _, _, _, rfl, nbh0, hB3, fun x => ?_⟩
        rw [List.length_map, List.take_length] at hsb
        rw [hsb x, List.mem_flatMap, et, path_snoc]
        constructor
        · rintro ⟨s', hs', hx⟩
          obtain ⟨c, h1, h2⟩ := (mvm s' x).mp hx
          exact ⟨s', c, (hss s').mp hs', h1, h2⟩
        · rintro ⟨s', c, h1, h2, h3⟩
          exact ⟨s', (hss s').mpr h1, (mvm s' x).mpr ⟨c, h2, h3⟩⟩
    · rintro σ H2 ⟨s2, lv, ss, v3, v4, v5, v6, v7, rfl, nlv, hnd, hss⟩
      rw [List.length_map, List.take_length] at hss
      refine ⟨_, rfl, lv, _, rfl, hnd, _, _, rfl, rfl, ?_⟩
      refine k _ H2 s2 ?_
      rw [← path_may he, decide_eq_true_eq, List.length_map]
      constructor
      · intro h
        cases ss with
        | nil => exact absurd h (by simp)
        | cons x ss => exact ⟨x, (hss x).mp List.mem_cons_self⟩
      · rintro ⟨t, ht⟩
        have := (hss t).mpr ht
        cases ss with
        | nil => cases this
        | cons x ss => simp
end
end Bw

set_option Elab.async false
set_option linter.all false
set_option maxRecDepth 100000
set_option maxHeartbeats 4000000
namespace Bw
open PySem PySem.Spec PyProof.Rows L2
section
variable {P : Program} {w : World} {K : PySem.W.Frag} {mg : Str → Option Value} {base : Heap} {f : Addr} {fd : FuncData}
theorem mem_next {α : Type} {A B C : List α} {fE : Nat → Option α} {d : Nat} {y x : α} (h : fE d = some y) (e : C = B ++ [d].filterMap fE) : x ∈ A ++ C ↔ x ∈ A ++ B ∨ x = y := by
  have e2 : [d].filterMap fE = [y] := by
    rw [List.filterMap_cons, h]
    rfl
  rw [e, e2, ← List.append_assoc, List.mem_append, List.mem_singleton]
theorem ok__law_may (F : FnP K "_law_may" s__law_may f fd) (g_tuple : mg "tuple" = none) (g_range : mg "range" = none) (g_len : mg "len" = none) (g_min : mg "min" = none) (g_sum : mg "sum" = none) : FnOk P w K mg base CX0 1 f fd p__law_may (spLMay K) := by
  refine F.ok sc__law_may (fun vs H Q E h => ?_) (fun cdv A outer s H vs Q E hr h => ?_)
  · obtain ⟨lp, hp, l, hs, th, rfl, _⟩ := h
    rfl
  · obtain ⟨lp, hp, l, hs, th, rfl, hl, lo, hh, hln, h0, hth, k⟩ := h
    have he := lo.e1
    have he4 := lo.e4
    have hl3 := lo.l3
    refine ⟨_, PSs.nox (pss_cons (ps_set (i := 3) sc__law_may.nd rfl (Or.inl rfl) (pe_nd1 (hu20 hr) (pe_tup (pa_cons pe_int (pa_cons (pe_callTy call_tuple_of (by rfl) g_tuple (by decide +kernel) (pa_cons (pv 1) pa_nil)) pa_nil))) pe_bl))
        (pss_cons (ps_for PassesOwn.never rfl (pi_range3 rfl g_range (pa_cons pe_int (pa_cons (pe_callB (call_min2 rfl) (by rfl) g_min (by decide +kernel) (pa_cons (pv 2) (pa_cons (pe_callB call_len_seq (by rfl) g_len (by decide +kernel) (pa_cons (pv 1) pa_nil)) pa_nil))) (pa_cons (pe_ix ix_tup (pv 0) pe_int (fun _ _ => rfl)) pa_nil)))) (pg_name (i := 4) sc__law_may.nd rfl (Or.inl rfl))
          (pss_cons (ps_set (i := 5) sc__law_may.nd rfl (Or.inl rfl) pe_nd0)
            (pss_cons (ps_for PassesOwn.never rfl (pi_nd (pv 3)) (pg_tup rfl (pgs_cons (pg_name (i := 6) sc__law_may.nd rfl (Or.inl rfl)) (pgs_cons (pg_name (i := 7) sc__law_may.nd rfl (Or.inl rfl)) pgs_nil)))
              (pss_one (ps_if (pt_cmpR op_eq (pe_callB (cr_sumT rfl) (by rfl) g_sum (by decide +kernel) (pa_cons (pe_slice sl_tupU (pv 7) po_none (po_some (pv 4))) pa_nil)) pe_int (nomark _))
                (Evl.pss_cut (ps_if (pt_cmpR op_lt (pv 6) (pe_ix ix_tup (pv 0) pe_int (fun _ _ => rfl)) (nomark _))
                    (pss_one (ps_asg pe_bl (pg_sub (pv 5) (pe_tup (pa_cons (pe_op op_add (pv 6) pe_int) (pa_cons (pv 7) pa_nil))) (set_nd (hu20 hr)))))
                    pss_nil)
                  (pss_one (ps_for PassesOwn.never rfl (pi_range2 rfl g_range (pa_cons (pv 4) (pa_cons (pe_op op_add (pe_op op_add (pv 4) (pe_ix ix_tup (pv 0) pe_int (fun _ _ => rfl))) pe_int) pa_nil))) (pg_name (i := 8) sc__law_may.nd rfl (Or.inl rfl))
                    (pss_one (ps_if (pt_cmpR op_ge (pv 8) (pe_callB call_len_seq (by rfl) g_len (by decide +kernel) (pa_cons (pv 1) pa_nil)) (nomark _))
                      (pss_one (ps_asg pe_bl (pg_sub (pv 5) (pe_tup (pa_cons pe_int (pa_cons (pv 7) pa_nil))) (set_nd (hu20 hr)))))
                      (pss_one (ps_if (pt_cmpR op_gt (pe_ix ix_tup (pv 7) (pv 8) (fun _ _ => rfl)) pe_int (nomark _))
                        (pss_one (ps_asg pe_bl (pg_sub (pv 5) (pe_tup (pa_cons pe_int (pa_cons (pe_op op_catU (pe_op op_catU (pe_slice sl_tupU (pv 7) po_none (po_some (pv 8))) (pe_tup (pa_cons (pe_op op_sub (pe_ix ix_tup (pv 7) (pv 8) (fun _ _ => rfl)) pe_int) pa_nil))) (pe_slice sl_tupU (pv 7) (po_some (pe_op op_add (pv 8) pe_int)) po_none)) pa_nil))) (set_nd (hu20 hr)))))
                        pss_nil)))))))
                pss_nil)))
            (pss_one (ps_set (i := 3) sc__law_may.nd rfl (Or.inl rfl) (pv 5))))))
        (pss_one (ps_ret (pe_cmpR (op_neD hr.units) (pe_lc (own := [("_law_pair", 9)]) (g := gName 9) rfl sc__law_may.nd (pi_nd (pv 3)) (blkOk_by (own := [("_law_pair", 9)]) (N := n__law_may) (sc := defScope s__law_may) (by decide +kernel)) (fun _ _ _ _ _ => (pg_name (i := 9) sc__law_may.nd rfl (Or.inl rfl))) (fun _ _ _ _ _ => (pts_one (pt_cmpR op_eq (pe_callB (r := rSumT K) (cr_sumT rfl) (by rfl) g_sum (by decide +kernel) (pa_cons (pe_ix (r := rIxT K) ix_tup (pv 9) pe_int (fun _ _ => rfl)) pa_nil)) pe_int (nomark _)))) (fun _ _ _ _ _ => (pv 9))) (pe_lst pa_nil) (nomark _)))))), ?_⟩
    have hL : (hs.map V.int).length = hs.length := List.length_map _
    refine fun lv o1 nlv hn => ⟨_, rfl, hp, _, rfl, Or.inl ⟨(Same.newB nlv).seq hh, fun tp ntp => ⟨szle (Nat.le_of_ble_eq_true rfl), fun T nT => ?_⟩⟩⟩
    have sA := (Same.newB (o := .tup (hs.map V.int)) ntp).moreB (o := .tup [.int 0, .ref tp]) nT
    refine ⟨prK (0, hs), hn.same sA, pr_key (pr_mk (q := (0, hs)) (b := tp) (SqT.of upd_same) (SqT.of ((Same.newB nT) _ _ upd_same))), fun o2 hn2 => ?_⟩
    have s1 : Same H (upd (upd (upd (upd H lv (PinO lv o1)) tp (.tup (hs.map V.int))) T (.tup [.int 0, .ref tp])) lv (PinO lv o2)) := ((Same.newB nlv).trans sA).mutB nlv
    revert s1 hn2
    generalize (upd (upd (upd (upd H lv (PinO lv o1)) tp (.tup (hs.map V.int))) T (.tup [.int 0, .ref tp])) lv (PinO lv o2)) = H1
    intro hn2 s1
    have nod : ∀ {H : Hp} {d : Addr} {ss : List (Nat × List Int)}, Nd P w K H d (ss.map fun a => (prK a, V.bl true)) → ss.Nodup := fun {H d ss} h => by
      obtain ⟨o, h⟩ := h
      have := h.nodup
      rw [List.map_map] at this
      exact List.Pairwise.of_map _ (fun a b h e => h (congrArg _ e)) this
    refine ⟨_, rfl, _, rfl, hp, _, rfl, Or.inl (s1.seq hh), _, _, rfl, _, rfl, lp, _, _, _, rfl, rfl, s1.tupB hl, atI_nat (j := 0) rfl, 0, _, (l.each : Int), (th + l.each - 1) / l.each, rfl, ?_, ?_⟩
    · rw [if_neg (by rw [hL]; omega)]
      exact rgc_up2 (by omega) ⟨he, he4⟩
    refine for_rangeC (lo := 0) (c := (l.each : Int)) (n := (th + l.each - 1) / l.each) (fun i σ H' => Same H H' ∧ ∃ (lv : Addr) (ps : List (Nat × List Int)) (v4 v5 v6 v7 v8 v9 : Option V), σ = [some (.ref lp), some (.ref hp), some (.int th), some (.ref lv), v4, v5, v6, v7, v8, v9] ∧ H lv = none ∧ Nd P w K H' lv (ps.map fun a => (prK a, V.bl true)) ∧ ∀ q, q ∈ ps ↔ GAt l hs i q) ?_ ?_ ?_
    · refine ⟨s1, lv, [(0, hs)], none, none, none, none, none, none, rfl, nlv, ⟨o2, hn2⟩, fun q => ?_⟩
      rw [List.mem_singleton]
      constructor
      · rintro rfl
        exact ⟨[], .nil, rfl, (subL_nil _ _).symm⟩
      · rintro ⟨os, g1, g2, g3⟩
        have e : os = [] := List.length_eq_zero_iff.mp g2
        subst e
        rw [subL_nil] at g3
        obtain ⟨r, lf⟩ := q
        have g1' : GL l hs r [] := g1
        have g3' : lf = hs := g3
        subst g3'
        generalize hos : ([] : List (Option Nat)) = os at g1'
        cases g1' with
        | nil => rfl
        | lose => exact absurd hos (by simp)
        | hear => exact absurd hos (by simp)
    · rintro i σ H2 hi ⟨s2, lv, ps, v4, v5, v6, v7, v8, v9, rfl, nlv, hnd, hps⟩
      obtain ⟨oL, hndA⟩ := hnd
      have eS : (0 : Int) + (i : Int) * (l.each : Int) = ((i * l.each : Nat) : Int) := by
        push_cast
        omega
      have hib : i * l.each ≤ 100000 := by
        have := (lenOk_up (n := th) he i).mp hi
        omega
      refine fun bh ob nbh hbh => ?_
      have nbh0 : H bh = none := s2.free nbh
      have lb : lv ≠ bh := ne_of_none hndA.here nbh
      refine ⟨_, rfl, lv, oL, _, rfl, hndA.same (Same.newB nbh), ?_⟩
      refine for_it walk_nd (fun j σ H' => Same H H' ∧ NdAt P w K H' lv oL (ps.map fun a => (prK a, V.bl true)) ∧ ∃ (sb : List (Nat × List Int)) (v6 v7 v8 v9 : Option V), σ = [some (.ref lp), some (.ref hp), some (.int th), some (.ref lv), some (.int (0 + (i : Int) * (l.each : Int))), some (.ref bh), v6, v7, v8, v9] ∧ Nd P w K H' bh (sb.map fun a => (prK a, V.bl true)) ∧ ∀ x, x ∈ sb ↔ x ∈ (ps.take j).flatMap (extL l hs i)) ?_ (fun j σ H' _ h => h.2.1) ?_ ?_
      · exact ⟨s2.moreB nbh, hndA.same (Same.newB nbh), [], _, _, _, _, rfl, ⟨_, hbh⟩, fun x => Iff.rfl⟩
      · rintro j y σ H3' H3 hj ⟨s3, hL3, sb, v6, v7, v8, v9, rfl, hB3, hsb⟩ ⟨rfl, kk, vv, hkv, hky⟩
        rw [List.length_map] at hj
        rw [List.getElem?_map, List.getElem?_eq_getElem hj] at hkv
        have hkv' : (prK ps[j], V.bl true) = (kk, vv) := Option.some.inj hkv
        injection hkv' with e1 e2
        subst e1
        have hjm : ps[j] ∈ ps := List.getElem_mem hj
        have eTk : ps.take (j + 1) = ps.take j ++ [ps[j]] := by rw [List.take_succ, List.getElem?_eq_getElem hj]; rfl
        generalize ps[j] = qj at *
        have hyD : Dp K H3 y (prD qj) := by
          have := hky.dp
          rw [prK_data] at this
          exact this
        obtain ⟨T, lf, rfl, hT, hlf⟩ := pr_at hyD
        obtain ⟨r, left⟩ := qj
        have hG : GAt l hs i (r, left) := (hps _).mp hjm
        have hll : left.length = hs.length := by
          obtain ⟨os, _, _, h3⟩ := hG
          have h3' : left = subL hs l.each os := h3
          rw [h3', subL_len]
        have inExt : ∀ x, (x ∈ (ps.take j).flatMap (extL l hs i) ∨ x ∈ extL l hs i (r, left)) → GAt l hs (i + 1) x := fun x hx => by
          rcases hx with hx | hx
          · obtain ⟨q, hq, hx⟩ := List.mem_flatMap.mp hx
            exact (ext_at x).mpr ⟨q, (hps q).mp (List.mem_of_mem_take hq), hx⟩
          · exact (ext_at x).mpr ⟨_, hG, hx⟩
        refine ⟨T, _, rfl, hT, rfl, _, _, rfl, _, _, rfl, rfl, ?_⟩
        refine ⟨_, rfl, _, rfl, _, rfl, lf, _, rfl, hlf, fun p H4 s4 hp4 => ?_⟩
        rw [eS, cut_to] at hp4
        have s34 := s3.trans s4
        refine ⟨p, left.take (i * l.each), rfl, hp4, rfl, _, rfl, iteD (fun hz => ?_) (fun hz => ?_)⟩
        · have hz' : (left.take (i * l.each)).sum = 0 := V.int.inj hz
          have eE : extL l hs i (r, left) = (if r < l.lost then [(r + 1, left)] else []) ++ (List.range (l.late + 1)).filterMap fun d => if hs.length ≤ i * l.each + d then some (0, left) else if 0 < left.getD (i * l.each + d) 0 then some (0, left.set (i * l.each + d) (left.getD (i * l.each + d) 0 - 1)) else none := if_pos hz'
          generalize hF : (fun d : Nat => if hs.length ≤ i * l.each + d then some ((0 : Nat), left) else if 0 < left.getD (i * l.each + d) 0 then some (0, left.set (i * l.each + d) (left.getD (i * l.each + d) 0 - 1)) else none) = fE at *
          have hL4 := hL3.same s4
          have hB4 : Nd P w K H4 bh (sb.map fun a => (prK a, V.bl true)) := hB3.same s4
          have hlf4 := s4.tupB hlf
          refine ⟨fun σ' H' => Same H H' ∧ TK H4 H' ∧ NdAt P w K H' lv oL (ps.map fun a => (prK a, V.bl true)) ∧ ∃ (sb : List (Nat × List Int)), σ' = [some (.ref lp), some (.ref hp), some (.int th), some (.ref lv), some (.int (0 + (i : Int) * (l.each : Int))), some (.ref bh), some (.int r), some (.ref lf), v8, v9] ∧ Nd P w K H' bh (sb.map fun a => (prK a, V.bl true)) ∧ ∀ x, x ∈ sb ↔ x ∈ (ps.take j).flatMap (extL l hs i) ∨ x ∈ (if r < l.lost then [(r + 1, left)] else []), ?_, ?_⟩
          · refine ⟨_, rfl, _, rfl, lp, _, _, _, rfl, rfl, s34.tupB hl, atI_nat (j := 2) rfl, _, _, rfl, rfl, _, rfl, iteD (fun hr' => ?_) (fun hr' => ?_)⟩
            · have hr2 : r < l.lost := by
                have : ((r : Nat) : Int) < (l.lost : Int) := hr'
                omega
              refine ⟨_, rfl, _, rfl, _, _, rfl, rfl, _, rfl, szle (Nat.le_of_ble_eq_true rfl), fun T2 nT2 => ?_⟩
              have s5 : Same H4 (upd H4 T2 (.tup [.int ((r : Int) + 1), .ref lf])) := Same.newB nT2
              have hB5 := hB4.same s5
              have key : KeyV K (upd H4 T2 (.tup [.int ((r : Int) + 1), .ref lf])) (.ref T2) (prK (r + 1, left)) := pr_key (pr_mk (q := (r + 1, left)) (b := lf) (SqT.of upd_same) (s5.tupB hlf4))
              refine ⟨bh, _, prK (r + 1, left), rfl, hB5, key, ?_, fun o' hn' => ?_⟩
              · rw [List.length_map]
                exact Nat.lt_of_le_of_lt (gl_few lo h0 (i := i) (nod hB5) fun x hx => inExt x (.inl ((hsb x).mp hx))) (by decide)
              · rw [putK_set prK (fun a b => prK_inj) (V.bl true) sb (r + 1, left)] at hn'
                obtain ⟨oB5, hB5A⟩ := hB5
                have tk : TK (upd H4 T2 (.tup [.int ((r : Int) + 1), .ref lf])) (upd (upd H4 T2 (.tup [.int ((r : Int) + 1), .ref lf])) bh (PinO bh o')) := TK.upd hB5A.here (pin_notT _ _)
                refine ⟨(s34.trans s5).mutB nbh0, (TK.same s5).trans tk, (hL4.same s5).keep tk (by rw [upd_ne lb]; exact (hL4.same s5).here), _, rfl, ⟨_, hn'⟩, fun x => ?_⟩
                rw [addS_mem, hsb x, if_pos hr2, List.mem_singleton]
            · refine ⟨s34, TK.refl _, hL4, _, rfl, hB4, fun x => ?_⟩
              rw [hsb x, if_neg (by
                have : ¬ ((r : Nat) : Int) < (l.lost : Int) := hr'
                omega)]
              exact ⟨.inl, fun h => h.elim id (fun h => nomatch h)⟩
          · rintro σ' H5 ⟨s5, t45, hL5, sb5, rfl, hB5, hsb5⟩
            have hlf5 := t45.sqT hlf4
            refine ⟨_, rfl, _, rfl, _, rfl, lp, _, _, _, rfl, rfl, s5.tupB hl, atI_nat (j := 1) rfl, _, _, rfl, rfl, _, _, rfl, rfl, 0 + (i : Int) * (l.each : Int), _, rfl, ⟨by rw [eS]; omega, by rw [eS]; omega, by rw [eS]; omega, by rw [eS]; omega⟩, ?_⟩
            have eN : (0 + (i : Int) * (l.each : Int) + (l.late : Int) + 1 - (0 + (i : Int) * (l.each : Int))).toNat = l.late + 1 := by omega
            refine for_range (lo := 0 + (i : Int) * (l.each : Int)) (n := (0 + (i : Int) * (l.each : Int) + (l.late : Int) + 1 - (0 + (i : Int) * (l.each : Int))).toNat) (fun d σ H' => Same H H' ∧ SqT K H' lf (left.map V.int) ∧ NdAt P w K H' lv oL (ps.map fun a => (prK a, V.bl true)) ∧ ∃ (sb : List (Nat × List Int)) (v8 v9 : Option V), σ = [some (.ref lp), some (.ref hp), some (.int th), some (.ref lv), some (.int (0 + (i : Int) * (l.each : Int))), some (.ref bh), some (.int r), some (.ref lf), v8, v9] ∧ Nd P w K H' bh (sb.map fun a => (prK a, V.bl true)) ∧ ∀ x, x ∈ sb ↔ x ∈ (ps.take j).flatMap (extL l hs i) ∨ x ∈ (if r < l.lost then [(r + 1, left)] else []) ++ (List.range d).filterMap fE) ?_ ?_ ?_
            · refine ⟨s5, hlf5, hL5, sb5, _, _, rfl, hB5, fun x => ?_⟩
              rw [hsb5 x, List.range_zero, List.filterMap_nil, List.append_nil]
            · rintro d σ H6 hd ⟨s6, hlf6, hL6, sb6, u8, u9, rfl, hB6, hsb6⟩
              rw [eN] at hd
              have eA : 0 + (i : Int) * (l.each : Int) + (d : Int) = ((i * l.each + d : Nat) : Int) := by rw [eS]; push_cast; omega
              have eR : (List.range (d + 1)).filterMap fE = (List.range d).filterMap fE ++ [d].filterMap fE := by rw [List.range_succ, List.filterMap_append]
              have sub6 : ∀ x, x ∈ sb6 → GAt l hs (i + 1) x := fun x hx => by
                rcases (hsb6 x).mp hx with h | h
                · exact inExt x (.inl h)
                · refine inExt x (.inr ?_)
                  rw [eE]
                  rcases List.mem_append.mp h with h | h
                  · exact List.mem_append_left _ h
                  · refine List.mem_append_right _ ?_
                    obtain ⟨d', hd', e'⟩ := List.mem_filterMap.mp h
                    have := List.mem_range.mp hd'
                    exact List.mem_filterMap.mpr ⟨d', List.mem_range.mpr (by omega), e'⟩
              refine ⟨_, rfl, _, rfl, hp, _, rfl, Or.inl (s6.seq hh), _, _, rfl, rfl, _, rfl, iteD (fun hge => ?_) (fun hge => ?_)⟩
              · have hge' : hs.length ≤ i * l.each + d := by
                  rw [hL, eA] at hge
                  omega
                have efd : fE d = some (0, left) := by rw [← hF]; exact if_pos hge'
                refine ⟨_, rfl, _, rfl, szle (Nat.le_of_ble_eq_true rfl), fun T2 nT2 => ?_⟩
                have s7 : Same H6 (upd H6 T2 (.tup [.int 0, .ref lf])) := Same.newB nT2
                have hB7 := hB6.same s7
                have key : KeyV K (upd H6 T2 (.tup [.int 0, .ref lf])) (.ref T2) (prK (0, left)) := pr_key (pr_mk (q := (0, left)) (b := lf) (SqT.of upd_same) (s7.tupB hlf6))
                refine ⟨bh, _, prK (0, left), rfl, hB7, key, ?_, fun o' hn' => ?_⟩
                · rw [List.length_map]
                  exact Nat.lt_of_le_of_lt (gl_few lo h0 (i := i) (nod hB7) sub6) (by decide)
                · rw [putK_set prK (fun a b => prK_inj) (V.bl true) sb6 (0, left)] at hn'
                  obtain ⟨oB7, hB7A⟩ := hB7
                  have tk : TK (upd H6 T2 (.tup [.int 0, .ref lf])) (upd (upd H6 T2 (.tup [.int 0, .ref lf])) bh (PinO bh o')) := TK.upd hB7A.here (pin_notT _ _)
                  refine ⟨(s6.trans s7).mutB nbh0, tk.sqT (s7.tupB hlf6), (hL6.same s7).keep tk (by rw [upd_ne lb]; exact (hL6.same s7).here), _, _, _, rfl, ⟨_, hn'⟩, fun x => ?_⟩
                  rw [addS_mem, hsb6 x, mem_next efd eR, or_assoc]
              · have hlt : i * l.each + d < hs.length := by
                  rw [hL, eA] at hge
                  omega
                have hat : (left.map V.int)[i * l.each + d]? = some (.int (left.getD (i * l.each + d) 0)) := by
                  rw [List.getElem?_map, List.getD_eq_getElem?_getD, List.getElem?_eq_getElem (by omega)]
                  rfl
                refine ⟨_, rfl, _, rfl, lf, _, _, _, rfl, rfl, hlf6, by rw [eA]; exact atI_nat hat, _, _, rfl, rfl, _, rfl, iteD (fun hg => ?_) (fun hg => ?_)⟩
                · have efd : fE d = some (0, left.set (i * l.each + d) (left.getD (i * l.each + d) 0 - 1)) := by
                    rw [← hF]
                    show (if hs.length ≤ i * l.each + d then _ else if 0 < left.getD (i * l.each + d) 0 then _ else _) = _
                    rw [if_neg (by omega), if_pos hg]
                  refine ⟨_, rfl, _, rfl, _, rfl, _, rfl, lf, _, rfl, hlf6, fun p1 H7 s7 hp1 => ?_⟩
                  rw [eA, cut_to] at hp1
                  refine ⟨_, rfl, _, rfl, lf, _, _, _, rfl, rfl, s7.tupB hlf6, by rw [eA]; exact atI_nat hat, _, _, rfl, rfl, szle (Nat.le_of_ble_eq_true rfl), fun p2 np2 => ?_⟩
                  have s8 : Same H7 (upd H7 p2 (.tup [.int (left.getD (i * l.each + d) 0 - 1)])) := Same.newB np2
                  refine ⟨p1, p2, _, _, rfl, rfl, s8.tupB hp1, SqT.of upd_same, szle (by rw [List.length_map, List.length_take]; show _ + 1 ≤ _; omega), fun p3 H9 s9 hp3 => ?_⟩
                  refine ⟨_, rfl, _, rfl, _, _, rfl, rfl, _, rfl, lf, _, rfl, (s7.trans (s8.trans s9)).tupB hlf6, fun p4 H10 s10 hp4' => ?_⟩
                  have eA1 : 0 + (i : Int) * (l.each : Int) + (d : Int) + 1 = ((i * l.each + d + 1 : Nat) : Int) := by rw [eA]; push_cast; omega
                  rw [eA1, cut_from] at hp4'
                  refine ⟨p3, p4, _, _, rfl, rfl, s10.tupB hp3, hp4', szle (by rw [List.length_append, List.length_map, List.length_map, List.length_take, List.length_drop]; show _ + 1 + _ ≤ _; omega), fun p5 H11 s11 hp5 => ?_⟩
                  rw [set_cut (by omega)] at hp5
                  refine ⟨szle (Nat.le_of_ble_eq_true rfl), fun T2 nT2 => ?_⟩
                  have s12 : Same H11 (upd H11 T2 (.tup [.int 0, .ref p5])) := Same.newB nT2
                  have s612 := s7.trans (s8.trans (s9.trans (s10.trans (s11.trans s12))))
                  have hB7 := hB6.same s612
                  have key : KeyV K (upd H11 T2 (.tup [.int 0, .ref p5])) (.ref T2) (prK (0, left.set (i * l.each + d) (left.getD (i * l.each + d) 0 - 1))) := pr_key (pr_mk (q := (0, left.set (i * l.each + d) (left.getD (i * l.each + d) 0 - 1))) (b := p5) (SqT.of upd_same) (s12.tupB hp5))
                  refine ⟨bh, _, _, rfl, hB7, key, ?_, fun o' hn' => ?_⟩
                  · rw [List.length_map]
                    exact Nat.lt_of_le_of_lt (gl_few lo h0 (i := i) (nod hB7) sub6) (by decide)
                  · rw [putK_set prK (fun a b => prK_inj) (V.bl true) sb6] at hn'
                    obtain ⟨oB7, hB7A⟩ := hB7
                    have tk : TK (upd H11 T2 (.tup [.int 0, .ref p5])) (upd (upd H11 T2 (.tup [.int 0, .ref p5])) bh (PinO bh o')) := TK.upd hB7A.here (pin_notT _ _)
                    refine ⟨(s6.trans s612).mutB nbh0, tk.sqT (s612.tupB hlf6), (hL6.same s612).keep tk (by rw [upd_ne lb]; exact (hL6.same s612).here), _, _, _, rfl, ⟨_, hn'⟩, fun x => ?_⟩
                    rw [addS_mem, hsb6 x, mem_next efd eR, or_assoc]
                · have efd : fE d = none := by
                    rw [← hF]
                    show (if hs.length ≤ i * l.each + d then _ else if 0 < left.getD (i * l.each + d) 0 then _ else _) = _
                    rw [if_neg (by omega), if_neg hg]
                  refine ⟨s6, hlf6, hL6, sb6, _, _, rfl, hB6, fun x => ?_⟩
                  rw [hsb6 x, eR, List.filterMap_cons, efd, List.filterMap_nil, List.append_nil]
            · rintro σ H6 ⟨s6, hlf6, hL6, sb6, u8, u9, rfl, hB6, hsb6⟩
              refine ⟨s6, hL6, sb6, _, _, _, _, rfl, hB6, fun x => ?_⟩
              rw [hsb6 x, eN, ← eE, eTk, List.flatMap_append, List.mem_append, List.flatMap_cons, List.flatMap_nil, List.append_nil]
        · have hz' : ¬ (left.take (i * l.each)).sum = 0 := fun e => hz (by rw [e])
          have eE : extL l hs i (r, left) = [] := if_neg hz'
          refine ⟨s34, hL3.same s4, sb, _, _, _, _, rfl, hB3.same s4, fun x => ?_⟩
          rw [hsb x, eTk, List.flatMap_append, List.mem_append, List.flatMap_cons, List.flatMap_nil, eE]
          exact ⟨.inl, fun h => h.elim id (fun h => nomatch h)⟩
      · rintro σ H3 ⟨s3, hL3, sb, v6, v7, v8, v9, rfl, hB3, hsb⟩
        refine ⟨_, rfl, s3, bh, sb, _, _, _, _, _, _, rfl, nbh0, hB3, fun q => ?_⟩
        rw [List.length_map, List.take_length] at hsb
        rw [hsb q, List.mem_flatMap, ext_at]
        constructor
        · rintro ⟨q', h1, h2⟩
          exact ⟨q', (hps q').mp h1, h2⟩
        · rintro ⟨q', h1, h2⟩
          exact ⟨q', (hps q').mpr h1, h2⟩
    · rintro σ H2 ⟨s2, lv, ps, v4, v5, v6, v7, v8, v9, rfl, nlv, hnd, hps⟩
      obtain ⟨oL, hndA⟩ := hnd
      refine ⟨_, rfl, lv, oL, _, rfl, hndA, fun D nD => lc_it walk_nd (fun j H' => Same H2 H' ∧ ∃ zs, H' D = some (.lst zs) ∧ DpAll K H' zs (((ps.take j).filter fun q => decide (q.2.sum = 0)).map prD)) ⟨Same.newB nD, [], upd_same, .nil⟩ (fun j H' _ h => hndA.same h.1) ?_ ?_⟩
      · rintro j y H3' H3 hj ⟨s3, zs, ez, hz⟩ ⟨rfl, kk, vv, hkv, hky⟩
        have hsz := hndA.sz
        rw [List.length_map] at hj hsz
        rw [List.getElem?_map, List.getElem?_eq_getElem hj] at hkv
        have hkv' : (prK ps[j], V.bl true) = (kk, vv) := Option.some.inj hkv
        injection hkv' with e1 e2
        subst e1
        have eTk : ps.take (j + 1) = ps.take j ++ [ps[j]] := by rw [List.take_succ, List.getElem?_eq_getElem hj]; rfl
        generalize ps[j] = qj at *
        have hyD : Dp K H3 y (prD qj) := by
          have := hky.dp
          rw [prK_data] at this
          exact this
        obtain ⟨T, lf, rfl, hT, hlf⟩ := pr_at hyD
        have hzl : zs.length ≤ j := by
          have h1 := DpAll.len hz
          rw [List.length_map] at h1
          have h2 := List.length_filter_le (fun q : Nat × List Int => decide (q.2.sum = 0)) (ps.take j)
          rw [List.length_take] at h2
          omega
        refine ⟨rfl, _, rfl, T, _, _, _, rfl, rfl, hT, atI_nat (j := 1) rfl, lf, qj.2, rfl, hlf, rfl, _, rfl, iteD (fun h => ?_) (fun h => ?_)⟩
        · have h' : qj.2.sum = 0 := V.int.inj h
          refine ⟨_, rfl, zs, ez, by omega, s3.mutB nD, _, upd_same, ?_⟩
          rw [eTk, List.filter_append, List.filter_cons, if_pos (decide_eq_true h'), List.filter_nil, List.map_append]
          refine DpAll.keepL (keepL ez) (DpAll.snoc hz hyD) ?_
          intro d hd
          rcases List.mem_append.mp hd with hd | hd
          · exact map_noL prD_noL _ d hd
          · rcases List.mem_cons.mp hd with rfl | hd
            · exact prD_noL _
            · cases hd
        · have h' : ¬ qj.2.sum = 0 := fun e => h (by rw [e])
          refine ⟨s3, zs, ez, ?_⟩
          rw [eTk, List.filter_append, List.filter_cons, if_neg (by rw [decide_eq_false h']; decide), List.filter_nil, List.append_nil]
          exact hz
      · rintro H3 ⟨s3, zs, ez, hz⟩
        rw [List.length_map, List.take_length] at hz
        refine ⟨szle (Nat.le_of_ble_eq_true rfl), fun e ne => ⟨.list ((ps.filter fun (q : Nat × List Int) => decide (q.2.sum = 0)).map prD), .list [], .lst (SqL.of ((Same.newB ne) _ _ ez)) (DpAll.same (Same.newB ne) hz), .lst (SqL.of upd_same) .nil, Shp.ok (n := 3) (shp_list fun d hd => ?_) (by omega), PySem.W.ke_shaped_ints [], ?_⟩⟩
        · obtain ⟨q, _, rfl⟩ := List.mem_map.mp hd
          exact prD_shp q
        · refine k _ _ ((s2.trans s3).moreB ne) ?_
          rw [eqv_nilD, may_split hth, ← gl_may he h0, Nat.min_eq_left hth]
          constructor
          · intro h
            cases hf : ps.filter fun q => decide (q.2.sum = 0) with
            | nil => rw [hf] at h; exact absurd h (by simp)
            | cons q r =>
              have hq : q ∈ ps.filter fun q => decide (q.2.sum = 0) := by rw [hf]; exact List.mem_cons_self
              obtain ⟨h1, h2⟩ := List.mem_filter.mp hq
              obtain ⟨os, g1, g2, g3⟩ := (hps q).mp h1
              exact ⟨q.1, os, g1, g2, by rw [← g3]; exact of_decide_eq_true h2⟩
          · rintro ⟨r, os, g1, g2, g3⟩
            have hm : (r, subL hs l.each os) ∈ ps := (hps _).mpr ⟨os, g1, g2, rfl⟩
            cases hf : ps.filter fun q => decide (q.2.sum = 0) with
            | nil =>
              have hq : (r, subL hs l.each os) ∈ ps.filter fun q => decide (q.2.sum = 0) := List.mem_filter.mpr ⟨hm, decide_eq_true g3⟩
              rw [hf] at hq
              cases hq
            | cons q r => rfl
end
end Bw

set_option Elab.async false
set_option linter.all false
set_option maxRecDepth 100000
set_option maxHeartbeats 4000000
namespace Bw
open PySem PySem.Spec PyProof.Rows L2
section
variable {P : Program} {w : World} {K : PySem.W.Frag} {mg : Str → Option Value} {base : Heap} {f : Addr} {fd : FuncData}
theorem pick6 {r : Int} (h0 : 0 ≤ r) (h1 : r < 6) : ∃ e : Nat, 1 ≤ e ∧ e ≤ 4 ∧ atI [V.int 1, V.int 2, V.int 3, V.int 4, V.int 2, V.int 3] r = some (V.int (e : Int)) := by
  obtain ⟨n, rfl⟩ := Int.eq_ofNat_of_zero_le h0
  have h : n = 0 ∨ n = 1 ∨ n = 2 ∨ n = 3 ∨ n = 4 ∨ n = 5 := by omega
  rcases h with rfl | rfl | rfl | rfl | rfl | rfl
  · exact ⟨1, by omega, by omega, atI_nat (j := 0) rfl⟩
  · exact ⟨2, by omega, by omega, atI_nat (j := 1) rfl⟩
  · exact ⟨3, by omega, by omega, atI_nat (j := 2) rfl⟩
  · exact ⟨4, by omega, by omega, atI_nat (j := 3) rfl⟩
  · exact ⟨2, by omega, by omega, atI_nat (j := 4) rfl⟩
  · exact ⟨3, by omega, by omega, atI_nat (j := 5) rfl⟩
theorem ok__law_line (F : FnP K "_law_line" s__law_line f fd) (g_int : mg "int" = none) (h__law_off : Has P w K mg base 1 "_law_off" p__law_off spOff) : FnOk P w K mg base CX0 2 f fd ["_law_d"] spLine := by
  refine F.ok sc__law_line (fun vs H Q E h => ?_) (fun cdv A outer s H vs Q E hr h => ?_)
  · obtain ⟨d, rfl, _⟩ := h
    rfl
  · obtain ⟨d, rfl, hd, k⟩ := h
    refine ⟨_, PSs.nox (pss_cons (ps_set (i := 1) sc__law_line.nd rfl (Or.inl rfl) (pe_ix ix_list (pe_lst (pa_cons pe_int (pa_cons pe_int (pa_cons pe_int (pa_cons pe_int (pa_cons pe_int (pa_cons pe_int pa_nil))))))) (pe_fn h__law_off hr rfl (pa_cons (pv 0) (pa_cons pe_int pa_nil))) (fun _ _ => rfl)))
        (pss_cons (ps_set (i := 2) sc__law_line.nd rfl (Or.inl rfl) (pe_fn h__law_off hr rfl (pa_cons (pv 0) (pa_cons pe_int pa_nil))))
        (pss_one (ps_ret (pe_tup (pa_cons (pv 1) (pa_cons (pv 2) (pa_cons (pe_op op_mul (pe_fn h__law_off hr rfl (pa_cons (pv 0) (pa_cons pe_int pa_nil))) (pe_callTy call_int1 (by rfl) g_int (by decide +kernel) (pa_cons (pe_or (pe_cmpR op_gt (pv 1) pe_int (nomark _)) (pe_one (pe_cmpR op_lt (pv 2) pe_int (nomark _)))) pa_nil))) pa_nil)))))))), ?_⟩
    refine ⟨szle (Nat.le_of_ble_eq_true rfl), fun u hu => ⟨_, rfl, d, 6, rfl, hd.same (Same.newB hu), by decide, by decide, fun r1 H1 h1 g1 D1 => ?_⟩⟩
    have D1' : Dr d H H1 := (Dr.ofSame hd (Same.newB hu)).trans D1
    obtain ⟨e, he1, he4, hat⟩ := pick6 h1 g1
    refine ⟨u, _, _, _, rfl, rfl, SqL.of (D1.keep _ _ (hd.ne hu) upd_same), hat, ?_⟩
    refine ⟨_, rfl, d, 4, rfl, D1.dice, by decide, by decide, fun r2 H2 h2 g2 D2 => ?_⟩
    refine ⟨_, rfl, _, rfl, _, rfl, d, 3, rfl, D2.dice, by decide, by decide, fun r3 H3 h3 g3 D3 => ?_⟩
    have D := (D1'.trans D2).trans D3
    have fin : ∀ b : Bool, (b = false → ¬ ((e : Int) > 1) ∧ ¬ (r2 < 3)) → (b = true → (e : Int) > 1 ∨ r2 < 3) → ∀ p, H3 p = none → Q (.ref p) (upd H3 p (.tup [.int e, .int r2, .int (r3 * b2i b)])) := by
      intro b hb hb' p hp
      have hz : ∃ z : Nat, r3 * b2i b = (z : Int) ∧ z ≤ 2 ∧ (b = false → z = 0) := by
        cases b with
        | false => exact ⟨0, by show r3 * 0 = 0; omega, by omega, fun _ => rfl⟩
        | true => exact ⟨r3.toNat, by show r3 * 1 = _; omega, by omega, fun h => nomatch h⟩
      obtain ⟨z, ez, hz2, hz0⟩ := hz
      refine k ⟨e, r2.toNat, z⟩ p _ ⟨he1, he4, by show r2.toNat ≤ 3; omega, hz2⟩ (fun h1 h2 => ?_) (D.new hp) (D.free hp) ?_
      · have h1' : e = 1 := h1
        have h2' : r2.toNat = 3 := h2
        cases b with
        | false => exact hz0 rfl
        | true => exact absurd (hb' rfl) (by omega)
      · show _ = some (HO.tup [.int (e : Int), .int ((r2.toNat : Nat) : Int), .int (z : Int)])
        rw [ez, upd_same]
        have e2 : ((r2.toNat : Nat) : Int) = r2 := by omega
        rw [e2]
    refine ⟨_, rfl, _, _, rfl, rfl, _, rfl, iteD (fun hc => ?_) (fun hc => ?_)⟩
    · refine Or.inr ⟨_, rfl, ⟨_, _, rfl, rfl, Or.inl ⟨by omega, by omega⟩, ?_⟩⟩
      exact ⟨szle (Nat.le_of_ble_eq_true rfl), fin true (fun h => nomatch h) (fun _ => .inl hc)⟩
    · refine ⟨_, rfl, _, _, rfl, rfl, Or.inr ⟨_, rfl, ⟨_, _, rfl, rfl, Or.inl ⟨by omega, by omega⟩, ?_⟩⟩⟩
      refine ⟨szle (Nat.le_of_ble_eq_true rfl), fin _ (fun h => ⟨hc, of_decide_eq_false h⟩) (fun h => .inr (of_decide_eq_true h))⟩
end
end Bw

set_option Elab.async false
set_option linter.all false
set_option maxRecDepth 100000
set_option maxHeartbeats 4000000
namespace Bw
open PySem PySem.Spec PyProof.Rows L2
section
variable {P : Program} {w : World} {K : PySem.W.Frag} {mg : Str → Option Value} {base : Heap} {f : Addr} {fd : FuncData}
theorem ok__law_run (F : FnP K "_law_run" s__law_run f fd) (g_len : mg "len" = none) (g_range : mg "range" = none) (h__law_off : Has P w K mg base 1 "_law_off" p__law_off spOff) : FnOk P w K mg base CX0 2 f fd p__law_run (spRun K) := by
  refine F.ok sc__law_run (fun vs H Q E h => ?_) (fun cdv A outer s H vs Q E hr h => ?_)
  · obtain ⟨d, lp, l, th, mo, rfl, _⟩ := h
    rfl
  · obtain ⟨d, lp, l, th, mo, rfl, hd, hl, lo, hth, hmo, k⟩ := h
    refine ⟨_, PSs.nox (pss_cons (ps_set (i := 4) sc__law_run.nd rfl (Or.inl rfl) (pe_op op_rep (pe_lst (pa_cons pe_int pa_nil)) (pe_op op_add (pv 2) (pv 3))))
        (pss_cons (ps_set (i := 5) sc__law_run.nd rfl (Or.inl rfl) (pe_op op_add pe_int (pe_fn h__law_off hr rfl (pa_cons (pv 0) (pa_cons pe_int pa_nil)))))
        (pss_cons (ps_set (i := 6) sc__law_run.nd rfl (Or.inl rfl) pe_int)
        (pss_cons (ps_for PassesOwn.never rfl (pi_range3 rfl g_range (pa_cons pe_int (pa_cons (pv 2) (pa_cons (pe_ix ix_tup (pv 1) pe_int (fun _ _ => rfl)) pa_nil)))) (pg_name (i := 7) sc__law_run.nd rfl (Or.inl rfl))
          (pss_one (ps_if (pt_cut (PW.pt (pw_and (pt_cmpR op_lt (pv 6) (pe_ix ix_tup (pv 1) pe_int (fun _ _ => rfl)) (nomark _)) (pw_and1 (pt_cmpR op_eq (pe_fn h__law_off hr rfl (pa_cons (pv 0) (pa_cons (pv 5) pa_nil))) pe_int (nomark _))))))
            (pss_one (ps_set (i := 6) sc__law_run.nd rfl (Or.inl rfl) (pe_op op_add (pv 6) pe_int)))
            (pss_cons (ps_set (i := 6) sc__law_run.nd rfl (Or.inl rfl) pe_int)
              (pss_cons (ps_set (i := 8) sc__law_run.nd rfl (Or.inl rfl) (pe_op op_add (pv 7) (pe_ix ix_list (pe_lst (pa_cons (pe_fn h__law_off hr rfl (pa_cons (pv 0) (pa_cons (pe_op op_add (pe_ix ix_tup (pv 1) pe_int (fun _ _ => rfl)) pe_int) pa_nil))) (pa_cons pe_int (pa_cons (pe_ix ix_tup (pv 1) pe_int (fun _ _ => rfl)) pa_nil)))) (pe_fn h__law_off hr rfl (pa_cons (pv 0) (pa_cons pe_int pa_nil))) (fun _ _ => rfl))))
              (pss_one (ps_if (pt_cmpR op_lt (pv 8) (pe_callB call_len_seq (by rfl) g_len (by decide +kernel) (pa_cons (pv 4) pa_nil)) (nomark _))
                (pss_one (ps_asg (pe_op op_add (pe_ix ix_list (pv 4) (pv 8) (fun _ _ => rfl)) pe_int) (pg_sub (pv 4) (pv 8) set_list)))
                pss_nil)))))))
        (pss_one (ps_ret (pv 4))))))), ?_⟩
    have hE := lo.e1
    have hE4 := lo.e4
    have hL3 := lo.l3
    refine ⟨szle (Nat.le_of_ble_eq_true rfl), fun z nz => ⟨_, rfl, _, rfl, _, _, rfl, rfl, ?_⟩⟩
    refine ⟨z, _, [V.int 0], rfl, rfl, upd_same, by omega, by omega, szle (by show 1 * ((th : Int) + (mo : Int)).toNat ≤ _; omega), fun hp nhp => ?_⟩
    have sA : Same H (upd (upd H z (.lst [.int 0])) hp (.lst (List.replicate ((th : Int) + (mo : Int)).toNat [V.int 0]).flatten)) := (Same.newB nz).moreB nhp
    have eR : (List.replicate ((th : Int) + (mo : Int)).toNat [V.int 0]).flatten = (heardOf l.each [] (th + mo)).map V.int := by
      have e0 : ((th : Int) + (mo : Int)).toNat = th + mo := by omega
      rw [e0, heardOf_nil]
      generalize th + mo = n
      induction n with
      | zero => rfl
      | succ n ih => rw [List.replicate_succ, List.replicate_succ, List.flatten_cons, List.map_cons, ih]; rfl
    rw [eR] at sA ⊢
    have nhp0 : H hp = none := (Same.newB nz).free nhp
    have hpd : hp ≠ d := hd.ne nhp0
    have hA : upd (upd H z (.lst [.int 0])) hp (.lst ((heardOf l.each [] (th + mo)).map V.int)) hp = some (.lst ((heardOf l.each [] (th + mo)).map V.int)) := upd_same
    revert sA hA
    generalize upd (upd H z (.lst [.int 0])) hp (.lst ((heardOf l.each [] (th + mo)).map V.int)) = HA
    intro sA hA
    have dA : Dr d H HA := Dr.ofSame hd sA
    refine ⟨_, rfl, d, 3, rfl, dA.dice, by decide, by decide, fun r0 HB h0 g0 DB => ⟨_, _, rfl, rfl, ?_⟩⟩
    have dB : Dr d H HB := dA.trans DB
    have hB := DB.keep _ _ hpd hA
    refine ⟨_, rfl, _, rfl, lp, _, _, _, rfl, rfl, dB.tup hd hl, atI_nat (j := 0) rfl, 0, (th : Int), (l.each : Int), (th + l.each - 1) / l.each, rfl, rgc_up (by omega) ⟨hE, hE4⟩, ?_⟩
    refine for_rangeC (lo := 0) (c := (l.each : Int)) (n := (th + l.each - 1) / l.each) (fun i σ H' => Dr d H H' ∧ ∃ (r : Nat) (os : List (Option Nat)) (v7 v8 : Option V), σ = [some (.ref d), some (.ref lp), some (.int th), some (.int mo), some (.ref hp), some (.int (2 + r0)), some (.int r), v7, v8] ∧ Outs l r os ∧ os.length = i ∧ H' hp = some (.lst ((heardOf l.each os (th + mo)).map V.int))) ?_ ?_ ?_
    · exact ⟨dB, 0, [], none, none, rfl, .nil, rfl, hB⟩
    · rintro i σ H' hi ⟨dC, r, os, v7, v8, rfl, hO, hlen, hH⟩
      refine ⟨fun b H2 => Dr d H H2 ∧ H2 hp = some (.lst ((heardOf l.each os (th + mo)).map V.int)) ∧ (b = true → r < l.lost), ?_, ?_⟩
      · refine ⟨_, rfl, _, rfl, lp, _, _, _, rfl, rfl, dC.tup hd hl, atI_nat (j := 2) rfl, _, _, rfl, rfl, _, rfl, iteD (fun h => ?_) (fun h => ⟨dC, hH, fun z => nomatch z⟩)⟩
        refine ⟨_, rfl, _, rfl, d, _, rfl, dC.dice, by omega, by omega, fun r1 H2 h1 g1 D2 => ⟨rfl, _, rfl, ?_⟩⟩
        exact ⟨dC.trans D2, D2.keep _ _ hpd hH, fun _ => by omega⟩
      · rintro b H2 ⟨d2, h2, hb⟩
        cases b with
        | true =>
          refine iteT ⟨_, rfl, _, _, rfl, rfl, ?_⟩
          refine ⟨d2, r + 1, os ++ [none], _, _, rfl, .lose hO (hb rfl), by rw [List.length_append, hlen]; rfl, ?_⟩
          rw [heardOf_lose]
          exact h2
        | false =>
          refine iteF ⟨_, rfl, _, rfl, _, rfl, lp, _, _, _, rfl, rfl, d2.tup hd hl, atI_nat (j := 1) rfl, _, _, rfl, rfl, d, _, rfl, d2.dice, by omega, by omega, fun r1 H3 h1 g1 D3 => ?_⟩
          have d3 := d2.trans D3
          refine ⟨_, rfl, lp, _, _, _, rfl, rfl, d3.tup hd hl, atI_nat (j := 1) rfl, szle (Nat.le_of_ble_eq_true rfl), fun li nli => ?_⟩
          have d4 : Dr d H (upd H3 li (.lst [.int r1, .int 0, .int l.late])) := d3.new nli
          refine ⟨_, rfl, d, 3, rfl, d4.dice, by decide, by decide, fun r2 H5 h2' g2 D5 => ?_⟩
          have d5 := d4.trans D5
          have hli : H5 li = some (.lst [.int r1, .int 0, .int l.late]) := D5.keep _ _ (d3.dice.ne nli) upd_same
          have h5 : H5 hp = some (.lst ((heardOf l.each os (th + mo)).map V.int)) := D5.keep _ _ hpd ((Same.newB nli) _ _ (D3.keep _ _ hpd h2))
          obtain ⟨dd, hdd, hat⟩ : ∃ dd : Nat, dd ≤ l.late ∧ atI [V.int r1, V.int 0, V.int l.late] r2 = some (V.int (dd : Int)) := by
            obtain ⟨v, hv, he⟩ := pickL (xs := [V.int r1, V.int 0, V.int l.late]) h2' g2
            rcases List.mem_cons.mp hv with rfl | hv
            · exact ⟨r1.toNat, by omega, by rw [he]; congr 2; omega⟩
            rcases List.mem_cons.mp hv with rfl | hv
            · exact ⟨0, by omega, he⟩
            rcases List.mem_cons.mp hv with rfl | hv
            · exact ⟨l.late, by omega, he⟩
            · cases hv
          refine ⟨li, _, _, _, rfl, rfl, SqL.of hli, hat, _, _, rfl, rfl, ?_⟩
          have ei : (0 : Int) + (i : Int) * (l.each : Int) + (dd : Int) = ((os.length * l.each + dd : Nat) : Int) := by
            rw [hlen]
            push_cast
            omega
          refine ⟨_, rfl, _, rfl, hp, _, rfl, Or.inl (SqL.of h5), _, _, rfl, rfl, _, rfl, ?_⟩
          refine iteD (fun h => ?_) (fun h => ?_)
          · rw [List.length_map, heardOf_len, ei] at h
            have h' : os.length * l.each + dd < th + mo := by omega
            refine ⟨_, rfl, _, rfl, hp, _, _, _, rfl, rfl, SqL.of h5, by rw [ei]; exact atI_nat (by rw [List.getElem?_map, heardOf_at h']; rfl), _, _, rfl, rfl, ?_⟩
            refine ⟨_, rfl, _, rfl, hp, _, _, _, rfl, rfl, h5, by rw [ei]; exact ixN_nat (by rw [List.length_map, heardOf_len]; exact h'), ?_⟩
            refine ⟨⟨?_, fun b o nb hb => ?_⟩, 0, os ++ [some dd], _, _, rfl, .hear hO dd hdd, by rw [List.length_append, hlen]; rfl, ?_⟩
            · obtain ⟨ds, a1, a2⟩ := d5.dice
              exact ⟨ds, by rw [upd_ne (Ne.symm hpd)]; exact a1, a2⟩
            · rw [upd_ne (ne_of_none hb nhp0)]
              exact d5.keep b o nb hb
            · rw [upd_same, heardOf_in h', List.map_set]
          · rw [List.length_map, heardOf_len, ei] at h
            have h' : ¬ os.length * l.each + dd < th + mo := by omega
            refine ⟨d5, 0, os ++ [some dd], _, _, rfl, .hear hO dd hdd, by rw [List.length_append, hlen]; rfl, ?_⟩
            rw [heardOf_out h']
            exact h5
    · rintro σ H' ⟨dC, r, os, v7, v8, rfl, hO, hlen, hH⟩
      exact ⟨_, rfl, k r os hp H' hO hlen dC nhp0 hH⟩
end
end Bw

set_option Elab.async false
set_option linter.all false
set_option maxRecDepth 100000
set_option maxHeartbeats 4000000
namespace Bw
open PySem PySem.Spec PyProof.Rows L2
section
variable {P : Program} {w : World} {K : PySem.W.Frag} {mg : Str → Option Value} {base : Heap} {f : Addr} {fd : FuncData}
theorem ok__law_other (F : FnP K "_law_other" s__law_other f fd) (g_list : mg "list" = none) (g_len : mg "len" = none) (g_min : mg "min" = none) (g_max : mg "max" = none) (h__law_off : Has P w K mg base 1 "_law_off" p__law_off spOff) : FnOk P w K mg base CX0 2 f fd p__law_other (spOther K) := by
  refine F.ok sc__law_other (fun vs H Q E h => ?_) (fun cdv A outer s H vs Q E hr h => ?_)
  · obtain ⟨d, hp, hs, b, rfl, _⟩ := h
    rfl
  · obtain ⟨d, hp, hs, b, rfl, hd, hh, hpd, hln, hb, k⟩ := h
    refine ⟨_, PSs.nox (pss_cons (ps_set (i := 2) sc__law_other.nd rfl (Or.inl rfl) (pe_callTy call_list_of (by rfl) g_list (by decide +kernel) (pa_cons (pv 1) pa_nil)))
        (pss_cons (ps_if (pt_cmpR (op_eqD hr.units) (pv 2) (pe_lst pa_nil) (nomark _))
          (pss_one (ps_ret (pv 2)))
          pss_nil)
        (pss_cons (ps_set (i := 3) sc__law_other.nd rfl (Or.inl rfl) (pe_fn h__law_off hr rfl (pa_cons (pv 0) (pa_cons (pe_callB call_len_seq (by rfl) g_len (by decide +kernel) (pa_cons (pv 2) pa_nil)) pa_nil))))
        (pss_cons (ps_set (i := 4) sc__law_other.nd rfl (Or.inl rfl) (pe_fn h__law_off hr rfl (pa_cons (pv 0) (pa_cons pe_int pa_nil))))
        (Evl.pss_cut (ps_if (PW.pt (pw_and (pt_cmpR op_gt (pv 4) pe_int (nomark _)) (pw_and1 (pt_cmpR op_gt (pe_ix ix_list (pv 2) (pv 3) (fun _ _ => rfl)) pe_int (nomark _)))))
          (pss_one (ps_asg (pe_op op_sub (pe_ix ix_list (pv 2) (pv 3) (fun _ _ => rfl)) pe_int) (pg_sub (pv 2) (pv 3) set_list)))
          pss_nil)
        (pss_cons (ps_set (i := 3) sc__law_other.nd rfl (Or.inl rfl) (pe_callB (call_max2 rfl) (by rfl) g_max (by decide +kernel) (pa_cons pe_int (pa_cons (pe_callB (call_min2 rfl) (by rfl) g_min (by decide +kernel) (pa_cons (pe_op op_sub (pe_callB call_len_seq (by rfl) g_len (by decide +kernel) (pa_cons (pv 2) pa_nil)) pe_int) (pa_cons (pe_op op_sub (pe_op op_add (pv 3) (pe_fn h__law_off hr rfl (pa_cons (pv 0) (pa_cons pe_int pa_nil)))) pe_int) pa_nil))) pa_nil))))
        (pss_cons (ps_asg (pe_op op_add (pe_ix ix_list (pv 2) (pv 3) (fun _ _ => rfl)) (pe_ix ix_list (pe_lst (pa_cons pe_int (pa_cons pe_int (pa_cons pe_int (pa_cons pe_int pa_nil))))) (pv 4) (fun _ _ => rfl))) (pg_sub (pv 2) (pv 3) set_list))
        (pss_one (ps_ret (pv 2)))))))))), ?_⟩
    refine ⟨_, rfl, hp, _, rfl, Or.inl (SqL.of hh), fun fo nfo => ?_⟩
    have fod : fo ≠ d := hd.ne nfo
    refine ⟨_, rfl, szle (Nat.le_of_ble_eq_true rfl), fun e ne => ⟨.list (hs.map PyData.int), .list [], .lst (SqL.of ((Same.newB ne) _ _ upd_same)) (dp_ints _), .lst (SqL.of upd_same) .nil, PySem.W.ke_shaped_ints _, PySem.W.ke_shaped_ints [], _, rfl, ?_⟩⟩
    rw [eqv_nil]
    have sE := (Same.newB (o := .lst (hs.map V.int)) nfo).moreB (o := .lst []) ne
    have D0 : Dr d H (upd (upd H fo (.lst (hs.map V.int))) e (.lst [])) := Dr.ofSame hd sE
    have hfo : (upd (upd H fo (.lst (hs.map V.int))) e (.lst [])) fo = some (.lst (hs.map V.int)) := (Same.newB ne) _ _ upd_same
    revert D0 hfo
    generalize upd (upd H fo (.lst (hs.map V.int))) e (.lst []) = H0
    intro D0 hfo
    refine iteD (fun hz => ?_) (fun hz => ?_)
    · exact ⟨_, rfl, k hs fo H0 rfl (fun m hm => by have := hb m hm; omega) D0 nfo hfo⟩
    · have hpos : 0 < hs.length := by
        cases hs with
        | nil => exact absurd rfl hz
        | cons a t => simp
      refine ⟨_, rfl, _, rfl, fo, _, rfl, Or.inl (SqL.of hfo), d, _, rfl, D0.dice, by rw [List.length_map]; omega, by rw [List.length_map]; omega, fun r1 H1 h1 g1 D1 => ?_⟩
      rw [List.length_map] at g1
      obtain ⟨n1, rfl⟩ := Int.eq_ofNat_of_zero_le h1
      have hn1 : n1 < hs.length := by omega
      refine ⟨_, rfl, d, 4, rfl, D1.dice, by decide, by decide, fun r2 H2 h2 g2 D2 => ?_⟩
      have D02 := (D0.trans D1).trans D2
      have hfo2 := D2.keep _ _ fod (D1.keep _ _ fod hfo)
      refine ⟨fun σ' H' => Dr d H H' ∧ ∃ ms : List Int, σ' = [some (.ref d), some (.ref hp), some (.ref fo), some (.int n1), some (.int r2)] ∧ H' fo = some (.lst (ms.map V.int)) ∧ ms.length = hs.length ∧ ∀ m ∈ ms, 0 ≤ m ∧ m ≤ b, ?_, ?_⟩
      · refine ⟨_, rfl, _, _, rfl, rfl, _, rfl, iteD (fun hk => ?_) (fun hk => ⟨D02, hs, rfl, hfo2, rfl, hb⟩)⟩
        refine ⟨_, rfl, _, rfl, fo, _, _, _, rfl, rfl, SqL.of hfo2, atI_ints hn1, _, _, rfl, rfl, _, rfl, iteD (fun hg => ?_) (fun hg => ⟨D02, hs, rfl, hfo2, rfl, hb⟩)⟩
        refine ⟨_, rfl, _, rfl, fo, _, _, _, rfl, rfl, SqL.of hfo2, atI_ints hn1, _, _, rfl, rfl, _, rfl, _, rfl, fo, _, _, _, rfl, rfl, hfo2, ixN_nat (by rw [List.length_map]; exact hn1), ?_⟩
        refine ⟨D02.mutB hd nfo, hs.set n1 (hs.getD n1 0 - 1), rfl, by rw [upd_same, List.map_set], by rw [List.length_set], fun m hm => ?_⟩
        rcases List.mem_or_eq_of_mem_set hm with hm | rfl
        · exact hb m hm
        · have := hb _ (getD_mem hn1)
          omega
      · rintro σ' H3 ⟨D3, ms, rfl, hfo3, hml, hmb⟩
        refine ⟨_, rfl, fo, _, rfl, Or.inl (SqL.of hfo3), _, _, rfl, rfl, _, rfl, _, rfl, d, 5, rfl, D3.dice, by decide, by decide, fun r3 H4 h3 g3 D4 => ⟨_, _, rfl, rfl, _, _, rfl, rfl, _, _, rfl, _, _, rfl, ?_⟩⟩
        have hfo4 := D4.keep _ _ fod hfo3
        have D04 := D3.trans D4
        obtain ⟨n2, e2, hn2⟩ : ∃ n2 : Nat, (if (if (n1 : Int) + r3 - 2 < (((ms.map V.int).length : Nat) : Int) - 1 then (n1 : Int) + r3 - 2 else (((ms.map V.int).length : Nat) : Int) - 1) > 0 then (if (n1 : Int) + r3 - 2 < (((ms.map V.int).length : Nat) : Int) - 1 then (n1 : Int) + r3 - 2 else (((ms.map V.int).length : Nat) : Int) - 1) else 0) = (n2 : Int) ∧ n2 < ms.length := by
          rw [List.length_map]
          have hm : 0 < ms.length := by omega
          split <;> split <;> first
            | exact ⟨((n1 : Int) + r3 - 2).toNat, by omega, by omega⟩
            | exact ⟨ms.length - 1, by omega, by omega⟩
            | exact ⟨0, rfl, by omega⟩
        rw [e2]
        have pk : ∃ z : Int, 0 ≤ z ∧ z ≤ 1 ∧ atI [V.int 1, V.int 0, V.int 1, V.int 0] r2 = some (V.int z) := by
          obtain ⟨v, hv, he⟩ := pickL (xs := [V.int 1, V.int 0, V.int 1, V.int 0]) h2 g2
          rcases List.mem_cons.mp hv with rfl | hv
          · exact ⟨1, by omega, by omega, he⟩
          rcases List.mem_cons.mp hv with rfl | hv
          · exact ⟨0, by omega, by omega, he⟩
          rcases List.mem_cons.mp hv with rfl | hv
          · exact ⟨1, by omega, by omega, he⟩
          rcases List.mem_cons.mp hv with rfl | hv
          · exact ⟨0, by omega, by omega, he⟩
          · cases hv
        obtain ⟨z, hz0, hz1, hat⟩ := pk
        refine ⟨_, rfl, _, rfl, fo, _, _, _, rfl, rfl, SqL.of hfo4, atI_ints hn2, szle (Nat.le_of_ble_eq_true rfl), fun li nli => ?_⟩
        refine ⟨_, rfl, li, _, _, _, rfl, rfl, SqL.of upd_same, hat, _, _, rfl, rfl, _, rfl, _, rfl, fo, _, _, _, rfl, rfl, (Same.newB nli) _ _ hfo4, ixN_nat (by rw [List.length_map]; exact hn2), ?_⟩
        refine ⟨_, rfl, k (ms.set n2 (ms.getD n2 0 + z)) fo _ (by rw [List.length_set]; exact hml) (fun m hm => ?_) ((D04.new nli).mutB hd nfo) nfo (by rw [upd_same, List.map_set])⟩
        rcases List.mem_or_eq_of_mem_set hm with hm | rfl
        · have := hmb m hm
          omega
        · have := hmb _ (getD_mem hn2)
          omega
end
end Bw

set_option Elab.async false
set_option linter.all false
set_option maxRecDepth 100000
set_option maxHeartbeats 4000000
namespace Bw
open PySem PySem.Spec PyProof.Rows L2
section
variable {P : Program} {w : World} {K : PySem.W.Frag} {mg : Str → Option Value} {base : Heap} {f : Addr} {fd : FuncData}
theorem ok_law (F : FnP K "law" s_law f fd) (g_range : mg "range" = none) (g_len : mg "len" = none) (g_list : mg "list" = none)
    (h__law_dice : Has P w K mg base 1 "_law_dice" p__law_dice (spDice K)) (h__law_off : Has P w K mg base 1 "_law_off" p__law_off spOff) (h__law_line : Has P w K mg base 2 "_law_line" ["_law_d"] spLine)
    (h__law_run : Has P w K mg base 2 "_law_run" p__law_run (spRun K)) (h_may : Has P w K mg base 3 "may" p_may (spMay K)) (h__law_other : Has P w K mg base 2 "_law_other" p__law_other (spOther K))
    (h__law_alike : Has P w K mg base 1 "_law_alike" p__law_alike (spAlike K 0)) (h__law_may : Has P w K mg base 1 "_law_may" p__law_may (spLMay K)) : FnOk P w K mg base CX0 4 f fd p_law (spLaw K) := by
  refine F.ok sc_law (fun vs H Q E h => ?_) (fun cdv A outer s H vs Q E hr h => ?_)
  · obtain ⟨a, ns, rfl, _⟩ := h
    rfl
  · obtain ⟨a, ns, rfl, hS, hlen, k⟩ := h
    refine ⟨_, PSs.nox (pss_cons (ps_set (i := 1) sc_law.nd rfl (Or.inr rfl) (pe_fn h__law_dice hr rfl (pa_cons (pv 0) (pa_cons pe_int pa_nil))))
        (pss_cons (ps_set (i := 2) sc_law.nd rfl (Or.inl rfl) (pe_cut (pe_ifExp (pt_cmpR op_gt (pe_fn h__law_off hr rfl (pa_cons (pv 1) (pa_cons pe_int pa_nil))) pe_int (nomark _)) (pe_fn h__law_line hr rfl (pa_cons (pv 1) pa_nil)) (pe_tup (pa_cons pe_int (pa_cons pe_int (pa_cons (pe_op op_add pe_int (pe_fn h__law_off hr rfl (pa_cons (pv 1) (pa_cons pe_int pa_nil)))) pa_nil)))))))
        (pss_cons (ps_for PassesOwn.never rfl (pi_range1 rfl g_range (pa_cons pe_int pa_nil)) (pg_name (i := 3) sc_law.nd rfl (Or.inl rfl))
          (pss_cons (ps_set (i := 4) sc_law.nd rfl (Or.inl rfl) (pe_fn h__law_off hr rfl (pa_cons (pv 1) (pa_cons pe_int pa_nil))))
            (pss_cons (ps_set (i := 5) sc_law.nd rfl (Or.inl rfl) (pe_fn h__law_run hr rfl (pa_cons (pv 1) (pa_cons (pv 2) (pa_cons (pv 4) (pa_cons pe_int pa_nil))))))
            (pss_cons (ps_if (pt_cmpR op_notBl (pe_fn h_may hr rfl (pa_cons (pv 2) (pa_cons (pv 5) pa_nil))) pe_bl (nomark _))
              (pss_one (ps_ret pe_bl))
              pss_nil)
            (pss_cons (ps_for PassesOwn.never rfl (pi_range1 rfl g_range (pa_cons (pe_op op_add pe_int (pe_fn h__law_off hr rfl (pa_cons (pv 1) (pa_cons pe_int pa_nil)))) pa_nil)) (pg_name (i := 6) sc_law.nd rfl (Or.inl rfl))
              (pss_one (ps_set (i := 5) sc_law.nd rfl (Or.inl rfl) (pe_fn h__law_other hr rfl (pa_cons (pv 1) (pa_cons (pv 5) pa_nil))))))
            (Evl.pss_cut (ps_if (pt_cmpR op_eq (pe_fn h__law_off hr rfl (pa_cons (pv 1) (pa_cons pe_int pa_nil))) pe_int (nomark _))
              (pss_one (ps_setLc (i := 5) (own := [("_law_k", 7)]) (g := gName 7) rfl sc_law.nd rfl rfl (sw_true rfl rfl rfl (by decide +kernel)) (pi_range1 rfl g_range (pa_cons (pv 4) pa_nil)) (blkOk_by (own := [("_law_k", 7)]) (N := n_law) (sc := defScope s_law) (by decide +kernel)) (fun _ _ _ _ _ => (pg_name (i := 7) sc_law.nd rfl (Or.inl rfl))) (fun _ _ _ _ _ => pts_nil) (fun _ _ _ _ _ => (pe_fn h__law_off hr rfl (pa_cons (pv 1) (pa_cons pe_int pa_nil))))))
              pss_nil)
            (pss_cons (ps_set (i := 8) sc_law.nd rfl (Or.inl rfl) (pe_callTy call_list_of (by rfl) g_list (by decide +kernel) (pa_cons (pv 5) pa_nil)))
            (pss_one (ps_if (PW.pt (pw_or (pt_not (pt_val (pe_fn h__law_alike hr rfl (pa_cons (pe_fn h_may hr rfl (pa_cons (pv 2) (pa_cons (pv 8) pa_nil))) (pa_cons (pe_fn h__law_may hr rfl (pa_cons (pv 2) (pa_cons (pv 5) (pa_cons (pe_callB call_len_seq (by rfl) g_len (by decide +kernel) (pa_cons (pv 5) pa_nil)) pa_nil)))) pa_nil))))) (pw_or1 (pt_cmpR (op_neD hr.units) (pv 8) (pv 5) (nomark _)))))
              (pss_one (ps_ret pe_bl))
              pss_nil)))))))))
        (pss_cons (ps_set (i := 5) sc_law.nd rfl (Or.inl rfl) (pe_fn h__law_run hr rfl (pa_cons (pv 1) (pa_cons (pv 2) (pa_cons (pe_ix ix_list (pe_lst (pa_cons pe_int (pa_cons pe_int pa_nil))) (pe_fn h__law_off hr rfl (pa_cons (pv 1) (pa_cons pe_int pa_nil))) (fun _ _ => rfl)) (pa_cons pe_int pa_nil))))))
        (pss_one (ps_ret (pe_and (pe_cmpR op_isBl (pe_fn h_may hr rfl (pa_cons (pv 2) (pa_cons (pv 5) pa_nil))) pe_bl (nomark _)) (pe_one (pe_cmpR op_isBl (pe_fn h_may hr rfl (pa_cons (pv 2) (pa_cons (pe_op op_cat (pe_slice sl_list (pv 5) po_none (po_some (pe_un un_neg pe_int))) (pe_lst (pa_cons (pe_op op_add (pe_ix ix_list (pv 5) (pe_un un_neg pe_int) (fun _ _ => rfl)) pe_int) pa_nil))) pa_nil))) pe_bl (nomark _)))))))))), ?_⟩
    refine ⟨_, rfl, a, 0, ns, rfl, hS, hlen, fun d H1 s1 nd hd => ?_⟩
    refine ⟨fun v H' => ∃ (lp : Addr) (l : Line), v = .ref lp ∧ l.ok ∧ DiceAt H' d ∧ H' lp = some (.tup l.vs), ?_, ?_⟩
    · refine ⟨_, rfl, d, 4, rfl, hd, by decide, by decide, fun r1 H2 h1 g1 D1 => ⟨_, _, rfl, rfl, _, rfl, iteD (fun _ => ?_) (fun _ => ?_)⟩⟩
      · exact ⟨_, rfl, d, rfl, D1.dice, fun l lp H3 lo _ D2 nlp hlp => ⟨lp, l, rfl, lo, D2.dice, hlp⟩⟩
      · refine ⟨_, rfl, d, 2, rfl, D1.dice, by decide, by decide, fun r2 H3 h2 g2 D2 => ⟨_, _, rfl, rfl, szle (Nat.le_of_ble_eq_true rfl), fun p hp => ?_⟩⟩
        obtain ⟨n2, rfl⟩ := Int.eq_ofNat_of_zero_le h2
        refine ⟨p, ⟨1, 2, 1 + n2⟩, rfl, ⟨by show 1 ≤ 1; omega, by show 1 ≤ 4; omega, by show 2 ≤ 3; omega, by show 1 + n2 ≤ 2; omega⟩, D2.dice.same (Same.newB hp), ?_⟩
        rw [upd_same]
        show some (HO.tup [V.int 1, V.int 2, V.int (1 + (n2 : Int))]) = some (HO.tup [V.int ((1 : Nat) : Int), V.int ((2 : Nat) : Int), V.int ((1 + n2 : Nat) : Int)])
        rw [Int.natCast_add]
        rfl
    rintro v H2 ⟨lp, l, rfl, lo, hd2, hlp⟩
    have he := lo.e1
    have run9 : ∀ {r : Nat} {os : List (Option Nat)} {n : Nat}, Outs l r os → n ≤ 200 → HeardOk (heardOf l.each os n) := fun {r os n} h hn => ⟨by rw [heardOf_len]; exact hn, fun m hm => by have := heardOf_mem lo h hm; omega⟩
    refine ⟨6, rfl, by decide, by decide, for_range (lo := 0) (n := 6) (fun i σ H' => DiceAt H' d ∧ H' lp = some (.tup l.vs) ∧ ∃ v3 v4 v5 v6 v7 v8, σ = [some (.ref a), some (.ref d), some (.ref lp), v3, v4, v5, v6, v7, v8]) ⟨hd2, hlp, _, _, _, _, _, _, rfl⟩ ?_ ?_⟩
    · rintro i σ H3 hi ⟨hd3, hlp3, v3, v4, v5, v6, v7, v8, rfl⟩
      have lpd : lp ≠ d := by
        obtain ⟨xs, e, _⟩ := hd3
        exact ne_of hlp3 e (by intro z; cases z)
      refine ⟨_, rfl, d, 15, rfl, hd3, by decide, by decide, fun r1 H4 h1 g1 D4 => ?_⟩
      obtain ⟨mn, rfl⟩ := Int.eq_ofNat_of_zero_le h1
      have hlp4 := D4.keep _ _ lpd hlp3
      refine ⟨_, rfl, _, rfl, _, rfl, d, lp, l, mn, 0, rfl, D4.dice, SqT.of hlp4, lo, by omega, by omega, fun r os rp H5 hO hlen' D5 nrp hrp => ?_⟩
      have hlp5 := D5.keep _ _ lpd hlp4
      have rpd : rp ≠ d := D4.dice.ne nrp
      refine ⟨_, rfl, _, rfl, lp, rp, l, _, rfl, SqT.of hlp5, lo, SqL.of hrp, run9 hO (by omega), fun b H6 s6 hb => ?_⟩
      have eb : b = true := hb.mpr (run_may hO hlen')
      subst eb
      refine ⟨true, true, rfl, rfl, _, rfl, iteF ?_⟩
      have hd6 := D5.dice.same s6
      have hlp6 := s6 _ _ hlp5
      -- some changes
      refine ⟨_, rfl, d, 2, rfl, hd6, by decide, by decide, fun r2 H7 h2 g2 D7 => ⟨_, _, rfl, rfl, _, rfl, by omega, by omega, ?_⟩⟩
      refine for_range (lo := 0) (n := (1 + r2).toNat) (fun c σ H' => DiceAt H' d ∧ H' lp = some (.tup l.vs) ∧ ∃ (hp : Addr) (hs : List Int) (v3 v6 v7 v8 : Option V), σ = [some (.ref a), some (.ref d), some (.ref lp), v3, some (.int mn), some (.ref hp), v6, v7, v8] ∧ H' hp = some (.lst (hs.map V.int)) ∧ hp ≠ d ∧ hs.length ≤ 14 ∧ ∀ m ∈ hs, 0 ≤ m ∧ m ≤ 4 + c) ?_ ?_ ?_
      · refine ⟨D7.dice, D7.keep _ _ lpd hlp6, rp, _, _, _, _, _, rfl, D7.keep _ _ rpd (s6 _ _ hrp), rpd, by rw [heardOf_len]; omega, fun m hm => ?_⟩
        have := heardOf_mem lo hO hm
        omega
      · rintro c σ H8 hc ⟨hd8, hlp8, hp, hs, v3, v6, v7, v8, rfl, hhp, hpd, hsl, hsb⟩
        refine ⟨_, rfl, _, rfl, d, hp, hs, 4 + (c : Int), rfl, hd8, hhp, hpd, by omega, hsb, fun ms p H9 hml hmb D9 np hp9 => ?_⟩
        refine ⟨D9.dice, D9.keep _ _ lpd hlp8, p, ms, _, _, _, _, rfl, hp9, hd8.ne np, by omega, fun m hm => ?_⟩
        have := hmb m hm
        omega
      · rintro σ H8 ⟨hd8, hlp8, hp, hs, v3, v6, v7, v8, rfl, hhp, hpd, hsl, hsb⟩
        refine ⟨fun σ' H' => DiceAt H' d ∧ H' lp = some (.tup l.vs) ∧ ∃ (hp : Addr) (hs : List Int) (v3 v6 v7 v8 : Option V), σ' = [some (.ref a), some (.ref d), some (.ref lp), v3, some (.int mn), some (.ref hp), v6, v7, v8] ∧ H' hp = some (.lst (hs.map V.int)) ∧ hs.length ≤ 14 ∧ ∀ m ∈ hs, 0 ≤ m ∧ m ≤ 9, ?_, ?_⟩
        · refine ⟨_, rfl, d, 4, rfl, hd8, by decide, by decide, fun r3 H9 h3 g3 D9 => ⟨rfl, _, rfl, iteD (fun _ => ?_) (fun _ => ?_)⟩⟩
          · refine ⟨_, rfl, _, rfl, by omega, by omega, fun D nD => lc_range (lo := 0) (n := mn) (fun i H' => Dr d H9 H' ∧ ∃ ms : List Int, H' D = some (.lst (ms.map V.int)) ∧ ms.length = i ∧ ∀ m ∈ ms, 0 ≤ m ∧ m ≤ 9) ⟨(Dr.refl D9.dice).new nD, [], upd_same, rfl, fun m hm => nomatch hm⟩ ?_ ?_⟩
            · rintro j H10 hj ⟨D10, ms, e10, l10, b10⟩
              have Dd : D ≠ d := D9.dice.ne nD
              refine ⟨rfl, _, rfl, d, 3, rfl, D10.dice, by decide, by decide, fun r4 H11 h4 g4 D11 => ⟨_, D11.keep _ _ Dd e10, szlt (by rw [List.length_map]; omega), (D10.trans D11).mutB D9.dice nD, ms ++ [r4], ?_, by rw [List.length_append, l10]; rfl, fun m hm => ?_⟩⟩
              · rw [upd_same, List.map_append]
                rfl
              · rcases List.mem_append.mp hm with hm | hm
                · exact b10 m hm
                · rcases List.mem_cons.mp hm with rfl | hm
                  · omega
                  · cases hm
            · rintro H10 ⟨D10, ms, e10, l10, b10⟩
              exact ⟨D10.dice, D10.keep _ _ lpd (D9.keep _ _ lpd hlp8), D, ms, _, _, _, _, rfl, e10, by omega, b10⟩
          · refine ⟨D9.dice, D9.keep _ _ lpd hlp8, hp, hs, _, _, _, _, rfl, D9.keep _ _ hpd hhp, hsl, fun m hm => ?_⟩
            have := hsb m hm
            omega
        · rintro σ' H9 ⟨hd9, hlp9, hp, hs, v3, v6, v7, v8, rfl, hhp, hsl, hsb⟩
          refine ⟨_, rfl, hp, _, rfl, Or.inl (SqL.of hhp), fun ha nha => ?_⟩
          have sA : Same H9 (upd H9 ha (.lst (hs.map V.int))) := Same.newB nha
          have hok : HeardOk hs := ⟨by omega, hsb⟩
          refine ⟨_, rfl, _, rfl, lp, ha, l, hs, rfl, SqT.of (sA _ _ hlp9), lo, SqL.of upd_same, hok, fun b1 H10 s10 hb1 => ?_⟩
          have s910 := sA.trans s10
          refine ⟨_, rfl, _, rfl, _, rfl, hp, _, rfl, Or.inl (SqL.of (s910 _ _ hhp)), lp, hp, l, hs, hs.length, ?_, SqT.of (s910 _ _ hlp9), lo, SqL.of (s910 _ _ hhp), by omega, fun m hm => (hsb m hm).1, Nat.le_refl _, fun b2 H11 s11 hb2 => ?_⟩
          · rw [List.length_map]
            rfl
          rw [List.take_length, List.drop_length] at hb2
          have eb : b1 = b2 := by
            cases b1 with
            | true => exact (hb2.mpr (hb1.mp rfl)).symm
            | false =>
              cases b2 with
              | false => rfl
              | true => exact hb1.mpr (hb2.mp rfl)
          subst eb
          refine ⟨_, _, .bool b1, rfl, .bl _, .bl _, .bool _ _, fun H12 s12 => ⟨_, rfl, iteF ?_⟩⟩
          have s912 := s910.trans (s11.trans s12)
          have hha := (s10.trans (s11.trans s12)) _ _ (upd_same (H := H9) (a := ha) (o := .lst (hs.map V.int)))
          refine ⟨_, rfl, _, rfl, .list (hs.map PyData.int), .list (hs.map PyData.int), .lst (SqL.of hha) (dp_ints hs), .lst (SqL.of (s912 _ _ hhp)) (dp_ints hs), PySem.W.ke_shaped_ints _, PySem.W.ke_shaped_ints _, _, rfl, ?_⟩
          rw [eqv_self (PySem.W.ke_shaped_ints _)]
          exact iteF ⟨hd9.same s912, s912 _ _ hlp9, _, _, _, _, _, _, rfl⟩
    · rintro σ H3 ⟨hd3, hlp3, v3, v4, v5, v6, v7, v8, rfl⟩
      have lpd : lp ≠ d := by
        obtain ⟨xs, e, _⟩ := hd3
        exact ne_of hlp3 e (by intro z; cases z)
      refine ⟨_, rfl, _, rfl, szle (Nat.le_of_ble_eq_true rfl), fun u nu => ⟨_, rfl, d, 2, rfl, hd3.same (Same.newB nu), by decide, by decide, fun r1 H4 h1 g1 D4 => ?_⟩⟩
      have ud : u ≠ d := hd3.ne nu
      obtain ⟨m, hm0, hm1, hat⟩ : ∃ m : Nat, 1 ≤ m ∧ m ≤ 200 ∧ atI [V.int 60, V.int 200] r1 = some (V.int ((m : Nat) : Int)) := by
        obtain ⟨v, hv, he⟩ := pickL (xs := [V.int 60, V.int 200]) h1 g1
        rcases List.mem_cons.mp hv with rfl | hv
        · exact ⟨60, by omega, by omega, he⟩
        rcases List.mem_cons.mp hv with rfl | hv
        · exact ⟨200, by omega, by omega, he⟩
        · cases hv
      have hlp4 := D4.keep _ _ lpd ((Same.newB nu) _ _ hlp3)
      refine ⟨u, _, _, _, rfl, rfl, SqL.of (D4.keep _ _ ud upd_same), hat, d, lp, l, m, 0, rfl, D4.dice, SqT.of hlp4, lo, by omega, by omega, fun r os rp H5 hO hlen' D5 nrp hrp => ?_⟩
      have hlp5 := D5.keep _ _ lpd hlp4
      have hok := run9 hO (n := m) (by omega)
      have hmay := run_may hO hlen'
      have h4 : ∀ x ∈ heardOf l.each os m, 0 ≤ x ∧ x ≤ 4 := fun x hx => heardOf_mem lo hO hx
      have hml : (heardOf l.each os m).length = m := heardOf_len _ _ _
      rw [Nat.add_zero] at hrp
      generalize heardOf l.each os m = hs at *
      refine ⟨_, rfl, _, rfl, lp, rp, l, hs, rfl, SqT.of hlp5, lo, SqL.of hrp, hok, fun b H6 s6 hb => ?_⟩
      have eb : b = true := hb.mpr hmay
      subst eb
      refine ⟨true, true, rfl, rfl, true, rfl, iteT ?_⟩
      obtain ⟨ini, lst, rfl⟩ : ∃ ini lst, hs = ini ++ [lst] := by
        rcases List.eq_nil_or_concat hs with rfl | ⟨l', x, rfl⟩
        · simp at hml
          omega
        · exact ⟨l', x, by rw [List.concat_eq_append]⟩
      have hil : ini.length + 1 = m := by
        rw [List.length_append] at hml
        exact hml
      have hrp6 := s6 _ _ hrp
      refine ⟨_, rfl, _, rfl, 1, rfl, _, rfl, rp, _, rfl, SqL.of hrp6, fun q nq => ?_⟩
      rw [cut_init]
      have sq : Same H6 (upd H6 q (.lst (ini.map V.int))) := Same.newB nq
      have hla : atI ((ini ++ [lst]).map V.int) (-1) = some (.int lst) := by
        rw [List.map_append]
        exact atI_last _ _
      refine ⟨_, rfl, 1, rfl, rp, _, _, _, rfl, rfl, SqL.of (sq _ _ hrp6), hla, _, _, rfl, rfl, szle (Nat.le_of_ble_eq_true rfl), fun z nz => ?_⟩
      refine ⟨q, z, _, [V.int (lst + 5)], rfl, rfl, (Same.newB nz) _ _ upd_same, upd_same, szle (by rw [List.length_map]; show _ + 1 ≤ _; omega), fun c nc => ?_⟩
      have sc := (sq.moreB (o := .lst [.int (lst + 5)]) nz).moreB (o := .lst (ini.map V.int ++ [.int (lst + 5)])) nc
      have hl5 := h4 lst (by simp)
      have hok2 : HeardOk (ini ++ [lst + 5]) := by
        refine ⟨by rw [List.length_append]; show ini.length + 1 ≤ 200; omega, fun x hx => ?_⟩
        rcases List.mem_append.mp hx with hx | hx
        · have := h4 x (List.mem_append_left _ hx)
          omega
        · rcases List.mem_cons.mp hx with rfl | hx
          · omega
          · cases hx
      refine ⟨lp, c, l, ini ++ [lst + 5], rfl, SqT.of (sc _ _ (s6 _ _ hlp5)), lo, SqL.of (by rw [upd_same, List.map_append]; rfl), hok2, fun b2 H7 s7 hb2 => ?_⟩
      have eb2 : b2 = false := by
        cases b2 with
        | false => rfl
        | true =>
          have h6 := may_four lo (hb2.mp rfl) (lst + 5) (by simp)
          omega
      subst eb2
      exact ⟨false, false, rfl, rfl, k H7⟩
end
end Bw

set_option Elab.async false
set_option linter.all false
set_option maxRecDepth 100000
set_option maxHeartbeats 0
namespace Bw
open PySem PySem.Spec PyProof.Rows L2
def d_need_line : He.DefD := ⟨("need_line", none), "need_line", "need_line", defArgs s_need_line, defBody s_need_line, defScope s_need_line, [], []⟩
def d_need_heard : He.DefD := ⟨("need_heard", none), "need_heard", "need_heard", defArgs s_need_heard, defBody s_need_heard, defScope s_need_heard, [], []⟩
def d_begun : He.DefD := ⟨("begun", none), "begun", "begun", defArgs s_begun, defBody s_begun, defScope s_begun, [], []⟩
def d_heard_of : He.DefD := ⟨("heard_of", none), "heard_of", "heard_of", defArgs s_heard_of, defBody s_heard_of, defScope s_heard_of, [], []⟩
def d_moves : He.DefD := ⟨("moves", none), "moves", "moves", defArgs s_moves, defBody s_moves, defScope s_moves, [], []⟩
def d_may : He.DefD := ⟨("may", none), "may", "may", defArgs s_may, defBody s_may, defScope s_may, [], []⟩
def d__law_dice : He.DefD := ⟨("_law_dice", none), "_law_dice", "_law_dice", defArgs s__law_dice, defBody s__law_dice, defScope s__law_dice, [], []⟩
def d__law_off : He.DefD := ⟨("_law_off", none), "_law_off", "_law_off", defArgs s__law_off, defBody s__law_off, defScope s__law_off, [], []⟩
def d__law_alike : He.DefD := ⟨("_law_alike", none), "_law_alike", "_law_alike", defArgs s__law_alike, defBody s__law_alike, defScope s__law_alike, [], []⟩
def d__law_line : He.DefD := ⟨("_law_line", none), "_law_line", "_law_line", defArgs s__law_line, defBody s__law_line, defScope s__law_line, [], []⟩
def d__law_run : He.DefD := ⟨("_law_run", none), "_law_run", "_law_run", defArgs s__law_run, defBody s__law_run, defScope s__law_run, [], []⟩
def d__law_may : He.DefD := ⟨("_law_may", none), "_law_may", "_law_may", defArgs s__law_may, defBody s__law_may, defScope s__law_may, [], []⟩
def d__law_other : He.DefD := ⟨("_law_other", none), "_law_other", "_law_other", defArgs s__law_other, defBody s__law_other, defScope s__law_other, [], []⟩
def d_law : He.DefD := ⟨("law", none), "law", "law", defArgs s_law, defBody s_law, defScope s_law, [], []⟩
def fn : List He.DefD := [d_need_line, d_need_heard, d_begun, d_heard_of, d_moves, d_may, d__law_dice, d__law_off, d__law_alike, d__law_line, d__law_run, d__law_may, d__law_other, d_law]
def fa : List He.Fa := [.free "len", .free "min", .free "max", .free "sum", .free "abs", .free "isinstance", .free "bool", .free "int", .free "str", .free "tuple", .free "list", .free "all", .free "range", .free "enumerate", .int "MOST_EACH" 4, .int "MOST_LATE" 3, .int "MOST_LOST" 2, .int "MOST_MOMENTS" 200, .int "MOST_HEARD" 9, .glo "FIRST", .glo "need_line", .glo "need_heard", .glo "begun", .glo "heard_of", .glo "moves", .glo "may", .glo "_law_dice", .glo "_law_off", .glo "_law_alike", .glo "_law_line", .glo "_law_run", .glo "_law_may", .glo "_law_other", .glo "law"]
abbrev R : PySem.W.OpenRow := PySem.W.OpenLaw.row PySem.Challenge.rw_beatwatch_k05_whole_what_may_be_heard
def firstB (K : PySem.W.Frag) : Bool := match K.lookup (He.ga K "FIRST") with
  | some ⟨.type c, _, .seq its _, _⟩ => decide (c = "tuple") && (match its.toList with
    | [.int i _, .ref b, .int j _] => decide (i = 0) && (decide (j = 0) && (match K.lookup b with
      | some ⟨.type c2, _, .seq its2 _, _⟩ => decide (c2 = "tuple") && its2.toList.isEmpty
      | _ => false))
    | _ => false)
  | _ => false
theorem firstB_ok {K : PySem.W.Frag} (h : firstB K = true) (H : Hp) : Dp K H (.ref (He.ga K "FIRST")) (lsD LS.first) := by
  unfold firstB at h
  split at h
  · rename_i c od its n sl q
    obtain ⟨h1, h2⟩ := Bool.and_eq_true_iff.mp h
    split at h2
    · rename_i i t b j u q2
      obtain ⟨h3, h4⟩ := Bool.and_eq_true_iff.mp h2
      obtain ⟨h5, h6⟩ := Bool.and_eq_true_iff.mp h4
      split at h6
      · rename_i c2 od2 its2 n2 sl2 q3
        obtain ⟨h7, h8⟩ := Bool.and_eq_true_iff.mp h6
        have e8 : its2.toList = [] := List.isEmpty_iff.mp h8
        have hi : i = 0 := of_decide_eq_true h3
        have hj : j = 0 := of_decide_eq_true h5
        subst hi hj
        refine ls_mk (s := LS.first) (b := b) (.inr ⟨_, its, n, q, congrArg Value.type (of_decide_eq_true h1), rfl, ?_, ?_⟩) (.inr ⟨_, its2, n2, q3, congrArg Value.type (of_decide_eq_true h7), rfl, ?_, ?_⟩)
        · show its.size ≤ sizeLine
          rw [← Array.length_toList, q2]
          show 3 ≤ sizeLine
          decide
        · rw [q2]
          exact .cons ⟨_, rfl⟩ (.cons rfl (.cons ⟨_, rfl⟩ .nil))
        · show its2.size ≤ sizeLine
          rw [← Array.length_toList, e8]
          decide
        · rw [e8]
          exact .nil
      · cases h6
    · cases h2
  · cases h
def exB (K : PySem.W.Frag) : Bool := firstB K
def tf : List (Str × Option Str) := []
abbrev hk : PySem.W.Hook := He.hookX 5 fa fn [] tf exB
def ob (s : PySem.W.SharedT) : He.AlX := He.obsX 5 fa fn [] tf exB (HandSHeadRun.getT s)
theorem ob_eq (s : PySem.W.SharedT) : ob s = hk.obs s.abs := He.obsX_eq (HandSHeadRun.getT_eq s)
def loose : List Str := ["BeatError", "BadLine", "BadHeard", "MOST_EACH", "MOST_LATE", "MOST_LOST", "MOST_MOMENTS", "MOST_HEARD", "need_line", "need_heard", "FIRST", "begun", "heard_of", "moves", "may", "_law_dice", "_law_off", "_law_alike", "_law_line", "_law_run", "_law_may", "_law_other"]
theorem run (w : World) : HandSHeadRun.RunEq R (PySem.W.view R.prog [26]) hk ob 20000 loose w := by
  intro os
  kernel_rfl
theorem facts {P : Program} {w : World} {K : PySem.W.Frag} {h : Heap} {mg : Str → Option Value} {f : Addr} (X : K.In h) (G : h.Ns mainGlobals mg) (hfa : mg ("law" : Str) = some (.ref f)) (c : He.SaysX fa fn [] tf exB w h K) :
    ∃ fd : FuncData, (∀ (s : Shared) (v : Value), BindsTo s fd ⟨[v], []⟩ [("_law_script", v)]) ∧ ∀ base : Heap, K.In base → base.Ns mainGlobals mg → FnOk P w K mg base CX0 9 f fd ["_law_script"] (spLaw K) := by
  have c0 := c
  replace c := c0.t.d
  have hFI : ∀ H : Hp, Dp K H (.ref (He.ga K "FIRST")) (lsD LS.first) := firstB_ok (c0.more)
  have g_len : mg "len" = none := He.free_ok X G (c.fact 0 (f := .free "len") rfl)
  have g_min : mg "min" = none := He.free_ok X G (c.fact 1 (f := .free "min") rfl)
  have g_max : mg "max" = none := He.free_ok X G (c.fact 2 (f := .free "max") rfl)
  have g_sum : mg "sum" = none := He.free_ok X G (c.fact 3 (f := .free "sum") rfl)
  have g_abs : mg "abs" = none := He.free_ok X G (c.fact 4 (f := .free "abs") rfl)
  have g_isinstance : mg "isinstance" = none := He.free_ok X G (c.fact 5 (f := .free "isinstance") rfl)
  have g_bool : mg "bool" = none := He.free_ok X G (c.fact 6 (f := .free "bool") rfl)
  have g_int : mg "int" = none := He.free_ok X G (c.fact 7 (f := .free "int") rfl)
  have g_str : mg "str" = none := He.free_ok X G (c.fact 8 (f := .free "str") rfl)
  have g_tuple : mg "tuple" = none := He.free_ok X G (c.fact 9 (f := .free "tuple") rfl)
  have g_list : mg "list" = none := He.free_ok X G (c.fact 10 (f := .free "list") rfl)
  have g_all : mg "all" = none := He.free_ok X G (c.fact 11 (f := .free "all") rfl)
  have g_range : mg "range" = none := He.free_ok X G (c.fact 12 (f := .free "range") rfl)
  have g_enumerate : mg "enumerate" = none := He.free_ok X G (c.fact 13 (f := .free "enumerate") rfl)
  obtain ⟨t_MOST_EACH, g_MOST_EACH⟩ := He.int_ok X G (c.fact 14 (f := .int "MOST_EACH" 4) rfl)
  obtain ⟨t_MOST_LATE, g_MOST_LATE⟩ := He.int_ok X G (c.fact 15 (f := .int "MOST_LATE" 3) rfl)
  obtain ⟨t_MOST_LOST, g_MOST_LOST⟩ := He.int_ok X G (c.fact 16 (f := .int "MOST_LOST" 2) rfl)
  obtain ⟨t_MOST_MOMENTS, g_MOST_MOMENTS⟩ := He.int_ok X G (c.fact 17 (f := .int "MOST_MOMENTS" 200) rfl)
  obtain ⟨t_MOST_HEARD, g_MOST_HEARD⟩ := He.int_ok X G (c.fact 18 (f := .int "MOST_HEARD" 9) rfl)
  have g_FIRST : mg "FIRST" = some (.ref (He.ga K "FIRST")) := He.glo_ok X G (c.fact 19 (f := .glo "FIRST") rfl)
  have g_need_line : mg "need_line" = some (.ref (He.ga K "need_line")) := He.glo_ok X G (c.fact 20 (f := .glo "need_line") rfl)
  have g_need_heard : mg "need_heard" = some (.ref (He.ga K "need_heard")) := He.glo_ok X G (c.fact 21 (f := .glo "need_heard") rfl)
  have g_begun : mg "begun" = some (.ref (He.ga K "begun")) := He.glo_ok X G (c.fact 22 (f := .glo "begun") rfl)
  have g_heard_of : mg "heard_of" = some (.ref (He.ga K "heard_of")) := He.glo_ok X G (c.fact 23 (f := .glo "heard_of") rfl)
  have g_moves : mg "moves" = some (.ref (He.ga K "moves")) := He.glo_ok X G (c.fact 24 (f := .glo "moves") rfl)
  have g_may : mg "may" = some (.ref (He.ga K "may")) := He.glo_ok X G (c.fact 25 (f := .glo "may") rfl)
  have g__law_dice : mg "_law_dice" = some (.ref (He.ga K "_law_dice")) := He.glo_ok X G (c.fact 26 (f := .glo "_law_dice") rfl)
  have g__law_off : mg "_law_off" = some (.ref (He.ga K "_law_off")) := He.glo_ok X G (c.fact 27 (f := .glo "_law_off") rfl)
  have g__law_alike : mg "_law_alike" = some (.ref (He.ga K "_law_alike")) := He.glo_ok X G (c.fact 28 (f := .glo "_law_alike") rfl)
  have g__law_line : mg "_law_line" = some (.ref (He.ga K "_law_line")) := He.glo_ok X G (c.fact 29 (f := .glo "_law_line") rfl)
  have g__law_run : mg "_law_run" = some (.ref (He.ga K "_law_run")) := He.glo_ok X G (c.fact 30 (f := .glo "_law_run") rfl)
  have g__law_may : mg "_law_may" = some (.ref (He.ga K "_law_may")) := He.glo_ok X G (c.fact 31 (f := .glo "_law_may") rfl)
  have g__law_other : mg "_law_other" = some (.ref (He.ga K "_law_other")) := He.glo_ok X G (c.fact 32 (f := .glo "_law_other") rfl)
  have g_law : mg "law" = some (.ref (He.ga K "law")) := He.glo_ok X G (c.fact 33 (f := .glo "law") rfl)
  obtain ⟨fd_need_line, F_need_line⟩ := c.def_ 0 (d := d_need_line) rfl
  have b_need_line : Binds K fd_need_line ["line"] [] := FunD.bindsN (ps := ["line"]) F_need_line fun _ _ _ _ _ _ us hl => match us, hl with | [_], _ => rfl
  obtain ⟨fd_need_heard, F_need_heard⟩ := c.def_ 1 (d := d_need_heard) rfl
  have b_need_heard : Binds K fd_need_heard ["heard"] [] := FunD.bindsN (ps := ["heard"]) F_need_heard fun _ _ _ _ _ _ us hl => match us, hl with | [_], _ => rfl
  obtain ⟨fd_begun, F_begun⟩ := c.def_ 2 (d := d_begun) rfl
  have b_begun : Binds K fd_begun ["line", "state"] [] := FunD.bindsN (ps := ["line", "state"]) F_begun fun _ _ _ _ _ _ us hl => match us, hl with | [_, _], _ => rfl
  obtain ⟨fd_heard_of, F_heard_of⟩ := c.def_ 3 (d := d_heard_of) rfl
  have b_heard_of : Binds K fd_heard_of ["line", "ages"] [] := FunD.bindsN (ps := ["line", "ages"]) F_heard_of fun _ _ _ _ _ _ us hl => match us, hl with | [_, _], _ => rfl
  obtain ⟨fd_moves, F_moves⟩ := c.def_ 4 (d := d_moves) rfl
  have b_moves : Binds K fd_moves ["line", "state"] [] := FunD.bindsN (ps := ["line", "state"]) F_moves fun _ _ _ _ _ _ us hl => match us, hl with | [_, _], _ => rfl
  obtain ⟨fd_may, F_may⟩ := c.def_ 5 (d := d_may) rfl
  have b_may : Binds K fd_may ["line", "heard"] [] := FunD.bindsN (ps := ["line", "heard"]) F_may fun _ _ _ _ _ _ us hl => match us, hl with | [_, _], _ => rfl
  obtain ⟨fd__law_dice, F__law_dice⟩ := c.def_ 6 (d := d__law_dice) rfl
  have b__law_dice : Binds K fd__law_dice ["_law_script", "_law_k"] [] := FunD.bindsN (ps := ["_law_script", "_law_k"]) F__law_dice fun _ _ _ _ _ _ us hl => match us, hl with | [_, _], _ => rfl
  obtain ⟨fd__law_off, F__law_off⟩ := c.def_ 7 (d := d__law_off) rfl
  have b__law_off : Binds K fd__law_off ["_law_d", "_law_most"] [] := FunD.bindsN (ps := ["_law_d", "_law_most"]) F__law_off fun _ _ _ _ _ _ us hl => match us, hl with | [_, _], _ => rfl
  obtain ⟨fd__law_alike, F__law_alike⟩ := c.def_ 8 (d := d__law_alike) rfl
  have b__law_alike : Binds K fd__law_alike ["_law_found", "_law_due"] [] := FunD.bindsN (ps := ["_law_found", "_law_due"]) F__law_alike fun _ _ _ _ _ _ us hl => match us, hl with | [_, _], _ => rfl
  obtain ⟨fd__law_line, F__law_line⟩ := c.def_ 9 (d := d__law_line) rfl
  have b__law_line : Binds K fd__law_line ["_law_d"] [] := FunD.bindsN (ps := ["_law_d"]) F__law_line fun _ _ _ _ _ _ us hl => match us, hl with | [_], _ => rfl
  obtain ⟨fd__law_run, F__law_run⟩ := c.def_ 10 (d := d__law_run) rfl
  have b__law_run : Binds K fd__law_run ["_law_d", "_law_line_here", "_law_there", "_law_more"] [] := FunD.bindsN (ps := ["_law_d", "_law_line_here", "_law_there", "_law_more"]) F__law_run fun _ _ _ _ _ _ us hl => match us, hl with | [_, _, _, _], _ => rfl
  obtain ⟨fd__law_may, F__law_may⟩ := c.def_ 11 (d := d__law_may) rfl
  have b__law_may : Binds K fd__law_may ["_law_line_here", "_law_heard", "_law_there"] [] := FunD.bindsN (ps := ["_law_line_here", "_law_heard", "_law_there"]) F__law_may fun _ _ _ _ _ _ us hl => match us, hl with | [_, _, _], _ => rfl
  obtain ⟨fd__law_other, F__law_other⟩ := c.def_ 12 (d := d__law_other) rfl
  have b__law_other : Binds K fd__law_other ["_law_d", "_law_heard"] [] := FunD.bindsN (ps := ["_law_d", "_law_heard"]) F__law_other fun _ _ _ _ _ _ us hl => match us, hl with | [_, _], _ => rfl
  obtain ⟨fd_law, F_law⟩ := c.def_ 13 (d := d_law) rfl
  have b_law : Binds K fd_law ["_law_script"] [] := FunD.bindsN (ps := ["_law_script"]) F_law fun _ _ _ _ _ _ us hl => match us, hl with | [_], _ => rfl
  cases hfa.symm.trans g_law
  have b := FunD.bindsA (ps := ["_law_script"]) F_law fun _ _ _ _ _ _ us hl => match us, hl with | [_], _ => rfl
  refine ⟨fd_law, fun s v => b s [v] rfl, fun base _ _ => ?_⟩
  have h__law_off : Has P w K mg base 1 "_law_off" p__law_off spOff := ⟨_, _, g__law_off, F__law_off.kp, b__law_off, ok__law_off F__law_off g_len⟩
  have h__law_dice : Has P w K mg base 1 "_law_dice" p__law_dice (spDice K) := ⟨_, _, g__law_dice, F__law_dice.kp, b__law_dice, ok__law_dice F__law_dice g_abs⟩
  have h__law_alike : Has P w K mg base 1 "_law_alike" p__law_alike (spAlike K 0) := ⟨_, _, g__law_alike, F__law_alike.kp, b__law_alike, ok__law_alike F__law_alike b__law_alike g__law_alike g_isinstance g_bool g_int g_str g_tuple g_list g_len g_all g_range 1⟩
  have h_need_heard : Has P w K mg base 1 "need_heard" p_need_heard (spNeedHeard K) := ⟨_, _, g_need_heard, F_need_heard.kp, b_need_heard, ok_need_heard F_need_heard g_enumerate g_MOST_MOMENTS g_MOST_HEARD⟩
  have h_need_line : Has P w K mg base 1 "need_line" p_need_line (spNeedLine K) := ⟨_, _, g_need_line, F_need_line.kp, b_need_line, ok_need_line F_need_line g_MOST_EACH g_MOST_LATE g_MOST_LOST⟩
  have h_begun : Has P w K mg base 1 "begun" p_begun (spBegun K) := ⟨_, _, g_begun, F_begun.kp, b_begun, ok_begun F_begun⟩
  have h_heard_of : Has P w K mg base 1 "heard_of" p_heard_of (spHeardOf K) := ⟨_, _, g_heard_of, F_heard_of.kp, b_heard_of, ok_heard_of F_heard_of g_range g_len g_tuple⟩
  have h_moves : Has P w K mg base 2 "moves" p_moves (spMoves K) := ⟨_, _, g_moves, F_moves.kp, b_moves, ok_moves F_moves h_begun h_heard_of⟩
  have h_may : Has P w K mg base 3 "may" p_may (spMay K) := ⟨_, _, g_may, F_may.kp, b_may, ok_may F_may g_len g_FIRST hFI h_need_line h_need_heard h_moves⟩
  have h__law_may : Has P w K mg base 1 "_law_may" p__law_may (spLMay K) := ⟨_, _, g__law_may, F__law_may.kp, b__law_may, ok__law_may F__law_may g_tuple g_range g_len g_min g_sum⟩
  have h__law_line : Has P w K mg base 2 "_law_line" p__law_line spLine := ⟨_, _, g__law_line, F__law_line.kp, b__law_line, ok__law_line F__law_line g_int h__law_off⟩
  have h__law_run : Has P w K mg base 2 "_law_run" p__law_run (spRun K) := ⟨_, _, g__law_run, F__law_run.kp, b__law_run, ok__law_run F__law_run g_len g_range h__law_off⟩
  have h__law_other : Has P w K mg base 2 "_law_other" p__law_other (spOther K) := ⟨_, _, g__law_other, F__law_other.kp, b__law_other, ok__law_other F__law_other g_list g_len g_min g_max h__law_off⟩
  exact (ok_law F_law g_range g_len g_list h__law_dice h__law_off h__law_line h__law_run h_may h__law_other h__law_alike h__law_may).mono (by decide)
end Bw
open PySem PySem.W PySem.Calls PyProof.Rows
set_option maxRecDepth 100000 in
set_option maxHeartbeats 0 in
theorem PySem.Challenge.cw_beatwatch_k05_whole_what_may_be_heard_holds : PySem.Challenge.rw_beatwatch_k05_whole_what_may_be_heard.Holds := by
  w_on; o_law
  refine HandSHeadRun.head_any (r := OpenLaw.row PySem.Challenge.rw_beatwatch_k05_whole_what_may_be_heard) (q := view (OpenLaw.row PySem.Challenge.rw_beatwatch_k05_whole_what_may_be_heard).prog [26]) (H := Bw.hk) (ob := Bw.ob) (M := 20000) (loose := Bw.loose) (d := HandSHeadRun.topDef (OpenLaw.row PySem.Challenge.rw_beatwatch_k05_whole_what_may_be_heard).prog 26) (kwd := []) Bw.ob_eq
    (by kernel_rfl) (fun s => by kernel_rfl) Bw.run (by kernel_rfl) (by kernel_rfl) (by kernel_rfl) (by rfl) (by first | assumption | decide +kernel) (by decide +kernel) ⟨rfl, rfl, rfl, rfl, rfl, by decide +kernel⟩ ?hw ?hc
  case hw => w_witness2
  case hc =>
    refine L2.walk_ofE (l := PySem.Challenge.rw_beatwatch_k05_whole_what_may_be_heard) (n := 63) (k := 9) (x := "_law_script") (CX := L2.CX0) rfl (by decide) (by kernel_rfl) ⟨rfl, by decide, by decide⟩ ?F (fun _ _ _ _ z => z)
    intro w mg fa h Y G hmg0
    obtain ⟨K, KX, c⟩ := Y
    have hmg : mg ("law" : PySem.Str) = some (.ref fa) := by
      have e : (HandSHeadRun.topDef (OpenLaw.row PySem.Challenge.rw_beatwatch_k05_whole_what_may_be_heard).prog 26).name = ("law" : PySem.Str) := by kernel_rfl
      rw [← e]
      exact hmg0
    obtain ⟨fd, hb, hF⟩ := Bw.facts (P := (PySem.Challenge.rw_beatwatch_k05_whole_what_may_be_heard).prog) (w := w) KX G hmg c
    exact ⟨K, fd, Bw.spLaw K, KX, hb, fun H a ns hl _ hS => ⟨a, ns, rfl, hS, hl, fun _ => rfl⟩, hF⟩

