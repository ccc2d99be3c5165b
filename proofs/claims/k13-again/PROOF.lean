import PyProof.Rows.All
import Wide.All
import OpenK.AllK
import Wide.FinOn
import HandS.ForMost
import HandS.TupAny
import HandS.TupMul
import HandS.IsInst
import HandS.Defaults
import HandS.Evl
import KE.KTupSum
import KE.KStateDown
import KE.KDictKeyed
import HandS.Walk
import HandS.TupLen
import HandS.Style
import PyProof.Draws
import HandS.HeadHook3
import HandS.HeadHook4
import HandS.Head0
import HandS.Head1
import HandS.Head2
import HandS.HeadEnd
import HandS.HeadHook1
import HandS.HeadHook2
import PySem.Challenge.RW_beatwatch_k13_asked_again
set_option Elab.async false
set_option linter.all false
set_option maxRecDepth 100000
set_option maxHeartbeats 4000000
namespace Bw
open PySem PySem.Spec PyProof.Rows L2
/-! ### own rules -/
section
variable {X : Cx}
/-- sum of a tuple of ints -/
def rSumT (K : PySem.W.Frag) : List V → Hp → VK → Prop := fun vs H Q => ∃ (a : Addr) (ns : List Int), vs = [V.ref a] ∧ SqT K H a (ns.map V.int) ∧ Q (.int ns.sum) H
theorem cr_sumT (hc : X.calm = true) : CallR X (.builtin "sum") (rSumT X.K) := by
  intro pins s σ H vs us Q I r h
  obtain ⟨a, ns, rfl, hs, q⟩ := h
  obtain ⟨its, rv, hl, _⟩ := I.tuple hs
  rw [Vals.ref1 r]
  have hi := rv.ints
  obtain ⟨xs, e⟩ := hi.allInts.items
  have hn : numsOf (intItems xs).toList = ns := by rw [← e]; exact hi.numsOf
  rw [nums_intItems] at hn
  rw [e] at hl
  refine PySem.W.ktm_sumG (I.ok.hd hc) hl fun h' tk t' hk => ?_
  have z : EP X pins σ Q (.int ns.sum t') { s with heap := h', toks := tk } := ⟨.int _, H, I.kept hk, ⟨_, rfl⟩, q⟩
  rw [preSum_eq, List.take_of_length_le (by simp), hn]
  exact z
end
section
variable {X : Cx}
theorem pe_gI {x : Str} {i : Int} {t : Tok} {pos : Pos} (hg : Gl X x) (hm : X.mg x = some (.int i t)) (hd : (x == ("__debug__" : Str)) = false := by decide) : PE X (.Name x pos) (tC (.int i)) := pe_glob (v := .int i) hg hm ⟨_, rfl⟩ hd
theorem pe_gS {x : Str} {i : Str} {t : Tok} {pos : Pos} (hg : Gl X x) (hm : X.mg x = some (.str i t)) (hd : (x == ("__debug__" : Str)) = false := by decide) : PE X (.Name x pos) (tC (.str i)) := pe_glob (v := .str i) hg hm ⟨_, rfl⟩ hd
theorem pe_gR {x : Str} {a : Addr} {pos : Pos} (hg : Gl X x) (hm : X.mg x = some (.ref a)) (hd : (x == ("__debug__" : Str)) = false := by decide) : PE X (.Name x pos) (tC (.ref a)) := pe_glob (v := .ref a) hg hm rfl hd
end
/-! ### tests -/
theorem iteD {c A B : Prop} [Decidable c] (h1 : c → A) (h2 : ¬ c → B) : if decide c = true then A else B := by
  by_cases h : c
  · rw [decide_eq_true h]
    exact iteT (h1 h)
  · rw [decide_eq_false h]
    exact iteF (h2 h)
theorem iteN {c A B : Prop} [Decidable c] (h1 : ¬ c → A) (h2 : c → B) : if (!decide c) = true then A else B := by
  by_cases h : c
  · rw [decide_eq_true h]
    exact iteF (h2 h)
  · rw [decide_eq_false h]
    exact iteT (h1 h)
theorem iteB {c : Bool} {A B : Prop} (h1 : c = true → A) (h2 : c = false → B) : if c = true then A else B := by
  cases c with
  | true => exact iteT (h1 rfl)
  | false => exact iteF (h2 rfl)
theorem nat_at {i n : Nat} (h : i < n) (hn : n ≤ sizeLine) : seqIndex? (i : Int) n = some i := by
  have h1 : ixN n (i : Int) = some i := by
    unfold ixN
    rw [if_pos (by omega), if_pos (by omega)]
    rfl
  exact (ixN_seq h1).1
theorem ixN_nat {i n : Nat} (h : i < n) : ixN n (i : Int) = some i := by
  unfold ixN
  rw [if_pos (by omega), if_pos (by omega)]
  rfl
/-! ### a def by its name -/
structure Has (P : Program) (w : World) (K : PySem.W.Frag) (mg : Str → Option Value) (base : Heap) (k : Nat) (x : Str) (ps : List Str) (sp : Sp) : Prop where
  ex : ∃ f fd, mg x = some (.ref f) ∧ PySem.W.keepIn K (.ref f) = true ∧ Binds K fd ps [] ∧ FnOk P w K mg base CX0 k f fd ps sp
theorem pe_fn {X : Cx} {j k : Nat} {x : Str} {ps : List Str} {sp : Sp} {e : Expr} {es : List Expr} {t : TA} {p pos : Pos} (h : Has X.prog X.w X.K X.mg X.base j x ps sp) (hr : Room k X.A) (hg : Gl X x) (ha : PA X (e :: es) t)
    (hjk : j ≤ k := by decide) (hdb : (x == ("__debug__" : Str)) = false := by decide) (he : starEach (e :: es) X.env = (false, eval e X.env) :: starEach es X.env := by rfl) (hpl : (backTo pos (starEach es X.env)).any (·.1) = false := by rfl) :
    PE X (.Call (.Name x p) (e :: es) [] pos) (tCall sp [] E0 t) := by
  obtain ⟨f, fd, hm, hk, hb, F⟩ := h.ex
  exact pe_call F (hr.mono hjk) hg hm hk hb .nil pass0 ha hdb he hpl
/-- a method of a class by its name -/
structure HasM (P : Program) (w : World) (K : PySem.W.Frag) (mg : Str → Option Value) (base : Heap) (k : Nat) (C : Addr) (m : Str) (ps : List Str) (sp : Sp) : Prop where
  ex : ∃ f fd, Cls K C ∧ Meth K C m f ∧ Binds K fd ps [] ∧ FnOk P w K mg base CX0 k f fd ps sp
theorem pe_mth {X : Cx} {j k : Nat} {C : Addr} {m : Str} {ps : List Str} {sp : Sp} {o e : Expr} {es : List Expr} {ta : TE} {t : TA} {apos pos : Pos} {pl : Sem Bool} (h : HasM X.prog X.w X.K X.mg X.base j C m ps sp) (ho : PE X o ta) (hr : Room k X.A) (ha : PA X (e :: es) t)
    (hjk : j ≤ k := by decide) (hst : starEach (e :: es) X.env = (false, eval e X.env) :: starEach es X.env := by rfl) (hpl : (backTo pos (starEach es X.env)).any (·.1) = false := by rfl)
    (ht : eval (.Call (.Attribute o m apos) (e :: es) [] pos) X.env = (do
      let ov ← eval o X.env
      standAt apos.atName
      let (f, first) ← holding [ov] (getMethod ov m pl)
      callWith pos f first (backTo pos (starEach (e :: es) X.env)) (backToKw pos (keywordEach [] X.env))) := by rfl) :
    PE X (.Call (.Attribute o m apos) (e :: es) [] pos) (tMeth C m sp [] E0 ta t) := by
  obtain ⟨f, fd, hc, hm, hb, F⟩ := h.ex
  exact pe_meth ho hc hm F (hr.mono hjk) hb .nil pass0 ha hst hpl ht
/-- a class that is made by its __init__ -/
structure HasC (P : Program) (w : World) (K : PySem.W.Frag) (mg : Str → Option Value) (base : Heap) (k : Nat) (x : Str) (C : Addr) (ps : List Str) (sp : Sp) : Prop where
  ex : ∃ f fd, Mk K C f ∧ mg x = some (.ref C) ∧ Binds K fd ps [] ∧ FnOk P w K mg base CX0 k f fd ps sp
theorem pe_new {X : Cx} {j k : Nat} {x : Str} {C : Addr} {ps : List Str} {sp : Sp} {e : Expr} {es : List Expr} {t : TA} {p pos : Pos} (h : HasC X.prog X.w X.K X.mg X.base j x C ps sp) (hr : Room k X.A) (hg : Gl X x) (ha : PA X (e :: es) t)
    (hjk : j + 1 ≤ k := by decide) (hdb : (x == ("__debug__" : Str)) = false := by decide) (he : starEach (e :: es) X.env = (false, eval e X.env) :: starEach es X.env := by rfl) (hpl : (backTo pos (starEach es X.env)).any (·.1) = false := by rfl) :
    PE X (.Call (.Name x p) (e :: es) [] pos) (tMake C sp [] E0 t) := by
  obtain ⟨f, fd, M, hm, hb, F⟩ := h.ex
  exact pe_make M F (hr.mono hjk) hg hm hb .nil pass0 ha hdb he hpl
/-- a def of the text -/
abbrev FnP (K : PySem.W.Frag) (x : Str) (st : Stmt) (f : Addr) (fd : FuncData) : Prop := FunD K x x (defArgs st) (defBody st) (defScope st) [] [] f fd
abbrev FnQ (K : PySem.W.Frag) (x q : Str) (st : Stmt) (f : Addr) (fd : FuncData) : Prop := FunD K x q (defArgs st) (defBody st) (defScope st) [] [] f fd
end Bw

set_option Elab.async false
set_option linter.all false
set_option maxRecDepth 100000
set_option maxHeartbeats 4000000
namespace Bw
open PySem PySem.Spec PyProof.Rows L2
/-! ### heaps -/
theorem _root_.L2.Same.tupB {K : PySem.W.Frag} {H H' : Hp} {a : Addr} {xs : List V} (e : Same H H') (h : SqT K H a xs) : SqT K H' a xs := by
  rcases h with (h | ⟨o, h⟩) | h
  · exact .inl (.inl (e _ _ h))
  · exact .inl (.inr ⟨o, e _ _ h⟩)
  · exact .inr h
theorem _root_.L2.Same.newB {H : Hp} {p : Addr} {o : HO} (h : H p = none) : Same H (upd H p o) := fun a u e => by
  rw [upd_ne (ne_of_none e h)]
  exact e
theorem _root_.L2.Same.moreB {H H' : Hp} {p : Addr} {o : HO} (e : Same H H') (h : H' p = none) : Same H (upd H' p o) := e.trans (Same.newB h)
/-- an object that H doesn't know may change -/
theorem _root_.L2.Same.mutB {H H' : Hp} {p : Addr} {o : HO} (e : Same H H') (h : H p = none) : Same H (upd H' p o) := fun a u ha => by
  rw [upd_ne (ne_of_none ha h)]
  exact e a u ha
/-! ### the draws -/
def DiceL (xs : List V) : Prop := ∃ (a b : Int) (r : List Int), xs = V.int a :: V.int b :: r.map V.int
def DiceAt (H : Hp) (d : Addr) : Prop := ∃ xs, H d = some (.lst xs) ∧ DiceL xs
/-- from H to H' all is kept but the draws at d -/
structure Dr (d : Addr) (H H' : Hp) : Prop where
  dice : DiceAt H' d
  keep : ∀ b o, b ≠ d → H b = some o → H' b = some o
section
variable {d : Addr} {H H1 H2 : Hp}
theorem Dr.refl (h : DiceAt H d) : Dr d H H := ⟨h, fun _ _ _ e => e⟩
theorem Dr.trans (a : Dr d H H1) (b : Dr d H1 H2) : Dr d H H2 := ⟨b.dice, fun c o n e => b.keep c o n (a.keep c o n e)⟩
theorem DiceAt.ne {p : Addr} (h : DiceAt H d) (e : H p = none) : p ≠ d := by
  rintro rfl
  obtain ⟨xs, h1, _⟩ := h
  rw [h1] at e
  cases e
theorem DiceAt.same (h : DiceAt H d) (s : Same H H1) : DiceAt H1 d := let ⟨xs, h1, h2⟩ := h; ⟨xs, s _ _ h1, h2⟩
theorem Dr.same (a : Dr d H H1) (s : Same H1 H2) : Dr d H H2 := ⟨a.dice.same s, fun c o n e => s c o (a.keep c o n e)⟩
theorem Dr.ofSame (a : DiceAt H d) (s : Same H H1) : Dr d H H1 := (Dr.refl a).same s
theorem Dr.new {p : Addr} {o : HO} (a : Dr d H H1) (e : H1 p = none) : Dr d H (upd H1 p o) := a.same (Same.newB e)
theorem Dr.free {p : Addr} (a : Dr d H H1) (e : H1 p = none) : H p = none := by
  cases h : H p with
  | none => rfl
  | some o => rw [a.keep p o (a.dice.ne e) h] at e; cases e
theorem Dr.tup {K : PySem.W.Frag} {p : Addr} {xs : List V} (a : Dr d H H1) (hd : DiceAt H d) (h : SqT K H p xs) : SqT K H1 p xs := by
  obtain ⟨ys, h1, _⟩ := hd
  rcases h with (h | ⟨o, h⟩) | h
  · exact .inl (.inl (a.keep _ _ (ne_of h h1 (by intro z; cases z)) h))
  · exact .inl (.inr ⟨o, a.keep _ _ (ne_of h h1 (by intro z; cases z)) h⟩)
  · exact .inr h
theorem Dr.set {xs ys : List V} (h : H d = some (.lst xs)) (hy : DiceL ys) : Dr d H (upd H d (.lst ys)) := ⟨⟨ys, upd_same, hy⟩, fun b o n e => by rw [upd_ne n]; exact e⟩
end
def spDice (K : PySem.W.Frag) : Sp := fun vs H Q _ => ∃ (a : Addr) (k : Int) (ns : List Int), vs = [.ref a, .int k] ∧ SqL K H a (ns.map V.int) ∧ ns.length ≤ 63 ∧
  ∀ p H', Same H H' → H p = none → DiceAt H' p → Q (.ref p) H'
def spOff : Sp := fun vs H Q _ => ∃ (d : Addr) (m : Int), vs = [.ref d, .int m] ∧ DiceAt H d ∧ 0 < m ∧ m < 1073741824 ∧ ∀ (r : Int) (H' : Hp), 0 ≤ r → r < m → Dr d H H' → Q (.int r) H'
/-! ### rules -/
inductive Rule where
  | since (n : Nat)
  | few (w m : Nat)
def Rule.ok : Rule → Prop
  | .since n => 1 ≤ n ∧ n ≤ 12
  | .few w m => 1 ≤ w ∧ w ≤ 5 ∧ 1 ≤ m ∧ m ≤ 3
def Rule.vs : Rule → List V
  | .since n => [.str "since", .int n]
  | .few w m => [.str "few", .int w, .int m]
/-- r[1] -/
def Rule.wide : Rule → Nat
  | .since n => n
  | .few w _ => w
theorem since_few : ¬ (("since" : Str) = "few") := by decide +kernel
theorem few_since : ¬ (("few" : Str) = "since") := by decide +kernel
def spRule : Sp := fun vs H Q _ => ∃ (d : Addr), vs = [.ref d] ∧ DiceAt H d ∧ ∀ (r : Rule) (p : Addr) (H' : Hp), r.ok → Dr d H H' → H p = none → H' p = some (.tup r.vs) → Q (.ref p) H'
/-! ### what a watcher keeps -/
def lastN (w : Nat) (l : List Int) : List Int := l.drop (l.length - w)
def nextS : Rule → List Int → Int → List Int
  | .since n, st, many => if many > 0 then [0] else [if st.headD 0 + 1 < (n : Int) then st.headD 0 + 1 else (n : Int)]
  | .few w _, st, many => lastN w (st ++ [many])
def firstS : Rule → List Int
  | .since _ => [0]
  | .few _ _ => []
def goneS : Rule → List Int → Bool
  | .since n, st => decide ((n : Int) ≤ st.headD 0)
  | .few w m, st => decide ((st.length : Int) = (w : Int)) && decide (st.sum < (m : Int))
def StOk : Rule → List Int → Prop
  | .since _, st => ∃ k, st = [k]
  | .few w _, st => st.length ≤ w
theorem stOk_first (r : Rule) : StOk r (firstS r) := by
  cases r with
  | since n => exact ⟨0, rfl⟩
  | few w m => exact Nat.zero_le _
theorem stOk_next (r : Rule) (st : List Int) (many : Int) : StOk r (nextS r st many) := by
  cases r with
  | since n =>
    show ∃ k, (if many > 0 then [0] else [if st.headD 0 + 1 < (n : Int) then st.headD 0 + 1 else (n : Int)]) = [k]
    by_cases h : many > 0
    · rw [if_pos h]
      exact ⟨_, rfl⟩
    · rw [if_neg h]
      exact ⟨_, rfl⟩
  | few w m =>
    show (lastN w (st ++ [many])).length ≤ w
    unfold lastN
    rw [List.length_drop]
    omega
/-- behind what was heard -/
def stOf (r : Rule) (hs : List Int) : List Int := hs.foldl (nextS r) (firstS r)
theorem stOf_snoc (r : Rule) (hs : List Int) (m : Int) : stOf r (hs ++ [m]) = nextS r (stOf r hs) m := by
  unfold stOf
  rw [List.foldl_append]
  rfl
theorem stOk_of (r : Rule) (hs : List Int) : StOk r (stOf r hs) := by
  rcases List.eq_nil_or_concat hs with rfl | ⟨l, a, rfl⟩
  · exact stOk_first r
  · rw [List.concat_eq_append, stOf_snoc]
    exact stOk_next r _ a
/-- the other one is gone by a rule, behind what was heard -/
def goneH : Rule → List Int → Bool
  | .since n, hs => decide (n ≤ hs.length) && decide ((lastN n hs).filter (fun m => decide (0 < m)) = [])
  | .few w m, hs => decide (w ≤ hs.length) && decide ((lastN w hs).sum < (m : Int))
theorem snoc_ind {α : Type} {P : List α → Prop} (h0 : P []) (hs : ∀ l a, P l → P (l ++ [a])) (l : List α) : P l := by
  have key : ∀ n (l : List α), l.length = n → P l := by
    intro n
    induction n with
    | zero => intro l e; rw [List.length_eq_zero_iff.mp e]; exact h0
    | succ n ih =>
      intro l e
      rcases List.eq_nil_or_concat l with rfl | ⟨l', a, rfl⟩
      · exact h0
      · rw [List.concat_eq_append] at e ⊢
        rw [List.length_append] at e
        exact hs l' a (ih l' (by simpa using e))
  exact key _ l rfl
/-- how many moments at the end were silent -/
def quiet : List Int → Nat := fun l => (l.reverse.takeWhile fun m => decide (m ≤ 0)).length
theorem quiet_nil : quiet [] = 0 := rfl
theorem quiet_snoc (l : List Int) (m : Int) : quiet (l ++ [m]) = if m > 0 then 0 else quiet l + 1 := by
  unfold quiet
  rw [List.reverse_append]
  show (List.takeWhile _ (m :: l.reverse)).length = _
  rw [List.takeWhile_cons]
  by_cases h : m > 0
  · rw [if_pos h, if_neg (by simp; omega)]
    rfl
  · rw [if_neg h, if_pos (by simp; omega)]
    rfl
theorem since_is (n : Nat) (hs : List Int) : stOf (.since n) hs = [((min n (quiet hs) : Nat) : Int)] := by
  refine snoc_ind (P := fun hs => stOf (.since n) hs = [((min n (quiet hs) : Nat) : Int)]) ?_ ?_ hs
  · show [(0 : Int)] = _
    rw [quiet_nil, Nat.min_zero]
    rfl
  · intro l a ih
    rw [stOf_snoc, ih, quiet_snoc]
    show (if a > 0 then [0] else [if (((min n (quiet l) : Nat) : Int)) + 1 < (n : Int) then (((min n (quiet l) : Nat) : Int)) + 1 else (n : Int)]) = _
    by_cases h : a > 0
    · rw [if_pos h, if_pos h, Nat.min_zero]
      rfl
    · rw [if_neg h, if_neg h]
      congr 1
      split <;> omega
theorem lastN_len (w : Nat) (l : List Int) : (lastN w l).length = min w l.length := by
  unfold lastN
  rw [List.length_drop]
  omega
theorem lastN_snoc (w : Nat) (l : List Int) (a : Int) (hw : 1 ≤ w) : lastN w (lastN w l ++ [a]) = lastN w (l ++ [a]) := by
  unfold lastN
  rw [List.length_append, List.length_append, List.length_drop, List.drop_append, List.drop_append, List.drop_drop, List.length_drop]
  simp only [List.length_singleton]
  congr 1
  · congr 1
    omega
  · congr 1
    omega
theorem few_is (w m : Nat) (hw : 1 ≤ w) (hs : List Int) : stOf (.few w m) hs = lastN w hs := by
  refine snoc_ind (P := fun hs => stOf (.few w m) hs = lastN w hs) ?_ ?_ hs
  · show ([] : List Int) = lastN w []
    unfold lastN
    rw [List.drop_nil]
  · intro l a ih
    rw [stOf_snoc, ih]
    exact lastN_snoc w l a hw
theorem quiet_le (l : List Int) : quiet l ≤ l.length := by
  refine snoc_ind (P := fun l => quiet l ≤ l.length) ?_ ?_ l
  · exact Nat.le_refl _
  · intro l a ih
    rw [quiet_snoc, List.length_append]
    split <;> simp <;> omega
theorem quiet_iff (n : Nat) (hs : List Int) : n ≤ quiet hs ↔ n ≤ hs.length ∧ (lastN n hs).filter (fun m => decide (0 < m)) = [] := by
  revert n
  refine snoc_ind (P := fun hs => ∀ n, n ≤ quiet hs ↔ n ≤ hs.length ∧ (lastN n hs).filter (fun m => decide (0 < m)) = []) ?_ ?_ hs
  · intro n
    rw [quiet_nil]
    constructor
    · intro h
      refine ⟨h, ?_⟩
      unfold lastN
      rw [List.drop_nil]
      rfl
    · intro h
      exact h.1
  · intro l a ih n
    rw [quiet_snoc, List.length_append, List.length_singleton]
    cases n with
    | zero =>
      constructor
      · intro _
        refine ⟨Nat.zero_le _, ?_⟩
        unfold lastN
        rw [Nat.sub_zero, List.drop_length]
        rfl
      · intro _
        exact Nat.zero_le _
    | succ n =>
      have e : n + 1 ≤ l.length + 1 → lastN (n + 1) (l ++ [a]) = lastN n l ++ [a] := by
        intro h
        unfold lastN
        rw [List.length_append, List.length_singleton, List.drop_append]
        have h1 : l.length + 1 - (n + 1) = l.length - n := by omega
        have h2 : l.length - n - l.length = 0 := by omega
        rw [h1, h2]
        rfl
      by_cases h : a > 0
      · rw [if_pos h]
        constructor
        · intro q
          omega
        · rintro ⟨h1, h2⟩
          rw [e h1, List.filter_append] at h2
          have h3 := (List.append_eq_nil_iff.mp h2).2
          rw [List.filter_cons, if_pos (by simpa using h)] at h3
          cases h3
      · rw [if_neg h]
        have hi := ih n
        constructor
        · intro q
          obtain ⟨h1, h2⟩ := hi.mp (by omega)
          refine ⟨by omega, ?_⟩
          rw [e (by omega), List.filter_append, h2, List.filter_cons, if_neg (by simpa using h)]
          rfl
        · rintro ⟨h1, h2⟩
          rw [e h1, List.filter_append] at h2
          have h3 := hi.mpr ⟨by omega, (List.append_eq_nil_iff.mp h2).1⟩
          omega
theorem gone_is (r : Rule) (hr : r.ok) (hs : List Int) : goneS r (stOf r hs) = goneH r hs := by
  cases r with
  | since n =>
    rw [since_is]
    show decide ((n : Int) ≤ ((min n (quiet hs) : Nat) : Int)) = (decide (n ≤ hs.length) && decide ((lastN n hs).filter (fun m => decide (0 < m)) = []))
    rw [← Bool.decide_and]
    refine decide_eq_decide.mpr ?_
    rw [← quiet_iff]
    omega
  | few w m =>
    rw [few_is w m hr.1]
    show (decide (((lastN w hs).length : Int) = (w : Int)) && decide ((lastN w hs).sum < (m : Int))) = (decide (w ≤ hs.length) && decide ((lastN w hs).sum < (m : Int)))
    congr 1
    refine decide_eq_decide.mpr ?_
    rw [lastN_len]
    omega
/-! ### alike -/
inductive Dn : Nat → PyData → Prop where
  | non (n : Nat) : Dn n .none
  | bool (n : Nat) (b : Bool) : Dn n (.bool b)
  | int (n : Nat) (i : Int) : Dn n (.int i)
  | str (n : Nat) (x : Str) : Dn n (.str x)
  | list (n : Nat) (ds : List PyData) (hl : ds.length ≤ 20000) (h : ∀ d ∈ ds, Dn n d) : Dn (n + 1) (.list ds)
  | tuple (n : Nat) (ds : List PyData) (hl : ds.length ≤ 20000) (h : ∀ d ∈ ds, Dn n d) : Dn (n + 1) (.tuple ds)
def spAlike (K : PySem.W.Frag) (n : Nat) : Sp := fun vs H Q _ => ∃ (x y : V) (D : PyData), vs = [x, y] ∧ Dp K H x D ∧ Dp K H y D ∧ Dn n D ∧ ∀ H', Same H H' → Q (.bl true) H'
def spAlikeN (K : PySem.W.Frag) : Nat → Sp
  | 0 => fun _ _ _ _ => False
  | n + 1 => spAlike K n
theorem Dp.same {K : PySem.W.Frag} {H H' : Hp} (s : Same H H') : ∀ (d : PyData) (v : V), Dp K H v d → Dp K H' v d := by
  intro d v h
  refine Dp.rec (K := K) (H := H) (motive_1 := fun v d _ => Dp K H' v d) (motive_2 := fun vs ds _ => DpAll K H' vs ds) ?_ ?_ ?_ ?_ ?_ ?_ ?_ ?_ h
  · exact .non
  · exact fun b => .bl b
  · exact fun b => .int b
  · exact fun b => .str b
  · exact fun h1 _ h2 => .lst (s.seq h1) h2
  · exact fun h1 _ h2 => .tup (s.tupB h1) h2
  · exact .nil
  · exact fun _ _ h1 h2 => .cons h1 h2
theorem DpAll.len {K : PySem.W.Frag} {H : Hp} : ∀ {vs : List V} {ds : List PyData}, DpAll K H vs ds → vs.length = ds.length
  | _, _, .nil => rfl
  | _, _, .cons _ h => congrArg Nat.succ (DpAll.len h)
theorem DpAll.get {K : PySem.W.Frag} {H : Hp} : ∀ {vs : List V} {ds : List PyData} {i : Nat}, DpAll K H vs ds → i < ds.length → ∃ v d, vs[i]? = some v ∧ ds[i]? = some d ∧ Dp K H v d
  | _, _, _, .nil, h => absurd h (Nat.not_lt_zero _)
  | _, _, 0, .cons h _, _ => ⟨_, _, rfl, rfl, h⟩
  | _, _, i + 1, .cons _ h, hi => DpAll.get (i := i) h (Nat.lt_of_succ_lt_succ hi)
theorem tyx_list {K : PySem.W.Frag} {H : Hp} {a : Addr} {xs : List V} (h : SqL K H a xs) : TyX K H (.ref a) (.type "list") := by
  rcases h with (h | ⟨o, h⟩) | ⟨o, its, n, h, c, _⟩
  · exact .base (.lst h)
  · exact .base (.frz h)
  · exact .kList h c
theorem tyx_tup {K : PySem.W.Frag} {H : Hp} {a : Addr} {xs : List V} (h : SqT K H a xs) : TyX K H (.ref a) (.type "tuple") := by
  rcases h with (h | ⟨o, h⟩) | ⟨o, its, n, h, c, _⟩
  · exact .base (.tup h)
  · exact .fTuple h
  · exact .kTuple h c
theorem rd_isi {K : PySem.W.Frag} {H : Hp} {x : V} {a b : String} {r : Bool} {Q : VK} (ty : TyX K H x (.type a)) (h : kitB a b = some r) (q : Q (.bl r) H) : rIsi K [x, .ty b] H Q := ⟨x, .ty b, _, _, r, rfl, .ty b, ty, kit_ty h, q⟩
theorem qd {c : Prop} [Decidable c] {Q : VK} {H : Hp} (hc : c) (q : Q (.bl true) H) : Q (.bl (decide c)) H := by
  rw [decide_eq_true hc]
  exact q
theorem qb {a b : Bool} {Q : VK} {H : Hp} (e : a = b) (q : Q (.bl a) H) : Q (.bl b) H := by
  rw [← e]
  exact q
theorem int_at {ns : List Int} {i : Nat} {y : V} (h : (ns.map V.int)[i]? = some y) : ∃ z, ns[i]? = some z ∧ y = V.int z := by
  rw [List.getElem?_map] at h
  cases e : ns[i]? with
  | none => rw [e] at h; cases h
  | some z => rw [e] at h; exact ⟨z, rfl, (Option.some.inj h).symm⟩
theorem szle {n : Nat} (h : n ≤ 100000) : n ≤ sizeLine := Nat.le_trans h (by decide)
theorem szlt {n : Nat} (h : n < 100000) : n < sizeLine := Nat.lt_of_lt_of_le h (by decide)
theorem fnOk_false {P : Program} {w : World} {K : PySem.W.Frag} {mg : Str → Option Value} {base : Heap} {CX : CXT} {k : Nat} {f : Addr} {fd : FuncData} {ps : List Str} : FnOk P w K mg base CX k f fd ps (fun _ _ _ _ => False) :=
  ⟨fun _ _ _ _ h => h.elim, fun _ _ _ _ _ _ _ _ _ _ _ _ _ h => h.elim⟩
/-! ### what is a rule -/
def isRuleB (x : Str) : List Int → Bool
  | [n] => decide (x = "since") && (decide (1 ≤ n) && decide (n ≤ 12))
  | [a, b] => decide (x = "few") && ((decide (1 ≤ a) && decide (a ≤ 5)) && (decide (1 ≤ b) && decide (b ≤ 3)))
  | _ => false
def spIsRule (K : PySem.W.Frag) : Sp := fun vs H Q _ => ∃ (q : Addr) (x : Str) (ns : List Int), vs = [.ref q] ∧ SqT K H q (.str x :: ns.map V.int) ∧ ((∃ a, ns = [a]) ∨ ∃ a b, ns = [a, b]) ∧ Q (.bl (isRuleB x ns)) H
theorem Rule.raw (r : Rule) (h : r.ok) : ∃ (x : Str) (ns : List Int), r.vs = .str x :: ns.map V.int ∧ ((∃ a, ns = [a]) ∨ ∃ a b, ns = [a, b]) ∧ isRuleB x ns = true := by
  cases r with
  | since n =>
    refine ⟨"since", [(n : Int)], rfl, .inl ⟨_, rfl⟩, ?_⟩
    have h1 : 1 ≤ n ∧ n ≤ 12 := h
    simp only [isRuleB, decide_true, Bool.true_and, Bool.and_eq_true, decide_eq_true_eq]
    omega
  | few a b =>
    refine ⟨"few", [(a : Int), (b : Int)], rfl, .inr ⟨_, _, rfl⟩, ?_⟩
    have h1 : 1 ≤ a ∧ a ≤ 5 ∧ 1 ≤ b ∧ b ≤ 3 := h
    simp only [isRuleB, decide_true, Bool.true_and, Bool.and_eq_true, decide_eq_true_eq]
    omega
def spNeedRule (K : PySem.W.Frag) : Sp := fun vs H Q _ => ∃ (q : Addr) (r : Rule), vs = [.ref q] ∧ SqT K H q r.vs ∧ r.ok ∧ Q .non H
def spNext (K : PySem.W.Frag) : Sp := fun vs H Q _ => ∃ (q t : Addr) (m : Int) (r : Rule) (st : List Int), vs = [.ref q, .ref t, .int m] ∧ SqT K H q r.vs ∧ r.ok ∧ SqT K H t (st.map V.int) ∧ StOk r st ∧
  ∀ p H', Same H H' → SqT K H' p ((nextS r st m).map V.int) → Q (.ref p) H'
def spFirst (K : PySem.W.Frag) : Sp := fun vs H Q _ => ∃ (q : Addr) (r : Rule), vs = [.ref q] ∧ SqT K H q r.vs ∧ r.ok ∧ ∀ p H', Same H H' → SqT K H' p ((firstS r).map V.int) → Q (.ref p) H'
def spGone (K : PySem.W.Frag) : Sp := fun vs H Q _ => ∃ (q t : Addr) (r : Rule) (st : List Int), vs = [.ref q, .ref t] ∧ SqT K H q r.vs ∧ r.ok ∧ SqT K H t (st.map V.int) ∧ StOk r st ∧ Q (.bl (goneS r st)) H
/-! ### a watcher -/
theorem rk : ¬ (("rule" : Str) = "kept") := by decide +kernel
def wF (q t : Addr) : List (Str × V) := [("rule", .ref q), ("kept", .ref t)]
theorem wF_rule (q t : Addr) : (wF q t).lookup ("rule" : Str) = some (.ref q) := by simp [wF, List.lookup]
theorem wF_kept (q t : Addr) : (wF q t).lookup ("kept" : Str) = some (.ref t) := by
  have h : (("kept" : Str) == "rule") = false := by decide +kernel
  simp [wF, List.lookup, h]
theorem wF_no (q t : Addr) {m : Str} (h1 : (m == ("rule" : Str)) = false) (h2 : (m == ("kept" : Str)) = false) : (wF q t).lookup m = none := by simp [wF, List.lookup, h1, h2]
theorem wF_put (q t u : Addr) : putF "kept" (.ref u) (wF q t) = wF q u := by
  show (if ("rule" : Str) = "kept" then _ else (("rule" : Str), V.ref q) :: (if ("kept" : Str) = "kept" then [(("kept" : Str), V.ref u)] else _)) = _
  rw [if_neg rk, if_pos rfl]
  rfl
theorem wF_new (q t : Addr) : putF "kept" (.ref t) (putF "rule" (.ref q) []) = wF q t := by
  show (if ("rule" : Str) = "kept" then _ else (("rule" : Str), V.ref q) :: putF "kept" (.ref t) []) = _
  rw [if_neg rk]
  rfl
structure WAt (K : PySem.W.Frag) (C : Addr) (H : Hp) (x : Addr) (r : Rule) (st : List Int) : Prop where
  ex : ∃ dx q t, H x = some (.ins C dx (wF q t)) ∧ SqT K H q r.vs ∧ SqT K H t (st.map V.int)
theorem WAt.same {K : PySem.W.Frag} {C : Addr} {H H' : Hp} {x : Addr} {r : Rule} {st : List Int} (h : WAt K C H x r st) (s : Same H H') : WAt K C H' x r st := by
  obtain ⟨dx, q, t, h1, h2, h3⟩ := h.ex
  exact ⟨dx, q, t, s _ _ h1, s.tupB h2, s.tupB h3⟩
def spWInit (K : PySem.W.Frag) (C : Addr) : Sp := fun vs H Q _ => ∃ (x q dx : Addr) (r : Rule), vs = [.ref x, .ref q] ∧ H x = some (.ins C dx []) ∧ SqT K H q r.vs ∧ r.ok ∧
  ∀ H', WAt K C H' x r (firstS r) → (∀ b o, b ≠ x → H b = some o → H' b = some o) → Q .non H'
def spHear (K : PySem.W.Frag) (C : Addr) : Sp := fun vs H Q _ => ∃ (x : Addr) (m : Int) (r : Rule) (st : List Int), vs = [.ref x, .int m] ∧ WAt K C H x r st ∧ r.ok ∧ StOk r st ∧
  ∀ H', WAt K C H' x r (nextS r st m) → (∀ b o, b ≠ x → H b = some o → H' b = some o) → Q (.bl (goneS r (nextS r st m))) H'
/-- the class Watcher as the top has made it -/
structure WTxt (K : PySem.W.Frag) (C : Addr) : Prop where
  cl : Cls K C
  nR : NoAttr K C "rule"
  nK : NoAttr K C "kept"
/-! ### the law's own look -/
def spLGone (K : PySem.W.Frag) : Sp := fun vs H Q _ => ∃ (q l : Addr) (r : Rule) (hs : List Int), vs = [.ref q, .ref l] ∧ SqT K H q r.vs ∧ r.ok ∧ SqL K H l (hs.map V.int) ∧ hs.length ≤ 20000 ∧ ∀ H', Same H H' → Q (.bl (goneH r hs)) H'
theorem sq_tup_ne {K : PySem.W.Frag} {H : Hp} {a x C dx : Addr} {xs : List V} {fs : List (Str × V)} (h : SqT K H a xs) (e : H x = some (.ins C dx fs)) {o : HO} : SqT K (upd H x o) a xs := by
  rcases h with (h | ⟨u, h⟩) | h
  · exact .inl (.inl (by rw [upd_ne (ne_of h e (by intro z; cases z))]; exact h))
  · exact .inl (.inr ⟨u, by rw [upd_ne (ne_of h e (by intro z; cases z))]; exact h⟩)
  · exact .inr h
theorem map_cut (l : List Int) (n : Nat) : ((l.map V.int).drop n).take ((l.map V.int).length - n) = (l.drop n).map V.int := by
  rw [List.take_of_length_le (by rw [List.length_drop]; omega), List.map_drop]
theorem eqv_nil (r : List Int) : PyData.eqv (.list (r.map PyData.int)) (.list []) = decide (r = []) := by
  cases r with
  | nil => rfl
  | cons a r => rfl
theorem dp_ints {K : PySem.W.Frag} {H : Hp} : ∀ ns : List Int, DpAll K H (ns.map V.int) (ns.map PyData.int)
  | [] => .nil
  | n :: ns => .cons (.int n) (dp_ints ns)
theorem Rule.at1 (r : Rule) : r.vs[1]? = some (.int (r.wide : Int)) := by cases r <;> rfl
theorem rng_ext {α : Type} {f g : Nat → α} {i : Nat} (h : ∀ j, j < i → g j = f j) : (List.range (i + 1)).map g = (List.range i).map f ++ [g i] := by
  rw [List.range_succ, List.map_append]
  congr 1
  exact List.map_congr_left fun j hj => h j (List.mem_range.mp hj)
def spLaw (K : PySem.W.Frag) : Sp := fun vs H Q _ => ∃ (a : Addr) (ns : List Int), vs = [.ref a] ∧ SqL K H a (ns.map V.int) ∧ ns.length ≤ 63 ∧ ∀ H', Q (.bl true) H'
end Bw

set_option Elab.async false
set_option linter.all false
set_option maxRecDepth 100000
set_option maxHeartbeats 4000000
namespace Bw
open PySem PySem.Spec PyProof.Rows L2
/-! ### walks by enumerate -/
theorem for_enum {K : PySem.W.Frag} {a : Addr} {xs : List V} {g : TG} {tb : TS} {D : Ends} {σ : L2.St} {H : Hp} (Pv : Nat → L2.St → Hp → Prop) (h0 : Pv 0 σ H) (hl : ∀ i σ H, i ≤ xs.length → Pv i σ H → SqL K H a xs)
    (hs : ∀ i x σ H T, xs[i]? = some x → Pv i σ H → H T = none → g (.ref T) σ (upd H T (.tup [.int (i : Nat), x])) fun σ2 H2 => tb { D with nx := Pv (i + 1), ct := Pv (i + 1), bk := D.nx } σ2 H2) (hd : ∀ σ H, Pv xs.length σ H → D.nx σ H) :
    ∃ W : Nat → Nat → L2.St → Hp → Prop, (∃ m, W 0 m σ H) ∧ ∀ i m σ H, W i m σ H →
      ((Ite K a).stop i H ∧ D.nx σ H) ∨ ((Ite K a).go i H ∧ ∃ N : L2.St → Hp → Prop, (∀ σ' H', N σ' H' → ∃ m', m' < m ∧ W (i + 1) m' σ' H') ∧ ∀ x H', (Ite K a).yld i H x H' → g x σ H' fun σ2 H2 => tb { D with nx := N, ct := N, bk := D.nx } σ2 H2) := by
  refine ⟨fun i m σ H => m = xs.length - i ∧ i ≤ xs.length ∧ Pv i σ H, ⟨xs.length, by simp, Nat.zero_le _, h0⟩, ?_⟩
  rintro i m σ H ⟨rfl, hi, p⟩
  have q := hl i σ H hi p
  by_cases hlt : i < xs.length
  · refine .inr ⟨⟨xs, xs[i], q, by simp [hlt]⟩, Pv (i + 1), fun σ' H' p' => ⟨xs.length - (i + 1), by omega, rfl, hlt, p'⟩, fun v H' y => ?_⟩
    obtain ⟨T, x, rfl, nT, rfl, y⟩ := y
    exact hs i x σ _ T (y xs q) p nT
  · have e : i = xs.length := by omega
    subst e
    exact .inl ⟨⟨xs, q, Nat.le_refl _⟩, hd σ H p⟩
theorem rgs_up {n c : Nat} (hc : 1 ≤ c ∧ c ≤ 4) : Builtin.Range.rangeSize 0 (n : Int) (c : Int) = (((n + c - 1) / c : Nat) : Int) := by
  have h4 : c = 1 ∨ c = 2 ∨ c = 3 ∨ c = 4 := by omega
  rcases h4 with rfl | rfl | rfl | rfl
  all_goals
    unfold Builtin.Range.rangeSize
    rw [if_pos (by decide)]
    split <;> omega
theorem rgc_up {n c : Nat} (hn : n ≤ 1000) (hc : 1 ≤ c ∧ c ≤ 4) : RgC 0 (n : Int) (c : Int) ((n + c - 1) / c) := by
  have e := rgs_up (n := n) hc
  have hb : (n + c - 1) / c ≤ 1003 := Nat.le_trans (Nat.div_le_self _ _) (by omega)
  refine ⟨by omega, by omega, ?_, e⟩
  unfold Builtin.Range.small
  rw [e]
  generalize (n + c - 1) / c = m at *
  simp only [Builtin.Range.rangeFitsLong, Bool.and_eq_true, Bool.or_eq_true, decide_eq_true_eq, beq_iff_eq]
  have hc0 : (c : Int) > 0 := by omega
  simp only [hc0, if_true, Bool.and_eq_true, decide_eq_true_eq]
  omega
/-! ### lines -/
structure Line where
  each : Nat
  late : Nat
  lost : Nat
structure Line.ok (l : Line) : Prop where
  e1 : 1 ≤ l.each
  e4 : l.each ≤ 4
  l3 : l.late ≤ 3
  s2 : l.lost ≤ 2
def Line.vs (l : Line) : List V := [.int l.each, .int l.late, .int l.lost]
def spLine : Sp := fun vs H Q _ => ∃ (d : Addr), vs = [.ref d] ∧ DiceAt H d ∧ ∀ (l : Line) (p : Addr) (H' : Hp), l.ok → (l.each = 1 → l.late = 3 → l.lost = 0) → Dr d H H' → H p = none → H' p = some (.tup l.vs) → Q (.ref p) H'
/-! ### what is heard of one who is there: each beat's fate -/
/-- the fates of the beats so far, in turn (lost, or how late); r: how many were lost on end -/
inductive Outs (l : Line) : Nat → List (Option Nat) → Prop where
  | nil : Outs l 0 []
  | lose {r : Nat} {os : List (Option Nat)} (h : Outs l r os) (hr : r < l.lost) : Outs l (r + 1) (os ++ [none])
  | hear {r : Nat} {os : List (Option Nat)} (h : Outs l r os) (d : Nat) (hd : d ≤ l.late) : Outs l 0 (os ++ [some d])
def hit (each : Nat) (t : Nat) (p : Option Nat × Nat) : Bool := match p.1 with
  | none => false
  | some d => decide (p.2 * each + d = t)
def cnt (each : Nat) (os : List (Option Nat)) (t : Nat) : Nat := (os.zipIdx.filter (hit each t)).length
theorem cnt_nil (each t : Nat) : cnt each [] t = 0 := rfl
theorem cnt_snoc (each : Nat) (os : List (Option Nat)) (o : Option Nat) (t : Nat) : cnt each (os ++ [o]) t = cnt each os t + if hit each t (o, os.length) = true then 1 else 0 := by
  unfold cnt
  rw [List.zipIdx_append, List.filter_append, List.length_append]
  congr 1
  show (List.filter (hit each t) [(o, 0 + os.length)]).length = _
  rw [Nat.zero_add]
  by_cases h : hit each t (o, os.length) = true
  · rw [List.filter_cons, if_pos h, if_pos h]
    rfl
  · rw [List.filter_cons, if_neg h, if_neg h]
    rfl
theorem cnt_lose (each : Nat) (os : List (Option Nat)) (t : Nat) : cnt each (os ++ [none]) t = cnt each os t := by
  rw [cnt_snoc]
  rfl
theorem cnt_hear (each : Nat) (os : List (Option Nat)) (d t : Nat) : cnt each (os ++ [some d]) t = cnt each os t + if os.length * each + d = t then 1 else 0 := by
  rw [cnt_snoc]
  congr 1
  show (if decide (os.length * each + d = t) = true then 1 else 0) = _
  by_cases h : os.length * each + d = t
  · rw [if_pos h, if_pos (decide_eq_true h)]
  · rw [if_neg h, if_neg (by rw [decide_eq_false h]; decide)]
theorem cnt_le {l : Line} {r : Nat} {os : List (Option Nat)} (h : Outs l r os) (h1 : 1 ≤ l.each) (t : Nat) : cnt l.each os t ≤ min (t + 1) (os.length * l.each) + l.late - t := by
  induction h with
  | nil =>
    rw [cnt_nil]
    exact Nat.zero_le _
  | lose h hr ih =>
    rw [cnt_lose, List.length_append, List.length_singleton, Nat.succ_mul]
    omega
  | hear h d hd ih =>
    rw [cnt_hear, List.length_append, List.length_singleton, Nat.succ_mul]
    split <;> omega
theorem cnt_four {l : Line} (lo : l.ok) {r : Nat} {os : List (Option Nat)} (h : Outs l r os) (t : Nat) : cnt l.each os t ≤ 4 := by
  have h1 := cnt_le h lo.e1 t
  have h2 := lo.l3
  omega
def heardOf (each : Nat) (os : List (Option Nat)) (n : Nat) : List Int := (List.range n).map fun t => ((cnt each os t : Nat) : Int)
theorem heardOf_len (each : Nat) (os : List (Option Nat)) (n : Nat) : (heardOf each os n).length = n := by
  unfold heardOf
  rw [List.length_map, List.length_range]
theorem heardOf_at {each : Nat} {os : List (Option Nat)} {n t : Nat} (h : t < n) : (heardOf each os n)[t]? = some ((cnt each os t : Nat) : Int) := by
  unfold heardOf
  rw [List.getElem?_map, List.getElem?_range h]
  rfl
theorem heardOf_nil (each n : Nat) : heardOf each [] n = List.replicate n 0 := by
  refine List.ext_getElem? fun t => ?_
  by_cases h : t < n
  · rw [heardOf_at h, List.getElem?_replicate, if_pos h]
    rfl
  · rw [List.getElem?_eq_none (by rw [heardOf_len]; omega), List.getElem?_eq_none (by rw [List.length_replicate]; omega)]
theorem heardOf_lose (each : Nat) (os : List (Option Nat)) (n : Nat) : heardOf each (os ++ [none]) n = heardOf each os n := by
  unfold heardOf
  exact List.map_congr_left fun t _ => by rw [cnt_lose]
theorem heardOf_out {each : Nat} {os : List (Option Nat)} {d n : Nat} (h : ¬ os.length * each + d < n) : heardOf each (os ++ [some d]) n = heardOf each os n := by
  unfold heardOf
  refine List.map_congr_left fun t ht => ?_
  have h1 := List.mem_range.mp ht
  rw [cnt_hear, if_neg (by omega), Nat.add_zero]
theorem heardOf_in {each : Nat} {os : List (Option Nat)} {d n : Nat} (h : os.length * each + d < n) :
    heardOf each (os ++ [some d]) n = (heardOf each os n).set (os.length * each + d) (((cnt each os (os.length * each + d) : Nat) : Int) + 1) := by
  refine List.ext_getElem? fun t => ?_
  by_cases ht : t < n
  · rw [heardOf_at ht, cnt_hear]
    by_cases e : os.length * each + d = t
    · subst e
      rw [if_pos rfl, List.getElem?_set_self (by rw [heardOf_len]; exact h)]
      congr 1
    · rw [if_neg e, List.getElem?_set_ne e, heardOf_at ht]
      rfl
  · rw [List.getElem?_eq_none (by rw [heardOf_len]; omega), List.getElem?_eq_none (by rw [List.length_set, heardOf_len]; omega)]
/-- what can be heard -/
def HeardOk (hs : List Int) : Prop := hs.length ≤ 200 ∧ ∀ m ∈ hs, 0 ≤ m ∧ m ≤ 9
theorem heardOf_mem {l : Line} (lo : l.ok) {r : Nat} {os : List (Option Nat)} (h : Outs l r os) {n : Nat} {m : Int} (hm : m ∈ heardOf l.each os n) : 0 ≤ m ∧ m ≤ 4 := by
  obtain ⟨t, _, rfl⟩ := List.mem_map.mp hm
  have := cnt_four lo h t
  omega
def spRun (K : PySem.W.Frag) : Sp := fun vs H Q _ => ∃ (d lp : Addr) (l : Line) (there more : Nat), vs = [.ref d, .ref lp, .int there, .int more] ∧ DiceAt H d ∧ SqT K H lp l.vs ∧ l.ok ∧ there ≤ 300 ∧ more ≤ 300 ∧
  ∀ (r : Nat) (os : List (Option Nat)) (p : Addr) (H' : Hp), Outs l r os → os.length = (there + l.each - 1) / l.each → Dr d H H' → H p = none → H' p = some (.lst ((heardOf l.each os (there + more)).map V.int)) → Q (.ref p) H'
/-! ### told -/
def toldOf (r : Rule) (hs : List Int) : List Bool := (List.range hs.length).map fun i => goneH r (hs.take (i + 1))
def spNeedHeard (K : PySem.W.Frag) : Sp := fun vs H Q _ => ∃ (l : Addr) (hs : List Int), vs = [.ref l] ∧ SqL K H l (hs.map V.int) ∧ HeardOk hs ∧ ∀ H', Same H H' → Q .non H'
def spTold (K : PySem.W.Frag) : Sp := fun vs H Q _ => ∃ (q l : Addr) (r : Rule) (hs : List Int), vs = [.ref q, .ref l] ∧ SqT K H q r.vs ∧ r.ok ∧ SqL K H l (hs.map V.int) ∧ HeardOk hs ∧
  ∀ p H', Same H H' → H p = none → H' p = some (.lst ((toldOf r hs).map V.bl)) → Q (.ref p) H'
/-- the turns among what is told, up to the n-th moment -/
def turnsTo (bs : List Bool) (n : Nat) : List PyData := (List.range n).filterMap fun i => if bs.getD i false = (false :: bs).getD i false then none else some (.tuple [.int (i : Int), .str (if bs.getD i false = true then "gone" else "back")])
def spTurns (K : PySem.W.Frag) : Sp := fun vs H Q _ => ∃ (q l : Addr) (r : Rule) (hs : List Int), vs = [.ref q, .ref l] ∧ SqT K H q r.vs ∧ r.ok ∧ SqL K H l (hs.map V.int) ∧ HeardOk hs ∧
  ∀ p H' xs, Same H H' → H p = none → H' p = some (.lst xs) → DpAll K H' xs (turnsTo (toldOf r hs) hs.length) → Q (.ref p) H'
def spLTold (K : PySem.W.Frag) : Sp := fun vs H Q _ => ∃ (q l : Addr) (r : Rule) (hs : List Int), vs = [.ref q, .ref l] ∧ SqT K H q r.vs ∧ r.ok ∧ SqL K H l (hs.map V.int) ∧ hs.length ≤ 20000 ∧
  ∀ p H', Same H H' → H p = none → H' p = some (.lst ((toldOf r hs).map V.bl)) → Q (.ref p) H'
theorem toldOf_len (r : Rule) (hs : List Int) : (toldOf r hs).length = hs.length := by
  unfold toldOf
  rw [List.length_map, List.length_range]
theorem turnsTo_succ_eq {bs : List Bool} {n : Nat} (h : bs.getD n false = (false :: bs).getD n false) : turnsTo bs (n + 1) = turnsTo bs n := by
  unfold turnsTo
  rw [List.range_succ, List.filterMap_append, List.filterMap_cons, if_pos h]
  simp
theorem turnsTo_succ_ne {bs : List Bool} {n : Nat} (h : ¬ bs.getD n false = (false :: bs).getD n false) : turnsTo bs (n + 1) = turnsTo bs n ++ [.tuple [.int (n : Int), .str (if bs.getD n false = true then "gone" else "back")]] := by
  unfold turnsTo
  rw [List.range_succ, List.filterMap_append, List.filterMap_cons, if_neg h]
  rfl
theorem turnsTo_len (bs : List Bool) (n : Nat) : (turnsTo bs n).length ≤ n := by
  unfold turnsTo
  exact Nat.le_trans (List.length_filterMap_le _ _) (by rw [List.length_range]; exact Nat.le_refl _)
theorem DpAll.snoc {K : PySem.W.Frag} {H : Hp} : ∀ {vs : List V} {ds : List PyData} {v : V} {d : PyData}, DpAll K H vs ds → Dp K H v d → DpAll K H (vs ++ [v]) (ds ++ [d])
  | _, _, _, _, .nil, h => .cons h .nil
  | _, _, _, _, .cons a b, h => .cons a (DpAll.snoc b h)
theorem DpAll.same {K : PySem.W.Frag} {H H' : Hp} (s : Same H H') : ∀ {vs : List V} {ds : List PyData}, DpAll K H vs ds → DpAll K H' vs ds
  | _, _, .nil => .nil
  | _, _, .cons a b => .cons (Dp.same s _ _ a) (DpAll.same s b)
theorem dp_bls {K : PySem.W.Frag} {H : Hp} : ∀ bs : List Bool, DpAll K H (bs.map V.bl) (bs.map PyData.bool)
  | [] => .nil
  | n :: ns => .cons (.bl n) (dp_bls ns)
/-! ### cuts -/
section
variable {X : Cx}
theorem pt_cut {e : Expr} {t : L2.TT} (h : PT X e t) : PT X e (fun σ H Q => ∃ M : Bool → Hp → Prop, t σ H M ∧ ∀ b H', M b H' → Q b H') :=
  ⟨fun pins s σ H Q I ⟨M, h1, h2⟩ => thn (h.run pins s σ H M I h1) fun b s' ⟨H', I', m⟩ => ⟨H', I', h2 b H' m⟩⟩
theorem pe_cut {e : Expr} {t : TE} (h : PE X e t) : PE X e (fun σ H Q => ∃ M : VK, t σ H M ∧ ∀ v H', M v H' → Q v H') :=
  ⟨fun pins s σ H Q I ⟨M, h1, h2⟩ => thn (h.run pins s σ H M I h1) fun u s' ⟨v, H', I', r, m⟩ => ⟨v, H', I', r, h2 v H' m⟩⟩
end
theorem WAt.keep {K : PySem.W.Frag} {C : Addr} {H H' : Hp} {x : Addr} {r : Rule} {st : List Int} (h : WAt K C H x r st) (hk : ∀ b o, (∀ xs, o ≠ .lst xs) → H b = some o → H' b = some o) : WAt K C H' x r st := by
  obtain ⟨dx, q, t, h1, h2, h3⟩ := h.ex
  have kt : ∀ {a xs}, SqT K H a xs → SqT K H' a xs := by
    intro a xs h
    rcases h with (h | ⟨u, h⟩) | h
    · exact .inl (.inl (hk _ _ (by intro xs z; cases z) h))
    · exact .inl (.inr ⟨u, hk _ _ (by intro xs z; cases z) h⟩)
    · exact .inr h
  exact ⟨dx, q, t, hk _ _ (by intro xs z; cases z) h1, kt h2, kt h3⟩
/-- an update of a list keeps what is no list -/
theorem keepL {H : Hp} {p : Addr} {xs ys : List V} (h : H p = some (.lst xs)) : ∀ b o, (∀ xs, o ≠ .lst xs) → H b = some o → upd H p (.lst ys) b = some o := fun b o n e => by
  rw [upd_ne (ne_of e h (n _))]
  exact e
/-! ### data without lists -/
inductive NoL : PyData → Prop where
  | non : NoL .none
  | bool (b : Bool) : NoL (.bool b)
  | int (i : Int) : NoL (.int i)
  | str (x : Str) : NoL (.str x)
  | tuple (ds : List PyData) (h : ∀ d ∈ ds, NoL d) : NoL (.tuple ds)
theorem sqT_keepL {K : PySem.W.Frag} {H H' : Hp} (hk : ∀ b o, (∀ xs, o ≠ .lst xs) → H b = some o → H' b = some o) {a : Addr} {xs : List V} (h : SqT K H a xs) : SqT K H' a xs := by
  rcases h with (h | ⟨u, h⟩) | h
  · exact .inl (.inl (hk _ _ (by intro xs z; cases z) h))
  · exact .inl (.inr ⟨u, hk _ _ (by intro xs z; cases z) h⟩)
  · exact .inr h
theorem Dp.keepL {K : PySem.W.Frag} {H H' : Hp} (hk : ∀ b o, (∀ xs, o ≠ .lst xs) → H b = some o → H' b = some o) {v : V} {d : PyData} (h : Dp K H v d) (hn : NoL d) : Dp K H' v d := by
  revert hn
  refine Dp.rec (K := K) (H := H) (motive_1 := fun v d _ => NoL d → Dp K H' v d) (motive_2 := fun vs ds _ => (∀ d ∈ ds, NoL d) → DpAll K H' vs ds) ?_ ?_ ?_ ?_ ?_ ?_ ?_ ?_ h
  · exact fun _ => .non
  · exact fun b _ => .bl b
  · exact fun b _ => .int b
  · exact fun b _ => .str b
  · exact fun h1 _ h2 hn => nomatch hn
  · intro a xs ds h1 h2 ih hn
    cases hn with
    | tuple _ hd => exact .tup (sqT_keepL hk h1) (ih hd)
  · exact fun _ => .nil
  · exact fun _ _ h1 h2 hn => .cons (h1 (hn _ List.mem_cons_self)) (h2 fun d hd => hn d (List.mem_cons_of_mem _ hd))
theorem DpAll.keepL {K : PySem.W.Frag} {H H' : Hp} (hk : ∀ b o, (∀ xs, o ≠ .lst xs) → H b = some o → H' b = some o) : ∀ {vs : List V} {ds : List PyData}, DpAll K H vs ds → (∀ d ∈ ds, NoL d) → DpAll K H' vs ds
  | _, _, .nil, _ => .nil
  | _, _, .cons a b, hn => .cons (Dp.keepL hk a (hn _ List.mem_cons_self)) (DpAll.keepL hk b fun d hd => hn d (List.mem_cons_of_mem _ hd))
theorem turnsTo_noL (bs : List Bool) (n : Nat) : ∀ d ∈ turnsTo bs n, NoL d := by
  intro d hd
  unfold turnsTo at hd
  obtain ⟨i, _, h⟩ := List.mem_filterMap.mp hd
  split at h
  · cases h
  · cases h
    refine .tuple _ fun d hd => ?_
    rcases List.mem_cons.mp hd with rfl | hd
    · exact .int _
    rcases List.mem_cons.mp hd with rfl | hd
    · exact .str _
    · cases hd
def spHeard : Sp := fun vs H Q _ => ∃ (d : Addr), vs = [.ref d] ∧ DiceAt H d ∧ ∀ (hs : List Int) (p : Addr) (H' : Hp), HeardOk hs → Dr d H H' → H p = none → H' p = some (.lst (hs.map V.int)) → Q (.ref p) H'
/-- one of a written list -/
theorem pickL {xs : List V} {r : Int} (h0 : 0 ≤ r) (h1 : r < (xs.length : Int)) : ∃ v, v ∈ xs ∧ atI xs r = some v := by
  obtain ⟨n, rfl⟩ := Int.eq_ofNat_of_zero_le h0
  have h : n < xs.length := by omega
  exact ⟨xs[n], List.getElem_mem h, atI_nat (by rw [List.getElem?_eq_getElem h])⟩
theorem Dr.mutB {d p : Addr} {H H1 : Hp} {o : HO} (a : Dr d H H1) (hd : DiceAt H d) (e : H p = none) : Dr d H (upd H1 p o) := by
  have n := hd.ne e
  refine ⟨?_, fun b u nb hb => ?_⟩
  · obtain ⟨ds, a1, a2⟩ := a.dice
    exact ⟨ds, by rw [upd_ne (Ne.symm n)]; exact a1, a2⟩
  · rw [upd_ne (ne_of_none hb e)]
    exact a.keep b u nb hb
theorem rep_map (n : Nat) (x : V) : (List.replicate n [x]).flatten = List.replicate n x := by
  induction n with
  | zero => rfl
  | succ n ih => rw [List.replicate_succ, List.replicate_succ, List.flatten_cons, ih]; rfl
theorem eqv_self {d : PyData} (h : SeqAt.shaped d = true) : PyData.eqv d d = true := SeqAt.eqv_refl d (Bool.and_eq_true_iff.mp h).1
end Bw

set_option Elab.async false
set_option linter.all false
set_option maxRecDepth 100000
set_option maxHeartbeats 4000000
namespace Bw
open PySem PySem.Spec PyProof.Rows L2
/-! ### dicts whose keys are nested tuples -/
abbrev NK := PySem.NestedKey
def NotT : HO → Prop
  | .tup _ => False
  | .frz _ _ => False
  | _ => True
/-- the tuples stay -/
structure TK (H H' : Hp) : Prop where
  tup : ∀ b xs, H b = some (.tup xs) → H' b = some (.tup xs)
  frz : ∀ b o u, H b = some (.frz o u) → H' b = some (.frz o u)
theorem TK.refl (H : Hp) : TK H H := ⟨fun _ _ e => e, fun _ _ _ e => e⟩
theorem TK.trans {H H1 H2 : Hp} (a : TK H H1) (b : TK H1 H2) : TK H H2 := ⟨fun c xs e => b.tup c xs (a.tup c xs e), fun c o u e => b.frz c o u (a.frz c o u e)⟩
theorem TK.same {H H' : Hp} (s : Same H H') : TK H H' := ⟨fun _ _ e => s _ _ e, fun _ _ _ e => s _ _ e⟩
theorem TK.upd {H : Hp} {p : Addr} {o o' : HO} (h : H p = some o) (n : NotT o) : TK H (upd H p o') := by
  refine ⟨fun b xs e => ?_, fun b q u e => ?_⟩
  · rw [upd_ne (ne_of e h (by intro z; subst z; exact n))]; exact e
  · rw [upd_ne (ne_of e h (by intro z; subst z; exact n))]; exact e
theorem TK.new {H : Hp} {p : Addr} {o' : HO} (h : H p = none) : TK H (L2.upd H p o') := TK.same (Same.newB h)
theorem TK.dr {d : Addr} {H H' : Hp} (D : Dr d H H') (hd : DiceAt H d) : TK H H' := by
  obtain ⟨ys, h1, _⟩ := hd
  exact ⟨fun b xs e => D.keep _ _ (ne_of e h1 (by intro z; cases z)) e, fun b o u e => D.keep _ _ (ne_of e h1 (by intro z; cases z)) e⟩
theorem TK.sqT {K : PySem.W.Frag} {H H' : Hp} (t : TK H H') {a : Addr} {xs : List V} (h : SqT K H a xs) : SqT K H' a xs := by
  rcases h with (h | ⟨u, h⟩) | h
  · exact .inl (.inl (t.tup _ _ h))
  · exact .inl (.inr ⟨u, t.frz _ _ _ h⟩)
  · exact .inr h
theorem Dp.keepT {K : PySem.W.Frag} {H H' : Hp} (t : TK H H') {v : V} {d : PyData} (h : Dp K H v d) (hn : NoL d) : Dp K H' v d := by
  revert hn
  refine Dp.rec (K := K) (H := H) (motive_1 := fun v d _ => NoL d → Dp K H' v d) (motive_2 := fun vs ds _ => (∀ d ∈ ds, NoL d) → DpAll K H' vs ds) ?_ ?_ ?_ ?_ ?_ ?_ ?_ ?_ h
  · exact fun _ => .non
  · exact fun b _ => .bl b
  · exact fun b _ => .int b
  · exact fun b _ => .str b
  · exact fun h1 _ h2 hn => nomatch hn
  · intro a xs ds h1 h2 ih hn
    cases hn with
    | tuple _ hd => exact .tup (t.sqT h1) (ih hd)
  · exact fun _ => .nil
  · exact fun _ _ h1 h2 hn => .cons (h1 (hn _ List.mem_cons_self)) (h2 fun d hd => hn d (List.mem_cons_of_mem _ hd))
theorem DpAll.keepT {K : PySem.W.Frag} {H H' : Hp} (t : TK H H') : ∀ {vs : List V} {ds : List PyData}, DpAll K H vs ds → (∀ d ∈ ds, NoL d) → DpAll K H' vs ds
  | _, _, .nil, _ => .nil
  | _, _, .cons a b, hn => .cons (Dp.keepT t a (hn _ List.mem_cons_self)) (DpAll.keepT t b fun d hd => hn d (List.mem_cons_of_mem _ hd))
mutual
theorem nk_noL : ∀ k : NK, NoL k.data
  | .none => .non
  | .num i => .int i
  | .text x => .str x
  | .tup ks => .tuple _ (nks_noL ks)
theorem nks_noL : ∀ ks : List NK, ∀ d ∈ NestedKey.datas ks, NoL d
  | [], d, h => nomatch h
  | k :: ks, d, h => by
    rcases List.mem_cons.mp h with rfl | h
    · exact nk_noL k
    · exact nks_noL ks d h
end
section
variable {X : Cx} {pins : List (Addr × Obj)} {σ : L2.St} {H : Hp} {s : Shared}
theorem nk_of (I : Inv X pins σ H s) {v : V} {d : PyData} (h : Dp X.K H v d) : ∀ (k : NK) (u : Value), k.data = d → RelV v u → NestedIs s.heap k u := by
  refine Dp.rec (K := X.K) (H := H) (motive_1 := fun v d _ => ∀ (k : NK) (u : Value), k.data = d → RelV v u → NestedIs s.heap k u) (motive_2 := fun vs ds _ => ∀ (ks : List NK) (us : List Value), NestedKey.datas ks = ds → Vals vs us → NestedAll s.heap ks us) ?_ ?_ ?_ ?_ ?_ ?_ ?_ ?_ h
  · intro k u e r
    cases k with
    | none => cases r; exact .none
    | num i => cases e
    | text x => cases e
    | tup ks => cases e
  · intro b k u e r
    cases k <;> cases e
  · intro i k u e r
    cases k with
    | none => cases e
    | num j => cases e; obtain ⟨t, rfl⟩ := r; exact .int _ _
    | text x => cases e
    | tup ks => cases e
  · intro x k u e r
    cases k with
    | none => cases e
    | num j => cases e
    | text y => cases e; obtain ⟨t, rfl⟩ := r; exact .text _ _
    | tup ks => cases e
  · intro a xs ds h1 h2 ih k u e r
    cases k <;> cases e
  · intro a xs ds h1 h2 ih k u e r
    cases k with
    | none => cases e
    | num j => cases e
    | text y => cases e
    | tup ks =>
      obtain ⟨its, rv, ⟨o, ho, hc, n, hd⟩, _⟩ := I.tuple h1
      obtain rfl : u = Value.ref a := r
      have e' : NestedKey.datas ks = ds := by
        have : PyData.tuple (NestedKey.datas ks) = .tuple ds := e
        injection this
      exact .tup ho hc hd (by simpa using ih ks its e' rv)
  · intro ks us e r
    cases ks with
    | nil => cases r; exact .nil
    | cons k ks => cases e
  · intro v vs d ds h1 h2 ih1 ih2 ks us e r
    cases ks with
    | nil => cases e
    | cons k ks =>
      have e' : k.data = d ∧ NestedKey.datas ks = ds := by
        have : k.data :: NestedKey.datas ks = d :: ds := e
        injection this with a b
        exact ⟨a, b⟩
      cases r with
      | cons r1 r2 => exact .cons (ih1 k _ e'.1 r1) (ih2 ks _ e'.2 r2)
end
/-- one object, just so -/
def PinO (d : Addr) (o : Obj) : HO := .ext fun h => h.get? d = some o
theorem pin_ok {P : Program} {w : World} {H : Hp} {h : Heap} {d : Addr} {o : Obj} (e : h.get? d = some o) : ObjOk P w H h d (PinO d o) := ⟨e, ⟨o, e⟩, fun _ _ p q => q _ p⟩
theorem pin_get {P : Program} {w : World} {H : Hp} {h : Heap} {d : Addr} {o : Obj} (ok : HOk P w H h) (e : H d = some (PinO d o)) : h.get? d = some o := (ok d _ e).1
theorem pin_notT (d : Addr) (o : Obj) : NotT (PinO d o) := True.intro
/-- at d, the object o, stands a dict with the keys and values kvs -/
structure NdAt (P : Program) (w : World) (K : PySem.W.Frag) (H : Hp) (d : Addr) (o : Obj) (kvs : List (NK × V)) : Prop where
  here : H d = some (PinO d o)
  ex : ∃ (es : Array DictEntry) (ep : Nat) (xs : List (NK × Addr × Value)), o.ExactDict ∧ o.data = .dict es ep ∧ es.toList = xs.map (entryOfKey (nestedKind P w)) ∧ (xs.map (·.1)).Nodup ∧
    Paired (fun (p : NK × V) (q : NK × Addr × Value) => p.1 = q.1 ∧ RelV p.2 q.2.2) kvs xs ∧ ∀ x ∈ xs, Dp K H (.ref x.2.1) x.1.data ∧ x.1.depth ≤ 8
  sz : kvs.length ≤ sizeLine
  sys : (d == sysModules) = false
def Nd (P : Program) (w : World) (K : PySem.W.Frag) (H : Hp) (d : Addr) (kvs : List (NK × V)) : Prop := ∃ o, NdAt P w K H d o kvs
section
variable {P : Program} {w : World} {K : PySem.W.Frag} {H H' : Hp} {d : Addr} {o : Obj} {kvs : List (NK × V)}
theorem NdAt.keep (n : NdAt P w K H d o kvs) (t : TK H H') (e : H' d = some (PinO d o)) : NdAt P w K H' d o kvs := by
  obtain ⟨es, ep, xs, h1, h2, h3, h4, h5, h6⟩ := n.ex
  exact ⟨e, ⟨es, ep, xs, h1, h2, h3, h4, h5, fun x hx => ⟨Dp.keepT t (h6 x hx).1 (nk_noL _), (h6 x hx).2⟩⟩, n.sz, n.sys⟩
theorem NdAt.same (n : NdAt P w K H d o kvs) (s : Same H H') : NdAt P w K H' d o kvs := n.keep (TK.same s) (s _ _ n.here)
theorem Nd.same (n : Nd P w K H d kvs) (s : Same H H') : Nd P w K H' d kvs := let ⟨o, h⟩ := n; ⟨o, h.same s⟩
theorem paired_keys {xs : List (NK × Addr × Value)} (h : Paired (fun (p : NK × V) (q : NK × Addr × Value) => p.1 = q.1 ∧ RelV p.2 q.2.2) kvs xs) : kvs.map (·.1) = xs.map (·.1) := by
  induction h with
  | nil => rfl
  | cons r t ih => rw [List.map_cons, List.map_cons, r.1, ih]
theorem NdAt.nodup (n : NdAt P w K H d o kvs) : (kvs.map (·.1)).Nodup := by
  obtain ⟨es, ep, xs, _, _, _, h4, h5, _⟩ := n.ex
  rw [paired_keys h5]
  exact h4
theorem paired_val {xs : List (NK × Addr × Value)} (h : Paired (fun (p : NK × V) (q : NK × Addr × Value) => p.1 = q.1 ∧ RelV p.2 q.2.2) kvs xs) (k : NK) : RelO (valV kvs k) ((atKey xs k).map (·.2)) := by
  induction h with
  | nil => exact True.intro
  | @cons p q l1 l2 r t ih =>
    by_cases e : p.1 = k
    · rw [valV_pos e]
      have e2 : q.1 = k := r.1.symm.trans e
      simp only [atKey, List.find?_cons, e2, decide_true, Option.map_some]
      exact r.2
    · rw [valV_neg e]
      have e2 : ¬ q.1 = k := fun z => e (r.1.trans z)
      simp only [atKey, List.find?_cons, e2, decide_false]
      exact ih
theorem paired_put {xs : List (NK × Addr × Value)} (h : Paired (fun (p : NK × V) (q : NK × Addr × Value) => p.1 = q.1 ∧ RelV p.2 q.2.2) kvs xs) (k : NK) (a : Addr) {v : V} {u : Value} (r : RelV v u) :
    Paired (fun (p : NK × V) (q : NK × Addr × Value) => p.1 = q.1 ∧ RelV p.2 q.2.2) (putK kvs k v) (storedH xs k a u) := by
  have hs : (kvs.any fun kv => decide (kv.1 = k)) = (atKey xs k).isSome := by
    have := (paired_val h k).isSome_eq
    rw [valV_any, this, Option.isSome_map]
  unfold putK storedH
  rw [hs]
  split
  · rename_i hz
    clear hs hz
    induction h with
    | nil => exact .nil
    | @cons p q l1 l2 r1 t ih =>
      refine .cons ?_ ih
      by_cases e : p.1 = k
      · have e2 : q.1 = k := r1.1.symm.trans e
        show (if p.1 = k then (p.1, v) else p).1 = _ ∧ RelV (if p.1 = k then (p.1, v) else p).2 _
        rw [if_pos e, putAt, if_pos e2]
        exact ⟨r1.1, r⟩
      · have e2 : ¬ q.1 = k := fun z => e (r1.1.trans z)
        show (if p.1 = k then (p.1, v) else p).1 = _ ∧ RelV (if p.1 = k then (p.1, v) else p).2 _
        rw [if_neg e, putAt, if_neg e2]
        exact r1
  · rename_i hz
    clear hs hz
    induction h with
    | nil => exact .cons ⟨rfl, r⟩ .nil
    | cons r1 t ih => exact .cons r1 ih
end
section
variable {X : Cx} {pins : List (Addr × Obj)} {σ : L2.St} {H : Hp} {s : Shared} {d : Addr} {o : Obj} {kvs : List (NK × V)}
theorem NdAt.dict (n : NdAt X.prog X.w X.K H d o kvs) (I : Inv X pins σ H s) : ∃ xs, Paired (fun (p : NK × V) (q : NK × Addr × Value) => p.1 = q.1 ∧ RelV p.2 q.2.2) kvs xs ∧ s.heap.DictOfH (nestedKind X.prog X.w) d xs ∧ ∀ x ∈ xs, Dp X.K H (.ref x.2.1) x.1.data ∧ x.1.depth ≤ 8 := by
  obtain ⟨es, ep, xs, h1, h2, h3, h4, h5, h6⟩ := n.ex
  exact ⟨xs, h5, ⟨o, es, ep, pin_get I.hok n.here, h1, h2, h3, fun x hx => ⟨nk_of I (h6 x hx).1 _ _ rfl rfl, (h6 x hx).2⟩, h4⟩, h6⟩
end
/-- a key at an address -/
structure KeyV (K : PySem.W.Frag) (H : Hp) (v : V) (k : NK) : Prop where
  ref : ∃ a, v = .ref a
  dp : Dp K H v k.data
  dep : k.depth ≤ 8
section
variable {X : Cx}
theorem KeyV.is {pins : List (Addr × Obj)} {σ : L2.St} {H : Hp} {s : Shared} {v : V} {k : NK} {u : Value} (h : KeyV X.K H v k) (I : Inv X pins σ H s) (r : RelV v u) : ∃ a, v = .ref a ∧ u = .ref a ∧ (nestedKind X.prog X.w).is s.heap k a := by
  obtain ⟨a, rfl⟩ := h.ref
  obtain rfl : u = Value.ref a := r
  exact ⟨a, rfl, rfl, nk_of I h.dp _ _ rfl rfl, h.dep⟩
def rNdIn (P : Program) (w : World) (K : PySem.W.Frag) (neg : Bool) : R2 := fun x y H Q => ∃ d kvs k, y = .ref d ∧ Nd P w K H d kvs ∧ KeyV K H x k ∧ Q (.bl (neg ^^ (valV kvs k).isSome)) H
theorem op_in_nd (hu : X.A.units + 20 < cLine) : OpR X (compareOp .In) (rNdIn X.prog X.w X.K false) := by
  intro pins s σ H x y v u Q I rx ry h
  obtain ⟨d, kvs, k, rfl, ⟨o, n⟩, hk, q⟩ := h
  obtain ⟨a, rfl, rfl, hi⟩ := hk.is I rx
  obtain rfl : u = Value.ref d := ry
  obtain ⟨xs, h5, dd, _⟩ := n.dict I
  refine wpAny_in_heap (by show X.A.units + 1 + 8 < cLine; omega) hi n.sys dd ?_
  have e := (paired_val h5 k).isSome_eq
  rw [Option.isSome_map] at e
  refine ⟨_, H, I.tok _, ?_, q⟩
  rw [e, Bool.false_xor]
  rfl
theorem op_notin_nd (hu : X.A.units + 20 < cLine) : OpR X (compareOp .NotIn) (rNdIn X.prog X.w X.K true) := by
  intro pins s σ H x y v u Q I rx ry h
  obtain ⟨d, kvs, k, rfl, ⟨o, n⟩, hk, q⟩ := h
  obtain ⟨a, rfl, rfl, hi⟩ := hk.is I rx
  obtain rfl : u = Value.ref d := ry
  obtain ⟨xs, h5, dd, _⟩ := n.dict I
  refine wpAny_notIn_heap (by show X.A.units + 1 + 8 < cLine; omega) hi n.sys dd ?_
  have e := (paired_val h5 k).isSome_eq
  rw [Option.isSome_map] at e
  refine ⟨_, H, I.tok _, ?_, q⟩
  rw [e, Bool.true_xor]
  rfl
def rNdIx (P : Program) (w : World) (K : PySem.W.Frag) : R2 := fun x y H Q => ∃ d kvs k v, x = .ref d ∧ Nd P w K H d kvs ∧ KeyV K H y k ∧ valV kvs k = some v ∧ Q v H
theorem ix_nd (hu : X.A.units + 20 < cLine) : IxR X (rNdIx X.prog X.w X.K) := by
  intro value slice pins s σ H x y v u Q I rx ry h hs
  obtain ⟨d, kvs, k, z, rfl, ⟨o, n⟩, hk, hv, q⟩ := h
  obtain rfl : v = Value.ref d := rx
  obtain ⟨a, rfl, rfl, hi⟩ := hk.is I ry
  obtain ⟨xs, h5, dd, _⟩ := n.dict I
  have r := paired_val h5 k
  rw [hv] at r
  obtain ⟨w', hw, rw'⟩ := RelO.some_of (v := z) (o := (atKey xs k).map (·.2)) r
  obtain ⟨p, hp, hp2⟩ := Option.map_eq_some_iff.mp hw
  refine subscriptTail_builtinR (x := w') dd.typeIs F.slot_dict_getitem.lookup (wpAny_getItem_heap (by show X.A.units + 1 + 8 < cLine; omega) hi dd hp ?_) hs
  exact ⟨hp2, z, H, I.tok _, by rw [hp2]; exact rw', q⟩
theorem mem_storedH {xs : List (NK × Addr × Value)} {k : NK} {a : Addr} {u : Value} {x : NK × Addr × Value} (h : x ∈ storedH xs k a u) : (∃ y ∈ xs, y.1 = x.1 ∧ y.2.1 = x.2.1) ∨ (x.1 = k ∧ x.2.1 = a) := by
  unfold storedH at h
  split at h
  · obtain ⟨y, hy, rfl⟩ := List.mem_map.mp h
    refine .inl ⟨y, hy, ?_⟩
    unfold putAt
    split <;> exact ⟨rfl, rfl⟩
  · rcases List.mem_append.mp h with h | h
    · exact .inl ⟨x, h, rfl, rfl⟩
    · rcases List.mem_cons.mp h with rfl | h
      · exact .inr ⟨rfl, rfl⟩
      · cases h
/-- what stands behind d[k] = v -/
def rNdSet (P : Program) (w : World) (K : PySem.W.Frag) : TSet := fun o i v H Q => ∃ d kvs k, o = .ref d ∧ Nd P w K H d kvs ∧ KeyV K H i k ∧ kvs.length < sizeLine ∧
  ∀ o', NdAt P w K (upd H d (PinO d o')) d o' (putK kvs k v) → Q (upd H d (PinO d o'))
theorem nd_store {pins : List (Addr × Obj)} {σ : L2.St} {H : Hp} {s : Shared} {d : Addr} {o : Obj} {kvs : List (NK × V)} {xs : List (NK × Addr × Value)} {k : NK} {a : Addr} {v : V} {u : Value} {h' : Heap} {t' : Nat} (I : Inv X pins σ H s) (n : NdAt X.prog X.w X.K H d o kvs)
    (h5 : Paired (fun (p : NK × V) (q : NK × Addr × Value) => p.1 = q.1 ∧ RelV p.2 q.2.2) kvs xs) (h6 : ∀ x ∈ xs, Dp X.K H (.ref x.2.1) x.1.data ∧ x.1.depth ≤ 8) (hl : kvs.length < sizeLine) (hk : KeyV X.K H (.ref a) k) (rv : RelV v u)
    (dd : h'.DictOfH (nestedKind X.prog X.w) d (storedH xs k a u)) (sb : Heap.SameBut d s.heap h') : ∃ o', NdAt X.prog X.w X.K (upd H d (PinO d o')) d o' (putK kvs k v) ∧ Inv X pins σ (upd H d (PinO d o')) { s with heap := h', toks := t' } := by
  obtain ⟨o', es, ep, g1, g2, g3, g4, g5, g6⟩ := dd
  have t : TK H (upd H d (PinO d o')) := TK.upd n.here (pin_notT d o)
  refine ⟨o', ⟨upd_same, ⟨es, ep, _, g2, g3, g4, g6, paired_put h5 k a rv, fun x hx => ?_⟩, ?_, n.sys⟩, d_write I (by rw [n.here]; exact True.intro) sb ⟨o', g1⟩ (pin_ok g1)⟩
  · rcases mem_storedH hx with ⟨y, hy, e1, e2⟩ | ⟨e1, e2⟩
    · rw [← e1, ← e2]
      exact ⟨Dp.keepT t (h6 y hy).1 (nk_noL _), (h6 y hy).2⟩
    · rw [e1, e2]
      exact ⟨Dp.keepT t hk.dp (nk_noL _), hk.dep⟩
  · have := length_putK kvs k v
    omega
theorem set_nd (hu : X.A.units + 20 < cLine) : PSet X (rNdSet X.prog X.w X.K) := by
  intro pins s σ H o i v ov iv u Q I ro ri rv h
  obtain ⟨d, kvs, k, rfl, ⟨ob, n⟩, hk, hl, q⟩ := h
  obtain rfl : ov = Value.ref d := ro
  obtain ⟨a, rfl, rfl, hi⟩ := hk.is I ri
  obtain ⟨xs, h5, dd, h6⟩ := n.dict I
  have hz : xs.length ≤ sizeLine := by rw [← Paired.length h5]; exact n.sz
  refine wpAny_setItem_heap (hsz := hz) (by show X.A.units + 1 + 8 < cLine; omega) hi dd fun h' dd' sb => ?_
  obtain ⟨o', n', I'⟩ := nd_store (t' := s.toks + (nestedKind X.prog X.w).draws k) I n h5 h6 hl hk rv dd' sb
  exact ⟨_, I', q o' n'⟩
/-! {} -/
def tNd0 (P : Program) (w : World) (K : PySem.W.Frag) : TE := fun _ H Q => ∀ p o, H p = none → NdAt P w K (upd H p (PinO p o)) p o [] → Q (.ref p) (upd H p (PinO p o))
theorem nd_empty {P : Program} {w : World} {K : PySem.W.Frag} {H : Hp} {p : Addr} (hp : H p = none) (hs : (p == sysModules) = false) : NdAt P w K (upd H p (PinO p { cls := .type "dict", data := .dict #[] })) p { cls := .type "dict", data := .dict #[] } [] :=
  ⟨upd_same, ⟨#[], 0, [], ⟨rfl, rfl, rfl⟩, rfl, rfl, List.nodup_nil, .nil, fun x hx => nomatch hx⟩, Nat.zero_le _, hs⟩
theorem pe_nd0 {pos : Pos} : PE X (.Dict [] [] pos) (tNd0 X.prog X.w X.K) := ⟨fun pins s σ H Q I h => by
  have hn := I.hok.fresh (Nat.le_refl s.heap.objs.size)
  have hs : (s.heap.objs.size == sysModules) = false := beq_eq_false_iff_ne.mpr (Ne.symm (Nat.ne_of_lt I.big))
  refine wpAny_Dict_empty ⟨.ref s.heap.objs.size, _, I.laid (a := s.heap.objs.size) (o := PinO s.heap.objs.size { cls := .type "dict", data := .dict #[] }) (t' := s.toks) (fun _ _ q => Heap.get?_push_of_some _ q) (Nat.le_refl _) (pin_ok (Heap.get?_push_size _ rfl)), rfl, h _ _ hn (nd_empty hn hs)⟩⟩
/-! {k: v} -/
theorem storeAll_one {M : Model} {A : Around} {E : Value → Shared → Prop} {s : Shared} {d : Addr} {k v : Value} {Q : Shared → Prop} (h : wpAny M A (dictSet d k v) (fun _ s' => Q s') E s) : wpAny M A (storeAll d [(k, v)]) (fun _ s' => Q s') E s := by
  unfold storeAll
  rw [List.forIn_cons]
  refine wpAny_bind (wpAny_bind (wpAny_mono h (fun _ s1 h1 => wpAny_pure ?_) fun _ _ e => e))
  show wpAny M A (forIn ([] : List (Value × Value)) PUnit.unit _) _ _ _
  rw [List.forIn_nil]
  exact wpAny_pure h1
def tNd1 (P : Program) (w : World) (K : PySem.W.Frag) (tk tv : TE) : TE := fun σ H Q => ∀ p o, H p = none → NdAt P w K (upd H p (PinO p o)) p o [] → tk σ (upd H p (PinO p o)) fun x H1 => tv σ H1 fun v H2 => ∃ k, NdAt P w K H2 p o [] ∧ KeyV K H2 x k ∧
  ∀ o', NdAt P w K (upd H2 p (PinO p o')) p o' [(k, v)] → Q (.ref p) (upd H2 p (PinO p o'))
theorem pe_nd1 {k v : Expr} {tk tv : TE} {pos : Pos} (hu : X.A.units + 20 < cLine) (hk : PE X k tk) (hv : PE X v tv) : PE X (.Dict [some k] [v] pos) (tNd1 X.prog X.w X.K tk tv) := by
  refine ⟨fun pins s σ H Q I h => ?_⟩
  have hn := I.hok.fresh (Nat.le_refl s.heap.objs.size)
  have hs : (s.heap.objs.size == sysModules) = false := beq_eq_false_iff_ne.mpr (Ne.symm (Nat.ne_of_lt I.big))
  have I1 := I.laid (a := s.heap.objs.size) (o := PinO s.heap.objs.size { cls := .type "dict", data := .dict #[] }) (h' := s.heap.push { cls := .type "dict", data := .dict #[] }) (t' := s.toks) (fun _ _ q => Heap.get?_push_of_some _ q) (Nat.le_refl _) (pin_ok (Heap.get?_push_size _ rfl))
  have q := h _ _ hn (nd_empty hn hs)
  refine wpAny_Dict_any rfl rfl (by intro z; cases z) (by show 1 ≤ 15; omega) ?_
  refine pairTrees_cons_walk (thn (hk.run pins _ σ _ _ I1 q) fun kv s1 ⟨x, H1, I2, rx, q1⟩ => thn (hv.run pins s1 σ H1 _ I2 q1) fun vv s2 ⟨z, H2, I3, rz, kk, n, hkk, q2⟩ => pairTrees_nil_walk (storeAll_one ?_))
  obtain ⟨a, rfl, rfl, hi⟩ := hkk.is I3 rx
  obtain ⟨xs, h5, dd, h6⟩ := n.dict I3
  cases h5
  refine wpAny_dictSet_heap (hsz := Nat.zero_le _) (by show X.A.units + 8 < cLine; omega) hi dd fun h' dd' sb => ?_
  obtain ⟨o', n', I'⟩ := nd_store (t' := s2.toks + (nestedKind X.prog X.w).draws kk) I3 n .nil (fun x hx => nomatch hx) (by decide) hkk rz dd' sb
  exact ⟨.ref s.heap.objs.size, _, I', rfl, q2 o' n'⟩
/-! len(d) -/
def rLenN (P : Program) (w : World) (K : PySem.W.Frag) : List V → Hp → VK → Prop := fun xs H Q => ∃ (d : Addr) (kvs : List (NK × V)), xs = [.ref d] ∧ Nd P w K H d kvs ∧ Q (.int ((kvs.length : Nat) : Int)) H
theorem call_lenND : CallR X (.builtin "len") (rLenN X.prog X.w X.K) := by
  intro pins s σ H xs us Q I r h
  obtain ⟨d, kvs, rfl, ⟨o, n⟩, q⟩ := h
  obtain ⟨u, rfl, rx⟩ := vals1 r
  obtain rfl : u = .ref d := rx
  obtain ⟨ys, h5, dd, _⟩ := n.dict I
  have hl : kvs.length = ys.length := Paired.length h5
  have hz := n.sz
  rw [sizeLine_eq] at hz
  refine call_len_dictH n.sys dd (by omega) ?_
  exact ⟨.int ((kvs.length : Nat) : Int), H, I.tok _, ⟨_, by rw [hl]⟩, q⟩
/-! walks -/
/-- the keys of the dict at d, the object o -/
def ItN (P : Program) (w : World) (K : PySem.W.Frag) (d : Addr) (o : Obj) (kvs : List (NK × V)) : It :=
  ⟨fun i H => NdAt P w K H d o kvs ∧ i < kvs.length, fun i H x H' => H' = H ∧ ∃ k v, kvs[i]? = some (k, v) ∧ KeyV K H x k, fun i H => NdAt P w K H d o kvs ∧ kvs.length ≤ i⟩
theorem NdAt.walk {pins : List (Addr × Obj)} {σ : L2.St} {H : Hp} {s : Shared} {d : Addr} {o : Obj} {kvs : List (NK × V)} (I : Inv X pins σ H s) (n : NdAt X.prog X.w X.K H d o kvs) :
    s.heap.get? d = some o ∧ o.ExactDict ∧ ∃ (es : Array DictEntry) (ep : Nat), o.data = .dict es ep ∧ es.size = kvs.length ∧ ∀ (i : Nat) (k : NK) (v : V), kvs[i]? = some (k, v) → ∃ (en : DictEntry) (q : Addr), es[i]? = some en ∧ en.key = .ref q ∧ KeyV X.K H (.ref q) k := by
  obtain ⟨es, ep, xs, h1, h2, h3, h4, h5, h6⟩ := n.ex
  refine ⟨pin_get I.hok n.here, h1, es, ep, h2, ?_, fun i k v e => ?_⟩
  · have l1 : es.size = xs.length := size_of_entries h3
    have l2 : kvs.length = xs.length := Paired.length h5
    omega
  · obtain ⟨b, hb, e1, e2⟩ := paired_get h5 e
    have q := entry_at h3 i
    rw [hb] at q
    have hm := h6 b (List.mem_of_getElem? hb)
    have e1' : k = b.1 := e1
    exact ⟨_, b.2.1, q, rfl, ⟨_, rfl⟩, by rw [e1']; exact hm.1, by rw [e1']; exact hm.2⟩
theorem turn_nd {P : Program} {w : World} {K : PySem.W.Frag} {tg : Expr} {d : Addr} {o : Obj} {es : Array DictEntry} {ep : Nat} {kvs : List (NK × V)} (it : Addr) (hod : o.data = .dict es ep) : Turn P w K tg (ItN P w K d o kvs) [it] it (fun i h => h.IsKeyIter it d i kvs.length ep) where
  mem := by simp
  obj := fun i h st b hb => by
    have e : b = it := by simpa using hb
    subst e
    obtain ⟨oi, e, c, dd⟩ := st
    exact ⟨oi, e, fun v z => by rw [dd] at z; cases z⟩
  keep := fun i h h' st k => st.at fun oi e => k it (by simp) oi e
  item := by
    intro X hP hw hK hc i pins s σ H E I hf st hg
    subst hP hw hK
    obtain ⟨hd, hi⟩ := hg
    obtain ⟨f0, f1, f2, f3, f4, f5⟩ := hf it (by simp)
    obtain ⟨hgd, hx, es', ep', hdt, hsz, ent⟩ := hd.walk I
    obtain ⟨rfl, rfl⟩ := dict_ep hod hdt
    obtain ⟨⟨k, v⟩, hkv⟩ : ∃ p, kvs[i]? = some p := ⟨kvs[i], List.getElem?_eq_getElem hi⟩
    obtain ⟨en, q, hen, hkey, hq⟩ := ent i k v hkv
    refine next_key_item st hgd hdt hsz hen fun h' st' sb => ?_
    have I1 : Inv X pins σ H { s with heap := h' } := I.turned (t' := s.toks) (fun b ob hb e => (sb.2 b hb).trans e) f0 f1 f3 f4 f5
    obtain ⟨oi, e, c, dd⟩ := id st'
    exact ⟨en.key, rfl, go_of (s := { s with heap := h' }) e c dd (by decide) ⟨.ref q, H, I1, hkey, ⟨rfl, k, v, hkv, hq⟩, st', fun b hb => (hf b hb).1⟩⟩
  done := by
    intro X hP hw hK hc i pins s σ H E I hf st hg
    subst hP hw hK
    obtain ⟨hd, hi⟩ := hg
    obtain ⟨f0, f1, f2, f3, f4, f5⟩ := hf it (by simp)
    obtain ⟨hgd, hx, es', ep', hdt, hsz, ent⟩ := hd.walk I
    obtain ⟨rfl, rfl⟩ := dict_ep hod hdt
    exact next_key_end (I.ok.hd hc) st hgd hdt hsz hi fun h' eb => ⟨rfl, I.turned (t' := s.toks) (fun b ob hb e => eb b ob hb e) f0 f1 f3 f4 f5⟩
  self := fun A i s Q E st h => by
    refine wpAny_pyIter_slot st.typeIs F.slot_dict_keyiterator_iter (wpAny_call_entry F.slot_dict_keyiterator_iter st.typeIs F.entry_dict_keyiterator_iter ?_ (F.args_dict_keyiterator_iter_1 _))
    show wpAny _ _ (ret (.ref it)) _ _ s
    exact wpAny_pure ⟨_, rfl, "dict_keyiterator", _, st.typeIs, F.slot_dict_keyiterator_next.lookup, h⟩
def iNd (P : Program) (w : World) (K : PySem.W.Frag) (td : TE) : TI := fun σ H R => td σ H fun x H1 => ∃ d o kvs, x = .ref d ∧ NdAt P w K H1 d o kvs ∧ R (ItN P w K d o kvs) H1
theorem pi_nd {tg e : Expr} {td : TE} (he : PE X e td) : PI X tg e (iNd X.prog X.w X.K td) := by
  refine ⟨fun pins s σ H R I h => ?_⟩
  refine thn (he.run pins s σ H _ I h) fun u s1 ⟨x, H1, I1, rx, d, o, kvs, ex, n, q⟩ => ?_
  subst ex
  obtain rfl : u = Value.ref d := rx
  obtain ⟨hgd, hx, es, ep, hdt, hsz, ent⟩ := n.walk I1
  refine iter_keys n.sys hgd hx hdt (pi_one (tk := s1.toks) I1 _ (turn_nd _ hdt) ⟨_, Heap.get?_push_size _ rfl, rfl, ?_⟩ q)
  rw [hsz] <;> rfl
theorem walk_nd {P : Program} {w : World} {K : PySem.W.Frag} {d : Addr} {o : Obj} {kvs : List (NK × V)} : Walk (ItN P w K d o kvs) kvs.length (fun H => NdAt P w K H d o kvs) (fun i H x H' => H' = H ∧ ∃ k v, kvs[i]? = some (k, v) ∧ KeyV K H x k) :=
  ⟨fun _ _ hi q => ⟨q, hi⟩, fun _ q => ⟨q, Nat.le_refl _⟩, fun _ _ _ _ _ _ y => y⟩
end
theorem KeyV.keep {K : PySem.W.Frag} {H H' : Hp} {v : V} {k : NK} (h : KeyV K H v k) (t : TK H H') : KeyV K H' v k := ⟨h.ref, Dp.keepT t h.dp (nk_noL _), h.dep⟩
end Bw

set_option Elab.async false
set_option linter.all false
set_option maxRecDepth 100000
set_option maxHeartbeats 4000000
namespace Bw
open PySem PySem.Spec PyProof.Rows L2
/-! ### fates, from the front -/
def RunOk (l : Line) : Nat → List (Option Nat) → Prop
  | _, [] => True
  | r, none :: os => r < l.lost ∧ RunOk l (r + 1) os
  | _, some d :: os => d ≤ l.late ∧ RunOk l 0 os
def runEnd : Nat → List (Option Nat) → Nat
  | r, [] => r
  | r, none :: os => runEnd (r + 1) os
  | _, some _ :: os => runEnd 0 os
def FitsO (l : Line) (r : Nat) : Option Nat → Prop
  | none => r < l.lost
  | some d => d ≤ l.late
theorem runOk_snoc (l : Line) (o : Option Nat) : ∀ (os : List (Option Nat)) (r : Nat), RunOk l r (os ++ [o]) ↔ RunOk l r os ∧ FitsO l (runEnd r os) o
  | [], r => by
    cases o with
    | none => exact ⟨fun h => ⟨trivial, h.1⟩, fun h => ⟨h.2, trivial⟩⟩
    | some d => exact ⟨fun h => ⟨trivial, h.1⟩, fun h => ⟨h.2, trivial⟩⟩
  | none :: os, r => by
    have ih := runOk_snoc l o os (r + 1)
    constructor
    · rintro ⟨h1, h2⟩
      exact ⟨⟨h1, (ih.mp h2).1⟩, (ih.mp h2).2⟩
    · rintro ⟨⟨h1, h2⟩, h3⟩
      exact ⟨h1, ih.mpr ⟨h2, h3⟩⟩
  | some d :: os, r => by
    have ih := runOk_snoc l o os 0
    constructor
    · rintro ⟨h1, h2⟩
      exact ⟨⟨h1, (ih.mp h2).1⟩, (ih.mp h2).2⟩
    · rintro ⟨⟨h1, h2⟩, h3⟩
      exact ⟨h1, ih.mpr ⟨h2, h3⟩⟩
theorem runEnd_snoc (o : Option Nat) : ∀ (os : List (Option Nat)) (r : Nat), runEnd r (os ++ [o]) = match o with | none => runEnd r os + 1 | some _ => 0
  | [], r => by cases o <;> rfl
  | none :: os, r => runEnd_snoc o os (r + 1)
  | some d :: os, r => runEnd_snoc o os 0
theorem outs_iff (l : Line) (r : Nat) (os : List (Option Nat)) : Outs l r os ↔ RunOk l 0 os ∧ runEnd 0 os = r := by
  constructor
  · intro h
    induction h with
    | nil => exact ⟨trivial, rfl⟩
    | lose h hr ih =>
      refine ⟨(runOk_snoc l none _ 0).mpr ⟨ih.1, ?_⟩, ?_⟩
      · show runEnd 0 _ < l.lost
        rw [ih.2]
        exact hr
      · rw [runEnd_snoc, ih.2]
    | hear h d hd ih =>
      refine ⟨(runOk_snoc l (some d) _ 0).mpr ⟨ih.1, hd⟩, ?_⟩
      rw [runEnd_snoc]
  · revert r
    refine snoc_ind (P := fun os => ∀ r, RunOk l 0 os ∧ runEnd 0 os = r → Outs l r os) ?_ ?_ os
    · rintro r ⟨_, h⟩
      have h' : 0 = r := h
      subst h'
      exact .nil
    · intro os o ih r h
      obtain ⟨h1, h2⟩ := (runOk_snoc l o os 0).mp h.1
      have h3 := h.2
      rw [runEnd_snoc] at h3
      cases o with
      | none =>
        have h4 : runEnd 0 os + 1 = r := h3
        subst h4
        exact .lose (ih _ ⟨h1, rfl⟩) h2
      | some d =>
        have h4 : 0 = r := h3
        subst h4
        exact .hear (ih _ ⟨h1, rfl⟩) d h2
/-! ### how many are heard in a moment -/
def hit1 (t0 t : Nat) : Option Nat → Nat
  | none => 0
  | some d => if t0 + d = t then 1 else 0
def cntT (each : Nat) : Nat → List (Option Nat) → Nat → Nat
  | _, [], _ => 0
  | t0, o :: os, t => hit1 t0 t o + cntT each (t0 + each) os t
theorem cntT_snoc (each : Nat) (o : Option Nat) (t : Nat) : ∀ (os : List (Option Nat)) (t0 : Nat), cntT each t0 (os ++ [o]) t = cntT each t0 os t + hit1 (t0 + os.length * each) t o
  | [], t0 => by
    show hit1 t0 t o + 0 = 0 + hit1 (t0 + 0 * each) t o
    rw [Nat.zero_mul, Nat.add_zero, Nat.zero_add, Nat.add_zero]
  | p :: os, t0 => by
    show hit1 t0 t p + cntT each (t0 + each) (os ++ [o]) t = hit1 t0 t p + cntT each (t0 + each) os t + hit1 (t0 + (os.length + 1) * each) t o
    have e : t0 + each + os.length * each = t0 + (os.length + 1) * each := by
      rw [Nat.succ_mul]
      omega
    rw [cntT_snoc each o t os (t0 + each), e, Nat.add_assoc]
theorem cnt_eq (each : Nat) (os : List (Option Nat)) (t : Nat) : cnt each os t = cntT each 0 os t := by
  refine snoc_ind (P := fun os => cnt each os t = cntT each 0 os t) rfl ?_ os
  intro os o ih
  rw [cnt_snoc, cntT_snoc, ih, Nat.zero_add]
  congr 1
  cases o with
  | none => rfl
  | some d =>
    show (if decide (os.length * each + d = t) = true then 1 else 0) = if os.length * each + d = t then 1 else 0
    by_cases h : os.length * each + d = t
    · rw [if_pos (decide_eq_true h), if_pos h]
    · rw [if_neg (by rw [decide_eq_false h]; decide), if_neg h]
theorem hit1_shift (t0 t : Nat) (o : Option Nat) : hit1 (t0 + 1) (t + 1) o = hit1 t0 t o := by
  cases o with
  | none => rfl
  | some d =>
    show (if t0 + 1 + d = t + 1 then 1 else 0) = if t0 + d = t then 1 else 0
    by_cases h : t0 + d = t
    · rw [if_pos h, if_pos (by omega)]
    · rw [if_neg h, if_neg (by omega)]
theorem cntT_shift (each t : Nat) : ∀ (os : List (Option Nat)) (t0 : Nat), cntT each (t0 + 1) os (t + 1) = cntT each t0 os t
  | [], _ => rfl
  | o :: os, t0 => by
    show hit1 (t0 + 1) (t + 1) o + cntT each (t0 + 1 + each) os (t + 1) = hit1 t0 t o + cntT each (t0 + each) os t
    rw [hit1_shift, Nat.add_right_comm, cntT_shift each t os (t0 + each)]
theorem cntT_before (each : Nat) {t : Nat} : ∀ (os : List (Option Nat)) (t0 : Nat), t < t0 → cntT each t0 os t = 0
  | [], _, _ => rfl
  | o :: os, t0, h => by
    show hit1 t0 t o + cntT each (t0 + each) os t = 0
    rw [cntT_before each os (t0 + each) (by omega)]
    cases o with
    | none => rfl
    | some d =>
      show (if t0 + d = t then 1 else 0) + 0 = 0
      rw [if_neg (by omega)]
/-- k beats are sent within n moments, the first at t0 -/
def LenOk (each t0 n k : Nat) : Prop := ∀ i, i < k ↔ t0 + i * each < n
theorem lenOk_up {each n : Nat} (h : 1 ≤ each) : LenOk each 0 n ((n + each - 1) / each) := by
  intro i
  rw [Nat.zero_add]
  constructor
  · intro hi
    have h1 : i + 1 ≤ (n + each - 1) / each := hi
    rw [Nat.le_div_iff_mul_le (by omega), Nat.succ_mul] at h1
    omega
  · intro hi
    have h1 : i + 1 ≤ (n + each - 1) / each := by
      rw [Nat.le_div_iff_mul_le (by omega), Nat.succ_mul]
      omega
    exact h1
theorem lenOk_uniq {each t0 n k k' : Nat} (h : LenOk each t0 n k) (h' : LenOk each t0 n k') : k = k' := by
  by_cases h1 : k < k'
  · have := (h' k).mp h1
    have := (h k).mpr this
    omega
  · by_cases h2 : k' < k
    · have := (h k').mp h2
      have := (h' k').mpr this
      omega
    · omega
theorem lenOk_shift {each t0 n k : Nat} : LenOk each (t0 + 1) (n + 1) k ↔ LenOk each t0 n k := by
  constructor
  · intro h i
    rw [h i]
    omega
  · intro h i
    rw [h i]
    omega
theorem lenOk_first {each n k : Nat} (he : 1 ≤ each) : LenOk each 0 (n + 1) (k + 1) ↔ LenOk each (each - 1) n k := by
  constructor
  · intro h i
    have := h (i + 1)
    rw [Nat.succ_mul] at this
    omega
  · intro h i
    cases i with
    | zero =>
      rw [Nat.zero_mul]
      omega
    | succ i =>
      have := h i
      rw [Nat.succ_mul]
      omega
/-! ### beats on their way: (age, how long it takes yet) -/
def cnt0 : List (Nat × Nat) → Nat
  | [] => 0
  | (_, 0) :: P => cnt0 P + 1
  | (_, _ + 1) :: P => cnt0 P
def tick : List (Nat × Nat) → List (Nat × Nat)
  | [] => []
  | (_, 0) :: P => tick P
  | (a, r + 1) :: P => (a + 1, r) :: tick P
def cntR : List (Nat × Nat) → Nat → Nat
  | [], _ => 0
  | (_, r) :: P, t => (if r = t then 1 else 0) + cntR P t
theorem cntR_zero : ∀ P : List (Nat × Nat), cntR P 0 = cnt0 P
  | [] => rfl
  | (a, 0) :: P => by
    show (if 0 = 0 then 1 else 0) + cntR P 0 = cnt0 P + 1
    rw [cntR_zero P, if_pos rfl, Nat.add_comm]
  | (a, r + 1) :: P => by
    show (if r + 1 = 0 then 1 else 0) + cntR P 0 = cnt0 P
    rw [cntR_zero P, if_neg (by omega), Nat.zero_add]
theorem cntR_tick (t : Nat) : ∀ P : List (Nat × Nat), cntR (tick P) t = cntR P (t + 1)
  | [] => rfl
  | (a, 0) :: P => by
    show cntR (tick P) t = (if 0 = t + 1 then 1 else 0) + cntR P (t + 1)
    rw [cntR_tick t P, if_neg (by omega), Nat.zero_add]
  | (a, r + 1) :: P => by
    show (if r = t then 1 else 0) + cntR (tick P) t = (if r + 1 = t + 1 then 1 else 0) + cntR P (t + 1)
    rw [cntR_tick t P]
    congr 1
    by_cases h : r = t
    · rw [if_pos h, if_pos (by omega)]
    · rw [if_neg h, if_neg (by omega)]
theorem cntR_snoc (a d t : Nat) : ∀ P : List (Nat × Nat), cntR (P ++ [(a, d)]) t = cntR P t + if d = t then 1 else 0
  | [] => by
    show (if d = t then 1 else 0) + 0 = 0 + _
    rw [Nat.add_zero, Nat.zero_add]
  | (b, r) :: P => by
    show (if r = t then 1 else 0) + cntR (P ++ [(a, d)]) t = (if r = t then 1 else 0) + cntR P t + _
    rw [cntR_snoc a d t P, Nat.add_assoc]
def AccDG : List (Nat × Nat) → List Int → Prop
  | _, [] => True
  | P, m :: v => m = (cnt0 P : Int) ∧ AccDG (tick P) v
/-- a moment begins: t0 moments till the next beat -/
inductive Send (l : Line) : Nat → List (Nat × Nat) → Nat → List (Nat × Nat) → Nat → Nat → Prop where
  | wait (t0 : Nat) (P : List (Nat × Nat)) (run : Nat) : Send l (t0 + 1) P run P run t0
  | lose (P : List (Nat × Nat)) (run : Nat) (h : run < l.lost) : Send l 0 P run P (run + 1) (l.each - 1)
  | keep (P : List (Nat × Nat)) (run d : Nat) (h : d ≤ l.late) : Send l 0 P run (P ++ [(0, d)]) 0 (l.each - 1)
def AccD (l : Line) : Nat → List (Nat × Nat) → Nat → List Int → List Int → Prop
  | _, P, _, [], v => AccDG P v
  | t0, P, run, m :: u, v => ∃ P' run' t0', Send l t0 P run P' run' t0' ∧ m = (cnt0 P' : Int) ∧ AccD l t0' (tick P') run' u v
theorem accDG_iff : ∀ (v : List Int) (P : List (Nat × Nat)), AccDG P v ↔ ∀ t, t < v.length → v[t]? = some ((cntR P t : Nat) : Int)
  | [], P => ⟨fun _ t h => absurd h (Nat.not_lt_zero _), fun _ => trivial⟩
  | m :: v, P => by
    have ih := accDG_iff v (tick P)
    constructor
    · rintro ⟨h1, h2⟩ t ht
      cases t with
      | zero => rw [cntR_zero, ← h1]; rfl
      | succ t =>
        have := ih.mp h2 t (by simpa using ht)
        rw [cntR_tick] at this
        exact this
    · intro h
      refine ⟨?_, ih.mpr fun t ht => ?_⟩
      · have := h 0 (by simp)
        rw [cntR_zero] at this
        exact Option.some.inj this
      · have := h (t + 1) (by simpa using ht)
        rw [cntR_tick]
        exact this
theorem accD_iff (l : Line) (he : 1 ≤ l.each) : ∀ (u v : List Int) (t0 : Nat) (P : List (Nat × Nat)) (run : Nat), AccD l t0 P run u v ↔
    ∃ os, RunOk l run os ∧ LenOk l.each t0 u.length os.length ∧ ∀ t, t < u.length + v.length → (u ++ v)[t]? = some ((cntR P t + cntT l.each t0 os t : Nat) : Int)
  | [], v, t0, P, run => by
    have ih := accDG_iff v P
    constructor
    · intro h
      refine ⟨[], trivial, fun i => ⟨fun h => absurd h (Nat.not_lt_zero _), fun h => absurd h (Nat.not_lt_zero _)⟩, fun t ht => ?_⟩
      have := ih.mp h t (by simpa using ht)
      exact this
    · rintro ⟨os, h1, h2, h3⟩
      refine ih.mpr fun t ht => ?_
      have e : os = [] := by
        cases os with
        | nil => rfl
        | cons o os => exact absurd ((h2 0).mp (by simp)) (Nat.not_lt_zero _)
      subst e
      exact h3 t (by simpa using ht)
  | m :: u, v, t0, P, run => by
    constructor
    · rintro ⟨P', run', t0', hs, hm, h⟩
      obtain ⟨os, h1, h2, h3⟩ := (accD_iff l he u v t0' (tick P') run').mp h
      cases hs with
      | wait =>
        refine ⟨os, h1, lenOk_shift.mpr h2, fun t ht => ?_⟩
        cases t with
        | zero => rw [cntR_zero, cntT_before _ _ _ (by omega), Nat.add_zero, ← hm]; rfl
        | succ t =>
          have := h3 t (by simp at ht; omega)
          rw [cntR_tick] at this
          rw [cntT_shift]
          exact this
      | lose _ _ hr =>
        refine ⟨none :: os, ⟨hr, h1⟩, (lenOk_first he).mpr h2, fun t ht => ?_⟩
        have e : cntT l.each 0 (none :: os) t = cntT l.each l.each os t := by
          show 0 + cntT l.each (0 + l.each) os t = _
          rw [Nat.zero_add, Nat.zero_add]
        rw [e]
        cases t with
        | zero => rw [cntR_zero, cntT_before _ _ _ (by omega), Nat.add_zero, ← hm]; rfl
        | succ t =>
          have := h3 t (by simp at ht; omega)
          rw [cntR_tick] at this
          have e2 : l.each = l.each - 1 + 1 := by omega
          have e3 : cntT l.each l.each os (t + 1) = cntT l.each (l.each - 1) os t := by
            conv => lhs; arg 2; rw [e2]
            exact cntT_shift _ _ _ _
          rw [e3]
          exact this
      | keep _ _ d hd =>
        refine ⟨some d :: os, ⟨hd, h1⟩, (lenOk_first he).mpr h2, fun t ht => ?_⟩
        have e : cntT l.each 0 (some d :: os) t = (if d = t then 1 else 0) + cntT l.each l.each os t := by
          show (if 0 + d = t then 1 else 0) + cntT l.each (0 + l.each) os t = _
          rw [Nat.zero_add, Nat.zero_add]
        rw [e, ← Nat.add_assoc, ← cntR_snoc 0 d t P]
        cases t with
        | zero => rw [cntR_zero, cntT_before _ _ _ (by omega), Nat.add_zero, ← hm]; rfl
        | succ t =>
          have := h3 t (by simp at ht; omega)
          rw [cntR_tick] at this
          have e2 : l.each = l.each - 1 + 1 := by omega
          have e3 : cntT l.each l.each os (t + 1) = cntT l.each (l.each - 1) os t := by
            conv => lhs; arg 2; rw [e2]
            exact cntT_shift _ _ _ _
          rw [e3]
          exact this
    · rintro ⟨os, h1, h2, h3⟩
      have h0 := h3 0 (by simp; omega)
      have hS : ∀ t, t < u.length + v.length → (u ++ v)[t]? = some ((cntR P (t + 1) + cntT l.each t0 os (t + 1) : Nat) : Int) := fun t ht => h3 (t + 1) (by simp; omega)
      cases t0 with
      | succ t0 =>
        refine ⟨P, run, t0, .wait _ _ _, ?_, (accD_iff l he u v t0 (tick P) run).mpr ⟨os, h1, lenOk_shift.mp h2, fun t ht => ?_⟩⟩
        · rw [cntR_zero, cntT_before _ _ _ (by omega), Nat.add_zero] at h0
          exact Option.some.inj h0
        · rw [cntR_tick, ← cntT_shift]
          exact hS t ht
      | zero =>
        cases os with
        | nil => exact absurd ((h2 0).mpr (by simp)) (by simp)
        | cons o os =>
          have h2' := (lenOk_first (k := os.length) he).mp h2
          have e3 : ∀ t, cntT l.each l.each os (t + 1) = cntT l.each (l.each - 1) os t := fun t => by
            have e2 : l.each = l.each - 1 + 1 := by omega
            conv => lhs; arg 2; rw [e2]
            exact cntT_shift _ _ _ _
          cases o with
          | none =>
            have e : ∀ t, cntT l.each 0 (none :: os) t = cntT l.each l.each os t := fun t => by
              show 0 + cntT l.each (0 + l.each) os t = _
              rw [Nat.zero_add, Nat.zero_add]
            refine ⟨P, run + 1, l.each - 1, .lose _ _ h1.1, ?_, (accD_iff l he u v _ (tick P) (run + 1)).mpr ⟨os, h1.2, h2', fun t ht => ?_⟩⟩
            · rw [cntR_zero, e, cntT_before _ _ _ (by omega), Nat.add_zero] at h0
              exact Option.some.inj h0
            · rw [cntR_tick, ← e3, ← e]
              exact hS t ht
          | some d =>
            have e : ∀ t, cntT l.each 0 (some d :: os) t = (if d = t then 1 else 0) + cntT l.each l.each os t := fun t => by
              show (if 0 + d = t then 1 else 0) + cntT l.each (0 + l.each) os t = _
              rw [Nat.zero_add, Nat.zero_add]
            refine ⟨P ++ [(0, d)], 0, l.each - 1, .keep _ _ _ h1.1, ?_, (accD_iff l he u v _ (tick (P ++ [(0, d)])) 0).mpr ⟨os, h1.2, h2', fun t ht => ?_⟩⟩
            · rw [e, ← Nat.add_assoc, ← cntR_snoc 0 d 0 P, cntR_zero, cntT_before _ _ _ (by omega), Nat.add_zero] at h0
              exact Option.some.inj h0
            · rw [cntR_tick, ← e3, cntR_snoc, Nat.add_assoc, ← e]
              exact hS t ht
/-! ### the program's own states: the eldest ones are heard first -/
structure LS where
  ph : Nat
  ages : List Nat
  run : Nat
  deriving DecidableEq
def LS.first : LS := ⟨0, [], 0⟩
def begunL (l : Line) (s : LS) : List (List Nat × Nat) := if 0 < s.ph then [(s.ages, s.run)] else (s.ages ++ [0], 0) :: if s.run < l.lost then [(s.ages, s.run + 1)] else []
def youngL (l : Line) (ages : List Nat) : Bool := decide (ages.filter (fun a => decide (l.late ≤ a)) = [])
theorem youngL_iff (l : Line) (ages : List Nat) : youngL l ages = true ↔ ∀ a ∈ ages, a < l.late := by
  unfold youngL
  rw [decide_eq_true_eq, List.filter_eq_nil_iff]
  constructor
  · intro h a ha
    have := h a ha
    simp only [decide_eq_true_eq] at this
    omega
  · intro h a ha
    have := h a ha
    simp only [decide_eq_true_eq]
    omega
def heardL (l : Line) (ages : List Nat) : List (Nat × List Nat) := (List.range (ages.length + 1)).filterMap fun m => if youngL l (ages.drop m) = true then some (m, (ages.drop m).map (· + 1)) else none
theorem heardL_mem {l : Line} {ages : List Nat} {c : Nat} {left : List Nat} : (c, left) ∈ heardL l ages ↔ c ≤ ages.length ∧ (∀ a ∈ ages.drop c, a < l.late) ∧ left = (ages.drop c).map (· + 1) := by
  unfold heardL
  rw [List.mem_filterMap]
  constructor
  · rintro ⟨m, hm, h⟩
    split at h
    · rename_i hy
      have h' := Option.some.inj h
      injection h' with e1 e2
      subst e1
      have := List.mem_range.mp hm
      exact ⟨by omega, (youngL_iff l _).mp hy, e2.symm⟩
    · cases h
  · rintro ⟨h1, h2, rfl⟩
    refine ⟨c, List.mem_range.mpr (by omega), ?_⟩
    rw [if_pos ((youngL_iff l _).mpr h2)]
def movesL (l : Line) (s : LS) : List (Nat × LS) := (begunL l s).flatMap fun b => (heardL l b.1).map fun h => (h.1, ⟨(s.ph + 1) % l.each, h.2, b.2⟩)
theorem movesL_mem {l : Line} {s s' : LS} {c : Nat} : (c, s') ∈ movesL l s ↔ ∃ ages run, (ages, run) ∈ begunL l s ∧ c ≤ ages.length ∧ (∀ a ∈ ages.drop c, a < l.late) ∧ s' = ⟨(s.ph + 1) % l.each, (ages.drop c).map (· + 1), run⟩ := by
  unfold movesL
  rw [List.mem_flatMap]
  constructor
  · rintro ⟨⟨ages, run⟩, hb, h⟩
    obtain ⟨⟨c', left⟩, hh, e⟩ := List.mem_map.mp h
    injection e with e1 e2
    have e1' : c' = c := e1
    subst e1'
    obtain ⟨h1, h2, h3⟩ := heardL_mem.mp hh
    refine ⟨ages, run, hb, h1, h2, ?_⟩
    rw [← e2, ← h3]
  · rintro ⟨ages, run, hb, h1, h2, rfl⟩
    exact ⟨(ages, run), hb, List.mem_map.mpr ⟨(c, (ages.drop c).map (· + 1)), heardL_mem.mpr ⟨h1, h2, rfl⟩, rfl⟩⟩
def AccG (l : Line) : List Nat → List Int → Prop
  | _, [] => True
  | ages, m :: v => ∃ c left, (c, left) ∈ heardL l ages ∧ m = (c : Int) ∧ AccG l left v
def AccF (l : Line) : LS → List Int → List Int → Prop
  | s, [], v => AccG l s.ages v
  | s, m :: u, v => ∃ c s', (c, s') ∈ movesL l s ∧ m = (c : Int) ∧ AccF l s' u v
def Bnd (late : Nat) (P : List (Nat × Nat)) : Prop := ∀ p ∈ P, p.1 + p.2 ≤ late
theorem zip_step : ∀ (c : Nat) (ages : List Nat) (rs : List Nat), c ≤ ages.length → rs.length = ages.length - c → cnt0 (ages.zip (List.replicate c 0 ++ rs.map (· + 1))) = c ∧ tick (ages.zip (List.replicate c 0 ++ rs.map (· + 1))) = ((ages.drop c).map (· + 1)).zip rs
  | 0, ages, rs, _, h => by
    rw [List.replicate_zero, List.nil_append, List.drop_zero]
    induction ages generalizing rs with
    | nil =>
      cases rs with
      | nil => exact ⟨rfl, rfl⟩
      | cons r rs => simp at h
    | cons a ages ih =>
      cases rs with
      | nil => simp at h
      | cons r rs =>
        obtain ⟨h1, h2⟩ := ih rs (Nat.zero_le _) (by simpa using h)
        refine ⟨?_, ?_⟩
        · show cnt0 ((a, r + 1) :: ages.zip (rs.map (· + 1))) = 0
          exact h1
        · show (a + 1, r) :: tick (ages.zip (rs.map (· + 1))) = (a + 1, r) :: (ages.map (· + 1)).zip rs
          rw [h2]
  | c + 1, [], rs, h, _ => absurd h (by simp)
  | c + 1, a :: ages, rs, h, h' => by
    obtain ⟨h1, h2⟩ := zip_step c ages rs (by simpa using h) (by simpa using h')
    refine ⟨?_, ?_⟩
    · show cnt0 ((a, 0) :: ages.zip (List.replicate c 0 ++ rs.map (· + 1))) = c + 1
      show cnt0 (ages.zip (List.replicate c 0 ++ rs.map (· + 1))) + 1 = c + 1
      rw [h1]
    · show tick (ages.zip (List.replicate c 0 ++ rs.map (· + 1))) = ((ages.drop c).map (· + 1)).zip rs
      exact h2
theorem zip_bnd {late : Nat} : ∀ (c : Nat) (ages : List Nat) (rs : List Nat), (∀ a ∈ ages, a ≤ late) → Bnd late (((ages.drop c).map (· + 1)).zip rs) → Bnd late (ages.zip (List.replicate c 0 ++ rs.map (· + 1)))
  | 0, ages, rs, h, hb => by
    rw [List.replicate_zero, List.nil_append]
    rw [List.drop_zero] at hb
    induction ages generalizing rs with
    | nil => intro p hp; cases hp
    | cons a ages ih =>
      cases rs with
      | nil => intro p hp; cases hp
      | cons r rs =>
        intro p hp
        rcases List.mem_cons.mp hp with rfl | hp
        · have := hb (a + 1, r) List.mem_cons_self
          have this : a + 1 + r ≤ late := this
          show a + (r + 1) ≤ late
          omega
        · exact ih rs (fun b hb' => h b (List.mem_cons_of_mem _ hb')) (fun q hq => hb q (List.mem_cons_of_mem _ hq)) p hp
  | c + 1, [], rs, h, hb => by intro p hp; cases hp
  | c + 1, a :: ages, rs, h, hb => by
    intro p hp
    rcases List.mem_cons.mp hp with rfl | hp
    · have := h a List.mem_cons_self
      show a + 0 ≤ late
      omega
    · exact zip_bnd c ages rs (fun b hb' => h b (List.mem_cons_of_mem _ hb')) hb p hp
def T0 (l : Line) (ph : Nat) : Nat := if ph = 0 then 0 else l.each - ph
theorem T0_next {l : Line} {ph : Nat} (he : 1 ≤ l.each) (h : ph < l.each) : (ph = 0 → T0 l ((ph + 1) % l.each) = l.each - 1) ∧ (0 < ph → T0 l ph = T0 l ((ph + 1) % l.each) + 1) := by
  unfold T0
  by_cases h1 : ph + 1 = l.each
  · rw [h1, Nat.mod_self, if_pos rfl]
    constructor
    · intro e
      omega
    · intro e
      rw [if_neg (by omega)]
      omega
  · rw [Nat.mod_eq_of_lt (by omega), if_neg (by omega)]
    constructor
    · intro e
      omega
    · intro e
      rw [if_neg (by omega)]
      omega
theorem gone_D (l : Line) : ∀ (v : List Int) (ages : List Nat), (∀ a ∈ ages, a ≤ l.late) → AccG l ages v → ∃ rs : List Nat, rs.length = ages.length ∧ Bnd l.late (ages.zip rs) ∧ AccDG (ages.zip rs) v
  | [], ages, ha, _ => by
    refine ⟨List.replicate ages.length 0, by simp, ?_, trivial⟩
    intro p hp
    have h1 := List.of_mem_zip (a := p.1) (b := p.2) hp
    have h2 := List.eq_of_mem_replicate h1.2
    have h3 := ha _ h1.1
    omega
  | m :: v, ages, ha, h => by
    obtain ⟨c, left, hc, rfl, h⟩ := h
    obtain ⟨h1, h2, rfl⟩ := heardL_mem.mp hc
    obtain ⟨rs, e1, e2, e3⟩ := gone_D l v ((ages.drop c).map (· + 1)) (fun a ha' => by
      obtain ⟨b, hb, rfl⟩ := List.mem_map.mp ha'
      have := h2 b hb
      omega) h
    rw [List.length_map, List.length_drop] at e1
    obtain ⟨z1, z2⟩ := zip_step c ages rs h1 e1
    refine ⟨List.replicate c 0 ++ rs.map (· + 1), by rw [List.length_append, List.length_replicate, List.length_map]; omega, zip_bnd c ages rs ha e2, ?_, ?_⟩
    · rw [z1]
    · rw [z2]
      exact e3
theorem split_last {rs : List Nat} {n : Nat} (h : rs.length = n + 1) : ∃ r d, rs = r ++ [d] ∧ r.length = n := by
  rcases List.eq_nil_or_concat rs with rfl | ⟨r, d, rfl⟩
  · simp at h
  · refine ⟨r, d, by rw [List.concat_eq_append], ?_⟩
    rw [List.concat_eq_append, List.length_append, List.length_singleton] at h
    omega
theorem fifo_D (l : Line) (he : 1 ≤ l.each) : ∀ (u v : List Int) (s : LS), (∀ a ∈ s.ages, a ≤ l.late) → s.ph < l.each → AccF l s u v → ∃ rs : List Nat, rs.length = s.ages.length ∧ Bnd l.late (s.ages.zip rs) ∧ AccD l (T0 l s.ph) (s.ages.zip rs) s.run u v
  | [], v, s, ha, _, h => gone_D l v s.ages ha h
  | m :: u, v, s, ha, hp, h => by
    obtain ⟨c, s', hc, rfl, h⟩ := h
    obtain ⟨ages, run, hb, h1, h2, rfl⟩ := movesL_mem.mp hc
    obtain ⟨rs, e1, e2, e3⟩ := fifo_D l he u v ⟨(s.ph + 1) % l.each, (ages.drop c).map (· + 1), run⟩ (fun a ha' => by
      obtain ⟨b, hb, rfl⟩ := List.mem_map.mp ha'
      have := h2 b hb
      omega) (Nat.mod_lt _ (by omega)) h
    have e1' : rs.length = ages.length - c := by
      have : rs.length = ((ages.drop c).map (· + 1)).length := e1
      rw [List.length_map, List.length_drop] at this
      exact this
    obtain ⟨z1, z2⟩ := zip_step c ages rs h1 e1'
    have hl1 : (List.replicate c 0 ++ rs.map (· + 1)).length = ages.length := by rw [List.length_append, List.length_replicate, List.length_map]; omega
    have htn := T0_next (l := l) (ph := s.ph) he hp
    unfold begunL at hb
    split at hb
    · rename_i hph
      rcases List.mem_cons.mp hb with e | hb
      · injection e with ea er
        subst ea er
        refine ⟨_, hl1, zip_bnd c _ rs ha e2, ?_⟩
        refine ⟨_, _, _, ?_, by rw [z1], by rw [z2]; exact e3⟩
        rw [htn.2 hph]
        exact .wait _ _ _
      · cases hb
    · rename_i hph
      have hph0 : s.ph = 0 := by omega
      have hT : T0 l s.ph = 0 := by rw [hph0]; rfl
      rcases List.mem_cons.mp hb with e | hb
      · injection e with ea er
        subst ea er
        have hbn := zip_bnd (late := l.late) c (s.ages ++ [0]) rs (fun a ha' => by
          rcases List.mem_append.mp ha' with ha' | ha'
          · exact ha a ha'
          · rcases List.mem_cons.mp ha' with rfl | ha'
            · exact Nat.zero_le _
            · cases ha') e2
        obtain ⟨r, d, er, hr⟩ := split_last (n := s.ages.length) (by rw [hl1, List.length_append, List.length_singleton])
        rw [er] at hbn z1 z2
        have ez : (s.ages ++ [0]).zip (r ++ [d]) = s.ages.zip r ++ [(0, d)] := by
          rw [List.zip_append (by rw [hr])]
          rfl
        rw [ez] at hbn z1 z2
        refine ⟨r, hr, fun p hp => hbn p (List.mem_append_left _ hp), ?_⟩
        have hd : d ≤ l.late := by
          have := hbn (0, d) (List.mem_append_right _ List.mem_cons_self)
          have : 0 + d ≤ l.late := this
          omega
        refine ⟨_, _, _, ?_, by rw [z1], by rw [z2]; exact e3⟩
        rw [hT, htn.1 hph0]
        exact .keep _ _ d hd
      · split at hb
        · rename_i hl
          rcases List.mem_cons.mp hb with e | hb
          · injection e with ea er
            subst ea er
            refine ⟨_, hl1, zip_bnd c _ rs ha e2, ?_⟩
            refine ⟨_, _, _, ?_, by rw [z1], by rw [z2]; exact e3⟩
            rw [hT, htn.1 hph0]
            exact .lose _ _ hl
          · cases hb
        · cases hb
/-- the program's ages are no greater -/
inductive Le2 : List Nat → List (Nat × Nat) → Prop where
  | nil : Le2 [] []
  | cons {b a r : Nat} {bs : List Nat} {P : List (Nat × Nat)} (h : b ≤ a) (t : Le2 bs P) : Le2 (b :: bs) ((a, r) :: P)
def Desc : List (Nat × Nat) → Prop
  | [] => True
  | (a, _) :: P => (∀ p ∈ P, p.1 ≤ a) ∧ Desc P
theorem Le2.len {bs : List Nat} {P : List (Nat × Nat)} (h : Le2 bs P) : bs.length = P.length := by
  induction h with
  | nil => rfl
  | cons _ _ ih => rw [List.length_cons, List.length_cons, ih]
theorem cnt0_le : ∀ P : List (Nat × Nat), cnt0 P ≤ P.length
  | [] => Nat.le_refl _
  | (a, 0) :: P => by
    show cnt0 P + 1 ≤ P.length + 1
    have := cnt0_le P
    omega
  | (a, r + 1) :: P => by
    show cnt0 P ≤ P.length + 1
    have := cnt0_le P
    omega
theorem Le2.get {bs : List Nat} {P : List (Nat × Nat)} (h : Le2 bs P) : ∀ {i : Nat} {b : Nat}, bs[i]? = some b → ∃ p ∈ P, b ≤ p.1 := by
  induction h with
  | nil => intro i b e; cases e
  | @cons b a r bs P h t ih =>
    intro i b' e
    cases i with
    | zero =>
      have e' : b = b' := Option.some.inj e
      subst e'
      exact ⟨_, List.mem_cons_self, h⟩
    | succ i =>
      obtain ⟨p, hp, hb⟩ := ih (i := i) (b := b') e
      exact ⟨p, List.mem_cons_of_mem _ hp, hb⟩
/-- what is left behind a moment -/
theorem Le2.step {late : Nat} {bs : List Nat} {P : List (Nat × Nat)} (h : Le2 bs P) : Desc P → Bnd late P → Le2 ((bs.drop (cnt0 P)).map (· + 1)) (tick P) ∧ ∀ b ∈ bs.drop (cnt0 P), b < late := by
  induction h with
  | nil => exact fun _ _ => ⟨.nil, fun b hb => nomatch hb⟩
  | @cons b a r bs P h t ih =>
    intro hd hb
    obtain ⟨i1, i2⟩ := ih hd.2 fun p hp => hb p (List.mem_cons_of_mem _ hp)
    cases r with
    | zero => exact ⟨i1, i2⟩
    | succ r =>
      have hbd : a + (r + 1) ≤ late := hb (a, r + 1) List.mem_cons_self
      have key : ∃ x, (b :: bs).drop (cnt0 P) = x :: bs.drop (cnt0 P) ∧ x ≤ a := by
        cases hm : cnt0 P with
        | zero => exact ⟨b, rfl, h⟩
        | succ m =>
          have hlt : m < bs.length := by
            have h1 := cnt0_le P
            have h2 := t.len
            omega
          refine ⟨bs[m], ?_, ?_⟩
          · show bs.drop m = bs[m] :: bs.drop (m + 1)
            exact List.drop_eq_getElem_cons hlt
          · obtain ⟨p, hp, hx⟩ := t.get (i := m) (b := bs[m]) (by rw [List.getElem?_eq_getElem hlt])
            exact Nat.le_trans hx (hd.1 p hp)
      obtain ⟨x, e, hx⟩ := key
      show Le2 (((b :: bs).drop (cnt0 P)).map (· + 1)) ((a + 1, r) :: tick P) ∧ ∀ b' ∈ (b :: bs).drop (cnt0 P), b' < late
      rw [e]
      refine ⟨.cons (Nat.succ_le_succ hx) i1, fun y hy => ?_⟩
      rcases List.mem_cons.mp hy with rfl | hy
      · omega
      · exact i2 y hy
theorem tick_mem : ∀ {P : List (Nat × Nat)} {p : Nat × Nat}, p ∈ tick P → ∃ q ∈ P, p.1 = q.1 + 1 ∧ p.2 + 1 = q.2
  | (a, 0) :: P, p, h => by
    obtain ⟨q, hq, e⟩ := tick_mem (P := P) h
    exact ⟨q, List.mem_cons_of_mem _ hq, e⟩
  | (a, r + 1) :: P, p, h => by
    rcases List.mem_cons.mp h with rfl | h
    · exact ⟨_, List.mem_cons_self, rfl, rfl⟩
    · obtain ⟨q, hq, e⟩ := tick_mem (P := P) h
      exact ⟨q, List.mem_cons_of_mem _ hq, e⟩
theorem tick_bnd {late : Nat} {P : List (Nat × Nat)} (h : Bnd late P) : Bnd late (tick P) := fun p hp => by
  obtain ⟨q, hq, e1, e2⟩ := tick_mem hp
  have := h q hq
  omega
theorem tick_desc : ∀ {P : List (Nat × Nat)}, Desc P → Desc (tick P)
  | [], _ => trivial
  | (a, 0) :: P, h => tick_desc (P := P) h.2
  | (a, r + 1) :: P, h => by
    refine ⟨fun p hp => ?_, tick_desc (P := P) h.2⟩
    obtain ⟨q, hq, e1, _⟩ := tick_mem hp
    have := h.1 q hq
    omega
theorem desc_snoc {d : Nat} : ∀ {P : List (Nat × Nat)}, Desc P → Desc (P ++ [(0, d)])
  | [], _ => ⟨fun p hp => (nomatch hp), trivial⟩
  | (a, r) :: P, h => by
    refine ⟨fun p hp => ?_, desc_snoc (P := P) h.2⟩
    rcases List.mem_append.mp hp with hp | hp
    · exact h.1 p hp
    · rcases List.mem_cons.mp hp with rfl | hp
      · exact Nat.zero_le _
      · cases hp
theorem Le2.snoc {d : Nat} {bs : List Nat} {P : List (Nat × Nat)} (h : Le2 bs P) : Le2 (bs ++ [0]) (P ++ [(0, d)]) := by
  induction h with
  | nil => exact .cons (Nat.le_refl _) .nil
  | cons h t ih => exact .cons h ih
theorem D_gone (l : Line) : ∀ (v : List Int) (P : List (Nat × Nat)) (ages : List Nat), Le2 ages P → Desc P → Bnd l.late P → AccDG P v → AccG l ages v
  | [], _, _, _, _, _, _ => trivial
  | m :: v, P, ages, hL, hD, hB, h => by
    obtain ⟨rfl, h⟩ := h
    obtain ⟨s1, s2⟩ := hL.step hD hB
    exact ⟨cnt0 P, _, heardL_mem.mpr ⟨by rw [hL.len]; exact cnt0_le P, s2, rfl⟩, rfl, D_gone l v _ _ s1 (tick_desc hD) (tick_bnd hB) h⟩
theorem D_fifo (l : Line) (he : 1 ≤ l.each) : ∀ (u v : List Int) (t0 : Nat) (P : List (Nat × Nat)) (run : Nat) (s : LS), Le2 s.ages P → Desc P → Bnd l.late P → T0 l s.ph = t0 → s.ph < l.each → s.run = run → AccD l t0 P run u v → AccF l s u v
  | [], v, t0, P, run, s, hL, hD, hB, _, _, _, h => D_gone l v P s.ages hL hD hB h
  | m :: u, v, t0, P, run, s, hL, hD, hB, hT, hp, hr, h => by
    obtain ⟨P', run', t0', hs, rfl, h⟩ := h
    have htn := T0_next (l := l) (ph := s.ph) he hp
    cases hs with
    | wait =>
      have hph : 0 < s.ph := by
        rcases Nat.eq_zero_or_pos s.ph with z | z
        · rw [z] at hT
          have : (0 : Nat) = _ + 1 := hT
          omega
        · exact z
      obtain ⟨s1, s2⟩ := hL.step hD hB
      refine ⟨cnt0 P, ⟨(s.ph + 1) % l.each, (s.ages.drop (cnt0 P)).map (· + 1), s.run⟩, movesL_mem.mpr ⟨s.ages, s.run, ?_, by rw [hL.len]; exact cnt0_le P, s2, rfl⟩, rfl, ?_⟩
      · unfold begunL
        rw [if_pos hph]
        exact List.mem_cons_self
      · refine D_fifo l he u v _ _ _ _ s1 (tick_desc hD) (tick_bnd hB) ?_ (Nat.mod_lt _ (by omega)) hr h
        have := htn.2 hph
        show T0 l ((s.ph + 1) % l.each) = _
        omega
    | lose _ _ hl =>
      have hph : s.ph = 0 := by
        unfold T0 at hT
        split at hT
        · assumption
        · omega
      obtain ⟨s1, s2⟩ := hL.step hD hB
      refine ⟨cnt0 P, ⟨(s.ph + 1) % l.each, (s.ages.drop (cnt0 P)).map (· + 1), s.run + 1⟩, movesL_mem.mpr ⟨s.ages, s.run + 1, ?_, by rw [hL.len]; exact cnt0_le P, s2, rfl⟩, rfl, ?_⟩
      · unfold begunL
        rw [if_neg (by omega), hr, if_pos hl]
        exact List.mem_cons_of_mem _ List.mem_cons_self
      · refine D_fifo l he u v _ _ _ _ s1 (tick_desc hD) (tick_bnd hB) (htn.1 hph) (Nat.mod_lt _ (by omega)) ?_ h
        show s.run + 1 = run + 1
        rw [hr]
    | keep _ _ d hd =>
      have hph : s.ph = 0 := by
        unfold T0 at hT
        split at hT
        · assumption
        · omega
      have hL' := hL.snoc (d := d)
      have hD' := desc_snoc (d := d) hD
      have hB' : Bnd l.late (P ++ [(0, d)]) := fun p hp => by
        rcases List.mem_append.mp hp with hp | hp
        · exact hB p hp
        · rcases List.mem_cons.mp hp with rfl | hp
          · show 0 + d ≤ l.late
            omega
          · cases hp
      obtain ⟨s1, s2⟩ := hL'.step hD' hB'
      refine ⟨cnt0 (P ++ [(0, d)]), ⟨(s.ph + 1) % l.each, ((s.ages ++ [0]).drop (cnt0 (P ++ [(0, d)]))).map (· + 1), 0⟩, movesL_mem.mpr ⟨s.ages ++ [0], 0, ?_, by rw [hL'.len]; exact cnt0_le _, s2, rfl⟩, rfl, ?_⟩
      · unfold begunL
        rw [if_neg (by omega)]
        exact List.mem_cons_self
      · exact D_fifo l he u v _ _ _ _ s1 (tick_desc hD') (tick_bnd hB') (htn.1 hph) (Nat.mod_lt _ (by omega)) rfl h
/-- what may be heard, u while the other one is there, v behind that: by fates -/
def MayH (l : Line) (u v : List Int) : Prop := ∃ r os, Outs l r os ∧ os.length = (u.length + l.each - 1) / l.each ∧ u ++ v = heardOf l.each os (u.length + v.length)
theorem accD_may (l : Line) (he : 1 ≤ l.each) (u v : List Int) : AccD l 0 [] 0 u v ↔ MayH l u v := by
  rw [accD_iff l he]
  constructor
  · rintro ⟨os, h1, h2, h3⟩
    refine ⟨runEnd 0 os, os, (outs_iff l _ os).mpr ⟨h1, rfl⟩, lenOk_uniq h2 (lenOk_up he), List.ext_getElem? fun t => ?_⟩
    by_cases ht : t < u.length + v.length
    · rw [h3 t ht, heardOf_at ht, cnt_eq]
      show some (((0 + cntT l.each 0 os t : Nat)) : Int) = _
      rw [Nat.zero_add]
    · rw [List.getElem?_eq_none (by rw [List.length_append]; omega), List.getElem?_eq_none (by rw [heardOf_len]; omega)]
  · rintro ⟨r, os, h1, h2, h3⟩
    refine ⟨os, ((outs_iff l r os).mp h1).1, by rw [h2]; exact lenOk_up he, fun t ht => ?_⟩
    rw [h3, heardOf_at ht, cnt_eq]
    show _ = some (((0 + cntT l.each 0 os t : Nat)) : Int)
    rw [Nat.zero_add]
theorem fifo_may (l : Line) (he : 1 ≤ l.each) (u v : List Int) : AccF l LS.first u v ↔ MayH l u v := by
  rw [← accD_may l he]
  constructor
  · intro h
    obtain ⟨rs, e1, e2, e3⟩ := fifo_D l he u v LS.first (fun a ha => nomatch ha) (by show 0 < l.each; omega) h
    exact e3
  · intro h
    exact D_fifo l he u v 0 [] 0 LS.first .nil trivial (fun p hp => nomatch hp) rfl (by show 0 < l.each; omega) rfl h
end Bw

set_option Elab.async false
set_option linter.all false
set_option maxRecDepth 100000
set_option maxHeartbeats 4000000
namespace Bw
open PySem PySem.Spec PyProof.Rows L2
/-! ### tuples, by what they hold -/
theorem hu20 {k : Nat} {A : Around} (hr : Room k A) : A.units + 20 < cLine := by
  have := hr.un
  omega
theorem cutV_all {xs : List V} {lo hi : Option Int} (h : HT.sIx xs.length 0 lo = 0 ∧ HT.sIx xs.length xs.length hi = xs.length) : cutV xs lo hi = xs := by
  unfold cutV
  rw [h.1, h.2, List.drop_zero, Nat.sub_zero, List.take_length]
section
variable {X : Cx}
def rCatU (K : PySem.W.Frag) : R2 := fun x y H Q => ∃ a b xs ys, x = .ref a ∧ y = .ref b ∧ SqT K H a xs ∧ SqT K H b ys ∧ xs.length + ys.length ≤ sizeLine ∧ ∀ p H', Same H H' → SqT K H' p (xs ++ ys) → Q (.ref p) H'
theorem op_catU : OpR X (binaryOp .Add) (rCatU X.K) := by
  intro pins s σ H x y v u Q I rx ry h
  obtain ⟨a, b, xs, ys, rfl, rfl, ha, hb, hz, q⟩ := h
  refine op_catA pins s σ H (.ref a) (.ref b) v u Q I rx ry ⟨a, b, xs, ys, rfl, rfl, ha, hb, hz, fun e => ?_, fun _ e => ?_, fun _ _ p hp => ?_⟩
  · exact q b H (Same.refl H) (by rw [e]; exact hb)
  · exact q a H (Same.refl H) (by rw [e, List.append_nil]; exact ha)
  · exact q p _ (Same.newB hp) (SqT.of upd_same)
def rSlU (K : PySem.W.Frag) : V → Option Int → Option Int → Hp → VK → Prop := fun x lo hi H Q => ∃ a xs, x = .ref a ∧ SqT K H a xs ∧ ∀ p H', Same H H' → SqT K H' p (cutV xs lo hi) → Q (.ref p) H'
theorem sl_tupU : SlR X (rSlU X.K) := by
  intro pins s σ H x v vl vu lo hi sl Q I rx hs pl pu h
  obtain ⟨a, xs, rfl, hx, q⟩ := h
  refine sl_tupA pins s σ H (.ref a) v vl vu lo hi sl Q I rx hs pl pu ⟨a, xs, rfl, hx, fun e => ?_, fun _ p hp => ?_⟩
  · exact q a H (Same.refl H) (by rw [cutV_all e]; exact hx)
  · exact q p _ (Same.newB hp) (SqT.of upd_same)
end
theorem cut_from (l : List Int) (n : Nat) : cutV (l.map V.int) (some (n : Int)) none = (l.drop n).map V.int := by
  unfold cutV
  rw [HT.sIx_nat, HT.sIx_none, List.length_map]
  by_cases h : n ≤ l.length
  · rw [Nat.min_eq_left h, List.take_of_length_le (by rw [List.length_drop, List.length_map]; omega), List.map_drop]
  · rw [Nat.min_eq_right (by omega), Nat.sub_self, List.take_zero, List.drop_of_length_le (by omega)]
    rfl
theorem cut_to (l : List Int) (n : Nat) : cutV (l.map V.int) none (some (n : Int)) = (l.take n).map V.int := by
  unfold cutV
  rw [HT.sIx_none, HT.sIx_nat, List.drop_zero, Nat.sub_zero, List.length_map, ← List.map_take]
  by_cases h : n ≤ l.length
  · rw [Nat.min_eq_left h]
  · rw [Nat.min_eq_right (by omega), List.take_of_length_le (Nat.le_refl _), List.take_of_length_le (by omega)]
/-- natural numbers as values -/
def nI (l : List Nat) : List Int := l.map fun a => ((a : Nat) : Int)
theorem nI_len (l : List Nat) : (nI l).length = l.length := by
  unfold nI
  rw [List.length_map]
theorem nI_inj : ∀ {a b : List Nat}, nI a = nI b → a = b
  | [], [], _ => rfl
  | [], _ :: _, h => nomatch h
  | _ :: _, [], h => nomatch h
  | x :: a, y :: b, h => by
    have h' : (x : Int) :: nI a = (y : Int) :: nI b := h
    injection h' with h1 h2
    rw [nI_inj h2]
    congr 1
    omega
/-! ### data and keys -/
def intsD (l : List Int) : PyData := .tuple (l.map PyData.int)
def intsK (l : List Int) : NK := .tup (l.map NestedKey.num)
theorem intsK_data (l : List Int) : (intsK l).data = intsD l := by
  show PyData.tuple (NestedKey.datas (l.map NestedKey.num)) = PyData.tuple (l.map PyData.int)
  congr 1
  induction l with
  | nil => rfl
  | cons a l ih =>
    show NestedKey.data (.num a) :: NestedKey.datas (l.map NestedKey.num) = _
    rw [ih]
    rfl
theorem intsK_depth (l : List Int) : (intsK l).depth ≤ 1 := by
  show NestedKey.depthAll (l.map NestedKey.num) + 1 ≤ 1
  have h : NestedKey.depthAll (l.map NestedKey.num) = 0 := by
    induction l with
    | nil => rfl
    | cons a l ih =>
      show max (NestedKey.depth (.num a)) (NestedKey.depthAll (l.map NestedKey.num)) = 0
      rw [ih]
      rfl
  omega
theorem intsK_inj {a b : List Int} (h : intsK a = intsK b) : a = b := by
  have h' : a.map NestedKey.num = b.map NestedKey.num := by
    injection h
  clear h
  induction a generalizing b with
  | nil =>
    cases b with
    | nil => rfl
    | cons y b => cases h'
  | cons x a ih =>
    cases b with
    | nil => cases h'
    | cons y b =>
      injection h' with h1 h2
      injection h1 with h3
      rw [h3, ih h2]
section
variable {K : PySem.W.Frag} {H : Hp}
theorem ints_dp {a : Addr} {l : List Int} (h : SqT K H a (l.map V.int)) : Dp K H (.ref a) (intsD l) := .tup h (dp_ints l)
theorem dpAll_ints {xs : List V} : ∀ {l : List Int}, DpAll K H xs (l.map PyData.int) → xs = l.map V.int := by
  intro l
  induction l generalizing xs with
  | nil => intro h; cases h; rfl
  | cons a l ih =>
    intro h
    cases h with
    | cons h1 h2 =>
      cases h1
      rw [ih h2]
      rfl
theorem dp_intsD {v : V} {l : List Int} (h : Dp K H v (intsD l)) : ∃ a, v = .ref a ∧ SqT K H a (l.map V.int) := by
  cases h with
  | tup h1 h2 =>
    have e := dpAll_ints h2
    subst e
    exact ⟨_, rfl, h1⟩
/-- one level of a tuple's data -/
theorem dp_tup {v : V} {ds : List PyData} (h : Dp K H v (.tuple ds)) : ∃ a xs, v = .ref a ∧ SqT K H a xs ∧ DpAll K H xs ds := by
  cases h with
  | tup h1 h2 => exact ⟨_, _, rfl, h1, h2⟩
theorem dp_int {v : V} {i : Int} (h : Dp K H v (.int i)) : v = .int i := by
  cases h
  rfl
theorem dpAll_get {xs : List V} {ds : List PyData} {i : Nat} {x : V} (h : DpAll K H xs ds) (hx : xs[i]? = some x) : ∃ d, ds[i]? = some d ∧ Dp K H x d := by
  have hl := DpAll.len h
  have hi := (List.getElem?_eq_some_iff.mp hx).1
  obtain ⟨v, d, h1, h2, h3⟩ := DpAll.get (i := i) h (by omega)
  rw [hx] at h1
  cases h1
  exact ⟨d, h2, h3⟩
theorem dpAll_one {xs : List V} {d : PyData} (h : DpAll K H xs [d]) : ∃ x, xs = [x] ∧ Dp K H x d := by
  cases h with
  | cons h1 h2 => cases h2; exact ⟨_, rfl, h1⟩
theorem dpAll_two {xs : List V} {d e : PyData} (h : DpAll K H xs [d, e]) : ∃ x y, xs = [x, y] ∧ Dp K H x d ∧ Dp K H y e := by
  cases h with
  | cons h1 h2 =>
    obtain ⟨y, rfl, h3⟩ := dpAll_one h2
    exact ⟨_, _, rfl, h1, h3⟩
theorem dpAll_three {xs : List V} {d e g : PyData} (h : DpAll K H xs [d, e, g]) : ∃ x y z, xs = [x, y, z] ∧ Dp K H x d ∧ Dp K H y e ∧ Dp K H z g := by
  cases h with
  | cons h1 h2 =>
    obtain ⟨y, z, rfl, h3, h4⟩ := dpAll_two h2
    exact ⟨_, _, _, rfl, h1, h3, h4⟩
end
/-! ### a line's state as a key -/
def lsK (s : LS) : NK := .tup [.num s.ph, intsK (nI s.ages), .num s.run]
def lsD (s : LS) : PyData := .tuple [.int s.ph, intsD (nI s.ages), .int s.run]
theorem lsK_data (s : LS) : (lsK s).data = lsD s := by
  show PyData.tuple [.int s.ph, (intsK (nI s.ages)).data, .int s.run] = _
  rw [intsK_data]
  rfl
theorem lsK_depth (s : LS) : (lsK s).depth ≤ 2 := by
  show max 0 (max (intsK (nI s.ages)).depth (max 0 0)) + 1 ≤ 2
  have := intsK_depth (nI s.ages)
  omega
theorem lsK_inj {s t : LS} (h : lsK s = lsK t) : s = t := by
  injection h with h
  injection h with h1 h2
  injection h2 with h2 h3
  injection h3 with h3 _
  injection h1 with h1
  injection h3 with h3
  have h4 := nI_inj (intsK_inj h2)
  have h5 : s.ph = t.ph := by omega
  have h6 : s.run = t.run := by omega
  cases s
  cases t
  simp only [LS.mk.injEq]
  exact ⟨h5, h4, h6⟩
section
variable {K : PySem.W.Frag} {H : Hp}
theorem ls_at {v : V} {s : LS} (h : Dp K H v (lsD s)) : ∃ a b, v = .ref a ∧ SqT K H a [.int s.ph, .ref b, .int s.run] ∧ SqT K H b ((nI s.ages).map V.int) := by
  obtain ⟨a, xs, rfl, h1, h2⟩ := dp_tup h
  obtain ⟨x, y, z, rfl, h3, h4, h5⟩ := dpAll_three h2
  obtain ⟨b, rfl, h6⟩ := dp_intsD h4
  cases dp_int h3
  cases dp_int h5
  exact ⟨a, b, rfl, h1, h6⟩
theorem ls_mk {a b : Addr} {s : LS} (h1 : SqT K H a [.int s.ph, .ref b, .int s.run]) (h2 : SqT K H b ((nI s.ages).map V.int)) : Dp K H (.ref a) (lsD s) := .tup h1 (.cons (.int _) (.cons (ints_dp h2) (.cons (.int _) .nil)))
theorem ls_key {v : V} {s : LS} (h : Dp K H v (lsD s)) : KeyV K H v (lsK s) := by
  obtain ⟨a, b, rfl, h1, h2⟩ := ls_at h
  refine ⟨⟨a, rfl⟩, by rw [lsK_data]; exact h, ?_⟩
  have := lsK_depth s
  omega
end
theorem intsD_noL (l : List Int) : NoL (intsD l) := .tuple _ fun d hd => by
  obtain ⟨i, _, rfl⟩ := List.mem_map.mp hd
  exact .int _
theorem lsD_noL (s : LS) : NoL (lsD s) := .tuple _ fun d hd => by
  rcases List.mem_cons.mp hd with rfl | hd
  · exact .int _
  rcases List.mem_cons.mp hd with rfl | hd
  · exact intsD_noL _
  rcases List.mem_cons.mp hd with rfl | hd
  · exact .int _
  · cases hd
/-! ### what stands stays small -/
structure LSok (l : Line) (s : LS) : Prop where
  ph : s.ph < l.each
  run : s.run ≤ l.lost
  ge : ∀ a ∈ s.ages, 1 ≤ a
  le : ∀ a ∈ s.ages, a ≤ l.late
  desc : s.ages.Pairwise (· > ·)
theorem desc_len : ∀ {l : List Nat} {n : Nat}, l.Pairwise (· > ·) → (∀ a ∈ l, 1 ≤ a) → (∀ a ∈ l, a ≤ n) → l.length ≤ n
  | [], n, _, _, _ => Nat.zero_le _
  | a :: l, n, h, h1, h2 => by
    have h3 := List.pairwise_cons.mp h
    have h4 := h1 a List.mem_cons_self
    have h5 := h2 a List.mem_cons_self
    have := desc_len (l := l) (n := a - 1) h3.2 (fun b hb => h1 b (List.mem_cons_of_mem _ hb)) (fun b hb => by
      have := h3.1 b hb
      omega)
    rw [List.length_cons]
    omega
theorem LSok.len {l : Line} {s : LS} (h : LSok l s) : s.ages.length ≤ l.late := desc_len h.desc h.ge h.le
theorem first_ok {l : Line} (he : 1 ≤ l.each) : LSok l LS.first := ⟨by show 0 < l.each; omega, Nat.zero_le _, fun a ha => (nomatch ha), fun a ha => (nomatch ha), .nil⟩
theorem begunL_mem {l : Line} {s : LS} {ages : List Nat} {run : Nat} (h : (ages, run) ∈ begunL l s) (ok : LSok l s) : run ≤ l.lost ∧ ages.Pairwise (· > ·) ∧ (∀ a ∈ ages, a ≤ l.late) ∧ ages.length ≤ l.late + 1 := by
  have hl := ok.len
  unfold begunL at h
  split at h
  · rcases List.mem_cons.mp h with e | h
    · injection e with e1 e2
      subst e1 e2
      exact ⟨ok.run, ok.desc, ok.le, by omega⟩
    · cases h
  · rcases List.mem_cons.mp h with e | h
    · injection e with e1 e2
      subst e1 e2
      refine ⟨Nat.zero_le _, ?_, fun a ha => ?_, by rw [List.length_append, List.length_singleton]; omega⟩
      · rw [List.pairwise_append]
        refine ⟨ok.desc, List.pairwise_singleton _ _, fun a ha b hb => ?_⟩
        have := ok.ge a ha
        rcases List.mem_cons.mp hb with rfl | hb
        · exact this
        · cases hb
      · rcases List.mem_append.mp ha with ha | ha
        · exact ok.le a ha
        · rcases List.mem_cons.mp ha with rfl | ha
          · exact Nat.zero_le _
          · cases ha
    · split at h
      · rename_i hr
        rcases List.mem_cons.mp h with e | h
        · injection e with e1 e2
          subst e1 e2
          exact ⟨hr, ok.desc, ok.le, by omega⟩
        · cases h
      · cases h
theorem moves_ok {l : Line} {s s' : LS} {c : Nat} (he : 1 ≤ l.each) (ok : LSok l s) (h : (c, s') ∈ movesL l s) : LSok l s' ∧ c ≤ l.late + 1 := by
  obtain ⟨ages, run, hb, h1, h2, rfl⟩ := movesL_mem.mp h
  obtain ⟨b1, b2, b3, b4⟩ := begunL_mem hb ok
  refine ⟨⟨Nat.mod_lt _ (by omega), b1, fun a ha => ?_, fun a ha => ?_, ?_⟩, by omega⟩
  · obtain ⟨b, _, rfl⟩ := List.mem_map.mp ha
    exact Nat.succ_le_succ (Nat.zero_le _)
  · obtain ⟨b, hb', rfl⟩ := List.mem_map.mp ha
    exact h2 b hb'
  · refine List.Pairwise.map _ (fun a b h => ?_) (b2.sublist (List.drop_sublist _ _))
    exact Nat.succ_lt_succ h
/-- a code of a list of small numbers -/
def codeL (b : Nat) : List Nat → Nat
  | [] => 0
  | a :: l => (a + 1) + b * codeL b l
theorem codeL_lt {b : Nat} (hb : 1 ≤ b) : ∀ (l : List Nat) (n : Nat), l.length ≤ n → (∀ a ∈ l, a + 1 < b) → codeL b l < b ^ n
  | [], n, _, _ => Nat.pow_pos (by omega)
  | a :: l, 0, h, _ => by simp at h
  | a :: l, n + 1, h, ha => by
    have h1 := codeL_lt hb l n (by simpa using h) (fun x hx => ha x (List.mem_cons_of_mem _ hx))
    have h2 := ha a List.mem_cons_self
    show (a + 1) + b * codeL b l < b ^ (n + 1)
    rw [Nat.pow_succ, Nat.mul_comm (b ^ n) b]
    have h3 : b * (codeL b l + 1) ≤ b * b ^ n := Nat.mul_le_mul_left b h1
    rw [Nat.mul_add, Nat.mul_one] at h3
    omega
theorem codeL_inj {b : Nat} : ∀ {l m : List Nat}, (∀ a ∈ l, a + 1 < b) → (∀ a ∈ m, a + 1 < b) → codeL b l = codeL b m → l = m
  | [], [], _, _, _ => rfl
  | [], a :: m, _, _, h => by
    have h' : 0 = (a + 1) + b * codeL b m := h
    omega
  | a :: l, [], _, _, h => by
    have h' : (a + 1) + b * codeL b l = 0 := h
    omega
  | x :: l, y :: m, h1, h2, h => by
    have h' : (x + 1) + b * codeL b l = (y + 1) + b * codeL b m := h
    have hx := h1 x List.mem_cons_self
    have hy := h2 y List.mem_cons_self
    have e1 : x + 1 = y + 1 := by
      have := congrArg (· % b) h'
      simp only [Nat.add_mul_mod_self_left] at this
      rw [Nat.mod_eq_of_lt hx, Nat.mod_eq_of_lt hy] at this
      exact this
    have e2 : b * codeL b l = b * codeL b m := by omega
    have e3 := Nat.eq_of_mul_eq_mul_left (show 0 < b by omega) e2
    rw [codeL_inj (fun a ha => h1 a (List.mem_cons_of_mem _ ha)) (fun a ha => h2 a (List.mem_cons_of_mem _ ha)) e3]
    congr 1
    omega
theorem nodup_lt : ∀ (B : Nat) (l : List Nat), l.Nodup → (∀ a ∈ l, a < B) → l.length ≤ B
  | 0, l, _, h => by
    cases l with
    | nil => exact Nat.le_refl _
    | cons a l => exact absurd (h a List.mem_cons_self) (Nat.not_lt_zero _)
  | B + 1, l, hn, h => by
    have h1 := nodup_lt B (l.filter fun a => decide (a ≠ B)) (hn.sublist List.filter_sublist) (fun a ha => by
      have h2 := List.mem_filter.mp ha
      have h3 := h a h2.1
      have h4 : a ≠ B := of_decide_eq_true h2.2
      omega)
    have h5 : l.length ≤ (l.filter fun a => decide (a ≠ B)).length + 1 := by
      clear h1 h
      induction l with
      | nil => exact Nat.zero_le _
      | cons a l ih =>
        have hn' := List.nodup_cons.mp hn
        by_cases e : a = B
        · have e1 : (a :: l).filter (fun a => decide (a ≠ B)) = l := by
            rw [List.filter_cons, if_neg (by simp [e])]
            refine List.filter_eq_self.mpr fun x hx => ?_
            exact decide_eq_true (fun z => hn'.1 (by rw [e, ← z]; exact hx))
          rw [e1, List.length_cons]
          exact Nat.le_refl _
        · have := ih hn'.2
          rw [List.filter_cons, if_pos (by simp [e]), List.length_cons, List.length_cons]
          omega
    omega
theorem nodup_code {α : Type} {B : Nat} {l : List α} (f : α → Nat) (hn : l.Nodup) (h : ∀ a ∈ l, f a < B) (hi : ∀ a ∈ l, ∀ b ∈ l, f a = f b → a = b) : l.length ≤ B := by
  have h1 : (l.map f).Nodup := by
    induction l with
    | nil => exact .nil
    | cons a l ih =>
      have hn' := List.nodup_cons.mp hn
      rw [List.map_cons]
      refine List.nodup_cons.mpr ⟨fun hm => ?_, ih hn'.2 (fun b hb => h b (List.mem_cons_of_mem _ hb)) (fun b hb c hc => hi b (List.mem_cons_of_mem _ hb) c (List.mem_cons_of_mem _ hc))⟩
      obtain ⟨b, hb, e⟩ := List.mem_map.mp hm
      have := hi b (List.mem_cons_of_mem _ hb) a List.mem_cons_self e
      subst this
      exact hn'.1 hb
  have := nodup_lt B (l.map f) h1 (fun x hx => by
    obtain ⟨a, ha, rfl⟩ := List.mem_map.mp hx
    exact h a ha)
  rw [List.length_map] at this
  exact this
def lsCode (s : LS) : Nat := (s.ph * 125 + codeL 5 s.ages) * 3 + s.run
theorem lsCode_lt {l : Line} (lo : l.ok) {s : LS} (h : LSok l s) : lsCode s < 1500 := by
  have h1 := codeL_lt (b := 5) (by omega) s.ages 3 (by have := h.len; have := lo.l3; omega) (fun a ha => by have := h.le a ha; have := lo.l3; omega)
  have h2 := h.ph
  have h3 := lo.e4
  have h4 := h.run
  have h5 := lo.s2
  unfold lsCode
  have h6 : codeL 5 s.ages < 125 := h1
  omega
theorem lsCode_inj {l : Line} (lo : l.ok) {s t : LS} (hs : LSok l s) (ht : LSok l t) (e : lsCode s = lsCode t) : s = t := by
  have a1 := codeL_lt (b := 5) (by omega) s.ages 3 (by have := hs.len; have := lo.l3; omega) (fun a ha => by have := hs.le a ha; have := lo.l3; omega)
  have a2 := codeL_lt (b := 5) (by omega) t.ages 3 (by have := ht.len; have := lo.l3; omega) (fun a ha => by have := ht.le a ha; have := lo.l3; omega)
  have a1' : codeL 5 s.ages < 125 := a1
  have a2' : codeL 5 t.ages < 125 := a2
  have r1 := hs.run
  have r2 := ht.run
  have r3 := lo.s2
  unfold lsCode at e
  have e1 : s.run = t.run := by omega
  have e2 : s.ph = t.ph := by omega
  have e3 : codeL 5 s.ages = codeL 5 t.ages := by omega
  have e4 := codeL_inj (fun a ha => by have := hs.le a ha; have := lo.l3; omega) (fun a ha => by have := ht.le a ha; have := lo.l3; omega) e3
  cases s
  cases t
  simp only [LS.mk.injEq]
  exact ⟨e2, e4, e1⟩
theorem ls_few {l : Line} (lo : l.ok) {ss : List LS} (hn : ss.Nodup) (h : ∀ s ∈ ss, LSok l s) : ss.length ≤ 1500 :=
  nodup_code lsCode hn (fun s hs => lsCode_lt lo (h s hs)) (fun s hs t ht e => lsCode_inj lo (h s hs) (h t ht) e)
/-! ### going from state to state -/
def PathL (l : Line) : LS → List Int → LS → Prop
  | s, [], t => s = t
  | s, m :: w, t => ∃ c s', (c, s') ∈ movesL l s ∧ m = (c : Int) ∧ PathL l s' w t
theorem path_snoc (l : Line) (m : Int) (t : LS) : ∀ (w : List Int) (s : LS), PathL l s (w ++ [m]) t ↔ ∃ s1 c, PathL l s w s1 ∧ (c, t) ∈ movesL l s1 ∧ m = (c : Int)
  | [], s => by
    constructor
    · rintro ⟨c, s', h1, h2, h3⟩
      have h3' : s' = t := h3
      subst h3'
      exact ⟨s, c, rfl, h1, h2⟩
    · rintro ⟨s1, c, h1, h2, h3⟩
      have h1' : s = s1 := h1
      subst h1'
      exact ⟨c, t, h2, h3, rfl⟩
  | a :: w, s => by
    constructor
    · rintro ⟨c, s', h1, h2, h3⟩
      obtain ⟨s1, c', h4, h5, h6⟩ := (path_snoc l m t w s').mp h3
      exact ⟨s1, c', ⟨c, s', h1, h2, h4⟩, h5, h6⟩
    · rintro ⟨s1, c', ⟨c, s', h1, h2, h4⟩, h5, h6⟩
      exact ⟨c, s', h1, h2, (path_snoc l m t w s').mpr ⟨s1, c', h4, h5, h6⟩⟩
theorem path_ok {l : Line} (he : 1 ≤ l.each) : ∀ {w : List Int} {s t : LS}, LSok l s → PathL l s w t → LSok l t
  | [], s, t, h, p => by
    have p' : s = t := p
    subst p'
    exact h
  | m :: w, s, t, h, p => by
    obtain ⟨c, s', h1, _, h3⟩ := p
    exact path_ok he (moves_ok he h h1).1 h3
theorem accF_path (l : Line) (v : List Int) : ∀ (u : List Int) (s : LS), AccF l s u v ↔ ∃ t, PathL l s u t ∧ AccG l t.ages v
  | [], s => by
    constructor
    · intro h
      exact ⟨s, rfl, h⟩
    · rintro ⟨t, h1, h2⟩
      have h1' : s = t := h1
      subst h1'
      exact h2
  | m :: u, s => by
    constructor
    · rintro ⟨c, s', h1, h2, h3⟩
      obtain ⟨t, h4, h5⟩ := (accF_path l v u s').mp h3
      exact ⟨t, ⟨c, s', h1, h2, h4⟩, h5⟩
    · rintro ⟨t, ⟨c, s', h1, h2, h4⟩, h5⟩
      exact ⟨c, s', h1, h2, (accF_path l v u s').mpr ⟨t, h4, h5⟩⟩
theorem path_may {l : Line} (he : 1 ≤ l.each) (u : List Int) : (∃ t, PathL l LS.first u t) ↔ MayH l u [] := by
  rw [← fifo_may l he, accF_path]
  constructor
  · rintro ⟨t, h⟩
    exact ⟨t, h, trivial⟩
  · rintro ⟨t, h, _⟩
    exact ⟨t, h⟩
/-! ### a set of keys in a dict -/
section
variable {α : Type} [DecidableEq α]
def addS (ss : List α) (s : α) : List α := if s ∈ ss then ss else ss ++ [s]
theorem addS_mem {ss : List α} {s x : α} : x ∈ addS ss s ↔ x ∈ ss ∨ x = s := by
  unfold addS
  split
  · rename_i h
    constructor
    · exact .inl
    · rintro (h1 | rfl)
      · exact h1
      · exact h
  · rw [List.mem_append, List.mem_singleton]
theorem putK_set (kf : α → NK) (hi : ∀ a b, kf a = kf b → a = b) (v : V) (ss : List α) (s : α) : putK (ss.map fun a => (kf a, v)) (kf s) v = (addS ss s).map fun a => (kf a, v) := by
  unfold putK addS
  have e : ((ss.map fun a => (kf a, v)).any fun kv => decide (kv.1 = kf s)) = decide (s ∈ ss) := by
    rw [List.any_map]
    by_cases h : s ∈ ss
    · rw [decide_eq_true h]
      exact List.any_eq_true.mpr ⟨s, h, decide_eq_true rfl⟩
    · rw [decide_eq_false h]
      refine Bool.eq_false_iff.mpr fun z => ?_
      obtain ⟨x, hx, e⟩ := List.any_eq_true.mp z
      have : x = s := hi _ _ (of_decide_eq_true e)
      subst this
      exact h hx
  rw [e]
  by_cases h : s ∈ ss
  · rw [decide_eq_true h, if_pos rfl, if_pos h, List.map_map]
    refine List.map_congr_left fun a _ => ?_
    show (if kf a = kf s then (kf a, v) else (kf a, v)) = _
    split <;> rfl
  · rw [decide_eq_false h, if_neg (by decide), if_neg h, List.map_append]
    rfl
end
/-! ### what is promised of a line's defs -/
def spNeedLine (K : PySem.W.Frag) : Sp := fun vs H Q _ => ∃ (q : Addr) (l : Line), vs = [.ref q] ∧ SqT K H q l.vs ∧ l.ok ∧ Q .non H
def bgD (b : List Nat × Nat) : PyData := .tuple [intsD (nI b.1), .int b.2]
def hdD (b : Nat × List Nat) : PyData := .tuple [.int b.1, intsD (nI b.2)]
def mvD (b : Nat × LS) : PyData := .tuple [.int b.1, lsD b.2]
def spBegun (K : PySem.W.Frag) : Sp := fun vs H Q _ => ∃ (lp : Addr) (v : V) (l : Line) (s : LS), vs = [.ref lp, v] ∧ SqT K H lp l.vs ∧ l.ok ∧ Dp K H v (lsD s) ∧ LSok l s ∧
  ∀ p H' xs, Same H H' → H p = none → H' p = some (.lst xs) → DpAll K H' xs ((begunL l s).map bgD) → Q (.ref p) H'
def spHeardOf (K : PySem.W.Frag) : Sp := fun vs H Q _ => ∃ (lp b : Addr) (l : Line) (ages : List Nat), vs = [.ref lp, .ref b] ∧ SqT K H lp l.vs ∧ l.ok ∧ SqT K H b ((nI ages).map V.int) ∧ ages.length ≤ 10 ∧
  ∀ p H' xs, Same H H' → H p = none → H' p = some (.lst xs) → DpAll K H' xs ((heardL l ages).map hdD) → Q (.ref p) H'
def spMoves (K : PySem.W.Frag) : Sp := fun vs H Q _ => ∃ (lp : Addr) (v : V) (l : Line) (s : LS), vs = [.ref lp, v] ∧ SqT K H lp l.vs ∧ l.ok ∧ Dp K H v (lsD s) ∧ LSok l s ∧
  ∀ p H' xs, Same H H' → H p = none → H' p = some (.lst xs) → DpAll K H' xs ((movesL l s).map mvD) → Q (.ref p) H'
def spMay (K : PySem.W.Frag) : Sp := fun vs H Q _ => ∃ (lp hp : Addr) (l : Line) (hs : List Int), vs = [.ref lp, .ref hp] ∧ SqT K H lp l.vs ∧ l.ok ∧ SqL K H hp (hs.map V.int) ∧ HeardOk hs ∧
  ∀ (b : Bool) H', Same H H' → (b = true ↔ MayH l hs []) → Q (.bl b) H'
theorem begunL_len (l : Line) (s : LS) : (begunL l s).length ≤ 2 := by
  unfold begunL
  split
  · simp
  · split <;> simp
theorem heardL_len (l : Line) (ages : List Nat) : (heardL l ages).length ≤ ages.length + 1 := by
  unfold heardL
  exact Nat.le_trans (List.length_filterMap_le _ _) (by rw [List.length_range]; exact Nat.le_refl _)
theorem bgD_noL (b : List Nat × Nat) : NoL (bgD b) := .tuple _ fun d hd => by
  rcases List.mem_cons.mp hd with rfl | hd
  · exact intsD_noL _
  rcases List.mem_cons.mp hd with rfl | hd
  · exact .int _
  · cases hd
theorem hdD_noL (b : Nat × List Nat) : NoL (hdD b) := .tuple _ fun d hd => by
  rcases List.mem_cons.mp hd with rfl | hd
  · exact .int _
  rcases List.mem_cons.mp hd with rfl | hd
  · exact intsD_noL _
  · cases hd
theorem mvD_noL (b : Nat × LS) : NoL (mvD b) := .tuple _ fun d hd => by
  rcases List.mem_cons.mp hd with rfl | hd
  · exact .int _
  rcases List.mem_cons.mp hd with rfl | hd
  · exact lsD_noL _
  · cases hd
theorem map_noL {α : Type} {f : α → PyData} (h : ∀ a, NoL (f a)) (l : List α) : ∀ d ∈ l.map f, NoL d := fun d hd => by
  obtain ⟨a, _, rfl⟩ := List.mem_map.mp hd
  exact h a
end Bw

set_option Elab.async false
set_option linter.all false
set_option maxRecDepth 100000
set_option maxHeartbeats 4000000
namespace Bw
open PySem PySem.Spec PyProof.Rows L2
/-! ### data of a small depth -/
def Shp (n : Nat) (d : PyData) : Prop := d.canLay0 = true ∧ d.depth ≤ n
theorem shp_int (n : Nat) (i : Int) : Shp n (.int i) := ⟨by simp [PyData.canLay0], by simp [PyData.depth]⟩
theorem shp_bool (n : Nat) (i : Bool) : Shp n (.bool i) := ⟨by simp [PyData.canLay0], by simp [PyData.depth]⟩
theorem shp_none (n : Nat) : Shp n .none := ⟨by simp [PyData.canLay0], by simp [PyData.depth]⟩
theorem shp_all {n : Nat} : ∀ {ds : List PyData}, (∀ d ∈ ds, Shp n d) → PyData.canLayAll0 ds = true ∧ PyData.depthAll ds ≤ n
  | [], _ => ⟨by simp [PyData.canLayAll0], by simp [PyData.depthAll]⟩
  | d :: ds, h => by
    obtain ⟨h1, h2⟩ := shp_all (ds := ds) fun x hx => h x (List.mem_cons_of_mem _ hx)
    obtain ⟨h3, h4⟩ := h d List.mem_cons_self
    refine ⟨by rw [PyData.canLayAll0, h3, h1]; rfl, ?_⟩
    rw [PyData.depthAll]
    omega
theorem shp_list {n : Nat} {ds : List PyData} (h : ∀ d ∈ ds, Shp n d) : Shp (n + 1) (.list ds) := by
  obtain ⟨h1, h2⟩ := shp_all h
  refine ⟨by rw [PyData.canLay0]; exact h1, ?_⟩
  rw [PyData.depth]
  omega
theorem shp_tuple {n : Nat} {ds : List PyData} (h : ∀ d ∈ ds, Shp n d) : Shp (n + 1) (.tuple ds) := by
  obtain ⟨h1, h2⟩ := shp_all h
  refine ⟨by rw [PyData.canLay0]; exact h1, ?_⟩
  rw [PyData.depth]
  omega
theorem Shp.ok {n : Nat} {d : PyData} (h : Shp n d) (hn : n ≤ 64) : SeqAt.shaped d = true := by
  unfold SeqAt.shaped
  rw [h.1, decide_eq_true (Nat.le_trans h.2 hn)]
  rfl
theorem shp_ints (n : Nat) (l : List Int) : Shp (n + 1) (intsD l) := shp_tuple fun d hd => by
  obtain ⟨i, _, rfl⟩ := List.mem_map.mp hd
  exact shp_int _ _
theorem eqv_nilD (ds : List PyData) : PyData.eqv (.list ds) (.list []) = ds.isEmpty := by
  cases ds with
  | nil => rfl
  | cons a r => rfl
/-! ### beats taken away one by one -/
def subL (hs : List Int) (each : Nat) (os : List (Option Nat)) : List Int := (List.range hs.length).map fun t => hs.getD t 0 - ((cnt each os t : Nat) : Int)
theorem subL_len (hs : List Int) (each : Nat) (os : List (Option Nat)) : (subL hs each os).length = hs.length := by
  unfold subL
  rw [List.length_map, List.length_range]
theorem subL_at {hs : List Int} {each : Nat} {os : List (Option Nat)} {t : Nat} (h : t < hs.length) : (subL hs each os)[t]? = some (hs.getD t 0 - ((cnt each os t : Nat) : Int)) := by
  unfold subL
  rw [List.getElem?_map, List.getElem?_range h]
  rfl
theorem subL_getD {hs : List Int} {each : Nat} {os : List (Option Nat)} {t : Nat} (h : t < hs.length) : (subL hs each os).getD t 0 = hs.getD t 0 - ((cnt each os t : Nat) : Int) := by
  rw [List.getD_eq_getElem?_getD, subL_at h]
  rfl
theorem subL_nil (hs : List Int) (each : Nat) : subL hs each [] = hs := by
  refine List.ext_getElem? fun t => ?_
  by_cases h : t < hs.length
  · rw [subL_at h, cnt_nil, List.getD_eq_getElem?_getD, List.getElem?_eq_getElem h]
    simp
  · rw [List.getElem?_eq_none (by rw [subL_len]; omega), List.getElem?_eq_none (by omega)]
theorem subL_lose (hs : List Int) (each : Nat) (os : List (Option Nat)) : subL hs each (os ++ [none]) = subL hs each os := by
  unfold subL
  exact List.map_congr_left fun t _ => by rw [cnt_lose]
theorem subL_out {hs : List Int} {each : Nat} {os : List (Option Nat)} {d : Nat} (h : hs.length ≤ os.length * each + d) : subL hs each (os ++ [some d]) = subL hs each os := by
  unfold subL
  refine List.map_congr_left fun t ht => ?_
  have h1 := List.mem_range.mp ht
  rw [cnt_hear, if_neg (by omega), Nat.add_zero]
theorem subL_in {hs : List Int} {each : Nat} {os : List (Option Nat)} {d : Nat} (h : os.length * each + d < hs.length) : subL hs each (os ++ [some d]) = (subL hs each os).set (os.length * each + d) ((subL hs each os).getD (os.length * each + d) 0 - 1) := by
  refine List.ext_getElem? fun t => ?_
  by_cases ht : t < hs.length
  · rw [subL_at ht, cnt_hear]
    by_cases e : os.length * each + d = t
    · subst e
      rw [if_pos rfl, List.getElem?_set_self (by rw [subL_len]; exact h), subL_getD h]
      congr 1
      omega
    · rw [if_neg e, List.getElem?_set_ne e, subL_at ht]
      rfl
  · rw [List.getElem?_eq_none (by rw [subL_len]; omega), List.getElem?_eq_none (by rw [List.length_set, subL_len]; omega)]
theorem cnt_app (each : Nat) (os ext : List (Option Nat)) (t : Nat) : cnt each (os ++ ext) t = cnt each os t + cntT each (os.length * each) ext t := by
  rw [cnt_eq, cnt_eq]
  have key : ∀ (os : List (Option Nat)) (t0 : Nat), cntT each t0 (os ++ ext) t = cntT each t0 os t + cntT each (t0 + os.length * each) ext t := by
    intro os
    induction os with
    | nil => intro t0; show cntT each t0 ext t = 0 + cntT each (t0 + 0 * each) ext t; rw [Nat.zero_mul, Nat.add_zero, Nat.zero_add]
    | cons o os ih =>
      intro t0
      show hit1 t0 t o + cntT each (t0 + each) (os ++ ext) t = hit1 t0 t o + cntT each (t0 + each) os t + cntT each (t0 + (os.length + 1) * each) ext t
      have e : t0 + each + os.length * each = t0 + (os.length + 1) * each := by
        rw [Nat.succ_mul]
        omega
      rw [ih, e, Nat.add_assoc]
  rw [key os 0, Nat.zero_add]
inductive GL (l : Line) (hs : List Int) : Nat → List (Option Nat) → Prop where
  | nil : GL l hs 0 []
  | lose {r : Nat} {os : List (Option Nat)} (h : GL l hs r os) (hp : ((subL hs l.each os).take (os.length * l.each)).sum = 0) (hr : r < l.lost) : GL l hs (r + 1) (os ++ [none])
  | hear {r : Nat} {os : List (Option Nat)} (h : GL l hs r os) (hp : ((subL hs l.each os).take (os.length * l.each)).sum = 0) (d : Nat) (hd : d ≤ l.late)
      (ha : hs.length ≤ os.length * l.each + d ∨ 0 < (subL hs l.each os).getD (os.length * l.each + d) 0) : GL l hs 0 (os ++ [some d])
theorem GL.outs {l : Line} {hs : List Int} {r : Nat} {os : List (Option Nat)} (h : GL l hs r os) : Outs l r os := by
  induction h with
  | nil => exact .nil
  | lose _ _ hr ih => exact .lose ih hr
  | hear _ _ d hd _ ih => exact .hear ih d hd
theorem GL.pos {l : Line} {hs : List Int} {r : Nat} {os : List (Option Nat)} (h : GL l hs r os) (h0 : ∀ m ∈ hs, 0 ≤ m) : ∀ m ∈ subL hs l.each os, 0 ≤ m := by
  induction h with
  | nil => rw [subL_nil]; exact h0
  | lose _ _ _ ih => rw [subL_lose]; exact ih
  | @hear r os h hp d hd ha ih =>
    by_cases hn : hs.length ≤ os.length * l.each + d
    · rw [subL_out hn]
      exact ih
    · rw [subL_in (by omega)]
      intro m hm
      rcases List.mem_or_eq_of_mem_set hm with hm | rfl
      · exact ih m hm
      · rcases ha with ha | ha
        · omega
        · omega
theorem sum_zero : ∀ {l : List Int}, (∀ m ∈ l, 0 ≤ m) → l.sum = 0 → ∀ m ∈ l, m = 0
  | [], _, _, m, hm => nomatch hm
  | a :: l, h, hs, m, hm => by
    have hn : ∀ {l : List Int}, (∀ m ∈ l, 0 ≤ m) → 0 ≤ l.sum := by
      intro l
      induction l with
      | nil => intro _; exact Int.le_refl _
      | cons b l ih =>
        intro h
        have h1 := h b List.mem_cons_self
        have h2 := ih fun x hx => h x (List.mem_cons_of_mem _ hx)
        rw [List.sum_cons]
        omega
    have h1 := h a List.mem_cons_self
    have h2 := hn (l := l) fun x hx => h x (List.mem_cons_of_mem _ hx)
    rw [List.sum_cons] at hs
    rcases List.mem_cons.mp hm with rfl | hm
    · omega
    · exact sum_zero (l := l) (fun x hx => h x (List.mem_cons_of_mem _ hx)) (by omega) m hm
theorem zero_sum : ∀ {l : List Int}, (∀ m ∈ l, m = 0) → l.sum = 0
  | [], _ => rfl
  | a :: l, h => by
    rw [List.sum_cons, h a List.mem_cons_self, zero_sum fun x hx => h x (List.mem_cons_of_mem _ hx)]
    rfl
/-- all is taken away just where what is heard is what these beats bring -/
theorem GL.done {l : Line} {hs : List Int} {r : Nat} {os : List (Option Nat)} (h : GL l hs r os) (h0 : ∀ m ∈ hs, 0 ≤ m) (hz : (subL hs l.each os).sum = 0) : hs = heardOf l.each os hs.length := by
  have hp := sum_zero (h.pos h0) hz
  refine List.ext_getElem? fun t => ?_
  by_cases ht : t < hs.length
  · rw [heardOf_at ht]
    have h1 := hp _ (List.mem_of_getElem? (subL_at (each := l.each) (os := os) ht))
    rw [List.getD_eq_getElem?_getD, List.getElem?_eq_getElem ht] at h1
    rw [List.getElem?_eq_getElem ht]
    congr 1
    have h2 : hs[t] - ((cnt l.each os t : Nat) : Int) = 0 := h1
    omega
  · rw [List.getElem?_eq_none (by omega), List.getElem?_eq_none (by rw [heardOf_len]; omega)]
theorem Outs.gl {l : Line} (he : 1 ≤ l.each) {hs : List Int} {r : Nat} {os : List (Option Nat)} (h : Outs l r os) : ∀ ext, hs = heardOf l.each (os ++ ext) hs.length → GL l hs r os := by
  have prune : ∀ (os ext : List (Option Nat)), hs = heardOf l.each (os ++ ext) hs.length → ((subL hs l.each os).take (os.length * l.each)).sum = 0 := by
    intro os ext e
    refine zero_sum fun m hm => ?_
    obtain ⟨t, ht⟩ := List.mem_iff_getElem?.mp hm
    rw [List.getElem?_take] at ht
    split at ht
    · rename_i hlt
      have htl : t < hs.length := by
        have := (List.getElem?_eq_some_iff.mp ht).1
        rw [subL_len] at this
        exact this
      rw [subL_at htl] at ht
      have h1 : hs.getD t 0 = ((cnt l.each (os ++ ext) t : Nat) : Int) := by
        rw [List.getD_eq_getElem?_getD]
        conv => lhs; rw [e]
        rw [heardOf_at htl]
        rfl
      rw [h1, cnt_app, cntT_before _ _ _ hlt] at ht
      have := Option.some.inj ht
      omega
    · cases ht
  induction h with
  | nil => intro ext _; exact .nil
  | @lose r os h hr ih =>
    intro ext e
    have e' : hs = heardOf l.each (os ++ ([none] ++ ext)) hs.length := by rw [← List.append_assoc]; exact e
    exact .lose (ih _ e') (prune _ _ e') hr
  | @hear r os h d hd ih =>
    intro ext e
    have e' : hs = heardOf l.each (os ++ ([some d] ++ ext)) hs.length := by rw [← List.append_assoc]; exact e
    refine .hear (ih _ e') (prune _ _ e') d hd ?_
    by_cases hn : hs.length ≤ os.length * l.each + d
    · exact .inl hn
    · refine .inr ?_
      have htl : os.length * l.each + d < hs.length := by omega
      rw [subL_getD htl]
      have h1 : hs.getD (os.length * l.each + d) 0 = ((cnt l.each (os ++ ([some d] ++ ext)) (os.length * l.each + d) : Nat) : Int) := by
        rw [List.getD_eq_getElem?_getD]
        conv => lhs; rw [e']
        rw [heardOf_at htl]
        rfl
      rw [h1, cnt_app]
      have h2 : cntT l.each (os.length * l.each) ([some d] ++ ext) (os.length * l.each + d) = 1 + cntT l.each (os.length * l.each + l.each) ext (os.length * l.each + d) := by
        show (if os.length * l.each + d = os.length * l.each + d then 1 else 0) + cntT l.each (os.length * l.each + l.each) ext (os.length * l.each + d) = _
        rw [if_pos rfl]
      rw [h2]
      omega
theorem gl_may {l : Line} (he : 1 ≤ l.each) {hs : List Int} (h0 : ∀ m ∈ hs, 0 ≤ m) (k : Nat) : (∃ r os, GL l hs r os ∧ os.length = k ∧ (subL hs l.each os).sum = 0) ↔ ∃ r os, Outs l r os ∧ os.length = k ∧ hs = heardOf l.each os hs.length := by
  constructor
  · rintro ⟨r, os, h1, h2, h3⟩
    exact ⟨r, os, h1.outs, h2, h1.done h0 h3⟩
  · rintro ⟨r, os, h1, h2, h3⟩
    refine ⟨r, os, h1.gl he [] (by rw [List.append_nil]; exact h3), h2, zero_sum fun m hm => ?_⟩
    obtain ⟨t, ht⟩ := List.mem_iff_getElem?.mp hm
    have htl : t < hs.length := by
      have := (List.getElem?_eq_some_iff.mp ht).1
      rw [subL_len] at this
      exact this
    rw [subL_at htl] at ht
    have h4 : hs.getD t 0 = ((cnt l.each os t : Nat) : Int) := by
      rw [List.getD_eq_getElem?_getD]
      conv => lhs; rw [h3]
      rw [heardOf_at htl]
      rfl
    rw [h4] at ht
    have := Option.some.inj ht
    omega
theorem may_split {l : Line} {hs : List Int} {th : Nat} (h : th ≤ hs.length) : MayH l (hs.take th) (hs.drop th) ↔ ∃ r os, Outs l r os ∧ os.length = (min th hs.length + l.each - 1) / l.each ∧ hs = heardOf l.each os hs.length := by
  unfold MayH
  rw [List.take_append_drop, List.length_take, List.length_drop]
  have e : min th hs.length + (hs.length - th) = hs.length := by omega
  rw [e]
/-! ### what stands in between is little -/
def winC (hs : List Int) (b : Nat) (q : Nat × List Int) : Nat := q.1 + 3 * ((hs.getD b 0 - q.2.getD b 0).toNat + 5 * ((hs.getD (b + 1) 0 - q.2.getD (b + 1) 0).toNat + 5 * ((hs.getD (b + 2) 0 - q.2.getD (b + 2) 0).toNat + 5 * (hs.getD (b + 3) 0 - q.2.getD (b + 3) 0).toNat)))
/-- (r, left) behind i + 1 beats -/
def GAt (l : Line) (hs : List Int) (i : Nat) (q : Nat × List Int) : Prop := ∃ os, GL l hs q.1 os ∧ os.length = i ∧ q.2 = subL hs l.each os
theorem cnt_past {l : Line} {r : Nat} {os : List (Option Nat)} (h : Outs l r os) {t : Nat} (ht : os.length * l.each + l.late < t + l.each) (hne : os ≠ []) : cnt l.each os t = 0 := by
  clear hne
  induction h with
  | nil => rfl
  | @lose r os h hr ih =>
    rw [List.length_append, List.length_singleton, Nat.succ_mul] at ht
    rw [cnt_lose]
    exact ih (by omega)
  | @hear r os h d hd ih =>
    rw [List.length_append, List.length_singleton, Nat.succ_mul] at ht
    rw [cnt_hear, ih (by omega), if_neg (by omega)]
theorem GAt.diff {l : Line} (lo : l.ok) {hs : List Int} {i : Nat} {q : Nat × List Int} (h : GAt l hs i q) (t : Nat) : ∃ c : Nat, c ≤ 4 ∧ hs.getD t 0 - q.2.getD t 0 = (c : Int) := by
  obtain ⟨os, h1, h2, h3⟩ := h
  by_cases ht : t < hs.length
  · refine ⟨cnt l.each os t, cnt_four lo h1.outs t, ?_⟩
    rw [h3, subL_getD ht]
    omega
  · refine ⟨0, by omega, ?_⟩
    rw [h3, List.getD_eq_getElem?_getD, List.getD_eq_getElem?_getD, List.getElem?_eq_none (by omega), List.getElem?_eq_none (by rw [subL_len]; omega)]
    rfl
theorem GAt.run {l : Line} {hs : List Int} {i : Nat} {q : Nat × List Int} (h : GAt l hs i q) : q.1 ≤ l.lost := by
  obtain ⟨os, h1, h2, h3⟩ := h
  generalize q.1 = r at *
  cases h1 with
  | nil => exact Nat.zero_le _
  | lose _ _ hr => exact hr
  | hear => exact Nat.zero_le _
theorem winC_lt {l : Line} (lo : l.ok) {hs : List Int} {i b : Nat} {q : Nat × List Int} (h : GAt l hs i q) : winC hs b q < 1875 := by
  obtain ⟨c0, h0, e0⟩ := h.diff lo b
  obtain ⟨c1, h1, e1⟩ := h.diff lo (b + 1)
  obtain ⟨c2, h2, e2⟩ := h.diff lo (b + 2)
  obtain ⟨c3, h3, e3⟩ := h.diff lo (b + 3)
  have := h.run
  have := lo.s2
  unfold winC
  rw [e0, e1, e2, e3]
  omega
/-- outside the window all such are alike -/
theorem GAt.outside {l : Line} (lo : l.ok) {hs : List Int} (h0 : ∀ m ∈ hs, 0 ≤ m) {i : Nat} {q : Nat × List Int} (h : GAt l hs (i + 1) q) : (∀ t, t < i * l.each → q.2.getD t 0 = 0) ∧ ∀ t, i * l.each + 3 < t → q.2.getD t 0 = hs.getD t 0 := by
  obtain ⟨os, h1, h2, h3⟩ := h
  have hl3 := lo.l3
  constructor
  · intro t ht
    by_cases htl : t < hs.length
    · have key : ∀ (r : Nat) (os' : List (Option Nat)) (o : Option Nat), GL l hs r os' → ((subL hs l.each os').take (os'.length * l.each)).sum = 0 → os'.length = i → cnt l.each (os' ++ [o]) t = cnt l.each os' t → (subL hs l.each (os' ++ [o])).getD t 0 = 0 := by
        intro r os' o g hp hl hc
        rw [subL_getD htl, hc, ← subL_getD (each := l.each) (os := os') htl]
        have hz := sum_zero (l := (subL hs l.each os').take (os'.length * l.each)) (fun m hm => g.pos h0 m (List.mem_of_mem_take hm)) hp
        refine hz _ ?_
        rw [List.getD_eq_getElem?_getD, subL_at htl]
        refine List.mem_iff_getElem?.mpr ⟨t, ?_⟩
        rw [List.getElem?_take, if_pos (by rw [hl]; exact ht), subL_at htl]
        rfl
      rw [h3]
      generalize q.1 = r at *
      cases h1 with
      | nil => simp at h2
      | @lose r os' g hp hr =>
        rw [List.length_append, List.length_singleton] at h2
        exact key r os' none g hp (by omega) (cnt_lose _ _ _)
      | @hear r os' g hp d hd ha =>
        rw [List.length_append, List.length_singleton] at h2
        refine key r os' (some d) g hp (by omega) ?_
        rw [cnt_hear, if_neg (by have e : os'.length = i := by omega
                                 rw [e]; omega), Nat.add_zero]
    · rw [h3, List.getD_eq_getElem?_getD, List.getElem?_eq_none (by rw [subL_len]; omega)]
      rfl
  · intro t ht
    by_cases htl : t < hs.length
    · rw [h3, subL_getD htl, cnt_past h1.outs (by rw [h2, Nat.succ_mul]; omega) (by intro z; rw [z] at h2; simp at h2)]
      simp
    · rw [h3, List.getD_eq_getElem?_getD, List.getD_eq_getElem?_getD, List.getElem?_eq_none (by rw [subL_len]; omega), List.getElem?_eq_none (by omega)]
theorem winC_inj {l : Line} (lo : l.ok) {hs : List Int} (h0 : ∀ m ∈ hs, 0 ≤ m) {i : Nat} {q q' : Nat × List Int} (h : GAt l hs (i + 1) q) (h' : GAt l hs (i + 1) q') (e : winC hs (i * l.each) q = winC hs (i * l.each) q') : q = q' := by
  obtain ⟨o1, o2⟩ := h.outside lo h0
  obtain ⟨p1, p2⟩ := h'.outside lo h0
  obtain ⟨c0, a0, e0⟩ := h.diff lo (i * l.each)
  obtain ⟨c1, a1, e1⟩ := h.diff lo (i * l.each + 1)
  obtain ⟨c2, a2, e2⟩ := h.diff lo (i * l.each + 2)
  obtain ⟨c3, a3, e3⟩ := h.diff lo (i * l.each + 3)
  obtain ⟨d0, b0, f0⟩ := h'.diff lo (i * l.each)
  obtain ⟨d1, b1, f1⟩ := h'.diff lo (i * l.each + 1)
  obtain ⟨d2, b2, f2⟩ := h'.diff lo (i * l.each + 2)
  obtain ⟨d3, b3, f3⟩ := h'.diff lo (i * l.each + 3)
  have r1 := h.run
  have r2 := h'.run
  have r3 := lo.s2
  unfold winC at e
  rw [e0, e1, e2, e3, f0, f1, f2, f3] at e
  have er : q.1 = q'.1 := by omega
  have eg : ∀ t, q.2.getD t 0 = q'.2.getD t 0 := by
    intro t
    by_cases t1 : t < i * l.each
    · rw [o1 t t1, p1 t t1]
    · by_cases t2 : i * l.each + 3 < t
      · rw [o2 t t2, p2 t t2]
      · have t3 : t = i * l.each ∨ t = i * l.each + 1 ∨ t = i * l.each + 2 ∨ t = i * l.each + 3 := by omega
        rcases t3 with rfl | rfl | rfl | rfl <;> omega
  have el : q.2.length = q'.2.length := by
    obtain ⟨os, _, _, h3⟩ := h
    obtain ⟨os', _, _, h3'⟩ := h'
    rw [h3, h3', subL_len, subL_len]
  refine Prod.ext er (List.ext_getElem? fun t => ?_)
  by_cases ht : t < q.2.length
  · have := eg t
    rw [List.getD_eq_getElem?_getD, List.getD_eq_getElem?_getD, List.getElem?_eq_getElem ht, List.getElem?_eq_getElem (by omega)] at this
    rw [List.getElem?_eq_getElem ht, List.getElem?_eq_getElem (by omega)]
    exact congrArg some this
  · rw [List.getElem?_eq_none (by omega), List.getElem?_eq_none (by omega)]
theorem gl_few {l : Line} (lo : l.ok) {hs : List Int} (h0 : ∀ m ∈ hs, 0 ≤ m) {i : Nat} {ps : List (Nat × List Int)} (hn : ps.Nodup) (h : ∀ q ∈ ps, GAt l hs (i + 1) q) : ps.length ≤ 1875 :=
  nodup_code (winC hs (i * l.each)) hn (fun q hq => winC_lt lo (h q hq)) (fun q hq q' hq' e => winC_inj lo h0 (h q hq) (h q' hq') e)
/-- what one of them brings with the next beat -/
def extL (l : Line) (hs : List Int) (i : Nat) (q : Nat × List Int) : List (Nat × List Int) :=
  if (q.2.take (i * l.each)).sum = 0 then (if q.1 < l.lost then [(q.1 + 1, q.2)] else []) ++ (List.range (l.late + 1)).filterMap fun d =>
    if hs.length ≤ i * l.each + d then some (0, q.2) else if 0 < q.2.getD (i * l.each + d) 0 then some (0, q.2.set (i * l.each + d) (q.2.getD (i * l.each + d) 0 - 1)) else none
  else []
theorem ext_at {l : Line} {hs : List Int} {i : Nat} (x : Nat × List Int) : GAt l hs (i + 1) x ↔ ∃ q, GAt l hs i q ∧ x ∈ extL l hs i q := by
  constructor
  · rintro ⟨os, h1, h2, h3⟩
    obtain ⟨r, lf⟩ := x
    have h1' : GL l hs r os := h1
    have h3' : lf = subL hs l.each os := h3
    subst h3'
    clear h1 h3
    cases h1' with
    | nil => simp at h2
    | @lose r os' g hp hr =>
      rw [List.length_append, List.length_singleton] at h2
      have hi : os'.length = i := by omega
      subst hi
      refine ⟨(r, subL hs l.each os'), ⟨os', g, rfl, rfl⟩, ?_⟩
      unfold extL
      rw [if_pos hp]
      refine List.mem_append_left _ ?_
      show _ ∈ if r < l.lost then _ else _
      rw [if_pos hr, subL_lose]
      exact List.mem_cons_self
    | @hear r os' g hp d hd ha =>
      rw [List.length_append, List.length_singleton] at h2
      have hi : os'.length = i := by omega
      subst hi
      refine ⟨(r, subL hs l.each os'), ⟨os', g, rfl, rfl⟩, ?_⟩
      unfold extL
      rw [if_pos hp]
      refine List.mem_append_right _ (List.mem_filterMap.mpr ⟨d, List.mem_range.mpr (by omega), ?_⟩)
      by_cases hn : hs.length ≤ os'.length * l.each + d
      · rw [if_pos hn, subL_out hn]
      · rw [if_neg hn, if_pos (ha.resolve_left hn), subL_in (by omega)]
  · rintro ⟨⟨r, lf⟩, ⟨os, h1, h2, h3⟩, hx⟩
    have h1' : GL l hs r os := h1
    have h3' : lf = subL hs l.each os := h3
    subst h3' h2
    clear h1 h3
    unfold extL at hx
    split at hx
    · rename_i hp
      rcases List.mem_append.mp hx with hx | hx
      · split at hx
        · rename_i hr
          rcases List.mem_cons.mp hx with rfl | hx
          · exact ⟨os ++ [none], .lose h1' hp hr, by rw [List.length_append]; rfl, by rw [subL_lose]⟩
          · cases hx
        · cases hx
      · obtain ⟨d, hd, h⟩ := List.mem_filterMap.mp hx
        have hd' := List.mem_range.mp hd
        split at h
        · rename_i hn
          cases h
          exact ⟨os ++ [some d], .hear h1' hp d (by omega) (.inl hn), by rw [List.length_append]; rfl, by rw [subL_out hn]⟩
        · rename_i hn
          split at h
          · rename_i hg
            cases h
            exact ⟨os ++ [some d], .hear h1' hp d (by omega) (.inr hg), by rw [List.length_append]; rfl, by rw [subL_in (by omega)]⟩
          · cases h
    · cases hx
/-! ### such a pair as a key -/
def prK (q : Nat × List Int) : NK := .tup [.num q.1, intsK q.2]
def prD (q : Nat × List Int) : PyData := .tuple [.int q.1, intsD q.2]
theorem prK_data (q : Nat × List Int) : (prK q).data = prD q := by
  show PyData.tuple [.int q.1, (intsK q.2).data] = _
  rw [intsK_data]
  rfl
theorem prK_depth (q : Nat × List Int) : (prK q).depth ≤ 2 := by
  show max 0 (max (intsK q.2).depth 0) + 1 ≤ 2
  have := intsK_depth q.2
  omega
theorem prK_inj {s t : Nat × List Int} (h : prK s = prK t) : s = t := by
  injection h with h
  injection h with h1 h2
  injection h2 with h2 _
  injection h1 with h1
  exact Prod.ext (by omega) (intsK_inj h2)
section
variable {K : PySem.W.Frag} {H : Hp}
theorem pr_at {v : V} {q : Nat × List Int} (h : Dp K H v (prD q)) : ∃ a b, v = .ref a ∧ SqT K H a [.int q.1, .ref b] ∧ SqT K H b (q.2.map V.int) := by
  obtain ⟨a, xs, rfl, h1, h2⟩ := dp_tup h
  obtain ⟨x, y, rfl, h3, h4⟩ := dpAll_two h2
  obtain ⟨b, rfl, h6⟩ := dp_intsD h4
  cases dp_int h3
  exact ⟨a, b, rfl, h1, h6⟩
theorem pr_mk {a b : Addr} {q : Nat × List Int} (h1 : SqT K H a [.int q.1, .ref b]) (h2 : SqT K H b (q.2.map V.int)) : Dp K H (.ref a) (prD q) := .tup h1 (.cons (.int _) (.cons (ints_dp h2) .nil))
theorem pr_key {v : V} {q : Nat × List Int} (h : Dp K H v (prD q)) : KeyV K H v (prK q) := by
  obtain ⟨a, b, rfl, h1, h2⟩ := pr_at h
  refine ⟨⟨a, rfl⟩, by rw [prK_data]; exact h, ?_⟩
  have := prK_depth q
  omega
end
theorem prD_noL (q : Nat × List Int) : NoL (prD q) := .tuple _ fun d hd => by
  rcases List.mem_cons.mp hd with rfl | hd
  · exact .int _
  rcases List.mem_cons.mp hd with rfl | hd
  · exact intsD_noL _
  · cases hd
theorem prD_shp (q : Nat × List Int) : Shp 2 (prD q) := shp_tuple fun d hd => by
  rcases List.mem_cons.mp hd with rfl | hd
  · exact shp_int _ _
  rcases List.mem_cons.mp hd with rfl | hd
  · exact shp_ints 0 _
  · cases hd
def spLMay (K : PySem.W.Frag) : Sp := fun vs H Q _ => ∃ (lp hp : Addr) (l : Line) (hs : List Int) (th : Nat), vs = [.ref lp, .ref hp, .int th] ∧ SqT K H lp l.vs ∧ l.ok ∧ SqL K H hp (hs.map V.int) ∧ hs.length ≤ 100000 ∧ (∀ m ∈ hs, 0 ≤ m) ∧ th ≤ hs.length ∧
  ∀ (b : Bool) H', Same H H' → (b = true ↔ MayH l (hs.take th) (hs.drop th)) → Q (.bl b) H'
theorem rgc_up2 {n c : Nat} (hn : n ≤ 100000) (hc : 1 ≤ c ∧ c ≤ 4) : RgC 0 (n : Int) (c : Int) ((n + c - 1) / c) := by
  have e := rgs_up (n := n) hc
  have hb : (n + c - 1) / c ≤ 100003 := Nat.le_trans (Nat.div_le_self _ _) (by omega)
  refine ⟨by omega, by omega, ?_, e⟩
  unfold Builtin.Range.small
  rw [e]
  generalize (n + c - 1) / c = m at *
  simp only [Builtin.Range.rangeFitsLong, Bool.and_eq_true, Bool.or_eq_true, decide_eq_true_eq, beq_iff_eq]
  have hc0 : (c : Int) > 0 := by omega
  simp only [hc0, if_true, Bool.and_eq_true, decide_eq_true_eq]
  omega
theorem set_cut {lf : List Int} {t : Nat} (h : t < lf.length) (x : Int) : (lf.take t).map V.int ++ [V.int x] ++ (lf.drop (t + 1)).map V.int = (lf.set t x).map V.int := by
  rw [List.set_eq_take_append_cons_drop, if_pos h, List.map_append, List.map_cons, List.append_assoc]
  rfl
def spOther (K : PySem.W.Frag) : Sp := fun vs H Q _ => ∃ (d hp : Addr) (hs : List Int) (b : Int), vs = [.ref d, .ref hp] ∧ DiceAt H d ∧ H hp = some (.lst (hs.map V.int)) ∧ hp ≠ d ∧ hs.length ≤ 300 ∧ (∀ m ∈ hs, 0 ≤ m ∧ m ≤ b) ∧
  ∀ (ms : List Int) (p : Addr) (H' : Hp), ms.length = hs.length → (∀ m ∈ ms, 0 ≤ m ∧ m ≤ b + 1) → Dr d H H' → H p = none → H' p = some (.lst (ms.map V.int)) → Q (.ref p) H'
theorem atI_ints {hs : List Int} {n : Nat} (h : n < hs.length) : atI (hs.map V.int) (n : Int) = some (.int (hs.getD n 0)) := atI_nat (by
  rw [List.getElem?_map, List.getD_eq_getElem?_getD, List.getElem?_eq_getElem h]
  rfl)
theorem getD_mem {hs : List Int} {n : Nat} (h : n < hs.length) : hs.getD n 0 ∈ hs := by
  rw [List.getD_eq_getElem?_getD, List.getElem?_eq_getElem h]
  exact List.getElem_mem h
theorem run_may {l : Line} {r : Nat} {os : List (Option Nat)} {n : Nat} (h : Outs l r os) (hl : os.length = (n + l.each - 1) / l.each) : MayH l (heardOf l.each os n) [] := by
  refine ⟨r, os, h, by rw [heardOf_len]; exact hl, ?_⟩
  rw [List.append_nil, heardOf_len]
  rfl
theorem may_four {l : Line} (lo : l.ok) {u v : List Int} (h : MayH l u v) : ∀ m ∈ u ++ v, 0 ≤ m ∧ m ≤ 4 := by
  obtain ⟨r, os, h1, h2, h3⟩ := h
  rw [h3]
  exact fun m hm => heardOf_mem lo h1 hm
theorem sIx_some (n d : Nat) (v : Int) : HT.sIx n d (some v) = if v < 0 then (v + (n : Int)).toNat else min v.toNat n := rfl
theorem cut_init (ini : List Int) (lst : Int) : cutV ((ini ++ [lst]).map V.int) none (some (-1)) = ini.map V.int := by
  unfold cutV
  have e0 : HT.sIx ((ini ++ [lst]).map V.int).length ((ini ++ [lst]).map V.int).length (some (-1)) = ini.length := by
    rw [sIx_some, if_pos (by omega), List.length_map, List.length_append, List.length_singleton]
    omega
  rw [e0, HT.sIx_none, List.drop_zero, Nat.sub_zero, List.map_append, List.take_append_of_le_length (by rw [List.length_map]; omega), List.take_of_length_le (by rw [List.length_map]; omega)]
end Bw

set_option Elab.async false
set_option linter.all false
set_option maxRecDepth 100000
set_option maxHeartbeats 4000000
namespace Bw
open PySem PySem.Spec PyProof.Rows L2
/-! ### going through all, level by level -/
structure BS (κ : Type) where
  met : List (κ × List Int)
  lv : List κ
  wr : Option (List Int)
section
variable {κ : Type} [DecidableEq κ]
def PathK (succ : κ → List (Int × κ)) : κ → List Int → κ → Prop
  | k, [], t => k = t
  | k, m :: w, t => ∃ k', (m, k') ∈ succ k ∧ PathK succ k' w t
theorem pathK_snoc (succ : κ → List (Int × κ)) (m : Int) (t : κ) : ∀ (w : List Int) (k : κ), PathK succ k (w ++ [m]) t ↔ ∃ k1, PathK succ k w k1 ∧ (m, t) ∈ succ k1
  | [], k => by
    constructor
    · rintro ⟨k', h1, h2⟩
      have h2' : k' = t := h2
      subst h2'
      exact ⟨k, rfl, h1⟩
    · rintro ⟨k1, h1, h2⟩
      have h1' : k = k1 := h1
      subst h1'
      exact ⟨t, h2, rfl⟩
  | a :: w, k => by
    constructor
    · rintro ⟨k', h1, h2⟩
      obtain ⟨k1, h3, h4⟩ := (pathK_snoc succ m t w k').mp h2
      exact ⟨k1, ⟨k', h1, h3⟩, h4⟩
    · rintro ⟨k1, ⟨k', h1, h3⟩, h4⟩
      exact ⟨k', h1, (pathK_snoc succ m t w k').mpr ⟨k1, h3, h4⟩⟩
def rowOf (met : List (κ × List Int)) (k : κ) : List Int := ((met.find? fun p => decide (p.1 = k)).map (·.2)).getD []
theorem rowOf_mem {met : List (κ × List Int)} {k : κ} {ρ : List Int} (hn : (met.map (·.1)).Nodup) (h : (k, ρ) ∈ met) : rowOf met k = ρ := by
  unfold rowOf
  induction met with
  | nil => cases h
  | cons p met ih =>
    rw [List.map_cons, List.nodup_cons] at hn
    by_cases e : p.1 = k
    · rw [List.find?_cons, decide_eq_true e]
      rcases List.mem_cons.mp h with rfl | h
      · rfl
      · exact absurd (List.mem_map.mpr ⟨(k, ρ), h, e.symm⟩) hn.1
    · rw [List.find?_cons, decide_eq_false e]
      rcases List.mem_cons.mp h with rfl | h
      · exact absurd rfl e
      · exact ih hn.2 h
def edgeB (gone : κ → Bool) (k : κ) (b : BS κ) (e : Int × κ) : BS κ := if e.2 ∈ b.met.map (·.1) then b else ⟨b.met ++ [(e.2, rowOf b.met k ++ [e.1])], b.lv ++ [e.2], if b.wr = none ∧ gone e.2 = true then some (rowOf b.met k ++ [e.1]) else b.wr⟩
def nodeB (succ : κ → List (Int × κ)) (gone : κ → Bool) (b : BS κ) (k : κ) : BS κ := (succ k).foldl (edgeB gone k) b
def stepB (succ : κ → List (Int × κ)) (gone : κ → Bool) (b : BS κ) : BS κ := b.lv.foldl (nodeB succ gone) ⟨b.met, [], b.wr⟩
def bfsN (succ : κ → List (Int × κ)) (gone : κ → Bool) (k0 : κ) : Nat → BS κ
  | 0 => ⟨[(k0, [])], [k0], none⟩
  | n + 1 => stepB succ gone (bfsN succ gone k0 n)
/-- all has been gone through -/
def BEnd (succ : κ → List (Int × κ)) (gone : κ → Bool) (k0 : κ) (b : BS κ) : Prop := ∃ n, b = bfsN succ gone k0 n ∧ b.lv = []
variable {succ : κ → List (Int × κ)} {gone : κ → Bool} {k0 : κ}
theorem bfs_stop {n : Nat} (h : (bfsN succ gone k0 n).lv = []) : ∀ m, n ≤ m → bfsN succ gone k0 m = bfsN succ gone k0 n := by
  intro m hm
  induction hm with
  | refl => rfl
  | @step m hm ih =>
    show stepB succ gone (bfsN succ gone k0 m) = _
    rw [ih]
    unfold stepB
    rw [h, List.foldl_nil]
    cases hb : bfsN succ gone k0 n with
    | mk met lv wr =>
      rw [hb] at h
      have h' : lv = [] := h
      rw [h']
theorem BEnd.uniq {b b' : BS κ} (h : BEnd succ gone k0 b) (h' : BEnd succ gone k0 b') : b = b' := by
  obtain ⟨n, rfl, h1⟩ := h
  obtain ⟨m, rfl, h2⟩ := h'
  rcases Nat.le_total n m with h | h
  · exact (bfs_stop h1 m h).symm
  · exact bfs_stop h2 n h
structure BInv (succ : κ → List (Int × κ)) (gone : κ → Bool) (k0 : κ) (n : Nat) (b : BS κ) : Prop where
  nd : (b.met.map (·.1)).Nodup
  row : ∀ k ρ, (k, ρ) ∈ b.met → PathK succ k0 ρ k ∧ ρ.length ≤ n
  all : ∀ w k, PathK succ k0 w k → w.length ≤ n → ∃ ρ, (k, ρ) ∈ b.met ∧ ρ.length ≤ w.length
  lvl : ∀ k, k ∈ b.lv ↔ ∃ ρ, (k, ρ) ∈ b.met ∧ ρ.length = n
  wr0 : b.wr = none → ∀ k ρ, (k, ρ) ∈ b.met → gone k = false
  wr1 : ∀ ρ, b.wr = some ρ → (∃ k, (k, ρ) ∈ b.met ∧ gone k = true) ∧ ∀ k' ρ', (k', ρ') ∈ b.met → gone k' = true → ρ.length ≤ ρ'.length
structure JInv (succ : κ → List (Int × κ)) (gone : κ → Bool) (k0 : κ) (n : Nat) (b0 b : BS κ) : Prop where
  nd : (b.met.map (·.1)).Nodup
  old : ∀ p ∈ b0.met, p ∈ b.met
  new : ∀ k ρ, (k, ρ) ∈ b.met → (k, ρ) ∈ b0.met ∨ (PathK succ k0 ρ k ∧ ρ.length = n + 1 ∧ k ∉ b0.met.map (·.1))
  lv : ∀ k, k ∈ b.lv ↔ k ∈ b.met.map (·.1) ∧ k ∉ b0.met.map (·.1)
  wr0 : b.wr = none → ∀ k ρ, (k, ρ) ∈ b.met → gone k = false
  wr1 : ∀ ρ, b.wr = some ρ → (∃ k, (k, ρ) ∈ b.met ∧ gone k = true) ∧ ∀ k' ρ', (k', ρ') ∈ b.met → gone k' = true → ρ.length ≤ ρ'.length
theorem edge_mono (gone : κ → Bool) (k : κ) (b : BS κ) (e : Int × κ) : (∀ p ∈ b.met, p ∈ (edgeB gone k b e).met) ∧ e.2 ∈ (edgeB gone k b e).met.map (·.1) := by
  unfold edgeB
  split
  · rename_i h
    exact ⟨fun p hp => hp, h⟩
  · exact ⟨fun p hp => List.mem_append_left _ hp, by rw [List.map_append]; exact List.mem_append_right _ List.mem_cons_self⟩
theorem edges_mono (gone : κ → Bool) (k : κ) : ∀ (es : List (Int × κ)) (b : BS κ), (∀ p ∈ b.met, p ∈ (es.foldl (edgeB gone k) b).met) ∧ ∀ e ∈ es, e.2 ∈ (es.foldl (edgeB gone k) b).met.map (·.1)
  | [], b => ⟨fun p hp => hp, fun e he => nomatch he⟩
  | e :: es, b => by
    obtain ⟨h1, h2⟩ := edges_mono gone k es (edgeB gone k b e)
    obtain ⟨h3, h4⟩ := edge_mono gone k b e
    refine ⟨fun p hp => h1 p (h3 p hp), fun x hx => ?_⟩
    rcases List.mem_cons.mp hx with rfl | hx
    · obtain ⟨p, hp, e1⟩ := List.mem_map.mp h4
      exact List.mem_map.mpr ⟨p, h1 p hp, e1⟩
    · exact h2 x hx
theorem nodes_mono (succ : κ → List (Int × κ)) (gone : κ → Bool) : ∀ (ks : List κ) (b : BS κ), (∀ p ∈ b.met, p ∈ (ks.foldl (nodeB succ gone) b).met) ∧ ∀ k ∈ ks, ∀ e ∈ succ k, e.2 ∈ (ks.foldl (nodeB succ gone) b).met.map (·.1)
  | [], b => ⟨fun p hp => hp, fun e he => nomatch he⟩
  | k :: ks, b => by
    obtain ⟨h1, h2⟩ := nodes_mono succ gone ks (nodeB succ gone b k)
    obtain ⟨h3, h4⟩ := edges_mono gone k (succ k) b
    refine ⟨fun p hp => h1 p (h3 p hp), fun x hx e he => ?_⟩
    rcases List.mem_cons.mp hx with rfl | hx
    · obtain ⟨p, hp, e1⟩ := List.mem_map.mp (h4 e he)
      exact List.mem_map.mpr ⟨p, h1 p hp, e1⟩
    · exact h2 x hx e he
theorem JInv.edge {n : Nat} {b0 b : BS κ} (B : BInv succ gone k0 n b0) (J : JInv succ gone k0 n b0 b) {k : κ} {e : Int × κ} (hk : k ∈ b0.lv) (he : e ∈ succ k) : JInv succ gone k0 n b0 (edgeB gone k b e) := by
  unfold edgeB
  split
  · exact J
  · rename_i hne
    obtain ⟨ρ, hρ, hl⟩ := (B.lvl k).mp hk
    have er : rowOf b.met k = ρ := rowOf_mem J.nd (J.old _ hρ)
    rw [er]
    have hp : PathK succ k0 (ρ ++ [e.1]) e.2 := (pathK_snoc succ e.1 e.2 ρ k0).mpr ⟨k, (B.row k ρ hρ).1, he⟩
    have hll : (ρ ++ [e.1]).length = n + 1 := by rw [List.length_append, hl]; rfl
    have hlen : ∀ k' ρ', (k', ρ') ∈ b.met → ρ'.length ≤ n + 1 := fun k' ρ' h => by
      rcases J.new k' ρ' h with h | h
      · have := (B.row k' ρ' h).2
        omega
      · omega
    have hn0 : e.2 ∉ b0.met.map (·.1) := fun h => hne (by
      obtain ⟨p, hp, e1⟩ := List.mem_map.mp h
      exact List.mem_map.mpr ⟨p, J.old p hp, e1⟩)
    refine ⟨?_, fun p hp => List.mem_append_left _ (J.old p hp), fun k' ρ' h => ?_, fun k' => ?_, fun hw k' ρ' h => ?_, fun σ hw => ?_⟩
    · rw [List.map_append]
      refine List.nodup_append.mpr ⟨J.nd, (List.pairwise_singleton _ _), fun a ha b hb => ?_⟩
      rcases List.mem_cons.mp hb with rfl | hb
      · rintro rfl
        exact hne ha
      · cases hb
    · rcases List.mem_append.mp h with h | h
      · exact J.new k' ρ' h
      · rcases List.mem_cons.mp h with h | h
        · injection h with h1 h2
          subst h1 h2
          exact .inr ⟨hp, hll, hn0⟩
        · cases h
    · show k' ∈ b.lv ++ [e.2] ↔ k' ∈ (b.met ++ [(e.2, ρ ++ [e.1])]).map (·.1) ∧ _
      rw [List.map_append, List.mem_append, List.mem_append, J.lv k']
      constructor
      · rintro (⟨h1, h2⟩ | h)
        · exact ⟨.inl h1, h2⟩
        · rcases List.mem_cons.mp h with rfl | h
          · exact ⟨.inr List.mem_cons_self, hn0⟩
          · cases h
      · rintro ⟨h1 | h1, h2⟩
        · exact .inl ⟨h1, h2⟩
        · rcases List.mem_cons.mp h1 with rfl | h1
          · exact .inr List.mem_cons_self
          · cases h1
    · have hw' : (if b.wr = none ∧ gone e.2 = true then some (ρ ++ [e.1]) else b.wr) = none := hw
      split at hw'
      · cases hw'
      · rename_i hc
        rcases List.mem_append.mp h with h | h
        · exact J.wr0 hw' k' ρ' h
        · rcases List.mem_cons.mp h with h | h
          · injection h with h1 h2
            subst h1
            cases hg : gone e.2 with
            | false => rfl
            | true => exact absurd ⟨hw', hg⟩ hc
          · cases h
    · have hw' : (if b.wr = none ∧ gone e.2 = true then some (ρ ++ [e.1]) else b.wr) = some σ := hw
      split at hw'
      · rename_i hc
        have hσ : ρ ++ [e.1] = σ := Option.some.inj hw'
        subst hσ
        refine ⟨⟨e.2, List.mem_append_right _ List.mem_cons_self, hc.2⟩, fun k' ρ' h hg => ?_⟩
        rcases List.mem_append.mp h with h | h
        · rw [J.wr0 hc.1 k' ρ' h] at hg
          cases hg
        · rcases List.mem_cons.mp h with h | h
          · injection h with h1 h2
            rw [h2]
            exact Nat.le_refl _
          · cases h
      · obtain ⟨⟨k1, h1, h2⟩, h3⟩ := J.wr1 σ hw'
        refine ⟨⟨k1, List.mem_append_left _ h1, h2⟩, fun k' ρ' h hg => ?_⟩
        rcases List.mem_append.mp h with h | h
        · exact h3 k' ρ' h hg
        · rcases List.mem_cons.mp h with h | h
          · injection h with h4 h5
            rw [h5, hll]
            exact hlen k1 σ h1
          · cases h
theorem JInv.edges {n : Nat} {b0 : BS κ} (B : BInv succ gone k0 n b0) {k : κ} (hk : k ∈ b0.lv) : ∀ (es : List (Int × κ)) (b : BS κ), (∀ e ∈ es, e ∈ succ k) → JInv succ gone k0 n b0 b → JInv succ gone k0 n b0 (es.foldl (edgeB gone k) b)
  | [], b, _, J => J
  | e :: es, b, h, J => JInv.edges B hk es _ (fun x hx => h x (List.mem_cons_of_mem _ hx)) (J.edge B hk (h e List.mem_cons_self))
theorem JInv.nodes {n : Nat} {b0 : BS κ} (B : BInv succ gone k0 n b0) : ∀ (ks : List κ) (b : BS κ), (∀ k ∈ ks, k ∈ b0.lv) → JInv succ gone k0 n b0 b → JInv succ gone k0 n b0 (ks.foldl (nodeB succ gone) b)
  | [], b, _, J => J
  | k :: ks, b, h, J => JInv.nodes B ks _ (fun x hx => h x (List.mem_cons_of_mem _ hx)) (JInv.edges B (h k List.mem_cons_self) _ _ (fun _ hx => hx) J)
theorem JInv.start {n : Nat} {b0 : BS κ} (B : BInv succ gone k0 n b0) : JInv succ gone k0 n b0 ⟨b0.met, [], b0.wr⟩ :=
  ⟨B.nd, fun _ h => h, fun _ _ h => .inl h, fun k => ⟨fun h => (nomatch h), fun h => absurd h.1 h.2⟩, B.wr0, B.wr1⟩
theorem bfs_inv (hg : gone k0 = false) : ∀ n, BInv succ gone k0 n (bfsN succ gone k0 n)
  | 0 => by
    refine ⟨(List.pairwise_singleton _ _), fun k ρ h => ?_, fun w k h hl => ?_, fun k => ?_, fun _ k ρ h => ?_, fun ρ h => nomatch h⟩
    · rcases List.mem_cons.mp h with h | h
      · injection h with h1 h2
        subst h1 h2
        exact ⟨rfl, Nat.le_refl _⟩
      · cases h
    · have e : w = [] := List.length_eq_zero_iff.mp (by omega)
      subst e
      have h' : k0 = k := h
      subst h'
      exact ⟨[], List.mem_cons_self, Nat.le_refl _⟩
    · show k ∈ [k0] ↔ ∃ ρ, (k, ρ) ∈ [(k0, ([] : List Int))] ∧ ρ.length = 0
      rw [List.mem_singleton]
      constructor
      · rintro rfl
        exact ⟨[], List.mem_cons_self, rfl⟩
      · rintro ⟨ρ, h, _⟩
        rcases List.mem_cons.mp h with h | h
        · injection h
        · cases h
    · rcases List.mem_cons.mp h with h | h
      · injection h with h1 h2
        subst h1
        exact hg
      · cases h
  | n + 1 => by
    have B := bfs_inv hg n
    have J : JInv succ gone k0 n (bfsN succ gone k0 n) (bfsN succ gone k0 (n + 1)) := JInv.nodes B _ _ (fun _ h => h) (JInv.start B)
    have M := nodes_mono succ gone (bfsN succ gone k0 n).lv ⟨(bfsN succ gone k0 n).met, [], (bfsN succ gone k0 n).wr⟩
    have M2 : ∀ k ∈ (bfsN succ gone k0 n).lv, ∀ e ∈ succ k, e.2 ∈ (bfsN succ gone k0 (n + 1)).met.map (·.1) := M.2
    generalize bfsN succ gone k0 (n + 1) = b at *
    generalize bfsN succ gone k0 n = b0 at *
    have row : ∀ k ρ, (k, ρ) ∈ b.met → PathK succ k0 ρ k ∧ ρ.length ≤ n + 1 := fun k ρ h => by
      rcases J.new k ρ h with h | h
      · exact ⟨(B.row k ρ h).1, by have := (B.row k ρ h).2; omega⟩
      · exact ⟨h.1, by omega⟩
    refine ⟨J.nd, row, fun w k h hl => ?_, fun k => ?_, J.wr0, J.wr1⟩
    · by_cases hw : w.length ≤ n
      · obtain ⟨ρ, h1, h2⟩ := B.all w k h hw
        exact ⟨ρ, J.old _ h1, h2⟩
      · rcases List.eq_nil_or_concat w with rfl | ⟨w', m, rfl⟩
        · simp at hw
        · rw [List.concat_eq_append] at h hl hw ⊢
          rw [List.length_append, List.length_singleton] at hl hw
          obtain ⟨k1, h1, h2⟩ := (pathK_snoc succ m k w' k0).mp h
          obtain ⟨ρ, h3, h4⟩ := B.all w' k1 h1 (by omega)
          have h5 : k ∈ b.met.map (·.1) := by
            by_cases hρ : ρ.length = n
            · exact M2 k1 ((B.lvl k1).mpr ⟨ρ, h3, hρ⟩) (m, k) h2
            · obtain ⟨ρ', h6, _⟩ := B.all (ρ ++ [m]) k ((pathK_snoc succ m k ρ k0).mpr ⟨k1, (B.row k1 ρ h3).1, h2⟩) (by
                rw [List.length_append, List.length_singleton]
                have := (B.row k1 ρ h3).2
                omega)
              exact List.mem_map.mpr ⟨_, J.old _ h6, rfl⟩
          obtain ⟨⟨k', ρ'⟩, h6, h7⟩ := List.mem_map.mp h5
          have h7' : k' = k := h7
          subst h7'
          exact ⟨ρ', h6, by have := (row k' ρ' h6).2; rw [List.length_append, List.length_singleton]; omega⟩
    · rw [J.lv k]
      constructor
      · rintro ⟨h1, h2⟩
        obtain ⟨⟨k', ρ⟩, h3, h4⟩ := List.mem_map.mp h1
        have h4' : k' = k := h4
        subst h4'
        refine ⟨ρ, h3, ?_⟩
        rcases J.new k' ρ h3 with h | h
        · exact absurd (List.mem_map.mpr ⟨_, h, rfl⟩) h2
        · exact h.2.1
      · rintro ⟨ρ, h1, h2⟩
        refine ⟨List.mem_map.mpr ⟨_, h1, rfl⟩, ?_⟩
        rcases J.new k ρ h1 with h | h
        · have := (B.row k ρ h).2
          omega
        · exact h.2.2
/-- what stands at the end: all that can be reached, by shortest rows; the shortest row to where it is gone -/
structure BRes (succ : κ → List (Int × κ)) (gone : κ → Bool) (k0 : κ) (b : BS κ) : Prop where
  nd : (b.met.map (·.1)).Nodup
  row : ∀ k ρ, (k, ρ) ∈ b.met → PathK succ k0 ρ k
  all : ∀ w k, PathK succ k0 w k → ∃ ρ, (k, ρ) ∈ b.met ∧ ρ.length ≤ w.length
  wr0 : b.wr = none → ∀ w k, PathK succ k0 w k → gone k = false
  wr1 : ∀ ρ, b.wr = some ρ → (∃ k, PathK succ k0 ρ k ∧ gone k = true) ∧ ∀ w k, PathK succ k0 w k → gone k = true → ρ.length ≤ w.length
theorem BEnd.res (hg : gone k0 = false) {b : BS κ} (h : BEnd succ gone k0 b) : BRes succ gone k0 b := by
  obtain ⟨n, rfl, hl⟩ := h
  have all : ∀ w k, PathK succ k0 w k → ∃ ρ, (k, ρ) ∈ (bfsN succ gone k0 n).met ∧ ρ.length ≤ w.length := fun w k h => by
    rcases Nat.le_total w.length n with hw | hw
    · exact (bfs_inv hg n).all w k h hw
    · have := (bfs_inv (succ := succ) hg w.length).all w k h (Nat.le_refl _)
      rw [bfs_stop hl w.length hw] at this
      exact this
  have B := bfs_inv (succ := succ) (gone := gone) (k0 := k0) hg n
  refine ⟨B.nd, fun k ρ h => (B.row k ρ h).1, all, fun hw w k h => ?_, fun ρ hw => ?_⟩
  · obtain ⟨ρ, h1, _⟩ := all w k h
    exact B.wr0 hw k ρ h1
  · obtain ⟨⟨k, h1, h2⟩, h3⟩ := B.wr1 ρ hw
    refine ⟨⟨k, (B.row k ρ h1).1, h2⟩, fun w k' h hgk => ?_⟩
    obtain ⟨ρ', h4, h5⟩ := all w k' h
    have := h3 k' ρ' h4 hgk
    omega
/-- no more are met than there are -/
theorem edge_lv (gone : κ → Bool) (k : κ) (b : BS κ) (e : Int × κ) (n : Nat) (h : b.met.length = n + b.lv.length) : (edgeB gone k b e).met.length = n + (edgeB gone k b e).lv.length := by
  unfold edgeB
  split
  · exact h
  · show (b.met ++ _).length = n + (b.lv ++ _).length
    rw [List.length_append, List.length_append, List.length_singleton, List.length_singleton]
    omega
theorem step_len (b : BS κ) : (stepB succ gone b).met.length = b.met.length + (stepB succ gone b).lv.length := by
  have h1 : ∀ (k : κ) (es : List (Int × κ)) (b : BS κ) (n : Nat), b.met.length = n + b.lv.length → (es.foldl (edgeB gone k) b).met.length = n + (es.foldl (edgeB gone k) b).lv.length := by
    intro k es
    induction es with
    | nil => intro b n h; exact h
    | cons e es ih => intro b n h; exact ih _ n (edge_lv gone k b e n h)
  have h2 : ∀ (ks : List κ) (b : BS κ) (n : Nat), b.met.length = n + b.lv.length → (ks.foldl (nodeB succ gone) b).met.length = n + (ks.foldl (nodeB succ gone) b).lv.length := by
    intro ks
    induction ks with
    | nil => intro b n h; exact h
    | cons k ks ih => intro b n h; exact ih _ n (h1 k (succ k) b n h)
  exact h2 b.lv ⟨b.met, [], b.wr⟩ b.met.length rfl
end
/-! ### the program's: a line's state and what a watcher keeps -/
abbrev PK := LS × List Int
def succP (l : Line) (r : Rule) (k : PK) : List (Int × PK) := (movesL l k.1).map fun q => ((q.1 : Int), (q.2, nextS r k.2 (q.1 : Int)))
def goneP (r : Rule) (k : PK) : Bool := goneS r k.2
def firstP (r : Rule) : PK := (LS.first, firstS r)
theorem firstP_gone (r : Rule) (ho : r.ok) : goneP r (firstP r) = false := by
  cases r with
  | since n =>
    have h : 1 ≤ n ∧ n ≤ 12 := ho
    show decide ((n : Int) ≤ 0) = false
    exact decide_eq_false (by omega)
  | few a b =>
    have h : 1 ≤ a ∧ a ≤ 5 ∧ 1 ≤ b ∧ b ≤ 3 := ho
    show (decide (((0 : Nat) : Int) = (a : Int)) && _) = false
    rw [decide_eq_false (by omega)]
    rfl
theorem pathP (l : Line) (r : Rule) (t : PK) : ∀ (w : List Int) (s : LS) (st : List Int), PathK (succP l r) (s, st) w t ↔ PathL l s w t.1 ∧ t.2 = w.foldl (nextS r) st
  | [], s, st => by
    constructor
    · intro h
      have h' : (s, st) = t := h
      subst h'
      exact ⟨rfl, rfl⟩
    · rintro ⟨h1, h2⟩
      have h1' : s = t.1 := h1
      have h2' : t.2 = st := h2
      show (s, st) = t
      rw [h1', ← h2']
  | m :: w, s, st => by
    constructor
    · rintro ⟨⟨s', st'⟩, h1, h2⟩
      obtain ⟨⟨c, s1⟩, h3, h4⟩ := List.mem_map.mp h1
      injection h4 with h4 h5
      injection h5 with h5 h6
      have h4' : (c : Int) = m := h4
      have h5' : s1 = s' := h5
      have h6' : nextS r st (c : Int) = st' := h6
      subst h4' h5' h6'
      obtain ⟨h7, h8⟩ := (pathP l r t w s1 _).mp h2
      exact ⟨⟨c, s1, h3, rfl, h7⟩, h8⟩
    · rintro ⟨⟨c, s1, h3, rfl, h7⟩, h8⟩
      exact ⟨(s1, nextS r st (c : Int)), List.mem_map.mpr ⟨(c, s1), h3, rfl⟩, (pathP l r t w s1 _).mpr ⟨h7, h8⟩⟩
theorem pathP_first (l : Line) (r : Rule) (w : List Int) (t : PK) : PathK (succP l r) (firstP r) w t ↔ PathL l LS.first w t.1 ∧ t.2 = stOf r w := pathP l r t w LS.first (firstS r)
/-- what may be kept -/
structure KpOk (r : Rule) (st : List Int) : Prop where
  small : ∀ m ∈ st, 0 ≤ m ∧ m ≤ 12
  five : (∃ n, r = .since n) ∨ ∀ m ∈ st, m ≤ 4
  len : st.length ≤ 5
  st : StOk r st
theorem kp_ok {r : Rule} (ho : r.ok) {w : List Int} (hw : ∀ m ∈ w, 0 ≤ m ∧ m ≤ 4) : KpOk r (stOf r w) := by
  cases r with
  | since n =>
    have h : 1 ≤ n ∧ n ≤ 12 := ho
    rw [since_is]
    refine ⟨fun m hm => ?_, .inl ⟨n, rfl⟩, by simp, ⟨_, rfl⟩⟩
    rcases List.mem_cons.mp hm with rfl | hm
    · omega
    · cases hm
  | few a b =>
    have h : 1 ≤ a ∧ a ≤ 5 ∧ 1 ≤ b ∧ b ≤ 3 := ho
    rw [few_is a b h.1]
    have hm : ∀ m ∈ lastN a w, m ∈ w := fun m hm => by
      unfold lastN at hm
      exact List.mem_of_mem_drop hm
    refine ⟨fun m h' => ?_, .inr fun m h' => (hw m (hm m h')).2, by rw [lastN_len]; omega, by show (lastN a w).length ≤ a; rw [lastN_len]; omega⟩
    have := hw m (hm m h')
    omega
def pkCode (k : PK) : Nat := lsCode k.1 * 7776 + codeL 6 (k.2.map Int.toNat)
def pkCodeS (k : PK) : Nat := lsCode k.1 * 13 + (k.2.headD 0).toNat
theorem toNat_inj {a b : List Int} (ha : ∀ m ∈ a, 0 ≤ m) (hb : ∀ m ∈ b, 0 ≤ m) (h : a.map Int.toNat = b.map Int.toNat) : a = b := by
  induction a generalizing b with
  | nil =>
    cases b with
    | nil => rfl
    | cons y b => cases h
  | cons x a ih =>
    cases b with
    | nil => cases h
    | cons y b =>
      injection h with h1 h2
      have := ha x List.mem_cons_self
      have := hb y List.mem_cons_self
      rw [ih (fun m hm => ha m (List.mem_cons_of_mem _ hm)) (fun m hm => hb m (List.mem_cons_of_mem _ hm)) h2]
      congr 1
      omega
/-- a bound of how many may stand -/
def pkMost : Nat := 11664000
theorem pk_few {l : Line} (lo : l.ok) {r : Rule} (ho : r.ok) {ks : List PK} (hn : ks.Nodup) (h : ∀ k ∈ ks, LSok l k.1 ∧ KpOk r k.2) : ks.length ≤ pkMost := by
  cases r with
  | since n =>
    refine Nat.le_trans (nodup_code (B := 1500 * 13) pkCodeS hn (fun k hk => ?_) (fun k hk k' hk' e => ?_)) (by decide)
    · obtain ⟨h1, h2⟩ := h k hk
      have h3 := lsCode_lt lo h1
      obtain ⟨z, hz⟩ := h2.st
      have h4 := h2.small z (by rw [hz]; exact List.mem_cons_self)
      unfold pkCodeS
      rw [hz]
      show lsCode k.1 * 13 + z.toNat < 1500 * 13
      omega
    · obtain ⟨h1, h2⟩ := h k hk
      obtain ⟨g1, g2⟩ := h k' hk'
      obtain ⟨z, hz⟩ := h2.st
      obtain ⟨z', hz'⟩ := g2.st
      have h4 := h2.small z (by rw [hz]; exact List.mem_cons_self)
      have g4 := g2.small z' (by rw [hz']; exact List.mem_cons_self)
      unfold pkCodeS at e
      rw [hz, hz'] at e
      have e' : lsCode k.1 * 13 + z.toNat = lsCode k'.1 * 13 + z'.toNat := e
      have e1 : lsCode k.1 = lsCode k'.1 := by omega
      refine Prod.ext (lsCode_inj lo h1 g1 e1) ?_
      rw [hz, hz']
      congr 1
      omega
  | few a b =>
    have five : ∀ k ∈ ks, ∀ m ∈ k.2, 0 ≤ m ∧ m ≤ 4 := fun k hk m hm => by
      obtain ⟨h1, h2⟩ := h k hk
      refine ⟨(h2.small m hm).1, ?_⟩
      rcases h2.five with ⟨n, e⟩ | h5
      · cases e
      · exact h5 m hm
    have dig : ∀ k ∈ ks, ∀ x ∈ k.2.map Int.toNat, x + 1 < 6 := fun k hk x hx => by
      obtain ⟨m, hm, rfl⟩ := List.mem_map.mp hx
      have := five k hk m hm
      omega
    have lt : ∀ k ∈ ks, codeL 6 (k.2.map Int.toNat) < 7776 := fun k hk => codeL_lt (b := 6) (by omega) _ 5 (by rw [List.length_map]; exact (h k hk).2.len) (dig k hk)
    refine nodup_code (B := pkMost) pkCode hn (fun k hk => ?_) (fun k hk k' hk' e => ?_)
    · have h3 := lsCode_lt lo (h k hk).1
      have h4 := lt k hk
      unfold pkCode
      show _ < 11664000
      omega
    · have h4 := lt k hk
      have h5 := lt k' hk'
      unfold pkCode at e
      have e1 : lsCode k.1 = lsCode k'.1 := by omega
      have e2 : codeL 6 (k.2.map Int.toNat) = codeL 6 (k'.2.map Int.toNat) := by omega
      refine Prod.ext (lsCode_inj lo (h k hk).1 (h k' hk').1 e1) ?_
      exact toNat_inj (fun m hm => (five k hk m hm).1) (fun m hm => (five k' hk' m hm).1) (codeL_inj (dig k hk) (dig k' hk') e2)
theorem pk_ok {l : Line} (lo : l.ok) {r : Rule} (ho : r.ok) {w : List Int} {k : PK} (h : PathK (succP l r) (firstP r) w k) : LSok l k.1 ∧ KpOk r k.2 := by
  obtain ⟨h1, h2⟩ := (pathP_first l r w k).mp h
  refine ⟨path_ok lo.e1 (first_ok lo.e1) h1, ?_⟩
  rw [h2]
  have hm := may_four lo ((path_may lo.e1 w).mp ⟨_, h1⟩)
  rw [List.append_nil] at hm
  exact kp_ok ho hm
/-- the program's going through -/
def endP (l : Line) (r : Rule) (b : BS PK) : Prop := BEnd (succP l r) (goneP r) (firstP r) b
/-- the shortest false row, or none -/
structure FRow (l : Line) (r : Rule) (o : Option (List Int)) : Prop where
  no : o = none → ∀ w, MayH l w [] → goneH r w = false
  yes : ∀ ρ, o = some ρ → MayH l ρ [] ∧ goneH r ρ = true ∧ ∀ w, MayH l w [] → goneH r w = true → ρ.length ≤ w.length
theorem endP_row {l : Line} (lo : l.ok) {r : Rule} (ho : r.ok) {b : BS PK} (h : endP l r b) : FRow l r b.wr := by
  have R := BEnd.res (firstP_gone r ho) h
  refine ⟨fun e w hw => ?_, fun ρ e => ?_⟩
  · obtain ⟨t, ht⟩ := (path_may lo.e1 w).mpr hw
    have := R.wr0 e w (t, stOf r w) ((pathP_first l r w _).mpr ⟨ht, rfl⟩)
    rw [← gone_is r ho]
    exact this
  · obtain ⟨⟨k, h1, h2⟩, h3⟩ := R.wr1 ρ e
    obtain ⟨h4, h5⟩ := (pathP_first l r ρ k).mp h1
    refine ⟨(path_may lo.e1 ρ).mp ⟨_, h4⟩, ?_, fun w hw hg => ?_⟩
    · rw [← gone_is r ho, ← h5]
      exact h2
    · obtain ⟨t, ht⟩ := (path_may lo.e1 w).mpr hw
      refine h3 w (t, stOf r w) ((pathP_first l r w _).mpr ⟨ht, rfl⟩) ?_
      show goneS r (stOf r w) = true
      rw [gone_is r ho]
      exact hg
end Bw

set_option Elab.async false
set_option linter.all false
set_option maxRecDepth 100000
set_option maxHeartbeats 4000000
namespace Bw
open PySem PySem.Spec PyProof.Rows L2
/-! ### short ways -/
section
variable {κ : Type} [DecidableEq κ] {succ : κ → List (Int × κ)} {gone : κ → Bool} {k0 : κ}
theorem bfs_grow : ∀ n, (bfsN succ gone k0 n).lv ≠ [] → n + 1 ≤ (bfsN succ gone k0 n).met.length
  | 0, _ => Nat.le_refl _
  | n + 1, h => by
    have h1 : (bfsN succ gone k0 n).lv ≠ [] := fun e => h (by rw [bfs_stop e (n + 1) (Nat.le_succ n)]; exact e)
    have h2 := bfs_grow n h1
    have h3 : (bfsN succ gone k0 (n + 1)).met.length = (bfsN succ gone k0 n).met.length + (bfsN succ gone k0 (n + 1)).lv.length := step_len (bfsN succ gone k0 n)
    have h4 : 0 < (bfsN succ gone k0 (n + 1)).lv.length := List.length_pos_iff.mpr h
    omega
theorem bfs_short (hg : gone k0 = false) {B : Nat} (hB : ∀ n, (bfsN succ gone k0 n).met.length ≤ B) {w : List Int} {k : κ} (h : PathK succ k0 w k) : ∃ w', PathK succ k0 w' k ∧ w'.length ≤ B := by
  have hl : (bfsN succ gone k0 B).lv = [] := by
    cases e : (bfsN succ gone k0 B).lv with
    | nil => rfl
    | cons a t =>
      have := bfs_grow (succ := succ) (gone := gone) (k0 := k0) B (by rw [e]; intro z; cases z)
      have := hB B
      omega
  have I := bfs_inv (succ := succ) (gone := gone) (k0 := k0) hg B
  have R := BEnd.res (succ := succ) hg (b := bfsN succ gone k0 B) ⟨B, rfl, hl⟩
  obtain ⟨ρ, h1, _⟩ := R.all w k h
  exact ⟨ρ, I.row k ρ h1⟩
end
def succL (l : Line) (s : LS) : List (Int × LS) := (movesL l s).map fun q => ((q.1 : Int), q.2)
theorem pathL_K (l : Line) (t : LS) : ∀ (w : List Int) (s : LS), PathK (succL l) s w t ↔ PathL l s w t
  | [], s => Iff.rfl
  | m :: w, s => by
    constructor
    · rintro ⟨s', h1, h2⟩
      obtain ⟨⟨c, s1⟩, h3, h4⟩ := List.mem_map.mp h1
      injection h4 with h4 h5
      have h5' : s1 = s' := h5
      subst h5'
      exact ⟨c, s1, h3, h4.symm, (pathL_K l t w s1).mp h2⟩
    · rintro ⟨c, s1, h3, rfl, h2⟩
      exact ⟨s1, List.mem_map.mpr ⟨(c, s1), h3, rfl⟩, (pathL_K l t w s1).mpr h2⟩
theorem path_short {l : Line} (lo : l.ok) {w : List Int} {s : LS} (h : PathL l LS.first w s) : ∃ w', PathL l LS.first w' s ∧ w'.length ≤ 1500 := by
  obtain ⟨w', h1, h2⟩ := bfs_short (succ := succL l) (gone := fun _ => false) (k0 := LS.first) rfl (B := 1500) (fun n => by
    have I := bfs_inv (succ := succL l) (gone := fun _ => false) (k0 := LS.first) rfl n
    have := ls_few lo I.nd (fun s hs => by
      obtain ⟨⟨s', ρ⟩, h1, h2⟩ := List.mem_map.mp hs
      have h2' : s' = s := h2
      subst h2'
      exact path_ok lo.e1 (first_ok lo.e1) ((pathL_K l s' ρ _).mp (I.row s' ρ h1).1))
    rw [List.length_map] at this
    exact this) ((pathL_K l s w _).mpr h)
  exact ⟨w', (pathL_K l s w' _).mp h1, h2⟩
theorem path_app (l : Line) (t : LS) (x : List Int) : ∀ (w : List Int) (s : LS), PathL l s (w ++ x) t ↔ ∃ s1, PathL l s w s1 ∧ PathL l s1 x t
  | [], s => ⟨fun h => ⟨s, rfl, h⟩, fun ⟨s1, h1, h2⟩ => by
      have h1' : s = s1 := h1
      subst h1'
      exact h2⟩
  | m :: w, s => by
    constructor
    · rintro ⟨c, s', h1, h2, h3⟩
      obtain ⟨s1, h4, h5⟩ := (path_app l t x w s').mp h3
      exact ⟨s1, ⟨c, s', h1, h2, h4⟩, h5⟩
    · rintro ⟨s1, ⟨c, s', h1, h2, h4⟩, h5⟩
      exact ⟨c, s', h1, h2, (path_app l t x w s').mpr ⟨s1, h4, h5⟩⟩
theorem lastN_app (n : Nat) (u x : List Int) (h : x.length = n) : lastN n (u ++ x) = x := by
  unfold lastN
  rw [List.length_append, h, Nat.add_sub_cancel, List.drop_left]
theorem wide_le (r : Rule) (ho : r.ok) : 1 ≤ r.wide ∧ r.wide ≤ 12 := by
  cases r with
  | since n => exact ho
  | few a b =>
    have h : 1 ≤ a ∧ a ≤ 5 ∧ 1 ≤ b ∧ b ≤ 3 := ho
    show 1 ≤ a ∧ a ≤ 12
    omega
/-- what is kept hangs on the latest moments alone -/
theorem st_last (r : Rule) (ho : r.ok) (u u' x : List Int) (h : x.length = r.wide) : stOf r (u ++ x) = stOf r (u' ++ x) := by
  cases r with
  | since n =>
    have h' : x.length = n := h
    rw [since_is, since_is]
    have key : ∀ u : List Int, ∀ k, k ≤ n → (k ≤ quiet (u ++ x) ↔ (lastN k x).filter (fun m => decide (0 < m)) = []) := by
      intro u k hk
      rw [quiet_iff]
      have e : lastN k (u ++ x) = lastN k x := by
        unfold lastN
        rw [List.length_append, List.drop_append]
        have h1 : u.length + x.length - k = u.length + (x.length - k) := by omega
        rw [h1, List.drop_of_length_le (by omega), List.nil_append]
        congr 1
        omega
      rw [e, List.length_append]
      exact ⟨fun h => h.2, fun h => ⟨by omega, h⟩⟩
    have e : min n (quiet (u ++ x)) = min n (quiet (u' ++ x)) := by
      have h1 := (key u (min n (quiet (u ++ x))) (by omega)).mp (by omega)
      have h2 := (key u' (min n (quiet (u ++ x))) (by omega)).mpr h1
      have h3 := (key u' (min n (quiet (u' ++ x))) (by omega)).mp (by omega)
      have h4 := (key u (min n (quiet (u' ++ x))) (by omega)).mpr h3
      omega
    rw [e]
  | few a b =>
    have hh : 1 ≤ a ∧ a ≤ 5 ∧ 1 ≤ b ∧ b ≤ 3 := ho
    rw [few_is a b hh.1, few_is a b hh.1, lastN_app a u x h, lastN_app a u' x h]
theorem pk_short {l : Line} (lo : l.ok) {r : Rule} (ho : r.ok) {w : List Int} {k : PK} (h : PathK (succP l r) (firstP r) w k) : ∃ w', PathK (succP l r) (firstP r) w' k ∧ w'.length ≤ 1512 := by
  have hw := wide_le r ho
  by_cases hl : w.length ≤ 12
  · exact ⟨w, h, by omega⟩
  · obtain ⟨h1, h2⟩ := (pathP_first l r w k).mp h
    have e : w = w.take (w.length - r.wide) ++ w.drop (w.length - r.wide) := (List.take_append_drop _ _).symm
    have hx : (w.drop (w.length - r.wide)).length = r.wide := by rw [List.length_drop]; omega
    rw [e] at h1 h2
    obtain ⟨s1, h3, h4⟩ := (path_app l k.1 _ _ _).mp h1
    obtain ⟨u', h5, h6⟩ := path_short lo h3
    refine ⟨u' ++ w.drop (w.length - r.wide), (pathP_first l r _ k).mpr ⟨(path_app l k.1 _ _ _).mpr ⟨s1, h5, h4⟩, ?_⟩, ?_⟩
    · rw [h2]
      exact st_last r ho _ _ _ hx
    · rw [List.length_append, hx]
      omega
theorem FRow.short {l : Line} (lo : l.ok) {r : Rule} (ho : r.ok) {o : Option (List Int)} (h : FRow l r o) {ρ : List Int} (e : o = some ρ) : ρ.length ≤ 1512 := by
  obtain ⟨h1, h2, h3⟩ := h.yes ρ e
  obtain ⟨t, ht⟩ := (path_may lo.e1 ρ).mpr h1
  obtain ⟨w', h4, h5⟩ := pk_short lo ho ((pathP_first l r ρ (t, stOf r ρ)).mpr ⟨ht, rfl⟩)
  obtain ⟨h6, h7⟩ := (pathP_first l r w' _).mp h4
  have h8 := h3 w' ((path_may lo.e1 w').mp ⟨_, h6⟩) (by
    rw [← gone_is r ho, ← h7]
    show goneS r (stOf r ρ) = true
    rw [gone_is r ho]
    exact h2)
  omega
/-! ### such a key -/
def pkK (k : PK) : NK := .tup [lsK k.1, intsK k.2]
def pkD (k : PK) : PyData := .tuple [lsD k.1, intsD k.2]
theorem pkK_data (k : PK) : (pkK k).data = pkD k := by
  show PyData.tuple [(lsK k.1).data, (intsK k.2).data] = _
  rw [lsK_data, intsK_data]
  rfl
theorem pkK_depth (k : PK) : (pkK k).depth ≤ 3 := by
  show max (lsK k.1).depth (max (intsK k.2).depth 0) + 1 ≤ 3
  have := lsK_depth k.1
  have := intsK_depth k.2
  omega
theorem pkK_inj {s t : PK} (h : pkK s = pkK t) : s = t := by
  injection h with h
  injection h with h1 h2
  injection h2 with h2 _
  exact Prod.ext (lsK_inj h1) (intsK_inj h2)
theorem pkD_noL (k : PK) : NoL (pkD k) := .tuple _ fun d hd => by
  rcases List.mem_cons.mp hd with rfl | hd
  · exact lsD_noL _
  rcases List.mem_cons.mp hd with rfl | hd
  · exact intsD_noL _
  · cases hd
theorem lsD_shp (s : LS) : Shp 2 (lsD s) := shp_tuple fun d hd => by
  rcases List.mem_cons.mp hd with rfl | hd
  · exact shp_int _ _
  rcases List.mem_cons.mp hd with rfl | hd
  · exact shp_ints 0 _
  rcases List.mem_cons.mp hd with rfl | hd
  · exact shp_int _ _
  · cases hd
theorem pkD_shp (k : PK) : Shp 3 (pkD k) := shp_tuple fun d hd => by
  rcases List.mem_cons.mp hd with rfl | hd
  · exact lsD_shp _
  rcases List.mem_cons.mp hd with rfl | hd
  · exact shp_ints 1 _
  · cases hd
section
variable {K : PySem.W.Frag} {H : Hp}
theorem pk_at {v : V} {k : PK} (h : Dp K H v (pkD k)) : ∃ a x b, v = .ref a ∧ SqT K H a [x, .ref b] ∧ Dp K H x (lsD k.1) ∧ SqT K H b (k.2.map V.int) := by
  obtain ⟨a, xs, rfl, h1, h2⟩ := dp_tup h
  obtain ⟨x, y, rfl, h3, h4⟩ := dpAll_two h2
  obtain ⟨b, rfl, h6⟩ := dp_intsD h4
  exact ⟨a, x, b, rfl, h1, h3, h6⟩
theorem pk_mk {a b : Addr} {x : V} {k : PK} (h1 : SqT K H a [x, .ref b]) (h2 : Dp K H x (lsD k.1)) (h3 : SqT K H b (k.2.map V.int)) : Dp K H (.ref a) (pkD k) := .tup h1 (.cons h2 (.cons (ints_dp h3) .nil))
theorem pk_key {v : V} {k : PK} (h : Dp K H v (pkD k)) : KeyV K H v (pkK k) := by
  obtain ⟨a, x, b, rfl, h1, h2, h3⟩ := pk_at h
  refine ⟨⟨a, rfl⟩, by rw [pkK_data]; exact h, ?_⟩
  have := pkK_depth k
  omega
end
/-! ### what was met, in the heap: (key, the row's place, the row) -/
abbrev MS := List (PK × Addr × List Int)
def msK (ms : MS) : List (NK × V) := ms.map fun m => (pkK m.1, V.ref m.2.1)
def msM (ms : MS) : List (PK × List Int) := ms.map fun m => (m.1, m.2.2)
structure MetAt (P : Program) (w : World) (K : PySem.W.Frag) (H : Hp) (mt : Addr) (ms : MS) : Prop where
  nd : Nd P w K H mt (msK ms)
  rows : ∀ m ∈ ms, H m.2.1 = some (.lst (m.2.2.map V.int))
def WrAt (ms : MS) : Option (List Int) → V → Prop
  | none, v => v = .non
  | some ρ, v => ∃ k p, v = .ref p ∧ (k, p, ρ) ∈ ms
section
variable {P : Program} {w : World} {K : PySem.W.Frag} {H H' : Hp} {mt : Addr} {ms : MS}
theorem MetAt.same (h : MetAt P w K H mt ms) (s : Same H H') : MetAt P w K H' mt ms := ⟨h.nd.same s, fun m hm => s _ _ (h.rows m hm)⟩
theorem MetAt.keep (h : MetAt P w K H mt ms) (t : TK H H') (hd : ∀ o, H mt = some o → H' mt = some o) (hr : ∀ m ∈ ms, ∀ o, H m.2.1 = some o → H' m.2.1 = some o) : MetAt P w K H' mt ms := by
  obtain ⟨o, n⟩ := h.nd
  exact ⟨⟨o, n.keep t (hd _ n.here)⟩, fun m hm => hr m hm _ (h.rows m hm)⟩
theorem ms_val_none {ms : MS} {k : PK} : (valV (msK ms) (pkK k)).isSome = decide (k ∈ (msM ms).map (·.1)) := by
  induction ms with
  | nil => rfl
  | cons m ms ih =>
    by_cases e : m.1 = k
    · have h1 : valV (msK (m :: ms)) (pkK k) = some (.ref m.2.1) := valV_pos (p := (pkK m.1, V.ref m.2.1)) (congrArg pkK e)
      rw [h1]
      refine (decide_eq_true ?_).symm
      exact List.mem_map.mpr ⟨(m.1, m.2.2), List.mem_cons_self, e⟩
    · have h1 : valV (msK (m :: ms)) (pkK k) = valV (msK ms) (pkK k) := valV_neg (p := (pkK m.1, V.ref m.2.1)) (fun z => e (pkK_inj z))
      rw [h1, ih]
      refine decide_eq_decide.mpr ?_
      show k ∈ (msM ms).map (·.1) ↔ k ∈ m.1 :: (msM ms).map (·.1)
      rw [List.mem_cons]
      exact ⟨.inr, fun h => h.resolve_left (fun z => e z.symm)⟩
theorem ms_val {ms : MS} {k : PK} {a : Addr} {ρ : List Int} (hn : ((msM ms).map (·.1)).Nodup) (h : (k, a, ρ) ∈ ms) : valV (msK ms) (pkK k) = some (.ref a) := by
  induction ms with
  | nil => cases h
  | cons m ms ih =>
    have hn' : (m.1 :: (msM ms).map (·.1)).Nodup := hn
    rw [List.nodup_cons] at hn'
    by_cases e : m.1 = k
    · rcases List.mem_cons.mp h with h | h
      · subst h
        exact valV_pos (p := (pkK k, V.ref a)) rfl
      · refine absurd ?_ hn'.1
        exact List.mem_map.mpr ⟨((k, ρ) : PK × List Int), List.mem_map.mpr ⟨(k, a, ρ), h, rfl⟩, e.symm⟩
    · rcases List.mem_cons.mp h with h | h
      · subst h
        exact absurd rfl e
      · have h1 : valV (msK (m :: ms)) (pkK k) = valV (msK ms) (pkK k) := valV_neg (p := (pkK m.1, V.ref m.2.1)) (fun z => e (pkK_inj z))
        rw [h1]
        exact ih hn'.2 h
theorem ms_put {ms : MS} {k : PK} {a : Addr} {ρ : List Int} (h : k ∉ (msM ms).map (·.1)) : putK (msK ms) (pkK k) (.ref a) = msK (ms ++ [(k, a, ρ)]) := by
  have hv : valV (msK ms) (pkK k) = none := by
    have := ms_val_none (ms := ms) (k := k)
    rw [decide_eq_false h] at this
    exact Option.isSome_eq_false_iff.mp this |> Option.isNone_iff_eq_none.mp
  rw [putK_new _ hv]
  unfold msK
  rw [List.map_append]
  rfl
end
def spAll (P : Program) (w : World) (K : PySem.W.Frag) : Sp := fun vs H Q _ => ∃ (lp q : Addr) (l : Line) (r : Rule), vs = [.ref lp, .ref q] ∧ SqT K H lp l.vs ∧ l.ok ∧ SqT K H q r.vs ∧ r.ok ∧
  ∀ (p : Addr) (H' : Hp) (mt : Addr) (wv : V) (ms : MS) (b : BS PK), Same H H' → endP l r b → (msM ms) = b.met → MetAt P w K H' mt ms → WrAt ms b.wr wv → H' p = some (.tup [.ref mt, wv]) → H mt = none → (∀ m ∈ ms, H m.2.1 = none) → Q (.ref p) H'
def spFalse (K : PySem.W.Frag) : Sp := fun vs H Q _ => ∃ (lp q : Addr) (l : Line) (r : Rule), vs = [.ref lp, .ref q] ∧ SqT K H lp l.vs ∧ l.ok ∧ SqT K H q r.vs ∧ r.ok ∧
  ∀ (v : V) (H' : Hp) (b : BS PK), Same H H' → endP l r b → (b.wr = none → v = .non) → (∀ ρ, b.wr = some ρ → ∃ p, v = .ref p ∧ H p = none ∧ H' p = some (.lst (ρ.map V.int))) → Q v H'
/-- how far it is from the end -/
def muP (b : BS PK) : Nat := 2 * (pkMost + 1 - b.met.length) + if b.lv = [] then 0 else 1
theorem jinv_len {l : Line} (lo : l.ok) {r : Rule} (ho : r.ok) {n : Nat} {b0 b : BS PK} (B : BInv (succP l r) (goneP r) (firstP r) n b0) (J : JInv (succP l r) (goneP r) (firstP r) n b0 b) : b.met.length ≤ pkMost := by
  have := pk_few lo ho J.nd (fun k hk => by
    obtain ⟨⟨k', ρ⟩, h1, h2⟩ := List.mem_map.mp hk
    have h2' : k' = k := h2
    subst h2'
    rcases J.new k' ρ h1 with h | h
    · exact pk_ok lo ho (B.row k' ρ h).1
    · exact pk_ok lo ho h.1)
  rw [List.length_map] at this
  exact this
theorem binv_len {l : Line} (lo : l.ok) {r : Rule} (ho : r.ok) (n : Nat) : (bfsN (succP l r) (goneP r) (firstP r) n).met.length ≤ pkMost := by
  have B := bfs_inv (succ := succP l r) (firstP_gone r ho) n
  exact jinv_len (b := ⟨_, [], _⟩) lo ho B (JInv.start B)
theorem muP_lt {l : Line} (lo : l.ok) {r : Rule} (ho : r.ok) {n : Nat} (h : (bfsN (succP l r) (goneP r) (firstP r) n).lv ≠ []) : muP (bfsN (succP l r) (goneP r) (firstP r) (n + 1)) < muP (bfsN (succP l r) (goneP r) (firstP r) n) := by
  have h1 : (bfsN (succP l r) (goneP r) (firstP r) (n + 1)).met.length = (bfsN (succP l r) (goneP r) (firstP r) n).met.length + (bfsN (succP l r) (goneP r) (firstP r) (n + 1)).lv.length := step_len _
  have h2 := binv_len lo ho (n + 1)
  unfold muP
  rw [if_neg h]
  split
  · rename_i e
    rw [e] at h1
    have h1' : (bfsN (succP l r) (goneP r) (firstP r) (n + 1)).met.length = (bfsN (succP l r) (goneP r) (firstP r) n).met.length + 0 := h1
    omega
  · rename_i e
    have h3 : 0 < (bfsN (succP l r) (goneP r) (firstP r) (n + 1)).lv.length := List.length_pos_iff.mpr e
    omega
/-- while a level is gone through -/
structure ASt (P : Program) (w : World) (K : PySem.W.Frag) (H0 H : Hp) (mt lvp bh : Addr) (zs : List V) (lv0 : List PK) (ms : MS) (ys : List V) (lv : List PK) : Prop where
  same : Same H0 H
  met : MetAt P w K H mt ms
  new : ∀ m ∈ ms, H0 m.2.1 = none ∧ m.2.1 ≠ bh
  lvl : H lvp = some (.lst zs)
  lvD : DpAll K H zs (lv0.map pkD)
  beh : H bh = some (.lst ys)
  behD : DpAll K H ys (lv.map pkD)
theorem ASt.more {P : Program} {w : World} {K : PySem.W.Frag} {H0 H H' : Hp} {mt lvp bh : Addr} {zs : List V} {lv0 : List PK} {ms : MS} {ys : List V} {lv : List PK} (h : ASt P w K H0 H mt lvp bh zs lv0 ms ys lv) (s : Same H H') : ASt P w K H0 H' mt lvp bh zs lv0 ms ys lv :=
  ⟨h.same.trans s, h.met.same s, h.new, s _ _ h.lvl, DpAll.same s h.lvD, s _ _ h.beh, DpAll.same s h.behD⟩
section
variable {κ : Type} [DecidableEq κ]
theorem edges_len (gone : κ → Bool) (k : κ) : ∀ (es : List (Int × κ)) (b : BS κ) (n : Nat), b.met.length = n + b.lv.length → (es.foldl (edgeB gone k) b).met.length = n + (es.foldl (edgeB gone k) b).lv.length
  | [], b, n, h => h
  | e :: es, b, n, h => edges_len gone k es _ n (edge_lv gone k b e n h)
theorem nodes_len (succ : κ → List (Int × κ)) (gone : κ → Bool) : ∀ (ks : List κ) (b : BS κ) (n : Nat), b.met.length = n + b.lv.length → (ks.foldl (nodeB succ gone) b).met.length = n + (ks.foldl (nodeB succ gone) b).lv.length
  | [], b, n, h => h
  | k :: ks, b, n, h => nodes_len succ gone ks _ n (edges_len gone k (succ k) b n h)
end
end Bw

set_option Elab.async false
set_option linter.all false
set_option maxRecDepth 100000
set_option maxHeartbeats 4000000
namespace Bw
open PySem PySem.Spec PyProof.Rows L2
/-! ### a tuple, some times -/
theorem tuple_mul1 (l : Addr) (items : Array Value) (n : Nat) (dd : Option Addr) (sl : Array (Option Value)) (u : Tok) :
    Meets (Builtin.«tuple.__mul__» ⟨[.ref l, .int 1 u], []⟩) (fun _ R s => s.heap.get? l = some { cls := .type "tuple", dict := dd, data := .seq items n, slots := sl } ∧ R (.ok (.ret (Value.ref l))) s) :=
  .of_wp fun prog w A R s h => by
    obtain ⟨hp, g, d, tk, os⟩ := s
    obtain ⟨hl, h⟩ := h
    have f1 := AutoSeq1.idx_int
    have c1 : (items.isEmpty || (1 : Int) == 1) = true := by rw [Bool.or_eq_true]; exact .inr rfl
    wp_walk using wpAny_loadPart' hl
    exact ⟨_, rfl, h⟩
def rRepU (K : PySem.W.Frag) : R2 := fun x y H Q => ∃ (l : Addr) (k : Nat) (xs : List V), x = .ref l ∧ y = .int k ∧ SqT K H l xs ∧ xs ≠ [] ∧ 1 ≤ k ∧ k ≤ 1000 ∧ xs.length ≤ 1000 ∧ ∀ p H', Same H H' → SqT K H' p (List.replicate k xs).flatten → Q (.ref p) H'
theorem op_repU {X : Cx} : OpR X (binaryOp .Mult) (rRepU X.K) := by
  intro pins s σ H x y v u Q I rx ry h
  obtain ⟨l, k, xs, rfl, rfl, hT, hne, h1, h2, hz, q⟩ := h
  by_cases hk : k = 1
  · subst hk
    cases rx
    obtain ⟨t, rfl⟩ := ry
    obtain ⟨its, r, ⟨⟨cls, dd, data, sl⟩, ho, hc, n, hd⟩, hs⟩ := I.tuple hT
    simp only at hc hd
    subst hc hd
    refine wpAny_binaryOp_repeat_ref (T := "tuple") (U := "int") (by decide) ⟨_, ho, rfl⟩ (fun s' => typeIs_int s' _ t) noFill_tuple_mul F.fills_int_mul F.slot_int_rmul repeat_tuple F.slot_int_index.lookup
      (call_meets F.slot_int_rmul (typeIs_int s _ t) F.entry_int_rmul (F.args_int_rmul_2 _ _) (int_rmul_tuple _ t l its.toArray n dd sl)
        ⟨ho, rfl, ⟨_, ho, rfl⟩, call_meets F.slot_tuple_mul ⟨_, ho, rfl⟩ F.entry_tuple_mul (F.args_tuple_mul_2 _ _) (tuple_mul1 l its.toArray n dd sl t) ⟨ho, ?_⟩⟩)
    exact ⟨.ref l, H, I, rfl, q l H (Same.refl H) (by rw [List.replicate_one, List.flatten_singleton]; exact hT)⟩
  · exact op_repT pins s σ H (.ref l) (.int k) v u Q I rx ry ⟨l, k, xs, rfl, rfl, hT, hne, by omega, by omega, hz, fun p hp => q p _ (Same.newB hp) (SqT.of (by rw [upd_same]; rfl))⟩
/-! ### the law's own watcher -/
def r12 : Rule → Rule
  | .since _ => .since 12
  | .few a b => .few a b
theorem r12_ok {r : Rule} (ho : r.ok) : (r12 r).ok := by
  cases r with
  | since n => exact ⟨by omega, by omega⟩
  | few a b => exact ho
theorem r12_first (r : Rule) : firstS (r12 r) = firstS r := by cases r <;> rfl
theorem gone12 {r : Rule} (ho : r.ok) (w : List Int) : goneS r (stOf (r12 r) w) = goneH r w := by
  cases r with
  | since n =>
    have h : 1 ≤ n ∧ n ≤ 12 := ho
    rw [← gone_is (.since n) ho]
    show goneS (.since n) (stOf (.since 12) w) = goneS (.since n) (stOf (.since n) w)
    rw [since_is, since_is]
    show decide ((n : Int) ≤ ((min 12 (quiet w) : Nat) : Int)) = decide ((n : Int) ≤ ((min n (quiet w) : Nat) : Int))
    exact decide_eq_decide.mpr (by omega)
  | few a b => exact gone_is (.few a b) ho w
def spKeeps (K : PySem.W.Frag) : Sp := fun vs H Q _ => ∃ (q t : Addr) (m : Int) (r : Rule) (st : List Int), vs = [.ref q, .ref t, .int m] ∧ SqT K H q r.vs ∧ r.ok ∧ SqT K H t (st.map V.int) ∧ StOk (r12 r) st ∧
  ∀ p H', Same H H' → SqT K H' p ((nextS (r12 r) st m).map V.int) → Q (.ref p) H'
def spTells (K : PySem.W.Frag) : Sp := fun vs H Q _ => ∃ (q t : Addr) (r : Rule) (st : List Int), vs = [.ref q, .ref t] ∧ SqT K H q r.vs ∧ r.ok ∧ SqT K H t (st.map V.int) ∧ StOk (r12 r) st ∧ Q (.bl (goneS r st)) H
/-! ### the law's own states: how many come in how many moments (in the place of the ages) -/
def sendV (l : Line) (s : LS) : List (List Nat × Nat) := if s.ph = 0 then ((List.range (l.late + 1)).map fun d => (s.ages.set d (s.ages.getD d 0 + 1), 0)) ++ (if s.run < l.lost then [(s.ages, s.run + 1)] else []) else [(s.ages, s.run)]
def movesV (l : Line) (s : LS) : List (Nat × LS) := (sendV l s).map fun b => (b.1.headD 0, ⟨(s.ph + 1) % l.each, b.1.tail ++ [0], b.2⟩)
def vFirst (l : Line) : LS := ⟨0, List.replicate (l.late + 1) 0, 0⟩
def succVL (l : Line) (s : LS) : List (Int × LS) := (movesV l s).map fun q => ((q.1 : Int), q.2)
def succV (l : Line) (r : Rule) (k : PK) : List (Int × PK) := (movesV l k.1).map fun q => ((q.1 : Int), (q.2, nextS (r12 r) k.2 (q.1 : Int)))
def firstV (l : Line) (r : Rule) : PK := (vFirst l, firstS r)
def endV (l : Line) (r : Rule) (b : BS PK) : Prop := BEnd (succV l r) (goneP r) (firstV l r) b
structure VSok (l : Line) (s : LS) : Prop where
  ph : s.ph < l.each
  run : s.run ≤ l.lost
  len : s.ages.length = l.late + 1
  bd : ∀ j, s.ages.getD j 0 ≤ l.late - j
theorem getD_set {l : List Nat} {i j v : Nat} : (l.set i v).getD j 0 = if i = j ∧ j < l.length then v else l.getD j 0 := by
  rw [List.getD_eq_getElem?_getD, List.getD_eq_getElem?_getD]
  by_cases e : i = j
  · subst e
    by_cases h : i < l.length
    · rw [List.getElem?_set_self h, if_pos ⟨rfl, h⟩]
      rfl
    · rw [if_neg (fun z => h z.2), List.getElem?_eq_none (by rw [List.length_set]; omega), List.getElem?_eq_none (by omega)]
  · rw [List.getElem?_set_ne e, if_neg (fun z => e z.1)]
theorem getD_shift {l : List Nat} {n j : Nat} (h : l.length = n + 1) : (l.tail ++ [0]).getD j 0 = l.getD (j + 1) 0 := by
  cases l with
  | nil => simp at h
  | cons a t =>
    show (t ++ [0]).getD j 0 = (a :: t).getD (j + 1) 0
    rw [List.getD_eq_getElem?_getD, List.getD_eq_getElem?_getD, List.getElem?_cons_succ]
    by_cases hj : j < t.length
    · rw [List.getElem?_append_left hj]
    · rw [List.getElem?_eq_none (l := t) (by omega)]
      by_cases e : j = t.length
      · subst e
        rw [List.getElem?_append_right (Nat.le_refl _), Nat.sub_self]
        rfl
      · rw [List.getElem?_eq_none (by rw [List.length_append]; show t.length + 1 ≤ j; omega)]
theorem headD_getD (l : List Nat) : l.headD 0 = l.getD 0 0 := by cases l <;> rfl
theorem sendV_mem {l : Line} {s : LS} {row : List Nat} {run : Nat} : (row, run) ∈ sendV l s ↔ (s.ph ≠ 0 ∧ row = s.ages ∧ run = s.run) ∨ (s.ph = 0 ∧ ((∃ d, d ≤ l.late ∧ row = s.ages.set d (s.ages.getD d 0 + 1) ∧ run = 0) ∨ (s.run < l.lost ∧ row = s.ages ∧ run = s.run + 1))) := by
  unfold sendV
  by_cases h : s.ph = 0
  · rw [if_pos h, List.mem_append]
    constructor
    · rintro (hm | hm)
      · obtain ⟨d, hd, e⟩ := List.mem_map.mp hm
        injection e with e1 e2
        have := List.mem_range.mp hd
        exact .inr ⟨h, .inl ⟨d, by omega, e1.symm, e2.symm⟩⟩
      · split at hm
        · rename_i hr
          rcases List.mem_cons.mp hm with e | hm
          · injection e with e1 e2
            exact .inr ⟨h, .inr ⟨hr, e1, e2⟩⟩
          · cases hm
        · cases hm
    · rintro (⟨h1, _⟩ | ⟨_, ⟨d, hd, rfl, rfl⟩ | ⟨hr, rfl, rfl⟩⟩)
      · exact absurd h h1
      · exact .inl (List.mem_map.mpr ⟨d, List.mem_range.mpr (by omega), rfl⟩)
      · refine .inr ?_
        rw [if_pos hr]
        exact List.mem_cons_self
  · rw [if_neg h]
    constructor
    · intro hm
      rcases List.mem_cons.mp hm with e | hm
      · injection e with e1 e2
        exact .inl ⟨h, e1, e2⟩
      · cases hm
    · rintro (⟨_, rfl, rfl⟩ | ⟨h1, _⟩)
      · exact List.mem_cons_self
      · exact absurd h1 h
theorem sendV_ok {l : Line} {s : LS} (ok : VSok l s) {row : List Nat} {run : Nat} (h : (row, run) ∈ sendV l s) : row.length = l.late + 1 ∧ run ≤ l.lost ∧ ∀ j, row.getD j 0 ≤ l.late - j + 1 := by
  rcases sendV_mem.mp h with ⟨_, rfl, rfl⟩ | ⟨_, ⟨d, hd, rfl, rfl⟩ | ⟨hr, rfl, rfl⟩⟩
  · exact ⟨ok.len, ok.run, fun j => by have := ok.bd j; omega⟩
  · refine ⟨by rw [List.length_set]; exact ok.len, Nat.zero_le _, fun j => ?_⟩
    rw [getD_set]
    have := ok.bd j
    split
    · rename_i e
      have := ok.bd d
      rw [e.1] at this ⊢
      omega
    · omega
  · exact ⟨ok.len, hr, fun j => by have := ok.bd j; omega⟩
theorem movesV_ok {l : Line} (he : 1 ≤ l.each) {s s' : LS} {c : Nat} (ok : VSok l s) (h : (c, s') ∈ movesV l s) : VSok l s' ∧ c ≤ l.late + 1 := by
  obtain ⟨⟨row, run⟩, hb, e⟩ := List.mem_map.mp h
  injection e with e1 e2
  obtain ⟨h1, h2, h3⟩ := sendV_ok ok hb
  subst e2
  refine ⟨⟨Nat.mod_lt _ (by omega), h2, ?_, fun j => ?_⟩, ?_⟩
  · show (row.tail ++ [0]).length = l.late + 1
    rw [List.length_append, List.length_tail, h1]
    rfl
  · show (row.tail ++ [0]).getD j 0 ≤ l.late - j
    rw [getD_shift h1]
    by_cases hj : j + 1 ≤ l.late
    · have := h3 (j + 1)
      omega
    · rw [List.getD_eq_getElem?_getD, List.getElem?_eq_none (by omega)]
      exact Nat.zero_le _
  · have := h3 0
    have e1' : row.headD 0 = c := e1
    rw [headD_getD] at e1'
    omega
theorem vFirst_ok {l : Line} (he : 1 ≤ l.each) : VSok l (vFirst l) := by
  refine ⟨by show 0 < l.each; omega, Nat.zero_le _, List.length_replicate, fun j => ?_⟩
  show (List.replicate (l.late + 1) 0).getD j 0 ≤ _
  rw [List.getD_eq_getElem?_getD, List.getElem?_replicate]
  split <;> exact Nat.zero_le _
/-- what comes yet -/
def dueW (due : List Nat) (v : List Int) : Prop := ∀ t, t < v.length → v[t]? = some ((due.getD t 0 : Nat) : Int)
def RV (l : Line) (P : List (Nat × Nat)) (due : List Nat) : Prop := due.length = l.late + 1 ∧ ∀ t, due.getD t 0 = cntR P t
theorem accD_V (l : Line) (he : 1 ≤ l.each) (v : List Int) : ∀ (u : List Int) (s : LS) (P : List (Nat × Nat)), s.ph < l.each → RV l P s.ages → (AccD l (T0 l s.ph) P s.run u v ↔ ∃ s', PathK (succVL l) s u s' ∧ dueW s'.ages v)
  | [], s, P, hp, R => by
    have h := accDG_iff v P
    constructor
    · intro hA
      refine ⟨s, rfl, fun t ht => ?_⟩
      rw [R.2 t]
      exact h.mp hA t ht
    · rintro ⟨s', h1, h2⟩
      have h1' : s = s' := h1
      subst h1'
      refine h.mpr fun t ht => ?_
      rw [← R.2 t]
      exact h2 t ht
  | m :: u, s, P, hp, R => by
    have htn := T0_next (l := l) (ph := s.ph) he hp
    have step : ∀ (P' : List (Nat × Nat)) (row : List Nat) (run' : Nat), row.length = l.late + 1 → (∀ t, row.getD t 0 = cntR P' t) → RV l (tick P') (row.tail ++ [0]) ∧ ((row.headD 0 : Nat) : Int) = (cnt0 P' : Int) := by
      intro P' row run' h1 h2
      refine ⟨⟨by rw [List.length_append, List.length_tail, h1]; rfl, fun t => ?_⟩, ?_⟩
      · rw [getD_shift h1, h2, cntR_tick]
      · rw [headD_getD, h2 0, cntR_zero]
    constructor
    · rintro ⟨P', run', t0', hs, rfl, hA⟩
      have key : ∃ row, (row, run') ∈ sendV l s ∧ row.length = l.late + 1 ∧ (∀ t, row.getD t 0 = cntR P' t) ∧ t0' = T0 l ((s.ph + 1) % l.each) := by
        generalize hT : T0 l s.ph = t0 at hs
        generalize hR : s.run = run at hs
        cases hs with
        | wait =>
          have hph : 0 < s.ph := by
            rcases Nat.eq_zero_or_pos s.ph with z | z
            · rw [z] at hT
              have : (0 : Nat) = _ + 1 := hT
              omega
            · exact z
          refine ⟨s.ages, sendV_mem.mpr (.inl ⟨by omega, rfl, hR.symm⟩), R.1, R.2, ?_⟩
          have := htn.2 hph
          omega
        | lose _ _ hl =>
          have hph : s.ph = 0 := by
            unfold T0 at hT
            split at hT
            · assumption
            · omega
          exact ⟨s.ages, sendV_mem.mpr (.inr ⟨hph, .inr ⟨by omega, rfl, by rw [hR]⟩⟩), R.1, R.2, (htn.1 hph).symm⟩
        | keep _ _ d hd =>
          have hph : s.ph = 0 := by
            unfold T0 at hT
            split at hT
            · assumption
            · omega
          refine ⟨s.ages.set d (s.ages.getD d 0 + 1), sendV_mem.mpr (.inr ⟨hph, .inl ⟨d, hd, rfl, rfl⟩⟩), by rw [List.length_set]; exact R.1, fun t => ?_, (htn.1 hph).symm⟩
          rw [getD_set, cntR_snoc, R.2 d, R.2 t]
          by_cases e : d = t
          · rw [if_pos ⟨e, by rw [R.1]; omega⟩, if_pos e, e]
          · rw [if_neg (fun z => e z.1), if_neg e, Nat.add_zero]
      obtain ⟨row, k1, k2, k3, k4⟩ := key
      obtain ⟨R', hc⟩ := step P' row run' k2 k3
      subst k4
      obtain ⟨s', h1, h2⟩ := (accD_V l he v u ⟨(s.ph + 1) % l.each, row.tail ++ [0], run'⟩ (tick P') (Nat.mod_lt _ (by omega)) R').mp hA
      refine ⟨s', ⟨⟨(s.ph + 1) % l.each, row.tail ++ [0], run'⟩, ?_, h1⟩, h2⟩
      rw [← hc]
      exact List.mem_map.mpr ⟨(row.headD 0, _), List.mem_map.mpr ⟨(row, run'), k1, rfl⟩, rfl⟩
    · rintro ⟨s', ⟨s1, h1, h2⟩, h3⟩
      obtain ⟨⟨c, s2⟩, h4, h5⟩ := List.mem_map.mp h1
      injection h5 with h5 h6
      have h6' : s2 = s1 := h6
      subst h6'
      obtain ⟨⟨row, run'⟩, hb, e⟩ := List.mem_map.mp h4
      injection e with e1 e2
      have e1' : row.headD 0 = c := e1
      subst e1' e2
      have key : ∃ P', Send l (T0 l s.ph) P s.run P' run' (T0 l ((s.ph + 1) % l.each)) ∧ row.length = l.late + 1 ∧ ∀ t, row.getD t 0 = cntR P' t := by
        rcases sendV_mem.mp hb with ⟨hph, rfl, rfl⟩ | ⟨hph, ⟨d, hd, rfl, rfl⟩ | ⟨hr, rfl, rfl⟩⟩
        · refine ⟨P, ?_, R.1, R.2⟩
          rw [htn.2 (by omega)]
          exact .wait _ _ _
        · refine ⟨P ++ [(0, d)], ?_, by rw [List.length_set]; exact R.1, fun t => ?_⟩
          · rw [htn.1 hph, hph]
            exact .keep _ _ d hd
          · rw [getD_set, cntR_snoc, R.2 d, R.2 t]
            by_cases e : d = t
            · rw [if_pos ⟨e, by rw [R.1]; omega⟩, if_pos e, e]
            · rw [if_neg (fun z => e z.1), if_neg e, Nat.add_zero]
        · refine ⟨P, ?_, R.1, R.2⟩
          rw [htn.1 hph, hph]
          exact .lose _ _ hr
      obtain ⟨P', k1, k2, k3⟩ := key
      obtain ⟨R', hc⟩ := step P' row run' k2 k3
      refine ⟨P', run', _, k1, ?_, (accD_V l he v u ⟨(s.ph + 1) % l.each, row.tail ++ [0], run'⟩ (tick P') (Nat.mod_lt _ (by omega)) R').mpr ⟨s', h2, h3⟩⟩
      rw [← hc]
      exact h5.symm
theorem pathV_may {l : Line} (he : 1 ≤ l.each) (u v : List Int) : (∃ s', PathK (succVL l) (vFirst l) u s' ∧ dueW s'.ages v) ↔ MayH l u v := by
  rw [← accD_may l he]
  refine (accD_V l he v u (vFirst l) [] (by show 0 < l.each; omega) ⟨List.length_replicate, fun t => ?_⟩).symm
  show (List.replicate (l.late + 1) 0).getD t 0 = 0
  rw [List.getD_eq_getElem?_getD, List.getElem?_replicate]
  split <;> rfl
theorem pathV (l : Line) (r : Rule) (t : PK) : ∀ (w : List Int) (s : LS) (st : List Int), PathK (succV l r) (s, st) w t ↔ PathK (succVL l) s w t.1 ∧ t.2 = w.foldl (nextS (r12 r)) st
  | [], s, st => by
    constructor
    · intro h
      have h' : (s, st) = t := h
      subst h'
      exact ⟨rfl, rfl⟩
    · rintro ⟨h1, h2⟩
      have h1' : s = t.1 := h1
      have h2' : t.2 = st := h2
      show (s, st) = t
      rw [h1', ← h2']
  | m :: w, s, st => by
    constructor
    · rintro ⟨⟨s', st'⟩, h1, h2⟩
      obtain ⟨⟨c, s1⟩, h3, h4⟩ := List.mem_map.mp h1
      injection h4 with h4 h5
      injection h5 with h5 h6
      have h4' : (c : Int) = m := h4
      have h5' : s1 = s' := h5
      have h6' : nextS (r12 r) st (c : Int) = st' := h6
      subst h4' h5' h6'
      obtain ⟨h7, h8⟩ := (pathV l r t w s1 _).mp h2
      exact ⟨⟨s1, List.mem_map.mpr ⟨(c, s1), h3, rfl⟩, h7⟩, h8⟩
    · rintro ⟨⟨s1, h3, h7⟩, h8⟩
      obtain ⟨⟨c, s2⟩, h4, h5⟩ := List.mem_map.mp h3
      injection h5 with h5 h6
      have h6' : s2 = s1 := h6
      have h5' : (c : Int) = m := h5
      subst h6' h5'
      exact ⟨(s2, nextS (r12 r) st (c : Int)), List.mem_map.mpr ⟨(c, s2), h4, rfl⟩, (pathV l r t w s2 _).mpr ⟨h7, h8⟩⟩
theorem pathV_first (l : Line) (r : Rule) (w : List Int) (t : PK) : PathK (succV l r) (firstV l r) w t ↔ PathK (succVL l) (vFirst l) w t.1 ∧ t.2 = stOf (r12 r) w := by
  have := pathV l r t w (vFirst l) (firstS r)
  unfold firstV stOf
  rw [r12_first]
  exact this
theorem pathVL_ok {l : Line} (he : 1 ≤ l.each) : ∀ {w : List Int} {s t : LS}, VSok l s → PathK (succVL l) s w t → VSok l t
  | [], s, t, h, p => by
    have p' : s = t := p
    subst p'
    exact h
  | m :: w, s, t, h, p => by
    obtain ⟨s', h1, h3⟩ := p
    obtain ⟨⟨c, s2⟩, h4, h5⟩ := List.mem_map.mp h1
    injection h5 with h5 h6
    have h6' : s2 = s' := h6
    subst h6'
    exact pathVL_ok he (movesV_ok he h h4).1 h3
theorem dueW_nil (due : List Nat) : dueW due [] := fun t ht => absurd ht (Nat.not_lt_zero _)
theorem firstV_gone (l : Line) (r : Rule) (ho : r.ok) : goneP r (firstV l r) = false := firstP_gone r ho
theorem endV_row {l : Line} (lo : l.ok) {r : Rule} (ho : r.ok) {b : BS PK} (h : endV l r b) : FRow l r b.wr := by
  have R := BEnd.res (firstV_gone l r ho) h
  refine ⟨fun e w hw => ?_, fun ρ e => ?_⟩
  · obtain ⟨t, ht, _⟩ := (pathV_may lo.e1 w []).mpr hw
    have := R.wr0 e w (t, stOf (r12 r) w) ((pathV_first l r w _).mpr ⟨ht, rfl⟩)
    rw [← gone12 ho]
    exact this
  · obtain ⟨⟨k, h1, h2⟩, h3⟩ := R.wr1 ρ e
    obtain ⟨h4, h5⟩ := (pathV_first l r ρ k).mp h1
    refine ⟨(pathV_may lo.e1 ρ []).mp ⟨_, h4, dueW_nil _⟩, ?_, fun w hw hg => ?_⟩
    · rw [← gone12 ho, ← h5]
      exact h2
    · obtain ⟨t, ht, _⟩ := (pathV_may lo.e1 w []).mpr hw
      refine h3 w (t, stOf (r12 r) w) ((pathV_first l r w _).mpr ⟨ht, rfl⟩) ?_
      show goneS r (stOf (r12 r) w) = true
      rw [gone12 ho]
      exact hg
theorem FRow.alike {l : Line} {r : Rule} {o o' : Option (List Int)} (h : FRow l r o) (h' : FRow l r o') : (o = none ↔ o' = none) ∧ ∀ ρ ρ', o = some ρ → o' = some ρ' → ρ.length = ρ'.length := by
  have one : ∀ {o o' : Option (List Int)}, FRow l r o → FRow l r o' → o = none → o' = none := fun {o o'} h h' e => by
    cases ho : o' with
    | none => rfl
    | some ρ =>
      obtain ⟨h1, h2, _⟩ := h'.yes ρ ho
      rw [h.no e ρ h1] at h2
      cases h2
  refine ⟨⟨one h h', one h' h⟩, fun ρ ρ' e e' => ?_⟩
  obtain ⟨h1, h2, h3⟩ := h.yes ρ e
  obtain ⟨g1, g2, g3⟩ := h'.yes ρ' e'
  have := h3 ρ' g1 g2
  have := g3 ρ h1 h2
  omega
/-! ### no more than so many -/
def vsCode (s : LS) : Nat := ((((s.ph * 4 + s.ages.getD 0 0) * 3 + s.ages.getD 1 0) * 2 + s.ages.getD 2 0) * 3) + s.run
theorem VSok.at3 {l : Line} (lo : l.ok) {s : LS} (h : VSok l s) : s.ages.getD 0 0 ≤ 3 ∧ s.ages.getD 1 0 ≤ 2 ∧ s.ages.getD 2 0 ≤ 1 ∧ ∀ j, 3 ≤ j → s.ages.getD j 0 = 0 := by
  have h3 := lo.l3
  refine ⟨by have := h.bd 0; omega, by have := h.bd 1; omega, by have := h.bd 2; omega, fun j hj => ?_⟩
  have := h.bd j
  omega
theorem vsCode_lt {l : Line} (lo : l.ok) {s : LS} (h : VSok l s) : vsCode s < 288 := by
  obtain ⟨a0, a1, a2, _⟩ := h.at3 lo
  have := h.ph
  have := lo.e4
  have := h.run
  have := lo.s2
  unfold vsCode
  omega
theorem vsCode_inj {l : Line} (lo : l.ok) {s t : LS} (hs : VSok l s) (ht : VSok l t) (e : vsCode s = vsCode t) : s = t := by
  obtain ⟨a0, a1, a2, a3⟩ := hs.at3 lo
  obtain ⟨b0, b1, b2, b3⟩ := ht.at3 lo
  have := hs.run
  have := ht.run
  have := lo.s2
  unfold vsCode at e
  have e0 : s.run = t.run := by omega
  have e1 : s.ages.getD 2 0 = t.ages.getD 2 0 := by omega
  have e2 : s.ages.getD 1 0 = t.ages.getD 1 0 := by omega
  have e3 : s.ages.getD 0 0 = t.ages.getD 0 0 := by omega
  have e4 : s.ph = t.ph := by omega
  have e5 : s.ages = t.ages := by
    refine List.ext_getElem? fun j => ?_
    have hj : s.ages.getD j 0 = t.ages.getD j 0 := by
      match j with
      | 0 => exact e3
      | 1 => exact e2
      | 2 => exact e1
      | j + 3 => rw [a3 _ (by omega), b3 _ (by omega)]
    by_cases hlt : j < s.ages.length
    · have hlt' : j < t.ages.length := by rw [ht.len, ← hs.len]; exact hlt
      rw [List.getD_eq_getElem?_getD, List.getD_eq_getElem?_getD, List.getElem?_eq_getElem hlt, List.getElem?_eq_getElem hlt'] at hj
      rw [List.getElem?_eq_getElem hlt, List.getElem?_eq_getElem hlt']
      exact congrArg some hj
    · rw [List.getElem?_eq_none (by omega), List.getElem?_eq_none (by rw [ht.len, ← hs.len]; omega)]
  cases s
  cases t
  simp only [LS.mk.injEq]
  exact ⟨e4, e5, e0⟩
def pvCode (k : PK) : Nat := vsCode k.1 * 7776 + codeL 6 (k.2.map Int.toNat)
def pvCodeS (k : PK) : Nat := vsCode k.1 * 13 + (k.2.headD 0).toNat
theorem pv_few {l : Line} (lo : l.ok) {r : Rule} (ho : r.ok) {ks : List PK} (hn : ks.Nodup) (h : ∀ k ∈ ks, VSok l k.1 ∧ KpOk r k.2) : ks.length ≤ pkMost := by
  cases r with
  | since n =>
    refine Nat.le_trans (nodup_code (B := 288 * 13) pvCodeS hn (fun k hk => ?_) (fun k hk k' hk' e => ?_)) (by decide)
    · obtain ⟨h1, h2⟩ := h k hk
      have h3 := vsCode_lt lo h1
      obtain ⟨z, hz⟩ := h2.st
      have h4 := h2.small z (by rw [hz]; exact List.mem_cons_self)
      unfold pvCodeS
      rw [hz]
      show vsCode k.1 * 13 + z.toNat < 288 * 13
      omega
    · obtain ⟨h1, h2⟩ := h k hk
      obtain ⟨g1, g2⟩ := h k' hk'
      obtain ⟨z, hz⟩ := h2.st
      obtain ⟨z', hz'⟩ := g2.st
      have h4 := h2.small z (by rw [hz]; exact List.mem_cons_self)
      have g4 := g2.small z' (by rw [hz']; exact List.mem_cons_self)
      unfold pvCodeS at e
      rw [hz, hz'] at e
      have e' : vsCode k.1 * 13 + z.toNat = vsCode k'.1 * 13 + z'.toNat := e
      have e1 : vsCode k.1 = vsCode k'.1 := by omega
      refine Prod.ext (vsCode_inj lo h1 g1 e1) ?_
      rw [hz, hz']
      congr 1
      omega
  | few a b =>
    have five : ∀ k ∈ ks, ∀ m ∈ k.2, 0 ≤ m ∧ m ≤ 4 := fun k hk m hm => by
      obtain ⟨h1, h2⟩ := h k hk
      refine ⟨(h2.small m hm).1, ?_⟩
      rcases h2.five with ⟨n, e⟩ | h5
      · cases e
      · exact h5 m hm
    have dig : ∀ k ∈ ks, ∀ x ∈ k.2.map Int.toNat, x + 1 < 6 := fun k hk x hx => by
      obtain ⟨m, hm, rfl⟩ := List.mem_map.mp hx
      have := five k hk m hm
      omega
    have lt : ∀ k ∈ ks, codeL 6 (k.2.map Int.toNat) < 7776 := fun k hk => codeL_lt (b := 6) (by omega) _ 5 (by rw [List.length_map]; exact (h k hk).2.len) (dig k hk)
    refine nodup_code (B := pkMost) pvCode hn (fun k hk => ?_) (fun k hk k' hk' e => ?_)
    · have h3 := vsCode_lt lo (h k hk).1
      have h4 := lt k hk
      unfold pvCode
      show _ < 11664000
      omega
    · have h4 := lt k hk
      have h5 := lt k' hk'
      unfold pvCode at e
      have e1 : vsCode k.1 = vsCode k'.1 := by omega
      have e2 : codeL 6 (k.2.map Int.toNat) = codeL 6 (k'.2.map Int.toNat) := by omega
      refine Prod.ext (vsCode_inj lo (h k hk).1 (h k' hk').1 e1) ?_
      exact toNat_inj (fun m hm => (five k hk m hm).1) (fun m hm => (five k' hk' m hm).1) (codeL_inj (dig k hk) (dig k' hk') e2)
theorem pv_ok {l : Line} (lo : l.ok) {r : Rule} (ho : r.ok) {w : List Int} {k : PK} (h : PathK (succV l r) (firstV l r) w k) : VSok l k.1 ∧ KpOk (r12 r) k.2 := by
  obtain ⟨h1, h2⟩ := (pathV_first l r w k).mp h
  refine ⟨pathVL_ok lo.e1 (vFirst_ok lo.e1) h1, ?_⟩
  rw [h2]
  have hm := may_four lo ((pathV_may lo.e1 w []).mp ⟨_, h1, dueW_nil _⟩)
  rw [List.append_nil] at hm
  exact kp_ok (r12_ok ho) hm
theorem vjinv_len {l : Line} (lo : l.ok) {r : Rule} (ho : r.ok) {n : Nat} {b0 b : BS PK} (B : BInv (succV l r) (goneP r) (firstV l r) n b0) (J : JInv (succV l r) (goneP r) (firstV l r) n b0 b) : b.met.length ≤ pkMost := by
  have := pv_few lo (r12_ok ho) J.nd (fun k hk => by
    obtain ⟨⟨k', ρ⟩, h1, h2⟩ := List.mem_map.mp hk
    have h2' : k' = k := h2
    subst h2'
    rcases J.new k' ρ h1 with h | h
    · exact pv_ok lo ho (B.row k' ρ h).1
    · exact pv_ok lo ho h.1)
  rw [List.length_map] at this
  exact this
theorem vbinv_len {l : Line} (lo : l.ok) {r : Rule} (ho : r.ok) (n : Nat) : (bfsN (succV l r) (goneP r) (firstV l r) n).met.length ≤ pkMost := by
  have B := bfs_inv (succ := succV l r) (firstV_gone l r ho) n
  exact vjinv_len (b := ⟨_, [], _⟩) lo ho B (JInv.start B)
theorem muV_lt {l : Line} (lo : l.ok) {r : Rule} (ho : r.ok) {n : Nat} (h : (bfsN (succV l r) (goneP r) (firstV l r) n).lv ≠ []) : muP (bfsN (succV l r) (goneP r) (firstV l r) (n + 1)) < muP (bfsN (succV l r) (goneP r) (firstV l r) n) := by
  have h1 : (bfsN (succV l r) (goneP r) (firstV l r) (n + 1)).met.length = (bfsN (succV l r) (goneP r) (firstV l r) n).met.length + (bfsN (succV l r) (goneP r) (firstV l r) (n + 1)).lv.length := step_len _
  have h2 := vbinv_len lo ho (n + 1)
  unfold muP
  rw [if_neg h]
  split
  · rename_i e
    rw [e] at h1
    have h1' : (bfsN (succV l r) (goneP r) (firstV l r) (n + 1)).met.length = (bfsN (succV l r) (goneP r) (firstV l r) n).met.length + 0 := h1
    omega
  · rename_i e
    have h3 : 0 < (bfsN (succV l r) (goneP r) (firstV l r) (n + 1)).lv.length := List.length_pos_iff.mpr e
    omega
def spLMoves (K : PySem.W.Frag) : Sp := fun vs H Q _ => ∃ (lp : Addr) (v : V) (l : Line) (s : LS), vs = [.ref lp, v] ∧ SqT K H lp l.vs ∧ l.ok ∧ Dp K H v (lsD s) ∧ VSok l s ∧
  ∀ p H' xs, Same H H' → H p = none → H' p = some (.lst xs) → DpAll K H' xs ((movesV l s).map mvD) → Q (.ref p) H'
def WrN : Option (List Int) → Nat → Prop
  | none, n => n = 0
  | some ρ, n => n = ρ.length ∧ 1 ≤ n
def trueK (ks : List PK) : List (NK × V) := ks.map fun k => (pkK k, V.bl true)
def spStand (P : Program) (w : World) (K : PySem.W.Frag) : Sp := fun vs H Q _ => ∃ (lp q : Addr) (l : Line) (r : Rule), vs = [.ref lp, .ref q] ∧ SqT K H lp l.vs ∧ l.ok ∧ SqT K H q r.vs ∧ r.ok ∧
  ∀ (p : Addr) (H' : Hp) (mt : Addr) (n : Nat) (b : BS PK), Same H H' → endV l r b → Nd P w K H' mt (trueK (b.met.map (·.1))) → WrN b.wr n → H' p = some (.tup [.int n, .ref mt]) → H mt = none → Q (.ref p) H'
/-- while a level is gone through -/
structure AVt (P : Program) (w : World) (K : PySem.W.Frag) (H0 H : Hp) (mt lvp bh : Addr) (zs : List V) (lv0 ks : List PK) (ys : List V) (lv : List PK) : Prop where
  same : Same H0 H
  met : Nd P w K H mt (trueK ks)
  lvl : H lvp = some (.lst zs)
  lvD : DpAll K H zs (lv0.map pkD)
  beh : H bh = some (.lst ys)
  behD : DpAll K H ys (lv.map pkD)
theorem AVt.more {P : Program} {w : World} {K : PySem.W.Frag} {H0 H H' : Hp} {mt lvp bh : Addr} {zs : List V} {lv0 ks : List PK} {ys : List V} {lv : List PK} (h : AVt P w K H0 H mt lvp bh zs lv0 ks ys lv) (s : Same H H') : AVt P w K H0 H' mt lvp bh zs lv0 ks ys lv :=
  ⟨h.same.trans s, h.met.same s, s _ _ h.lvl, DpAll.same s h.lvD, s _ _ h.beh, DpAll.same s h.behD⟩
theorem trueK_val {ks : List PK} {k : PK} : (valV (trueK ks) (pkK k)).isSome = decide (k ∈ ks) := by
  induction ks with
  | nil => rfl
  | cons m ks ih =>
    by_cases e : m = k
    · have h1 : valV (trueK (m :: ks)) (pkK k) = some (.bl true) := valV_pos (p := (pkK m, V.bl true)) (congrArg pkK e)
      rw [h1]
      exact (decide_eq_true (List.mem_cons.mpr (.inl e.symm))).symm
    · have h1 : valV (trueK (m :: ks)) (pkK k) = valV (trueK ks) (pkK k) := valV_neg (p := (pkK m, V.bl true)) (fun z => e (pkK_inj z))
      rw [h1, ih]
      refine decide_eq_decide.mpr ?_
      rw [List.mem_cons]
      exact ⟨.inr, fun h => h.resolve_left (fun z => e z.symm)⟩
theorem trueK_put {ks : List PK} {k : PK} (h : k ∉ ks) : putK (trueK ks) (pkK k) (V.bl true) = trueK (ks ++ [k]) := by
  unfold trueK
  rw [putK_set pkK (fun a b => pkK_inj) (V.bl true) ks k]
  unfold addS
  rw [if_neg h]
theorem may_prefix {l : Line} (he : 1 ≤ l.each) {u x : List Int} (h : MayH l (u ++ x) []) : MayH l u [] := by
  obtain ⟨t, ht⟩ := (path_may he (u ++ x)).mpr h
  obtain ⟨s1, h1, _⟩ := (path_app l t x u _).mp ht
  exact (path_may he u).mp ⟨s1, h1⟩
theorem FRow.told {l : Line} (he : 1 ≤ l.each) {r : Rule} {o : Option (List Int)} (h : FRow l r o) {ρ : List Int} (e : o = some ρ) (h1 : 1 ≤ ρ.length) : toldOf r ρ = List.replicate (ρ.length - 1) false ++ [true] := by
  obtain ⟨g1, g2, g3⟩ := h.yes ρ e
  refine List.ext_getElem? fun i => ?_
  unfold toldOf
  rw [List.getElem?_map]
  by_cases hi : i < ρ.length
  · rw [List.getElem?_range hi]
    by_cases hl : i + 1 < ρ.length
    · rw [List.getElem?_append_left (by rw [List.length_replicate]; omega), List.getElem?_replicate, if_pos (by omega)]
      show some (goneH r (ρ.take (i + 1))) = some false
      congr 1
      cases hg : goneH r (ρ.take (i + 1)) with
      | false => rfl
      | true =>
        have h2 : MayH l (ρ.take (i + 1)) [] := may_prefix he (x := ρ.drop (i + 1)) (by rw [List.take_append_drop]; exact g1)
        have h3 := g3 _ h2 hg
        rw [List.length_take] at h3
        omega
    · rw [List.getElem?_append_right (by rw [List.length_replicate]; omega), List.length_replicate]
      have e1 : i - (ρ.length - 1) = 0 := by omega
      rw [e1]
      show some (goneH r (ρ.take (i + 1))) = some true
      rw [List.take_of_length_le (by omega), g2]
  · rw [List.getElem?_eq_none (by rw [List.length_range]; omega), List.getElem?_eq_none (by rw [List.length_append, List.length_replicate]; show ρ.length - 1 + 1 ≤ i; omega)]
    rfl
end Bw

set_option Elab.async false
set_option linter.all false
set_option maxRecDepth 100000
set_option maxHeartbeats 4000000
namespace Bw
open PySem PySem.Spec PyProof.Rows L2
/-! ### gone for the first time with the last moment -/
def FG (r : Rule) : List Int → List Int → Prop
  | _, [] => False
  | st, m :: v => if goneS r (nextS r st m) = true then v = [] else FG r (nextS r st m) v
theorem FG.uniq {r : Rule} : ∀ {x : List Int} {st v : List Int} {y : List Int}, FG r st v → FG r st x → v ++ y = x → v = x
  | x, st, [], y, h, _, _ => h.elim
  | [], st, m :: v, y, _, h', _ => h'.elim
  | a :: x, st, m :: v, y, h, h', e => by
    have e' : m :: (v ++ y) = a :: x := e
    injection e' with e1 e2
    subst e1
    unfold FG at h h'
    split at h
    · rename_i hg
      rw [if_pos hg] at h'
      rw [h, h']
    · rename_i hg
      rw [if_neg hg] at h'
      rw [FG.uniq h h' e2]
/-- two first tells along one row are one -/
theorem FG.same {r : Rule} {st x v v' y y' : List Int} (h : FG r st v) (h' : FG r st v') (e : v ++ y = x) (e' : v' ++ y' = x) : v = v' := by
  rcases List.append_eq_append_iff.mp (e.trans e'.symm) with ⟨a, h1, h2⟩ | ⟨a, h1, h2⟩
  · exact FG.uniq h h' h1.symm
  · exact (FG.uniq h' h h1.symm).symm
/-- it is told within d moments, whatever is heard -/
def Fin (l : Line) (r : Rule) : Nat → List Nat → List Int → Prop
  | 0, _, _ => False
  | d + 1, ages, kept => ∀ m left, (m, left) ∈ heardL l ages → goneS r (nextS r kept (m : Int)) = true ∨ Fin l r d left (nextS r kept (m : Int))
theorem fin_tells {l : Line} {r : Rule} : ∀ {d : Nat} {ages : List Nat} {kept v : List Int}, Fin l r d ages kept → AccG l ages v → d ≤ v.length → ∃ x y, v = x ++ y ∧ FG r kept x
  | 0, _, _, _, h, _, _ => h.elim
  | d + 1, ages, kept, [], _, _, hl => by simp at hl
  | d + 1, ages, kept, m :: v, h, ha, hl => by
    obtain ⟨c, left, hc, rfl, ha'⟩ := ha
    by_cases hg : goneS r (nextS r kept (c : Int)) = true
    · exact ⟨[(c : Int)], v, rfl, by unfold FG; rw [if_pos hg]⟩
    · obtain ⟨x, y, e, hx⟩ := fin_tells ((h c left hc).resolve_left hg) ha' (by simpa using hl)
      refine ⟨(c : Int) :: x, y, by rw [e]; rfl, ?_⟩
      unfold FG
      rw [if_neg hg]
      exact hx
/-! ### the most moments -/
def better (a : Option (Nat × List Int)) (x : Nat × List Int) : Option (Nat × List Int) := match a with
  | none => some x
  | some y => if x.1 > y.1 then some x else some y
def rowL (rec : List Nat → List Int → Nat × List Int) (r : Rule) (kept : List Int) (q : Nat × List Nat) : Nat × List Int :=
  if goneS r (nextS r kept (q.1 : Int)) = true then (0, [(q.1 : Int)]) else ((rec q.2 (nextS r kept (q.1 : Int))).1 + 1, (q.1 : Int) :: (rec q.2 (nextS r kept (q.1 : Int))).2)
def lng (l : Line) (r : Rule) : Nat → List Nat → List Int → Nat × List Int
  | 0, _, _ => (0, [])
  | d + 1, ages, kept => ((heardL l ages).foldl (fun a q => better a (rowL (lng l r d) r kept q)) none).getD (0, [])
theorem better_fold {α : Type} (f : α → Nat × List Int) : ∀ (L : List α) (a : Option (Nat × List Int)), (a ≠ none ∨ L ≠ []) → ∃ x, L.foldl (fun a q => better a (f q)) a = some x ∧ (a = some x ∨ ∃ q ∈ L, x = f q) ∧ (∀ y, a = some y → y.1 ≤ x.1) ∧ ∀ q ∈ L, (f q).1 ≤ x.1
  | [], a, h => by
    cases a with
    | none => exact absurd rfl (h.resolve_right (fun z => z rfl))
    | some y => exact ⟨y, rfl, .inl rfl, fun z e => by cases e; exact Nat.le_refl _, fun q hq => nomatch hq⟩
  | q :: L, a, h => by
    have hb : ∃ y, better a (f q) = some y ∧ (a = some y ∨ y = f q) ∧ (∀ z, a = some z → z.1 ≤ y.1) ∧ (f q).1 ≤ y.1 := by
      cases a with
      | none => exact ⟨f q, rfl, .inr rfl, fun z e => (nomatch e), Nat.le_refl _⟩
      | some y =>
        by_cases hg : (f q).1 > y.1
        · refine ⟨f q, if_pos hg, .inr rfl, fun z e => ?_, Nat.le_refl _⟩
          cases e
          omega
        · refine ⟨y, if_neg hg, .inl rfl, fun z e => ?_, by omega⟩
          cases e
          exact Nat.le_refl _
    obtain ⟨y, e1, e2, e3, e4⟩ := hb
    obtain ⟨x, g1, g2, g3, g4⟩ := better_fold f L (better a (f q)) (.inl (by rw [e1]; intro z; cases z))
    refine ⟨x, g1, ?_, fun z ez => ?_, fun p hp => ?_⟩
    · rcases g2 with g2 | ⟨p, hp, g2⟩
      · rw [e1] at g2
        cases g2
        rcases e2 with e2 | e2
        · exact .inl e2
        · exact .inr ⟨q, List.mem_cons_self, e2⟩
      · exact .inr ⟨p, List.mem_cons_of_mem _ hp, g2⟩
    · have h1 := e3 z ez
      have h2 := g3 y e1
      omega
    · rcases List.mem_cons.mp hp with rfl | hp
      · have h2 := g3 y e1
        omega
      · exact g4 p hp
theorem heardL_ne (l : Line) (ages : List Nat) : heardL l ages ≠ [] := fun e => by
  have h : (ages.length, (ages.drop ages.length).map (· + 1)) ∈ heardL l ages := heardL_mem.mpr ⟨Nat.le_refl _, fun a ha => (by rw [List.drop_length] at ha; cases ha), rfl⟩
  rw [e] at h
  cases h
structure LgOk (l : Line) (r : Rule) (ages : List Nat) (kept : List Int) (x : Nat × List Int) : Prop where
  len : x.2.length = x.1 + 1
  acc : AccG l ages x.2
  fg : FG r kept x.2
  most : ∀ v, AccG l ages v → FG r kept v → v.length ≤ x.1 + 1
theorem lng_ok {l : Line} {r : Rule} : ∀ {d : Nat} {ages : List Nat} {kept : List Int}, Fin l r d ages kept → LgOk l r ages kept (lng l r d ages kept)
  | 0, _, _, h => h.elim
  | d + 1, ages, kept, h => by
    obtain ⟨x, g1, g2, _, g4⟩ := better_fold (rowL (lng l r d) r kept) (heardL l ages) none (.inr (heardL_ne l ages))
    have e : lng l r (d + 1) ages kept = x := by
      show ((heardL l ages).foldl (fun a q => better a (rowL (lng l r d) r kept q)) none).getD (0, []) = x
      rw [g1]
      rfl
    rw [e]
    have row : ∀ q ∈ heardL l ages, (rowL (lng l r d) r kept q).2.length = (rowL (lng l r d) r kept q).1 + 1 ∧ AccG l ages (rowL (lng l r d) r kept q).2 ∧ FG r kept (rowL (lng l r d) r kept q).2 ∧ ∀ v, AccG l q.2 v → FG r kept ((q.1 : Int) :: v) → v.length ≤ (rowL (lng l r d) r kept q).1 := by
      rintro ⟨m, left⟩ hq
      unfold rowL
      split
      · rename_i hg
        have hg' : goneS r (nextS r kept (m : Int)) = true := hg
        refine ⟨rfl, ⟨m, left, hq, rfl, trivial⟩, by show FG r kept [(m : Int)]; unfold FG; rw [if_pos hg'], fun v _ hf => ?_⟩
        have hf' : FG r kept ((m : Int) :: v) := hf
        unfold FG at hf'
        rw [if_pos hg'] at hf'
        rw [hf']
        exact Nat.zero_le _
      · rename_i hg
        have hg' : ¬ goneS r (nextS r kept (m : Int)) = true := hg
        have L := lng_ok ((h m left hq).resolve_left hg')
        refine ⟨?_, ⟨m, left, hq, rfl, L.acc⟩, ?_, fun v hv hf => ?_⟩
        · show ((m : Int) :: (lng l r d left (nextS r kept (m : Int))).2).length = _
          rw [List.length_cons, L.len]
        · show FG r kept ((m : Int) :: (lng l r d left (nextS r kept (m : Int))).2)
          unfold FG
          rw [if_neg hg']
          exact L.fg
        · have hf' : FG r kept ((m : Int) :: v) := hf
          unfold FG at hf'
          rw [if_neg hg'] at hf'
          exact L.most v hv hf'
    rcases g2 with g2 | ⟨q, hq, rfl⟩
    · cases g2
    · obtain ⟨r1, r2, r3, _⟩ := row q hq
      refine ⟨r1, r2, r3, fun v hv hf => ?_⟩
      cases v with
      | nil => exact hf.elim
      | cons m v =>
        obtain ⟨c, left, hc, rfl, hv'⟩ := hv
        have h1 := (row (c, left) hc).2.2.2 v hv' hf
        have h2 := g4 (c, left) hc
        rw [List.length_cons]
        omega
theorem lng_stable {l : Line} {r : Rule} : ∀ {d : Nat} {ages : List Nat} {kept : List Int} {d' : Nat}, Fin l r d ages kept → d ≤ d' → lng l r d' ages kept = lng l r d ages kept
  | 0, _, _, _, h, _ => h.elim
  | d + 1, ages, kept, 0, _, hd => by omega
  | d + 1, ages, kept, d' + 1, h, hd => by
    show ((heardL l ages).foldl (fun a q => better a (rowL (lng l r d') r kept q)) none).getD (0, []) = ((heardL l ages).foldl (fun a q => better a (rowL (lng l r d) r kept q)) none).getD (0, [])
    congr 1
    have key : ∀ (L : List (Nat × List Nat)) (a : Option (Nat × List Int)), (∀ q ∈ L, q ∈ heardL l ages) → L.foldl (fun a q => better a (rowL (lng l r d') r kept q)) a = L.foldl (fun a q => better a (rowL (lng l r d) r kept q)) a := by
      intro L
      induction L with
      | nil => intro a _; rfl
      | cons q L ih =>
        intro a hL
        have hq := hL q List.mem_cons_self
        have e : rowL (lng l r d') r kept q = rowL (lng l r d) r kept q := by
          unfold rowL
          split
          · rfl
          · rename_i hg
            rw [lng_stable ((h q.1 q.2 hq).resolve_left hg) (show d ≤ d' by omega)]
        show L.foldl _ (better a (rowL (lng l r d') r kept q)) = L.foldl _ (better a (rowL (lng l r d) r kept q))
        rw [e]
        exact ih _ fun x hx => hL x (List.mem_cons_of_mem _ hx)
    exact key _ _ fun q hq => hq
/-! ### it ends -/
structure AgOk (l : Line) (ages : List Nat) : Prop where
  ge : ∀ a ∈ ages, 1 ≤ a
  le : ∀ a ∈ ages, a ≤ l.late
  desc : ages.Pairwise (· > ·)
theorem LSok.ag {l : Line} {s : LS} (h : LSok l s) : AgOk l s.ages := ⟨h.ge, h.le, h.desc⟩
theorem AgOk.len {l : Line} {ages : List Nat} (h : AgOk l ages) : ages.length ≤ l.late := desc_len h.desc h.ge h.le
theorem AgOk.next {l : Line} {ages left : List Nat} {m : Nat} (h : AgOk l ages) (hm : (m, left) ∈ heardL l ages) : AgOk l left ∧ m ≤ ages.length := by
  obtain ⟨h1, h2, rfl⟩ := heardL_mem.mp hm
  refine ⟨⟨fun a ha => ?_, fun a ha => ?_, ?_⟩, h1⟩
  · obtain ⟨b, _, rfl⟩ := List.mem_map.mp ha
    exact Nat.succ_le_succ (Nat.zero_le _)
  · obtain ⟨b, hb, rfl⟩ := List.mem_map.mp ha
    exact h2 b hb
  · exact List.Pairwise.map _ (fun a b h => Nat.succ_lt_succ h) (h.desc.sublist (List.drop_sublist _ _))
theorem KpOk.next {r : Rule} (ho : r.ok) {st : List Int} (h : KpOk r st) {m : Int} (h0 : 0 ≤ m) (h4 : m ≤ 4) : KpOk r (nextS r st m) := by
  cases r with
  | since n =>
    have hh : 1 ≤ n ∧ n ≤ 12 := ho
    obtain ⟨z, rfl⟩ := h.st
    have hz := h.small z List.mem_cons_self
    show KpOk (.since n) (if m > 0 then [0] else [if z + 1 < (n : Int) then z + 1 else (n : Int)])
    split
    · refine ⟨fun x hx => ?_, .inl ⟨n, rfl⟩, by simp, ⟨_, rfl⟩⟩
      rcases List.mem_cons.mp hx with rfl | hx
      · omega
      · cases hx
    · refine ⟨fun x hx => ?_, .inl ⟨n, rfl⟩, by simp, ⟨_, rfl⟩⟩
      rcases List.mem_cons.mp hx with rfl | hx
      · split <;> omega
      · cases hx
  | few a b =>
    have hh : 1 ≤ a ∧ a ≤ 5 ∧ 1 ≤ b ∧ b ≤ 3 := ho
    have hs : st.length ≤ a := h.st
    have hmem : ∀ x ∈ lastN a (st ++ [m]), x ∈ st ++ [m] := fun x hx => by
      unfold lastN at hx
      exact List.mem_of_mem_drop hx
    have h5 : ∀ x ∈ st, x ≤ 4 := by
      rcases h.five with ⟨n, e⟩ | h5
      · cases e
      · exact h5
    have h6 : ∀ x ∈ lastN a (st ++ [m]), 0 ≤ x ∧ x ≤ 4 := fun x hx => by
      rcases List.mem_append.mp (hmem x hx) with hx | hx
      · exact ⟨(h.small x hx).1, h5 x hx⟩
      · rcases List.mem_cons.mp hx with rfl | hx
        · exact ⟨h0, h4⟩
        · cases hx
    show KpOk (.few a b) (lastN a (st ++ [m]))
    exact ⟨fun x hx => by have := h6 x hx; omega, .inr fun x hx => (h6 x hx).2, by rw [lastN_len]; omega, by show (lastN a (st ++ [m])).length ≤ a; rw [lastN_len]; omega⟩
/-- how many moments are silent at the end of what is kept -/
def tzS : Rule → List Int → Nat
  | .since _, st => (st.headD 0).toNat
  | .few _ _, st => quiet st
theorem quiet_zero {st : List Int} (h0 : ∀ m ∈ st, 0 ≤ m) (h : quiet st = st.length) : st.sum = 0 := by
  refine zero_sum fun m hm => ?_
  have h1 := (quiet_iff st.length st).mp (by omega)
  have h2 : lastN st.length st = st := by
    unfold lastN
    rw [Nat.sub_self]
    rfl
  rw [h2] at h1
  have h3 := List.filter_eq_nil_iff.mp h1.2 m hm
  have h4 := h0 m hm
  simp only [decide_eq_true_eq] at h3
  omega
theorem lastN_quiet (a : Nat) (st : List Int) : quiet (lastN a st) = min a (quiet st) := by
  have e : ∀ k, k ≤ quiet (lastN a st) ↔ k ≤ min a (quiet st) := by
    intro k
    rw [quiet_iff, lastN_len]
    have h2 : k ≤ a → k ≤ st.length → lastN k (lastN a st) = lastN k st := fun h1 h3 => by
      unfold lastN
      rw [List.drop_drop, List.length_drop]
      congr 1
      omega
    constructor
    · rintro ⟨h1, h3⟩
      rw [h2 (by omega) (by omega)] at h3
      have := (quiet_iff k st).mpr ⟨by omega, h3⟩
      omega
    · intro h
      have h3 := (quiet_iff k st).mp (by omega)
      refine ⟨by omega, ?_⟩
      rw [h2 (by omega) (by omega)]
      exact h3.2
  have h1 := (e (quiet (lastN a st))).mp (Nat.le_refl _)
  have h2 := (e (min a (quiet st))).mpr (Nat.le_refl _)
  omega
theorem tz_next {r : Rule} (ho : r.ok) {st : List Int} (h : KpOk r st) : r.wide ≤ tzS r (nextS r st 0) ∧ goneS r (nextS r st 0) = true ∨ tzS r (nextS r st 0) = tzS r st + 1 ∧ tzS r st + 1 < r.wide := by
  cases r with
  | since n =>
    have hh : 1 ≤ n ∧ n ≤ 12 := ho
    obtain ⟨z, rfl⟩ := h.st
    have hz := h.small z List.mem_cons_self
    have e : nextS (.since n) [z] 0 = [if z + 1 < (n : Int) then z + 1 else (n : Int)] := by
      show (if (0 : Int) > 0 then [(0 : Int)] else [if [z].headD 0 + 1 < (n : Int) then [z].headD 0 + 1 else (n : Int)]) = _
      rw [if_neg (by omega)]
      rfl
    rw [e]
    show n ≤ (if z + 1 < (n : Int) then z + 1 else (n : Int)).toNat ∧ decide ((n : Int) ≤ (if z + 1 < (n : Int) then z + 1 else (n : Int))) = true ∨ (if z + 1 < (n : Int) then z + 1 else (n : Int)).toNat = z.toNat + 1 ∧ z.toNat + 1 < n
    split
    · rename_i hlt
      exact .inr ⟨by omega, by omega⟩
    · exact .inl ⟨by omega, decide_eq_true (by omega)⟩
  | few a b =>
    have hh : 1 ≤ a ∧ a ≤ 5 ∧ 1 ≤ b ∧ b ≤ 3 := ho
    have hs : st.length ≤ a := h.st
    have hq : quiet (lastN a (st ++ [0])) = min a (quiet st + 1) := by
      rw [lastN_quiet, quiet_snoc, if_neg (by omega)]
    have hl := lastN_len a (st ++ [0])
    rw [List.length_append] at hl
    have hql := quiet_le st
    show a ≤ quiet (lastN a (st ++ [0])) ∧ (decide (((lastN a (st ++ [0])).length : Int) = (a : Int)) && decide ((lastN a (st ++ [0])).sum < (b : Int))) = true ∨ quiet (lastN a (st ++ [0])) = quiet st + 1 ∧ quiet st + 1 < a
    rw [hq]
    by_cases hc : quiet st + 1 < a
    · exact .inr ⟨by omega, hc⟩
    · refine .inl ⟨by omega, ?_⟩
      have hl1 : [(0 : Int)].length = 1 := rfl
      have hll : (lastN a (st ++ [0])).length = a := by omega
      have hz := quiet_zero (st := lastN a (st ++ [0])) (fun m hm => by
        have hm' : m ∈ st ++ [0] := by
          unfold lastN at hm
          exact List.mem_of_mem_drop hm
        rcases List.mem_append.mp hm' with hm' | hm'
        · exact (h.small m hm').1
        · rcases List.mem_cons.mp hm' with rfl | hm'
          · exact Int.le_refl _
          · cases hm') (by omega)
      rw [decide_eq_true (by omega), hz, decide_eq_true (by omega)]
      rfl
/-- the age of the youngest -/
def young (ages : List Nat) : Nat := ages.getLastD 0
def muL (l : Line) (r : Rule) (ages : List Nat) (kept : List Int) : Nat := if ages = [] then r.wide - tzS r kept else (l.late + 1 - young ages) + r.wide
theorem young_next {l : Line} {ages left : List Nat} {m : Nat} (hm : (m, left) ∈ heardL l ages) (hne : left ≠ []) : ages ≠ [] ∧ young left = young ages + 1 ∧ young ages < l.late := by
  obtain ⟨h1, h2, rfl⟩ := heardL_mem.mp hm
  have hd : ages.drop m ≠ [] := fun e => hne (by rw [e]; rfl)
  have ha : ages ≠ [] := fun e => hd (by rw [e, List.drop_nil])
  have e1 : (ages.drop m).getLast hd = ages.getLast ha := List.getLast_drop hd
  have e2 : young ages = ages.getLast ha := by
    unfold young
    rw [List.getLastD_eq_getLast?, List.getLast?_eq_some_getLast ha]
    rfl
  have e3 : young ((ages.drop m).map (· + 1)) = ages.getLast ha + 1 := by
    unfold young
    rw [List.getLastD_eq_getLast?, List.getLast?_map, List.getLast?_eq_some_getLast hd, e1]
    rfl
  refine ⟨ha, by rw [e3, e2], ?_⟩
  rw [e2, ← e1]
  exact h2 _ (List.getLast_mem hd)
theorem fin_of {l : Line} (lo : l.ok) {r : Rule} (ho : r.ok) : ∀ (d : Nat) (ages : List Nat) (kept : List Int), AgOk l ages → KpOk r kept → muL l r ages kept ≤ d → Fin l r (d + 1) ages kept := by
  have hw := wide_le r ho
  intro d
  induction d with
  | zero =>
    intro ages kept ha hk hm m left hh
    have hage : ages = [] := by
      cases ages with
      | nil => rfl
      | cons a t =>
        unfold muL at hm
        rw [if_neg (by intro z; cases z)] at hm
        omega
    subst hage
    unfold muL at hm
    rw [if_pos rfl] at hm
    obtain ⟨h1, _, h3⟩ := heardL_mem.mp hh
    have hm0 : m = 0 := Nat.le_zero.mp h1
    subst hm0
    rcases tz_next ho hk with ⟨_, hg⟩ | ⟨_, hlt⟩
    · exact .inl hg
    · omega
  | succ d ih =>
    intro ages kept ha hk hm m left hh
    obtain ⟨hn, hml⟩ := ha.next hh
    have hlen := ha.len
    have l3 := lo.l3
    have hk' := hk.next ho (m := (m : Int)) (by omega) (by omega)
    by_cases hg : goneS r (nextS r kept (m : Int)) = true
    · exact .inl hg
    refine .inr (ih left _ hn hk' ?_)
    unfold muL at hm ⊢
    by_cases hl : left = []
    · rw [if_pos hl]
      by_cases hage : ages = []
      · subst hage
        rw [if_pos rfl] at hm
        obtain ⟨h1, _, h3⟩ := heardL_mem.mp hh
        have hm0 : m = 0 := Nat.le_zero.mp h1
        subst hm0
        rcases tz_next ho hk with ⟨_, hg'⟩ | ⟨he, hlt⟩
        · exact absurd hg' hg
        · have he' : tzS r (nextS r kept ((0 : Nat) : Int)) = tzS r kept + 1 := he
          rw [he']
          omega
      · rw [if_neg hage] at hm
        have hy : young ages ≤ l.late := by
          unfold young
          cases hq : ages.getLast? with
          | none => exact absurd (List.getLast?_eq_none_iff.mp hq) hage
          | some y =>
            rw [List.getLastD_eq_getLast?, hq]
            exact ha.le y (List.mem_of_getLast? hq)
        omega
    · rw [if_neg hl]
      obtain ⟨h1, h2, h3⟩ := young_next hh hl
      rw [if_neg h1] at hm
      omega
theorem fin16 {l : Line} (lo : l.ok) {r : Rule} (ho : r.ok) {ages : List Nat} {kept : List Int} (ha : AgOk l ages) (hk : KpOk r kept) : Fin l r 16 ages kept := by
  refine fin_of lo ho 15 ages kept ha hk ?_
  have hw := wide_le r ho
  have l3 := lo.l3
  unfold muL
  split
  · omega
  · rename_i hne
    have hy : 1 ≤ young ages := by
      unfold young
      cases hq : ages.getLast? with
      | none => exact absurd (List.getLast?_eq_none_iff.mp hq) hne
      | some y =>
        rw [List.getLastD_eq_getLast?, hq]
        exact ha.ge y (List.mem_of_getLast? hq)
    omega
/-- the most moments from here on, and what is heard in them -/
def LNG (l : Line) (r : Rule) (ages : List Nat) (kept : List Int) : Nat × List Int := lng l r 16 ages kept
theorem LNG_step {l : Line} (lo : l.ok) {r : Rule} (ho : r.ok) {ages : List Nat} {kept : List Int} (ha : AgOk l ages) (hk : KpOk r kept) : (heardL l ages).foldl (fun a q => better a (rowL (LNG l r) r kept q)) none = some (LNG l r ages kept) := by
  have hF := fin16 lo ho ha hk
  have e : lng l r 17 ages kept = lng l r 16 ages kept := lng_stable hF (by omega)
  obtain ⟨x, g1, _⟩ := better_fold (rowL (LNG l r) r kept) (heardL l ages) none (.inr (heardL_ne l ages))
  rw [g1]
  congr 1
  unfold LNG
  rw [← e]
  show x = ((heardL l ages).foldl (fun a q => better a (rowL (lng l r 16) r kept q)) none).getD (0, [])
  have g1' : (heardL l ages).foldl (fun a q => better a (rowL (lng l r 16) r kept q)) none = some x := g1
  rw [g1']
  rfl
theorem LNG_ok {l : Line} (lo : l.ok) {r : Rule} (ho : r.ok) {ages : List Nat} {kept : List Int} (ha : AgOk l ages) (hk : KpOk r kept) : LgOk l r ages kept (LNG l r ages kept) := lng_ok (fin16 lo ho ha hk)
theorem LNG_le {l : Line} (lo : l.ok) {r : Rule} (ho : r.ok) {ages : List Nat} {kept : List Int} (ha : AgOk l ages) (hk : KpOk r kept) : (LNG l r ages kept).1 ≤ 15 := by
  have L := LNG_ok lo ho ha hk
  have hF := fin16 lo ho ha hk
  by_cases h : 16 ≤ (LNG l r ages kept).2.length
  · have hl := L.len
    have hacc := L.acc
    have hfg := L.fg
    have e : (LNG l r ages kept).2 = (LNG l r ages kept).2.take 16 ++ (LNG l r ages kept).2.drop 16 := (List.take_append_drop _ _).symm
    have acc_take : ∀ (n : Nat) (v : List Int) (ages : List Nat), AccG l ages v → AccG l ages (v.take n) := by
      intro n
      induction n with
      | zero => intro v ages _; rw [List.take_zero]; trivial
      | succ n ih =>
        intro v ages h
        cases v with
        | nil => trivial
        | cons m v =>
          obtain ⟨c, left, h1, h2, h3⟩ := h
          exact ⟨c, left, h1, h2, ih v left h3⟩
    obtain ⟨x, y, e1, hx⟩ := fin_tells hF (acc_take 16 _ _ hacc) (by rw [List.length_take]; omega)
    have e2 : x ++ (y ++ (LNG l r ages kept).2.drop 16) = (LNG l r ages kept).2 := by
      rw [← List.append_assoc, ← e1]
      exact e.symm
    have e3 := FG.uniq hx hfg e2
    have h5 : x.length ≤ 16 := by
      have := congrArg List.length e1
      rw [List.length_take, List.length_append] at this
      omega
    rw [e3] at h5
    omega
  · have hl := L.len
    omega
/-! ### how late at the latest -/
def bst (l : Line) (r : Rule) (a : Option (Nat × Nat × List Int)) (p : PK × List Int) : Option (Nat × Nat × List Int) := match a with
  | none => some ((LNG l r p.1.1.ages p.1.2).1, p.2.length, p.2 ++ (LNG l r p.1.1.ages p.1.2).2)
  | some y => if (LNG l r p.1.1.ages p.1.2).1 > y.1 then some ((LNG l r p.1.1.ages p.1.2).1, p.2.length, p.2 ++ (LNG l r p.1.1.ages p.1.2).2) else some y
structure LtOk (l : Line) (r : Rule) (x : Nat × Nat × List Int) : Prop where
  len : x.2.2.length = x.2.1 + x.1 + 1
  may : MayH l (x.2.2.take x.2.1) (x.2.2.drop x.2.1)
  fg : FG r (stOf r (x.2.2.take x.2.1)) (x.2.2.drop x.2.1)
  most : ∀ u v, MayH l u v → FG r (stOf r u) v → v.length ≤ x.1 + 1
  short : x.2.1 ≤ 1512 ∧ x.1 ≤ 15
theorem bst_fold (l : Line) (r : Rule) : ∀ (L : List (PK × List Int)) (a : Option (Nat × Nat × List Int)), (a ≠ none ∨ L ≠ []) → ∃ x, L.foldl (bst l r) a = some x ∧ (a = some x ∨ ∃ p ∈ L, x = ((LNG l r p.1.1.ages p.1.2).1, p.2.length, p.2 ++ (LNG l r p.1.1.ages p.1.2).2)) ∧ (∀ y, a = some y → y.1 ≤ x.1) ∧ ∀ p ∈ L, (LNG l r p.1.1.ages p.1.2).1 ≤ x.1
  | [], a, h => by
    cases a with
    | none => exact absurd rfl (h.resolve_right (fun z => z rfl))
    | some y => exact ⟨y, rfl, .inl rfl, fun z e => by cases e; exact Nat.le_refl _, fun q hq => nomatch hq⟩
  | q :: L, a, h => by
    have hb : ∃ y, bst l r a q = some y ∧ (a = some y ∨ y = ((LNG l r q.1.1.ages q.1.2).1, q.2.length, q.2 ++ (LNG l r q.1.1.ages q.1.2).2)) ∧ (∀ z, a = some z → z.1 ≤ y.1) ∧ (LNG l r q.1.1.ages q.1.2).1 ≤ y.1 := by
      cases a with
      | none => exact ⟨_, rfl, .inr rfl, fun z e => (nomatch e), Nat.le_refl _⟩
      | some y =>
        by_cases hg : (LNG l r q.1.1.ages q.1.2).1 > y.1
        · refine ⟨_, if_pos hg, .inr rfl, fun z e => ?_, Nat.le_refl _⟩
          cases e
          show y.1 ≤ (LNG l r q.1.1.ages q.1.2).1
          omega
        · refine ⟨y, if_neg hg, .inl rfl, fun z e => ?_, by omega⟩
          cases e
          exact Nat.le_refl _
    obtain ⟨y, e1, e2, e3, e4⟩ := hb
    obtain ⟨x, g1, g2, g3, g4⟩ := bst_fold l r L (bst l r a q) (.inl (by rw [e1]; intro z; cases z))
    refine ⟨x, g1, ?_, fun z ez => ?_, fun p hp => ?_⟩
    · rcases g2 with g2 | ⟨p, hp, g2⟩
      · rw [e1] at g2
        cases g2
        rcases e2 with e2 | e2
        · exact .inl e2
        · exact .inr ⟨q, List.mem_cons_self, e2⟩
      · exact .inr ⟨p, List.mem_cons_of_mem _ hp, g2⟩
    · have h1 := e3 z ez
      have h2 := g3 y e1
      omega
    · rcases List.mem_cons.mp hp with rfl | hp
      · have h2 := g3 y e1
        omega
      · exact g4 p hp
/-- what latest tells -/
def LT (l : Line) (r : Rule) (x : Nat × Nat × List Int) : Prop := ∃ b, endP l r b ∧ b.met.foldl (bst l r) none = some x
theorem LT.uniq {l : Line} {r : Rule} {x y : Nat × Nat × List Int} (h : LT l r x) (h' : LT l r y) : x = y := by
  obtain ⟨b, h1, h2⟩ := h
  obtain ⟨b', h3, h4⟩ := h'
  have e := BEnd.uniq h1 h3
  subst e
  rw [h2] at h4
  exact Option.some.inj h4
theorem bfs_row_short {l : Line} (lo : l.ok) {r : Rule} (ho : r.ok) {b : BS PK} (h : endP l r b) {k : PK} {ρ : List Int} (hm : (k, ρ) ∈ b.met) : ρ.length ≤ 1512 := by
  have R := BEnd.res (firstP_gone r ho) h
  obtain ⟨w', h1, h2⟩ := pk_short lo ho (R.row k ρ hm)
  obtain ⟨ρ', h3, h4⟩ := R.all w' k h1
  have e := rowOf_mem R.nd hm
  have e' := rowOf_mem R.nd h3
  rw [e] at e'
  rw [e']
  omega
theorem LT.ok {l : Line} (lo : l.ok) {r : Rule} (ho : r.ok) {x : Nat × Nat × List Int} (h : LT l r x) : LtOk l r x := by
  obtain ⟨b, hE, hx⟩ := h
  have R := BEnd.res (firstP_gone r ho) hE
  have hne : b.met ≠ [] := fun e => by
    rw [e] at hx
    cases hx
  obtain ⟨x', g1, g2, _, g4⟩ := bst_fold l r b.met none (.inr hne)
  rw [hx] at g1
  cases g1
  rcases g2 with g2 | ⟨⟨k, ρ⟩, hp, rfl⟩
  · cases g2
  · have hpk := R.row k ρ hp
    obtain ⟨okS, okK⟩ := pk_ok lo ho hpk
    obtain ⟨hpl, hst⟩ := (pathP_first l r ρ k).mp hpk
    have L := LNG_ok lo ho okS.ag okK
    refine ⟨?_, ?_, ?_, fun u v hm hf => ?_, ?_⟩
    · show (ρ ++ (LNG l r k.1.ages k.2).2).length = ρ.length + (LNG l r k.1.ages k.2).1 + 1
      rw [List.length_append, L.len]
      omega
    · show MayH l ((ρ ++ (LNG l r k.1.ages k.2).2).take ρ.length) ((ρ ++ (LNG l r k.1.ages k.2).2).drop ρ.length)
      rw [List.take_left, List.drop_left]
      exact (fifo_may l lo.e1 _ _).mp ((accF_path l _ _ _).mpr ⟨k.1, hpl, L.acc⟩)
    · show FG r (stOf r ((ρ ++ (LNG l r k.1.ages k.2).2).take ρ.length)) ((ρ ++ (LNG l r k.1.ages k.2).2).drop ρ.length)
      rw [List.take_left, List.drop_left, ← hst]
      exact L.fg
    · obtain ⟨t, h1, h2⟩ := (accF_path l v u _).mp ((fifo_may l lo.e1 u v).mpr hm)
      obtain ⟨ρ', h3, _⟩ := R.all u (t, stOf r u) ((pathP_first l r u _).mpr ⟨h1, rfl⟩)
      obtain ⟨okS', okK'⟩ := pk_ok lo ho ((pathP_first l r u (t, stOf r u)).mpr ⟨h1, rfl⟩)
      have h4 : v.length ≤ (LNG l r t.ages (stOf r u)).1 + 1 := (LNG_ok lo ho okS'.ag okK').most v h2 hf
      have h5 := g4 _ h3
      have h5' : (LNG l r t.ages (stOf r u)).1 ≤ (LNG l r k.1.ages k.2).1 := h5
      show v.length ≤ (LNG l r k.1.ages k.2).1 + 1
      omega
    · exact ⟨bfs_row_short lo ho hE hp, LNG_le lo ho okS.ag okK⟩
end Bw

set_option Elab.async false
set_option linter.all false
set_option maxRecDepth 100000
set_option maxHeartbeats 4000000
namespace Bw
open PySem PySem.Spec PyProof.Rows L2
/-! ### Late's object -/
theorem slr : ¬ (("line" : Str) = "rule") := by decide +kernel
theorem slk : ¬ (("line" : Str) = "known") := by decide +kernel
theorem srk : ¬ (("rule" : Str) = "known") := by decide +kernel
def lF (lp q kd : Addr) : List (Str × V) := [("line", .ref lp), ("rule", .ref q), ("known", .ref kd)]
theorem lF_line (lp q kd : Addr) : (lF lp q kd).lookup ("line" : Str) = some (.ref lp) := by simp [lF, List.lookup]
theorem lF_rule (lp q kd : Addr) : (lF lp q kd).lookup ("rule" : Str) = some (.ref q) := by
  have h : (("rule" : Str) == "line") = false := by decide +kernel
  simp [lF, List.lookup, h]
theorem lF_known (lp q kd : Addr) : (lF lp q kd).lookup ("known" : Str) = some (.ref kd) := by
  have h : (("known" : Str) == "line") = false := by decide +kernel
  have h2 : (("known" : Str) == "rule") = false := by decide +kernel
  simp [lF, List.lookup, h, h2]
theorem lF_no (lp q kd : Addr) {m : Str} (h1 : (m == ("line" : Str)) = false) (h2 : (m == ("rule" : Str)) = false) (h3 : (m == ("known" : Str)) = false) : (lF lp q kd).lookup m = none := by simp [lF, List.lookup, h1, h2, h3]
theorem lF_new (lp q kd : Addr) : putF "known" (.ref kd) (putF "rule" (.ref q) (putF "line" (.ref lp) [])) = lF lp q kd := by
  have e1 : putF "rule" (.ref q) (putF "line" (.ref lp) []) = ([(("line" : Str), V.ref lp), (("rule" : Str), V.ref q)] : List (Str × V)) := by
    show (if ("line" : Str) = "rule" then _ else (("line" : Str), V.ref lp) :: putF "rule" (.ref q) []) = _
    rw [if_neg slr]
    rfl
  rw [e1]
  show (if ("line" : Str) = "known" then _ else (("line" : Str), V.ref lp) :: (if ("rule" : Str) = "known" then _ else (("rule" : Str), V.ref q) :: putF "known" (.ref kd) [])) = _
  rw [if_neg slk, if_neg srk]
  rfl
structure LTxt (K : PySem.W.Frag) (C : Addr) : Prop where
  cl : Cls K C
  nL : NoAttr K C "line"
  nR : NoAttr K C "rule"
  nK : NoAttr K C "known"
/-! ### what is known -/
abbrev LK := List Nat × List Int
def lkK (k : LK) : NK := .tup [intsK (nI k.1), intsK k.2]
def lkD (k : LK) : PyData := .tuple [intsD (nI k.1), intsD k.2]
theorem lkK_data (k : LK) : (lkK k).data = lkD k := by
  show PyData.tuple [(intsK (nI k.1)).data, (intsK k.2).data] = _
  rw [intsK_data, intsK_data]
  rfl
theorem lkK_depth (k : LK) : (lkK k).depth ≤ 2 := by
  show max (intsK (nI k.1)).depth (max (intsK k.2).depth 0) + 1 ≤ 2
  have := intsK_depth (nI k.1)
  have := intsK_depth k.2
  omega
theorem lkK_inj {s t : LK} (h : lkK s = lkK t) : s = t := by
  injection h with h
  injection h with h1 h2
  injection h2 with h2 _
  exact Prod.ext (nI_inj (intsK_inj h1)) (intsK_inj h2)
theorem lkD_noL (k : LK) : NoL (lkD k) := .tuple _ fun d hd => by
  rcases List.mem_cons.mp hd with rfl | hd
  · exact intsD_noL _
  rcases List.mem_cons.mp hd with rfl | hd
  · exact intsD_noL _
  · cases hd
section
variable {K : PySem.W.Frag} {H : Hp}
theorem lk_mk {a x b : Addr} {k : LK} (h1 : SqT K H a [.ref x, .ref b]) (h2 : SqT K H x ((nI k.1).map V.int)) (h3 : SqT K H b (k.2.map V.int)) : Dp K H (.ref a) (lkD k) := .tup h1 (.cons (ints_dp h2) (.cons (ints_dp h3) .nil))
theorem lk_key {a x b : Addr} {k : LK} (h1 : SqT K H a [.ref x, .ref b]) (h2 : SqT K H x ((nI k.1).map V.int)) (h3 : SqT K H b (k.2.map V.int)) : KeyV K H (.ref a) (lkK k) := by
  refine ⟨⟨a, rfl⟩, by rw [lkK_data]; exact lk_mk h1 h2 h3, ?_⟩
  have := lkK_depth k
  omega
end
/-- (how many, what is heard), a tuple of a number and a list -/
def LvAt (H : Hp) (t : Addr) (x : Nat × List Int) : Prop := ∃ p, H t = some (.tup [.int x.1, .ref p]) ∧ H p = some (.lst (x.2.map V.int))
/-- none yet, or a row found -/
def FvAt (H : Hp) (fv : V) : Option (Nat × List Int) → Prop
  | none => fv = .non
  | some y => ∃ t, fv = .ref t ∧ LvAt H t y
/-- all but what stands at kd stays -/
def KB (kd : Addr) (H H' : Hp) : Prop := ∀ b o, b ≠ kd → H b = some o → H' b = some o
theorem KB.refl (kd : Addr) (H : Hp) : KB kd H H := fun _ _ _ e => e
theorem KB.trans {kd : Addr} {H H1 H2 : Hp} (a : KB kd H H1) (b : KB kd H1 H2) : KB kd H H2 := fun c o n e => b c o n (a c o n e)
theorem KB.same {kd : Addr} {H H' : Hp} (s : Same H H') : KB kd H H' := fun b o _ e => s b o e
theorem KB.upd {kd : Addr} {H H' : Hp} {o : HO} (a : KB kd H H') : KB kd H (upd H' kd o) := fun b u n e => by
  rw [upd_ne n]
  exact a b u n e
theorem KB.tk {kd : Addr} {H H' : Hp} {o : HO} (a : KB kd H H') (h : H kd = some o) (n : NotT o) : TK H H' := by
  refine ⟨fun b xs e => a b _ (ne_of e h (by intro z; subst z; exact n)) e, fun b q u e => a b _ (ne_of e h (by intro z; subst z; exact n)) e⟩
theorem LvAt.kb {kd : Addr} {H H' : Hp} {ob : Obj} {t : Addr} {x : Nat × List Int} (h : LvAt H t x) (a : KB kd H H') (hk : H kd = some (PinO kd ob)) : LvAt H' t x := by
  obtain ⟨p, h1, h2⟩ := h
  exact ⟨p, a _ _ (ne_of h1 hk (by intro z; cases z)) h1, a _ _ (ne_of h2 hk (by intro z; cases z)) h2⟩
theorem LvAt.same {H H' : Hp} {t : Addr} {x : Nat × List Int} (h : LvAt H t x) (s : Same H H') : LvAt H' t x := by
  obtain ⟨p, h1, h2⟩ := h
  exact ⟨p, s _ _ h1, s _ _ h2⟩
abbrev ES := List (LK × Addr)
def esK (es : ES) : List (NK × V) := es.map fun e => (lkK e.1, V.ref e.2)
structure KnAt (P : Program) (w : World) (K : PySem.W.Frag) (l : Line) (r : Rule) (H : Hp) (kd : Addr) (es : ES) : Prop where
  nd : Nd P w K H kd (esK es)
  val : ∀ e ∈ es, LvAt H e.2 (LNG l r e.1.1 e.1.2)
  ok : ∀ e ∈ es, AgOk l e.1.1 ∧ KpOk r e.1.2
def Kn (P : Program) (w : World) (K : PySem.W.Frag) (l : Line) (r : Rule) (H : Hp) (kd : Addr) : Prop := ∃ es, KnAt P w K l r H kd es
section
variable {P : Program} {w : World} {K : PySem.W.Frag} {l : Line} {r : Rule} {H H' : Hp} {kd : Addr} {es : ES}
theorem KnAt.same (h : KnAt P w K l r H kd es) (s : Same H H') : KnAt P w K l r H' kd es := ⟨h.nd.same s, fun e he => (h.val e he).same s, h.ok⟩
theorem Kn.same (h : Kn P w K l r H kd) (s : Same H H') : Kn P w K l r H' kd := let ⟨es, h⟩ := h; ⟨es, h.same s⟩
theorem KnAt.nodup (h : KnAt P w K l r H kd es) : (es.map (·.1)).Nodup := by
  obtain ⟨o, n⟩ := h.nd
  have := n.nodup
  unfold esK at this
  rw [List.map_map] at this
  exact List.pairwise_map.mpr (List.Pairwise.of_map _ (fun a b h e => h (by show lkK a.1 = lkK b.1; rw [e])) this)
theorem es_val {es : ES} {k : LK} {t : Addr} (hn : (es.map (·.1)).Nodup) (h : (k, t) ∈ es) : valV (esK es) (lkK k) = some (.ref t) := by
  induction es with
  | nil => cases h
  | cons m es ih =>
    rw [List.map_cons, List.nodup_cons] at hn
    by_cases e : m.1 = k
    · rcases List.mem_cons.mp h with h | h
      · subst h
        exact valV_pos (p := (lkK k, V.ref t)) rfl
      · exact absurd (List.mem_map.mpr ⟨(k, t), h, e.symm⟩) hn.1
    · rcases List.mem_cons.mp h with h | h
      · subst h
        exact absurd rfl e
      · have h1 : valV (esK (m :: es)) (lkK k) = valV (esK es) (lkK k) := valV_neg (p := (lkK m.1, V.ref m.2)) (fun z => e (lkK_inj z))
        rw [h1]
        exact ih hn.2 h
theorem es_some {es : ES} {k : LK} : (valV (esK es) (lkK k)).isSome = decide (k ∈ es.map (·.1)) := by
  induction es with
  | nil => rfl
  | cons m es ih =>
    by_cases e : m.1 = k
    · have h1 : valV (esK (m :: es)) (lkK k) = some (.ref m.2) := valV_pos (p := (lkK m.1, V.ref m.2)) (congrArg lkK e)
      rw [h1]
      exact (decide_eq_true (List.mem_map.mpr ⟨m, List.mem_cons_self, e⟩)).symm
    · have h1 : valV (esK (m :: es)) (lkK k) = valV (esK es) (lkK k) := valV_neg (p := (lkK m.1, V.ref m.2)) (fun z => e (lkK_inj z))
      rw [h1, ih]
      refine decide_eq_decide.mpr ?_
      rw [List.map_cons, List.mem_cons]
      exact ⟨.inr, fun h => h.resolve_left (fun z => e z.symm)⟩
/-- one more, or one anew -/
def putE (es : ES) (k : LK) (t : Addr) : ES := if k ∈ es.map (·.1) then es.map fun e => if e.1 = k then (e.1, t) else e else es ++ [(k, t)]
theorem putE_mem (es : ES) (k : LK) (t : Addr) : ∀ e ∈ putE es k t, e = (k, t) ∨ e ∈ es := by
  intro e he
  unfold putE at he
  split at he
  · obtain ⟨x, hx, rfl⟩ := List.mem_map.mp he
    split
    · rename_i h
      exact .inl (by rw [← h])
    · exact .inr hx
  · rcases List.mem_append.mp he with he | he
    · exact .inr he
    · rcases List.mem_cons.mp he with rfl | he
      · exact .inl rfl
      · cases he
theorem putE_in (es : ES) (k : LK) (t : Addr) : k ∈ (putE es k t).map (·.1) := by
  unfold putE
  split
  · rename_i h
    obtain ⟨x, hx, rfl⟩ := List.mem_map.mp h
    exact List.mem_map.mpr ⟨(x.1, t), List.mem_map.mpr ⟨x, hx, if_pos rfl⟩, rfl⟩
  · rw [List.map_append]
    exact List.mem_append_right _ List.mem_cons_self
theorem putE_K (es : ES) (k : LK) (t : Addr) : putK (esK es) (lkK k) (.ref t) = esK (putE es k t) := by
  have e : ((esK es).any fun kv => decide (kv.1 = lkK k)) = decide (k ∈ es.map (·.1)) := by
    rw [valV_any, es_some]
  unfold putK putE
  rw [e]
  by_cases h : k ∈ es.map (·.1)
  · rw [decide_eq_true h, if_pos rfl, if_pos h]
    unfold esK
    rw [List.map_map, List.map_map]
    refine List.map_congr_left fun a _ => ?_
    show (if lkK a.1 = lkK k then (lkK a.1, V.ref t) else (lkK a.1, V.ref a.2)) = (lkK (if a.1 = k then (a.1, t) else a).1, V.ref (if a.1 = k then (a.1, t) else a).2)
    by_cases e : a.1 = k
    · rw [if_pos (congrArg lkK e), if_pos e]
    · rw [if_neg (fun z => e (lkK_inj z)), if_neg e]
  · rw [decide_eq_false h, if_neg (by decide), if_neg h]
    unfold esK
    rw [List.map_append]
    rfl
end
def lkCode (k : LK) : Nat := codeL 5 k.1 * 7776 + codeL 6 (k.2.map Int.toNat)
def lkCodeS (k : LK) : Nat := codeL 5 k.1 * 13 + (k.2.headD 0).toNat
theorem lk_few {l : Line} (lo : l.ok) {r : Rule} (ho : r.ok) {ks : List LK} (hn : ks.Nodup) (h : ∀ k ∈ ks, AgOk l k.1 ∧ KpOk r k.2) : ks.length ≤ pkMost := by
  have l3 := lo.l3
  have digA : ∀ k ∈ ks, ∀ a ∈ k.1, a + 1 < 5 := fun k hk a ha => by
    have := (h k hk).1.le a ha
    omega
  have ltA : ∀ k ∈ ks, codeL 5 k.1 < 125 := fun k hk => codeL_lt (b := 5) (by omega) k.1 3 (by have := (h k hk).1.len; omega) (digA k hk)
  cases r with
  | since n =>
    refine Nat.le_trans (nodup_code (B := 125 * 13) lkCodeS hn (fun k hk => ?_) (fun k hk k' hk' e => ?_)) (by decide)
    · obtain ⟨h1, h2⟩ := h k hk
      have h3 := ltA k hk
      obtain ⟨z, hz⟩ := h2.st
      have h4 := h2.small z (by rw [hz]; exact List.mem_cons_self)
      unfold lkCodeS
      rw [hz]
      show codeL 5 k.1 * 13 + z.toNat < 125 * 13
      omega
    · obtain ⟨h1, h2⟩ := h k hk
      obtain ⟨g1, g2⟩ := h k' hk'
      obtain ⟨z, hz⟩ := h2.st
      obtain ⟨z', hz'⟩ := g2.st
      have h4 := h2.small z (by rw [hz]; exact List.mem_cons_self)
      have g4 := g2.small z' (by rw [hz']; exact List.mem_cons_self)
      unfold lkCodeS at e
      rw [hz, hz'] at e
      have e' : codeL 5 k.1 * 13 + z.toNat = codeL 5 k'.1 * 13 + z'.toNat := e
      have e1 : codeL 5 k.1 = codeL 5 k'.1 := by omega
      refine Prod.ext (codeL_inj (digA k hk) (digA k' hk') e1) ?_
      rw [hz, hz']
      congr 1
      omega
  | few a b =>
    have five : ∀ k ∈ ks, ∀ m ∈ k.2, 0 ≤ m ∧ m ≤ 4 := fun k hk m hm => by
      obtain ⟨h1, h2⟩ := h k hk
      refine ⟨(h2.small m hm).1, ?_⟩
      rcases h2.five with ⟨n, e⟩ | h5
      · cases e
      · exact h5 m hm
    have dig : ∀ k ∈ ks, ∀ x ∈ k.2.map Int.toNat, x + 1 < 6 := fun k hk x hx => by
      obtain ⟨m, hm, rfl⟩ := List.mem_map.mp hx
      have := five k hk m hm
      omega
    have lt : ∀ k ∈ ks, codeL 6 (k.2.map Int.toNat) < 7776 := fun k hk => codeL_lt (b := 6) (by omega) _ 5 (by rw [List.length_map]; exact (h k hk).2.len) (dig k hk)
    refine nodup_code (B := pkMost) lkCode hn (fun k hk => ?_) (fun k hk k' hk' e => ?_)
    · have h3 := ltA k hk
      have h4 := lt k hk
      unfold lkCode
      show _ < 11664000
      omega
    · have h4 := lt k hk
      have h5 := lt k' hk'
      unfold lkCode at e
      have e1 : codeL 5 k.1 = codeL 5 k'.1 := by omega
      have e2 : codeL 6 (k.2.map Int.toNat) = codeL 6 (k'.2.map Int.toNat) := by omega
      refine Prod.ext (codeL_inj (digA k hk) (digA k' hk') e1) ?_
      exact toNat_inj (fun m hm => (five k hk m hm).1) (fun m hm => (five k' hk' m hm).1) (codeL_inj (dig k hk) (dig k' hk') e2)
def spLInit (P : Program) (w : World) (K : PySem.W.Frag) (C : Addr) : Sp := fun vs H Q _ => ∃ (x lp q dx : Addr), vs = [.ref x, .ref lp, .ref q] ∧ H x = some (.ins C dx []) ∧
  ∀ H' kd, H' x = some (.ins C dx (lF lp q kd)) → Nd P w K H' kd [] → H kd = none → (∀ b o, b ≠ x → H b = some o → H' b = some o) → Q .non H'
def spLongN (P : Program) (w : World) (K : PySem.W.Frag) (C : Addr) : Nat → Sp
  | 0 => fun _ _ _ _ => False
  | n + 1 => fun vs H Q _ => ∃ (x ab kb dx lp q kd : Addr) (l : Line) (r : Rule) (ages : List Nat) (kept : List Int), vs = [.ref x, .ref ab, .ref kb] ∧ H x = some (.ins C dx (lF lp q kd)) ∧ SqT K H lp l.vs ∧ l.ok ∧ SqT K H q r.vs ∧ r.ok ∧ Kn P w K l r H kd ∧
    SqT K H ab ((nI ages).map V.int) ∧ AgOk l ages ∧ SqT K H kb (kept.map V.int) ∧ KpOk r kept ∧ Fin l r (n + 1) ages kept ∧
    ∀ t H', KB kd H H' → Kn P w K l r H' kd → LvAt H' t (LNG l r ages kept) → Q (.ref t) H'
def spLatest (K : PySem.W.Frag) : Sp := fun vs H Q _ => ∃ (lp q : Addr) (l : Line) (r : Rule), vs = [.ref lp, .ref q] ∧ SqT K H lp l.vs ∧ l.ok ∧ SqT K H q r.vs ∧ r.ok ∧
  ∀ (p hp : Addr) (H' : Hp) (x : Nat × Nat × List Int), Same H H' → LT l r x → H' p = some (.tup [.int x.1, .int x.2.1, .ref hp]) → H' hp = some (.lst (x.2.2.map V.int)) → H hp = none → H p = none → Q (.ref p) H'
def bstT (n : Nat) : Option (Nat × Nat × List Int) → Bool
  | none => true
  | some y => decide (n > y.1)
/-- none yet, or the best yet; it stands where nothing stood in H0 -/
def BvAt (H0 H : Hp) (v : V) : Option (Nat × Nat × List Int) → Prop
  | none => v = .non
  | some y => ∃ t p, v = .ref t ∧ H t = some (.tup [.int y.1, .int y.2.1, .ref p]) ∧ H p = some (.lst (y.2.2.map V.int)) ∧ H0 t = none ∧ H0 p = none
theorem BvAt.kb {kd : Addr} {H0 H H' : Hp} {ob : Obj} {v : V} {o : Option (Nat × Nat × List Int)} (h : BvAt H0 H v o) (a : KB kd H H') (hk : H kd = some (PinO kd ob)) : BvAt H0 H' v o := by
  cases o with
  | none => exact h
  | some y =>
    obtain ⟨t, p, e, h1, h2, h3⟩ := h
    exact ⟨t, p, e, a _ _ (ne_of h1 hk (by intro z; cases z)) h1, a _ _ (ne_of h2 hk (by intro z; cases z)) h2, h3⟩
theorem BvAt.same {H0 H H' : Hp} {v : V} {o : Option (Nat × Nat × List Int)} (h : BvAt H0 H v o) (s : Same H H') : BvAt H0 H' v o := by
  cases o with
  | none => exact h
  | some y =>
    obtain ⟨t, p, e, h1, h2, h3⟩ := h
    exact ⟨t, p, e, s _ _ h1, s _ _ h2, h3⟩
end Bw

set_option Elab.async false
set_option linter.all false
set_option maxRecDepth 100000
set_option maxHeartbeats 4000000
namespace Bw
open PySem PySem.Spec PyProof.Rows L2
theorem qi {a b : Int} {Q : VK} {H : Hp} (e : a = b) (q : Q (.int a) H) : Q (.int b) H := by
  rw [← e]
  exact q
theorem nI_app (a b : List Nat) : nI (a ++ b) = nI a ++ nI b := List.map_append
theorem cut_fromV (l : List V) (n : Nat) : cutV l (some (n : Int)) none = l.drop n := by
  unfold cutV
  rw [HT.sIx_nat, HT.sIx_none]
  by_cases h : n ≤ l.length
  · rw [Nat.min_eq_left h, List.take_of_length_le (by rw [List.length_drop]; omega)]
  · rw [Nat.min_eq_right (by omega), Nat.sub_self, List.take_zero, List.drop_of_length_le (by omega)]
/-! ### told first at the end -/
theorem fg_iff {r : Rule} (ho : r.ok) : ∀ (v u : List Int), FG r (stOf r u) v ↔ v ≠ [] ∧ ∀ j, 1 ≤ j → j ≤ v.length → (goneH r (u ++ v.take j) = true ↔ j = v.length)
  | [], u => ⟨fun h => h.elim, fun h => absurd rfl h.1⟩
  | m :: v, u => by
    have e1 : nextS r (stOf r u) m = stOf r (u ++ [m]) := (stOf_snoc r u m).symm
    have e2 : goneS r (nextS r (stOf r u) m) = goneH r (u ++ [m]) := by rw [e1, gone_is r ho]
    have e3 : ∀ j, u ++ (m :: v).take (j + 1) = (u ++ [m]) ++ v.take j := fun j => by simp
    show (if goneS r (nextS r (stOf r u) m) = true then v = [] else FG r (nextS r (stOf r u) m) v) ↔ _
    rw [e2, e1]
    by_cases hg : goneH r (u ++ [m]) = true
    · rw [if_pos hg]
      constructor
      · rintro rfl
        refine ⟨fun z => (nomatch z), fun j h1 h2 => ?_⟩
        have h2' : j ≤ 1 := h2
        have : j = 1 := by omega
        subst this
        exact ⟨fun _ => rfl, fun _ => hg⟩
      · rintro ⟨_, h⟩
        have h1 := (h 1 (Nat.le_refl _) (by rw [List.length_cons]; omega)).mp (by rw [e3 0, List.take_zero, List.append_nil]; exact hg)
        rw [List.length_cons] at h1
        exact List.length_eq_zero_iff.mp (by omega)
    · rw [if_neg hg, fg_iff ho v (u ++ [m])]
      constructor
      · rintro ⟨hv, h⟩
        refine ⟨fun z => (nomatch z), fun j h1 h2 => ?_⟩
        rw [List.length_cons] at h2 ⊢
        obtain ⟨j, rfl⟩ : ∃ i, j = i + 1 := ⟨j - 1, by omega⟩
        rw [e3 j]
        by_cases hj : j = 0
        · subst hj
          rw [List.take_zero, List.append_nil]
          refine ⟨fun z => absurd z hg, fun z => absurd (List.length_eq_zero_iff.mp (by omega)) hv⟩
        · rw [h j (by omega) (by omega)]
          omega
      · rintro ⟨_, h⟩
        refine ⟨fun z => ?_, fun j h1 h2 => ?_⟩
        · subst z
          have := (h 1 (Nat.le_refl _) (Nat.le_refl _)).mpr rfl
          exact hg this
        · have := h (j + 1) (by omega) (by rw [List.length_cons]; omega)
          rw [e3 j, List.length_cons] at this
          rw [this]
          omega
/-! ### how late by the law's own walk -/
def dueL (due : List Nat) (n : Nat) : List Int := (List.range n).map fun t => ((due.getD t 0 : Nat) : Int)
theorem dueL_len (due : List Nat) (n : Nat) : (dueL due n).length = n := by
  unfold dueL
  rw [List.length_map, List.length_range]
theorem dueL_succ (due : List Nat) (n : Nat) : dueL due (n + 1) = dueL due n ++ [((due.getD n 0 : Nat) : Int)] := by
  unfold dueL
  rw [List.range_succ, List.map_append]
  rfl
theorem dueL_take (due : List Nat) (n j : Nat) (h : j ≤ n) : (dueL due n).take j = dueL due j := by
  unfold dueL
  rw [← List.map_take, List.take_range, Nat.min_eq_left h]
theorem dueL_W (due : List Nat) (n : Nat) : dueW due (dueL due n) := fun t ht => by
  rw [dueL_len] at ht
  unfold dueL
  rw [List.getElem?_map, List.getElem?_range ht]
  rfl
theorem dueW_L {due : List Nat} {v : List Int} (h : dueW due v) : v = dueL due v.length := by
  refine List.ext_getElem? fun t => ?_
  by_cases ht : t < v.length
  · rw [h t ht, (dueL_W due v.length) t (by rw [dueL_len]; exact ht)]
  · rw [List.getElem?_eq_none (by omega), List.getElem?_eq_none (by rw [dueL_len]; omega)]
def afterL (r : Rule) (due : List Nat) (kept : List Int) (n : Nat) : List Int := (dueL due n).foldl (nextS (r12 r)) kept
theorem afterL_succ (r : Rule) (due : List Nat) (kept : List Int) (n : Nat) : afterL r due kept (n + 1) = nextS (r12 r) (afterL r due kept n) ((due.getD n 0 : Nat) : Int) := by
  unfold afterL
  rw [dueL_succ, List.foldl_append]
  rfl
def LateN (r : Rule) (due : List Nat) (kept : List Int) (n : Nat) : Prop := (∀ j, j < n → goneS r (afterL r due kept (j + 1)) = false) ∧ (n = 40 ∨ n < 40 ∧ goneS r (afterL r due kept (n + 1)) = true)
theorem after_st {r : Rule} (ho : r.ok) (due : List Nat) (u : List Int) (n : Nat) : goneS r (afterL r due (stOf (r12 r) u) n) = goneH r (u ++ dueL due n) := by
  rw [← gone12 ho]
  unfold afterL stOf
  rw [List.foldl_append]
theorem LateN.fg {r : Rule} (ho : r.ok) {due : List Nat} {u : List Int} {n : Nat} (h : LateN r due (stOf (r12 r) u) n) (hn : n ≠ 40) : FG r (stOf r u) (dueL due (n + 1)) := by
  obtain ⟨h1, h2⟩ := h
  obtain ⟨_, h3⟩ := h2.resolve_left hn
  refine (fg_iff ho _ _).mpr ⟨fun z => ?_, fun j a b => ?_⟩
  · have := congrArg List.length z
    rw [dueL_len] at this
    exact absurd this (by simp)
  · rw [dueL_len] at b ⊢
    rw [dueL_take _ _ _ b, ← after_st ho]
    by_cases e : j = n + 1
    · subst e
      exact ⟨fun _ => rfl, fun _ => h3⟩
    · have := h1 (j - 1) (by omega)
      rw [Nat.sub_add_cancel a] at this
      rw [this]
      exact ⟨fun z => (nomatch z), fun z => absurd z e⟩
theorem LateN.of {r : Rule} (ho : r.ok) {due : List Nat} {u : List Int} {n m : Nat} (h : LateN r due (stOf (r12 r) u) n) (hf : FG r (stOf r u) (dueL due (m + 1))) (hm : m < 40) : n = m := by
  obtain ⟨h1, h2⟩ := h
  have hq := (fg_iff ho _ _).mp hf
  have hg : ∀ j, 1 ≤ j → j ≤ m + 1 → (goneS r (afterL r due (stOf (r12 r) u) j) = true ↔ j = m + 1) := fun j a b => by
    have := hq.2 j a (by rw [dueL_len]; exact b)
    rw [dueL_take _ _ _ b, dueL_len, ← after_st ho] at this
    exact this
  rcases Nat.lt_trichotomy n m with hlt | he | hgt
  · rcases h2 with h2 | ⟨_, h2⟩
    · omega
    · have := (hg (n + 1) (by omega) (by omega)).mp h2
      omega
  · exact he
  · have h3 := h1 m hgt
    rw [(hg (m + 1) (by omega) (Nat.le_refl _)).mpr rfl] at h3
    cases h3
theorem may_tells {l : Line} (lo : l.ok) {r : Rule} (ho : r.ok) {u v : List Int} (h : MayH l u v) (hv : 16 ≤ v.length) : ∃ x y, v = x ++ y ∧ FG r (stOf r u) x := by
  obtain ⟨t, h1, h2⟩ := (accF_path l v u _).mp ((fifo_may l lo.e1 u v).mpr h)
  obtain ⟨okS, okK⟩ := pk_ok lo ho ((pathP_first l r u (t, stOf r u)).mpr ⟨h1, rfl⟩)
  exact fin_tells (fin16 lo ho okS.ag okK) h2 hv
/-- what the law's own walk tells: the most -/
def LateM (l : Line) (r : Rule) (ks : List PK) (n : Nat) : Prop := (∃ k ∈ ks, LateN r k.1.ages k.2 n) ∧ ∀ k ∈ ks, ∃ m, m ≤ n ∧ LateN r k.1.ages k.2 m
theorem LateM.is {l : Line} (lo : l.ok) {r : Rule} (ho : r.ok) {b : BS PK} (hE : endV l r b) {n : Nat} (h : LateM l r (b.met.map (·.1)) n) {x : Nat × Nat × List Int} (hx : LtOk l r x) : n = x.1 := by
  have R := BEnd.res (firstV_gone l r ho) hE
  obtain ⟨⟨k, hk, hn⟩, hmost⟩ := h
  obtain ⟨⟨k', ρ⟩, hk1, hk2⟩ := List.mem_map.mp hk
  have hk2' : k' = k := hk2
  subst hk2'
  obtain ⟨h4, h5⟩ := (pathV_first l r ρ k').mp (R.row k' ρ hk1)
  have hmay : ∀ m, MayH l ρ (dueL k'.1.ages m) := fun m => (pathV_may lo.e1 ρ _).mp ⟨_, h4, dueL_W _ _⟩
  rw [h5] at hn
  have hn40 : n ≠ 40 := fun e => by
    subst e
    obtain ⟨x', y', e1, hx'⟩ := may_tells lo ho (hmay 16) (by rw [dueL_len]; exact Nat.le_refl _)
    have hl : x'.length ≤ 16 := by
      have := congrArg List.length e1
      rw [dueL_len, List.length_append] at this
      omega
    have ex : x' = dueL k'.1.ages x'.length := by
      have h6 := dueL_take k'.1.ages 16 x'.length hl
      rw [e1, List.take_left] at h6
      exact h6
    have hne : x'.length ≠ 0 := fun z => by
      rw [List.length_eq_zero_iff.mp z] at hx'
      exact hx'
    obtain ⟨m, hm⟩ : ∃ m, x'.length = m + 1 := ⟨x'.length - 1, by omega⟩
    rw [ex, hm] at hx'
    have := hn.of ho hx' (by omega)
    omega
  have h6 := hx.most _ _ (hmay (n + 1)) (hn.fg ho hn40)
  rw [dueL_len] at h6
  obtain ⟨s', g1, g2⟩ := (pathV_may lo.e1 _ _).mpr hx.may
  obtain ⟨ρ', g3, _⟩ := R.all _ (s', stOf (r12 r) (x.2.2.take x.2.1)) ((pathV_first l r _ _).mpr ⟨g1, rfl⟩)
  obtain ⟨m, hm1, hm2⟩ := hmost _ (List.mem_map.mpr ⟨_, g3, rfl⟩)
  have hf := hx.fg
  have hl : (x.2.2.drop x.2.1).length = x.1 + 1 := by
    rw [List.length_drop, hx.len]
    omega
  rw [dueW_L g2, hl] at hf
  have := hx.short.2
  have e := LateN.of ho hm2 hf (by omega)
  omega
/-- what is told behind -/
theorem LtOk.told {l : Line} {r : Rule} (ho : r.ok) {x : Nat × Nat × List Int} (hx : LtOk l r x) : (toldOf r x.2.2).drop x.2.1 = List.replicate x.1 false ++ [true] := by
  have hq := (fg_iff ho _ _).mp hx.fg
  have hl : (x.2.2.drop x.2.1).length = x.1 + 1 := by
    rw [List.length_drop, hx.len]
    omega
  refine List.ext_getElem? fun j => ?_
  rw [List.getElem?_drop]
  unfold toldOf
  have hlen := hx.len
  by_cases hj : j < x.1 + 1
  · rw [List.getElem?_map, List.getElem?_range (by omega)]
    show some (goneH r (x.2.2.take (x.2.1 + j + 1))) = _
    have e : x.2.2.take x.2.1 ++ (x.2.2.drop x.2.1).take (j + 1) = x.2.2.take (x.2.1 + j + 1) := by
      rw [Nat.add_assoc]
      exact List.take_add.symm
    have h := hq.2 (j + 1) (by omega) (by omega)
    rw [e, hl] at h
    by_cases hjx : j = x.1
    · subst hjx
      rw [h.mpr rfl, List.getElem?_append_right (by rw [List.length_replicate]; exact Nat.le_refl _), List.length_replicate, Nat.sub_self]
      rfl
    · have hf : goneH r (x.2.2.take (x.2.1 + j + 1)) = false := by
        cases hg : goneH r (x.2.2.take (x.2.1 + j + 1)) with
        | false => rfl
        | true => exact absurd (h.mp hg) (by omega)
      rw [hf, List.getElem?_append_left (by rw [List.length_replicate]; omega), List.getElem?_replicate, if_pos (by omega)]
  · rw [List.getElem?_eq_none (by rw [List.length_map, List.length_range]; omega), List.getElem?_eq_none (by rw [List.length_append, List.length_replicate]; show x.1 + 1 ≤ j; omega)]
def spLLate (K : PySem.W.Frag) : Sp := fun vs H Q _ => ∃ (q d t : Addr) (r : Rule) (due : List Nat) (kept : List Int), vs = [.ref q, .ref d, .ref t] ∧ SqT K H q r.vs ∧ r.ok ∧ SqT K H d ((nI due).map V.int) ∧ SqT K H t (kept.map V.int) ∧ StOk (r12 r) kept ∧
  ∀ (n : Nat) H', Same H H' → LateN r due kept n → Q (.int n) H'
def spLLatest (P : Program) (w : World) (K : PySem.W.Frag) : Sp := fun vs H Q _ => ∃ (lp q mt : Addr) (l : Line) (r : Rule) (ks : List PK), vs = [.ref lp, .ref q, .ref mt] ∧ SqT K H q r.vs ∧ r.ok ∧ Nd P w K H mt (trueK ks) ∧ ks ≠ [] ∧ ks.length ≤ pkMost ∧ (∀ k ∈ ks, StOk (r12 r) k.2) ∧
  ∀ (n : Nat) H', Same H H' → LateM l r ks n → Q (.int n) H'
end Bw

set_option Elab.async false
set_option linter.all false
set_option maxRecDepth 100000
set_option maxHeartbeats 4000000
namespace Bw
open PySem PySem.Spec PyProof.Rows L2
/-! ### lists of rules -/
def ruleD : Rule → PyData
  | .since n => .tuple [.str "since", .int n]
  | .few a b => .tuple [.str "few", .int a, .int b]
theorem ruleD_noL (r : Rule) : NoL (ruleD r) := by
  cases r with
  | since n =>
    refine .tuple _ fun d hd => ?_
    simp only [List.mem_cons, List.not_mem_nil, or_false] at hd
    rcases hd with rfl | rfl
    · exact .str _
    · exact .int _
  | few a b =>
    refine .tuple _ fun d hd => ?_
    simp only [List.mem_cons, List.not_mem_nil, or_false] at hd
    rcases hd with rfl | rfl | rfl
    · exact .str _
    · exact .int _
    · exact .int _
theorem rules_noL (rs : List Rule) : ∀ d ∈ rs.map ruleD, NoL d := fun d hd => by
  obtain ⟨r, _, rfl⟩ := List.mem_map.mp hd
  exact ruleD_noL r
theorem shp_str (n : Nat) {x : Str} (h : PyData.strOk x = true) : Shp n (.str x) := ⟨by simp [PyData.canLay0, h], by simp [PyData.depth]⟩
theorem ruleD_shp (n : Nat) (r : Rule) : Shp (n + 1) (ruleD r) := by
  cases r with
  | since m =>
    refine shp_tuple fun d hd => ?_
    simp only [List.mem_cons, List.not_mem_nil, or_false] at hd
    rcases hd with rfl | rfl
    · exact shp_str _ (by decide +kernel)
    · exact shp_int _ _
  | few a b =>
    refine shp_tuple fun d hd => ?_
    simp only [List.mem_cons, List.not_mem_nil, or_false] at hd
    rcases hd with rfl | rfl | rfl
    · exact shp_str _ (by decide +kernel)
    · exact shp_int _ _
    · exact shp_int _ _
theorem rules_shp (rs : List Rule) : SeqAt.shaped (.list (rs.map ruleD)) = true := Shp.ok (n := 2) (shp_list fun d hd => by
  obtain ⟨r, _, rfl⟩ := List.mem_map.mp hd
  exact ruleD_shp 0 r) (by omega)
section
variable {K : PySem.W.Frag} {H : Hp}
theorem dp_rule {v : V} {r : Rule} (h : Dp K H v (ruleD r)) : ∃ q, v = .ref q ∧ SqT K H q r.vs := by
  cases r with
  | since n =>
    obtain ⟨a, xs, rfl, h1, h2⟩ := dp_tup h
    obtain ⟨x, y, rfl, g1, g2⟩ := dpAll_two h2
    cases g1
    cases g2
    exact ⟨a, rfl, h1⟩
  | few n m =>
    obtain ⟨a, xs, rfl, h1, h2⟩ := dp_tup h
    obtain ⟨x, y, z, rfl, g1, g2, g3⟩ := dpAll_three h2
    cases g1
    cases g2
    cases g3
    exact ⟨a, rfl, h1⟩
theorem rule_dp {q : Addr} {r : Rule} (h : SqT K H q r.vs) : Dp K H (.ref q) (ruleD r) := by
  cases r with
  | since n => exact .tup h (.cons (.str _) (.cons (.int _) .nil))
  | few n m => exact .tup h (.cons (.str _) (.cons (.int _) (.cons (.int _) .nil)))
theorem rules_at {xs : List V} {rs : List Rule} (h : DpAll K H xs (rs.map ruleD)) {i : Nat} {y : V} (hi : xs[i]? = some y) : ∃ r q, rs[i]? = some r ∧ y = .ref q ∧ SqT K H q r.vs := by
  obtain ⟨d, hd, hy⟩ := dpAll_get h hi
  rw [List.getElem?_map] at hd
  cases e : rs[i]? with
  | none => rw [e] at hd; cases hd
  | some r =>
    rw [e] at hd
    cases hd
    obtain ⟨q, h1, h2⟩ := dp_rule hy
    exact ⟨r, q, rfl, h1, h2⟩
end
/-! ### the least late -/
def betN (o : Option (Nat × Nat)) (i n : Nat) : Option (Nat × Nat) := match o with
  | none => some (i, n)
  | some y => if n < y.2 then some (i, n) else some y
def betB (o : Option (Nat × Nat)) (n : Nat) : Bool := match o with
  | none => true
  | some y => decide (n < y.2)
theorem betN_yes {o : Option (Nat × Nat)} {i n : Nat} (h : betB o n = true) : betN o i n = some (i, n) := by
  cases o with
  | none => rfl
  | some y => exact if_pos (of_decide_eq_true h)
theorem betN_no {o : Option (Nat × Nat)} {i n : Nat} (h : betB o n = false) : betN o i n = o := by
  cases o with
  | none => cases h
  | some y => exact if_neg (of_decide_eq_false h)
inductive Ch (W : Rule → Prop) (L : Rule → Nat → Prop) : List Rule → Option (Nat × Nat) → Prop where
  | nil : Ch W L [] none
  | wrong {rs : List Rule} {o : Option (Nat × Nat)} {r : Rule} : Ch W L rs o → ¬ W r → Ch W L (rs ++ [r]) o
  | right {rs : List Rule} {o : Option (Nat × Nat)} {r : Rule} {n : Nat} : Ch W L rs o → W r → L r n → Ch W L (rs ++ [r]) (betN o rs.length n)
theorem Ch.alike {W : Rule → Prop} {L L' : Rule → Nat → Prop} (hL : ∀ r n n', L r n → L' r n' → n = n') {rs : List Rule} {o : Option (Nat × Nat)} (h : Ch W L rs o) : ∀ {rs' : List Rule} {o' : Option (Nat × Nat)}, Ch W L' rs' o' → rs' = rs → o = o' := by
  induction h with
  | nil =>
    intro rs' o' h' e
    cases h' with
    | nil => rfl
    | wrong _ _ => exact absurd (congrArg List.length e) (by simp)
    | right _ _ _ => exact absurd (congrArg List.length e) (by simp)
  | wrong h hw ih =>
    intro rs' o' h' e
    cases h' with
    | nil => exact absurd (congrArg List.length e) (by simp)
    | wrong h2 hw2 => exact ih h2 (List.append_inj' e rfl).1
    | right h2 hw2 hl2 =>
      have := (List.append_inj' e rfl).2
      cases this
      exact absurd hw2 hw
  | right h hw hl ih =>
    intro rs' o' h' e
    cases h' with
    | nil => exact absurd (congrArg List.length e) (by simp)
    | wrong h2 hw2 =>
      have := (List.append_inj' e rfl).2
      cases this
      exact absurd hw hw2
    | right h2 hw2 hl2 =>
      obtain ⟨e1, e2⟩ := List.append_inj' e rfl
      cases e2
      subst e1
      rw [ih h2 rfl, hL _ _ _ hl hl2]
theorem Ch.lt {W : Rule → Prop} {L : Rule → Nat → Prop} {rs : List Rule} {o : Option (Nat × Nat)} (h : Ch W L rs o) : ∀ y, o = some y → y.1 < rs.length := by
  induction h with
  | nil => exact fun y e => (nomatch e)
  | wrong h hw ih =>
    intro y e
    rw [List.length_append]
    exact Nat.lt_of_lt_of_le (ih y e) (Nat.le_add_right _ _)
  | @right rs o r n h hw hl ih =>
    intro y e
    rw [List.length_append]
    show y.1 < rs.length + 1
    cases hb : betB o n with
    | true =>
      rw [betN_yes hb] at e
      cases e
      exact Nat.lt_succ_self _
    | false =>
      rw [betN_no hb] at e
      exact Nat.lt_succ_of_lt (ih y e)
/-- no false tell -/
def NoF (l : Line) (r : Rule) : Prop := ∀ w, MayH l w [] → goneH r w = false
theorem FRow.noF {l : Line} {r : Rule} {o : Option (List Int)} (h : FRow l r o) : o = none ↔ NoF l r := by
  refine ⟨h.no, fun hn => ?_⟩
  cases o with
  | none => rfl
  | some ρ =>
    obtain ⟨h1, h2, _⟩ := h.yes ρ rfl
    rw [hn ρ h1] at h2
    cases h2
/-- what chosen tells -/
def ChP (l : Line) : List Rule → Option (Nat × Nat) → Prop := Ch (NoF l) fun r n => ∃ x, LtOk l r x ∧ x.1 = n
/-- what the law finds -/
def ChL (l : Line) : List Rule → Option (Nat × Nat) → Prop := Ch (NoF l) fun r n => ∀ x, LtOk l r x → n = x.1
theorem ChP.law {l : Line} {rs : List Rule} {o o' : Option (Nat × Nat)} (h : ChP l rs o) (h' : ChL l rs o') : o = o' := Ch.alike (fun r n n' ⟨x, h1, h2⟩ h3 => by rw [h3 x h1]; exact h2.symm) h h' rfl
theorem LtOk.uniq1 {l : Line} {r : Rule} {x y : Nat × Nat × List Int} (hx : LtOk l r x) (hy : LtOk l r y) : x.1 = y.1 := by
  have h1 := hx.most _ _ hy.may hy.fg
  have h2 := hy.most _ _ hx.may hx.fg
  have l1 := hx.len
  have l2 := hy.len
  rw [List.length_drop] at h1 h2
  omega
theorem ChP.uniq {l : Line} {rs : List Rule} {o o' : Option (Nat × Nat)} (h : ChP l rs o) (h' : ChP l rs o') : o = o' := Ch.alike (fun r n n' ⟨x, h1, h2⟩ ⟨y, h3, h4⟩ => by rw [← h2, ← h4]; exact h1.uniq1 h3) h h' rfl
/-- None, or a pair -/
def ChAt (H : Hp) (v : V) : Option (Nat × Nat) → Prop
  | none => v = .non
  | some y => ∃ p, v = .ref p ∧ H p = some (.tup [.int y.1, .int y.2])
theorem ChAt.tk {H H' : Hp} {v : V} {o : Option (Nat × Nat)} (h : ChAt H v o) (t : TK H H') : ChAt H' v o := by
  cases o with
  | none => exact h
  | some y =>
    obtain ⟨p, e, hp⟩ := h
    exact ⟨p, e, t.tup _ _ hp⟩
def chD : Option (Nat × Nat) → PyData
  | none => .none
  | some y => .tuple [.int y.1, .int y.2]
theorem ChAt.dp {K : PySem.W.Frag} {H : Hp} {v : V} {o : Option (Nat × Nat)} (h : ChAt H v o) : Dp K H v (chD o) := by
  cases o with
  | none =>
    cases h
    exact .non
  | some y =>
    obtain ⟨p, e, hp⟩ := h
    subst e
    exact .tup (SqT.of hp) (.cons (.int _) (.cons (.int _) .nil))
theorem chD_dn (o : Option (Nat × Nat)) : Dn 1 (chD o) := by
  cases o with
  | none => exact .non _
  | some y =>
    refine .tuple 0 _ (by show 2 ≤ 20000; decide) fun d hd => ?_
    simp only [List.mem_cons, List.not_mem_nil, or_false] at hd
    rcases hd with rfl | rfl
    · exact .int _ _
    · exact .int _ _
def spChosen (K : PySem.W.Frag) : Sp := fun vs H Q _ => ∃ (lp rp : Addr) (l : Line) (xs : List V) (rs : List Rule), vs = [.ref lp, .ref rp] ∧ SqT K H lp l.vs ∧ l.ok ∧ SqL K H rp xs ∧ DpAll K H xs (rs.map ruleD) ∧ (∀ r ∈ rs, r.ok) ∧
  ∀ (v : V) (H' : Hp) (o : Option (Nat × Nat)), Same H H' → ChP l rs o → ChAt H' v o → Q v H'
end Bw

set_option Elab.async false
set_option linter.all false
set_option maxRecDepth 100000
set_option maxHeartbeats 4000000
namespace Bw
open PySem PySem.Spec PyProof.Rows L2
/-! ### enumerate(text) -/
/-- each sign in a new pair with its number -/
def ItS (x : Str) : It :=
  ⟨fun i _ => i < x.cps.size, fun i H v H' => ∃ T c, v = .ref T ∧ H T = none ∧ x.cps[i]? = some c ∧ H' = upd H T (.tup [.int (i : Nat), .str ⟨#[c]⟩]), fun i _ => i = x.cps.size⟩
theorem turn_enumS {P : Program} {w : World} {K : PySem.W.Frag} {elts : List Expr} {kk : Nat} {tpos : Pos} (e it : Addr) (x : Str) (t : Tok) (ty : String) (hty : ty = "str_ascii_iterator" ∨ ty = "str_iterator") :
    Turn P w K (.Tuple elts kk tpos) (ItS x) [e, it] e (fun i h => (∃ old, IsEnum h e it ((i : Nat) : Int) old) ∧ h.IsStrIter it ty x t i ∧ e ≠ it) where
  mem := by simp
  obj := fun i h st b hb => by
    obtain ⟨⟨old, he⟩, ⟨o, ho, hc, hd⟩, _⟩ := st
    have e' : b = e ∨ b = it := by simpa using hb
    rcases e' with z | z
    · rw [z]; exact ⟨_, he, fun v q => nomatch q⟩
    · rw [z]; exact ⟨o, ho, fun v q => by rw [hd] at q; cases q⟩
  keep := fun i h h' st k => let ⟨⟨old, he⟩, ⟨o, ho, r⟩, hne⟩ := st; ⟨⟨old, k e (by simp) _ he⟩, ⟨o, k it (by simp) o ho, r⟩, hne⟩
  item := by
    intro X hP hw hK hc i pins s σ H E I hf st hg
    subst hP hw hK
    obtain ⟨⟨old, he⟩, hit, hne⟩ := st
    have D : Draws X.prog X.w X.A.in1 it [it] x.cps.size (fun i v => ∃ c u, x.cps[i]? = some c ∧ v = .str ⟨#[c]⟩ u) (fun i h => h.IsStrIter it ty x t i) := by
      rcases hty with e | e
      · rw [e]; exact Draws.strAscii (A := X.A.in1) (I.ok.hd hc) it x t
      · rw [e]; exact Draws.strWide (A := X.A.in1) (I.ok.hd hc) it x t
    have hel : e < s.heap.objs.size := Heap.lt_size he
    have hil : it < s.heap.objs.size := by obtain ⟨_, q, _⟩ := hit; exact Heap.lt_size q
    refine wpAny_pyNext_enum_itemD D he hit hg hne (by simpa using hne) fun u h' tk hP ho hit' hT hsz hk => ?_
    obtain ⟨c, tu, hcx, rfl⟩ := hP
    refine ⟨_, rfl, wpAny_letOwnedTupleGo_enum (s := { s with heap := h', toks := tk + 1 }) ho fun h'' he' sb => ?_⟩
    have hT2 : h''.get? s.heap.objs.size = some { cls := .type "tuple", data := .seq #[.int i tk, .str ⟨#[c]⟩ tu] } := (sb.2 _ (Nat.ne_of_gt hel)).trans hT
    have new : ObjOk X.prog X.w (upd H s.heap.objs.size (.tup [.int (i : Nat), .str ⟨#[c]⟩])) h'' s.heap.objs.size (.tup [.int (i : Nat), .str ⟨#[c]⟩]) :=
      ⟨by show 2 ≤ sizeLine; decide, [.int i tk, .str ⟨#[c]⟩ tu], .cons ⟨_, rfl⟩ (.cons ⟨_, rfl⟩ .nil), ⟨_, hT2, rfl, _, rfl⟩⟩
    have I1 : Inv X pins σ (upd H s.heap.objs.size (.tup [.int (i : Nat), .str ⟨#[c]⟩])) { s with heap := h'', toks := tk + 1 } :=
      I.turnedNew (ch := [e, it]) (fun b ob hb q => (sb.2 b (fun z => hb (by simp [z]))).trans (hk b ob (fun z => hb (by simp [z])) (fun z => hb (by simp [z])) q)) hf (Nat.le_refl _) new
    refine ⟨.ref s.heap.objs.size, _, I1, rfl, ⟨_, c, rfl, I.hok.fresh (Nat.le_refl _), hcx, rfl⟩, ⟨⟨.str ⟨#[c]⟩ tu, ?_⟩, ?_, hne⟩, fun b hb => ?_⟩
    · have e1 : ((i + 1 : Nat) : Int) = (i : Int) + 1 := by omega
      rw [e1]; exact he'
    · obtain ⟨o, ho2, r⟩ := hit'
      exact ⟨o, (sb.2 it (Ne.symm hne)).trans ho2, r⟩
    · have hb' : b < s.heap.objs.size := by
        have e' : b = e ∨ b = it := by simpa using hb
        rcases e' with z | z
        · rw [z]; exact hel
        · rw [z]; exact hil
      rw [upd_ne (Nat.ne_of_lt hb')]
      exact (hf b hb).1
  done := by
    intro X hP hw hK hc i pins s σ H E I hf st hg
    subst hP hw hK
    have hg : i = x.cps.size := hg
    subst hg
    obtain ⟨⟨old, he⟩, hit, hne⟩ := st
    have D : Draws X.prog X.w X.A.in1 it [it] x.cps.size (fun i v => ∃ c u, x.cps[i]? = some c ∧ v = .str ⟨#[c]⟩ u) (fun i h => h.IsStrIter it ty x t i) := by
      rcases hty with e | e
      · rw [e]; exact Draws.strAscii (A := X.A.in1) (I.ok.hd hc) it x t
      · rw [e]; exact Draws.strWide (A := X.A.in1) (I.ok.hd hc) it x t
    obtain ⟨f0, f1, f2, f3, f4, f5⟩ := hf it (by simp)
    exact wpAny_pyNext_enum_endD D he hit fun h' eb => ⟨rfl, I.turned (t' := s.toks) (fun b o hb q => eb b o hb q) f0 f1 f3 f4 f5⟩
  self := fun A i s Q E st h => let ⟨⟨_, he⟩, _⟩ := st; wpAny_pyIter_enum he h
def iEnumS (ta : TA) : TI := fun σ H R => ta σ H fun vs H1 => ∃ x, vs = [.str x] ∧ R (ItS x) H1
theorem pi_enumS {X : Cx} {e : Expr} {ta : TA} {p pos tpos : Pos} {elts : List Expr} {kk : Nat} (hg : Gl X "enumerate") (hm : X.mg "enumerate" = none) (ha : PA X [e] ta) (hs : starEach [e] X.env = [(false, eval e X.env)] := by rfl) :
    PI X (.Tuple elts kk tpos) (.Call (.Name "enumerate" p) [e] [] pos) (iEnumS ta) := by
  refine ⟨fun pins s σ H R I h => ?_⟩
  refine Call_ (ld_blt I hg hm boot_enumerate (PyProof.Rows.callWith_type1 (thn (ha.run pos pins s σ H _ I h) fun us s1 ⟨vs, H1, I1, r1, q1⟩ => ?_) hs rfl))
  obtain ⟨x, ex, q⟩ := q1
  subst ex
  cases r1 with
  | cons r rr =>
    cases rr
    obtain ⟨t, rfl⟩ := r
    refine call_enumerate_str fun h' he hit hsz hk => wpAny_pyIter_enum he ?_
    have I2 : Inv X pins σ H1 { s1 with heap := h' } := I1.kept (t' := s1.toks) hk
    have hty : strIterType x = "str_ascii_iterator" ∨ strIterType x = "str_iterator" := by
      cases ha : x.cps.all (· < 128)
      · exact .inr (by simp [strIterType, ha])
      · exact .inl (by simp [strIterType, ha])
    refine ⟨s1.heap.objs.size + 1, [s1.heap.objs.size + 1, s1.heap.objs.size], _, _, H1, rfl, I2, turn_enumS (s1.heap.objs.size + 1) s1.heap.objs.size x t _ hty, ⟨⟨.none, he⟩, hit, Nat.succ_ne_self _⟩, fun b hb => ?_, q⟩
    have e' : b = s1.heap.objs.size + 1 ∨ b = s1.heap.objs.size := by simpa using hb
    have hle : s1.heap.objs.size ≤ b := by
      rcases e' with z | z
      · rw [z]; exact Nat.le_add_right _ _
      · rw [z]; exact Nat.le_refl _
    exact I1.fpOk hle (I1.hok.fresh hle)
theorem for_enumS {x : Str} {g : TG} {tb : TS} {D : Ends} {σ : L2.St} {H : Hp} (Pv : Nat → L2.St → Hp → Prop) (h0 : Pv 0 σ H)
    (hs : ∀ i c σ H T, x.cps[i]? = some c → Pv i σ H → H T = none → g (.ref T) σ (upd H T (.tup [.int (i : Nat), .str ⟨#[c]⟩])) fun σ2 H2 => tb { D with nx := Pv (i + 1), ct := Pv (i + 1), bk := D.nx } σ2 H2) (hd : ∀ σ H, Pv x.cps.size σ H → D.nx σ H) :
    ∃ W : Nat → Nat → L2.St → Hp → Prop, (∃ m, W 0 m σ H) ∧ ∀ i m σ H, W i m σ H →
      ((ItS x).stop i H ∧ D.nx σ H) ∨ ((ItS x).go i H ∧ ∃ N : L2.St → Hp → Prop, (∀ σ' H', N σ' H' → ∃ m', m' < m ∧ W (i + 1) m' σ' H') ∧ ∀ x' H', (ItS x).yld i H x' H' → g x' σ H' fun σ2 H2 => tb { D with nx := N, ct := N, bk := D.nx } σ2 H2) := by
  refine ⟨fun i m σ H => m = x.cps.size - i ∧ i ≤ x.cps.size ∧ Pv i σ H, ⟨x.cps.size, by simp, Nat.zero_le _, h0⟩, ?_⟩
  rintro i m σ H ⟨rfl, hi, p⟩
  by_cases hlt : i < x.cps.size
  · refine .inr ⟨hlt, Pv (i + 1), fun σ' H' p' => ⟨x.cps.size - (i + 1), by omega, rfl, hlt, p'⟩, fun v H' y => ?_⟩
    obtain ⟨T, c, rfl, nT, hc, rfl⟩ := y
    exact hs i c σ _ T hc p nT
  · have e : i = x.cps.size := by omega
    subst e
    exact .inl ⟨rfl, hd σ H p⟩
/-! ### what is heard, as a text -/
def cpOf (m : Int) : Nat := if m = 0 then 46 else 48 + m.toNat
def textOf (hs : List Int) : Str := ⟨(hs.map cpOf).toArray⟩
def signOf (m : Int) : Str := ⟨#[cpOf m]⟩
theorem nine {m : Int} (h0 : 0 ≤ m) (h9 : m ≤ 9) : m = 0 ∨ m = 1 ∨ m = 2 ∨ m = 3 ∨ m = 4 ∨ m = 5 ∨ m = 6 ∨ m = 7 ∨ m = 8 ∨ m = 9 := by omega
theorem sign_str {m : Int} (h0 : 0 ≤ m) (h9 : m ≤ 9) (hz : m ≠ 0) : ((toString m : String) : Str) = signOf m := by
  rcases nine h0 h9 with rfl | rfl | rfl | rfl | rfl | rfl | rfl | rfl | rfl | rfl
  · exact absurd rfl hz
  all_goals decide +kernel
theorem sign_dot : signOf 0 = (("." : String) : Str) := by decide +kernel
theorem join_signs : ∀ cs : List Nat, Txt.join (("" : String) : Str) (cs.map fun c => (⟨#[c]⟩ : Str)) = ⟨cs.toArray⟩ := by
  intro cs
  rw [TL.join_eq]
  induction cs with
  | nil => rfl
  | cons c cs ih =>
    cases cs with
    | nil => rfl
    | cons d cs =>
      have e : Str.join (("" : String) : Str) ((c :: d :: cs).map fun c => (⟨#[c]⟩ : Str)) = (⟨#[c]⟩ : Str) ++ (("" : String) : Str) ++ Str.join (("" : String) : Str) ((d :: cs).map fun c => (⟨#[c]⟩ : Str)) := rfl
      rw [e, ih]
      show (⟨(#[c] ++ (("" : String) : Str).cps) ++ (d :: cs).toArray⟩ : Str) = _
      have e2 : (("" : String) : Str).cps = #[] := by decide +kernel
      rw [e2]
      congr 1
      simp
theorem join_text (hs : List Int) : Txt.join (("" : String) : Str) (hs.map signOf) = textOf hs := by
  have := join_signs (hs.map cpOf)
  rw [List.map_map] at this
  exact this
theorem text_at {hs : List Int} {i c : Nat} (h : (textOf hs).cps[i]? = some c) : ∃ m, hs[i]? = some m ∧ c = cpOf m := by
  have h1 : (hs.map cpOf)[i]? = some c := by
    have : ((hs.map cpOf).toArray)[i]? = some c := h
    simpa using this
  rw [List.getElem?_map] at h1
  cases e : hs[i]? with
  | none => rw [e] at h1; cases h1
  | some m => rw [e] at h1; exact ⟨m, rfl, (Option.some.inj h1).symm⟩
theorem text_len (hs : List Int) : (textOf hs).cps.size = hs.length := by
  show ((hs.map cpOf).toArray).size = _
  simp
theorem sign_int {m : Int} (h0 : 0 ≤ m) (h9 : m ≤ 9) (hz : m ≠ 0) : PySem.intText? (⟨#[cpOf m]⟩ : Str) = some m := by
  rcases nine h0 h9 with rfl | rfl | rfl | rfl | rfl | rfl | rfl | rfl | rfl | rfl
  · exact absurd rfl hz
  all_goals decide +kernel
def spWritten (K : PySem.W.Frag) : Sp := fun vs H Q _ => ∃ (l : Addr) (hs : List Int), vs = [.ref l] ∧ SqL K H l (hs.map V.int) ∧ HeardOk hs ∧ ∀ H', Same H H' → Q (.str (textOf hs)) H'
def spRead : Sp := fun vs H Q _ => ∃ (hs : List Int), vs = [.str (textOf hs)] ∧ HeardOk hs ∧ ∀ p H', Same H H' → H p = none → H' p = some (.lst (hs.map V.int)) → Q (.ref p) H'
end Bw

set_option Elab.async false
set_option linter.all false
set_option maxRecDepth 100000
set_option maxHeartbeats 4000000
namespace Bw
open PySem PySem.Spec PyProof.Rows L2
/-! ### a heap without some places -/
def wo (S : List Addr) (H : Hp) : Hp := fun b => if b ∈ S then none else H b
theorem wo_at {S : List Addr} {H : Hp} {b : Addr} (h : b ∉ S) : wo S H b = H b := if_neg h
theorem wo_in {S : List Addr} {H : Hp} {b : Addr} (h : b ∈ S) : wo S H b = none := if_pos h
theorem wo_some {S : List Addr} {H : Hp} {b : Addr} {o : HO} (h : wo S H b = some o) : b ∉ S ∧ H b = some o := by
  by_cases hb : b ∈ S
  · rw [wo_in hb] at h
    cases h
  · rw [wo_at hb] at h
    exact ⟨hb, h⟩
theorem wo_le (S : List Addr) (H : Hp) : Same (wo S H) H := fun b o h => (wo_some h).2
/-- all but what stands at S is kept -/
def SX (S : List Addr) (H H' : Hp) : Prop := ∀ b o, b ∉ S → H b = some o → H' b = some o
theorem SX.refl (S : List Addr) (H : Hp) : SX S H H := fun _ _ _ e => e
theorem SX.trans {S : List Addr} {H H1 H2 : Hp} (a : SX S H H1) (b : SX S H1 H2) : SX S H H2 := fun c o n e => b c o n (a c o n e)
theorem SX.of {S : List Addr} {H H' : Hp} (s : Same H H') : SX S H H' := fun b o _ e => s b o e
theorem SX.wo {S : List Addr} {H H' : Hp} (a : SX S H H') : Same (wo S H) (wo S H') := fun b o h => by
  obtain ⟨h1, h2⟩ := wo_some h
  rw [wo_at h1]
  exact a b o h1 h2
theorem SX.upd {S : List Addr} {H H' : Hp} {p : Addr} {o : HO} (a : SX S H H') (h : p ∈ S ∨ H p = none) : SX S H (upd H' p o) := fun b u n e => by
  have hb : b ≠ p := by
    rintro rfl
    rcases h with h | h
    · exact n h
    · rw [e] at h
      cases h
  rw [upd_ne hb]
  exact a b u n e
theorem SX.mono {S T : List Addr} {H H' : Hp} (a : SX S H H') (h : ∀ b ∈ S, b ∈ T) : SX T H H' := fun b o n e => a b o (fun z => n (h b z)) e
theorem SX.dr {d : Addr} {H H' : Hp} (D : Dr d H H') : SX [d] H H' := fun b o n e => D.keep b o (fun z => n (by rw [z]; exact List.mem_singleton.mpr rfl)) e
theorem TK.wo {S : List Addr} {H : Hp} (h : ∀ b ∈ S, ∀ o, H b = some o → NotT o) : TK H (wo S H) := by
  refine ⟨fun b xs e => ?_, fun b o u e => ?_⟩
  · rw [wo_at fun z => (h b z _ e).elim]
    exact e
  · rw [wo_at fun z => (h b z _ e).elim]
    exact e
theorem same_wo {S T : List Addr} {H : Hp} (h : ∀ b ∈ S, b ∈ T) : Same (wo T H) (wo S H) := fun b o e => by
  obtain ⟨h1, h2⟩ := wo_some e
  rw [wo_at fun z => h1 (h b z)]
  exact h2
/-! ### parts of an answer -/
/-- a list that was made for it, or data without lists -/
inductive Part (K : PySem.W.Frag) (H0 H : Hp) : V → PyData → Prop where
  | flat {v : V} {d : PyData} : Dp K H v d → NoL d → Part K H0 H v d
  | lst {p : Addr} {ys : List V} {ds : List PyData} : H0 p = none → H p = some (.lst ys) → DpAll K H ys ds → (∀ d ∈ ds, NoL d) → ys.length ≤ 2000 → Part K H0 H (.ref p) (.list ds)
inductive Parts (K : PySem.W.Frag) (H0 H : Hp) : List V → List PyData → Prop where
  | nil : Parts K H0 H [] []
  | cons {v : V} {vs : List V} {d : PyData} {ds : List PyData} : Part K H0 H v d → Parts K H0 H vs ds → Parts K H0 H (v :: vs) (d :: ds)
section
variable {K : PySem.W.Frag} {H0 H H' : Hp}
theorem Part.same {v : V} {d : PyData} (h : Part K H0 H v d) (s : Same H H') : Part K H0 H' v d := by
  cases h with
  | flat h1 h2 => exact .flat (Dp.same s _ _ h1) h2
  | lst h1 h2 h3 h4 h5 => exact .lst h1 (s _ _ h2) (DpAll.same s h3) h4 h5
theorem Part.dp {v : V} {d : PyData} (h : Part K H0 H v d) : Dp K H v d := by
  cases h with
  | flat h1 h2 => exact h1
  | lst h1 h2 h3 h4 h5 => exact .lst (SqL.of h2) h3
theorem Parts.same {vs : List V} {ds : List PyData} (h : Parts K H0 H vs ds) (s : Same H H') : Parts K H0 H' vs ds := by
  induction h with
  | nil => exact .nil
  | cons h1 _ ih => exact .cons (h1.same s) ih
theorem Parts.dp {vs : List V} {ds : List PyData} (h : Parts K H0 H vs ds) : DpAll K H vs ds := by
  induction h with
  | nil => exact .nil
  | cons h1 _ ih => exact .cons h1.dp ih
theorem Parts.len {vs : List V} {ds : List PyData} (h : Parts K H0 H vs ds) : vs.length = ds.length := DpAll.len h.dp
theorem Parts.get {vs : List V} {ds : List PyData} (h : Parts K H0 H vs ds) : ∀ {i : Nat} {v : V}, vs[i]? = some v → ∃ d, ds[i]? = some d ∧ Part K H0 H v d := by
  induction h with
  | nil => exact fun e => (nomatch e)
  | cons h1 _ ih =>
    intro i v e
    cases i with
    | zero =>
      cases e
      exact ⟨_, rfl, h1⟩
    | succ i => exact ih e
theorem Part.base {H00 : Hp} {v : V} {d : PyData} (h : Part K H0 H v d) (s : Same H00 H0) : Part K H00 H v d := by
  cases h with
  | flat h1 h2 => exact .flat h1 h2
  | lst h1 h2 h3 h4 h5 => exact .lst (s.free h1) h2 h3 h4 h5
end
/-! ### the answers -/
def rowD : Option (List Int) → PyData
  | none => .none
  | some ρ => .list (ρ.map PyData.int)
def Ans (l : Line) (r : Rule) (hs : List Int) : Nat → List PyData → Prop
  | 0, ds => ∃ b : Bool, (b = true ↔ MayH l hs []) ∧ ds = [.list ((toldOf r hs).map PyData.bool), .list (turnsTo (toldOf r hs) hs.length), .list [.bool b]]
  | 1, ds => ∃ b, endP l r b ∧ ds = [rowD b.wr]
  | 2, ds => ∃ x o, LT l r x ∧ ChP l [r, .since 12] o ∧ ds = [.int x.1, .int x.2.1, .list (x.2.2.map PyData.int), chD o]
  | _ + 3, ds => ds = [.str (textOf hs), .list (hs.map PyData.int)]
theorem Ans.uniq {l : Line} {r : Rule} {hs : List Int} : ∀ {k : Nat} {ds es : List PyData}, Ans l r hs k ds → Ans l r hs k es → ds = es
  | 0, ds, es, ⟨b, h1, h2⟩, ⟨b', h3, h4⟩ => by
    have e : b = b' := by
      cases b with
      | true => exact (h3.mpr (h1.mp rfl)).symm
      | false =>
        cases b' with
        | false => rfl
        | true => exact absurd (h1.mpr (h3.mp rfl)) (by decide)
    rw [h2, h4, e]
  | 1, ds, es, ⟨b, h1, h2⟩, ⟨b', h3, h4⟩ => by rw [h2, h4, BEnd.uniq h1 h3]
  | 2, ds, es, ⟨x, o, h1, h2, h3⟩, ⟨y, o', h4, h5, h6⟩ => by rw [h3, h6, LT.uniq h1 h4, ChP.uniq h2 h5]
  | k + 3, ds, es, h1, h2 => Eq.trans h1 (Eq.symm h2)
theorem dn_list {n : Nat} {α : Type} (f : α → PyData) (xs : List α) (hl : xs.length ≤ 20000) (h : ∀ x, Dn n (f x)) : Dn (n + 1) (.list (xs.map f)) := .list n _ (by rw [List.length_map]; exact hl) fun d hd => by
  obtain ⟨x, _, rfl⟩ := List.mem_map.mp hd
  exact h x
theorem Ans.dn {l : Line} (lo : l.ok) {r : Rule} (ro : r.ok) {hs : List Int} (hh : HeardOk hs) {k : Nat} {ds : List PyData} (h : Ans l r hs k ds) : Dn 3 (.list ds) ∧ ds.length ≤ 4 := by
  have hn := hh.1
  match k, h with
  | 0, ⟨b, _, e⟩ =>
    subst e
    refine ⟨.list 2 _ (by show 3 ≤ 20000; decide) fun d hd => ?_, by show 3 ≤ 4; decide⟩
    simp only [List.mem_cons, List.not_mem_nil, or_false] at hd
    rcases hd with rfl | rfl | rfl
    · exact dn_list _ _ (by rw [toldOf_len]; omega) fun b => .bool _ _
    · refine .list 1 _ (Nat.le_trans (turnsTo_len _ _) (by omega)) fun d hd => ?_
      unfold turnsTo at hd
      obtain ⟨i, _, hi⟩ := List.mem_filterMap.mp hd
      split at hi
      · cases hi
      · cases hi
        refine .tuple 0 _ (by show 2 ≤ 20000; decide) fun d hd => ?_
        simp only [List.mem_cons, List.not_mem_nil, or_false] at hd
        rcases hd with rfl | rfl
        · exact .int _ _
        · exact .str _ _
    · exact dn_list PyData.bool [b] (by show 1 ≤ 20000; decide) fun b => .bool _ _
  | 1, ⟨b, hE, e⟩ =>
    subst e
    refine ⟨.list 2 _ (by show 1 ≤ 20000; decide) fun d hd => ?_, by show 1 ≤ 4; decide⟩
    rw [List.mem_singleton.mp hd]
    cases hb : b.wr with
    | none => exact .non _
    | some ρ =>
      have := (endP_row lo ro hE).short lo ro hb
      exact dn_list _ _ (by omega) fun b => .int _ _
  | 2, ⟨x, o, hx, _, e⟩ =>
    subst e
    have h1 := (hx.ok lo ro).len
    have h2 := (hx.ok lo ro).short
    refine ⟨.list 2 _ (by show 4 ≤ 20000; decide) fun d hd => ?_, by show 4 ≤ 4; decide⟩
    simp only [List.mem_cons, List.not_mem_nil, or_false] at hd
    rcases hd with rfl | rfl | rfl | rfl
    · exact .int _ _
    · exact .int _ _
    · exact dn_list _ _ (by omega) fun b => .int _ _
    · cases o with
      | none => exact .non _
      | some y =>
        refine .tuple 1 _ (by show 2 ≤ 20000; decide) fun d hd => ?_
        simp only [List.mem_cons, List.not_mem_nil, or_false] at hd
        rcases hd with rfl | rfl
        · exact .int _ _
        · exact .int _ _
  | k + 3, e =>
    have e : ds = [.str (textOf hs), .list (hs.map PyData.int)] := e
    subst e
    refine ⟨.list 2 _ (by show 2 ≤ 20000; decide) fun d hd => ?_, by show 2 ≤ 4; decide⟩
    simp only [List.mem_cons, List.not_mem_nil, or_false] at hd
    rcases hd with rfl | rfl
    · exact .str _ _
    · exact dn_list _ _ (by omega) fun b => .int _ _
def spAsked (K : PySem.W.Frag) : Sp := fun vs H Q _ => ∃ (k : Nat) (lp q hp : Addr) (l : Line) (r : Rule) (hs : List Int), vs = [.int k, .ref lp, .ref q, .ref hp] ∧ k < 4 ∧ SqT K H lp l.vs ∧ l.ok ∧ SqT K H q r.vs ∧ r.ok ∧ SqL K H hp (hs.map V.int) ∧ HeardOk hs ∧
  ∀ (p : Addr) (H' : Hp) (xs : List V) (ds : List PyData), Same H H' → H p = none → H' p = some (.lst xs) → Parts K H H' xs ds → (∀ v ∈ xs, v ≠ .ref p) → Ans l r hs k ds → Q (.ref p) H'
/-! ### cases -/
structure Case where
  t : Addr
  lp : Addr
  q : Addr
  hp : Addr
  l : Line
  r : Rule
  hs : List Int
structure CaseAt (H : Hp) (c : Case) : Prop where
  t : H c.t = some (.tup [.ref c.lp, .ref c.q, .ref c.hp])
  lp : H c.lp = some (.tup c.l.vs)
  lo : c.l.ok
  q : H c.q = some (.tup c.r.vs)
  ro : c.r.ok
  hp : H c.hp = some (.lst (c.hs.map V.int))
  ho : HeardOk c.hs
theorem CaseAt.keep {H H' : Hp} {c : Case} (h : CaseAt H c) (t : TK H H') (e : H' c.hp = some (.lst (c.hs.map V.int))) : CaseAt H' c := ⟨t.tup _ _ h.t, t.tup _ _ h.lp, h.lo, t.tup _ _ h.q, h.ro, e, h.ho⟩
theorem CaseAt.same {H H' : Hp} {c : Case} (h : CaseAt H c) (s : Same H H') : CaseAt H' c := h.keep (TK.same s) (s _ _ h.hp)
def rListOf (K : PySem.W.Frag) : List V → Hp → VK → Prop := fun xs H Q => ∃ p ys, xs = [.ref p] ∧ (SqL K H p ys ∨ SqT K H p ys) ∧ ∀ l, H l = none → Q (.ref l) (upd H l (.lst ys))
def isL : PyData → Bool
  | .list _ => true
  | _ => false
theorem isL_noL {d : PyData} (h : NoL d) : isL d = false := by
  cases h <;> rfl
end Bw

set_option Elab.async false
set_option linter.all false
set_option maxRecDepth 100000
set_option maxHeartbeats 4000000
namespace Bw
open PySem PySem.Spec PyProof.Rows L2
def top (i : Nat) : Stmt := PySem.Challenge.pw_beatwatch_k13_asked_again.main.body.getD i (.Pass ⟨0, 0, 0, 0⟩)
abbrev s_BadLine___init__ : Stmt := inClass (top 2) 0
abbrev n_BadLine___init__ : List Str := ["self", "why"]
abbrev p_BadLine___init__ : List Str := ["self", "why"]
theorem sc_BadLine___init__ : FnScope n_BadLine___init__ ["self", "why"] (defScope s_BadLine___init__) := ⟨rfl, rfl, rfl, by decide +kernel, rfl, by decide +kernel, by decide +kernel⟩
abbrev s_BadRule___init__ : Stmt := inClass (top 3) 0
abbrev n_BadRule___init__ : List Str := ["self", "number"]
abbrev p_BadRule___init__ : List Str := ["self", "number"]
theorem sc_BadRule___init__ : FnScope n_BadRule___init__ ["self", "number"] (defScope s_BadRule___init__) := ⟨rfl, rfl, rfl, by decide +kernel, rfl, by decide +kernel, by decide +kernel⟩
abbrev s_BadHeard___init__ : Stmt := inClass (top 4) 0
abbrev n_BadHeard___init__ : List Str := ["self", "at"]
abbrev p_BadHeard___init__ : List Str := ["self", "at"]
theorem sc_BadHeard___init__ : FnScope n_BadHeard___init__ ["self", "at"] (defScope s_BadHeard___init__) := ⟨rfl, rfl, rfl, by decide +kernel, rfl, by decide +kernel, by decide +kernel⟩
abbrev s_BadText___init__ : Stmt := inClass (top 5) 0
abbrev n_BadText___init__ : List Str := ["self", "place"]
abbrev p_BadText___init__ : List Str := ["self", "place"]
theorem sc_BadText___init__ : FnScope n_BadText___init__ ["self", "place"] (defScope s_BadText___init__) := ⟨rfl, rfl, rfl, by decide +kernel, rfl, by decide +kernel, by decide +kernel⟩
abbrev s_need_line : Stmt := top 15
abbrev n_need_line : List Str := ["line", "each", "late", "lost"]
abbrev p_need_line : List Str := ["line"]
theorem sc_need_line : FnScope n_need_line ["line"] (defScope s_need_line) := ⟨rfl, rfl, rfl, by decide +kernel, rfl, by decide +kernel, by decide +kernel⟩
abbrev s_is_rule : Stmt := top 16
abbrev n_is_rule : List Str := ["rule"]
abbrev p_is_rule : List Str := ["rule"]
theorem sc_is_rule : FnScope n_is_rule ["rule"] (defScope s_is_rule) := ⟨rfl, rfl, rfl, by decide +kernel, rfl, by decide +kernel, by decide +kernel⟩
abbrev s_need_rule : Stmt := top 17
abbrev n_need_rule : List Str := ["rule"]
abbrev p_need_rule : List Str := ["rule"]
theorem sc_need_rule : FnScope n_need_rule ["rule"] (defScope s_need_rule) := ⟨rfl, rfl, rfl, by decide +kernel, rfl, by decide +kernel, by decide +kernel⟩
abbrev s_need_heard : Stmt := top 18
abbrev n_need_heard : List Str := ["heard", "at", "many"]
abbrev p_need_heard : List Str := ["heard"]
theorem sc_need_heard : FnScope n_need_heard ["heard"] (defScope s_need_heard) := ⟨rfl, rfl, rfl, by decide +kernel, rfl, by decide +kernel, by decide +kernel⟩
abbrev s_next_state : Stmt := top 19
abbrev n_next_state : List Str := ["rule", "state", "many"]
abbrev p_next_state : List Str := ["rule", "state", "many"]
theorem sc_next_state : FnScope n_next_state ["rule", "state", "many"] (defScope s_next_state) := ⟨rfl, rfl, rfl, by decide +kernel, rfl, by decide +kernel, by decide +kernel⟩
abbrev s_first_state : Stmt := top 20
abbrev n_first_state : List Str := ["rule"]
abbrev p_first_state : List Str := ["rule"]
theorem sc_first_state : FnScope n_first_state ["rule"] (defScope s_first_state) := ⟨rfl, rfl, rfl, by decide +kernel, rfl, by decide +kernel, by decide +kernel⟩
abbrev s_is_gone : Stmt := top 21
abbrev n_is_gone : List Str := ["rule", "state"]
abbrev p_is_gone : List Str := ["rule", "state"]
theorem sc_is_gone : FnScope n_is_gone ["rule", "state"] (defScope s_is_gone) := ⟨rfl, rfl, rfl, by decide +kernel, rfl, by decide +kernel, by decide +kernel⟩
abbrev s_Watcher___init__ : Stmt := inClass (top 22) 0
abbrev n_Watcher___init__ : List Str := ["self", "rule"]
abbrev p_Watcher___init__ : List Str := ["self", "rule"]
theorem sc_Watcher___init__ : FnScope n_Watcher___init__ ["self", "rule"] (defScope s_Watcher___init__) := ⟨rfl, rfl, rfl, by decide +kernel, rfl, by decide +kernel, by decide +kernel⟩
abbrev s_Watcher_hear : Stmt := inClass (top 22) 1
abbrev n_Watcher_hear : List Str := ["self", "many"]
abbrev p_Watcher_hear : List Str := ["self", "many"]
theorem sc_Watcher_hear : FnScope n_Watcher_hear ["self", "many"] (defScope s_Watcher_hear) := ⟨rfl, rfl, rfl, by decide +kernel, rfl, by decide +kernel, by decide +kernel⟩
abbrev s_told : Stmt := top 23
abbrev n_told : List Str := ["rule", "heard", "watcher", "many"]
abbrev p_told : List Str := ["rule", "heard"]
theorem sc_told : FnScope n_told ["rule", "heard"] (defScope s_told) := ⟨rfl, rfl, rfl, by decide +kernel, rfl, by decide +kernel, by decide +kernel⟩
abbrev s_turns : Stmt := top 24
abbrev n_turns : List Str := ["rule", "heard", "found", "ahead", "moment", "gone"]
abbrev p_turns : List Str := ["rule", "heard"]
theorem sc_turns : FnScope n_turns ["rule", "heard"] (defScope s_turns) := ⟨rfl, rfl, rfl, by decide +kernel, rfl, by decide +kernel, by decide +kernel⟩
abbrev s_begun : Stmt := top 27
abbrev n_begun : List Str := ["line", "state", "phase", "ages", "run", "found"]
abbrev p_begun : List Str := ["line", "state"]
theorem sc_begun : FnScope n_begun ["line", "state"] (defScope s_begun) := ⟨rfl, rfl, rfl, by decide +kernel, rfl, by decide +kernel, by decide +kernel⟩
abbrev s_heard_of : Stmt := top 28
abbrev n_heard_of : List Str := ["line", "ages", "found", "many", "age"]
abbrev p_heard_of : List Str := ["line", "ages"]
theorem sc_heard_of : FnScope n_heard_of ["line", "ages"] (defScope s_heard_of) := ⟨rfl, rfl, rfl, by decide +kernel, rfl, by decide +kernel, by decide +kernel⟩
abbrev s_moves : Stmt := top 29
abbrev n_moves : List Str := ["line", "state", "found", "ages", "run", "many", "left"]
abbrev p_moves : List Str := ["line", "state"]
theorem sc_moves : FnScope n_moves ["line", "state"] (defScope s_moves) := ⟨rfl, rfl, rfl, by decide +kernel, rfl, by decide +kernel, by decide +kernel⟩
abbrev s_may : Stmt := top 30
abbrev n_may : List Str := ["line", "heard", "level", "many", "behind", "state", "count", "other"]
abbrev p_may : List Str := ["line", "heard"]
theorem sc_may : FnScope n_may ["line", "heard"] (defScope s_may) := ⟨rfl, rfl, rfl, by decide +kernel, rfl, by decide +kernel, by decide +kernel⟩
abbrev s_all_standing : Stmt := top 32
abbrev n_all_standing : List Str := ["line", "rule", "first", "met", "level", "wrong", "behind", "state", "kept", "many", "other", "key"]
abbrev p_all_standing : List Str := ["line", "rule"]
theorem sc_all_standing : FnScope n_all_standing ["line", "rule"] (defScope s_all_standing) := ⟨rfl, rfl, rfl, by decide +kernel, rfl, by decide +kernel, by decide +kernel⟩
abbrev s_false_row : Stmt := top 33
abbrev n_false_row : List Str := ["line", "rule"]
abbrev p_false_row : List Str := ["line", "rule"]
theorem sc_false_row : FnScope n_false_row ["line", "rule"] (defScope s_false_row) := ⟨rfl, rfl, rfl, by decide +kernel, rfl, by decide +kernel, by decide +kernel⟩
abbrev s_Late___init__ : Stmt := inClass (top 34) 0
abbrev n_Late___init__ : List Str := ["self", "line", "rule"]
abbrev p_Late___init__ : List Str := ["self", "line", "rule"]
theorem sc_Late___init__ : FnScope n_Late___init__ ["self", "line", "rule"] (defScope s_Late___init__) := ⟨rfl, rfl, rfl, by decide +kernel, rfl, by decide +kernel, by decide +kernel⟩
abbrev s_Late_longest : Stmt := inClass (top 34) 1
abbrev n_Late_longest : List Str := ["self", "ages", "kept", "key", "found", "many", "left", "other", "row", "rest"]
abbrev p_Late_longest : List Str := ["self", "ages", "kept"]
theorem sc_Late_longest : FnScope n_Late_longest ["self", "ages", "kept"] (defScope s_Late_longest) := ⟨rfl, rfl, rfl, by decide +kernel, rfl, by decide +kernel, by decide +kernel⟩
abbrev s_latest : Stmt := top 35
abbrev n_latest : List Str := ["line", "rule", "late", "best", "met", "state", "kept", "most", "row", "heard"]
abbrev p_latest : List Str := ["line", "rule"]
theorem sc_latest : FnScope n_latest ["line", "rule"] (defScope s_latest) := ⟨rfl, rfl, rfl, by decide +kernel, rfl, by decide +kernel, by decide +kernel⟩
abbrev s_chosen : Stmt := top 36
abbrev n_chosen : List Str := ["line", "rules", "number", "rule", "best", "most"]
abbrev p_chosen : List Str := ["line", "rules"]
theorem sc_chosen : FnScope n_chosen ["line", "rules"] (defScope s_chosen) := ⟨rfl, rfl, rfl, by decide +kernel, rfl, by decide +kernel, by decide +kernel⟩
abbrev s_written : Stmt := top 39
abbrev n_written : List Str := ["heard", "many"]
abbrev p_written : List Str := ["heard"]
theorem sc_written : FnScope n_written ["heard"] (defScope s_written) := ⟨rfl, rfl, rfl, by decide +kernel, rfl, by decide +kernel, by decide +kernel⟩
abbrev s_read : Stmt := top 40
abbrev n_read : List Str := ["text", "found", "place", "sign"]
abbrev p_read : List Str := ["text"]
theorem sc_read : FnScope n_read ["text"] (defScope s_read) := ⟨rfl, rfl, rfl, by decide +kernel, rfl, by decide +kernel, by decide +kernel⟩
abbrev s__law_dice : Stmt := top 42
abbrev n__law_dice : List Str := ["_law_script", "_law_k", "_law_found", "_law_cell"]
abbrev p__law_dice : List Str := ["_law_script", "_law_k"]
theorem sc__law_dice : FnScope n__law_dice ["_law_script", "_law_k"] (defScope s__law_dice) := ⟨rfl, rfl, rfl, by decide +kernel, rfl, by decide +kernel, by decide +kernel⟩
abbrev s__law_off : Stmt := top 43
abbrev n__law_off : List Str := ["_law_d", "_law_most", "_law_found"]
abbrev p__law_off : List Str := ["_law_d", "_law_most"]
theorem sc__law_off : FnScope n__law_off ["_law_d", "_law_most"] (defScope s__law_off) := ⟨rfl, rfl, rfl, by decide +kernel, rfl, by decide +kernel, by decide +kernel⟩
abbrev s__law_alike : Stmt := top 44
abbrev n__law_alike : List Str := ["_law_found", "_law_due", "_law_k"]
abbrev p__law_alike : List Str := ["_law_found", "_law_due"]
theorem sc__law_alike : FnScope n__law_alike ["_law_found", "_law_due"] (defScope s__law_alike) := ⟨rfl, rfl, rfl, by decide +kernel, rfl, by decide +kernel, by decide +kernel⟩
abbrev s__law_line : Stmt := top 45
abbrev n__law_line : List Str := ["_law_d", "_law_each", "_law_late"]
abbrev p__law_line : List Str := ["_law_d"]
theorem sc__law_line : FnScope n__law_line ["_law_d"] (defScope s__law_line) := ⟨rfl, rfl, rfl, by decide +kernel, rfl, by decide +kernel, by decide +kernel⟩
abbrev s__law_rule : Stmt := top 46
abbrev n__law_rule : List Str := ["_law_d"]
abbrev p__law_rule : List Str := ["_law_d"]
theorem sc__law_rule : FnScope n__law_rule ["_law_d"] (defScope s__law_rule) := ⟨rfl, rfl, rfl, by decide +kernel, rfl, by decide +kernel, by decide +kernel⟩
abbrev s__law_run : Stmt := top 47
abbrev n__law_run : List Str := ["_law_d", "_law_line_here", "_law_there", "_law_more", "_law_heard", "_law_often", "_law_run_here", "_law_sent", "_law_at"]
abbrev p__law_run : List Str := ["_law_d", "_law_line_here", "_law_there", "_law_more"]
theorem sc__law_run : FnScope n__law_run ["_law_d", "_law_line_here", "_law_there", "_law_more"] (defScope s__law_run) := ⟨rfl, rfl, rfl, by decide +kernel, rfl, by decide +kernel, by decide +kernel⟩
abbrev s__law_asked : Stmt := top 48
abbrev n__law_asked : List Str := ["_law_kind", "_law_line_here", "_law_rule_here", "_law_heard"]
abbrev p__law_asked : List Str := ["_law_kind", "_law_line_here", "_law_rule_here", "_law_heard"]
theorem sc__law_asked : FnScope n__law_asked ["_law_kind", "_law_line_here", "_law_rule_here", "_law_heard"] (defScope s__law_asked) := ⟨rfl, rfl, rfl, by decide +kernel, rfl, by decide +kernel, by decide +kernel⟩
abbrev s_law : Stmt := top 49
abbrev n_law : List Str := ["_law_script", "_law_d", "_law_cases", "_law_k", "_law_line_here", "_law_kept", "_law_rule_here", "_law_heard", "_law_kind", "_law_one", "_law_watcher", "_law_first", "_law_many", "_law_turn", "_law_handed", "_law_found", "_law_other"]
abbrev p_law : List Str := ["_law_script"]
theorem sc_law : FnScope n_law ["_law_script"] (defScope s_law) := ⟨rfl, rfl, rfl, by decide +kernel, rfl, by decide +kernel, by decide +kernel⟩
end Bw

set_option Elab.async false
set_option linter.all false
set_option maxRecDepth 100000
set_option maxHeartbeats 4000000
namespace Bw
open PySem PySem.Spec PyProof.Rows L2
section
variable {P : Program} {w : World} {K : PySem.W.Frag} {mg : Str → Option Value} {base : Heap} {f : Addr} {fd : FuncData}
theorem ok__law_off (F : FnP K "_law_off" s__law_off f fd) (g_len : mg "len" = none) : FnOk P w K mg base CX0 1 f fd p__law_off spOff := by
  refine F.ok sc__law_off (fun vs H Q E h => ?_) (fun cdv A outer s H vs Q E hr h => ?_)
  · obtain ⟨d, m, rfl, _⟩ := h
    rfl
  · obtain ⟨d, m, rfl, hd, h0, h1, k⟩ := h
    refine ⟨_, PSs.nox (Evl.pss_cut (ps_if (PW.pt (pw_and (pt_cmpR op_eq (pe_ix ix_list (pv 0) pe_int (fun _ _ => rfl)) pe_int (nomark _)) (pw_and1 (pt_cmpR op_gt (pe_callB call_len_seq (by rfl) g_len (by decide +kernel) (pa_cons (pv 0) pa_nil)) pe_int (nomark _)))))
          (pss_one (ps_asg (pe_bm PySem.F.plainAttrs_list PySem.F.slot_list_pop PySem.F.type_list_pop mt_popAt (pv 0) (pa_cons pe_int pa_nil)) (pg_sub (pv 0) pe_int set_list)))
          pss_nil)
        (pss_cons (ps_if (pt_cmpR op_gt (pe_ix ix_list (pv 0) pe_int (fun _ _ => rfl)) pe_int (nomark _))
          (pss_cons (ps_set (i := 2) sc__law_off.nd rfl (Or.inl rfl) (pe_op op_mod (pe_ix ix_list (pv 0) pe_int (fun _ _ => rfl)) (pv 1)))
            (pss_cons (ps_asg (pe_op op_fdiv (pe_ix ix_list (pv 0) pe_int (fun _ _ => rfl)) (pv 1)) (pg_sub (pv 0) pe_int set_list))
            (pss_one (ps_ret (pv 2)))))
          pss_nil)
        (pss_cons (ps_asg (pe_op op_mod (pe_op op_add (pe_op op_mul (pe_ix ix_list (pv 0) pe_int (fun _ _ => rfl)) pe_int) pe_int) pe_int) (pg_sub (pv 0) pe_int set_list))
        (pss_one (ps_ret (pe_op op_mod (pe_op op_fdiv (pe_ix ix_list (pv 0) pe_int (fun _ _ => rfl)) pe_int) (pv 1))))))), ?_⟩
    refine ⟨fun σ' H' => σ' = [some (.ref d), some (.int m), none] ∧ Dr d H H', ?_, ?_⟩
    · have hD := Dr.refl hd
      obtain ⟨xs, hx, a, b, r, rfl⟩ := hd
      refine ⟨_, rfl, d, _, _, _, rfl, rfl, SqL.of hx, atI_nat (j := 1) rfl, rfl, _, rfl, ?_⟩
      refine iteD (fun hb => ?_) (fun hb => ⟨rfl, hD⟩)
      refine ⟨_, rfl, d, _, rfl, Or.inl (SqL.of hx), _, _, rfl, rfl, _, rfl, ?_⟩
      refine iteD (fun hl => ?_) (fun hl => ⟨rfl, hD⟩)
      cases r with
      | nil => exact absurd hl (by simp)
      | cons x r =>
        refine ⟨_, rfl, Or.inl ⟨rfl, _, SqL.of hx⟩, d, _, 2, 2, V.int x, rfl, rfl, hx, by decide, by decide, ?_, rfl, ?_⟩
        · exact (ixN_seq (ixN_nat (i := 2) (by simp))).1
        refine ⟨_, rfl, d, _, 1, 1, rfl, rfl, upd_same, ixN_nat (i := 1) (by simp), rfl, ?_⟩
        rw [upd_upd]
        exact Dr.set hx ⟨a, x, r, rfl⟩
    · rintro σ' H' ⟨rfl, hD⟩
      obtain ⟨xs, hx, a, b, r, rfl⟩ := hD.dice
      refine ⟨_, rfl, d, _, _, _, rfl, rfl, SqL.of hx, atI_nat (j := 1) rfl, _, _, rfl, rfl, _, rfl, ?_⟩
      refine iteD (fun hb => ?_) (fun hb => ?_)
      · refine ⟨_, rfl, d, _, _, _, rfl, rfl, SqL.of hx, atI_nat (j := 1) rfl, _, rfl, _, _, rfl, rfl, h0, ?_⟩
        refine ⟨_, rfl, d, _, _, _, rfl, rfl, SqL.of hx, atI_nat (j := 1) rfl, _, rfl, _, _, rfl, rfl, ⟨h0, h1⟩, ?_⟩
        refine ⟨_, rfl, d, _, 1, 1, rfl, rfl, hx, ixN_nat (i := 1) (by simp), ?_⟩
        refine ⟨_, rfl, k _ _ (Int.emod_nonneg _ (by omega)) (Int.emod_lt_of_pos _ h0) (hD.trans (Dr.set hx ⟨a, _, r, rfl⟩))⟩
      · refine ⟨_, rfl, d, _, _, _, rfl, rfl, SqL.of hx, atI_nat (j := 0) rfl, _, _, rfl, rfl, Or.inr ⟨by decide, by decide⟩, _, _, rfl, rfl, _, _, rfl, rfl, (by show (0 : Int) < 2147483647; decide), ?_⟩
        refine ⟨_, rfl, d, _, 0, 0, rfl, rfl, hx, ixN_nat (i := 0) (by simp), ?_⟩
        refine ⟨_, rfl, d, _, _, _, rfl, rfl, SqL.of upd_same, atI_nat (j := 0) rfl, _, _, rfl, rfl, ⟨by decide, by decide⟩, _, rfl, _, _, rfl, rfl, h0, ?_⟩
        exact k _ _ (Int.emod_nonneg _ (by omega)) (Int.emod_lt_of_pos _ h0) (hD.trans (Dr.set hx ⟨_, b, r, rfl⟩))
end
end Bw

set_option Elab.async false
set_option linter.all false
set_option maxRecDepth 100000
set_option maxHeartbeats 4000000
namespace Bw
open PySem PySem.Spec PyProof.Rows L2
section
variable {P : Program} {w : World} {K : PySem.W.Frag} {mg : Str → Option Value} {base : Heap} {f : Addr} {fd : FuncData}
theorem ok__law_dice (F : FnP K "_law_dice" s__law_dice f fd) (g_abs : mg "abs" = none) : FnOk P w K mg base CX0 1 f fd p__law_dice (spDice K) := by
  refine F.ok sc__law_dice (fun vs H Q E h => ?_) (fun cdv A outer s H vs Q E hr h => ?_)
  · obtain ⟨a, k, ns, rfl, _⟩ := h
    rfl
  · obtain ⟨a, k, ns, rfl, hS, hlen, q⟩ := h
    refine ⟨_, PSs.nox (pss_cons (ps_set (i := 2) sc__law_dice.nd rfl (Or.inl rfl) (pv 1))
        (pss_cons (ps_for PassesOwn.never rfl (pi_list (pv 0)) (pg_name (i := 3) sc__law_dice.nd rfl (Or.inl rfl))
          (pss_one (ps_set (i := 2) sc__law_dice.nd rfl (Or.inl rfl) (pe_op op_mod (pe_op op_add (pe_op op_mul (pv 2) pe_int) (pe_callB call_abs (by rfl) g_abs (by decide +kernel) (pa_cons (pv 3) pa_nil))) pe_int))))
        (pss_one (ps_ret (pe_op op_cat (pe_lst (pa_cons (pv 2) (pa_cons pe_int pa_nil))) (pe_lc (own := [("_law_cell", 3)]) (g := gName 3) rfl sc__law_dice.nd (pi_list (pv 0)) (blkOk_by (own := [("_law_cell", 3)]) (N := n__law_dice) (sc := defScope s__law_dice) (by decide +kernel)) (fun _ _ _ _ _ => (pg_name (i := 3) sc__law_dice.nd rfl (Or.inl rfl))) (fun _ _ _ _ _ => (pts_one (pt_cmpR op_ge (pv 3) (pe_op op_pow pe_int pe_int) (nomark _)))) (fun _ _ _ _ _ => (pv 3)))))))), ?_⟩
    refine ⟨_, rfl, _, rfl, a, rfl, ⟨_, hS⟩, for_list (K := K) (a := a) (xs := ns.map V.int) (fun i σ H' => H' = H ∧ ∃ (z : Int) (v : Option V), σ = [some (.ref a), some (.int k), some (.int z), v]) ⟨rfl, k, none, rfl⟩ (fun i σ H' _ ⟨e, _⟩ => e ▸ hS) ?_ ?_⟩
    · rintro i y σ H' hi ⟨rfl, z, v, rfl⟩
      obtain ⟨c, _, rfl⟩ := int_at hi
      exact ⟨_, rfl, _, _, rfl, rfl, Or.inr ⟨by decide, by decide⟩, _, rfl, _, rfl, _, _, rfl, rfl, _, _, rfl, rfl, (by show (0 : Int) < 2147483647; decide), rfl, _, _, rfl⟩
    · rintro σ H' ⟨rfl, z, v, rfl⟩
      refine ⟨_, rfl, (by show 2 ≤ sizeLine; decide), fun p hp => ?_⟩
      refine ⟨_, rfl, a, rfl, ⟨_, (Same.newB hp).seq hS⟩, fun D hD => lc_list (K := K) (a := a) (xs := ns.map V.int) (fun i H2 => ∃ r : List Int, Same (upd H' p (.lst [.int z, .int 0])) H2 ∧ H2 D = some (.lst (r.map V.int)) ∧ r.length ≤ i) ⟨[], Same.newB hD, upd_same, Nat.le_refl _⟩ (fun i H2 _ ⟨r, s2, _⟩ => ((Same.newB hp).trans s2).seq hS) ?_ ?_⟩
      · rintro i y H2 hi ⟨r, s2, e2, l2⟩
        have hil := (List.getElem?_eq_some_iff.mp hi).1
        rw [List.length_map] at hil
        obtain ⟨c, _, rfl⟩ := int_at hi
        refine ⟨rfl, _, rfl, _, _, rfl, rfl, ⟨by decide, by decide, by decide⟩, _, _, rfl, rfl, _, rfl, ?_⟩
        refine iteD (fun hc => ?_) (fun hc => ⟨r, s2, e2, by omega⟩)
        refine ⟨_, rfl, _, e2, szlt (by rw [List.length_map]; omega), r ++ [c], s2.mutB hD, ?_, by rw [List.length_append]; simp; omega⟩
        rw [upd_same, List.map_append]
        rfl
      · rintro H2 ⟨r, s2, e2, l2⟩
        rw [List.length_map] at l2
        refine ⟨p, D, _, _, rfl, rfl, s2 _ _ upd_same, e2, szle (by rw [List.length_map]; simp; omega), fun q' hq => ?_⟩
        have s3 : Same H' H2 := (Same.newB hp).trans s2
        exact q q' _ (s3.moreB hq) (s3.free hq) ⟨_, upd_same, z, 0, r, rfl⟩
end
end Bw

set_option Elab.async false
set_option linter.all false
set_option maxRecDepth 100000
set_option maxHeartbeats 4000000
namespace Bw
open PySem PySem.Spec PyProof.Rows L2
section
variable {P : Program} {w : World} {K : PySem.W.Frag} {mg : Str → Option Value} {base : Heap} {f : Addr} {fd : FuncData}
theorem ok__law_alike (F : FnP K "_law_alike" s__law_alike f fd) (bF : Binds K fd p__law_alike []) (g_f : mg "_law_alike" = some (.ref f)) (g_isinstance : mg "isinstance" = none) (g_bool : mg "bool" = none) (g_int : mg "int" = none) (g_str : mg "str" = none) (g_tuple : mg "tuple" = none) (g_list : mg "list" = none) (g_len : mg "len" = none) (g_all : mg "all" = none) (g_range : mg "range" = none) (n : Nat) :
    FnOk P w K mg base CX0 n f fd p__law_alike (spAlikeN K n) := by
  induction n with
  | zero => exact fnOk_false
  | succ n ih =>
  have h__law_alike : Has P w K mg base n "_law_alike" p__law_alike (spAlikeN K n) := ⟨f, fd, g_f, F.kp, bF, ih⟩
  refine F.ok sc__law_alike (fun vs H Q E h => ?_) (fun cdv A outer s H vs Q E hr h => ?_)
  · obtain ⟨x, y, D, rfl, _⟩ := h
    rfl
  · obtain ⟨x, y, D, rfl, hx, hy, hn, q⟩ := h
    refine ⟨_, PSs.nox (pss_cons (ps_if (pt_cmpR op_isN (pv 1) pe_non (nomark _))
          (pss_one (ps_ret (pe_cmpR op_isN (pv 0) pe_non (nomark _))))
          pss_nil)
        (pss_cons (ps_if (pt_val (pe_callB call_isi (by rfl) g_isinstance (by decide +kernel) (pa_cons (pv 1) (pa_cons (pe_bltn (v := .ty "bool") (by rfl) g_bool (by decide +kernel) rfl) pa_nil))))
          (pss_one (ps_ret (pe_and (pe_callB call_isi (by rfl) g_isinstance (by decide +kernel) (pa_cons (pv 0) (pa_cons (pe_bltn (v := .ty "bool") (by rfl) g_bool (by decide +kernel) rfl) pa_nil))) (pe_one (pe_cmpR op_eq (pv 0) (pv 1) (nomark _))))))
          pss_nil)
        (pss_cons (ps_if (pt_val (pe_callB call_isi (by rfl) g_isinstance (by decide +kernel) (pa_cons (pv 1) (pa_cons (pe_bltn (v := .ty "int") (by rfl) g_int (by decide +kernel) rfl) pa_nil))))
          (pss_one (ps_ret (pe_and (pe_callB call_isi (by rfl) g_isinstance (by decide +kernel) (pa_cons (pv 0) (pa_cons (pe_bltn (v := .ty "int") (by rfl) g_int (by decide +kernel) rfl) pa_nil))) (pe_and (pe_not (pe_callB call_isi (by rfl) g_isinstance (by decide +kernel) (pa_cons (pv 0) (pa_cons (pe_bltn (v := .ty "bool") (by rfl) g_bool (by decide +kernel) rfl) pa_nil)))) (pe_one (pe_cmpR op_eq (pv 0) (pv 1) (nomark _)))))))
          pss_nil)
        (pss_cons (ps_if (pt_val (pe_callB call_isi (by rfl) g_isinstance (by decide +kernel) (pa_cons (pv 1) (pa_cons (pe_bltn (v := .ty "str") (by rfl) g_str (by decide +kernel) rfl) pa_nil))))
          (pss_one (ps_ret (pe_and (pe_callB call_isi (by rfl) g_isinstance (by decide +kernel) (pa_cons (pv 0) (pa_cons (pe_bltn (v := .ty "str") (by rfl) g_str (by decide +kernel) rfl) pa_nil))) (pe_one (pe_cmpR op_eq (pv 0) (pv 1) (nomark _))))))
          pss_nil)
        (pss_cons (ps_if (PW.pt (pw_or (pt_cmpR op_ne (pe_callB call_isi (by rfl) g_isinstance (by decide +kernel) (pa_cons (pv 1) (pa_cons (pe_bltn (v := .ty "tuple") (by rfl) g_tuple (by decide +kernel) rfl) pa_nil))) (pe_callB call_isi (by rfl) g_isinstance (by decide +kernel) (pa_cons (pv 0) (pa_cons (pe_bltn (v := .ty "tuple") (by rfl) g_tuple (by decide +kernel) rfl) pa_nil))) (nomark _)) (pw_or1 (pt_cmpR op_ne (pe_callB call_isi (by rfl) g_isinstance (by decide +kernel) (pa_cons (pv 1) (pa_cons (pe_bltn (v := .ty "list") (by rfl) g_list (by decide +kernel) rfl) pa_nil))) (pe_callB call_isi (by rfl) g_isinstance (by decide +kernel) (pa_cons (pv 0) (pa_cons (pe_bltn (v := .ty "list") (by rfl) g_list (by decide +kernel) rfl) pa_nil))) (nomark _)))))
          (pss_one (ps_ret pe_bl))
          pss_nil)
        (pss_cons (ps_if (pt_cmpR op_ne (pe_callB call_len_seq (by rfl) g_len (by decide +kernel) (pa_cons (pv 0) pa_nil)) (pe_callB call_len_seq (by rfl) g_len (by decide +kernel) (pa_cons (pv 1) pa_nil)) (nomark _))
          (pss_one (ps_ret pe_bl))
          pss_nil)
        (pss_one (ps_ret (pe_callB (cr_all rfl) (by rfl) g_all (by decide +kernel) (pa_cons (pe_lc (own := [("_law_k", 2)]) (g := gName 2) rfl sc__law_alike.nd (pi_range1 rfl g_range (pa_cons (pe_callB call_len_seq (by rfl) g_len (by decide +kernel) (pa_cons (pv 1) pa_nil)) pa_nil)) (blkOk_by (own := [("_law_k", 2)]) (N := n__law_alike) (sc := defScope s__law_alike) (by decide +kernel)) (fun _ _ _ _ _ => (pg_name (i := 2) sc__law_alike.nd rfl (Or.inl rfl))) (fun _ _ _ _ _ => pts_nil) (fun _ _ _ _ _ => (pe_fn h__law_alike hr rfl (pa_cons (pe_ix (r := rIx K) ix_seq (pv 0) (pv 2) (fun _ _ => rfl)) (pa_cons (pe_ix (r := rIx K) ix_seq (pv 1) (pv 2) (fun _ _ => rfl)) pa_nil)) (Nat.le_refl _)))) pa_nil)))))))))), ?_⟩
    refine ⟨_, rfl, rfl, _, rfl, ?_⟩
    cases hy with
    | non =>
      cases hx
      refine iteD (fun _ => ?_) (fun h => absurd rfl h)
      exact ⟨_, rfl, rfl, qd (Q := Q) rfl (q H (Same.refl H))⟩
    | bl b =>
      cases hx
      refine iteD (fun h => nomatch h) (fun _ => ?_)
      refine ⟨_, rfl, _, _, _, _, true, rfl, .ty _, (.base (.bl b)), kit_ty (by decide +kernel), _, rfl, iteT ?_⟩
      exact ⟨_, rfl, _, _, _, _, true, rfl, .ty _, (.base (.bl b)), kit_ty (by decide +kernel), _, rfl, iteT ⟨_, rfl, _, rfl, rfl, qd (Q := Q) rfl (q H (Same.refl H))⟩⟩
    | int i =>
      cases hx
      refine iteD (fun h => nomatch h) (fun _ => ?_)
      refine ⟨_, rfl, _, _, _, _, false, rfl, .ty _, (.base (.int i)), kit_ty (by decide +kernel), _, rfl, iteF ?_⟩
      refine ⟨_, rfl, _, _, _, _, true, rfl, .ty _, (.base (.int i)), kit_ty (by decide +kernel), _, rfl, iteT ?_⟩
      refine ⟨_, rfl, _, _, _, _, true, rfl, .ty _, (.base (.int i)), kit_ty (by decide +kernel), _, rfl, iteT ?_⟩
      exact ⟨_, rfl, _, _, _, _, false, rfl, .ty _, (.base (.int i)), kit_ty (by decide +kernel), _, rfl, _, rfl, iteT ⟨_, rfl, _, rfl, rfl, qd (Q := Q) rfl (q H (Same.refl H))⟩⟩
    | str i =>
      cases hx
      refine iteD (fun h => nomatch h) (fun _ => ?_)
      refine ⟨_, rfl, _, _, _, _, false, rfl, .ty _, (.base (.str i)), kit_ty (by decide +kernel), _, rfl, iteF ?_⟩
      refine ⟨_, rfl, _, _, _, _, false, rfl, .ty _, (.base (.str i)), kit_ty (by decide +kernel), _, rfl, iteF ?_⟩
      refine ⟨_, rfl, _, _, _, _, true, rfl, .ty _, (.base (.str i)), kit_ty (by decide +kernel), _, rfl, iteT ?_⟩
      exact ⟨_, rfl, _, _, _, _, true, rfl, .ty _, (.base (.str i)), kit_ty (by decide +kernel), _, rfl, iteT ⟨_, rfl, _, rfl, rfl, qd (Q := Q) rfl (q H (Same.refl H))⟩⟩
    | @lst b ys ds sy ay =>
      cases hx with
      | @lst a xs _ sx ax =>
      cases hn with
      | list m _ hl hd =>
      have tx := tyx_list sx
      have ty := tyx_list sy
      refine iteD (fun h => nomatch h) (fun _ => ?_)
      refine ⟨_, rfl, _, _, _, _, false, rfl, .ty _, ty, kit_ty (by decide +kernel), _, rfl, iteF ?_⟩
      refine ⟨_, rfl, _, _, _, _, false, rfl, .ty _, ty, kit_ty (by decide +kernel), _, rfl, iteF ?_⟩
      refine ⟨_, rfl, _, _, _, _, false, rfl, .ty _, ty, kit_ty (by decide +kernel), _, rfl, iteF ?_⟩
      refine ⟨_, rfl, _, _, _, _, false, rfl, .ty _, ty, kit_ty (by decide +kernel), _, rfl, _, _, _, _, false, rfl, .ty _, tx, kit_ty (by decide +kernel), rfl, _, rfl, iteF ?_⟩
      refine ⟨_, rfl, _, _, _, _, true, rfl, .ty _, ty, kit_ty (by decide +kernel), _, rfl, _, _, _, _, true, rfl, .ty _, tx, kit_ty (by decide +kernel), rfl, _, rfl, iteF ?_⟩
      refine ⟨_, rfl, a, _, rfl, Or.inl sx, _, rfl, b, _, rfl, Or.inl sy, rfl, _, rfl, ?_⟩
      have lx := DpAll.len ax
      have ly := DpAll.len ay
      refine iteN (fun h => absurd (by rw [lx, ly]) h) (fun _ => ?_)
      refine ⟨_, rfl, b, _, rfl, Or.inl sy, _, rfl, by omega, by rw [ly]; omega, fun L hL => lc_range (lo := 0) (n := ys.length) (fun i H' => Same H H' ∧ H' L = some (.lst ((List.replicate i true).map V.bl))) ⟨Same.newB hL, upd_same⟩ ?_ ?_⟩
      · rintro i H' hi ⟨s1, e1⟩
        obtain ⟨v, d1, hv, hd1, p1⟩ := DpAll.get (i := i) ax (by omega)
        obtain ⟨u, d2, hu, hd2, p2⟩ := DpAll.get (i := i) ay (by omega)
        obtain rfl : d1 = d2 := Option.some.inj (hd1.symm.trans hd2)
        have e0 : (0 : Int) + (i : Int) = (i : Int) := Int.zero_add _
        refine ⟨rfl, _, rfl, _, rfl, Or.inl ⟨a, _, _, v, rfl, rfl, s1.seq sx, by rw [e0]; exact atI_nat hv, _, rfl, _, rfl, Or.inl ⟨b, _, _, u, rfl, rfl, s1.seq sy, by rw [e0]; exact atI_nat hu, ?_⟩⟩⟩
        refine ⟨v, u, d1, rfl, Dp.same s1 _ _ p1, Dp.same s1 _ _ p2, hd d1 (List.mem_of_getElem? hd1), fun H2 s2 => ?_⟩
        refine ⟨_, s2 _ _ e1, szlt (by rw [List.length_map, List.length_replicate]; omega), (s1.trans s2).mutB hL, ?_⟩
        rw [upd_same, List.replicate_succ', List.map_append]
        rfl
      · rintro H' ⟨s1, e1⟩
        refine ⟨L, _, rfl, SqL.of e1, ?_⟩
        have e : (List.replicate ys.length true).all id = true := by simp
        show Q (.bl ((List.replicate ys.length true).all id)) H'
        rw [e]
        exact q H' s1
    | @tup b ys ds sy ay =>
      cases hx with
      | @tup a xs _ sx ax =>
      cases hn with
      | tuple m _ hl hd =>
      have tx := tyx_tup sx
      have ty := tyx_tup sy
      refine iteD (fun h => nomatch h) (fun _ => ?_)
      refine ⟨_, rfl, _, _, _, _, false, rfl, .ty _, ty, kit_ty (by decide +kernel), _, rfl, iteF ?_⟩
      refine ⟨_, rfl, _, _, _, _, false, rfl, .ty _, ty, kit_ty (by decide +kernel), _, rfl, iteF ?_⟩
      refine ⟨_, rfl, _, _, _, _, false, rfl, .ty _, ty, kit_ty (by decide +kernel), _, rfl, iteF ?_⟩
      refine ⟨_, rfl, _, _, _, _, true, rfl, .ty _, ty, kit_ty (by decide +kernel), _, rfl, _, _, _, _, true, rfl, .ty _, tx, kit_ty (by decide +kernel), rfl, _, rfl, iteF ?_⟩
      refine ⟨_, rfl, _, _, _, _, false, rfl, .ty _, ty, kit_ty (by decide +kernel), _, rfl, _, _, _, _, false, rfl, .ty _, tx, kit_ty (by decide +kernel), rfl, _, rfl, iteF ?_⟩
      refine ⟨_, rfl, a, _, rfl, Or.inr sx, _, rfl, b, _, rfl, Or.inr sy, rfl, _, rfl, ?_⟩
      have lx := DpAll.len ax
      have ly := DpAll.len ay
      refine iteN (fun h => absurd (by rw [lx, ly]) h) (fun _ => ?_)
      refine ⟨_, rfl, b, _, rfl, Or.inr sy, _, rfl, by omega, by rw [ly]; omega, fun L hL => lc_range (lo := 0) (n := ys.length) (fun i H' => Same H H' ∧ H' L = some (.lst ((List.replicate i true).map V.bl))) ⟨Same.newB hL, upd_same⟩ ?_ ?_⟩
      · rintro i H' hi ⟨s1, e1⟩
        obtain ⟨v, d1, hv, hd1, p1⟩ := DpAll.get (i := i) ax (by omega)
        obtain ⟨u, d2, hu, hd2, p2⟩ := DpAll.get (i := i) ay (by omega)
        obtain rfl : d1 = d2 := Option.some.inj (hd1.symm.trans hd2)
        have e0 : (0 : Int) + (i : Int) = (i : Int) := Int.zero_add _
        refine ⟨rfl, _, rfl, _, rfl, Or.inr (Or.inl ⟨a, _, _, v, rfl, rfl, s1.tupB sx, by rw [e0]; exact atI_nat hv, _, rfl, _, rfl, Or.inr (Or.inl ⟨b, _, _, u, rfl, rfl, s1.tupB sy, by rw [e0]; exact atI_nat hu, ?_⟩)⟩)⟩
        refine ⟨v, u, d1, rfl, Dp.same s1 _ _ p1, Dp.same s1 _ _ p2, hd d1 (List.mem_of_getElem? hd1), fun H2 s2 => ?_⟩
        refine ⟨_, s2 _ _ e1, szlt (by rw [List.length_map, List.length_replicate]; omega), (s1.trans s2).mutB hL, ?_⟩
        rw [upd_same, List.replicate_succ', List.map_append]
        rfl
      · rintro H' ⟨s1, e1⟩
        refine ⟨L, _, rfl, SqL.of e1, ?_⟩
        have e : (List.replicate ys.length true).all id = true := by simp
        show Q (.bl ((List.replicate ys.length true).all id)) H'
        rw [e]
        exact q H' s1
end
end Bw

set_option Elab.async false
set_option linter.all false
set_option maxRecDepth 100000
set_option maxHeartbeats 4000000
namespace Bw
open PySem PySem.Spec PyProof.Rows L2
section
variable {P : Program} {w : World} {K : PySem.W.Frag} {mg : Str → Option Value} {base : Heap} {f : Addr} {fd : FuncData}
theorem pick6 {r : Int} (h0 : 0 ≤ r) (h1 : r < 6) : ∃ e : Nat, 1 ≤ e ∧ e ≤ 4 ∧ atI [V.int 1, V.int 2, V.int 3, V.int 4, V.int 2, V.int 3] r = some (V.int (e : Int)) := by
  obtain ⟨n, rfl⟩ := Int.eq_ofNat_of_zero_le h0
  have h : n = 0 ∨ n = 1 ∨ n = 2 ∨ n = 3 ∨ n = 4 ∨ n = 5 := by omega
  rcases h with rfl | rfl | rfl | rfl | rfl | rfl
  · exact ⟨1, by omega, by omega, atI_nat (j := 0) rfl⟩
  · exact ⟨2, by omega, by omega, atI_nat (j := 1) rfl⟩
  · exact ⟨3, by omega, by omega, atI_nat (j := 2) rfl⟩
  · exact ⟨4, by omega, by omega, atI_nat (j := 3) rfl⟩
  · exact ⟨2, by omega, by omega, atI_nat (j := 4) rfl⟩
  · exact ⟨3, by omega, by omega, atI_nat (j := 5) rfl⟩
theorem ok__law_line (F : FnP K "_law_line" s__law_line f fd) (g_int : mg "int" = none) (h__law_off : Has P w K mg base 1 "_law_off" p__law_off spOff) : FnOk P w K mg base CX0 2 f fd ["_law_d"] spLine := by
  refine F.ok sc__law_line (fun vs H Q E h => ?_) (fun cdv A outer s H vs Q E hr h => ?_)
  · obtain ⟨d, rfl, _⟩ := h
    rfl
  · obtain ⟨d, rfl, hd, k⟩ := h
    refine ⟨_, PSs.nox (pss_cons (ps_set (i := 1) sc__law_line.nd rfl (Or.inl rfl) (pe_ix ix_list (pe_lst (pa_cons pe_int (pa_cons pe_int (pa_cons pe_int (pa_cons pe_int (pa_cons pe_int (pa_cons pe_int pa_nil))))))) (pe_fn h__law_off hr rfl (pa_cons (pv 0) (pa_cons pe_int pa_nil))) (fun _ _ => rfl)))
        (pss_cons (ps_set (i := 2) sc__law_line.nd rfl (Or.inl rfl) (pe_fn h__law_off hr rfl (pa_cons (pv 0) (pa_cons pe_int pa_nil))))
        (pss_one (ps_ret (pe_tup (pa_cons (pv 1) (pa_cons (pv 2) (pa_cons (pe_op op_mul (pe_fn h__law_off hr rfl (pa_cons (pv 0) (pa_cons pe_int pa_nil))) (pe_callTy call_int1 (by rfl) g_int (by decide +kernel) (pa_cons (pe_or (pe_cmpR op_gt (pv 1) pe_int (nomark _)) (pe_one (pe_cmpR op_lt (pv 2) pe_int (nomark _)))) pa_nil))) pa_nil)))))))), ?_⟩
    refine ⟨szle (Nat.le_of_ble_eq_true rfl), fun u hu => ⟨_, rfl, d, 6, rfl, hd.same (Same.newB hu), by decide, by decide, fun r1 H1 h1 g1 D1 => ?_⟩⟩
    have D1' : Dr d H H1 := (Dr.ofSame hd (Same.newB hu)).trans D1
    obtain ⟨e, he1, he4, hat⟩ := pick6 h1 g1
    refine ⟨u, _, _, _, rfl, rfl, SqL.of (D1.keep _ _ (hd.ne hu) upd_same), hat, ?_⟩
    refine ⟨_, rfl, d, 4, rfl, D1.dice, by decide, by decide, fun r2 H2 h2 g2 D2 => ?_⟩
    refine ⟨_, rfl, _, rfl, _, rfl, d, 3, rfl, D2.dice, by decide, by decide, fun r3 H3 h3 g3 D3 => ?_⟩
    have D := (D1'.trans D2).trans D3
    have fin : ∀ b : Bool, (b = false → ¬ ((e : Int) > 1) ∧ ¬ (r2 < 3)) → (b = true → (e : Int) > 1 ∨ r2 < 3) → ∀ p, H3 p = none → Q (.ref p) (upd H3 p (.tup [.int e, .int r2, .int (r3 * b2i b)])) := by
      intro b hb hb' p hp
      have hz : ∃ z : Nat, r3 * b2i b = (z : Int) ∧ z ≤ 2 ∧ (b = false → z = 0) := by
        cases b with
        | false => exact ⟨0, by show r3 * 0 = 0; omega, by omega, fun _ => rfl⟩
        | true => exact ⟨r3.toNat, by show r3 * 1 = _; omega, by omega, fun h => nomatch h⟩
      obtain ⟨z, ez, hz2, hz0⟩ := hz
      refine k ⟨e, r2.toNat, z⟩ p _ ⟨he1, he4, by show r2.toNat ≤ 3; omega, hz2⟩ (fun h1 h2 => ?_) (D.new hp) (D.free hp) ?_
      · have h1' : e = 1 := h1
        have h2' : r2.toNat = 3 := h2
        cases b with
        | false => exact hz0 rfl
        | true => exact absurd (hb' rfl) (by omega)
      · show _ = some (HO.tup [.int (e : Int), .int ((r2.toNat : Nat) : Int), .int (z : Int)])
        rw [ez, upd_same]
        have e2 : ((r2.toNat : Nat) : Int) = r2 := by omega
        rw [e2]
    refine ⟨_, rfl, _, _, rfl, rfl, _, rfl, iteD (fun hc => ?_) (fun hc => ?_)⟩
    · refine Or.inr ⟨_, rfl, ⟨_, _, rfl, rfl, Or.inl ⟨by omega, by omega⟩, ?_⟩⟩
      exact ⟨szle (Nat.le_of_ble_eq_true rfl), fin true (fun h => nomatch h) (fun _ => .inl hc)⟩
    · refine ⟨_, rfl, _, _, rfl, rfl, Or.inr ⟨_, rfl, ⟨_, _, rfl, rfl, Or.inl ⟨by omega, by omega⟩, ?_⟩⟩⟩
      refine ⟨szle (Nat.le_of_ble_eq_true rfl), fin _ (fun h => ⟨hc, of_decide_eq_false h⟩) (fun h => .inr (of_decide_eq_true h))⟩
end
end Bw

set_option Elab.async false
set_option linter.all false
set_option maxRecDepth 100000
set_option maxHeartbeats 4000000
namespace Bw
open PySem PySem.Spec PyProof.Rows L2
section
variable {P : Program} {w : World} {K : PySem.W.Frag} {mg : Str → Option Value} {base : Heap} {f : Addr} {fd : FuncData}
theorem ok__law_rule (F : FnP K "_law_rule" s__law_rule f fd) (h__law_off : Has P w K mg base 1 "_law_off" p__law_off spOff) : FnOk P w K mg base CX0 2 f fd ["_law_d"] spRule := by
  refine F.ok sc__law_rule (fun vs H Q E h => ?_) (fun cdv A outer s H vs Q E hr h => ?_)
  · obtain ⟨d, rfl, _⟩ := h
    rfl
  · obtain ⟨d, rfl, hd, k⟩ := h
    refine ⟨_, PSs.nox (pss_cons (ps_if (pt_cmpR op_eq (pe_fn h__law_off hr rfl (pa_cons (pv 0) (pa_cons pe_int pa_nil))) pe_int (nomark _))
          (pss_one (ps_ret (pe_tup (pa_cons pe_str (pa_cons (pe_op op_add pe_int (pe_fn h__law_off hr rfl (pa_cons (pv 0) (pa_cons pe_int pa_nil)))) pa_nil)))))
          pss_nil)
        (pss_one (ps_ret (pe_tup (pa_cons pe_str (pa_cons (pe_op op_add pe_int (pe_fn h__law_off hr rfl (pa_cons (pv 0) (pa_cons pe_int pa_nil)))) (pa_cons (pe_op op_add pe_int (pe_fn h__law_off hr rfl (pa_cons (pv 0) (pa_cons pe_int pa_nil)))) pa_nil))))))), ?_⟩
    refine ⟨_, rfl, d, 2, rfl, hd, by decide, by decide, fun r1 H1 h1 g1 D1 => ⟨rfl, _, rfl, iteD (fun _ => ?_) (fun _ => ?_)⟩⟩
    · refine ⟨_, rfl, d, 12, rfl, D1.dice, by decide, by decide, fun r2 H2 h2 g2 D2 => ⟨_, _, rfl, rfl, szle (Nat.le_of_ble_eq_true rfl), fun p hp => ?_⟩⟩
      have D3 := D1.trans D2
      have e : (((1 + r2).toNat : Nat) : Int) = 1 + r2 := by omega
      refine k (.since (1 + r2).toNat) p _ ⟨by omega, by omega⟩ (D3.new hp) (D3.free hp) ?_
      show _ = some (HO.tup [.str "since", .int (((1 + r2).toNat : Nat) : Int)])
      rw [e]
      exact upd_same
    · refine ⟨_, rfl, d, 5, rfl, D1.dice, by decide, by decide, fun r2 H2 h2 g2 D2 => ⟨_, _, rfl, rfl, ?_⟩⟩
      refine ⟨_, rfl, d, 3, rfl, D2.dice, by decide, by decide, fun r3 H3 h3 g3 D3 => ⟨_, _, rfl, rfl, szle (Nat.le_of_ble_eq_true rfl), fun p hp => ?_⟩⟩
      have D4 := (D1.trans D2).trans D3
      have e : (((1 + r2).toNat : Nat) : Int) = 1 + r2 := by omega
      have e' : (((1 + r3).toNat : Nat) : Int) = 1 + r3 := by omega
      refine k (.few (1 + r2).toNat (1 + r3).toNat) p _ ⟨by omega, by omega, by omega, by omega⟩ (D4.new hp) (D4.free hp) ?_
      show _ = some (HO.tup [.str "few", .int (((1 + r2).toNat : Nat) : Int), .int (((1 + r3).toNat : Nat) : Int)])
      rw [e, e']
      exact upd_same
end
end Bw

set_option Elab.async false
set_option linter.all false
set_option maxRecDepth 100000
set_option maxHeartbeats 4000000
namespace Bw
open PySem PySem.Spec PyProof.Rows L2
section
variable {P : Program} {w : World} {K : PySem.W.Frag} {mg : Str → Option Value} {base : Heap} {f : Addr} {fd : FuncData}
theorem ok__law_run (F : FnP K "_law_run" s__law_run f fd) (g_len : mg "len" = none) (g_range : mg "range" = none) (h__law_off : Has P w K mg base 1 "_law_off" p__law_off spOff) : FnOk P w K mg base CX0 2 f fd p__law_run (spRun K) := by
  refine F.ok sc__law_run (fun vs H Q E h => ?_) (fun cdv A outer s H vs Q E hr h => ?_)
  · obtain ⟨d, lp, l, th, mo, rfl, _⟩ := h
    rfl
  · obtain ⟨d, lp, l, th, mo, rfl, hd, hl, lo, hth, hmo, k⟩ := h
    refine ⟨_, PSs.nox (pss_cons (ps_set (i := 4) sc__law_run.nd rfl (Or.inl rfl) (pe_op op_rep (pe_lst (pa_cons pe_int pa_nil)) (pe_op op_add (pv 2) (pv 3))))
        (pss_cons (ps_set (i := 5) sc__law_run.nd rfl (Or.inl rfl) (pe_op op_add pe_int (pe_fn h__law_off hr rfl (pa_cons (pv 0) (pa_cons pe_int pa_nil)))))
        (pss_cons (ps_set (i := 6) sc__law_run.nd rfl (Or.inl rfl) pe_int)
        (pss_cons (ps_for PassesOwn.never rfl (pi_range3 rfl g_range (pa_cons pe_int (pa_cons (pv 2) (pa_cons (pe_ix ix_tup (pv 1) pe_int (fun _ _ => rfl)) pa_nil)))) (pg_name (i := 7) sc__law_run.nd rfl (Or.inl rfl))
          (pss_one (ps_if (pt_cut (PW.pt (pw_and (pt_cmpR op_lt (pv 6) (pe_ix ix_tup (pv 1) pe_int (fun _ _ => rfl)) (nomark _)) (pw_and1 (pt_cmpR op_eq (pe_fn h__law_off hr rfl (pa_cons (pv 0) (pa_cons (pv 5) pa_nil))) pe_int (nomark _))))))
            (pss_one (ps_set (i := 6) sc__law_run.nd rfl (Or.inl rfl) (pe_op op_add (pv 6) pe_int)))
            (pss_cons (ps_set (i := 6) sc__law_run.nd rfl (Or.inl rfl) pe_int)
              (pss_cons (ps_set (i := 8) sc__law_run.nd rfl (Or.inl rfl) (pe_op op_add (pv 7) (pe_ix ix_list (pe_lst (pa_cons (pe_fn h__law_off hr rfl (pa_cons (pv 0) (pa_cons (pe_op op_add (pe_ix ix_tup (pv 1) pe_int (fun _ _ => rfl)) pe_int) pa_nil))) (pa_cons pe_int (pa_cons (pe_ix ix_tup (pv 1) pe_int (fun _ _ => rfl)) pa_nil)))) (pe_fn h__law_off hr rfl (pa_cons (pv 0) (pa_cons pe_int pa_nil))) (fun _ _ => rfl))))
              (pss_one (ps_if (pt_cmpR op_lt (pv 8) (pe_callB call_len_seq (by rfl) g_len (by decide +kernel) (pa_cons (pv 4) pa_nil)) (nomark _))
                (pss_one (ps_asg (pe_op op_add (pe_ix ix_list (pv 4) (pv 8) (fun _ _ => rfl)) pe_int) (pg_sub (pv 4) (pv 8) set_list)))
                pss_nil)))))))
        (pss_one (ps_ret (pv 4))))))), ?_⟩
    have hE := lo.e1
    have hE4 := lo.e4
    have hL3 := lo.l3
    refine ⟨szle (Nat.le_of_ble_eq_true rfl), fun z nz => ⟨_, rfl, _, rfl, _, _, rfl, rfl, ?_⟩⟩
    refine ⟨z, _, [V.int 0], rfl, rfl, upd_same, by omega, by omega, szle (by show 1 * ((th : Int) + (mo : Int)).toNat ≤ _; omega), fun hp nhp => ?_⟩
    have sA : Same H (upd (upd H z (.lst [.int 0])) hp (.lst (List.replicate ((th : Int) + (mo : Int)).toNat [V.int 0]).flatten)) := (Same.newB nz).moreB nhp
    have eR : (List.replicate ((th : Int) + (mo : Int)).toNat [V.int 0]).flatten = (heardOf l.each [] (th + mo)).map V.int := by
      have e0 : ((th : Int) + (mo : Int)).toNat = th + mo := by omega
      rw [e0, heardOf_nil]
      generalize th + mo = n
      induction n with
      | zero => rfl
      | succ n ih => rw [List.replicate_succ, List.replicate_succ, List.flatten_cons, List.map_cons, ih]; rfl
    rw [eR] at sA ⊢
    have nhp0 : H hp = none := (Same.newB nz).free nhp
    have hpd : hp ≠ d := hd.ne nhp0
    have hA : upd (upd H z (.lst [.int 0])) hp (.lst ((heardOf l.each [] (th + mo)).map V.int)) hp = some (.lst ((heardOf l.each [] (th + mo)).map V.int)) := upd_same
    revert sA hA
    generalize upd (upd H z (.lst [.int 0])) hp (.lst ((heardOf l.each [] (th + mo)).map V.int)) = HA
    intro sA hA
    have dA : Dr d H HA := Dr.ofSame hd sA
    refine ⟨_, rfl, d, 3, rfl, dA.dice, by decide, by decide, fun r0 HB h0 g0 DB => ⟨_, _, rfl, rfl, ?_⟩⟩
    have dB : Dr d H HB := dA.trans DB
    have hB := DB.keep _ _ hpd hA
    refine ⟨_, rfl, _, rfl, lp, _, _, _, rfl, rfl, dB.tup hd hl, atI_nat (j := 0) rfl, 0, (th : Int), (l.each : Int), (th + l.each - 1) / l.each, rfl, rgc_up (by omega) ⟨hE, hE4⟩, ?_⟩
    refine for_rangeC (lo := 0) (c := (l.each : Int)) (n := (th + l.each - 1) / l.each) (fun i σ H' => Dr d H H' ∧ ∃ (r : Nat) (os : List (Option Nat)) (v7 v8 : Option V), σ = [some (.ref d), some (.ref lp), some (.int th), some (.int mo), some (.ref hp), some (.int (2 + r0)), some (.int r), v7, v8] ∧ Outs l r os ∧ os.length = i ∧ H' hp = some (.lst ((heardOf l.each os (th + mo)).map V.int))) ?_ ?_ ?_
    · exact ⟨dB, 0, [], none, none, rfl, .nil, rfl, hB⟩
    · rintro i σ H' hi ⟨dC, r, os, v7, v8, rfl, hO, hlen, hH⟩
      refine ⟨fun b H2 => Dr d H H2 ∧ H2 hp = some (.lst ((heardOf l.each os (th + mo)).map V.int)) ∧ (b = true → r < l.lost), ?_, ?_⟩
      · refine ⟨_, rfl, _, rfl, lp, _, _, _, rfl, rfl, dC.tup hd hl, atI_nat (j := 2) rfl, _, _, rfl, rfl, _, rfl, iteD (fun h => ?_) (fun h => ⟨dC, hH, fun z => nomatch z⟩)⟩
        refine ⟨_, rfl, _, rfl, d, _, rfl, dC.dice, by omega, by omega, fun r1 H2 h1 g1 D2 => ⟨rfl, _, rfl, ?_⟩⟩
        exact ⟨dC.trans D2, D2.keep _ _ hpd hH, fun _ => by omega⟩
      · rintro b H2 ⟨d2, h2, hb⟩
        cases b with
        | true =>
          refine iteT ⟨_, rfl, _, _, rfl, rfl, ?_⟩
          refine ⟨d2, r + 1, os ++ [none], _, _, rfl, .lose hO (hb rfl), by rw [List.length_append, hlen]; rfl, ?_⟩
          rw [heardOf_lose]
          exact h2
        | false =>
          refine iteF ⟨_, rfl, _, rfl, _, rfl, lp, _, _, _, rfl, rfl, d2.tup hd hl, atI_nat (j := 1) rfl, _, _, rfl, rfl, d, _, rfl, d2.dice, by omega, by omega, fun r1 H3 h1 g1 D3 => ?_⟩
          have d3 := d2.trans D3
          refine ⟨_, rfl, lp, _, _, _, rfl, rfl, d3.tup hd hl, atI_nat (j := 1) rfl, szle (Nat.le_of_ble_eq_true rfl), fun li nli => ?_⟩
          have d4 : Dr d H (upd H3 li (.lst [.int r1, .int 0, .int l.late])) := d3.new nli
          refine ⟨_, rfl, d, 3, rfl, d4.dice, by decide, by decide, fun r2 H5 h2' g2 D5 => ?_⟩
          have d5 := d4.trans D5
          have hli : H5 li = some (.lst [.int r1, .int 0, .int l.late]) := D5.keep _ _ (d3.dice.ne nli) upd_same
          have h5 : H5 hp = some (.lst ((heardOf l.each os (th + mo)).map V.int)) := D5.keep _ _ hpd ((Same.newB nli) _ _ (D3.keep _ _ hpd h2))
          obtain ⟨dd, hdd, hat⟩ : ∃ dd : Nat, dd ≤ l.late ∧ atI [V.int r1, V.int 0, V.int l.late] r2 = some (V.int (dd : Int)) := by
            obtain ⟨v, hv, he⟩ := pickL (xs := [V.int r1, V.int 0, V.int l.late]) h2' g2
            rcases List.mem_cons.mp hv with rfl | hv
            · exact ⟨r1.toNat, by omega, by rw [he]; congr 2; omega⟩
            rcases List.mem_cons.mp hv with rfl | hv
            · exact ⟨0, by omega, he⟩
            rcases List.mem_cons.mp hv with rfl | hv
            · exact ⟨l.late, by omega, he⟩
            · cases hv
          refine ⟨li, _, _, _, rfl, rfl, SqL.of hli, hat, _, _, rfl, rfl, ?_⟩
          have ei : (0 : Int) + (i : Int) * (l.each : Int) + (dd : Int) = ((os.length * l.each + dd : Nat) : Int) := by
            rw [hlen]
            push_cast
            omega
          refine ⟨_, rfl, _, rfl, hp, _, rfl, Or.inl (SqL.of h5), _, _, rfl, rfl, _, rfl, ?_⟩
          refine iteD (fun h => ?_) (fun h => ?_)
          · rw [List.length_map, heardOf_len, ei] at h
            have h' : os.length * l.each + dd < th + mo := by omega
            refine ⟨_, rfl, _, rfl, hp, _, _, _, rfl, rfl, SqL.of h5, by rw [ei]; exact atI_nat (by rw [List.getElem?_map, heardOf_at h']; rfl), _, _, rfl, rfl, ?_⟩
            refine ⟨_, rfl, _, rfl, hp, _, _, _, rfl, rfl, h5, by rw [ei]; exact ixN_nat (by rw [List.length_map, heardOf_len]; exact h'), ?_⟩
            refine ⟨⟨?_, fun b o nb hb => ?_⟩, 0, os ++ [some dd], _, _, rfl, .hear hO dd hdd, by rw [List.length_append, hlen]; rfl, ?_⟩
            · obtain ⟨ds, a1, a2⟩ := d5.dice
              exact ⟨ds, by rw [upd_ne (Ne.symm hpd)]; exact a1, a2⟩
            · rw [upd_ne (ne_of_none hb nhp0)]
              exact d5.keep b o nb hb
            · rw [upd_same, heardOf_in h', List.map_set]
          · rw [List.length_map, heardOf_len, ei] at h
            have h' : ¬ os.length * l.each + dd < th + mo := by omega
            refine ⟨d5, 0, os ++ [some dd], _, _, rfl, .hear hO dd hdd, by rw [List.length_append, hlen]; rfl, ?_⟩
            rw [heardOf_out h']
            exact h5
    · rintro σ H' ⟨dC, r, os, v7, v8, rfl, hO, hlen, hH⟩
      exact ⟨_, rfl, k r os hp H' hO hlen dC nhp0 hH⟩
end
end Bw

set_option Elab.async false
set_option linter.all false
set_option maxRecDepth 100000
set_option maxHeartbeats 4000000
namespace Bw
open PySem PySem.Spec PyProof.Rows L2
section
variable {P : Program} {w : World} {K : PySem.W.Frag} {mg : Str → Option Value} {base : Heap} {f : Addr} {fd : FuncData}
theorem ok_need_heard {t1 t2 : Tok} (F : FnP K "need_heard" s_need_heard f fd) (g_enumerate : mg "enumerate" = none) (g_MOST_MOMENTS : mg "MOST_MOMENTS" = some (.int 200 t1)) (g_MOST_HEARD : mg "MOST_HEARD" = some (.int 9 t2)) : FnOk P w K mg base CX0 1 f fd ["heard"] (spNeedHeard K) := by
  refine F.ok sc_need_heard (fun vs H Q E h => ?_) (fun cdv A outer s H vs Q E hr h => ?_)
  · obtain ⟨l, hs, rfl, _⟩ := h
    rfl
  · obtain ⟨l, hs, rfl, hl, ho, k⟩ := h
    refine ⟨_, PSs.nox (pss_one (ps_for PassesOwn.never rfl (pi_enum (by rfl) g_enumerate (pa_cons (pv 0) pa_nil)) (pg_tup rfl (pgs_cons (pg_name (i := 1) sc_need_heard.nd rfl (Or.inl rfl)) (pgs_cons (pg_name (i := 2) sc_need_heard.nd rfl (Or.inl rfl)) pgs_nil)))
        (pss_one (ps_if (PW.pt (pw_or (pt_cmpR op_ge (pv 1) (pe_gI rfl g_MOST_MOMENTS) (nomark _)) (pw_or1 (pt_not (pt_chain op_le op_le pe_int (pv 2) (pe_gI rfl g_MOST_HEARD))))))
          (pss_one ps_never)
          pss_nil)))), ?_⟩
    refine ⟨_, rfl, l, _, rfl, hl, for_enum (K := K) (a := l) (xs := hs.map V.int) (fun i σ H' => Same H H' ∧ ∃ v1 v2, σ = [some (.ref l), v1, v2]) ⟨Same.refl H, none, none, rfl⟩ (fun i σ H' _ ⟨s1, _⟩ => s1.seq hl) ?_ ?_⟩
    · rintro i y σ H' T hi ⟨s1, v1, v2, rfl⟩ nT
      have hil := (List.getElem?_eq_some_iff.mp hi).1
      rw [List.length_map] at hil
      obtain ⟨c, hc, rfl⟩ := int_at hi
      have hb := ho.2 c (List.mem_of_getElem? hc)
      have hn := ho.1
      refine ⟨T, _, rfl, SqT.of upd_same, rfl, _, _, rfl, _, _, rfl, rfl, ?_⟩
      refine ⟨_, rfl, _, _, rfl, rfl, _, rfl, iteD (fun h => absurd h (by omega)) (fun _ => ?_)⟩
      refine ⟨_, rfl, _, _, rfl, rfl, _, rfl, iteD (fun _ => ?_) (fun h => absurd hb.1 h)⟩
      refine ⟨_, _, rfl, rfl, _, rfl, ?_⟩
      rw [decide_eq_true hb.2]
      exact iteF ⟨s1.moreB nT, _, _, rfl⟩
    · rintro σ H' ⟨s1, v1, v2, rfl⟩
      exact k _ s1
end
end Bw

set_option Elab.async false
set_option linter.all false
set_option maxRecDepth 100000
set_option maxHeartbeats 4000000
namespace Bw
open PySem PySem.Spec PyProof.Rows L2
section
variable {P : Program} {w : World} {K : PySem.W.Frag} {mg : Str → Option Value} {base : Heap} {f : Addr} {fd : FuncData}
theorem ok_Watcher___init__ {C : Addr} (F : FnQ K "__init__" "Watcher.__init__" s_Watcher___init__ f fd) (T : WTxt K C) (h_need_rule : Has P w K mg base 2 "need_rule" ["rule"] (spNeedRule K)) (h_first_state : Has P w K mg base 1 "first_state" ["rule"] (spFirst K)) : FnOk P w K mg base CX0 3 f fd p_Watcher___init__ (spWInit K C) := by
  refine F.ok sc_Watcher___init__ (fun vs H Q E h => ?_) (fun cdv A outer s H vs Q E hr h => ?_)
  · obtain ⟨x, q, dx, r, rfl, _⟩ := h
    rfl
  · obtain ⟨x, q, dx, r, rfl, hx, hq, ho, k⟩ := h
    refine ⟨_, PSs.nox (pss_cons (ps_expr (pe_fn h_need_rule hr rfl (pa_cons (pv 1) pa_nil)))
        (pss_cons (ps_fld (pv 0) (pv 1) rfl)
        (pss_one (ps_fld (pv 0) (pe_fn h_first_state hr rfl (pa_cons (pv 1) pa_nil)) rfl)))), ?_⟩
    refine ⟨_, rfl, q, r, rfl, hq, ho, ?_⟩
    refine ⟨_, rfl, _, rfl, x, C, dx, _, rfl, hx, T.cl, T.nR, by decide, ?_⟩
    have hq1 : SqT K (upd H x (.ins C dx (putF "rule" (.ref q) []))) q r.vs := sq_tup_ne hq hx
    refine ⟨_, rfl, q, r, rfl, hq1, ho, fun t H1 s1 ht => ?_⟩
    refine ⟨_, rfl, x, C, dx, _, rfl, s1 _ _ upd_same, T.cl, T.nK, (by show 1 < 1000; decide), ?_⟩
    have hx1 := s1 _ _ (upd_same (H := H) (a := x) (o := .ins C dx (putF "rule" (.ref q) [])))
    refine k _ ⟨dx, q, t, ?_, ?_, ?_⟩ fun b o nb hb => ?_
    · rw [upd_same, wF_new]
    · exact sq_tup_ne (s1.tupB hq1) hx1
    · exact sq_tup_ne ht hx1
    · rw [upd_ne nb]
      refine s1 _ _ ?_
      rw [upd_ne nb]
      exact hb
theorem ok_Watcher_hear {C : Addr} (F : FnQ K "hear" "Watcher.hear" s_Watcher_hear f fd) (T : WTxt K C) (h_next_state : Has P w K mg base 1 "next_state" p_next_state (spNext K)) (h_is_gone : Has P w K mg base 1 "is_gone" p_is_gone (spGone K)) : FnOk P w K mg base CX0 2 f fd p_Watcher_hear (spHear K C) := by
  refine F.ok sc_Watcher_hear (fun vs H Q E h => ?_) (fun cdv A outer s H vs Q E hr h => ?_)
  · obtain ⟨x, m, r, st, rfl, _⟩ := h
    rfl
  · obtain ⟨x, m, r, st, rfl, hW, ho, hs, k⟩ := h
    obtain ⟨dx, q, t, hx, hq, ht⟩ := hW.ex
    refine ⟨_, PSs.nox (pss_cons (ps_fld (pv 0) (pe_fn h_next_state hr rfl (pa_cons (pe_fld (pv 0) rfl) (pa_cons (pe_fld (pv 0) rfl) (pa_cons (pv 1) pa_nil)))) rfl)
        (pss_one (ps_ret (pe_fn h_is_gone hr rfl (pa_cons (pe_fld (pv 0) rfl) (pa_cons (pe_fld (pv 0) rfl) pa_nil)))))), ?_⟩
    refine ⟨_, rfl, x, C, dx, _, _, rfl, hx, T.cl, T.nR, wF_rule _ _, _, rfl, x, C, dx, _, _, rfl, hx, T.cl, T.nK, wF_kept _ _, _, rfl, q, t, m, r, st, rfl, hq, ho, ht, hs, fun p H1 s1 hp => ?_⟩
    refine ⟨_, rfl, x, C, dx, _, rfl, s1 _ _ hx, T.cl, T.nK, (by show 2 < 1000; decide), ?_⟩
    have hx1 := s1 _ _ hx
    have hx2 : (upd H1 x (.ins C dx (putF "kept" (.ref p) (wF q t)))) x = some (.ins C dx (wF q p)) := by rw [wF_put]; exact upd_same
    have hq2 : SqT K (upd H1 x (.ins C dx (putF "kept" (.ref p) (wF q t)))) q r.vs := sq_tup_ne (s1.tupB hq) hx1
    have hp2 : SqT K (upd H1 x (.ins C dx (putF "kept" (.ref p) (wF q t)))) p ((nextS r st m).map V.int) := sq_tup_ne hp hx1
    refine ⟨_, rfl, x, C, dx, _, _, rfl, hx2, T.cl, T.nR, wF_rule _ _, _, rfl, x, C, dx, _, _, rfl, hx2, T.cl, T.nK, wF_kept _ _, q, p, r, _, rfl, hq2, ho, hp2, stOk_next r st m, ?_⟩
    refine k _ ⟨dx, q, p, hx2, hq2, hp2⟩ fun b o nb hb => ?_
    rw [upd_ne nb]
    exact s1 _ _ hb
end
end Bw

set_option Elab.async false
set_option linter.all false
set_option maxRecDepth 100000
set_option maxHeartbeats 4000000
namespace Bw
open PySem PySem.Spec PyProof.Rows L2
section
variable {P : Program} {w : World} {K : PySem.W.Frag} {mg : Str → Option Value} {base : Heap} {f : Addr} {fd : FuncData}
theorem ok_told {C : Addr} (F : FnP K "told" s_told f fd) (h_need_rule : Has P w K mg base 2 "need_rule" ["rule"] (spNeedRule K)) (h_need_heard : Has P w K mg base 1 "need_heard" ["heard"] (spNeedHeard K))
    (h_Watcher : HasC P w K mg base 3 "Watcher" C p_Watcher___init__ (spWInit K C)) (h_Watcher_hear : HasM P w K mg base 2 C "hear" p_Watcher_hear (spHear K C)) : FnOk P w K mg base CX0 5 f fd p_told (spTold K) := by
  refine F.ok sc_told (fun vs H Q E h => ?_) (fun cdv A outer s H vs Q E hr h => ?_)
  · obtain ⟨q, l, r, hs, rfl, _⟩ := h
    rfl
  · obtain ⟨q, l, r, hs, rfl, hq, ho, hl, hh, k⟩ := h
    refine ⟨_, PSs.nox (pss_cons (ps_expr (pe_fn h_need_rule hr rfl (pa_cons (pv 0) pa_nil)))
        (pss_cons (ps_expr (pe_fn h_need_heard hr rfl (pa_cons (pv 1) pa_nil)))
        (pss_cons (ps_set (i := 2) sc_told.nd rfl (Or.inr rfl) (pe_new h_Watcher hr rfl (pa_cons (pv 0) pa_nil)))
        (pss_one (ps_ret (pe_lc (own := [("many", 3)]) (g := gName 3) rfl sc_told.nd (pi_list (pv 1)) (blkOk_by (own := [("many", 3)]) (N := n_told) (sc := defScope s_told) (by decide +kernel)) (fun _ _ _ _ _ => (pg_name (i := 3) sc_told.nd rfl (Or.inl rfl))) (fun _ _ _ _ _ => pts_nil) (fun _ _ _ _ _ => (pe_mth h_Watcher_hear (pv 2) hr (pa_cons (pv 3) pa_nil))))))))), ?_⟩
    refine ⟨_, rfl, q, r, rfl, hq, ho, ?_⟩
    refine ⟨_, rfl, l, hs, rfl, hl, hh, fun H1 s1 => ?_⟩
    refine ⟨_, rfl, fun x dx nx ndx ne => ?_⟩
    have keep0 : Same H1 (upd (upd H1 dx (.own x)) x (.ins C dx [])) := (Same.newB ndx).moreB (by rw [upd_ne (Ne.symm ne)]; exact nx)
    refine ⟨x, q, dx, r, rfl, upd_same, keep0.tupB (s1.tupB hq), ho, fun H2 hW kp => ⟨rfl, ?_⟩⟩
    have s2 : Same H1 H2 := fun b o hb => kp b o (ne_of_none hb nx) (keep0 b o hb)
    have s3 : Same H H2 := s1.trans s2
    have nx0 : H x = none := s1.free nx
    have hn := hh.1
    refine ⟨_, rfl, l, rfl, ⟨_, s3.seq hl⟩, fun D hD => lc_list (K := K) (a := l) (xs := hs.map V.int) (fun i H' => Same H H' ∧ WAt K C H' x r (stOf r (hs.take i)) ∧ H' D = some (.lst (((List.range i).map fun j => goneH r (hs.take (j + 1))).map V.bl))) ⟨s3.moreB hD, hW.same (Same.newB hD), upd_same⟩ (fun i H' _ h => h.1.seq hl) ?_ ?_⟩
    · rintro i y H' hi ⟨s', hW', e'⟩
      have hil := (List.getElem?_eq_some_iff.mp hi).1
      rw [List.length_map] at hil
      obtain ⟨c, hc, rfl⟩ := int_at hi
      obtain ⟨dx', q', t', hx, _⟩ := hW'.ex
      have et : hs.take (i + 1) = hs.take i ++ [c] := by rw [List.take_succ, hc]; rfl
      refine ⟨rfl, _, rfl, x, dx', _, rfl, hx, wF_no _ _ (by decide +kernel) (by decide +kernel), _, rfl, x, c, r, _, rfl, hW', ho, stOk_of _ _, fun H3 hW3 kp3 => ?_⟩
      have xD : D ≠ x := ne_of e' hx (by intro z; cases z)
      have e3 := kp3 _ _ xD e'
      refine ⟨_, e3, szlt (by rw [List.length_map, List.length_map, List.length_range]; omega), ?_, ?_, ?_⟩
      · have s4 : Same H H3 := fun b o hb => kp3 b o (ne_of_none hb nx0) (s' b o hb)
        exact s4.mutB (s3.free hD)
      · rw [et, stOf_snoc]
        exact hW3.keep (keepL e3)
      · rw [upd_same, List.range_succ, List.map_append, List.map_append, ← stOf_snoc, gone_is r ho, ← et]
        rfl
    · rintro H' ⟨s', hW', e'⟩
      rw [List.length_map] at e'
      exact k D H' s' (s3.free hD) e'
end
end Bw

set_option Elab.async false
set_option linter.all false
set_option maxRecDepth 100000
set_option maxHeartbeats 4000000
namespace Bw
open PySem PySem.Spec PyProof.Rows L2
section
variable {P : Program} {w : World} {K : PySem.W.Frag} {mg : Str → Option Value} {base : Heap} {f : Addr} {fd : FuncData}
theorem ok_turns (F : FnP K "turns" s_turns f fd) (g_enumerate : mg "enumerate" = none) (h_told : Has P w K mg base 5 "told" p_told (spTold K)) : FnOk P w K mg base CX0 6 f fd p_turns (spTurns K) := by
  refine F.ok sc_turns (fun vs H Q E h => ?_) (fun cdv A outer s H vs Q E hr h => ?_)
  · obtain ⟨q, l, r, hs, rfl, _⟩ := h
    rfl
  · obtain ⟨q, l, r, hs, rfl, hq, ho, hl, hh, k⟩ := h
    refine ⟨_, PSs.nox (pss_cons (ps_set (i := 2) sc_turns.nd rfl (Or.inl rfl) (pe_lst pa_nil))
        (pss_cons (ps_set (i := 3) sc_turns.nd rfl (Or.inl rfl) pe_bl)
        (pss_cons (ps_for PassesOwn.never rfl (pi_enum (by rfl) g_enumerate (pa_cons (pe_fn h_told hr rfl (pa_cons (pv 0) (pa_cons (pv 1) pa_nil))) pa_nil)) (pg_tup rfl (pgs_cons (pg_name (i := 4) sc_turns.nd rfl (Or.inl rfl)) (pgs_cons (pg_name (i := 5) sc_turns.nd rfl (Or.inl rfl)) pgs_nil)))
          (Evl.pss_cut (ps_if (pt_cmpR op_ne (pv 5) (pv 3) (nomark _))
              (pss_one (ps_expr (pe_bm PySem.F.plainAttrs_list PySem.F.slot_list_append PySem.F.type_list_append mt_append (pv 2) (pa_cons (pe_tup (pa_cons (pv 4) (pa_cons (pe_ifExp (pt_val (pv 5)) pe_str pe_str) pa_nil))) pa_nil))))
              pss_nil)
            (pss_one (ps_set (i := 3) sc_turns.nd rfl (Or.inl rfl) (pv 5)))))
        (pss_one (ps_ret (pv 2)))))), ?_⟩
    refine ⟨szle (Nat.le_of_ble_eq_true rfl), fun fo nfo => ?_⟩
    have s0 : Same H (upd H fo (.lst [])) := Same.newB nfo
    refine ⟨_, rfl, _, rfl, q, l, r, hs, rfl, s0.tupB hq, ho, s0.seq hl, hh, fun tp H1 s1 np hp => ?_⟩
    have hn := hh.1
    have ntp0 : tp ≠ fo := Ne.symm (ne_of_none (upd_same (H := H) (a := fo) (o := .lst [])) np)
    generalize hB : toldOf r hs = bs at *
    have hbl : bs.length = hs.length := by rw [← hB, toldOf_len]
    refine ⟨tp, _, rfl, SqL.of hp, for_enum (K := K) (a := tp) (xs := bs.map V.bl) (fun i σ H' => Same H H' ∧ H' tp = some (.lst (bs.map V.bl)) ∧ ∃ xs v4 v5, σ = [some (.ref q), some (.ref l), some (.ref fo), some (.bl ((false :: bs).getD i false)), v4, v5] ∧ H' fo = some (.lst xs) ∧ DpAll K H' xs (turnsTo bs i)) ?_ (fun i σ H' _ h => SqL.of h.2.1) ?_ ?_⟩
    · exact ⟨s0.trans s1, hp, [], none, none, rfl, s1 _ _ upd_same, .nil⟩
    · rintro i y σ H' T hi ⟨s', e', xs, v4, v5, rfl, ef, hD⟩ nT
      have hil := (List.getElem?_eq_some_iff.mp hi).1
      rw [List.length_map] at hil
      obtain ⟨b, hb, rfl⟩ : ∃ b, bs[i]? = some b ∧ y = V.bl b := by
        rw [List.getElem?_map] at hi
        cases e : bs[i]? with
        | none => rw [e] at hi; cases hi
        | some z => rw [e] at hi; exact ⟨z, rfl, (Option.some.inj hi).symm⟩
      have hgd : bs.getD i false = b := by rw [List.getD_eq_getElem?_getD, hb]; rfl
      have hgd1 : (false :: bs).getD (i + 1) false = b := by rw [← hgd]; rfl
      have sT : Same H' (upd H' T (.tup [.int (i : Int), .bl b])) := Same.newB nT
      refine ⟨T, _, rfl, SqT.of upd_same, rfl, _, _, rfl, _, _, rfl, rfl, ?_⟩
      refine ⟨fun σ2 H2 => Same H H2 ∧ H2 tp = some (.lst (bs.map V.bl)) ∧ ∃ xs v4 v3, σ2 = [some (.ref q), some (.ref l), some (.ref fo), v3, v4, some (.bl b)] ∧ H2 fo = some (.lst xs) ∧ DpAll K H2 xs (turnsTo bs (i + 1)), ?_, ?_⟩
      · refine ⟨_, rfl, _, rfl, rfl, _, rfl, ?_⟩
        refine iteN (fun h => ?_) (fun h => ?_)
        · have h' : ¬ bs.getD i false = (false :: bs).getD i false := fun e => h (by rw [← e, hgd])
          have step : ∀ (z : Str), (if b = true then ("gone" : Str) else "back") = z → ∀ T2 H2, Same (upd H' T (.tup [.int (i : Int), .bl b])) H2 → H2 T2 = some (.tup [.int (i : Int), .str z]) → DpAll K (upd H2 fo (.lst (xs ++ [.ref T2]))) (xs ++ [.ref T2]) (turnsTo bs (i + 1)) := by
            intro z hz T2 H2 sm hT2
            rw [turnsTo_succ_ne h', hgd, hz]
            have hf2 := sm _ _ (sT _ _ ef)
            refine DpAll.keepL (keepL hf2) (DpAll.snoc (DpAll.same sm (DpAll.same sT hD)) (.tup (SqT.of hT2) (.cons (.int _) (.cons (.str _) .nil)))) ?_
            have := turnsTo_noL bs (i + 1)
            rw [turnsTo_succ_ne h', hgd, hz] at this
            exact this
          refine ⟨_, rfl, Or.inl ⟨rfl, _, SqL.of (sT _ _ ef)⟩, _, rfl, _, rfl, b, rfl, ?_⟩
          have hxl : xs.length ≤ i := by
            have := DpAll.len hD
            have := turnsTo_len bs i
            omega
          cases b with
          | true => exact iteT ⟨szle (Nat.le_of_ble_eq_true rfl), fun T2 nT2 => ⟨fo, xs, _, rfl, rfl, (Same.newB nT2) _ _ (sT _ _ ef), szlt (by omega), (s'.trans (sT.trans (Same.newB nT2))).mutB nfo, by rw [upd_ne ntp0]; exact (Same.newB nT2) _ _ (sT _ _ e'), _, _, _, rfl, upd_same, step "gone" rfl T2 _ (Same.newB nT2) upd_same⟩⟩
          | false => exact iteF ⟨szle (Nat.le_of_ble_eq_true rfl), fun T2 nT2 => ⟨fo, xs, _, rfl, rfl, (Same.newB nT2) _ _ (sT _ _ ef), szlt (by omega), (s'.trans (sT.trans (Same.newB nT2))).mutB nfo, by rw [upd_ne ntp0]; exact (Same.newB nT2) _ _ (sT _ _ e'), _, _, _, rfl, upd_same, step "back" rfl T2 _ (Same.newB nT2) upd_same⟩⟩
        · have h' : bs.getD i false = (false :: bs).getD i false := by rw [hgd]; exact V.bl.inj h
          refine ⟨s'.trans sT, sT _ _ e', xs, _, _, rfl, sT _ _ ef, ?_⟩
          rw [turnsTo_succ_eq h']
          exact DpAll.same sT hD
      · rintro σ2 H2 ⟨s2, e2, xs2, u4, u3, rfl, ef2, hD2⟩
        refine ⟨_, rfl, s2, e2, xs2, u4, some (.bl b), ?_, ef2, hD2⟩
        rw [hgd1]
        rfl
    · rintro σ H' ⟨s', e', xs, v4, v5, rfl, ef, hD⟩
      rw [List.length_map, hbl] at hD
      exact ⟨_, rfl, k fo H' xs s' nfo ef hD⟩
end
end Bw

set_option Elab.async false
set_option linter.all false
set_option maxRecDepth 100000
set_option maxHeartbeats 4000000
namespace Bw
open PySem PySem.Spec PyProof.Rows L2
section
variable {P : Program} {w : World} {K : PySem.W.Frag} {mg : Str → Option Value} {base : Heap} {f : Addr} {fd : FuncData}
theorem ok_is_rule {t1 t2 t3 : Tok} (F : FnP K "is_rule" s_is_rule f fd) (g_len : mg "len" = none) (g_MOST_SILENT : mg "MOST_SILENT" = some (.int 12 t1)) (g_MOST_WIDE : mg "MOST_WIDE" = some (.int 5 t2)) (g_MOST_MANY : mg "MOST_MANY" = some (.int 3 t3)) : FnOk P w K mg base CX0 1 f fd ["rule"] (spIsRule K) := by
  refine F.ok sc_is_rule (fun vs H Q E h => ?_) (fun cdv A outer s H vs Q E hr h => ?_)
  · obtain ⟨q, x, ns, rfl, _⟩ := h
    rfl
  · obtain ⟨q, x, ns, rfl, hq, hn, k⟩ := h
    refine ⟨_, PSs.nox (pss_cons (ps_if (PW.pt (pw_and (pt_cmpR op_eq (pe_callB call_len_seq (by rfl) g_len (by decide +kernel) (pa_cons (pv 0) pa_nil)) pe_int (nomark _)) (pw_and1 (pt_cmpR op_eq (pe_ix ix_tup (pv 0) pe_int (fun _ _ => rfl)) pe_str (nomark _)))))
          (pss_one (ps_ret (pe_chain op_le op_le pe_int (pe_ix ix_tup (pv 0) pe_int (fun _ _ => rfl)) (pe_gI rfl g_MOST_SILENT))))
          pss_nil)
        (pss_cons (ps_if (PW.pt (pw_and (pt_cmpR op_eq (pe_callB call_len_seq (by rfl) g_len (by decide +kernel) (pa_cons (pv 0) pa_nil)) pe_int (nomark _)) (pw_and1 (pt_cmpR op_eq (pe_ix ix_tup (pv 0) pe_int (fun _ _ => rfl)) pe_str (nomark _)))))
          (pss_one (ps_ret (pe_and (pe_chain op_le op_le pe_int (pe_ix ix_tup (pv 0) pe_int (fun _ _ => rfl)) (pe_gI rfl g_MOST_WIDE)) (pe_one (pe_chain op_le op_le pe_int (pe_ix ix_tup (pv 0) pe_int (fun _ _ => rfl)) (pe_gI rfl g_MOST_MANY))))))
          pss_nil)
        (pss_one (ps_ret pe_bl)))), ?_⟩
    refine ⟨_, rfl, q, _, rfl, Or.inr hq, rfl, _, rfl, ?_⟩
    rcases hn with ⟨a, rfl⟩ | ⟨a, b, rfl⟩
    · refine iteD (fun _ => ?_) (fun h => absurd rfl h)
      refine ⟨_, rfl, q, _, _, _, rfl, rfl, hq, atI_nat (j := 0) rfl, rfl, _, rfl, ?_⟩
      refine iteD (fun hx => ?_) (fun hx => ?_)
      · refine ⟨_, rfl, q, _, _, _, rfl, rfl, hq, atI_nat (j := 1) rfl, _, _, rfl, rfl, _, rfl, ?_⟩
        have ex : x = "since" := V.str.inj hx
        refine iteD (fun h1 => ⟨_, _, rfl, rfl, ?_⟩) (fun h1 => ?_)
        · refine qb ?_ k
          simp [isRuleB, ex, h1]
        · refine qb ?_ k
          simp [isRuleB, ex, h1]
      · refine ⟨_, rfl, q, _, rfl, Or.inr hq, rfl, _, rfl, ?_⟩
        refine iteD (fun h => absurd h (by simp)) (fun _ => ?_)
        have ex : ¬ x = "since" := fun e => hx (congrArg V.str e)
        refine qb ?_ k
        simp [isRuleB, ex]
    · refine iteD (fun h => absurd h (by simp)) (fun _ => ?_)
      refine ⟨_, rfl, q, _, rfl, Or.inr hq, rfl, _, rfl, ?_⟩
      refine iteD (fun _ => ?_) (fun h => absurd rfl h)
      refine ⟨_, rfl, q, _, _, _, rfl, rfl, hq, atI_nat (j := 0) rfl, rfl, _, rfl, ?_⟩
      refine iteD (fun hx => ?_) (fun hx => ?_)
      · refine ⟨_, rfl, q, _, _, _, rfl, rfl, hq, atI_nat (j := 1) rfl, _, _, rfl, rfl, _, rfl, ?_⟩
        have ex : x = "few" := V.str.inj hx
        refine iteD (fun h1 => ⟨_, _, rfl, rfl, _, rfl, ?_⟩) (fun h1 => ⟨_, rfl, ?_⟩)
        · refine iteD (fun h2 => ?_) (fun h2 => ?_)
          · refine ⟨_, rfl, q, _, _, _, rfl, rfl, hq, atI_nat (j := 2) rfl, _, _, rfl, rfl, _, rfl, ?_⟩
            refine iteD (fun h3 => ⟨_, _, rfl, rfl, ?_⟩) (fun h3 => ?_)
            · refine qb ?_ k
              simp [isRuleB, ex, h1, h2, h3]
            · refine qb ?_ k
              simp [isRuleB, ex, h1, h2, h3]
          · refine qb ?_ k
            simp [isRuleB, ex, h1, h2]
        · refine qb ?_ k
          simp [isRuleB, ex, h1]
      · have ex : ¬ x = "few" := fun e => hx (congrArg V.str e)
        refine qb ?_ k
        simp [isRuleB, ex]
end
end Bw

set_option Elab.async false
set_option linter.all false
set_option maxRecDepth 100000
set_option maxHeartbeats 4000000
namespace Bw
open PySem PySem.Spec PyProof.Rows L2
section
variable {P : Program} {w : World} {K : PySem.W.Frag} {mg : Str → Option Value} {base : Heap} {f : Addr} {fd : FuncData}
theorem ok_need_rule (F : FnP K "need_rule" s_need_rule f fd) (h_is_rule : Has P w K mg base 1 "is_rule" ["rule"] (spIsRule K)) : FnOk P w K mg base CX0 2 f fd ["rule"] (spNeedRule K) := by
  refine F.ok sc_need_rule (fun vs H Q E h => ?_) (fun cdv A outer s H vs Q E hr h => ?_)
  · obtain ⟨q, r, rfl, _⟩ := h
    rfl
  · obtain ⟨q, r, rfl, hq, ho, k⟩ := h
    refine ⟨_, PSs.nox (pss_one (ps_if (pt_not (pt_val (pe_fn h_is_rule hr rfl (pa_cons (pv 0) pa_nil))))
        (pss_one ps_never)
        pss_nil)), ?_⟩
    obtain ⟨x, ns, e1, e2, e3⟩ := r.raw ho
    rw [e1] at hq
    refine ⟨_, rfl, q, x, ns, rfl, hq, e2, true, by rw [e3], ?_⟩
    exact k
theorem ok_first_state (F : FnP K "first_state" s_first_state f fd) : FnOk P w K mg base CX0 1 f fd ["rule"] (spFirst K) := by
  refine F.ok sc_first_state (fun vs H Q E h => ?_) (fun cdv A outer s H vs Q E hr h => ?_)
  · obtain ⟨q, r, rfl, _⟩ := h
    rfl
  · obtain ⟨q, r, rfl, hq, ho, k⟩ := h
    refine ⟨_, PSs.nox (pss_one (ps_ret (pe_ifExp (pt_cmpR op_eq (pe_ix ix_tup (pv 0) pe_int (fun _ _ => rfl)) pe_str (nomark _)) (pe_tup (pa_cons pe_int pa_nil)) (pe_tup pa_nil)))), ?_⟩
    cases r with
    | since n =>
      refine ⟨_, rfl, q, _, _, _, rfl, rfl, hq, atI_nat (j := 0) rfl, rfl, _, rfl, iteD (fun _ => ?_) (fun h => absurd rfl h)⟩
      exact ⟨by decide, fun p hp => k p _ (Same.newB hp) (SqT.of upd_same)⟩
    | few a b =>
      refine ⟨_, rfl, q, _, _, _, rfl, rfl, hq, atI_nat (j := 0) rfl, rfl, _, rfl, iteD (fun h => absurd (V.str.inj h) few_since) (fun _ => ?_)⟩
      exact ⟨by decide, fun p hp => k p _ (Same.newB hp) (SqT.of upd_same)⟩
theorem ok_is_gone (F : FnP K "is_gone" s_is_gone f fd) (g_len : mg "len" = none) (g_sum : mg "sum" = none) : FnOk P w K mg base CX0 1 f fd p_is_gone (spGone K) := by
  refine F.ok sc_is_gone (fun vs H Q E h => ?_) (fun cdv A outer s H vs Q E hr h => ?_)
  · obtain ⟨q, t, r, st, rfl, _⟩ := h
    rfl
  · obtain ⟨q, t, r, st, rfl, hq, ho, ht, hs, k⟩ := h
    refine ⟨_, PSs.nox (pss_cons (ps_if (pt_cmpR op_eq (pe_ix ix_tup (pv 0) pe_int (fun _ _ => rfl)) pe_str (nomark _))
          (pss_one (ps_ret (pe_cmpR op_ge (pe_ix ix_tup (pv 1) pe_int (fun _ _ => rfl)) (pe_ix ix_tup (pv 0) pe_int (fun _ _ => rfl)) (nomark _))))
          pss_nil)
        (pss_one (ps_ret (pe_and (pe_cmpR op_eq (pe_callB call_len_seq (by rfl) g_len (by decide +kernel) (pa_cons (pv 1) pa_nil)) (pe_ix ix_tup (pv 0) pe_int (fun _ _ => rfl)) (nomark _)) (pe_one (pe_cmpR op_lt (pe_callB (cr_sumT rfl) (by rfl) g_sum (by decide +kernel) (pa_cons (pv 1) pa_nil)) (pe_ix ix_tup (pv 0) pe_int (fun _ _ => rfl)) (nomark _))))))), ?_⟩
    cases r with
    | since n =>
      obtain ⟨z, rfl⟩ := hs
      refine ⟨_, rfl, q, _, _, _, rfl, rfl, hq, atI_nat (j := 0) rfl, rfl, _, rfl, iteD (fun _ => ?_) (fun h => absurd rfl h)⟩
      exact ⟨_, rfl, t, _, _, _, rfl, rfl, ht, atI_nat (j := 0) rfl, _, rfl, q, _, _, _, rfl, rfl, hq, atI_nat (j := 1) rfl, _, _, rfl, rfl, k⟩
    | few a b =>
      refine ⟨_, rfl, q, _, _, _, rfl, rfl, hq, atI_nat (j := 0) rfl, rfl, _, rfl, iteD (fun h => absurd (V.str.inj h) few_since) (fun _ => ?_)⟩
      refine ⟨_, rfl, t, _, rfl, Or.inr ht, _, rfl, q, _, _, _, rfl, rfl, hq, atI_nat (j := 1) rfl, rfl, _, rfl, ?_⟩
      refine iteD (fun h1 => ?_) (fun h1 => ?_)
      · refine ⟨_, rfl, t, _, rfl, ht, _, rfl, q, _, _, _, rfl, rfl, hq, atI_nat (j := 2) rfl, _, _, rfl, rfl, ?_⟩
        refine qb ?_ k
        have h2 := V.int.inj h1
        rw [List.length_map] at h2
        simp [goneS, h2]
      · refine qb ?_ k
        have h2 : ¬ ((st.length : Int) = (a : Int)) := fun e => h1 (by rw [List.length_map, e])
        simp only [goneS, h2, decide_false, Bool.false_and]
theorem ok_next_state (F : FnP K "next_state" s_next_state f fd) (g_min : mg "min" = none) : FnOk P w K mg base CX0 1 f fd p_next_state (spNext K) := by
  refine F.ok sc_next_state (fun vs H Q E h => ?_) (fun cdv A outer s H vs Q E hr h => ?_)
  · obtain ⟨q, t, m, r, st, rfl, _⟩ := h
    rfl
  · obtain ⟨q, t, m, r, st, rfl, hq, ho, ht, hs, k⟩ := h
    refine ⟨_, PSs.nox (pss_cons (ps_if (pt_cmpR op_eq (pe_ix ix_tup (pv 0) pe_int (fun _ _ => rfl)) pe_str (nomark _))
          (pss_one (ps_ret (pe_ifExp (pt_cmpR op_gt (pv 2) pe_int (nomark _)) (pe_tup (pa_cons pe_int pa_nil)) (pe_tup (pa_cons (pe_callB (call_min2 rfl) (by rfl) g_min (by decide +kernel) (pa_cons (pe_ix ix_tup (pv 0) pe_int (fun _ _ => rfl)) (pa_cons (pe_op op_add (pe_ix ix_tup (pv 1) pe_int (fun _ _ => rfl)) pe_int) pa_nil))) pa_nil)))))
          pss_nil)
        (pss_one (ps_ret (pe_slice sl_tupA (pe_op op_catA (pv 1) (pe_tup (pa_cons (pv 2) pa_nil))) (po_some (pe_un un_neg (pe_ix ix_tup (pv 0) pe_int (fun _ _ => rfl)))) po_none)))), ?_⟩
    cases r with
    | since n =>
      obtain ⟨z, rfl⟩ := hs
      refine ⟨_, rfl, q, _, _, _, rfl, rfl, hq, atI_nat (j := 0) rfl, rfl, _, rfl, iteD (fun _ => ?_) (fun h => absurd rfl h)⟩
      refine ⟨_, rfl, _, _, rfl, rfl, _, rfl, iteD (fun h => ?_) (fun h => ?_)⟩
      · refine ⟨by decide, fun p hp => k p _ (Same.newB hp) ?_⟩
        have e : nextS (.since n) [z] m = [0] := if_pos h
        rw [e]
        exact SqT.of upd_same
      · refine ⟨_, rfl, q, _, _, _, rfl, rfl, hq, atI_nat (j := 1) rfl, _, rfl, t, _, _, _, rfl, rfl, ht, atI_nat (j := 0) rfl, _, _, rfl, rfl, _, _, rfl, szle (Nat.le_of_ble_eq_true rfl), fun p hp => k p _ (Same.newB hp) ?_⟩
        have e : nextS (.since n) [z] m = [if z + 1 < (n : Int) then z + 1 else (n : Int)] := if_neg h
        rw [e]
        exact SqT.of upd_same
    | few a b =>
      refine ⟨_, rfl, q, _, _, _, rfl, rfl, hq, atI_nat (j := 0) rfl, rfl, _, rfl, iteD (fun h => absurd (V.str.inj h) few_since) (fun _ => ?_)⟩
      have hs' : st.length ≤ a := hs
      have ho' : 1 ≤ a ∧ a ≤ 5 ∧ 1 ≤ b ∧ b ≤ 3 := ho
      have fin : ∀ (u : Addr) (H2 : Hp), Same H H2 → SqT K H2 u ((st ++ [m]).map V.int) → rSlA K (.ref u) (some (-(a : Int))) none H2 Q := by
        intro u H2 s2 hu
        have e0 : HT.sIx ((st ++ [m]).map V.int).length 0 (some (-(a : Int))) = (st ++ [m]).length - a := by
          show (if -(a : Int) < 0 then (-(a : Int) + ((((st ++ [m]).map V.int).length : Nat) : Int)).toNat else _) = _
          rw [if_pos (by omega), List.length_map]
          omega
        refine ⟨u, _, rfl, hu, fun hw => ?_, fun hw p hp => ?_⟩
        · refine k u H2 s2 ?_
          have e : nextS (.few a b) st m = st ++ [m] := by
            show lastN a (st ++ [m]) = _
            unfold lastN
            rw [← e0, hw.1]
            rfl
          rw [e]
          exact hu
        · refine k p _ (s2.moreB hp) ?_
          have e : cutV ((st ++ [m]).map V.int) (some (-(a : Int))) none = (nextS (.few a b) st m).map V.int := by
            show ((((st ++ [m]).map V.int)).drop (HT.sIx ((st ++ [m]).map V.int).length 0 (some (-(a : Int))))).take (((st ++ [m]).map V.int).length - (HT.sIx ((st ++ [m]).map V.int).length 0 (some (-(a : Int))))) = _
            rw [e0, map_cut]
            rfl
          rw [e]
          exact SqT.of upd_same
      refine ⟨_, rfl, _, rfl, szle (Nat.le_of_ble_eq_true rfl), fun p hp => ⟨t, p, _, _, rfl, rfl, (Same.newB hp).tupB ht, SqT.of upd_same, szle (by rw [List.length_map]; simp; omega), fun e => ?_, (fun e e2 => nomatch e2), fun e _ p2 hp2 => ?_⟩⟩
      · have e' : st = [] := by simpa using e
        subst e'
        exact ⟨_, rfl, q, _, _, _, rfl, rfl, (Same.newB hp).tupB hq, atI_nat (j := 1) rfl, _, rfl, _, rfl, fin p _ (Same.newB hp) (SqT.of upd_same)⟩
      · have s2 := (Same.newB (o := .tup [.int m]) hp).moreB (o := .tup (st.map V.int ++ [.int m])) hp2
        refine ⟨_, rfl, q, _, _, _, rfl, rfl, s2.tupB hq, atI_nat (j := 1) rfl, _, rfl, _, rfl, fin p2 _ s2 ?_⟩
        rw [List.map_append]
        exact SqT.of upd_same
end
end Bw

set_option Elab.async false
set_option linter.all false
set_option maxRecDepth 100000
set_option maxHeartbeats 4000000
namespace Bw
open PySem PySem.Spec PyProof.Rows L2
section
variable {P : Program} {w : World} {K : PySem.W.Frag} {mg : Str → Option Value} {base : Heap} {f : Addr} {fd : FuncData}
theorem ok_need_line {t1 t2 t3 : Tok} (F : FnP K "need_line" s_need_line f fd) (g_MOST_EACH : mg "MOST_EACH" = some (.int 4 t1)) (g_MOST_LATE : mg "MOST_LATE" = some (.int 3 t2)) (g_MOST_LOST : mg "MOST_LOST" = some (.int 2 t3)) : FnOk P w K mg base CX0 1 f fd ["line"] (spNeedLine K) := by
  refine F.ok sc_need_line (fun vs H Q E h => ?_) (fun cdv A outer s H vs Q E hr h => ?_)
  · obtain ⟨q, l, rfl, _⟩ := h
    rfl
  · obtain ⟨q, l, rfl, hq, lo, k⟩ := h
    refine ⟨_, PSs.nox (pss_cons (ps_asg (pv 0) (pg_tup rfl (pgs_cons (pg_name (i := 1) sc_need_line.nd rfl (Or.inl rfl)) (pgs_cons (pg_name (i := 2) sc_need_line.nd rfl (Or.inl rfl)) (pgs_cons (pg_name (i := 3) sc_need_line.nd rfl (Or.inl rfl)) pgs_nil)))))
        (pss_cons (ps_if (pt_not (pt_chain op_le op_le pe_int (pv 1) (pe_gI rfl g_MOST_EACH)))
          (pss_one ps_never)
          pss_nil)
        (pss_cons (ps_if (pt_not (pt_chain op_le op_le pe_int (pv 2) (pe_gI rfl g_MOST_LATE)))
          (pss_one ps_never)
          pss_nil)
        (pss_one (ps_if (pt_not (pt_chain op_le op_le pe_int (pv 3) (pe_gI rfl g_MOST_LOST)))
          (pss_one ps_never)
          pss_nil))))), ?_⟩
    have e1 := lo.e1
    have e4 := lo.e4
    have l3 := lo.l3
    have s2 := lo.s2
    have h1 : (1 : Int) ≤ (l.each : Int) := by omega
    have h2 : (l.each : Int) ≤ 4 := by omega
    have h3 : (0 : Int) ≤ (l.late : Int) := by omega
    have h4 : (l.late : Int) ≤ 3 := by omega
    have h5 : (0 : Int) ≤ (l.lost : Int) := by omega
    have h6 : (l.lost : Int) ≤ 2 := by omega
    refine ⟨_, rfl, q, _, rfl, hq, rfl, _, _, rfl, _, _, rfl, _, _, rfl, rfl, ?_⟩
    refine ⟨_, rfl, _, _, rfl, rfl, _, rfl, iteD (fun _ => ⟨_, _, rfl, rfl, _, rfl, ?_⟩) (fun h => absurd h1 h)⟩
    rw [decide_eq_true h2]
    refine iteF ⟨_, rfl, _, _, rfl, rfl, _, rfl, iteD (fun _ => ⟨_, _, rfl, rfl, _, rfl, ?_⟩) (fun h => absurd h3 h)⟩
    rw [decide_eq_true h4]
    refine iteF ⟨_, rfl, _, _, rfl, rfl, _, rfl, iteD (fun _ => ⟨_, _, rfl, rfl, _, rfl, ?_⟩) (fun h => absurd h5 h)⟩
    rw [decide_eq_true h6]
    exact iteF k
end
end Bw

set_option Elab.async false
set_option linter.all false
set_option maxRecDepth 100000
set_option maxHeartbeats 4000000
namespace Bw
open PySem PySem.Spec PyProof.Rows L2
section
variable {P : Program} {w : World} {K : PySem.W.Frag} {mg : Str → Option Value} {base : Heap} {f : Addr} {fd : FuncData}
theorem ok_begun (F : FnP K "begun" s_begun f fd) : FnOk P w K mg base CX0 1 f fd p_begun (spBegun K) := by
  refine F.ok sc_begun (fun vs H Q E h => ?_) (fun cdv A outer s H vs Q E hr h => ?_)
  · obtain ⟨lp, v, l, st, rfl, _⟩ := h
    rfl
  · obtain ⟨lp, v, l, st, rfl, hl, lo, hv, ok, k⟩ := h
    obtain ⟨a, b, rfl, ha, hb⟩ := ls_at hv
    have hlen := ok.len
    have l3 := lo.l3
    refine ⟨_, PSs.nox (pss_cons (ps_asg (pv 1) (pg_tup rfl (pgs_cons (pg_name (i := 2) sc_begun.nd rfl (Or.inl rfl)) (pgs_cons (pg_name (i := 3) sc_begun.nd rfl (Or.inl rfl)) (pgs_cons (pg_name (i := 4) sc_begun.nd rfl (Or.inl rfl)) pgs_nil)))))
        (pss_cons (ps_if (pt_cmpR op_gt (pv 2) pe_int (nomark _))
          (pss_one (ps_ret (pe_lst (pa_cons (pe_tup (pa_cons (pv 3) (pa_cons (pv 4) pa_nil))) pa_nil))))
          pss_nil)
        (pss_cons (ps_set (i := 5) sc_begun.nd rfl (Or.inl rfl) (pe_lst (pa_cons (pe_tup (pa_cons (pe_op op_catU (pv 3) (pe_tup (pa_cons pe_int pa_nil))) (pa_cons pe_int pa_nil))) pa_nil)))
        (Evl.pss_cut (ps_if (pt_cmpR op_lt (pv 4) (pe_ix ix_tup (pv 0) pe_int (fun _ _ => rfl)) (nomark _))
          (pss_one (ps_expr (pe_bm PySem.F.plainAttrs_list PySem.F.slot_list_append PySem.F.type_list_append mt_append (pv 5) (pa_cons (pe_tup (pa_cons (pv 3) (pa_cons (pe_op op_add (pv 4) pe_int) pa_nil))) pa_nil))))
          pss_nil)
        (pss_one (ps_ret (pv 5))))))), ?_⟩
    refine ⟨_, rfl, a, _, rfl, ha, rfl, _, _, rfl, _, _, rfl, _, _, rfl, rfl, ?_⟩
    refine ⟨_, rfl, _, _, rfl, rfl, _, rfl, iteD (fun hp => ?_) (fun hp => ?_)⟩
    · refine ⟨_, rfl, _, rfl, szle (Nat.le_of_ble_eq_true rfl), fun T nT => ⟨szle (Nat.le_of_ble_eq_true rfl), fun p np => ?_⟩⟩
      have s1 := (Same.newB (o := .tup [.ref b, .int st.run]) nT).moreB (o := .lst [.ref T]) np
      refine k p _ _ s1 ((Same.newB nT).free np) upd_same ?_
      have e : begunL l st = [(st.ages, st.run)] := if_pos (by omega)
      rw [e]
      exact .cons (.tup (SqT.of ((Same.newB np) _ _ upd_same)) (.cons (ints_dp (s1.tupB hb)) (.cons (.int _) .nil))) .nil
    · refine ⟨_, rfl, szle (Nat.le_of_ble_eq_true rfl), fun z nz => ⟨b, z, _, [V.int 0], rfl, rfl, (Same.newB nz).tupB hb, SqT.of upd_same, szle (by rw [List.length_map, nI_len]; show st.ages.length + 1 ≤ _; omega), fun c H1 s1 hc => ?_⟩⟩
      have s01 : Same H H1 := (Same.newB nz).trans s1
      refine ⟨szle (Nat.le_of_ble_eq_true rfl), fun T nT => ⟨szle (Nat.le_of_ble_eq_true rfl), fun p np => ?_⟩⟩
      have s2 := (Same.newB (o := .tup [.ref c, .int 0]) nT).moreB (o := .lst [.ref T]) np
      have s02 := s01.trans s2
      have eC : (nI st.ages).map V.int ++ [V.int 0] = (nI (st.ages ++ [0])).map V.int := by
        unfold nI
        rw [List.map_append, List.map_append]
        rfl
      rw [eC] at hc
      have n0 : H p = none := s01.free ((Same.newB nT).free np)
      have d1 : Dp K (upd (upd H1 T (.tup [.ref c, .int 0])) p (.lst [.ref T])) (.ref T) (bgD (st.ages ++ [0], 0)) := .tup (SqT.of ((Same.newB np) _ _ upd_same)) (.cons (ints_dp (s2.tupB hc)) (.cons (.int _) .nil))
      have hpp : (upd (upd H1 T (.tup [.ref c, .int 0])) p (.lst [.ref T])) p = some (.lst [.ref T]) := upd_same
      revert s02 d1 hpp
      generalize upd (upd H1 T (.tup [.ref c, .int 0])) p (.lst [.ref T]) = H2
      intro s02 d1 hpp
      refine ⟨fun σ' H' => σ' = [some (.ref lp), some (.ref a), some (.int st.ph), some (.ref b), some (.int st.run), some (.ref p)] ∧ Same H H' ∧ ∃ xs, H' p = some (.lst xs) ∧ DpAll K H' xs ((begunL l st).map bgD), ?_, ?_⟩
      · refine ⟨_, rfl, _, rfl, lp, _, _, _, rfl, rfl, s02.tupB hl, atI_nat (j := 2) rfl, _, _, rfl, rfl, _, rfl, iteD (fun hr' => ?_) (fun hr' => ?_)⟩
        · refine ⟨_, rfl, Or.inl ⟨rfl, _, SqL.of hpp⟩, _, rfl, _, rfl, _, _, rfl, rfl, szle (Nat.le_of_ble_eq_true rfl), fun T2 nT2 => ?_⟩
          have s3 : Same H2 (upd H2 T2 (.tup [.ref b, .int (st.run + 1)])) := Same.newB nT2
          refine ⟨p, _, _, rfl, rfl, s3 _ _ hpp, szlt (by show 1 < _; omega), rfl, (s02.trans s3).mutB n0, _, upd_same, ?_⟩
          have e : begunL l st = [(st.ages ++ [0], 0), (st.ages, st.run + 1)] := by
            unfold begunL
            rw [if_neg (by omega), if_pos (by omega)]
          rw [e]
          have kk := keepL (ys := [.ref T, .ref T2]) (s3 _ _ hpp)
          refine DpAll.keepL kk (.cons (Dp.same s3 _ _ d1) (.cons (.tup (SqT.of upd_same) (.cons (ints_dp ((s02.trans s3).tupB hb)) (.cons (.int _) .nil))) .nil)) (map_noL bgD_noL [(st.ages ++ [0], 0), (st.ages, st.run + 1)])
        · refine ⟨rfl, s02, _, hpp, ?_⟩
          have e : begunL l st = [(st.ages ++ [0], 0)] := by
            unfold begunL
            rw [if_neg (by omega), if_neg (by omega)]
          rw [e]
          exact .cons d1 .nil
      · rintro σ' H' ⟨rfl, s', xs, e1, e2⟩
        exact ⟨_, rfl, k p H' xs s' n0 e1 e2⟩
end
end Bw

set_option Elab.async false
set_option linter.all false
set_option maxRecDepth 100000
set_option maxHeartbeats 4000000
namespace Bw
open PySem PySem.Spec PyProof.Rows L2
section
variable {P : Program} {w : World} {K : PySem.W.Frag} {mg : Str → Option Value} {base : Heap} {f : Addr} {fd : FuncData}
theorem ok_heard_of (F : FnP K "heard_of" s_heard_of f fd) (g_range : mg "range" = none) (g_len : mg "len" = none) (g_tuple : mg "tuple" = none) : FnOk P w K mg base CX0 1 f fd p_heard_of (spHeardOf K) := by
  refine F.ok sc_heard_of (fun vs H Q E h => ?_) (fun cdv A outer s H vs Q E hr h => ?_)
  · obtain ⟨lp, b, l, ages, rfl, _⟩ := h
    rfl
  · obtain ⟨lp, b, l, ages, rfl, hl, lo, hb, hlen, k⟩ := h
    refine ⟨_, PSs.nox (pss_cons (ps_set (i := 2) sc_heard_of.nd rfl (Or.inl rfl) (pe_lst pa_nil))
        (pss_cons (ps_for PassesOwn.never rfl (pi_range1 rfl g_range (pa_cons (pe_op op_add (pe_callB call_len_seq (by rfl) g_len (by decide +kernel) (pa_cons (pv 1) pa_nil)) pe_int) pa_nil)) (pg_name (i := 3) sc_heard_of.nd rfl (Or.inl rfl))
          (pss_one (ps_if (pt_cmpR (op_eqD hr.units) (pe_lc (own := [("age", 4)]) (g := gName 4) rfl sc_heard_of.nd (pi_tup (pe_slice sl_tupU (pv 1) (po_some (pv 3)) po_none)) (blkOk_by (own := [("age", 4)]) (N := n_heard_of) (sc := defScope s_heard_of) (by decide +kernel)) (fun _ _ _ _ _ => (pg_name (i := 4) sc_heard_of.nd rfl (Or.inl rfl))) (fun _ _ _ _ _ => (pts_one (pt_cmpR op_ge (pv 4) (pe_ix (r := rIxT K) ix_tup (pv 0) pe_int (fun _ _ => rfl)) (nomark _)))) (fun _ _ _ _ _ => (pv 4))) (pe_lst pa_nil) (nomark _))
            (pss_one (ps_expr (pe_bm PySem.F.plainAttrs_list PySem.F.slot_list_append PySem.F.type_list_append mt_append (pv 2) (pa_cons (pe_tup (pa_cons (pv 3) (pa_cons (pe_callTy call_tuple_of (by rfl) g_tuple (by decide +kernel) (pa_cons (pe_lc (own := [("age", 4)]) (g := gName 4) rfl sc_heard_of.nd (pi_tup (pe_slice sl_tupU (pv 1) (po_some (pv 3)) po_none)) (blkOk_by (own := [("age", 4)]) (N := n_heard_of) (sc := defScope s_heard_of) (by decide +kernel)) (fun _ _ _ _ _ => (pg_name (i := 4) sc_heard_of.nd rfl (Or.inl rfl))) (fun _ _ _ _ _ => pts_nil) (fun _ _ _ _ _ => (pe_op op_add (pv 4) pe_int))) pa_nil)) pa_nil))) pa_nil))))
            pss_nil)))
        (pss_one (ps_ret (pv 2))))), ?_⟩
    refine ⟨szle (Nat.le_of_ble_eq_true rfl), fun fo nfo => ?_⟩
    have s0 : Same H (upd H fo (.lst [])) := Same.newB nfo
    have hL : ((nI ages).map V.int).length = ages.length := by rw [List.length_map, nI_len]
    refine ⟨_, rfl, b, _, rfl, Or.inr (s0.tupB hb), _, _, rfl, rfl, _, rfl, by omega, by rw [hL]; omega, ?_⟩
    have eN : ((((nI ages).map V.int).length : Nat) + (1 : Int)).toNat = ages.length + 1 := by rw [hL]; omega
    refine for_range (lo := 0) (n := ((((nI ages).map V.int).length : Nat) + (1 : Int)).toNat) (fun i σ H' => Same H H' ∧ ∃ v3 v4 xs, σ = [some (.ref lp), some (.ref b), some (.ref fo), v3, v4] ∧ H' fo = some (.lst xs) ∧ DpAll K H' xs (((List.range i).filterMap fun m => if youngL l (ages.drop m) = true then some (m, (ages.drop m).map (· + 1)) else none).map hdD)) ?_ ?_ ?_
    · exact ⟨s0, none, none, [], rfl, upd_same, .nil⟩
    · rintro i σ H' hi ⟨s', v3, v4, xs, rfl, hfo, hD⟩
      rw [eN] at hi
      have e0 : (0 : Int) + (i : Int) = (i : Int) := Int.zero_add _
      have hxl : xs.length ≤ i := by
        have h1 := DpAll.len hD
        rw [List.length_map] at h1
        have h2 := List.length_filterMap_le (fun m => if youngL l (ages.drop m) = true then some (m, (ages.drop m).map (· + 1)) else none) (List.range i)
        rw [List.length_range] at h2
        omega
      have ec : ∀ j : Int, j = (i : Int) → cutV ((nI ages).map V.int) (some j) none = (nI (ages.drop i)).map V.int := fun j ej => by
        rw [ej, cut_from]
        unfold nI
        simp only [List.map_drop]
      generalize hg : ages.drop i = gs at *
      have hgl : gs.length ≤ 10 := by rw [← hg, List.length_drop]; omega
      refine ⟨_, rfl, _, rfl, _, rfl, b, _, rfl, s'.tupB hb, fun u H1 s1 hu => ?_⟩
      rw [ec _ e0] at hu
      refine ⟨u, rfl, ⟨_, hu⟩, fun D nD => lc_tup (K := K) (a := u) (xs := (nI gs).map V.int) (fun j H2 => Same H1 H2 ∧ H2 D = some (.lst (((nI (gs.take j)).filter fun a => decide ((l.late : Int) ≤ a)).map V.int))) ⟨Same.newB nD, upd_same⟩ (fun j H2 _ h => h.1.tupB hu) ?_ ?_⟩
      · rintro j y H2 hj ⟨s2, e2⟩
        obtain ⟨c, hc, rfl⟩ := int_at hj
        have et : nI (gs.take (j + 1)) = nI (gs.take j) ++ [c] := by
          unfold nI
          rw [List.map_take, List.map_take, List.take_succ]
          unfold nI at hc
          rw [hc]
          rfl
        have hfl : ((nI (gs.take j)).filter fun a => decide ((l.late : Int) ≤ a)).length ≤ 10 := Nat.le_trans (List.length_filter_le _ _) (by rw [nI_len, List.length_take]; omega)
        refine ⟨rfl, _, rfl, _, rfl, lp, _, _, _, rfl, rfl, (s'.trans (s1.trans s2)).tupB hl, atI_nat (j := 1) rfl, _, _, rfl, rfl, _, rfl, iteD (fun h => ?_) (fun h => ?_)⟩
        · refine ⟨_, rfl, _, e2, szlt (by rw [List.length_map]; omega), s2.mutB nD, ?_⟩
          rw [upd_same, et, List.filter_append, List.filter_cons, if_pos (by simpa using h), List.map_append]
          rfl
        · refine ⟨s2, ?_⟩
          rw [e2, et, List.filter_append, List.filter_cons, if_neg (by simpa using h)]
          simp
      · rintro H2 ⟨s2, e2⟩
        have eT : gs.take ((nI gs).map V.int).length = gs := List.take_of_length_le (by rw [List.length_map, nI_len]; omega)
        rw [eT] at e2
        have s12 := s'.trans (s1.trans s2)
        refine ⟨szle (Nat.le_of_ble_eq_true rfl), fun e he => ⟨.list (((nI gs).filter fun a => decide ((l.late : Int) ≤ a)).map PyData.int), .list [], .lst (SqL.of (Same.newB he _ _ e2)) (dp_ints _), .lst (SqL.of upd_same) .nil, PySem.W.ke_shaped_ints _, PySem.W.ke_shaped_ints [], _, rfl, ?_⟩⟩
        rw [eqv_nil]
        have eY : decide (((nI gs).filter fun a => decide ((l.late : Int) ≤ a)) = []) = youngL l gs := by
          unfold youngL
          refine decide_eq_decide.mpr ?_
          unfold nI
          rw [List.filter_map, List.map_eq_nil_iff]
          have e3 : ((fun a => decide ((l.late : Int) ≤ a)) ∘ fun a => ((a : Nat) : Int)) = fun a => decide (l.late ≤ a) := by
            funext a
            show decide ((l.late : Int) ≤ (a : Int)) = decide (l.late ≤ a)
            exact decide_eq_decide.mpr (by omega)
          rw [e3]
        rw [eY]
        have sE : Same H2 (upd H2 e (.lst [])) := Same.newB he
        have sHE : Same H (upd H2 e (.lst [])) := s12.trans sE
        have sF : Same H' (upd H2 e (.lst [])) := (s1.trans s2).trans sE
        have hfo3 := sF _ _ hfo
        have hD3 := DpAll.same sF hD
        revert sHE hfo3 hD3
        generalize upd H2 e (.lst []) = H3
        intro sHE hfo3 hD3
        refine iteB (fun hy => ?_) (fun hy => ?_)
        · refine ⟨_, rfl, Or.inl ⟨rfl, _, SqL.of hfo3⟩, _, rfl, _, rfl, _, rfl, _, rfl, b, _, rfl, sHE.tupB hb, fun u2 H4 s4 hu2 => ?_⟩
          rw [ec _ e0] at hu2
          refine ⟨u2, rfl, ⟨_, hu2⟩, fun D2 nD2 => lc_tup (K := K) (a := u2) (xs := (nI gs).map V.int) (fun j H5 => Same H4 H5 ∧ H5 D2 = some (.lst ((nI ((gs.take j).map (· + 1))).map V.int))) ⟨Same.newB nD2, upd_same⟩ (fun j H5 _ h => h.1.tupB hu2) ?_ ?_⟩
          · rintro j y H5 hj ⟨s5, e5⟩
            obtain ⟨c, hc, rfl⟩ := int_at hj
            have et : nI ((gs.take (j + 1)).map (· + 1)) = nI ((gs.take j).map (· + 1)) ++ [c + 1] := by
              unfold nI at hc ⊢
              rw [List.getElem?_map] at hc
              cases hcc : gs[j]? with
              | none => rw [hcc] at hc; cases hc
              | some z =>
                rw [hcc] at hc
                have hc' : (z : Int) = c := Option.some.inj hc
                rw [List.take_succ, hcc, Option.toList_some, List.map_append, List.map_append, ← hc']
                rfl
            refine ⟨rfl, _, rfl, _, _, rfl, rfl, _, e5, szlt (by rw [List.length_map, nI_len, List.length_map, List.length_take]; omega), s5.mutB nD2, ?_⟩
            rw [upd_same, et, List.map_append]
            rfl
          · rintro H5 ⟨s5, e5⟩
            rw [eT] at e5
            refine ⟨D2, _, rfl, Or.inl ⟨SqL.of e5, fun tp ntp => ⟨szle (Nat.le_of_ble_eq_true rfl), fun T nT => ?_⟩⟩⟩
            have s6 := (Same.newB (o := .tup ((nI (gs.map (· + 1))).map V.int)) ntp).moreB (o := .tup [.int (0 + (i : Int)), .ref tp]) nT
            have s36 := s4.trans (s5.trans s6)
            refine ⟨fo, xs, _, rfl, rfl, s36 _ _ hfo3, szlt (by omega), (sHE.trans s36).mutB nfo, _, _, _, rfl, upd_same, ?_⟩
            have eR : ((List.range (i + 1)).filterMap fun m => if youngL l (ages.drop m) = true then some (m, (ages.drop m).map (· + 1)) else none).map hdD = ((List.range i).filterMap fun m => if youngL l (ages.drop m) = true then some (m, (ages.drop m).map (· + 1)) else none).map hdD ++ [hdD (i, gs.map (· + 1))] := by
              rw [List.range_succ, List.filterMap_append, List.map_append]
              congr 1
              rw [List.filterMap_cons, hg, if_pos hy]
              rfl
            rw [eR]
            have hn : ∀ d ∈ ((List.range i).filterMap fun m => if youngL l (ages.drop m) = true then some (m, (ages.drop m).map (· + 1)) else none).map hdD ++ [hdD (i, gs.map (· + 1))], NoL d := by
              rw [← eR]
              exact map_noL hdD_noL _
            refine DpAll.keepL (keepL (s36 _ _ hfo3)) (DpAll.snoc (DpAll.same s36 hD3) ?_) hn
            have hT : (upd (upd H5 tp (.tup ((nI (gs.map (· + 1))).map V.int))) T (.tup [.int (0 + (i : Int)), .ref tp])) T = some (.tup [.int (i : Int), .ref tp]) := by rw [upd_same, e0]
            exact .tup (SqT.of hT) (.cons (.int _) (.cons (ints_dp (SqT.of ((Same.newB nT) _ _ upd_same))) .nil))
        · refine ⟨sHE, _, _, xs, rfl, hfo3, ?_⟩
          have eR : ((List.range (i + 1)).filterMap fun m => if youngL l (ages.drop m) = true then some (m, (ages.drop m).map (· + 1)) else none) = (List.range i).filterMap fun m => if youngL l (ages.drop m) = true then some (m, (ages.drop m).map (· + 1)) else none := by
            rw [List.range_succ, List.filterMap_append, List.filterMap_cons, hg, if_neg (by rw [hy]; decide)]
            simp
          rw [eR]
          exact hD3
    · rintro σ H' ⟨s', v3, v4, xs, rfl, hfo, hD⟩
      rw [eN] at hD
      exact ⟨_, rfl, k fo H' xs s' nfo hfo hD⟩
end
end Bw

set_option Elab.async false
set_option linter.all false
set_option maxRecDepth 100000
set_option maxHeartbeats 4000000
namespace Bw
open PySem PySem.Spec PyProof.Rows L2
section
variable {P : Program} {w : World} {K : PySem.W.Frag} {mg : Str → Option Value} {base : Heap} {f : Addr} {fd : FuncData}
theorem ok_moves (F : FnP K "moves" s_moves f fd) (h_begun : Has P w K mg base 1 "begun" p_begun (spBegun K)) (h_heard_of : Has P w K mg base 1 "heard_of" p_heard_of (spHeardOf K)) : FnOk P w K mg base CX0 2 f fd p_moves (spMoves K) := by
  refine F.ok sc_moves (fun vs H Q E h => ?_) (fun cdv A outer s H vs Q E hr h => ?_)
  · obtain ⟨lp, v, l, st, rfl, _⟩ := h
    rfl
  · obtain ⟨lp, v, l, st, rfl, hl, lo, hv, ok, k⟩ := h
    obtain ⟨a, b, rfl, ha, hb⟩ := ls_at hv
    have he := lo.e1
    have l3 := lo.l3
    refine ⟨_, PSs.nox (pss_cons (ps_set (i := 2) sc_moves.nd rfl (Or.inl rfl) (pe_lst pa_nil))
        (pss_cons (ps_for PassesOwn.never rfl (pi_list (pe_fn h_begun hr rfl (pa_cons (pv 0) (pa_cons (pv 1) pa_nil)))) (pg_tup rfl (pgs_cons (pg_name (i := 3) sc_moves.nd rfl (Or.inl rfl)) (pgs_cons (pg_name (i := 4) sc_moves.nd rfl (Or.inl rfl)) pgs_nil)))
          (pss_one (ps_for PassesOwn.never rfl (pi_list (pe_fn h_heard_of hr rfl (pa_cons (pv 0) (pa_cons (pv 3) pa_nil)))) (pg_tup rfl (pgs_cons (pg_name (i := 5) sc_moves.nd rfl (Or.inl rfl)) (pgs_cons (pg_name (i := 6) sc_moves.nd rfl (Or.inl rfl)) pgs_nil)))
            (pss_one (ps_expr (pe_bm PySem.F.plainAttrs_list PySem.F.slot_list_append PySem.F.type_list_append mt_append (pv 2) (pa_cons (pe_tup (pa_cons (pv 5) (pa_cons (pe_tup (pa_cons (pe_op op_mod (pe_op op_add (pe_ix ix_tup (pv 1) pe_int (fun _ _ => rfl)) pe_int) (pe_ix ix_tup (pv 0) pe_int (fun _ _ => rfl))) (pa_cons (pv 6) (pa_cons (pv 4) pa_nil)))) pa_nil))) pa_nil)))))))
        (pss_one (ps_ret (pv 2))))), ?_⟩
    refine ⟨szle (Nat.le_of_ble_eq_true rfl), fun fo nfo => ?_⟩
    have s0 : Same H (upd H fo (.lst [])) := Same.newB nfo
    refine ⟨_, rfl, _, rfl, lp, .ref a, l, st, rfl, s0.tupB hl, lo, Dp.same s0 _ _ hv, ok, fun bp H1 xB s1 nbp hbp hB => ?_⟩
    have fb : bp ≠ fo := Ne.symm (ne_of_none (upd_same (H := H) (a := fo) (o := .lst [])) nbp)
    let mv : List Nat × Nat → List (Nat × LS) := fun b => (heardL l b.1).map fun h => (h.1, ⟨(st.ph + 1) % l.each, h.2, b.2⟩)
    have small : ∀ b ∈ begunL l st, (mv b).length ≤ 5 := fun b hb => by
      show ((heardL l b.1).map _).length ≤ 5
      rw [List.length_map]
      have h1 := heardL_len l b.1
      have h2 := (begunL_mem hb ok).2.2.2
      omega
    have tot : ∀ (bs : List (List Nat × Nat)), (∀ b ∈ bs, (mv b).length ≤ 5) → (bs.flatMap mv).length ≤ 5 * bs.length := by
      intro bs
      induction bs with
      | nil => intro _; exact Nat.zero_le _
      | cons b bs ih =>
        intro h
        have h1 := h b List.mem_cons_self
        have h2 := ih fun c hc => h c (List.mem_cons_of_mem _ hc)
        rw [List.flatMap_cons, List.length_append, List.length_cons]
        omega
    have hb2 := begunL_len l st
    refine ⟨bp, rfl, ⟨_, SqL.of hbp⟩, for_list (K := K) (a := bp) (xs := xB) (fun i σ H' => Same H H' ∧ H' bp = some (.lst xB) ∧ DpAll K H' xB ((begunL l st).map bgD) ∧ ∃ v3 v4 v5 v6 ys, σ = [some (.ref lp), some (.ref a), some (.ref fo), v3, v4, v5, v6] ∧ H' fo = some (.lst ys) ∧ DpAll K H' ys ((((begunL l st).take i).flatMap mv).map mvD)) ⟨s0.trans s1, hbp, hB, none, none, none, none, [], rfl, s1 _ _ upd_same, .nil⟩ (fun i σ H' _ h => SqL.of h.2.1) ?_ ?_⟩
    · rintro i y σ H2 hi ⟨s2, hbp2, hB2, v3, v4, v5, v6, ys, rfl, hfo2, hD2⟩
      obtain ⟨d, hd, hy⟩ := dpAll_get hB2 hi
      rw [List.getElem?_map] at hd
      obtain ⟨⟨ages, run⟩, hbg, rfl⟩ : ∃ q, (begunL l st)[i]? = some q ∧ bgD q = d := by
        cases e : (begunL l st)[i]? with
        | none => rw [e] at hd; cases hd
        | some q => rw [e] at hd; exact ⟨q, rfl, Option.some.inj hd⟩
      have hmem := List.mem_of_getElem? hbg
      obtain ⟨c1, c2, c3, c4⟩ := begunL_mem hmem ok
      obtain ⟨T, xT, rfl, hT, hT2⟩ := dp_tup hy
      obtain ⟨x1, x2, rfl, g1, g2⟩ := dpAll_two hT2
      obtain ⟨ag, rfl, hag⟩ := dp_intsD g1
      cases dp_int g2
      refine ⟨T, _, rfl, hT, rfl, _, _, rfl, _, _, rfl, rfl, ?_⟩
      refine ⟨_, rfl, _, rfl, lp, ag, l, ages, rfl, s2.tupB hl, lo, hag, by omega, fun hp H3 xH s3 nhp hhp hH => ?_⟩
      have fh : hp ≠ fo := Ne.symm (ne_of_none hfo2 nhp)
      have hhl : xH.length ≤ 5 := by
        have h1 := DpAll.len hH
        rw [List.length_map] at h1
        have h2 := heardL_len l ages
        omega
      have hbs : ((begunL l st).take i).length ≤ 2 := by rw [List.length_take]; omega
      have hf2 := tot ((begunL l st).take i) (fun b hb => small b (List.mem_of_mem_take hb))
      refine ⟨hp, rfl, ⟨_, SqL.of hhp⟩, for_list (K := K) (a := hp) (xs := xH) (fun j σ H' => Same H H' ∧ H' bp = some (.lst xB) ∧ DpAll K H' xB ((begunL l st).map bgD) ∧ H' hp = some (.lst xH) ∧ DpAll K H' xH ((heardL l ages).map hdD) ∧ ∃ v5 v6 ys, σ = [some (.ref lp), some (.ref a), some (.ref fo), some (.ref ag), some (.int run), v5, v6] ∧ H' fo = some (.lst ys) ∧ DpAll K H' ys ((((begunL l st).take i).flatMap mv ++ ((heardL l ages).take j).map fun (h : Nat × List Nat) => (h.1, (⟨(st.ph + 1) % l.each, h.2, run⟩ : LS))).map mvD)) ?_ (fun j σ H' _ h => SqL.of h.2.2.2.1) ?_ ?_⟩
      · refine ⟨s2.trans s3, s3 _ _ hbp2, DpAll.same s3 hB2, hhp, hH, _, _, ys, rfl, s3 _ _ hfo2, ?_⟩
        rw [List.take_zero, List.map_nil, List.append_nil]
        exact DpAll.same s3 hD2
      · rintro j y σ H4 hj ⟨s4, hbp4, hB4, hhp4, hH4, v5, v6, ys4, rfl, hfo4, hD4⟩
        have hjl := (List.getElem?_eq_some_iff.mp hj).1
        obtain ⟨d, hd, hy⟩ := dpAll_get hH4 hj
        rw [List.getElem?_map] at hd
        obtain ⟨⟨m, left⟩, hhd, rfl⟩ : ∃ q, (heardL l ages)[j]? = some q ∧ hdD q = d := by
          cases e : (heardL l ages)[j]? with
          | none => rw [e] at hd; cases hd
          | some q => rw [e] at hd; exact ⟨q, rfl, Option.some.inj hd⟩
        obtain ⟨T, xT, rfl, hT, hT2⟩ := dp_tup hy
        obtain ⟨x1, x2, rfl, g1, g2⟩ := dpAll_two hT2
        obtain ⟨lf, rfl, hlf⟩ := dp_intsD g2
        cases dp_int g1
        refine ⟨T, _, rfl, hT, rfl, _, _, rfl, _, _, rfl, rfl, ?_⟩
        refine ⟨_, rfl, Or.inl ⟨rfl, _, SqL.of hfo4⟩, _, rfl, _, rfl, a, _, _, _, rfl, rfl, s4.tupB ha, atI_nat (j := 0) rfl, _, _, rfl, rfl, _, rfl, lp, _, _, _, rfl, rfl, s4.tupB hl, atI_nat (j := 0) rfl, _, _, rfl, rfl, by omega, _, rfl, _, rfl, szle (Nat.le_of_ble_eq_true rfl), fun T2 nT2 => ⟨szle (Nat.le_of_ble_eq_true rfl), fun T3 nT3 => ?_⟩⟩
        have eM : ((st.ph : Int) + 1) % (l.each : Int) = (((st.ph + 1) % l.each : Nat) : Int) := by
          rw [Int.natCast_emod]
          rfl
        have s5 := (Same.newB (o := .tup [.int (((st.ph : Int) + 1) % (l.each : Int)), .ref lf, .int run]) nT2).moreB (o := .tup [.int m, .ref T2]) nT3
        have hyl : ys4.length ≤ 20 := by
          have h1 := DpAll.len hD4
          rw [List.length_map, List.length_append, List.length_map, List.length_take] at h1
          omega
        have s05 := s4.trans s5
        have hfo5 := s5 _ _ hfo4
        have kk := keepL (ys := ys4 ++ [.ref T3]) hfo5
        refine ⟨fo, ys4, _, rfl, rfl, hfo5, szlt (by omega), s05.mutB nfo, by rw [upd_ne fb]; exact s5 _ _ hbp4, DpAll.keepL kk (DpAll.same s5 hB4) (map_noL bgD_noL _), by rw [upd_ne fh]; exact s5 _ _ hhp4, DpAll.keepL kk (DpAll.same s5 hH4) (map_noL hdD_noL _), _, _, _, rfl, upd_same, ?_⟩
        have eT : (heardL l ages).take (j + 1) = (heardL l ages).take j ++ [(m, left)] := by rw [List.take_succ, hhd]; rfl
        have eF : ((((begunL l st).take i).flatMap mv ++ ((heardL l ages).take (j + 1)).map fun (h : Nat × List Nat) => (h.1, (⟨(st.ph + 1) % l.each, h.2, run⟩ : LS))).map mvD) = ((((begunL l st).take i).flatMap mv ++ ((heardL l ages).take j).map fun (h : Nat × List Nat) => (h.1, (⟨(st.ph + 1) % l.each, h.2, run⟩ : LS))).map mvD) ++ [mvD (m, ⟨(st.ph + 1) % l.each, left, run⟩)] := by
          rw [eT]
          simp only [List.map_append, List.append_assoc, List.map_cons, List.map_nil]
        rw [eF]
        refine DpAll.keepL kk (DpAll.snoc (DpAll.same s5 hD4) ?_) ?_
        · refine .tup (SqT.of upd_same) (.cons (.int _) (.cons ?_ .nil))
          refine ls_mk (s := ⟨(st.ph + 1) % l.each, left, run⟩) (b := lf) (SqT.of ?_) (s5.tupB hlf)
          rw [(Same.newB nT3) _ _ upd_same]
          show some (HO.tup [V.int (((st.ph : Int) + 1) % (l.each : Int)), V.ref lf, V.int run]) = some (HO.tup [V.int (((st.ph + 1) % l.each : Nat) : Int), V.ref lf, V.int run])
          rw [eM]
        · intro d hd
          rcases List.mem_append.mp hd with hd | hd
          · exact map_noL mvD_noL _ d hd
          · rcases List.mem_cons.mp hd with rfl | hd
            · exact mvD_noL _
            · cases hd
      · rintro σ H4 ⟨s4, hbp4, hB4, hhp4, hH4, v5, v6, ys4, rfl, hfo4, hD4⟩
        refine ⟨s4, hbp4, hB4, _, _, _, _, ys4, rfl, hfo4, ?_⟩
        have hln : xH.length = (heardL l ages).length := by
          have h1 := DpAll.len hH
          rw [List.length_map] at h1
          exact h1
        rw [hln, List.take_length] at hD4
        have eT : (begunL l st).take (i + 1) = (begunL l st).take i ++ [(ages, run)] := by rw [List.take_succ, hbg]; rfl
        rw [eT, List.flatMap_append]
        have e2 : [(ages, run)].flatMap mv = (heardL l ages).map fun h => (h.1, ⟨(st.ph + 1) % l.each, h.2, run⟩) := by
          rw [List.flatMap_cons, List.flatMap_nil, List.append_nil]
        rw [e2]
        exact hD4
    · rintro σ H2 ⟨s2, hbp2, hB2, v3, v4, v5, v6, ys, rfl, hfo2, hD2⟩
      have hln : xB.length = (begunL l st).length := by
        have h1 := DpAll.len hB
        rw [List.length_map] at h1
        exact h1
      rw [hln, List.take_length] at hD2
      exact ⟨_, rfl, k fo H2 ys s2 nfo hfo2 hD2⟩
end
end Bw

set_option Elab.async false
set_option linter.all false
set_option maxRecDepth 100000
set_option maxHeartbeats 4000000
namespace Bw
open PySem PySem.Spec PyProof.Rows L2
section
variable {P : Program} {w : World} {K : PySem.W.Frag} {mg : Str → Option Value} {base : Heap} {f : Addr} {fd : FuncData}
theorem ok_all_standing {aF : Addr} (F : FnP K "all_standing" s_all_standing f fd) (g_FIRST : mg "FIRST" = some (.ref aF)) (hFI : ∀ H : Hp, Dp K H (.ref aF) (lsD LS.first))
    (h_first_state : Has P w K mg base 1 "first_state" ["rule"] (spFirst K)) (h_moves : Has P w K mg base 2 "moves" p_moves (spMoves K)) (h_next_state : Has P w K mg base 1 "next_state" p_next_state (spNext K)) (h_is_gone : Has P w K mg base 1 "is_gone" p_is_gone (spGone K)) : FnOk P w K mg base CX0 3 f fd p_all_standing (spAll P w K) := by
  refine F.ok sc_all_standing (fun vs H Q E h => ?_) (fun cdv A outer s H vs Q E hr h => ?_)
  · obtain ⟨lp, q, l, r, rfl, _⟩ := h
    rfl
  · obtain ⟨lp, q, l, r, rfl, hl, lo, hq, ro, k⟩ := h
    have he := lo.e1
    refine ⟨_, PSs.nox (pss_cons (ps_set (i := 2) sc_all_standing.nd rfl (Or.inl rfl) (pe_tup (pa_cons (pe_gR rfl g_FIRST) (pa_cons (pe_fn h_first_state hr rfl (pa_cons (pv 1) pa_nil)) pa_nil))))
        (pss_cons (ps_set (i := 3) sc_all_standing.nd rfl (Or.inl rfl) (pe_nd1 (hu20 hr) (pv 2) (pe_lst pa_nil)))
        (pss_cons (ps_set (i := 4) sc_all_standing.nd rfl (Or.inl rfl) (pe_lst (pa_cons (pv 2) pa_nil)))
        (pss_cons (ps_set (i := 5) sc_all_standing.nd rfl (Or.inl rfl) pe_non)
        (pss_cons (ps_while PassesOwn.never (pt_cmpR (op_neD hr.units) (pv 4) (pe_lst pa_nil) (nomark _))
          (pss_cons (ps_set (i := 6) sc_all_standing.nd rfl (Or.inl rfl) (pe_lst pa_nil))
            (pss_cons (ps_for PassesOwn.never rfl (pi_list (pv 4)) (pg_tup rfl (pgs_cons (pg_name (i := 7) sc_all_standing.nd rfl (Or.inl rfl)) (pgs_cons (pg_name (i := 8) sc_all_standing.nd rfl (Or.inl rfl)) pgs_nil)))
              (pss_one (ps_for PassesOwn.never rfl (pi_list (pe_fn h_moves hr rfl (pa_cons (pv 0) (pa_cons (pv 7) pa_nil)))) (pg_tup rfl (pgs_cons (pg_name (i := 9) sc_all_standing.nd rfl (Or.inl rfl)) (pgs_cons (pg_name (i := 10) sc_all_standing.nd rfl (Or.inl rfl)) pgs_nil)))
                (pss_cons (ps_set (i := 11) sc_all_standing.nd rfl (Or.inl rfl) (pe_tup (pa_cons (pv 10) (pa_cons (pe_fn h_next_state hr rfl (pa_cons (pv 1) (pa_cons (pv 8) (pa_cons (pv 9) pa_nil)))) pa_nil))))
                  (pss_one (ps_if (pt_cmpR (op_notin_nd (hu20 hr)) (pv 11) (pv 3) rfl)
                    (pss_cons (ps_asg (pe_op op_cat (pe_ix (ix_nd (hu20 hr)) (pv 3) (pe_tup (pa_cons (pv 7) (pa_cons (pv 8) pa_nil))) (fun _ _ => rfl)) (pe_lst (pa_cons (pv 9) pa_nil))) (pg_sub (pv 3) (pv 11) (set_nd (hu20 hr))))
                      (pss_cons (ps_expr (pe_bm PySem.F.plainAttrs_list PySem.F.slot_list_append PySem.F.type_list_append mt_append (pv 6) (pa_cons (pv 11) pa_nil)))
                      (pss_one (ps_if (PW.pt (pw_and (pt_cmpR op_isN (pv 5) pe_non (nomark _)) (pw_and1 (pt_val (pe_fn h_is_gone hr rfl (pa_cons (pv 1) (pa_cons (pe_ix ix_tup (pv 11) pe_int (fun _ _ => rfl)) pa_nil)))))))
                        (pss_one (ps_set (i := 5) sc_all_standing.nd rfl (Or.inl rfl) (pe_ix (ix_nd (hu20 hr)) (pv 3) (pv 11) (fun _ _ => rfl))))
                        pss_nil))))
                    pss_nil))))))
            (pss_one (ps_set (i := 4) sc_all_standing.nd rfl (Or.inl rfl) (pv 6))))))
        (pss_one (ps_ret (pe_tup (pa_cons (pv 3) (pa_cons (pv 5) pa_nil)))))))))), ?_⟩
    refine ⟨_, rfl, q, r, rfl, hq, ro, fun fp H1 s1 hfp => ⟨szle (Nat.le_of_ble_eq_true rfl), fun T nT => ?_⟩⟩
    have s2 : Same H1 (upd H1 T (.tup [.ref aF, .ref fp])) := Same.newB nT
    have hkT : Dp K (upd H1 T (.tup [.ref aF, .ref fp])) (.ref T) (pkD (firstP r)) := pk_mk (k := firstP r) (x := .ref aF) (b := fp) (SqT.of upd_same) (hFI _) (s2.tupB hfp)
    have s02 : Same H (upd H1 T (.tup [.ref aF, .ref fp])) := s1.trans s2
    revert hkT s02
    generalize upd H1 T (.tup [.ref aF, .ref fp]) = H2
    intro hkT s02
    refine fun mt o1 nmt hn => ⟨_, rfl, szle (Nat.le_of_ble_eq_true rfl), fun e ne => ⟨pkK (firstP r), hn.same (Same.newB ne), pk_key (Dp.same ((Same.newB nmt).moreB ne) _ _ hkT), fun o2 hn2 => ?_⟩⟩
    have nmt0 : H mt = none := s02.free nmt
    have ne0 : H e = none := s02.free ((Same.newB nmt).free ne)
    have em : e ≠ mt := Ne.symm (ne_of_none hn.here ne)
    have s3 : Same H (upd (upd (upd H2 mt (PinO mt o1)) e (.lst [])) mt (PinO mt o2)) := ((s02.trans (Same.newB nmt)).moreB ne).mutB nmt0
    have hkT3 : Dp K (upd (upd (upd H2 mt (PinO mt o1)) e (.lst [])) mt (PinO mt o2)) (.ref T) (pkD (firstP r)) := Dp.keepT (((TK.new nmt).trans (TK.new ne)).trans (TK.upd (hn.same (Same.newB ne)).here (pin_notT _ _))) hkT (pkD_noL _)
    have he3 : (upd (upd (upd H2 mt (PinO mt o1)) e (.lst [])) mt (PinO mt o2)) e = some (.lst []) := by rw [upd_ne em, upd_same]
    revert hn2 s3 hkT3 he3
    generalize upd (upd (upd H2 mt (PinO mt o1)) e (.lst [])) mt (PinO mt o2) = H3
    intro hn2 s3 hkT3 he3
    refine ⟨_, rfl, szle (Nat.le_of_ble_eq_true rfl), fun lvp nlvp => ?_⟩
    have s4 : Same H3 (upd H3 lvp (.lst [.ref T])) := Same.newB nlvp
    -- the while
    refine ⟨fun m σ H' => ∃ n, (Same H H' ∧ ∃ (lvp : Addr) (wv : V) (ms : MS) (zs : List V) (v2 v6 v7 v8 v9 v10 v11 : Option V), σ = [some (.ref lp), some (.ref q), v2, some (.ref mt), some (.ref lvp), some wv, v6, v7, v8, v9, v10, v11] ∧ (∀ x ∈ ms, H x.2.1 = none) ∧ msM ms = (bfsN (succP l r) (goneP r) (firstP r) n).met ∧ MetAt P w K H' mt ms ∧ WrAt ms (bfsN (succP l r) (goneP r) (firstP r) n).wr wv ∧ H' lvp = some (.lst zs) ∧ DpAll K H' zs ((bfsN (succP l r) (goneP r) (firstP r) n).lv.map pkD)) ∧ m = muP (bfsN (succP l r) (goneP r) (firstP r) n), ?_, ?_⟩
    · refine ⟨_, 0, ⟨s3.trans s4, lvp, .non, [(firstP r, e, [])], [.ref T], _, _, _, _, _, _, _, rfl, ?_, rfl, ⟨⟨o2, hn2.same s4⟩, ?_⟩, rfl, upd_same, .cons (Dp.same s4 _ _ hkT3) .nil⟩, rfl⟩
      · intro x hx
        rcases List.mem_cons.mp hx with rfl | hx
        · exact ne0
        · cases hx
      · intro x hx
        rcases List.mem_cons.mp hx with rfl | hx
        · exact s4 _ _ he3
        · cases hx
    rintro m σ H5 ⟨n, ⟨s5, lvp, wv, ms, zs, v2, v6, v7, v8, v9, v10, v11, rfl, hnew, hmet, hM, hW, hlv, hlvD⟩, rfl⟩
    have B := bfs_inv (succ := succP l r) (firstP_gone r ro) n
    have hlt := fun h => muP_lt (l := l) lo (r := r) ro (n := n) h
    have hgrow := bfs_grow (succ := succP l r) (gone := goneP r) (k0 := firstP r) n
    have hblen := binv_len lo ro (l := l) (r := r) n
    have hS : bfsN (succP l r) (goneP r) (firstP r) (n + 1) = (bfsN (succP l r) (goneP r) (firstP r) n).lv.foldl (nodeB (succP l r) (goneP r)) ⟨(bfsN (succP l r) (goneP r) (firstP r) n).met, [], (bfsN (succP l r) (goneP r) (firstP r) n).wr⟩ := rfl
    have hEnd : (bfsN (succP l r) (goneP r) (firstP r) n).lv = [] → endP l r (bfsN (succP l r) (goneP r) (firstP r) n) := fun h => ⟨n, rfl, h⟩
    revert hmet hW hlvD hlt hgrow hblen hS hEnd B
    generalize hb1 : bfsN (succP l r) (goneP r) (firstP r) (n + 1) = b1
    generalize bfsN (succP l r) (goneP r) (firstP r) n = b
    intro hmet hW hlvD B hlt hgrow hblen hS hEnd
    refine ⟨_, rfl, szle (Nat.le_of_ble_eq_true rfl), fun e5 ne5 => ⟨.list (b.lv.map pkD), .list [], .lst (SqL.of ((Same.newB ne5) _ _ hlv)) (DpAll.same (Same.newB ne5) hlvD), .lst (SqL.of upd_same) .nil, Shp.ok (n := 4) (shp_list fun d hd => ?_) (by omega), PySem.W.ke_shaped_ints [], _, rfl, ?_⟩⟩
    · obtain ⟨x, _, rfl⟩ := List.mem_map.mp hd
      exact pkD_shp x
    rw [eqv_nilD]
    have s6 : Same H5 (upd H5 e5 (.lst [])) := Same.newB ne5
    have s06 := s5.trans s6
    have hM6 := hM.same s6
    have hlv6 := s6 _ _ hlv
    have hlvD6 := DpAll.same s6 hlvD
    revert s06 hM6 hlv6 hlvD6
    generalize upd H5 e5 (.lst []) = H6
    intro s06 hM6 hlv6 hlvD6
    by_cases hz : b.lv = []
    · rw [hz]
      refine iteF ⟨_, rfl, _, rfl, szle (Nat.le_of_ble_eq_true rfl), fun p np => ?_⟩
      exact k p _ mt wv ms b (s06.moreB np) (hEnd hz) hmet (hM6.same (Same.newB np)) hW upd_same nmt0 hnew
    have hz2 : (!(b.lv.map pkD).isEmpty) = true := by
      cases hb : b.lv with
      | nil => exact absurd hb hz
      | cons a t => rfl
    rw [hz2]
    refine iteT ⟨fun σ' H' => Same H H' ∧ ∃ (lvp : Addr) (wv : V) (ms : MS) (zs : List V) (v2 v6 v7 v8 v9 v10 v11 : Option V), σ' = [some (.ref lp), some (.ref q), v2, some (.ref mt), some (.ref lvp), some wv, v6, v7, v8, v9, v10, v11] ∧ (∀ x ∈ ms, H x.2.1 = none) ∧ msM ms = b1.met ∧ MetAt P w K H' mt ms ∧ WrAt ms b1.wr wv ∧ H' lvp = some (.lst zs) ∧ DpAll K H' zs (b1.lv.map pkD), fun σ' H' h => ⟨_, hlt hz, n + 1, ?_, by rw [hb1]⟩, ?_⟩
    · rw [hb1]
      exact h
    have hrowlen : n + 1 ≤ pkMost := Nat.le_trans (hgrow hz) hblen
    refine ⟨szle (Nat.le_of_ble_eq_true rfl), fun bh nbh => ?_⟩
    have s7 : Same H6 (upd H6 bh (.lst [])) := Same.newB nbh
    have nbh0 : H bh = none := s06.free nbh
    obtain ⟨oM, hMA⟩ := hM6.nd
    have mb : mt ≠ bh := ne_of_none hMA.here nbh
    have lb : lvp ≠ bh := ne_of_none hlv6 nbh
    refine ⟨_, rfl, lvp, rfl, ⟨_, SqL.of (s7 _ _ hlv6)⟩, for_list (K := K) (a := lvp) (xs := zs) (fun j σ H' => ∃ (wv : V) (ms : MS) (ys : List V) (v7 v8 v9 v10 v11 : Option V), σ = [some (.ref lp), some (.ref q), v2, some (.ref mt), some (.ref lvp), some wv, some (.ref bh), v7, v8, v9, v10, v11] ∧ msM ms = ((b.lv.take j).foldl (nodeB (succP l r) (goneP r)) ⟨b.met, [], b.wr⟩).met ∧ WrAt ms ((b.lv.take j).foldl (nodeB (succP l r) (goneP r)) ⟨b.met, [], b.wr⟩).wr wv ∧ ASt P w K H H' mt lvp bh zs b.lv ms ys ((b.lv.take j).foldl (nodeB (succP l r) (goneP r)) ⟨b.met, [], b.wr⟩).lv) ?_ (fun j σ H' _ h => by
        obtain ⟨_, _, _, _, _, _, _, _, _, _, _, a⟩ := h
        exact SqL.of a.lvl) ?_ ?_⟩
    · refine ⟨wv, ms, [], _, _, _, _, _, rfl, hmet, hW, s06.trans s7, hM6.same s7, fun x hx => ⟨hnew x hx, ?_⟩, s7 _ _ hlv6, DpAll.same s7 hlvD6, upd_same, .nil⟩
      exact ne_of_none (hM6.rows x hx) nbh
    · rintro j y σ H8 hj ⟨wv8, ms8, ys8, v7, v8, v9, v10, v11, rfl, hm8, hw8, A8⟩
      obtain ⟨d, hd, hy⟩ := dpAll_get A8.lvD hj
      rw [List.getElem?_map] at hd
      obtain ⟨kj, hkj, rfl⟩ : ∃ x, b.lv[j]? = some x ∧ pkD x = d := by
        cases e : b.lv[j]? with
        | none => rw [e] at hd; cases hd
        | some x => rw [e] at hd; exact ⟨x, rfl, Option.some.inj hd⟩
      have hkm : kj ∈ b.lv := List.mem_of_getElem? hkj
      have eTk : b.lv.take (j + 1) = b.lv.take j ++ [kj] := by rw [List.take_succ, hkj]; rfl
      have J8 := JInv.nodes B (b.lv.take j) ⟨b.met, [], b.wr⟩ (fun x hx => List.mem_of_mem_take hx) (JInv.start B)
      obtain ⟨ρ, hρ, hρl⟩ := (B.lvl kj).mp hkm
      obtain ⟨okS, okK⟩ := pk_ok lo ro (B.row kj ρ hρ).1
      have eJ : (b.lv.take (j + 1)).foldl (nodeB (succP l r) (goneP r)) ⟨b.met, [], b.wr⟩ = nodeB (succP l r) (goneP r) ((b.lv.take j).foldl (nodeB (succP l r) (goneP r)) ⟨b.met, [], b.wr⟩) kj := by rw [eTk, List.foldl_append]; rfl
      have L8 := nodes_len (succP l r) (goneP r) (b.lv.take j) ⟨b.met, [], b.wr⟩ b.met.length rfl
      revert hm8 hw8 A8 J8 eJ L8
      generalize (b.lv.take j).foldl (nodeB (succP l r) (goneP r)) ⟨b.met, [], b.wr⟩ = bj
      intro hm8 hw8 A8 J8 eJ L8
      obtain ⟨Tj, xj, kb, rfl, hTj, hxj, hkb⟩ := pk_at hy
      refine ⟨Tj, _, rfl, hTj, rfl, _, _, rfl, _, _, rfl, rfl, ?_⟩
      refine ⟨_, rfl, _, rfl, lp, xj, l, kj.1, rfl, A8.same.tupB hl, lo, hxj, okS, fun mp H9 xM s9 nmp hmp hMv => ?_⟩
      have A9 := A8.more s9
      have mpb : mp ≠ bh := Ne.symm (ne_of_none A8.beh nmp)
      have hmlen : xM.length = (movesL l kj.1).length := by
        have h1 := DpAll.len hMv
        rw [List.length_map] at h1
        exact h1
      refine ⟨mp, rfl, ⟨_, SqL.of hmp⟩, for_list (K := K) (a := mp) (xs := xM) (fun i σ H' => ∃ (wv : V) (ms : MS) (ys : List V) (v9 v10 v11 : Option V), σ = [some (.ref lp), some (.ref q), v2, some (.ref mt), some (.ref lvp), some wv, some (.ref bh), some xj, some (.ref kb), v9, v10, v11] ∧ msM ms = (((succP l r kj).take i).foldl (edgeB (goneP r) kj) bj).met ∧ WrAt ms (((succP l r kj).take i).foldl (edgeB (goneP r) kj) bj).wr wv ∧ ASt P w K H H' mt lvp bh zs b.lv ms ys (((succP l r kj).take i).foldl (edgeB (goneP r) kj) bj).lv ∧ H' mp = some (.lst xM) ∧ DpAll K H' xM ((movesL l kj.1).map mvD) ∧ Dp K H' xj (lsD kj.1) ∧ SqT K H' kb (kj.2.map V.int)) ?_ (fun i σ H' _ h => by
        obtain ⟨_, _, _, _, _, _, _, _, _, _, a, _⟩ := h
        exact SqL.of a) ?_ ?_⟩
      · exact ⟨wv8, ms8, ys8, _, _, _, rfl, hm8, hw8, A9, hmp, hMv, Dp.same s9 _ _ hxj, s9.tupB hkb⟩
      · rintro i y2 σ H10 hi ⟨wvq, msq, ysq, u9, u10, u11, rfl, hmq, hwq, Aq, hmpq, hMq, hxq, hkq⟩
        obtain ⟨d2, hd2, hy2⟩ := dpAll_get hMq hi
        rw [List.getElem?_map] at hd2
        obtain ⟨⟨c, t⟩, hct, rfl⟩ : ∃ x, (movesL l kj.1)[i]? = some x ∧ mvD x = d2 := by
          cases e : (movesL l kj.1)[i]? with
          | none => rw [e] at hd2; cases hd2
          | some x => rw [e] at hd2; exact ⟨x, rfl, Option.some.inj hd2⟩
        have hsu : (succP l r kj)[i]? = some ((c : Int), (t, nextS r kj.2 (c : Int))) := by
          unfold succP
          rw [List.getElem?_map, hct]
          rfl
        have eT2 : (succP l r kj).take (i + 1) = (succP l r kj).take i ++ [((c : Int), (t, nextS r kj.2 (c : Int)))] := by rw [List.take_succ, hsu]; rfl
        have Jq := JInv.edges B hkm ((succP l r kj).take i) bj (fun x hx => List.mem_of_mem_take hx) J8
        have eQ : ((succP l r kj).take (i + 1)).foldl (edgeB (goneP r) kj) bj = edgeB (goneP r) kj (((succP l r kj).take i).foldl (edgeB (goneP r) kj) bj) ((c : Int), (t, nextS r kj.2 (c : Int))) := by rw [eT2, List.foldl_append]; rfl
        have Lq := edges_len (goneP r) kj ((succP l r kj).take i) bj b.met.length L8
        revert hmq hwq Aq Jq eQ Lq
        generalize ((succP l r kj).take i).foldl (edgeB (goneP r) kj) bj = bq
        intro hmq hwq Aq Jq eQ Lq
        obtain ⟨T2, x2, rfl, hT2, hx2⟩ := dp_tup hy2
        obtain ⟨z1, z2, rfl, g1, g2⟩ := dpAll_two hx2
        cases dp_int g1
        refine ⟨T2, _, rfl, hT2, rfl, _, _, rfl, _, _, rfl, rfl, ?_⟩
        refine ⟨_, rfl, _, rfl, _, rfl, _, rfl, q, kb, (c : Int), r, kj.2, rfl, Aq.same.tupB hq, ro, hkq, okK.st, fun np H11 s11 hnp => ⟨szle (Nat.le_of_ble_eq_true rfl), fun T5 nT5 => ?_⟩⟩
        have s12 : Same H11 (upd H11 T5 (.tup [z2, .ref np])) := Same.newB nT5
        have s1012 := s11.trans s12
        have hkey : Dp K (upd H11 T5 (.tup [z2, .ref np])) (.ref T5) (pkD (t, nextS r kj.2 (c : Int))) := pk_mk (k := (t, nextS r kj.2 (c : Int))) (x := z2) (b := np) (SqT.of upd_same) (Dp.same s1012 _ _ g2) (s12.tupB hnp)
        have hT5 : (upd H11 T5 (.tup [z2, .ref np])) T5 = some (.tup [z2, .ref np]) := upd_same
        have A12 := Aq.more s1012
        have hmp12 := s1012 _ _ hmpq
        have hM12 := DpAll.same s1012 hMq
        have hx12 := Dp.same s1012 _ _ hxq
        have hk12 := s1012.tupB hkq
        have hnp12 := s12.tupB hnp
        revert hkey A12 hmp12 hM12 hx12 hk12 hT5 hnp12
        generalize upd H11 T5 (.tup [z2, .ref np]) = H12
        intro hkey hT5 A12 hmp12 hM12 hx12 hk12 hnp12
        have hst : StOk r (nextS r kj.2 (c : Int)) := stOk_next _ _ _
        generalize hkk : (t, nextS r kj.2 (c : Int)) = key at *
        have hk2 : key.2 = nextS r kj.2 (c : Int) := by rw [← hkk]
        refine ⟨_, rfl, _, rfl, mt, _, pkK key, rfl, A12.met.nd, pk_key hkey, _, rfl, ?_⟩
        rw [ms_val_none, hmq, Bool.true_xor]
        refine iteN (fun hin => ?_) (fun hin => ?_)
        · -- a new one
          have eE : edgeB (goneP r) kj bq ((c : Int), key) = ⟨bq.met ++ [(key, rowOf bq.met kj ++ [(c : Int)])], bq.lv ++ [key], if bq.wr = none ∧ goneP r key = true then some (rowOf bq.met kj ++ [(c : Int)]) else bq.wr⟩ := if_neg hin
          have hρq := Jq.old _ hρ
          have eρ : rowOf bq.met kj = ρ := rowOf_mem Jq.nd hρq
          rw [eρ] at eE
          have hndq : ((msM msq).map (·.1)).Nodup := by rw [hmq]; exact Jq.nd
          obtain ⟨ra, hra⟩ : ∃ ra, (kj, ra, ρ) ∈ msq := by
            rw [← hmq] at hρq
            obtain ⟨⟨k', ra, ρ'⟩, h1, h2⟩ := List.mem_map.mp hρq
            injection h2 with h3 h4
            have h3' : k' = kj := h3
            have h4' : ρ' = ρ := h4
            subst h3' h4'
            exact ⟨ra, h1⟩
          have hlenq := jinv_len lo ro B Jq
          have hms : msq.length ≤ pkMost := by
            have : (msM msq).length = msq.length := List.length_map _
            rw [← this, hmq]
            exact hlenq
          refine ⟨_, rfl, _, rfl, _, rfl, szle (Nat.le_of_ble_eq_true rfl), fun T7 nT7 => ?_⟩
          have s13 : Same H12 (upd H12 T7 (.tup [xj, .ref kb])) := Same.newB nT7
          have A13 := A12.more s13
          refine ⟨mt, _, pkK kj, .ref ra, rfl, A13.met.nd, pk_key (pk_mk (k := kj) (x := xj) (b := kb) (SqT.of upd_same) (Dp.same s13 _ _ hx12) (s13.tupB hk12)), ms_val hndq hra, ?_⟩
          refine ⟨_, rfl, szle (Nat.le_of_ble_eq_true rfl), fun l1 nl1 => ?_⟩
          have s14 := s13.moreB (o := .lst [.int (c : Int)]) nl1
          have A14 := A12.more s14
          have hρb : ρ.length ≤ pkMost := by omega
          refine ⟨ra, l1, _, [V.int (c : Int)], rfl, rfl, A14.met.rows _ hra, upd_same, ?_, fun rp nrp => ?_⟩
          · show (ρ.map V.int).length + 1 ≤ sizeLine
            rw [List.length_map]
            have : pkMost + 1 ≤ sizeLine := by decide
            omega
          have s15 := s14.moreB (o := .lst (ρ.map V.int ++ [.int (c : Int)])) nrp
          have A15 := A12.more s15
          have hrp : (upd (upd (upd H12 T7 (.tup [xj, .ref kb])) l1 (.lst [.int (c : Int)])) rp (.lst (ρ.map V.int ++ [.int (c : Int)]))) rp = some (.lst ((ρ ++ [(c : Int)]).map V.int)) := by rw [upd_same, List.map_append]; rfl
          have nrp0 : H rp = none := A14.same.free nrp
          have rpb : rp ≠ bh := Ne.symm (ne_of_none A14.beh nrp)
          have hmp15 := s15 _ _ hmp12
          have hM15 := DpAll.same s15 hM12
          have hx15 := Dp.same s15 _ _ hx12
          have hk15 := s15.tupB hk12
          have hkey15 := Dp.same s15 _ _ hkey
          have hT515 := s15 _ _ hT5
          have hnp15 := s15.tupB hnp12
          revert A15 hrp hmp15 hM15 hx15 hk15 hkey15 hT515 hnp15
          generalize upd (upd (upd H12 T7 (.tup [xj, .ref kb])) l1 (.lst [.int (c : Int)])) rp (.lst (ρ.map V.int ++ [.int (c : Int)])) = H15
          intro A15 hrp hmp15 hM15 hx15 hk15 hkey15 hT515 hnp15
          refine ⟨_, rfl, _, rfl, mt, _, pkK key, rfl, A15.met.nd, pk_key hkey15, ?_, fun o' hn' => ?_⟩
          · show (List.map _ msq).length < sizeLine
            rw [List.length_map]
            have : pkMost < sizeLine := by decide
            omega
          have hin' : key ∉ (msM msq).map (·.1) := by rw [hmq]; exact hin
          rw [ms_put (ρ := ρ ++ [(c : Int)]) hin'] at hn'
          obtain ⟨oM15, hM15A⟩ := A15.met.nd
          have tk : TK H15 (upd H15 mt (PinO mt o')) := TK.upd hM15A.here (pin_notT _ _)
          have rowmt : ∀ p ρ', H15 p = some (.lst ρ') → p ≠ mt := fun p ρ' h => ne_of h hM15A.here (by intro z; cases z)
          -- the heap behind the store
          have hrp16 : (upd H15 mt (PinO mt o')) rp = some (.lst ((ρ ++ [(c : Int)]).map V.int)) := by rw [upd_ne (rowmt _ _ hrp)]; exact hrp
          have A16 : ASt P w K H (upd H15 mt (PinO mt o')) mt lvp bh zs b.lv (msq ++ [(key, rp, ρ ++ [(c : Int)])]) ysq bq.lv := by
            refine ⟨A15.same.mutB nmt0, ⟨⟨o', hn'⟩, fun x hx => ?_⟩, fun x hx => ?_, by rw [upd_ne (rowmt _ _ A15.lvl)]; exact A15.lvl, DpAll.keepT tk A15.lvD (map_noL pkD_noL _), by rw [upd_ne (rowmt _ _ A15.beh)]; exact A15.beh, DpAll.keepT tk A15.behD (map_noL pkD_noL _)⟩
            · rcases List.mem_append.mp hx with hx | hx
              · have := A15.met.rows x hx
                rw [upd_ne (rowmt _ _ this)]
                exact this
              · rcases List.mem_cons.mp hx with rfl | hx
                · exact hrp16
                · cases hx
            · rcases List.mem_append.mp hx with hx | hx
              · exact A15.new x hx
              · rcases List.mem_cons.mp hx with rfl | hx
                · exact ⟨nrp0, rpb⟩
                · cases hx
          have hmp16 : (upd H15 mt (PinO mt o')) mp = some (.lst xM) := by rw [upd_ne (rowmt _ _ hmp15)]; exact hmp15
          have hM16 := DpAll.keepT tk hM15 (map_noL mvD_noL _)
          have hx16 := Dp.keepT tk hx15 (lsD_noL _)
          have hk16 := tk.sqT hk15
          have hkey16 := Dp.keepT tk hkey15 (pkD_noL _)
          have hT516 := tk.tup _ _ hT515
          have hnp16 := tk.sqT hnp15
          revert A16 hmp16 hM16 hx16 hk16 hkey16 hT516 hnp16
          generalize upd H15 mt (PinO mt o') = H16
          intro A16 hmp16 hM16 hx16 hk16 hkey16 hT516 hnp16
          have hyl : ysq.length ≤ pkMost := by
            have h1 := DpAll.len Aq.behD
            rw [List.length_map] at h1
            omega
          refine ⟨_, rfl, Or.inl ⟨rfl, _, SqL.of A16.beh⟩, _, rfl, bh, ysq, _, rfl, rfl, A16.beh, Nat.lt_of_le_of_lt hyl (by decide), ?_⟩
          have A17 : ASt P w K H (upd H16 bh (.lst (ysq ++ [.ref T5]))) mt lvp bh zs b.lv (msq ++ [(key, rp, ρ ++ [(c : Int)])]) (ysq ++ [.ref T5]) (bq.lv ++ [key]) := by
            have tk2 : TK H16 (upd H16 bh (.lst (ysq ++ [.ref T5]))) := TK.upd A16.beh True.intro
            refine ⟨A16.same.mutB nbh0, A16.met.keep tk2 (fun o h => by rw [upd_ne mb]; exact h) (fun x hx o h => by rw [upd_ne (A16.new x hx).2]; exact h), A16.new, by rw [upd_ne lb]; exact A16.lvl, DpAll.keepT tk2 A16.lvD (map_noL pkD_noL _), upd_same, ?_⟩
            rw [List.map_append]
            exact DpAll.snoc (DpAll.keepT tk2 A16.behD (map_noL pkD_noL _)) (Dp.keepT tk2 hkey16 (pkD_noL _))
          have tk2 : TK H16 (upd H16 bh (.lst (ysq ++ [.ref T5]))) := TK.upd A16.beh True.intro
          have hmp17 : (upd H16 bh (.lst (ysq ++ [.ref T5]))) mp = some (.lst xM) := by rw [upd_ne mpb]; exact hmp16
          have hM17 := DpAll.keepT tk2 hM16 (map_noL mvD_noL _)
          have hx17 := Dp.keepT tk2 hx16 (lsD_noL _)
          have hk17 := tk2.sqT hk16
          have hkey17 := Dp.keepT tk2 hkey16 (pkD_noL _)
          have hT517 := tk2.tup _ _ hT516
          have hnp17 := tk2.sqT hnp16
          revert A17 hmp17 hM17 hx17 hk17 hkey17 hT517 hnp17
          generalize upd H16 bh (.lst (ysq ++ [.ref T5])) = H17
          intro A17 hmp17 hM17 hx17 hk17 hkey17 hT517 hnp17
          have hmet17 : msM (msq ++ [(key, rp, ρ ++ [(c : Int)])]) = bq.met ++ [(key, ρ ++ [(c : Int)])] := by
            rw [← hmq]
            unfold msM
            rw [List.map_append]
            rfl
          have hnd17 : ((msM (msq ++ [(key, rp, ρ ++ [(c : Int)])])).map (·.1)).Nodup := by
            rw [hmet17, List.map_append]
            refine List.nodup_append.mpr ⟨Jq.nd, List.pairwise_singleton _ _, fun a ha b' hb' => ?_⟩
            rcases List.mem_cons.mp hb' with rfl | hb'
            · rintro rfl
              exact hin ha
            · cases hb'
          have wrold : ∀ ρ', bq.wr = some ρ' → WrAt (msq ++ [(key, rp, ρ ++ [(c : Int)])]) (some ρ') wvq := fun ρ' h => by
            rw [h] at hwq
            obtain ⟨k1, p1, e1, h1⟩ := hwq
            exact ⟨k1, p1, e1, List.mem_append_left _ h1⟩
          have fin : ∀ wv' : V, WrAt (msq ++ [(key, rp, ρ ++ [(c : Int)])]) (if bq.wr = none ∧ goneP r key = true then some (ρ ++ [(c : Int)]) else bq.wr) wv' → ∃ (wv : V) (ms : MS) (ys : List V) (u9 u10 u11 : Option V), [some (V.ref lp), some (V.ref q), v2, some (V.ref mt), some (V.ref lvp), some wv', some (V.ref bh), some xj, some (V.ref kb), some (V.int (c : Int)), some z2, some (V.ref T5)] = [some (.ref lp), some (.ref q), v2, some (.ref mt), some (.ref lvp), some wv, some (.ref bh), some xj, some (.ref kb), u9, u10, u11] ∧ msM ms = (((succP l r kj).take (i + 1)).foldl (edgeB (goneP r) kj) bj).met ∧ WrAt ms (((succP l r kj).take (i + 1)).foldl (edgeB (goneP r) kj) bj).wr wv ∧ ASt P w K H H17 mt lvp bh zs b.lv ms ys (((succP l r kj).take (i + 1)).foldl (edgeB (goneP r) kj) bj).lv ∧ H17 mp = some (.lst xM) ∧ DpAll K H17 xM ((movesL l kj.1).map mvD) ∧ Dp K H17 xj (lsD kj.1) ∧ SqT K H17 kb (kj.2.map V.int) := fun wv' hw' => by
            rw [eQ, eE]
            exact ⟨wv', _, _, _, _, _, rfl, hmet17, hw', A17, hmp17, hM17, hx17, hk17⟩
          refine ⟨_, rfl, rfl, _, rfl, iteD (fun hwn => ?_) (fun hwn => ?_)⟩
          · have hwr : bq.wr = none := by
              cases hw : bq.wr with
              | none => rfl
              | some ρ' =>
                rw [hw] at hwq
                obtain ⟨k1, p1, e1, h1⟩ := hwq
                rw [e1] at hwn
                cases hwn
            refine ⟨_, rfl, _, rfl, T5, _, _, _, rfl, rfl, SqT.of hT517, atI_nat (j := 1) rfl, q, np, r, nextS r kj.2 (c : Int), rfl, A17.same.tupB hq, ro, hnp17, hst, _, rfl, iteB (fun hg => ?_) (fun hg => ?_)⟩
            · refine ⟨_, rfl, _, rfl, mt, _, pkK key, .ref rp, rfl, A17.met.nd, pk_key hkey17, ms_val hnd17 (List.mem_append_right _ List.mem_cons_self), ?_⟩
              refine fin (.ref rp) ?_
              have hg' : goneP r key = true := by
                show goneS r key.2 = true
                rw [hk2]
                exact hg
              rw [if_pos ⟨hwr, hg'⟩]
              exact ⟨key, rp, rfl, List.mem_append_right _ List.mem_cons_self⟩
            · refine fin wvq ?_
              have hg' : ¬ (bq.wr = none ∧ goneP r key = true) := fun h => by
                have h2 : goneS r key.2 = true := h.2
                rw [hk2, hg] at h2
                cases h2
              rw [if_neg hg', hwr]
              exact hwn
          · refine fin wvq ?_
            have hwr : ¬ (bq.wr = none ∧ goneP r key = true) := fun h => by
              rw [h.1] at hwq
              exact hwn hwq
            rw [if_neg hwr]
            cases hw : bq.wr with
            | none =>
              rw [hw] at hwq
              exact hwq
            | some ρ' => exact wrold ρ' hw
        · have eE : edgeB (goneP r) kj bq ((c : Int), key) = bq := if_pos hin
          rw [eE] at eQ
          refine ⟨wvq, msq, ysq, _, _, _, rfl, ?_⟩
          rw [eQ]
          exact ⟨hmq, hwq, A12, hmp12, hM12, hx12, hk12⟩
      · rintro σ H10 ⟨wvq, msq, ysq, u9, u10, u11, rfl, hmq, hwq, Aq, hmpq, hMq, hxq, hkq⟩
        have hln : xM.length = (succP l r kj).length := by
          rw [hmlen]
          unfold succP
          rw [List.length_map]
        rw [hln, List.take_length] at hmq hwq Aq
        refine ⟨wvq, msq, ysq, _, _, _, _, _, rfl, ?_⟩
        rw [eJ]
        exact ⟨hmq, hwq, Aq⟩
    · rintro σ H8 ⟨wv8, ms8, ys8, v7, v8, v9, v10, v11, rfl, hm8, hw8, A8⟩
      have hln : zs.length = b.lv.length := by
        have h1 := DpAll.len hlvD
        rw [List.length_map] at h1
        exact h1
      rw [hln, List.take_length, ← hS] at hm8 hw8 A8
      exact ⟨_, rfl, A8.same, bh, wv8, ms8, ys8, _, _, _, _, _, _, _, rfl, fun x hx => (A8.new x hx).1, hm8, A8.met, hw8, A8.beh, A8.behD⟩
end
end Bw

set_option Elab.async false
set_option linter.all false
set_option maxRecDepth 100000
set_option maxHeartbeats 4000000
namespace Bw
open PySem PySem.Spec PyProof.Rows L2
section
variable {P : Program} {w : World} {K : PySem.W.Frag} {mg : Str → Option Value} {base : Heap} {f : Addr} {fd : FuncData}
theorem ok_may {aF : Addr} (F : FnP K "may" s_may f fd) (g_len : mg "len" = none) (g_FIRST : mg "FIRST" = some (.ref aF)) (hFI : ∀ H : Hp, Dp K H (.ref aF) (lsD LS.first))
    (h_need_line : Has P w K mg base 1 "need_line" ["line"] (spNeedLine K)) (h_need_heard : Has P w K mg base 1 "need_heard" ["heard"] (spNeedHeard K)) (h_moves : Has P w K mg base 2 "moves" p_moves (spMoves K)) : FnOk P w K mg base CX0 3 f fd p_may (spMay K) := by
  refine F.ok sc_may (fun vs H Q E h => ?_) (fun cdv A outer s H vs Q E hr h => ?_)
  · obtain ⟨lp, hp, l, hs, rfl, _⟩ := h
    rfl
  · obtain ⟨lp, hp, l, hs, rfl, hl, lo, hh, ho, k⟩ := h
    have he := lo.e1
    refine ⟨_, PSs.nox (pss_cons (ps_expr (pe_fn h_need_line hr rfl (pa_cons (pv 0) pa_nil)))
        (pss_cons (ps_expr (pe_fn h_need_heard hr rfl (pa_cons (pv 1) pa_nil)))
        (pss_cons (ps_set (i := 2) sc_may.nd rfl (Or.inl rfl) (pe_nd1 (hu20 hr) (pe_gR rfl g_FIRST) pe_bl))
        (pss_cons (ps_for PassesOwn.never rfl (pi_list (pv 1)) (pg_name (i := 3) sc_may.nd rfl (Or.inl rfl))
          (pss_cons (ps_set (i := 4) sc_may.nd rfl (Or.inl rfl) pe_nd0)
            (pss_cons (ps_for PassesOwn.never rfl (pi_nd (pv 2)) (pg_name (i := 5) sc_may.nd rfl (Or.inl rfl))
              (pss_one (ps_for PassesOwn.never rfl (pi_list (pe_fn h_moves hr rfl (pa_cons (pv 0) (pa_cons (pv 5) pa_nil)))) (pg_tup rfl (pgs_cons (pg_name (i := 6) sc_may.nd rfl (Or.inl rfl)) (pgs_cons (pg_name (i := 7) sc_may.nd rfl (Or.inl rfl)) pgs_nil)))
                (pss_one (ps_if (pt_cmpR op_eq (pv 6) (pv 3) (nomark _))
                  (pss_one (ps_asg pe_bl (pg_sub (pv 4) (pv 7) (set_nd (hu20 hr)))))
                  pss_nil)))))
            (pss_one (ps_set (i := 2) sc_may.nd rfl (Or.inl rfl) (pv 4))))))
        (pss_one (ps_ret (pe_cmpR op_gt (pe_callB call_lenND (by rfl) g_len (by decide +kernel) (pa_cons (pv 2) pa_nil)) pe_int (nomark _)))))))), ?_⟩
    refine ⟨_, rfl, lp, l, rfl, hl, lo, ?_⟩
    refine ⟨_, rfl, hp, hs, rfl, hh, ho, fun H1 s1 => ?_⟩
    refine fun lv o1 nlv hn => ⟨lsK LS.first, hn, ls_key (hFI _), fun o2 hn2 => ?_⟩
    rw [upd_upd] at hn2 ⊢
    have nlv0 : H lv = none := s1.free nlv
    have few : ∀ (w : List Int) (ss : List LS), ss.Nodup → (∀ x ∈ ss, ∃ w, PathL l LS.first w x) → ss.length ≤ 1500 := fun w ss hn h => ls_few lo hn fun x hx => by
      obtain ⟨w, hw⟩ := h x hx
      exact path_ok he (first_ok he) hw
    have nod : ∀ {H : Hp} {d : Addr} {ss : List LS}, Nd P w K H d (ss.map fun a => (lsK a, V.bl true)) → ss.Nodup := fun {H d ss} h => by
      obtain ⟨o, h⟩ := h
      have := h.nodup
      rw [List.map_map] at this
      exact List.Pairwise.of_map _ (fun a b h e => h (congrArg _ e)) this
    refine ⟨_, rfl, hp, rfl, ⟨_, ((s1.trans (Same.newB nlv)).seq hh)⟩, for_list (K := K) (a := hp) (xs := hs.map V.int) (fun i σ H' => Same H H' ∧ ∃ (lv : Addr) (ss : List LS) (v3 v4 v5 v6 v7 : Option V), σ = [some (.ref lp), some (.ref hp), some (.ref lv), v3, v4, v5, v6, v7] ∧ H lv = none ∧ Nd P w K H' lv (ss.map fun a => (lsK a, V.bl true)) ∧ ∀ x, x ∈ ss ↔ PathL l LS.first (hs.take i) x) ?_ (fun i σ H' _ h => h.1.seq hh) ?_ ?_⟩
    · refine ⟨s1.trans (Same.newB nlv), lv, [LS.first], none, none, none, none, none, rfl, nlv0, ⟨o2, hn2⟩, fun x => ?_⟩
      rw [List.mem_singleton]
      exact ⟨fun e => e ▸ rfl, fun e => Eq.symm e⟩
    · rintro i y σ H2 hi ⟨s2, lv, ss, v3, v4, v5, v6, v7, rfl, nlv, hnd, hss⟩
      obtain ⟨m, hm, rfl⟩ := int_at hi
      obtain ⟨oL, hndA⟩ := hnd
      have et : hs.take (i + 1) = hs.take i ++ [m] := by rw [List.take_succ, hm]; rfl
      refine fun bh ob nbh hbh => ?_
      have nbh0 : H bh = none := s2.free nbh
      have lb : lv ≠ bh := ne_of_none hndA.here nbh
      let mv : LS → List LS := fun s => (movesL l s).filterMap fun q => if (q.1 : Int) = m then some q.2 else none
      have mvm : ∀ s x, x ∈ mv s ↔ ∃ c, (c, x) ∈ movesL l s ∧ m = (c : Int) := fun s x => by
        show x ∈ (movesL l s).filterMap _ ↔ _
        rw [List.mem_filterMap]
        constructor
        · rintro ⟨⟨c, t⟩, hq, h⟩
          split at h
          · rename_i hc
            have h' : t = x := Option.some.inj h
            subst h'
            exact ⟨c, hq, Eq.symm hc⟩
          · cases h
        · rintro ⟨c, hq, hc⟩
          exact ⟨(c, x), hq, if_pos (Eq.symm hc)⟩
      have okS : ∀ x ∈ ss, LSok l x := fun x hx => path_ok he (first_ok he) ((hss x).mp hx)
      refine ⟨_, rfl, lv, oL, _, rfl, hndA.same (Same.newB nbh), ?_⟩
      refine for_it walk_nd (fun j σ H' => Same H H' ∧ NdAt P w K H' lv oL (ss.map fun a => (lsK a, V.bl true)) ∧ ∃ (sb : List LS) (v5 v6 v7 : Option V), σ = [some (.ref lp), some (.ref hp), some (.ref lv), some (.int m), some (.ref bh), v5, v6, v7] ∧ Nd P w K H' bh (sb.map fun a => (lsK a, V.bl true)) ∧ ∀ x, x ∈ sb ↔ x ∈ (ss.take j).flatMap mv) ?_ (fun j σ H' _ h => h.2.1) ?_ ?_
      · exact ⟨s2.moreB nbh, hndA.same (Same.newB nbh), [], _, _, _, rfl, ⟨_, hbh⟩, fun x => Iff.rfl⟩
      · rintro j y σ H3' H3 hj ⟨s3, hL3, sb, v5, v6, v7, rfl, hB3, hsb⟩ ⟨rfl, kk, vv, hkv, hky⟩
        rw [List.length_map] at hj
        rw [List.getElem?_map, List.getElem?_eq_getElem hj] at hkv
        have hkv' : (lsK ss[j], V.bl true) = (kk, vv) := Option.some.inj hkv
        injection hkv' with e1 e2
        subst e1
        have hjm : ss[j] ∈ ss := List.getElem_mem hj
        have okj := okS _ hjm
        have eTk : ss.take (j + 1) = ss.take j ++ [ss[j]] := by rw [List.take_succ, List.getElem?_eq_getElem hj]; rfl
        generalize ss[j] = sj at *
        have hyD : Dp K H3 y (lsD sj) := by
          have := hky.dp
          rw [lsK_data] at this
          exact this
        refine ⟨_, rfl, _, rfl, lp, y, l, sj, rfl, s3.tupB hl, lo, hyD, okj, fun mp H4 xM s4 nmp hmp hM => ?_⟩
        obtain ⟨oB3, hB3A⟩ := hB3
        have mb : mp ≠ bh := Ne.symm (ne_of_none hB3A.here nmp)
        have hml : xM.length = (movesL l sj).length := by
          have h1 := DpAll.len hM
          rw [List.length_map] at h1
          exact h1
        refine ⟨mp, rfl, ⟨_, SqL.of hmp⟩, for_list (K := K) (a := mp) (xs := xM) (fun q σ H' => Same H H' ∧ NdAt P w K H' lv oL (ss.map fun a => (lsK a, V.bl true)) ∧ H' mp = some (.lst xM) ∧ DpAll K H' xM ((movesL l sj).map mvD) ∧ ∃ (sb : List LS) (v6 v7 : Option V), σ = [some (.ref lp), some (.ref hp), some (.ref lv), some (.int m), some (.ref bh), some y, v6, v7] ∧ Nd P w K H' bh (sb.map fun a => (lsK a, V.bl true)) ∧ ∀ x, x ∈ sb ↔ x ∈ (ss.take j).flatMap mv ∨ x ∈ ((movesL l sj).take q).filterMap fun q => if (q.1 : Int) = m then some q.2 else none) ?_ (fun q σ H' _ h => SqL.of h.2.2.1) ?_ ?_⟩
        · refine ⟨s3.trans s4, hL3.same s4, hmp, hM, sb, _, _, rfl, ⟨_, hB3A.same s4⟩, fun x => ?_⟩
          rw [hsb x]
          exact ⟨.inl, fun h => h.elim id (fun h => nomatch h)⟩
        · rintro q y2 σ H5 hq ⟨s5, hL5, hmp5, hM5, sb5, v6, v7, rfl, hB5, hsb5⟩
          obtain ⟨d, hd, hy2⟩ := dpAll_get hM5 hq
          rw [List.getElem?_map] at hd
          obtain ⟨⟨c, t⟩, hct, rfl⟩ : ∃ r, (movesL l sj)[q]? = some r ∧ mvD r = d := by
            cases e : (movesL l sj)[q]? with
            | none => rw [e] at hd; cases hd
            | some r => rw [e] at hd; exact ⟨r, rfl, Option.some.inj hd⟩
          have eT2 : (movesL l sj).take (q + 1) = (movesL l sj).take q ++ [(c, t)] := by rw [List.take_succ, hct]; rfl
          obtain ⟨T, xT, rfl, hT, hT2⟩ := dp_tup hy2
          obtain ⟨x1, x2, rfl, g1, g2⟩ := dpAll_two hT2
          cases dp_int g1
          refine ⟨T, _, rfl, hT, rfl, _, _, rfl, _, _, rfl, rfl, ?_⟩
          refine ⟨_, rfl, _, rfl, rfl, _, rfl, iteD (fun hc => ?_) (fun hc => ?_)⟩
          · have hc' : (c : Int) = m := V.int.inj hc
            have hlen : (sb5.map fun a => (lsK a, V.bl true)).length ≤ 1500 := by
              rw [List.length_map]
              refine few (hs.take i) sb5 (nod hB5) fun x hx => ?_
              rcases (hsb5 x).mp hx with h | h
              · obtain ⟨s', hs', hx'⟩ := List.mem_flatMap.mp h
                obtain ⟨c', hc1, hc2⟩ := (mvm s' x).mp hx'
                exact ⟨hs.take i ++ [m], (path_snoc l m x _ _).mpr ⟨s', c', (hss s').mp (List.mem_of_mem_take hs'), hc1, hc2⟩⟩
              · have hx' : x ∈ mv sj := List.Sublist.subset (List.Sublist.filterMap _ (List.take_sublist _ _)) h
                obtain ⟨c', hc1, hc2⟩ := (mvm sj x).mp hx'
                exact ⟨hs.take i ++ [m], (path_snoc l m x _ _).mpr ⟨sj, c', (hss sj).mp hjm, hc1, hc2⟩⟩
            refine ⟨_, rfl, _, rfl, bh, _, lsK t, rfl, hB5, ls_key g2, Nat.lt_of_le_of_lt hlen (by decide), fun o' hn' => ?_⟩
            rw [putK_set lsK (fun a b => lsK_inj) (V.bl true) sb5 t] at hn'
            obtain ⟨oB5, hB5A⟩ := hB5
            have tk : TK H5 (upd H5 bh (PinO bh o')) := TK.upd hB5A.here (pin_notT _ _)
            refine ⟨s5.mutB nbh0, hL5.keep tk (by rw [upd_ne lb]; exact hL5.here), by rw [upd_ne mb]; exact hmp5, DpAll.keepT tk hM5 (map_noL mvD_noL _), _, _, _, rfl, ⟨_, hn'⟩, fun x => ?_⟩
            rw [addS_mem, hsb5 x, eT2, List.filterMap_append, List.mem_append, List.filterMap_cons, if_pos hc', List.filterMap_nil, List.mem_singleton, or_assoc]
          · have hc' : ¬ (c : Int) = m := fun e => hc (by rw [e])
            refine ⟨s5, hL5, hmp5, hM5, _, _, _, rfl, hB5, fun x => ?_⟩
            rw [hsb5 x, eT2, List.filterMap_append, List.mem_append, List.filterMap_cons, if_neg hc', List.filterMap_nil]
            exact ⟨fun h => h.elim .inl (fun h => .inr (.inl h)), fun h => h.elim .inl (fun h => h.elim .inr (fun h => nomatch h))⟩
        · rintro σ H5 ⟨s5, hL5, hmp5, hM5, sb5, v6, v7, rfl, hB5, hsb5⟩
          refine ⟨s5, hL5, sb5, _, _, _, rfl, hB5, fun x => ?_⟩
          rw [hsb5 x, hml, List.take_length, eTk, List.flatMap_append, List.mem_append, List.flatMap_cons, List.flatMap_nil, List.append_nil]
      · rintro σ H3 ⟨s3, hL3, sb, v5, v6, v7, rfl, hB3, hsb⟩
        refine ⟨_, rfl, s3, bh, sb, _, _, _, _, _, rfl, nbh0, hB3, fun x => ?_⟩
        rw [List.length_map, List.take_length] at hsb
        rw [hsb x, List.mem_flatMap, et, path_snoc]
        constructor
        · rintro ⟨s', hs', hx⟩
          obtain ⟨c, h1, h2⟩ := (mvm s' x).mp hx
          exact ⟨s', c, (hss s').mp hs', h1, h2⟩
        · rintro ⟨s', c, h1, h2, h3⟩
          exact ⟨s', (hss s').mpr h1, (mvm s' x).mpr ⟨c, h2, h3⟩⟩
    · rintro σ H2 ⟨s2, lv, ss, v3, v4, v5, v6, v7, rfl, nlv, hnd, hss⟩
      rw [List.length_map, List.take_length] at hss
      refine ⟨_, rfl, lv, _, rfl, hnd, _, _, rfl, rfl, ?_⟩
      refine k _ H2 s2 ?_
      rw [← path_may he, decide_eq_true_eq, List.length_map]
      constructor
      · intro h
        cases ss with
        | nil => exact absurd h (by simp)
        | cons x ss => exact ⟨x, (hss x).mp List.mem_cons_self⟩
      · rintro ⟨t, ht⟩
        have := (hss t).mpr ht
        cases ss with
        | nil => cases this
        | cons x ss => simp
end
end Bw

set_option Elab.async false
set_option linter.all false
set_option maxRecDepth 100000
set_option maxHeartbeats 4000000
namespace Bw
open PySem PySem.Spec PyProof.Rows L2
section
variable {P : Program} {w : World} {K : PySem.W.Frag} {mg : Str → Option Value} {base : Heap} {f : Addr} {fd : FuncData}
theorem ok_false_row (F : FnP K "false_row" s_false_row f fd) (h_need_line : Has P w K mg base 1 "need_line" ["line"] (spNeedLine K)) (h_need_rule : Has P w K mg base 2 "need_rule" ["rule"] (spNeedRule K)) (h_all_standing : Has P w K mg base 3 "all_standing" p_all_standing (spAll P w K)) : FnOk P w K mg base CX0 4 f fd p_false_row (spFalse K) := by
  refine F.ok sc_false_row (fun vs H Q E h => ?_) (fun cdv A outer s H vs Q E hr h => ?_)
  · obtain ⟨lp, q, l, r, rfl, _⟩ := h
    rfl
  · obtain ⟨lp, q, l, r, rfl, hl, lo, hq, ro, k⟩ := h
    refine ⟨_, PSs.nox (pss_cons (ps_expr (pe_fn h_need_line hr rfl (pa_cons (pv 0) pa_nil)))
        (pss_cons (ps_expr (pe_fn h_need_rule hr rfl (pa_cons (pv 1) pa_nil)))
        (pss_one (ps_ret (pe_ix ix_tup (pe_fn h_all_standing hr rfl (pa_cons (pv 0) (pa_cons (pv 1) pa_nil))) pe_int (fun _ _ => rfl)))))), ?_⟩
    refine ⟨_, rfl, lp, l, rfl, hl, lo, _, rfl, q, r, rfl, hq, ro, ?_⟩
    refine ⟨_, rfl, _, rfl, lp, q, l, r, rfl, hl, lo, hq, ro, fun p H' mt wv ms b s1 hE hm hM hW hp nmt hnew => ?_⟩
    refine ⟨p, _, _, _, rfl, rfl, SqT.of hp, atI_nat (j := 1) rfl, ?_⟩
    refine k wv H' b s1 hE (fun e => ?_) (fun ρ e => ?_)
    · rw [e] at hW
      exact hW
    · rw [e] at hW
      obtain ⟨k1, p1, e1, h1⟩ := hW
      exact ⟨p1, e1, hnew _ h1, hM.rows _ h1⟩
end
end Bw

set_option Elab.async false
set_option linter.all false
set_option maxRecDepth 100000
set_option maxHeartbeats 4000000
namespace Bw
open PySem PySem.Spec PyProof.Rows L2
section
variable {P : Program} {w : World} {K : PySem.W.Frag} {mg : Str → Option Value} {base : Heap} {f : Addr} {fd : FuncData}
theorem ok_Late___init__ {C : Addr} (F : FnQ K "__init__" "Late.__init__" s_Late___init__ f fd) (T : LTxt K C) : FnOk P w K mg base CX0 1 f fd p_Late___init__ (spLInit P w K C) := by
  refine F.ok sc_Late___init__ (fun vs H Q E h => ?_) (fun cdv A outer s H vs Q E hr h => ?_)
  · obtain ⟨x, lp, q, dx, rfl, _⟩ := h
    rfl
  · obtain ⟨x, lp, q, dx, rfl, hx, k⟩ := h
    refine ⟨_, PSs.nox (pss_cons (ps_fld (pv 0) (pv 1) rfl)
        (pss_cons (ps_fld (pv 0) (pv 2) rfl)
        (pss_one (ps_fld (pv 0) pe_nd0 rfl)))), ?_⟩
    refine ⟨_, rfl, _, rfl, x, C, dx, _, rfl, hx, T.cl, T.nL, by decide, ?_⟩
    refine ⟨_, rfl, _, rfl, x, C, dx, _, rfl, upd_same, T.cl, T.nR, (by show 1 < 1000; decide), ?_⟩
    rw [upd_upd]
    refine fun kd o nkd hn => ⟨_, rfl, x, C, dx, _, rfl, (Same.newB nkd) _ _ upd_same, T.cl, T.nK, ?_, ?_⟩
    · have e : putF "rule" (V.ref q) (putF "line" (.ref lp) []) = ([(("line" : Str), V.ref lp), (("rule" : Str), V.ref q)] : List (Str × V)) := by
        show (if ("line" : Str) = "rule" then _ else (("line" : Str), V.ref lp) :: putF "rule" (.ref q) []) = _
        rw [if_neg slr]
        rfl
      rw [e]
      show 2 < 1000
      decide
    · have nkx : kd ≠ x := Ne.symm (ne_of_none (upd_same (H := H) (a := x)) nkd)
      have nkd0 : H kd = none := by
        rw [upd_ne nkx] at nkd
        exact nkd
      refine k _ kd (by rw [upd_same, lF_new]) ⟨o, hn.keep (TK.upd ((Same.newB nkd) _ _ upd_same) True.intro) (by rw [upd_ne nkx]; exact hn.here)⟩ nkd0 fun b u nb hb => ?_
      rw [upd_ne nb, upd_ne (ne_of_none hb nkd0), upd_ne nb]
      exact hb
theorem ok_Late_longest {C : Addr} (F : FnQ K "longest" "Late.longest" s_Late_longest f fd) (bF : Binds K fd p_Late_longest []) (T : LTxt K C) (hme : Meth K C "longest" f)
    (h_heard_of : Has P w K mg base 1 "heard_of" p_heard_of (spHeardOf K)) (h_next_state : Has P w K mg base 1 "next_state" p_next_state (spNext K)) (h_is_gone : Has P w K mg base 1 "is_gone" p_is_gone (spGone K)) (n : Nat) :
    FnOk P w K mg base CX0 (n + 1) f fd p_Late_longest (spLongN P w K C n) := by
  induction n with
  | zero => exact fnOk_false
  | succ n ih =>
  have h_Late_longest : HasM P w K mg base (n + 1) C "longest" p_Late_longest (spLongN P w K C n) := ⟨f, fd, T.cl, hme, bF, ih⟩
  refine F.ok sc_Late_longest (fun vs H Q E h => ?_) (fun cdv A outer s H vs Q E hr h => ?_)
  · obtain ⟨x, ab, kb, dx, lp, q, kd, l, r, ages, kept, rfl, _⟩ := h
    rfl
  · obtain ⟨x, ab, kb, dx, lp, q, kd, l, r, ages, kept, rfl, hx, hl, lo, hq, ro, hKn, hab, okA, hkb, okK, hF, k⟩ := h
    have l3 := lo.l3
    have hal := okA.len
    refine ⟨_, PSs.nox (pss_cons (ps_set (i := 3) sc_Late_longest.nd rfl (Or.inl rfl) (pe_tup (pa_cons (pv 1) (pa_cons (pv 2) pa_nil))))
        (Evl.pss_cut (ps_if (pt_cmpR (op_notin_nd (hu20 hr)) (pv 3) (pe_fld (pv 0) rfl) rfl)
          (pss_cons (ps_set (i := 4) sc_Late_longest.nd rfl (Or.inl rfl) pe_non)
            (pss_cons (ps_for PassesOwn.never rfl (pi_list (pe_fn h_heard_of hr rfl (pa_cons (pe_fld (pv 0) rfl) (pa_cons (pv 1) pa_nil)) (Nat.le_add_left _ _))) (pg_tup rfl (pgs_cons (pg_name (i := 5) sc_Late_longest.nd rfl (Or.inl rfl)) (pgs_cons (pg_name (i := 6) sc_Late_longest.nd rfl (Or.inl rfl)) pgs_nil)))
              (pss_cons (ps_set (i := 7) sc_Late_longest.nd rfl (Or.inl rfl) (pe_fn h_next_state hr rfl (pa_cons (pe_fld (pv 0) rfl) (pa_cons (pv 2) (pa_cons (pv 5) pa_nil))) (Nat.le_add_left _ _)))
                (pss_cons (ps_set (i := 8) sc_Late_longest.nd rfl (Or.inl rfl) (pe_tup (pa_cons pe_int (pa_cons (pe_lst (pa_cons (pv 5) pa_nil)) pa_nil))))
                (Evl.pss_cut (ps_if (pt_not (pt_val (pe_fn h_is_gone hr rfl (pa_cons (pe_fld (pv 0) rfl) (pa_cons (pv 7) pa_nil)) (Nat.le_add_left _ _))))
                  (pss_cons (ps_set (i := 9) sc_Late_longest.nd rfl (Or.inl rfl) (pe_mth h_Late_longest (pv 0) hr (pa_cons (pv 6) (pa_cons (pv 7) pa_nil)) (Nat.le_refl _)))
                    (pss_one (ps_set (i := 8) sc_Late_longest.nd rfl (Or.inl rfl) (pe_tup (pa_cons (pe_op op_add (pe_ix ix_tup (pv 9) pe_int (fun _ _ => rfl)) pe_int) (pa_cons (pe_op op_cat (pe_lst (pa_cons (pv 5) pa_nil)) (pe_ix ix_tup (pv 9) pe_int (fun _ _ => rfl))) pa_nil))))))
                  pss_nil)
                (pss_one (ps_if (PW.pt (pw_or (pt_cmpR op_isN (pv 4) pe_non (nomark _)) (pw_or1 (pt_cmpR op_gt (pe_ix ix_tup (pv 8) pe_int (fun _ _ => rfl)) (pe_ix ix_tup (pv 4) pe_int (fun _ _ => rfl)) (nomark _)))))
                  (pss_one (ps_set (i := 4) sc_Late_longest.nd rfl (Or.inl rfl) (pv 8)))
                  pss_nil))))))
            (pss_one (ps_asg (pv 4) (pg_sub (pe_fld (pv 0) rfl) (pv 3) (set_nd (hu20 hr)))))))
          pss_nil)
        (pss_one (ps_ret (pe_ix (ix_nd (hu20 hr)) (pe_fld (pv 0) rfl) (pv 3) (fun _ _ => rfl)))))), ?_⟩
    refine ⟨_, rfl, _, rfl, szle (Nat.le_of_ble_eq_true rfl), fun Tk nTk => ?_⟩
    have sk : Same H (upd H Tk (.tup [.ref ab, .ref kb])) := Same.newB nTk
    have hTk : (upd H Tk (.tup [.ref ab, .ref kb])) Tk = some (.tup [.ref ab, .ref kb]) := upd_same
    have hx1 := sk _ _ hx
    have hl1 := sk.tupB hl
    have hq1 := sk.tupB hq
    have hK1 := hKn.same sk
    have hab1 := sk.tupB hab
    have hkb1 := sk.tupB hkb
    have kb0 : KB kd H (upd H Tk (.tup [.ref ab, .ref kb])) := KB.same sk
    revert hTk hx1 hl1 hq1 hK1 hab1 hkb1 kb0
    generalize upd H Tk (.tup [.ref ab, .ref kb]) = H1
    intro hTk hx1 hl1 hq1 hK1 hab1 hkb1 kb0
    obtain ⟨es, hKA⟩ := hK1
    -- behind the if: what is known holds the key
    refine ⟨fun σ' H' => KB kd H H' ∧ H' x = some (.ins C dx (lF lp q kd)) ∧ H' Tk = some (.tup [.ref ab, .ref kb]) ∧ SqT K H' ab ((nI ages).map V.int) ∧ SqT K H' kb (kept.map V.int) ∧ (∃ v4 v5 v6 v7 v8 v9, σ' = [some (.ref x), some (.ref ab), some (.ref kb), some (.ref Tk), v4, v5, v6, v7, v8, v9]) ∧ ∃ es, KnAt P w K l r H' kd es ∧ (ages, kept) ∈ es.map (·.1), ?_, ?_⟩
    · refine ⟨_, rfl, _, rfl, x, C, dx, _, _, rfl, hx1, T.cl, T.nK, lF_known _ _ _, kd, _, lkK (ages, kept), rfl, hKA.nd, lk_key (k := (ages, kept)) (SqT.of hTk) hab1 hkb1, _, rfl, ?_⟩
      rw [es_some, Bool.true_xor]
      refine iteN (fun hin => ?_) (fun hin => ?_)
      · -- not known yet
        refine ⟨_, rfl, x, C, dx, _, _, rfl, hx1, T.cl, T.nL, lF_line _ _ _, _, rfl, lp, ab, l, ages, rfl, hl1, lo, hab1, by omega, fun hp H2 xH s2 nhp hhp hH => ?_⟩
        obtain ⟨oK, hKo⟩ := hKA.nd
        have hhk : hp ≠ kd := Ne.symm (ne_of_none hKo.here nhp)
        have Tkk : Tk ≠ kd := ne_of hTk hKo.here (by intro z; cases z)
        have xk : x ≠ kd := ne_of hx1 hKo.here (by intro z; cases z)
        have hhl : xH.length = (heardL l ages).length := by
          have h1 := DpAll.len hH
          rw [List.length_map] at h1
          exact h1
        refine ⟨hp, rfl, ⟨_, SqL.of hhp⟩, for_list (K := K) (a := hp) (xs := xH) (fun i σ H' => KB kd H2 H' ∧ TK H2 H' ∧ Kn P w K l r H' kd ∧ ∃ (fv : V) (v5 v6 v7 v8 v9 : Option V), σ = [some (.ref x), some (.ref ab), some (.ref kb), some (.ref Tk), some fv, v5, v6, v7, v8, v9] ∧ FvAt (H') (fv) (((heardL l ages).take i).foldl (fun a q => better a (rowL (LNG l r) r kept q)) none)) ?_ (fun i σ H' _ h => SqL.of (h.1 _ _ hhk hhp)) ?_ ?_⟩
        · exact ⟨KB.refl kd H2, TK.refl H2, ⟨es, hKA.same s2⟩, .non, _, _, _, _, _, rfl, rfl⟩
        · rintro i y σ H3 hi ⟨kb3, tk3, hKn3, fv, v5, v6, v7, v8, v9, rfl, hfv⟩
          have hH3 := DpAll.keepT tk3 hH (map_noL hdD_noL _)
          obtain ⟨d, hd, hy⟩ := dpAll_get hH3 hi
          rw [List.getElem?_map] at hd
          obtain ⟨⟨m, left⟩, hml, rfl⟩ : ∃ z, (heardL l ages)[i]? = some z ∧ hdD z = d := by
            cases e : (heardL l ages)[i]? with
            | none => rw [e] at hd; cases hd
            | some z => rw [e] at hd; exact ⟨z, rfl, Option.some.inj hd⟩
          have hmem := List.mem_of_getElem? hml
          obtain ⟨okL, hmle⟩ := okA.next hmem
          have okK' := okK.next ro (m := (m : Int)) (by omega) (by omega)
          have eT : (heardL l ages).take (i + 1) = (heardL l ages).take i ++ [(m, left)] := by rw [List.take_succ, hml]; rfl
          have eFo : ((heardL l ages).take (i + 1)).foldl (fun a q => better a (rowL (LNG l r) r kept q)) none = better (((heardL l ages).take i).foldl (fun a q => better a (rowL (LNG l r) r kept q)) none) (rowL (LNG l r) r kept (m, left)) := by rw [eT, List.foldl_append]; rfl
          revert hfv eFo
          generalize ((heardL l ages).take i).foldl (fun a q => better a (rowL (LNG l r) r kept q)) none = acc
          intro hfv eFo
          obtain ⟨Tm, xT, rfl, hTm, hT2⟩ := dp_tup hy
          obtain ⟨z1, z2, rfl, g1, g2⟩ := dpAll_two hT2
          obtain ⟨lf, rfl, hlf⟩ := dp_intsD g2
          cases dp_int g1
          have hx3 : H3 x = some (.ins C dx (lF lp q kd)) := kb3 _ _ xk (s2 _ _ hx1)
          have hl3' := tk3.sqT (s2.tupB hl1)
          have hq3 := tk3.sqT (s2.tupB hq1)
          have hkb3 := tk3.sqT (s2.tupB hkb1)
          refine ⟨Tm, _, rfl, hTm, rfl, _, _, rfl, _, _, rfl, rfl, ?_⟩
          refine ⟨_, rfl, x, C, dx, _, _, rfl, hx3, T.cl, T.nR, lF_rule _ _ _, _, rfl, _, rfl, q, kb, (m : Int), r, kept, rfl, hq3, ro, hkb3, okK.st, fun ot H4 s4 hot => ?_⟩
          refine ⟨_, rfl, szle (Nat.le_of_ble_eq_true rfl), fun l1 nl1 => ⟨szle (Nat.le_of_ble_eq_true rfl), fun t1 nt1 => ?_⟩⟩
          have s5 := (Same.newB (o := .lst [.int (m : Int)]) nl1).moreB (o := .tup [.int 0, .ref l1]) nt1
          have s35 := s4.trans s5
          have hrow0 : LvAt (upd (upd H4 l1 (.lst [.int (m : Int)])) t1 (.tup [.int 0, .ref l1])) t1 (0, [(m : Int)]) := ⟨l1, upd_same, (Same.newB nt1) _ _ upd_same⟩
          have hx5 := s35 _ _ hx3
          have hl5 := s35.tupB hl3'
          have hq5 := s35.tupB hq3
          have hkb5 := s35.tupB hkb3
          have hlf5 := s35.tupB hlf
          have hot5 := s5.tupB hot
          have hK5 := hKn3.same s35
          have kb5 : KB kd H2 (upd (upd H4 l1 (.lst [.int (m : Int)])) t1 (.tup [.int 0, .ref l1])) := kb3.trans (KB.same s35)
          have tk5 : TK H2 (upd (upd H4 l1 (.lst [.int (m : Int)])) t1 (.tup [.int 0, .ref l1])) := tk3.trans (TK.same s35)
          have hfv5 : FvAt ((upd (upd H4 l1 (.lst [.int (m : Int)])) t1 (.tup [.int 0, .ref l1]))) (fv) (acc) := by
            cases acc with
            | none => exact hfv
            | some y =>
              obtain ⟨t, e1, e2⟩ := hfv
              exact ⟨t, e1, e2.same s35⟩
          revert hrow0 hx5 hl5 hq5 hkb5 hlf5 hot5 hK5 kb5 tk5 hfv5
          generalize upd (upd H4 l1 (.lst [.int (m : Int)])) t1 (.tup [.int 0, .ref l1]) = H5
          intro hrow0 hx5 hl5 hq5 hkb5 hlf5 hot5 hK5 kb5 tk5 hfv5
          refine ⟨fun σ' H' => KB kd H2 H' ∧ TK H2 H' ∧ Kn P w K l r H' kd ∧ (∃ t v9, σ' = [some (.ref x), some (.ref ab), some (.ref kb), some (.ref Tk), some fv, some (.int (m : Int)), some (.ref lf), some (.ref ot), some (.ref t), v9] ∧ LvAt H' t (rowL (LNG l r) r kept (m, left))) ∧ FvAt (H') (fv) (acc), ?_, ?_⟩
          · refine ⟨_, rfl, x, C, dx, _, _, rfl, hx5, T.cl, T.nR, lF_rule _ _ _, _, rfl, q, ot, r, nextS r kept (m : Int), rfl, hq5, ro, hot5, stOk_next _ _ _, _, rfl, ?_⟩
            cases hg : goneS r (nextS r kept (m : Int)) with
            | true =>
              refine iteF ⟨kb5, tk5, hK5, ⟨t1, _, rfl, ?_⟩, hfv5⟩
              unfold rowL
              rw [if_pos hg]
              exact hrow0
            | false =>
              have hFc : Fin l r n left (nextS r kept (m : Int)) := (hF m left hmem).resolve_left (by rw [hg]; decide)
              have eR : rowL (LNG l r) r kept (m, left) = ((LNG l r left (nextS r kept (m : Int))).1 + 1, (m : Int) :: (LNG l r left (nextS r kept (m : Int))).2) := if_neg (by rw [hg]; decide)
              have hLle := LNG_le lo ro okL okK'
              have hLlen := (LNG_ok lo ro okL okK').len
              cases n with
              | zero => exact hFc.elim
              | succ n =>
              refine iteT ⟨_, rfl, x, dx, _, rfl, hx5, lF_no _ _ _ (by decide +kernel) (by decide +kernel) (by decide +kernel), _, rfl, _, rfl, x, lf, ot, dx, lp, q, kd, l, r, left, nextS r kept (m : Int), rfl, hx5, hl5, lo, hq5, ro, hK5, hlf5, okL, hot5, okK', hFc, fun rt H6 kb6 hK6 hrt => ?_⟩
              obtain ⟨es5, hK5A⟩ := hK5
              obtain ⟨oK5, hK5o⟩ := hK5A.nd
              have tk6 : TK H5 H6 := kb6.tk hK5o.here (pin_notT _ _)
              obtain ⟨rp, hr1, hr2⟩ := hrt
              refine ⟨_, rfl, rt, _, _, _, rfl, rfl, SqT.of hr1, atI_nat (j := 0) rfl, _, _, rfl, rfl, _, rfl, szle (Nat.le_of_ble_eq_true rfl), fun l2 nl2 => ?_⟩
              have s7 : Same H6 (upd H6 l2 (.lst [.int (m : Int)])) := Same.newB nl2
              refine ⟨_, rfl, rt, _, _, _, rfl, rfl, SqT.of (s7 _ _ hr1), atI_nat (j := 1) rfl, l2, rp, [V.int (m : Int)], _, rfl, rfl, upd_same, s7 _ _ hr2, szle (by rw [List.length_map]; show 1 + _ ≤ _; omega), fun l3' nl3 => ⟨szle (Nat.le_of_ble_eq_true rfl), fun t2 nt2 => ?_⟩⟩
              have s8 := (s7.moreB (o := .lst ([.int (m : Int)] ++ (LNG l r left (nextS r kept (m : Int))).2.map V.int)) nl3).moreB (o := .tup [.int (((LNG l r left (nextS r kept (m : Int))).1 : Int) + 1), .ref l3']) nt2
              refine ⟨kb5.trans (kb6.trans (KB.same s8)), tk5.trans (tk6.trans (TK.same s8)), hK6.same s8, ⟨t2, _, rfl, ?_⟩, ?_⟩
              · rw [eR]
                refine ⟨l3', ?_, (Same.newB nt2) _ _ upd_same⟩
                rw [upd_same]
                rfl
              · cases acc with
                | none => exact hfv5
                | some y =>
                  obtain ⟨t, e1, e2⟩ := hfv5
                  exact ⟨t, e1, (e2.kb kb6 hK5o.here).same s8⟩
          · rintro σ' H6 ⟨kb6, tk6, hK6, ⟨t, u9, rfl, hrow⟩, hfv6⟩
            refine ⟨_, rfl, rfl, _, rfl, ?_⟩
            cases acc with
            | none =>
              have hfn : fv = .non := hfv6
              subst hfn
              refine iteT ⟨_, rfl, kb6, tk6, hK6, .ref t, _, _, _, _, _, rfl, ?_⟩
              rw [eFo]
              exact ⟨t, rfl, hrow⟩
            | some y =>
              obtain ⟨t0, hfe, hLv⟩ := hfv6
              subst hfe
              obtain ⟨rp, hr1, hr2⟩ := hrow
              obtain ⟨fp0, hf1, hf2⟩ := hLv
              refine iteF ⟨_, rfl, t, _, _, _, rfl, rfl, SqT.of hr1, atI_nat (j := 0) rfl, _, rfl, t0, _, _, _, rfl, rfl, SqT.of hf1, atI_nat (j := 0) rfl, _, _, rfl, rfl, _, rfl, iteD (fun hgt => ?_) (fun hgt => ?_)⟩
              · have hgt' : (rowL (LNG l r) r kept (m, left)).1 > y.1 := by omega
                refine ⟨_, rfl, kb6, tk6, hK6, .ref t, _, _, _, _, _, rfl, ?_⟩
                rw [eFo]
                show FvAt (H6) (V.ref t) ((if (rowL (LNG l r) r kept (m, left)).1 > y.1 then some (rowL (LNG l r) r kept (m, left)) else some y))
                rw [if_pos hgt']
                exact ⟨t, rfl, rp, hr1, hr2⟩
              · have hgt' : ¬ (rowL (LNG l r) r kept (m, left)).1 > y.1 := by omega
                refine ⟨kb6, tk6, hK6, .ref t0, _, _, _, _, _, rfl, ?_⟩
                rw [eFo]
                show FvAt (H6) (V.ref t0) ((if (rowL (LNG l r) r kept (m, left)).1 > y.1 then some (rowL (LNG l r) r kept (m, left)) else some y))
                rw [if_neg hgt']
                exact ⟨t0, rfl, fp0, hf1, hf2⟩
        · rintro σ H3 ⟨kb3, tk3, hKn3, fv, v5, v6, v7, v8, v9, rfl, hfv⟩
          rw [hhl, List.take_length, LNG_step lo ro okA okK] at hfv
          obtain ⟨t, rfl, hLv⟩ := hfv
          obtain ⟨es3, hK3⟩ := hKn3
          obtain ⟨oK3, hK3o⟩ := hK3.nd
          have hx3 : H3 x = some (.ins C dx (lF lp q kd)) := kb3 _ _ xk (s2 _ _ hx1)
          have hTk3 := kb3 _ _ Tkk (s2 _ _ hTk)
          have hab3 := tk3.sqT (s2.tupB hab1)
          have hkb3 := tk3.sqT (s2.tupB hkb1)
          refine ⟨_, rfl, _, rfl, x, C, dx, _, _, rfl, hx3, T.cl, T.nK, lF_known _ _ _, _, rfl, kd, _, lkK (ages, kept), rfl, hK3.nd, lk_key (k := (ages, kept)) (SqT.of hTk3) hab3 hkb3, ?_, fun o' hn' => ?_⟩
          · have := lk_few lo ro hK3.nodup (fun z hz => by
              obtain ⟨e, he, rfl⟩ := List.mem_map.mp hz
              exact hK3.ok e he)
            rw [List.length_map] at this
            unfold esK
            rw [List.length_map]
            exact Nat.lt_of_le_of_lt this (by decide)
          · rw [putE_K] at hn'
            have kb4 : KB kd H3 (upd H3 kd (PinO kd o')) := (KB.refl kd H3).upd
            have tk4 : TK H3 (upd H3 kd (PinO kd o')) := TK.upd hK3o.here (pin_notT _ _)
            refine ⟨((kb0.trans (KB.same s2)).trans kb3).trans kb4, kb4 _ _ xk hx3, kb4 _ _ Tkk hTk3, tk4.sqT hab3, tk4.sqT hkb3, ⟨_, _, _, _, _, _, rfl⟩, putE es3 (ages, kept) t, ⟨⟨o', hn'⟩, fun e he => ?_, fun e he => ?_⟩, putE_in _ _ _⟩
            · rcases putE_mem _ _ _ e he with rfl | he
              · exact hLv.kb kb4 hK3o.here
              · exact (hK3.val e he).kb kb4 hK3o.here
            · rcases putE_mem _ _ _ e he with rfl | he
              · exact ⟨okA, okK⟩
              · exact hK3.ok e he
      · exact ⟨kb0, hx1, hTk, hab1, hkb1, ⟨_, _, _, _, _, _, rfl⟩, es, hKA, hin⟩
    · rintro σ' H2 ⟨kb2, hx2, hTk2, hab2, hkb2, ⟨v4, v5, v6, v7, v8, v9, rfl⟩, es2, hK2, hin⟩
      obtain ⟨⟨kk, t⟩, he, hke⟩ := List.mem_map.mp hin
      have hke' : kk = (ages, kept) := hke
      subst hke'
      refine ⟨_, rfl, x, C, dx, _, _, rfl, hx2, T.cl, T.nK, lF_known _ _ _, _, rfl, kd, _, lkK (ages, kept), .ref t, rfl, hK2.nd, lk_key (k := (ages, kept)) (SqT.of hTk2) hab2 hkb2, es_val hK2.nodup he, ?_⟩
      exact k t H2 kb2 ⟨es2, hK2⟩ (hK2.val _ he)
end
end Bw

set_option Elab.async false
set_option linter.all false
set_option maxRecDepth 100000
set_option maxHeartbeats 4000000
namespace Bw
open PySem PySem.Spec PyProof.Rows L2
section
variable {P : Program} {w : World} {K : PySem.W.Frag} {mg : Str → Option Value} {base : Heap} {f : Addr} {fd : FuncData}
theorem ok_latest {C : Addr} (F : FnP K "latest" s_latest f fd) (g_len : mg "len" = none) (h_need_line : Has P w K mg base 1 "need_line" ["line"] (spNeedLine K)) (h_need_rule : Has P w K mg base 2 "need_rule" ["rule"] (spNeedRule K))
    (h_Late : HasC P w K mg base 1 "Late" C p_Late___init__ (spLInit P w K C)) (h_Late_longest : HasM P w K mg base 17 C "longest" p_Late_longest (spLongN P w K C 16)) (h_all_standing : Has P w K mg base 3 "all_standing" p_all_standing (spAll P w K)) : FnOk P w K mg base CX0 18 f fd p_latest (spLatest K) := by
  refine F.ok sc_latest (fun vs H Q E h => ?_) (fun cdv A outer s H vs Q E hr h => ?_)
  · obtain ⟨lp, q, l, r, rfl, _⟩ := h
    rfl
  · obtain ⟨lp, q, l, r, rfl, hl, lo, hq, ro, k⟩ := h
    refine ⟨_, PSs.nox (pss_cons (ps_expr (pe_fn h_need_line hr rfl (pa_cons (pv 0) pa_nil)))
        (pss_cons (ps_expr (pe_fn h_need_rule hr rfl (pa_cons (pv 1) pa_nil)))
        (pss_cons (ps_set (i := 2) sc_latest.nd rfl (Or.inl rfl) (pe_new h_Late hr rfl (pa_cons (pv 0) (pa_cons (pv 1) pa_nil))))
        (pss_cons (ps_set (i := 3) sc_latest.nd rfl (Or.inl rfl) pe_non)
        (pss_cons (ps_set (i := 4) sc_latest.nd rfl (Or.inl rfl) (pe_ix ix_tup (pe_fn h_all_standing hr rfl (pa_cons (pv 0) (pa_cons (pv 1) pa_nil))) pe_int (fun _ _ => rfl)))
        (pss_cons (ps_for PassesOwn.never rfl (pi_nd (pv 4)) (pg_tup rfl (pgs_cons (pg_name (i := 5) sc_latest.nd rfl (Or.inl rfl)) (pgs_cons (pg_name (i := 6) sc_latest.nd rfl (Or.inl rfl)) pgs_nil)))
          (pss_cons (ps_asg (pe_mth h_Late_longest (pv 2) hr (pa_cons (pe_ix ix_tup (pv 5) pe_int (fun _ _ => rfl)) (pa_cons (pv 6) pa_nil))) (pg_tup rfl (pgs_cons (pg_name (i := 7) sc_latest.nd rfl (Or.inl rfl)) (pgs_cons (pg_name (i := 8) sc_latest.nd rfl (Or.inl rfl)) pgs_nil))))
            (pss_one (ps_if (pt_cut (PW.pt (pw_or (pt_cmpR op_isN (pv 3) pe_non (nomark _)) (pw_or1 (pt_cmpR op_gt (pv 7) (pe_ix ix_tup (pv 3) pe_int (fun _ _ => rfl)) (nomark _))))))
              (pss_cons (ps_set (i := 9) sc_latest.nd rfl (Or.inl rfl) (pe_ix (ix_nd (hu20 hr)) (pv 4) (pe_tup (pa_cons (pv 5) (pa_cons (pv 6) pa_nil))) (fun _ _ => rfl)))
                (pss_one (ps_set (i := 3) sc_latest.nd rfl (Or.inl rfl) (pe_tup (pa_cons (pv 7) (pa_cons (pe_callB call_len_seq (by rfl) g_len (by decide +kernel) (pa_cons (pv 9) pa_nil)) (pa_cons (pe_op op_cat (pv 9) (pv 8)) pa_nil)))))))
              pss_nil))))
        (pss_one (ps_ret (pv 3))))))))), ?_⟩
    refine ⟨_, rfl, lp, l, rfl, hl, lo, _, rfl, q, r, rfl, hq, ro, ?_⟩
    refine ⟨_, rfl, _, rfl, fun x dx nx ndx ne => ?_⟩
    have keep0 : Same H (upd (upd H dx (.own x)) x (.ins C dx [])) := (Same.newB ndx).moreB (by rw [upd_ne (Ne.symm ne)]; exact nx)
    refine ⟨x, lp, q, dx, rfl, upd_same, fun H2 kd hx hkd nkd kp => ⟨rfl, ?_⟩⟩
    have s2 : Same H H2 := fun b o hb => kp b o (ne_of_none hb nx) (keep0 b o hb)
    have nkd0 : H kd = none := keep0.free nkd
    refine ⟨_, rfl, _, rfl, lp, q, l, r, rfl, s2.tupB hl, lo, s2.tupB hq, ro, fun p H3 mt wv ms b s3 hE hm hM hW hp nmt hnew => ?_⟩
    refine ⟨p, _, _, _, rfl, rfl, SqT.of hp, atI_nat (j := 0) rfl, ?_⟩
    have R := BEnd.res (firstP_gone r ro) hE
    have s03 := s2.trans s3
    have hkd3 := hkd.same s3
    have hKn3 : Kn P w K l r H3 kd := ⟨[], hkd3, fun e he => (nomatch he), fun e he => (nomatch he)⟩
    obtain ⟨oK, hKo⟩ := hkd3
    have hx3 := s3 _ _ hx
    obtain ⟨oM, hMA⟩ := hM.nd
    have mtk : mt ≠ kd := by
      obtain ⟨o', h'⟩ := hkd
      exact Ne.symm (ne_of_none h'.here nmt)
    have xk : x ≠ kd := ne_of hx3 hKo.here (by intro z; cases z)
    have hlen : ms.length = b.met.length := by rw [← hm]; unfold msM; rw [List.length_map]
    have ndup : ((msM ms).map (·.1)).Nodup := by rw [hm]; exact R.nd
    refine ⟨_, rfl, mt, oM, _, rfl, hMA, ?_⟩
    refine for_it walk_nd (fun j σ H' => KB kd H3 H' ∧ Kn P w K l r H' kd ∧ ∃ (bv : V) (v5 v6 v7 v8 v9 : Option V), σ = [some (.ref lp), some (.ref q), some (.ref x), some bv, some (.ref mt), v5, v6, v7, v8, v9] ∧ BvAt H H' bv ((b.met.take j).foldl (bst l r) none)) ?_ (fun j σ H' _ h => hMA.keep (h.1.tk hKo.here (pin_notT _ _)) (h.1 _ _ mtk hMA.here)) ?_ ?_
    · exact ⟨KB.refl kd H3, hKn3, .non, _, _, _, _, _, rfl, rfl⟩
    · rintro j y σ H4' H4 hj ⟨kb4, hKn4, bv, v5, v6, v7, v8, v9, rfl, hbv⟩ ⟨rfl, kk, vv, hkv, hky⟩
      have tk4 : TK H3 H4 := kb4.tk hKo.here (pin_notT _ _)
      have hMA4 := hMA.keep tk4 (kb4 _ _ mtk hMA.here)
      unfold msK at hj hkv
      rw [List.length_map] at hj
      rw [List.getElem?_map, List.getElem?_eq_getElem hj] at hkv
      have hmj : ms[j] ∈ ms := List.getElem_mem hj
      have hbj : b.met[j]? = some (ms[j].1, ms[j].2.2) := by
        rw [← hm]
        unfold msM
        rw [List.getElem?_map, List.getElem?_eq_getElem hj]
        rfl
      revert hkv hmj hbj
      generalize ms[j] = mj
      obtain ⟨key, ra, ρ⟩ := mj
      intro hkv hmj hbj
      have hkv' : (pkK key, V.ref ra) = (kk, vv) := Option.some.inj hkv
      injection hkv' with e1 e2
      subst e1
      have hbm : (key, ρ) ∈ b.met := List.mem_of_getElem? hbj
      have hpk := R.row key ρ hbm
      obtain ⟨okS, okK⟩ := pk_ok lo ro hpk
      have hsh := bfs_row_short lo ro hE hbm
      have eT : b.met.take (j + 1) = b.met.take j ++ [(key, ρ)] := by rw [List.take_succ, hbj]; rfl
      have eFo : (b.met.take (j + 1)).foldl (bst l r) none = bst l r ((b.met.take j).foldl (bst l r) none) (key, ρ) := by rw [eT, List.foldl_append]; rfl
      revert hbv eFo
      generalize (b.met.take j).foldl (bst l r) none = acc
      intro hbv eFo
      have hyD : Dp K H4 y (pkD key) := by
        have := hky.dp
        rw [pkK_data] at this
        exact this
      obtain ⟨Tj, xj, kb, rfl, hTj, hxj, hkb⟩ := pk_at hyD
      refine ⟨Tj, _, rfl, hTj, rfl, _, _, rfl, _, _, rfl, rfl, ?_⟩
      obtain ⟨sp, ab, rfl, hsp, hab⟩ := ls_at hxj
      have hx4 := kb4 _ _ xk hx3
      have s04 : Same H H4 := fun b o hb => kb4 b o (ne_of_none hb nkd0) (s03 b o hb)
      refine ⟨_, rfl, x, dx, _, rfl, hx4, lF_no _ _ _ (by decide +kernel) (by decide +kernel) (by decide +kernel), _, rfl, sp, _, _, _, rfl, rfl, hsp, atI_nat (j := 1) rfl, _, rfl, x, ab, kb, dx, lp, q, kd, l, r, key.1.ages, key.2, rfl, hx4, s04.tupB hl, lo, s04.tupB hq, ro, hKn4, hab, okS.ag, hkb, okK, fin16 lo ro okS.ag okK, fun t H5 kb5 hKn5 hLv => ?_⟩
      have hLle := LNG_le lo ro okS.ag okK
      have hLlen := (LNG_ok lo ro okS.ag okK).len
      obtain ⟨es4, hK4A⟩ := hKn4
      obtain ⟨oK4, hK4o⟩ := hK4A.nd
      have tk5 : TK H4 H5 := kb5.tk hK4o.here (pin_notT _ _)
      have hbv5 := hbv.kb kb5 hK4o.here
      have kb35 := kb4.trans kb5
      have hMA5 := hMA4.keep tk5 (kb5 _ _ mtk hMA4.here)
      have s05 : Same H H5 := fun b o hb => kb35 b o (ne_of_none hb nkd0) (s03 b o hb)
      have hra : H5 ra = some (.lst (ρ.map V.int)) := by
        have h3 := hM.rows _ hmj
        exact kb35 _ _ (ne_of h3 hKo.here (by intro z; cases z)) h3
      have hTj5 := tk5.sqT hTj
      have hky5 := hky.keep tk5
      obtain ⟨rp, hr1, hr2⟩ := hLv
      refine ⟨t, _, rfl, SqT.of hr1, rfl, _, _, rfl, _, _, rfl, rfl, ?_⟩
      refine ⟨fun tb H' => H' = H5 ∧ tb = bstT (LNG l r key.1.ages key.2).1 acc, ?_, ?_⟩
      · refine ⟨_, rfl, rfl, _, rfl, ?_⟩
        cases acc with
        | none =>
          have hfn : bv = .non := hbv5
          subst hfn
          exact iteT ⟨rfl, rfl⟩
        | some y =>
          obtain ⟨t0, p0, rfl, hf1, hf2, _⟩ := hbv5
          refine iteF ⟨_, rfl, _, rfl, t0, _, _, _, rfl, rfl, SqT.of hf1, atI_nat (j := 0) rfl, _, _, rfl, rfl, _, rfl, rfl, ?_⟩
          exact decide_eq_decide.mpr (by omega)
      · rintro tb H6 ⟨rfl, rfl⟩
        refine iteB (fun hb => ?_) (fun hb => ?_)
        · refine ⟨_, rfl, _, rfl, _, rfl, szle (Nat.le_of_ble_eq_true rfl), fun T6 nT6 => ?_⟩
          have s6 : Same H6 (upd H6 T6 (.tup [.ref sp, .ref kb])) := Same.newB nT6
          refine ⟨mt, _, pkK key, V.ref ra, rfl, ⟨oM, hMA5.same s6⟩, pk_key (pk_mk (k := key) (x := .ref sp) (b := kb) (SqT.of upd_same) (Dp.same s6 _ _ (Dp.keepT tk5 hxj (lsD_noL _))) (s6.tupB (tk5.sqT hkb))), ms_val ndup hmj, ?_⟩
          have hra6 := s6 _ _ hra
          refine ⟨_, rfl, _, rfl, ra, _, rfl, Or.inl (SqL.of hra6), _, rfl, _, rfl, ra, rp, _, _, rfl, rfl, hra6, s6 _ _ hr2, szle (by rw [List.length_map, List.length_map]; omega), fun l3 nl3 => ⟨szle (Nat.le_of_ble_eq_true rfl), fun t2 nt2 => ?_⟩⟩
          have s8 := (s6.moreB (o := .lst (ρ.map V.int ++ (LNG l r key.1.ages key.2).2.map V.int)) nl3).moreB (o := .tup [.int ((LNG l r key.1.ages key.2).1 : Int), .int ((ρ.map V.int).length : Int), .ref l3]) nt2
          refine ⟨kb35.trans (KB.same s8), hKn5.same s8, .ref t2, _, _, _, _, _, rfl, ?_⟩
          have eB : bst l r acc (key, ρ) = some ((LNG l r key.1.ages key.2).1, ρ.length, ρ ++ (LNG l r key.1.ages key.2).2) := by
            cases acc with
            | none => rfl
            | some y => exact if_pos (of_decide_eq_true hb)
          rw [eFo, eB]
          refine ⟨t2, l3, rfl, ?_, ?_, ?_, ?_⟩
          · rw [upd_same, List.length_map]
          · rw [(Same.newB nt2) _ _ upd_same, List.map_append]
          · exact (s05.trans (s6.moreB nl3)).free nt2
          · exact (s05.trans s6).free nl3
        · have eB : bst l r acc (key, ρ) = acc := by
            cases acc with
            | none => cases hb
            | some y => exact if_neg (of_decide_eq_false hb)
          refine ⟨kb35, hKn5, bv, _, _, _, _, _, rfl, ?_⟩
          rw [eFo, eB]
          exact hbv5
    · rintro σ H4 ⟨kb4, hKn4, bv, v5, v6, v7, v8, v9, rfl, hbv⟩
      have e9 : (msK ms).length = b.met.length := by unfold msK; rw [List.length_map]; exact hlen
      rw [e9, List.take_length] at hbv
      have hne : b.met ≠ [] := fun e => by
        obtain ⟨ρ, h1, _⟩ := R.all [] (firstP r) rfl
        rw [e] at h1
        cases h1
      obtain ⟨y, g1, _⟩ := bst_fold l r b.met none (.inr hne)
      rw [g1] at hbv
      obtain ⟨t, p2, rfl, h1, h2, h3, h4⟩ := hbv
      refine ⟨_, rfl, k t p2 H4 y (fun b o hb => kb4 b o (ne_of_none hb nkd0) (s03 b o hb)) ⟨b, hE, g1⟩ h1 h2 h4 h3⟩
end
end Bw

set_option Elab.async false
set_option linter.all false
set_option maxRecDepth 100000
set_option maxHeartbeats 4000000
namespace Bw
open PySem PySem.Spec PyProof.Rows L2
section
variable {P : Program} {w : World} {K : PySem.W.Frag} {mg : Str → Option Value} {base : Heap} {f : Addr} {fd : FuncData}
theorem ok_chosen (F : FnP K "chosen" s_chosen f fd) (g_enumerate : mg "enumerate" = none) (h_need_line : Has P w K mg base 1 "need_line" ["line"] (spNeedLine K)) (h_is_rule : Has P w K mg base 1 "is_rule" ["rule"] (spIsRule K))
    (h_false_row : Has P w K mg base 4 "false_row" p_false_row (spFalse K)) (h_latest : Has P w K mg base 18 "latest" p_latest (spLatest K)) : FnOk P w K mg base CX0 19 f fd p_chosen (spChosen K) := by
  refine F.ok sc_chosen (fun vs H Q E h => ?_) (fun cdv A outer s H vs Q E hr h => ?_)
  · obtain ⟨lp, rp, l, xs, rs, rfl, _⟩ := h
    rfl
  · obtain ⟨lp, rp, l, xs, rs, rfl, hl, lo, hrp, hD, ro, k⟩ := h
    refine ⟨_, PSs.nox (pss_cons (ps_expr (pe_fn h_need_line hr rfl (pa_cons (pv 0) pa_nil)))
        (pss_cons (ps_for PassesOwn.never rfl (pi_enum (by rfl) g_enumerate (pa_cons (pv 1) pa_nil)) (pg_tup rfl (pgs_cons (pg_name (i := 2) sc_chosen.nd rfl (Or.inl rfl)) (pgs_cons (pg_name (i := 3) sc_chosen.nd rfl (Or.inl rfl)) pgs_nil)))
          (pss_one (ps_if (pt_not (pt_val (pe_fn h_is_rule hr rfl (pa_cons (pv 3) pa_nil))))
            (pss_one ps_never)
            pss_nil)))
        (pss_cons (ps_set (i := 4) sc_chosen.nd rfl (Or.inl rfl) pe_non)
        (pss_cons (ps_for PassesOwn.never rfl (pi_enum (by rfl) g_enumerate (pa_cons (pv 1) pa_nil)) (pg_tup rfl (pgs_cons (pg_name (i := 2) sc_chosen.nd rfl (Or.inl rfl)) (pgs_cons (pg_name (i := 3) sc_chosen.nd rfl (Or.inl rfl)) pgs_nil)))
          (pss_one (ps_if (pt_cmpR op_isN (pe_fn h_false_row hr rfl (pa_cons (pv 0) (pa_cons (pv 3) pa_nil))) pe_non (nomark _))
            (pss_cons (ps_set (i := 5) sc_chosen.nd rfl (Or.inl rfl) (pe_ix ix_tup (pe_fn h_latest hr rfl (pa_cons (pv 0) (pa_cons (pv 3) pa_nil))) pe_int (fun _ _ => rfl)))
              (pss_one (ps_if (pt_cut (PW.pt (pw_or (pt_cmpR op_isN (pv 4) pe_non (nomark _)) (pw_or1 (pt_cmpR op_lt (pv 5) (pe_ix ix_tup (pv 4) pe_int (fun _ _ => rfl)) (nomark _))))))
                (pss_one (ps_set (i := 4) sc_chosen.nd rfl (Or.inl rfl) (pe_tup (pa_cons (pv 2) (pa_cons (pv 5) pa_nil)))))
                pss_nil)))
            pss_nil)))
        (pss_one (ps_ret (pv 4))))))), ?_⟩
    have hxl : xs.length = rs.length := by
      have := DpAll.len hD
      rw [List.length_map] at this
      exact this
    refine ⟨_, rfl, lp, l, rfl, hl, lo, ?_⟩
    refine ⟨_, rfl, rp, _, rfl, hrp, for_enum (K := K) (a := rp) (xs := xs) (fun i σ H' => Same H H' ∧ ∃ v2 v3, σ = [some (.ref lp), some (.ref rp), v2, v3, none, none]) ⟨Same.refl H, none, none, rfl⟩ (fun i σ H' _ h => h.1.seq hrp) ?_ ?_⟩
    · rintro i y σ H' T hi ⟨s1, v2, v3, rfl⟩ nT
      obtain ⟨r, q, hr', rfl, hq⟩ := rules_at hD hi
      obtain ⟨x, ns, e1, e2, e3⟩ := r.raw (ro r (List.mem_of_getElem? hr'))
      rw [e1] at hq
      refine ⟨T, _, rfl, SqT.of upd_same, rfl, _, _, rfl, _, _, rfl, rfl, ?_⟩
      refine ⟨_, rfl, q, x, ns, rfl, (s1.moreB nT).tupB hq, e2, true, by rw [e3], ?_⟩
      exact ⟨s1.moreB nT, _, _, rfl⟩
    · rintro σ H1 ⟨s1, v2, v3, rfl⟩
      refine ⟨_, rfl, rp, _, rfl, s1.seq hrp, for_enum (K := K) (a := rp) (xs := xs) (fun i σ H' => Same H H' ∧ ∃ (bv : V) (v2 v3 v5 : Option V) (o : Option (Nat × Nat)), σ = [some (.ref lp), some (.ref rp), v2, v3, some bv, v5] ∧ ChP l (rs.take i) o ∧ ChAt H' bv o) ⟨s1, .non, _, _, _, none, rfl, .nil, rfl⟩ (fun i σ H' _ h => h.1.seq hrp) ?_ ?_⟩
      · rintro i y σ H2 T hi ⟨s2, bv, v2, v3, v5, o, rfl, hC, hb⟩ nT
        obtain ⟨r, q, hr', rfl, hq⟩ := rules_at hD hi
        have ho := ro r (List.mem_of_getElem? hr')
        have et : rs.take (i + 1) = rs.take i ++ [r] := by rw [List.take_succ, hr']; rfl
        have hil : (rs.take i).length = i := by
          have := (List.getElem?_eq_some_iff.mp hr').1
          rw [List.length_take]
          omega
        have sT := s2.moreB (o := .tup [.int (i : Nat), .ref q]) nT
        refine ⟨T, _, rfl, SqT.of upd_same, rfl, _, _, rfl, _, _, rfl, rfl, ?_⟩
        refine ⟨_, rfl, _, rfl, lp, q, l, r, rfl, sT.tupB hl, lo, sT.tupB hq, ho, fun v H3 b s3 hE hno hyes => ?_⟩
        have hR := endP_row lo ho hE
        have s03 := sT.trans s3
        have tk3 : TK H2 H3 := (TK.new nT).trans (TK.same s3)
        refine ⟨rfl, _, rfl, iteD (fun hv => ?_) (fun hv => ?_)⟩
        · have hb0 : b.wr = none := by
            cases hb : b.wr with
            | none => rfl
            | some ρ =>
              obtain ⟨p, e', _⟩ := hyes ρ hb
              rw [hv] at e'
              cases e'
          refine ⟨_, rfl, _, rfl, lp, q, l, r, rfl, s03.tupB hl, lo, s03.tupB hq, ho, fun fp hp4 H4 x s4 hLT hfp hhp nhp nfp => ?_⟩
          refine ⟨fp, _, _, _, rfl, rfl, SqT.of hfp, atI_nat (j := 0) rfl, ?_⟩
          have hC' : ChP l (rs.take (i + 1)) (betN o i x.1) := by
            rw [et]
            have := Ch.right (r := r) (n := x.1) hC (hR.noF.mp hb0) ⟨x, hLT.ok lo ho, rfl⟩
            rw [hil] at this
            exact this
          have hb4 : ChAt H4 bv o := hb.tk (tk3.trans (TK.same s4))
          refine ⟨fun tb H' => H' = H4 ∧ tb = betB o x.1, ?_, ?_⟩
          · refine ⟨_, rfl, rfl, _, rfl, ?_⟩
            cases o with
            | none =>
              have hfn : bv = .non := hb4
              subst hfn
              exact iteT ⟨rfl, rfl⟩
            | some y =>
              obtain ⟨t0, rfl, hf1⟩ := hb4
              refine iteF ⟨_, rfl, _, rfl, t0, _, _, _, rfl, rfl, SqT.of hf1, atI_nat (j := 1) rfl, _, _, rfl, rfl, _, rfl, rfl, ?_⟩
              exact decide_eq_decide.mpr (by omega)
          · rintro tb H6 ⟨rfl, rfl⟩
            refine iteB (fun hbt => ?_) (fun hbt => ?_)
            · refine ⟨_, rfl, _, rfl, szle (Nat.le_of_ble_eq_true rfl), fun t2 nt2 => ?_⟩
              rw [betN_yes hbt] at hC'
              exact ⟨(s03.trans s4).moreB nt2, .ref t2, _, _, _, _, rfl, hC', t2, rfl, upd_same⟩
            · rw [betN_no hbt] at hC'
              exact ⟨s03.trans s4, bv, _, _, _, _, rfl, hC', hb4⟩
        · have hC' : ChP l (rs.take (i + 1)) o := by
            rw [et]
            exact Ch.wrong hC fun hn => hv (hno (hR.noF.mpr hn))
          exact ⟨s03, bv, _, _, _, _, rfl, hC', hb.tk tk3⟩
      · rintro σ H2 ⟨s2, bv, v2, v3, v5, o, rfl, hC, hb⟩
        rw [hxl, List.take_length] at hC
        exact ⟨_, rfl, k bv H2 o s2 hC hb⟩
end
end Bw

set_option Elab.async false
set_option linter.all false
set_option maxRecDepth 100000
set_option maxHeartbeats 4000000
namespace Bw
open PySem PySem.Spec PyProof.Rows L2
section
variable {P : Program} {w : World} {K : PySem.W.Frag} {mg : Str → Option Value} {base : Heap} {f : Addr} {fd : FuncData}
theorem ok_written (F : FnP K "written" s_written f fd) (g_str : mg "str" = none) (h_need_heard : Has P w K mg base 1 "need_heard" ["heard"] (spNeedHeard K)) : FnOk P w K mg base CX0 2 f fd p_written (spWritten K) := by
  refine F.ok sc_written (fun vs H Q E h => ?_) (fun cdv A outer s H vs Q E hr h => ?_)
  · obtain ⟨l, hs, rfl, _⟩ := h
    rfl
  · obtain ⟨l, hs, rfl, hl, hh, k⟩ := h
    have hn := hh.1
    refine ⟨_, PSs.nox (pss_cons (ps_expr (pe_fn h_need_heard hr rfl (pa_cons (pv 0) pa_nil)))
        (pss_one (ps_ret (pe_join pe_str (pe_lc (own := [("many", 1)]) (g := gName 1) rfl sc_written.nd (pi_list (pv 0)) (blkOk_by (own := [("many", 1)]) (N := n_written) (sc := defScope s_written) (by decide +kernel)) (fun _ _ _ _ _ => (pg_name (i := 1) sc_written.nd rfl (Or.inl rfl))) (fun _ _ _ _ _ => pts_nil) (fun _ _ _ _ _ => (pe_ifExp (pt_cmpR op_eq (pv 1) pe_int (nomark _)) pe_str (pe_callTy call_str_int (by rfl) g_str (by decide +kernel) (pa_cons (pv 1) pa_nil))))))))), ?_⟩
    refine ⟨_, rfl, l, hs, rfl, hl, hh, fun H1 s1 => ?_⟩
    refine ⟨⟨_, rfl⟩, _, rfl, l, rfl, ⟨_, s1.seq hl⟩, fun D nD => lc_list (K := K) (a := l) (xs := hs.map V.int) (fun i H' => Same H H' ∧ H' D = some (.lst ((hs.take i).map fun m => V.str (signOf m)))) ⟨s1.moreB nD, upd_same⟩ (fun i H' _ h => h.1.seq hl) ?_ ?_⟩
    · rintro i y H' hi ⟨s2, e2⟩
      obtain ⟨c, hc, rfl⟩ := int_at hi
      have hb := hh.2 c (List.mem_of_getElem? hc)
      have et : hs.take (i + 1) = hs.take i ++ [c] := by rw [List.take_succ, hc]; rfl
      have hil := (List.getElem?_eq_some_iff.mp hc).1
      have fin : Same H (upd H' D (.lst (((hs.take i).map fun m => V.str (signOf m)) ++ [V.str (signOf c)]))) ∧ (upd H' D (.lst (((hs.take i).map fun m => V.str (signOf m)) ++ [V.str (signOf c)]))) D = some (.lst ((hs.take (i + 1)).map fun m => V.str (signOf m))) := by
        refine ⟨s2.mutB (s1.free nD), ?_⟩
        rw [upd_same, et, List.map_append]
        rfl
      refine ⟨rfl, _, rfl, rfl, _, rfl, iteD (fun hz => ?_) (fun hz => ?_)⟩
      · have hz' : c = 0 := V.int.inj hz
        subst hz'
        rw [sign_dot] at fin
        exact ⟨_, e2, szlt (by rw [List.length_map, List.length_take]; omega), fin⟩
      · have hz' : c ≠ 0 := fun e => hz (congrArg V.int e)
        refine ⟨_, rfl, c, rfl, ?_, _, e2, szlt (by rw [List.length_map, List.length_take]; omega), ?_⟩
        · rcases nine hb.1 hb.2 with rfl | rfl | rfl | rfl | rfl | rfl | rfl | rfl | rfl | rfl
          all_goals decide
        · rw [sign_str hb.1 hb.2 hz']
          exact fin
    · rintro H' ⟨s2, e2⟩
      rw [List.length_map, List.take_length] at e2
      refine ⟨_, D, hs.map signOf, rfl, rfl, Or.inl (SqL.of (by rw [e2, List.map_map]; rfl)), ?_, ?_⟩
      · have e3 : (hs.map signOf).map (·.length) = List.replicate hs.length 1 := by
          rw [List.map_map]
          refine List.ext_getElem? fun i => ?_
          rw [List.getElem?_map, List.getElem?_replicate]
          split
          · rename_i hi
            rw [List.getElem?_eq_getElem hi]
            rfl
          · rename_i hi
            rw [List.getElem?_eq_none (by omega)]
            rfl
        have e4 : (("" : String) : Str).length = 0 := by decide +kernel
        rw [e3, List.sum_replicate_nat, e4]
        omega
      · rw [join_text]
        exact k H' s2
theorem figs {m : Int} (h0 : 0 ≤ m) (h9 : m ≤ 9) (hz : m ≠ 0) : decide (cpOf m ∈ (("0123456789" : String) : Str).cps.toList) = true := by
  rcases nine h0 h9 with rfl | rfl | rfl | rfl | rfl | rfl | rfl | rfl | rfl | rfl
  · exact absurd rfl hz
  all_goals decide +kernel
theorem sgn_zero {m : Int} (h0 : 0 ≤ m) (h9 : m ≤ 9) : decide (V.str ⟨#[cpOf m]⟩ = V.str (("0" : String) : Str)) = false := by
  rcases nine h0 h9 with rfl | rfl | rfl | rfl | rfl | rfl | rfl | rfl | rfl | rfl
  all_goals decide +kernel
theorem sgn_dot {m : Int} (h0 : 0 ≤ m) (h9 : m ≤ 9) : decide (V.str ⟨#[cpOf m]⟩ = V.str (("." : String) : Str)) = decide (m = 0) := by
  rcases nine h0 h9 with rfl | rfl | rfl | rfl | rfl | rfl | rfl | rfl | rfl | rfl
  all_goals decide +kernel
theorem ok_read {t1 : Tok} (F : FnP K "read" s_read f fd) (g_enumerate : mg "enumerate" = none) (g_int : mg "int" = none) (g_FIGURES : mg "FIGURES" = some (.str "0123456789" t1)) (h_need_heard : Has P w K mg base 1 "need_heard" ["heard"] (spNeedHeard K)) : FnOk P w K mg base CX0 2 f fd p_read spRead := by
  refine F.ok sc_read (fun vs H Q E h => ?_) (fun cdv A outer s H vs Q E hr h => ?_)
  · obtain ⟨hs, rfl, _⟩ := h
    rfl
  · obtain ⟨hs, rfl, hh, k⟩ := h
    have hn := hh.1
    refine ⟨_, PSs.nox (pss_cons (ps_set (i := 1) sc_read.nd rfl (Or.inl rfl) (pe_lst pa_nil))
        (pss_cons (ps_for PassesOwn.never rfl (pi_enumS (by rfl) g_enumerate (pa_cons (pv 0) pa_nil)) (pg_tup rfl (pgs_cons (pg_name (i := 2) sc_read.nd rfl (Or.inl rfl)) (pgs_cons (pg_name (i := 3) sc_read.nd rfl (Or.inl rfl)) pgs_nil)))
          (pss_cons (ps_if (PW.pt (pw_or (pt_cmpR op_eq (pv 3) pe_str (nomark _)) (pw_or1 (PW.pt (pw_and (pt_cmpR op_ne (pv 3) pe_str (nomark _)) (pw_and1 (pt_cmpR op_notIn_sign (pv 3) (pe_gS rfl g_FIGURES) rfl)))))))
              (pss_one ps_never)
              pss_nil)
            (pss_one (ps_expr (pe_bm PySem.F.plainAttrs_list PySem.F.slot_list_append PySem.F.type_list_append mt_append (pv 1) (pa_cons (pe_ifExp (pt_cmpR op_eq (pv 3) pe_str (nomark _)) pe_int (pe_callTy call_int_str (by rfl) g_int (by decide +kernel) (pa_cons (pv 3) pa_nil))) pa_nil))))))
        (pss_cons (ps_expr (pe_fn h_need_heard hr rfl (pa_cons (pv 1) pa_nil)))
        (pss_one (ps_ret (pv 1)))))), ?_⟩
    refine ⟨szle (Nat.le_of_ble_eq_true rfl), fun fo nfo => ?_⟩
    refine ⟨_, rfl, _, rfl, for_enumS (x := textOf hs) (fun i σ H' => Same H H' ∧ H' fo = some (.lst ((hs.take i).map V.int)) ∧ ∃ v2 v3, σ = [some (.str (textOf hs)), some (.ref fo), v2, v3]) ⟨Same.newB nfo, upd_same, none, none, rfl⟩ ?_ ?_⟩
    · rintro i c σ H' T hi ⟨s1, e1, v2, v3, rfl⟩ nT
      obtain ⟨m, hm, rfl⟩ := text_at hi
      have hb := hh.2 m (List.mem_of_getElem? hm)
      have hil := (List.getElem?_eq_some_iff.mp hm).1
      have et : hs.take (i + 1) = hs.take i ++ [m] := by rw [List.take_succ, hm]; rfl
      have e1' : (upd H' T (.tup [.int (i : Nat), .str ⟨#[cpOf m]⟩])) fo = some (.lst ((hs.take i).map V.int)) := (Same.newB nT) _ _ e1
      have sT := s1.moreB (o := .tup [.int (i : Nat), .str ⟨#[cpOf m]⟩]) nT
      revert e1' sT
      refine fun e1' sT => ⟨T, _, rfl, SqT.of upd_same, rfl, _, _, rfl, _, _, rfl, rfl, ?_⟩
      have fin : Same H (upd (upd H' T (.tup [.int (i : Nat), .str ⟨#[cpOf m]⟩])) fo (.lst ((hs.take i).map V.int ++ [V.int m]))) ∧ (upd (upd H' T (.tup [.int (i : Nat), .str ⟨#[cpOf m]⟩])) fo (.lst ((hs.take i).map V.int ++ [V.int m]))) fo = some (.lst ((hs.take (i + 1)).map V.int)) := by
        refine ⟨sT.mutB nfo, ?_⟩
        rw [upd_same, et, List.map_append]
        rfl
      refine ⟨_, rfl, rfl, _, rfl, ?_⟩
      rw [sgn_zero hb.1 hb.2]
      have app : ∀ Q' : VK, (Q' (.int m) (upd H' T (.tup [.int (i : Nat), .str ⟨#[cpOf m]⟩]))) → True := fun _ _ => trivial
      refine iteF ⟨_, rfl, rfl, _, rfl, ?_⟩
      rw [sgn_dot hb.1 hb.2]
      by_cases hz : m = 0
      · rw [decide_eq_true hz]
        refine iteF ⟨_, rfl, Or.inl ⟨rfl, _, SqL.of e1'⟩, _, rfl, rfl, _, rfl, ?_⟩
        rw [sgn_dot hb.1 hb.2, decide_eq_true hz]
        refine iteT ⟨fo, _, _, rfl, rfl, e1', szlt (by rw [List.length_map, List.length_take]; omega), ?_⟩
        rw [hz] at fin
        exact ⟨by rw [hz]; exact fin.1, by rw [hz]; exact fin.2, _, _, rfl⟩
      · rw [decide_eq_false hz]
        refine iteT ⟨_, rfl, _, _, rfl, rfl, _, rfl, ?_⟩
        rw [figs hb.1 hb.2 hz]
        refine iteF ⟨_, rfl, Or.inl ⟨rfl, _, SqL.of e1'⟩, _, rfl, rfl, _, rfl, ?_⟩
        rw [sgn_dot hb.1 hb.2, decide_eq_false hz]
        refine iteF ⟨_, rfl, _, m, rfl, sign_int hb.1 hb.2 hz, (by show 1 ≤ 640; decide), ?_⟩
        exact ⟨fo, _, _, rfl, rfl, e1', szlt (by rw [List.length_map, List.length_take]; omega), fin.1, fin.2, _, _, rfl⟩
    · rintro σ H' ⟨s1, e1, v2, v3, rfl⟩
      rw [text_len, List.take_length] at e1
      refine ⟨_, rfl, fo, hs, rfl, SqL.of e1, hh, fun H2 s2 => ?_⟩
      exact ⟨_, rfl, k fo H2 (s1.trans s2) nfo (s2 _ _ e1)⟩
end
end Bw

set_option Elab.async false
set_option linter.all false
set_option maxRecDepth 100000
set_option maxHeartbeats 4000000
namespace Bw
open PySem PySem.Spec PyProof.Rows L2
section
variable {P : Program} {w : World} {K : PySem.W.Frag} {mg : Str → Option Value} {base : Heap} {f : Addr} {fd : FuncData}
theorem ok__law_asked (F : FnP K "_law_asked" s__law_asked f fd) (g_list : mg "list" = none) (h_told : Has P w K mg base 5 "told" p_told (spTold K)) (h_turns : Has P w K mg base 6 "turns" p_turns (spTurns K)) (h_may : Has P w K mg base 3 "may" p_may (spMay K))
    (h_false_row : Has P w K mg base 4 "false_row" p_false_row (spFalse K)) (h_latest : Has P w K mg base 18 "latest" p_latest (spLatest K)) (h_chosen : Has P w K mg base 19 "chosen" p_chosen (spChosen K)) (h_written : Has P w K mg base 2 "written" p_written (spWritten K)) (h_read : Has P w K mg base 2 "read" p_read spRead) : FnOk P w K mg base CX0 20 f fd p__law_asked (spAsked K) := by
  refine F.ok sc__law_asked (fun vs H Q E h => ?_) (fun cdv A outer s H vs Q E hr h => ?_)
  · obtain ⟨k, lp, q, hp, l, r, hs, rfl, _⟩ := h
    rfl
  · obtain ⟨kd, lp, q, hp, l, r, hs, rfl, hk, hl, lo, hq, ro, hh, ho, k⟩ := h
    have hn := ho.1
    refine ⟨_, PSs.nox (pss_cons (ps_if (pt_cmpR op_eq (pv 0) pe_int (nomark _))
          (pss_one (ps_ret (pe_lst (pa_cons (pe_fn h_told hr rfl (pa_cons (pv 2) (pa_cons (pv 3) pa_nil))) (pa_cons (pe_fn h_turns hr rfl (pa_cons (pv 2) (pa_cons (pv 3) pa_nil))) (pa_cons (pe_lst (pa_cons (pe_fn h_may hr rfl (pa_cons (pv 1) (pa_cons (pv 3) pa_nil))) pa_nil)) pa_nil))))))
          pss_nil)
        (pss_cons (ps_if (pt_cmpR op_eq (pv 0) pe_int (nomark _))
          (pss_one (ps_ret (pe_lst (pa_cons (pe_fn h_false_row hr rfl (pa_cons (pv 1) (pa_cons (pv 2) pa_nil))) pa_nil))))
          pss_nil)
        (pss_cons (ps_if (pt_cmpR op_eq (pv 0) pe_int (nomark _))
          (pss_one (ps_ret (pe_op op_cat (pe_callTy call_list_of (by rfl) g_list (by decide +kernel) (pa_cons (pe_fn h_latest hr rfl (pa_cons (pv 1) (pa_cons (pv 2) pa_nil))) pa_nil)) (pe_lst (pa_cons (pe_fn h_chosen hr rfl (pa_cons (pv 1) (pa_cons (pe_lst (pa_cons (pv 2) (pa_cons (pe_tup (pa_cons pe_str (pa_cons pe_int pa_nil))) pa_nil))) pa_nil))) pa_nil)))))
          pss_nil)
        (pss_one (ps_ret (pe_lst (pa_cons (pe_fn h_written hr rfl (pa_cons (pv 3) pa_nil)) (pa_cons (pe_fn h_read hr rfl (pa_cons (pe_fn h_written hr rfl (pa_cons (pv 3) pa_nil)) pa_nil)) pa_nil)))))))), ?_⟩
    have ne : ∀ {i : Nat} {j : Int}, (i : Int) ≠ j → V.int (i : Int) ≠ V.int j := fun h e => h (V.int.inj e)
    refine ⟨_, rfl, rfl, _, rfl, iteD (fun h0 => ?_) (fun h0 => ?_)⟩
    · have h0' : kd = 0 := by
        have := V.int.inj h0
        omega
      subst h0'
      refine ⟨_, rfl, _, rfl, q, hp, r, hs, rfl, hq, ro, hh, ho, fun tp H1 s1 ntp htp => ?_⟩
      refine ⟨_, rfl, _, rfl, q, hp, r, hs, rfl, s1.tupB hq, ro, s1.seq hh, ho, fun up H2 xs s2 nup hup hD => ?_⟩
      have s12 := s1.trans s2
      refine ⟨_, rfl, _, rfl, lp, hp, l, hs, rfl, s12.tupB hl, lo, s12.seq hh, ho, fun b H3 s3 hb => ⟨szle (Nat.le_of_ble_eq_true rfl), fun mp nmp => ⟨szle (Nat.le_of_ble_eq_true rfl), fun p np => ?_⟩⟩⟩
      have s13 := s12.trans s3
      have sM : Same H3 (upd H3 mp (.lst [V.bl b])) := Same.newB nmp
      have sP := sM.moreB (o := .lst [V.ref tp, V.ref up, V.ref mp]) np
      have s3P := s3.trans sP
      have htpP := (s2.trans s3P) _ _ htp
      have hupP := s3P _ _ hup
      have hmpP := (Same.newB (o := .lst [V.ref tp, V.ref up, V.ref mp]) np) _ _ (upd_same (H := H3) (a := mp) (o := .lst [V.bl b]))
      refine k p _ _ _ (s13.trans sP) ((s13.trans sM).free np) upd_same (.cons (.lst ntp htpP (dp_bls _) (fun d hd => ?_) ?_) (.cons (.lst (s1.free nup) hupP (DpAll.same s3P hD) (turnsTo_noL _ _) ?_) (.cons (.lst (ds := [.bool b]) (s13.free nmp) hmpP (.cons (.bl b) .nil) (fun d hd => ?_) ?_) .nil))) (fun v hv e => ?_) ⟨b, hb, rfl⟩
      · obtain ⟨x, _, rfl⟩ := List.mem_map.mp hd
        exact .bool _
      · rw [List.length_map, toldOf_len]
        omega
      · have := DpAll.len hD
        have := turnsTo_len (toldOf r hs) hs.length
        omega
      · rw [List.mem_singleton.mp hd]
        exact .bool _
      · show 1 ≤ 2000
        decide
      · subst e
        simp only [List.mem_cons, List.not_mem_nil, or_false] at hv
        have h1 : (upd H3 mp (.lst [V.bl b])) tp = some _ := sM _ _ ((s2.trans s3) _ _ htp)
        have h2 : (upd H3 mp (.lst [V.bl b])) up = some _ := sM _ _ (s3 _ _ hup)
        have h3 : (upd H3 mp (.lst [V.bl b])) mp = some _ := upd_same
        rcases hv with e | e | e
        · cases e
          exact ne_of_none h1 np rfl
        · cases e
          exact ne_of_none h2 np rfl
        · cases e
          exact ne_of_none h3 np rfl
    refine ⟨_, rfl, rfl, _, rfl, iteD (fun h1 => ?_) (fun h1 => ?_)⟩
    · have h1' : kd = 1 := by
        have := V.int.inj h1
        omega
      subst h1'
      refine ⟨_, rfl, _, rfl, lp, q, l, r, rfl, hl, lo, hq, ro, fun v H1 b s1 hE hno hyes => ⟨szle (Nat.le_of_ble_eq_true rfl), fun p np => ?_⟩⟩
      have hR := endP_row lo ro hE
      have sP : Same H1 (upd H1 p (.lst [v])) := Same.newB np
      cases hb : b.wr with
      | none =>
        have := hno hb
        subst this
        refine k p _ _ [.none] (s1.trans sP) (s1.free np) upd_same (.cons (.flat .non .non) .nil) (fun v hv e => ?_) ⟨b, hE, by rw [hb]; rfl⟩
        rw [List.mem_singleton.mp hv] at e
        cases e
      | some ρ =>
        obtain ⟨p1, rfl, np1, hp1⟩ := hyes ρ hb
        have hsh := hR.short lo ro hb
        refine k p _ _ [.list (ρ.map PyData.int)] (s1.trans sP) (s1.free np) upd_same (.cons (.lst np1 (sP _ _ hp1) (dp_ints _) (fun d hd => ?_) ?_) .nil) (fun v hv e => ?_) ⟨b, hE, by rw [hb]; rfl⟩
        · obtain ⟨x, _, rfl⟩ := List.mem_map.mp hd
          exact .int _
        · rw [List.length_map]
          omega
        · rw [List.mem_singleton.mp hv] at e
          cases e
          exact ne_of_none hp1 np rfl
    refine ⟨_, rfl, rfl, _, rfl, iteD (fun h2 => ?_) (fun h2 => ?_)⟩
    · have h2' : kd = 2 := by
        have := V.int.inj h2
        omega
      subst h2'
      refine ⟨_, rfl, _, rfl, lp, q, l, r, rfl, hl, lo, hq, ro, fun fp hp1 H1 x s1 hLT hfp hhp nhp nfp => ?_⟩
      have X1 := (hLT.ok lo ro).len
      have X2 := (hLT.ok lo ro).short
      refine ⟨fp, _, rfl, Or.inr (SqT.of hfp), fun l1 nl1 => ?_⟩
      have sL : Same H1 (upd H1 l1 (.lst [.int (x.1 : Int), .int (x.2.1 : Int), .ref hp1])) := Same.newB nl1
      refine ⟨_, rfl, _, rfl, szle (Nat.le_of_ble_eq_true rfl), fun t nt => ⟨szle (Nat.le_of_ble_eq_true rfl), fun rl nrl => ?_⟩⟩
      have sT := sL.moreB (o := .tup [.str "since", .int 12]) nt
      have sR := sT.moreB (o := .lst [.ref q, .ref t]) nrl
      have s0R := s1.trans sR
      have ht : (upd (upd (upd H1 l1 (.lst [.int (x.1 : Int), .int (x.2.1 : Int), .ref hp1])) t (.tup [.str "since", .int 12])) rl (.lst [.ref q, .ref t])) t = some (.tup (Rule.since 12).vs) := (Same.newB nrl) _ _ upd_same
      refine ⟨lp, rl, l, _, [r, .since 12], rfl, s0R.tupB hl, lo, SqL.of upd_same, .cons (rule_dp (s0R.tupB hq)) (.cons (rule_dp (SqT.of ht)) .nil), fun r' h' => ?_, fun v H2 o s2 hC hAt => ⟨szle (Nat.le_of_ble_eq_true rfl), fun cl ncl => ?_⟩⟩
      · simp only [List.mem_cons, List.not_mem_nil, or_false] at h'
        rcases h' with rfl | rfl
        · exact ro
        · exact ⟨by decide, by decide⟩
      have hl1 := (Same.newB (o := .lst [v]) ncl) _ _ (s2 _ _ ((Same.newB (o := .lst [.ref q, .ref t]) nrl) _ _ ((Same.newB (o := .tup [.str "since", .int 12]) nt) _ _ (upd_same (H := H1) (a := l1) (o := .lst [.int (x.1 : Int), .int (x.2.1 : Int), .ref hp1])))))
      have sC : Same H2 (upd H2 cl (.lst [v])) := Same.newB ncl
      refine ⟨l1, cl, _, _, rfl, rfl, hl1, upd_same, szle (Nat.le_of_ble_eq_true rfl), fun p np => ?_⟩
      have s1C := sR.trans (s2.trans sC)
      have s1P := s1C.moreB (o := .lst ([.int (x.1 : Int), .int (x.2.1 : Int), .ref hp1] ++ [v])) np
      have hhp1 := s1C _ _ hhp
      refine k p _ [.int (x.1 : Int), .int (x.2.1 : Int), .ref hp1, v] _ (s1.trans s1P) ((s1.trans s1C).free np) upd_same (.cons (.flat (.int _) (.int _)) (.cons (.flat (.int _) (.int _)) (.cons (.lst nhp (s1P _ _ hhp) (dp_ints _) (fun d hd => ?_) ?_) (.cons (.flat ((hAt.tk ((TK.same sC).trans (TK.new np))).dp) ?_) .nil)))) (fun v' hv e => ?_) ⟨x, o, hLT, hC, rfl⟩
      · obtain ⟨z, _, rfl⟩ := List.mem_map.mp hd
        exact .int _
      · rw [List.length_map]
        omega
      · cases o with
        | none => exact .non
        | some y =>
          refine .tuple _ fun d hd => ?_
          simp only [List.mem_cons, List.not_mem_nil, or_false] at hd
          rcases hd with rfl | rfl
          · exact .int _
          · exact .int _
      · subst e
        simp only [List.mem_cons, List.not_mem_nil, or_false] at hv
        rcases hv with e | e | e | e
        · cases e
        · cases e
        · cases e
          exact ne_of_none hhp1 np rfl
        · cases o with
          | none =>
            have : v = .non := hAt
            rw [this] at e
            cases e
          | some y =>
            obtain ⟨p9, e9, hp9⟩ := hAt
            rw [e9] at e
            cases e
            exact ne_of_none (sC _ _ hp9) np rfl
    have h3' : kd = 3 := by
      have g0 : ¬ kd = 0 := fun e => h0 (by rw [e]; rfl)
      have g1 : ¬ kd = 1 := fun e => h1 (by rw [e]; rfl)
      have g2 : ¬ kd = 2 := fun e => h2 (by rw [e]; rfl)
      omega
    subst h3'
    refine ⟨_, rfl, hp, hs, rfl, hh, ho, fun H1 s1 => ?_⟩
    refine ⟨_, rfl, hp, hs, rfl, s1.seq hh, ho, fun H2 s2 => ⟨hs, rfl, ho, fun p1 H3 s3 np1 hp1 => ⟨szle (Nat.le_of_ble_eq_true rfl), fun p np => ?_⟩⟩⟩
    have s12 := s1.trans s2
    have s13 := s12.trans s3
    have sP : Same H3 (upd H3 p (.lst [.str (textOf hs), .ref p1])) := Same.newB np
    refine k p _ _ [.str (textOf hs), .list (hs.map PyData.int)] (s13.trans sP) (s13.free np) upd_same (.cons (.flat (.str _) (.str _)) (.cons (.lst (s12.free np1) (sP _ _ hp1) (dp_ints _) (fun d hd => ?_) ?_) .nil)) (fun v hv e => ?_) rfl
    · obtain ⟨z, _, rfl⟩ := List.mem_map.mp hd
      exact .int _
    · rw [List.length_map]
      omega
    · subst e
      simp only [List.mem_cons, List.not_mem_nil, or_false] at hv
      rcases hv with e | e
      · cases e
      · cases e
        exact ne_of_none hp1 np rfl
end
end Bw

set_option Elab.async false
set_option linter.all false
set_option maxRecDepth 100000
set_option maxHeartbeats 4000000
namespace Bw
open PySem PySem.Spec PyProof.Rows L2
section
variable {P : Program} {w : World} {K : PySem.W.Frag} {mg : Str → Option Value} {base : Heap} {f : Addr} {fd : FuncData}
theorem bls_shp (bs : List Bool) : SeqAt.shaped (.list (bs.map PyData.bool)) = true := Shp.ok (n := 1) (shp_list fun d hd => by
  obtain ⟨b, _, rfl⟩ := List.mem_map.mp hd
  exact shp_bool 0 b) (by omega)
theorem neBl {a b : Bool} {A B : Prop} (e : a = b) (h : B) : if (!decide (V.bl a = V.bl b)) = true then A else B := by
  subst e
  rw [decide_eq_true rfl]
  exact iteF h
theorem flat_ty {H : Hp} {v : V} {d : PyData} (h : Dp K H v d) (hn : NoL d) : ∃ t : String, TyX K H v (.type t) ∧ kitB t "list" = some false := by
  cases h with
  | non => exact ⟨"NoneType", .base .non, by decide +kernel⟩
  | bl b => exact ⟨"bool", .base (.bl b), by decide +kernel⟩
  | int i => exact ⟨"int", .base (.int i), by decide +kernel⟩
  | str i => exact ⟨"str", .base (.str i), by decide +kernel⟩
  | lst h1 h2 => cases hn
  | tup h1 _ => exact ⟨"tuple", tyx_tup h1, by decide +kernel⟩
theorem WAt.but {C : Addr} {H H' : Hp} {x y dx : Addr} {fs : List (Str × V)} {r : Rule} {st : List Int} (h : WAt K C H y r st) (hk : ∀ b o, b ≠ x → H b = some o → H' b = some o) (hx : H x = some (.ins C dx fs)) (hxy : y ≠ x) : WAt K C H' y r st := by
  obtain ⟨dy, q, t, h1, h2, h3⟩ := h.ex
  have kt : ∀ {a xs}, SqT K H a xs → SqT K H' a xs := by
    intro a xs h
    rcases h with (h | ⟨u, h⟩) | h
    · exact .inl (.inl (hk _ _ (ne_of h hx (by intro z; cases z)) h))
    · exact .inl (.inr ⟨u, hk _ _ (ne_of h hx (by intro z; cases z)) h⟩)
    · exact .inr h
  exact ⟨dy, q, t, hk _ _ hxy h1, kt h2, kt h3⟩
/-- what was told at first, by its number -/
def KeptAt (K : PySem.W.Frag) (d kp : Addr) (H : Hp) (cs : List Case) (ks : List V) : Prop := ∀ n v, ks[n]? = some v → ∃ c ds, cs[n / 4]? = some c ∧ Ans c.l c.r c.hs (n % 4) ds ∧ Dp K (wo [d, kp] H) v (.list ds)
theorem ok_law {C : Addr} (F : FnP K "law" s_law f fd) (g_range : mg "range" = none) (g_list : mg "list" = none) (g_isinstance : mg "isinstance" = none)
    (h__law_dice : Has P w K mg base 1 "_law_dice" p__law_dice (spDice K)) (h__law_off : Has P w K mg base 1 "_law_off" p__law_off spOff) (h__law_line : Has P w K mg base 2 "_law_line" ["_law_d"] spLine) (h__law_rule : Has P w K mg base 2 "_law_rule" ["_law_d"] spRule)
    (h__law_run : Has P w K mg base 2 "_law_run" p__law_run (spRun K)) (h__law_asked : Has P w K mg base 20 "_law_asked" p__law_asked (spAsked K)) (h__law_alike : Has P w K mg base 4 "_law_alike" p__law_alike (spAlike K 3))
    (h_Watcher : HasC P w K mg base 3 "Watcher" C p_Watcher___init__ (spWInit K C)) (h_Watcher_hear : HasM P w K mg base 2 C "hear" p_Watcher_hear (spHear K C)) : FnOk P w K mg base CX0 21 f fd p_law (spLaw K) := by
  refine F.ok sc_law (fun vs H Q E h => ?_) (fun cdv A outer s H vs Q E hr h => ?_)
  · obtain ⟨a, ns, rfl, _⟩ := h
    rfl
  · obtain ⟨a, ns, rfl, hS, hlen, k⟩ := h
    refine ⟨_, PSs.nox (pss_cons (ps_set (i := 1) sc_law.nd rfl (Or.inl rfl) (pe_fn h__law_dice hr rfl (pa_cons (pv 0) (pa_cons pe_int pa_nil))))
        (pss_cons (ps_set (i := 2) sc_law.nd rfl (Or.inl rfl) (pe_lst pa_nil))
        (pss_cons (ps_for PassesOwn.never rfl (pi_range1 rfl g_range (pa_cons pe_int pa_nil)) (pg_name (i := 3) sc_law.nd rfl (Or.inl rfl))
          (pss_cons (ps_set (i := 4) sc_law.nd rfl (Or.inl rfl) (pe_fn h__law_line hr rfl (pa_cons (pv 1) pa_nil)))
            (pss_one (ps_expr (pe_bm PySem.F.plainAttrs_list PySem.F.slot_list_append PySem.F.type_list_append mt_append (pv 2) (pa_cons (pe_tup (pa_cons (pv 4) (pa_cons (pe_fn h__law_rule hr rfl (pa_cons (pv 1) pa_nil)) (pa_cons (pe_fn h__law_run hr rfl (pa_cons (pv 1) (pa_cons (pv 4) (pa_cons (pe_fn h__law_off hr rfl (pa_cons (pv 1) (pa_cons pe_int pa_nil))) (pa_cons pe_int pa_nil))))) pa_nil)))) pa_nil))))))
        (pss_cons (ps_set (i := 5) sc_law.nd rfl (Or.inl rfl) (pe_lst pa_nil))
        (pss_cons (ps_for PassesOwn.never rfl (pi_list (pv 2)) (pg_tup rfl (pgs_cons (pg_name (i := 4) sc_law.nd rfl (Or.inl rfl)) (pgs_cons (pg_name (i := 6) sc_law.nd rfl (Or.inl rfl)) (pgs_cons (pg_name (i := 7) sc_law.nd rfl (Or.inl rfl)) pgs_nil))))
          (pss_one (ps_for PassesOwn.never rfl (pi_range1 rfl g_range (pa_cons pe_int pa_nil)) (pg_name (i := 8) sc_law.nd rfl (Or.inl rfl))
            (pss_one (ps_expr (pe_bm PySem.F.plainAttrs_list PySem.F.slot_list_append PySem.F.type_list_append mt_append (pv 5) (pa_cons (pe_lc (own := [("_law_one", 9)]) (g := gName 9) rfl sc_law.nd (pi_list (pe_fn h__law_asked hr rfl (pa_cons (pv 8) (pa_cons (pv 4) (pa_cons (pv 6) (pa_cons (pv 7) pa_nil)))))) (blkOk_by (own := [("_law_one", 9)]) (N := n_law) (sc := defScope s_law) (by decide +kernel)) (fun _ _ _ _ _ => (pg_name (i := 9) sc_law.nd rfl (Or.inl rfl))) (fun _ _ _ _ _ => pts_nil) (fun _ _ _ _ _ => (pe_ifExp (pt_val (pe_callB (r := rIsi K) call_isi (by rfl) g_isinstance (by decide +kernel) (pa_cons (pv 9) (pa_cons (pe_bltn (v := .ty "list") (by rfl) g_list (by decide +kernel) rfl) pa_nil)))) (pe_callTy (r := rListOf K) call_list_of (by rfl) g_list (by decide +kernel) (pa_cons (pv 9) pa_nil)) (pv 9)))) pa_nil)))))))
        (pss_cons (ps_set (i := 10) sc_law.nd rfl (Or.inr rfl) (pe_new h_Watcher hr rfl (pa_cons (pe_ix ix_tup (pe_ix ix_list (pv 2) pe_int (fun _ _ => rfl)) pe_int (fun _ _ => rfl)) pa_nil)))
        (pss_cons (ps_setLc (i := 11) (own := [("_law_many", 12)]) (g := gName 12) rfl sc_law.nd rfl rfl (sw_true rfl rfl rfl (by decide +kernel)) (pi_list (pe_ix ix_tup (pe_ix ix_list (pv 2) pe_int (fun _ _ => rfl)) pe_int (fun _ _ => rfl))) (blkOk_by (own := [("_law_many", 12)]) (N := n_law) (sc := defScope s_law) (by decide +kernel)) (fun _ _ _ _ _ => (pg_name (i := 12) sc_law.nd rfl (Or.inl rfl))) (fun _ _ _ _ _ => pts_nil) (fun _ _ _ _ _ => (pe_mth h_Watcher_hear (pv 10) hr (pa_cons (pv 12) pa_nil))))
        (pss_cons (ps_for PassesOwn.never rfl (pi_range1 rfl g_range (pa_cons pe_int pa_nil)) (pg_name (i := 13) sc_law.nd rfl (Or.inl rfl))
          (pss_cons (ps_set (i := 3) sc_law.nd rfl (Or.inl rfl) (pe_fn h__law_off hr rfl (pa_cons (pv 1) (pa_cons pe_int pa_nil))))
            (pss_cons (ps_set (i := 8) sc_law.nd rfl (Or.inl rfl) (pe_fn h__law_off hr rfl (pa_cons (pv 1) (pa_cons pe_int pa_nil))))
            (pss_cons (ps_asg (pe_ix ix_list (pv 2) (pv 3) (fun _ _ => rfl)) (pg_tup rfl (pgs_cons (pg_name (i := 4) sc_law.nd rfl (Or.inl rfl)) (pgs_cons (pg_name (i := 6) sc_law.nd rfl (Or.inl rfl)) (pgs_cons (pg_name (i := 7) sc_law.nd rfl (Or.inl rfl)) pgs_nil)))))
            (pss_cons (ps_set (i := 14) sc_law.nd rfl (Or.inl rfl) (pe_callTy call_list_of (by rfl) g_list (by decide +kernel) (pa_cons (pv 7) pa_nil)))
            (pss_cons (ps_set (i := 15) sc_law.nd rfl (Or.inl rfl) (pe_fn h__law_asked hr rfl (pa_cons (pv 8) (pa_cons (pv 4) (pa_cons (pv 6) (pa_cons (pv 14) pa_nil))))))
            (pss_cons (ps_if (pt_cut (PW.pt (pw_or (pt_not (pt_val (pe_fn h__law_alike hr rfl (pa_cons (pv 15) (pa_cons (pe_ix ix_list (pv 5) (pe_op op_add (pe_op op_mul pe_int (pv 3)) (pv 8)) (fun _ _ => rfl)) pa_nil))))) (pw_or1 (pt_cmpR (op_neD hr.units) (pv 14) (pv 7) (nomark _))))))
              (pss_one (ps_ret pe_bl))
              pss_nil)
            (pss_cons (ps_for PassesOwn.never rfl (pi_list (pv 15)) (pg_name (i := 9) sc_law.nd rfl (Or.inl rfl))
              (pss_one (ps_if (pt_val (pe_callB call_isi (by rfl) g_isinstance (by decide +kernel) (pa_cons (pv 9) (pa_cons (pe_bltn (v := .ty "list") (by rfl) g_list (by decide +kernel) rfl) pa_nil))))
                (pss_one (ps_expr (pe_bm PySem.F.plainAttrs_list PySem.F.slot_list_append PySem.F.type_list_append mt_append (pv 9) (pa_cons pe_int pa_nil))))
                pss_nil)))
            (pss_one (ps_expr (pe_bm PySem.F.plainAttrs_list PySem.F.slot_list_append PySem.F.type_list_append mt_append (pv 14) (pa_cons pe_int pa_nil))))))))))))
        (pss_cons (ps_set (i := 16) sc_law.nd rfl (Or.inr rfl) (pe_new h_Watcher hr rfl (pa_cons (pe_ix ix_tup (pe_ix ix_list (pv 2) pe_int (fun _ _ => rfl)) pe_int (fun _ _ => rfl)) pa_nil)))
        (pss_cons (ps_if (pt_cmpR (op_neD hr.units) (pe_lc (own := [("_law_many", 12)]) (g := gName 12) rfl sc_law.nd (pi_list (pe_ix ix_tup (pe_ix ix_list (pv 2) pe_int (fun _ _ => rfl)) pe_int (fun _ _ => rfl))) (blkOk_by (own := [("_law_many", 12)]) (N := n_law) (sc := defScope s_law) (by decide +kernel)) (fun _ _ _ _ _ => (pg_name (i := 12) sc_law.nd rfl (Or.inl rfl))) (fun _ _ _ _ _ => pts_nil) (fun _ _ _ _ _ => (pe_mth h_Watcher_hear (pv 16) hr (pa_cons (pv 12) pa_nil)))) (pv 11) (nomark _))
          (pss_one (ps_ret pe_bl))
          pss_nil)
        (pss_cons (ps_for PassesOwn.never rfl (pi_list (pe_lst (pa_cons pe_int (pa_cons pe_int (pa_cons pe_int (pa_cons pe_int (pa_cons pe_int (pa_cons pe_int (pa_cons pe_int (pa_cons pe_int pa_nil)))))))))) (pg_name (i := 12) sc_law.nd rfl (Or.inl rfl))
          (pss_one (ps_if (pt_cmpR op_ne (pe_mth h_Watcher_hear (pv 10) hr (pa_cons (pv 12) pa_nil)) (pe_mth h_Watcher_hear (pv 16) hr (pa_cons (pv 12) pa_nil)) (nomark _))
            (pss_one (ps_ret pe_bl))
            pss_nil)))
        (pss_one (ps_ret pe_bl))))))))))))), ?_⟩
    refine ⟨_, rfl, a, 0, ns, rfl, hS, hlen, fun d H1 s1 nd hd => ?_⟩
    refine ⟨szle (Nat.le_of_ble_eq_true rfl), fun cp ncp => ?_⟩
    have hcpd : cp ≠ d := hd.ne ncp
    have hd2 := hd.same (Same.newB (o := .lst []) ncp)
    have hcp2 : (upd H1 cp (.lst [])) cp = some (.lst []) := upd_same
    revert hd2 hcp2
    generalize upd H1 cp (.lst []) = H2
    intro hd2 hcp2
    refine ⟨2, rfl, by decide, by decide, for_range (lo := 0) (n := 2) (fun i σ H' => DiceAt H' d ∧ ∃ (cs : List Case) (v3 v4 : Option V), σ = [some (.ref a), some (.ref d), some (.ref cp), v3, v4, none, none, none, none, none, none, none, none, none, none, none, none] ∧ cs.length = i ∧ H' cp = some (.lst (cs.map fun c => V.ref c.t)) ∧ ∀ c ∈ cs, CaseAt H' c ∧ c.hp ≠ d ∧ c.hp ≠ cp) ⟨hd2, [], _, _, rfl, rfl, hcp2, fun c h => (nomatch h)⟩ ?_ ?_⟩
    · rintro i σ H3 hi ⟨hd3, cs, v3, v4, rfl, hcl, hcp3, hcs⟩
      refine ⟨_, rfl, d, rfl, hd3, fun l lp H4 lo _ D4 nlp hlp => ?_⟩
      refine ⟨_, rfl, Or.inl ⟨rfl, _, SqL.of (D4.keep _ _ hcpd hcp3)⟩, ?_⟩
      refine ⟨_, rfl, _, rfl, d, rfl, D4.dice, fun r q H5 ro D5 nq hq => ?_⟩
      refine ⟨_, rfl, _, rfl, _, rfl, d, 30, rfl, D5.dice, by decide, by decide, fun th' H6 h0 h1 D6 => ?_⟩
      obtain ⟨th, rfl⟩ := Int.eq_ofNat_of_zero_le h0
      have hlpd : lp ≠ d := hd3.ne nlp
      have hqd : q ≠ d := D4.dice.ne nq
      have hlp6 := (D5.trans D6).keep _ _ hlpd hlp
      refine ⟨d, lp, l, th, 4, rfl, D6.dice, SqT.of hlp6, lo, by omega, by omega, fun rr os hp H7 hO hOl D7 nhp hhp => ⟨szle (Nat.le_of_ble_eq_true rfl), fun t nt => ?_⟩⟩
      have D36 := (D4.trans D5).trans D6
      have D37 := D36.trans D7
      have hmem := fun m (hm : m ∈ heardOf l.each os (th + 4)) => heardOf_mem lo hO hm
      have hhl : (heardOf l.each os (th + 4)).length = th + 4 := heardOf_len _ _ _
      have hhpd : hp ≠ d := D6.dice.ne nhp
      have hhpc : hp ≠ cp := Ne.symm (ne_of_none (D36.keep _ _ hcpd hcp3) nhp)
      revert hmem hhl hhp
      generalize heardOf l.each os (th + 4) = hs
      intro hhp hmem hhl
      have sT : Same H7 (upd H7 t (.tup [V.ref lp, V.ref q, V.ref hp])) := Same.newB nt
      have hcpT := sT _ _ (D37.keep _ _ hcpd hcp3)
      refine ⟨cp, _, _, rfl, rfl, hcpT, szlt (by rw [List.length_map]; omega), ?_⟩
      have tkU : TK (upd H7 t (.tup [V.ref lp, V.ref q, V.ref hp])) (upd (upd H7 t (.tup [V.ref lp, V.ref q, V.ref hp])) cp (.lst ((cs.map fun c => V.ref c.t) ++ [V.ref t]))) := TK.upd hcpT True.intro
      have tk3 : TK H3 (upd (upd H7 t (.tup [V.ref lp, V.ref q, V.ref hp])) cp (.lst ((cs.map fun c => V.ref c.t) ++ [V.ref t]))) := (TK.dr D37 hd3).trans ((TK.same sT).trans tkU)
      refine ⟨?_, cs ++ [⟨t, lp, q, hp, l, r, hs⟩], _, _, rfl, by rw [List.length_append, hcl]; rfl, ?_, fun c' hc' => ?_⟩
      · obtain ⟨ys, g1, g2⟩ := D37.dice
        exact ⟨ys, by rw [upd_ne (Ne.symm hcpd)]; exact sT _ _ g1, g2⟩
      · rw [upd_same, List.map_append]
        rfl
      · rcases List.mem_append.mp hc' with hc' | hc'
        · obtain ⟨h1, h2, h3⟩ := hcs c' hc'
          refine ⟨h1.keep tk3 ?_, h2, h3⟩
          rw [upd_ne h3]
          exact sT _ _ (D37.keep _ _ h2 h1.hp)
        · rw [List.mem_singleton.mp hc']
          refine ⟨⟨tkU.tup _ _ upd_same, tkU.tup _ _ (sT _ _ (D7.keep _ _ hlpd hlp6)), lo, tkU.tup _ _ (sT _ _ ((D6.trans D7).keep _ _ hqd hq)), ro, ?_, ⟨?_, fun m hm => ?_⟩⟩, hhpd, hhpc⟩
          · show (upd _ cp _) hp = _
            rw [upd_ne hhpc]
            exact sT _ _ hhp
          · show hs.length ≤ 200
            omega
          · have := hmem m hm
            omega
    · rintro σ H3 ⟨hd3, cs, v3, v4, rfl, hcl, hcp3, hcs⟩
      refine ⟨szle (Nat.le_of_ble_eq_true rfl), fun kp nkp => ?_⟩
      have hkpd : kp ≠ d := hd3.ne nkp
      have hkpc : kp ≠ cp := Ne.symm (ne_of_none hcp3 nkp)
      have sK : Same H3 (upd H3 kp (.lst [])) := Same.newB nkp
      have hd4 := hd3.same sK
      have hcp4 := sK _ _ hcp3
      have hkp4 : (upd H3 kp (.lst [])) kp = some (.lst []) := upd_same
      have hcs4 : ∀ c ∈ cs, CaseAt (upd H3 kp (.lst [])) c ∧ c.hp ≠ d ∧ c.hp ≠ kp := fun c hc => by
        obtain ⟨h1, h2, h3⟩ := hcs c hc
        exact ⟨h1.same sK, h2, ne_of_none h1.hp nkp⟩
      revert hd4 hcp4 hkp4 hcs4
      generalize upd H3 kp (.lst []) = H4
      intro hd4 hcp4 hkp4 hcs4
      have notT4 : ∀ {H' : Hp}, SX [kp] H4 H' → H' kp ≠ none → True := fun _ _ => trivial
      refine ⟨_, rfl, cp, rfl, ⟨_, SqL.of hcp4⟩, for_list (K := K) (a := cp) (xs := cs.map fun c => V.ref c.t) (fun i σ H' => SX [kp] H4 H' ∧ ∃ (ks : List V) (v3 v4 v6 v7 v8 : Option V), σ = [some (.ref a), some (.ref d), some (.ref cp), v3, v4, some (.ref kp), v6, v7, v8, none, none, none, none, none, none, none, none] ∧ H' kp = some (.lst ks) ∧ ks.length = 4 * i ∧ KeptAt K d kp H' cs ks) ⟨SX.refl _ _, [], _, _, _, _, _, rfl, hkp4, rfl, fun n v h => (nomatch h)⟩ (fun i σ H' _ h => SqL.of (h.1 _ _ (by simpa using Ne.symm hkpc) hcp4)) ?_ ?_⟩
      · rintro i y σ H5 hi ⟨x5, ks, v3, v4, v6, v7, v8, rfl, hkp5, hkl, hka⟩
        rw [List.getElem?_map] at hi
        obtain ⟨c, hci, rfl⟩ : ∃ c, cs[i]? = some c ∧ V.ref c.t = y := by
          cases e : cs[i]? with
          | none => rw [e] at hi; cases hi
          | some c => rw [e] at hi; exact ⟨c, rfl, Option.some.inj hi⟩
        have hcm := List.mem_of_getElem? hci
        have hil := (List.getElem?_eq_some_iff.mp hci).1
        obtain ⟨hC4, hcd, hck⟩ := hcs4 c hcm
        have tkX : ∀ {H'}, SX [kp] H4 H' → TK H4 H' := fun {H'} x => by
          refine ⟨fun b xs e => x b _ ?_ e, fun b o u e => x b _ ?_ e⟩
          · intro z
            rw [List.mem_singleton.mp z, hkp4] at e
            cases e
          · intro z
            rw [List.mem_singleton.mp z, hkp4] at e
            cases e
        have hC : ∀ {H'}, SX [kp] H4 H' → CaseAt H' c := fun {H'} x => hC4.keep (tkX x) (x _ _ (by simpa using hck) hC4.hp)
        have hC5 := hC x5
        refine ⟨c.t, _, rfl, SqT.of hC5.t, rfl, _, _, rfl, _, _, rfl, _, _, rfl, rfl, ?_⟩
        refine ⟨4, rfl, by decide, by decide, for_range (lo := 0) (n := 4) (fun j σ H' => SX [kp] H4 H' ∧ ∃ (ks : List V) (v3 v8 : Option V), σ = [some (.ref a), some (.ref d), some (.ref cp), v3, some (.ref c.lp), some (.ref kp), some (.ref c.q), some (.ref c.hp), v8, none, none, none, none, none, none, none, none] ∧ H' kp = some (.lst ks) ∧ ks.length = 4 * i + j ∧ KeptAt K d kp H' cs ks) ⟨x5, ks, _, _, rfl, hkp5, hkl, hka⟩ ?_ ?_⟩
        · rintro j σ H6 hj ⟨x6, ks, v3, v8, rfl, hkp6, hkl, hka⟩
          have hC6 := hC x6
          refine ⟨_, rfl, Or.inl ⟨rfl, _, SqL.of hkp6⟩, ?_⟩
          refine ⟨_, rfl, _, rfl, _, rfl, _, rfl, j, c.lp, c.q, c.hp, c.l, c.r, c.hs, by rw [Int.zero_add]; rfl, hj, SqT.of hC6.lp, hC6.lo, SqT.of hC6.q, hC6.ro, SqL.of hC6.hp, hC6.ho, fun p H7 xs ds s7 np hp hP hnp hA => ?_⟩
          have hxl : xs.length = ds.length := hP.len
          have hds := (hA.dn hC6.lo hC6.ro hC6.ho).2
          have hkp7 := s7 _ _ hkp6
          have hd6 : DiceAt H6 d := by
            obtain ⟨ys, g1, g2⟩ := hd4
            exact ⟨ys, x6 _ _ (by simpa using Ne.symm hkpd) g1, g2⟩
          have hd7 := hd6.same s7
          refine ⟨p, rfl, ⟨_, SqL.of hp⟩, fun D nD => lc_list (K := K) (a := p) (xs := xs) (fun m H' => Same H7 H' ∧ ∃ zs, zs.length = m ∧ H' D = some (.lst zs) ∧ DpAll K (wo [d, kp, D] H') zs (ds.take m)) ⟨Same.newB nD, [], rfl, upd_same, .nil⟩ (fun m H' _ h => SqL.of (h.1 _ _ hp)) ?_ ?_⟩
          · rintro m y H8 hm ⟨s8, zs, hzl, e8, hz⟩
            have hml := (List.getElem?_eq_some_iff.mp hm).1
            obtain ⟨dd, hdd, hPart⟩ := hP.get hm
            have et : ds.take (m + 1) = ds.take m ++ [dd] := by rw [List.take_succ, hdd]; rfl
            have tk8 : TK H8 (wo [d, kp, D] H8) := TK.wo fun b hb o ho => by
              obtain ⟨ys, g1, _⟩ := hd7
              simp only [List.mem_cons, List.not_mem_nil, or_false] at hb
              rcases hb with rfl | rfl | rfl
              · rw [s8 _ _ g1] at ho
                cases ho
                exact True.intro
              · rw [s8 _ _ hkp7] at ho
                cases ho
                exact True.intro
              · rw [e8] at ho
                cases ho
                exact True.intro
            have hPart8 := hPart.same s8
            cases hPart8 with
            | flat h1 h2 =>
              obtain ⟨t, ht1, ht2⟩ := flat_ty h1 h2
              refine ⟨rfl, _, rfl, _, _, _, _, false, rfl, .ty _, ht1, kit_ty ht2, _, rfl, iteF ⟨_, rfl, zs, e8, szlt (by omega), s8.mutB nD, zs ++ [y], by rw [List.length_append, hzl]; rfl, upd_same, ?_⟩⟩
              rw [et]
              have sW : Same (wo [d, kp, D] H8) (wo [d, kp, D] (upd H8 D (.lst (zs ++ [y])))) := ((SX.refl _ H8).upd (.inl (by simp))).wo
              exact DpAll.snoc (DpAll.same sW hz) (Dp.same sW _ _ (Dp.keepT tk8 h1 h2))
            | @lst p' ys ds' h1 h2 h3 h4 h5 =>
              refine ⟨rfl, _, rfl, _, _, _, _, true, rfl, .ty _, tyx_list (SqL.of h2), kit_ty (by decide +kernel), _, rfl, iteT ⟨_, rfl, p', ys, rfl, Or.inl (SqL.of h2), fun l' nl' => ⟨zs, (Same.newB nl') _ _ e8, szlt (by omega), (s8.moreB nl').mutB nD, zs ++ [.ref l'], by rw [List.length_append, hzl]; rfl, upd_same, ?_⟩⟩⟩
              rw [et]
              have sX8 : SX [d, kp, D] H8 (upd (upd H8 l' (.lst ys)) D (.lst (zs ++ [.ref l']))) := ((SX.refl _ H8).upd (.inr nl')).upd (.inl (by simp))
              refine DpAll.snoc (DpAll.same sX8.wo hz) (.lst (SqL.of ?_) (DpAll.same sX8.wo (DpAll.keepT tk8 h3 h4)))
              have n1 : l' ≠ D := Ne.symm (ne_of_none e8 nl')
              have n2 : l' ≠ kp := Ne.symm (ne_of_none (s8 _ _ hkp7) nl')
              have n3 : l' ≠ d := (hd7.same s8).ne nl'
              rw [wo_at (by simp [n1, n2, n3]), upd_ne n1, upd_same]
          · rintro H8 ⟨s8, zs, hzl, e8, hz⟩
            rw [hxl, List.take_length] at hz
            have hkp8 := s8 _ _ hkp7
            have hDk : D ≠ kp := Ne.symm (ne_of_none hkp7 nD)
            have hDd : D ≠ d := hd7.ne nD
            refine ⟨kp, ks, _, rfl, rfl, hkp8, szlt (by omega), ?_⟩
            have x9 : SX [kp] H4 (upd H8 kp (.lst (ks ++ [.ref D]))) := (x6.trans (SX.of (s7.trans s8))).upd (.inl (by simp))
            refine ⟨x9, ks ++ [.ref D], _, _, rfl, upd_same, by rw [List.length_append, hkl]; rfl, fun n v hn => ?_⟩
            by_cases hlt : n < ks.length
            · rw [List.getElem?_append_left hlt] at hn
              obtain ⟨c', ds', g1, g2, g3⟩ := hka n v hn
              have sx : SX [d, kp] H6 (upd H8 kp (.lst (ks ++ [.ref D]))) := (SX.of (s7.trans s8)).upd (.inl (by simp))
              exact ⟨c', ds', g1, g2, Dp.same sx.wo _ _ g3⟩
            · have hnl : n < (ks ++ [V.ref D]).length := (List.getElem?_eq_some_iff.mp hn).1
              rw [List.length_append] at hnl
              have hnl' : n < ks.length + 1 := hnl
              have en : n = ks.length := by omega
              subst en
              rw [List.getElem?_append_right (Nat.le_refl _), Nat.sub_self] at hn
              cases hn
              have e1 : ks.length / 4 = i := by omega
              have e2 : ks.length % 4 = j := by omega
              rw [e1, e2]
              refine ⟨c, ds, hci, hA, .lst (SqL.of ?_) (DpAll.same (fun b o e => ?_) hz)⟩
              · rw [wo_at (by simp [hDk, hDd]), upd_ne hDk]
                exact e8
              · obtain ⟨h1, h2⟩ := wo_some e
                simp only [List.mem_cons, List.not_mem_nil, or_false, not_or] at h1
                rw [wo_at (by simp [h1.1, h1.2.1]), upd_ne h1.2.1]
                exact h2
        · rintro σ H6 ⟨x6, ks, v3, v8, rfl, hkp6, hkl, hka⟩
          exact ⟨x6, ks, _, _, _, _, _, rfl, hkp6, by omega, hka⟩
      · rintro σ H5 ⟨x5, ks, v3, v4, v6, v7, v8, rfl, hkp5, hkl, hka⟩
        rw [List.length_map, hcl] at hkl
        have tkX : TK H4 H5 := by
          refine ⟨fun b xs e => x5 b _ ?_ e, fun b o u e => x5 b _ ?_ e⟩
          · intro z
            rw [List.mem_singleton.mp z, hkp4] at e
            cases e
          · intro z
            rw [List.mem_singleton.mp z, hkp4] at e
            cases e
        have hcs5 : ∀ c ∈ cs, CaseAt H5 c ∧ c.hp ≠ d := fun c hc => by
          obtain ⟨h1, h2, h3⟩ := hcs4 c hc
          exact ⟨h1.keep tkX (x5 _ _ (by simpa using h3) h1.hp), h2⟩
        have hd5 : DiceAt H5 d := by
          obtain ⟨ys, g1, g2⟩ := hd4
          exact ⟨ys, x5 _ _ (by simpa using Ne.symm hkpd) g1, g2⟩
        have hcp5 := x5 _ _ (by simpa using Ne.symm hkpc) hcp4
        clear x5 tkX hcs4 hd4 hcp4 hkp4
        have hcat : ∀ {i : Nat}, i < 2 → ∃ c ∈ cs, cs[i]? = some c ∧ (cs.map fun c => V.ref c.t)[i]? = some (V.ref c.t) := fun {i} hi => by
          have hi' : i < cs.length := by omega
          exact ⟨cs[i], List.getElem_mem hi', List.getElem?_eq_getElem hi', by rw [List.getElem?_map, List.getElem?_eq_getElem hi']; rfl⟩
        obtain ⟨c0, hc0m, hc0, hc0t⟩ := hcat (i := 0) (by omega)
        obtain ⟨hC5, hc0d⟩ := hcs5 c0 hc0m
        have ro := hC5.ro
        have hh := hC5.ho
        have hn := hh.1
        refine ⟨_, rfl, cp, _, _, _, rfl, rfl, SqL.of hcp5, atI_nat (j := 0) hc0t, c0.t, _, _, _, rfl, rfl, SqT.of hC5.t, atI_nat (j := 1) rfl, fun x dx nx ndx ne => ?_⟩
        have keep0 : Same H5 (upd (upd H5 dx (.own x)) x (.ins C dx [])) := (Same.newB ndx).moreB (by rw [upd_ne (Ne.symm ne)]; exact nx)
        refine ⟨x, c0.q, dx, c0.r, rfl, upd_same, SqT.of (keep0 _ _ hC5.q), ro, fun H6 hW kp6 => ⟨rfl, ?_⟩⟩
        have s6 : Same H5 H6 := fun b o hb => kp6 b o (ne_of_none hb nx) (keep0 b o hb)
        have hC6 := hC5.same s6
        refine ⟨_, rfl, cp, _, _, _, rfl, rfl, SqL.of (s6 _ _ hcp5), atI_nat (j := 0) hc0t, c0.t, _, _, _, rfl, rfl, SqT.of hC6.t, atI_nat (j := 2) rfl, ?_⟩
        refine ⟨c0.hp, rfl, ⟨_, SqL.of hC6.hp⟩, fun fp nfp => lc_list (K := K) (a := c0.hp) (xs := c0.hs.map V.int) (fun i H' => Same H5 H' ∧ WAt K C H' x c0.r (stOf c0.r (c0.hs.take i)) ∧ H' fp = some (.lst (((List.range i).map fun j => goneH c0.r (c0.hs.take (j + 1))).map V.bl))) ⟨s6.moreB nfp, hW.same (Same.newB nfp), upd_same⟩ (fun i H' _ h => SqL.of (h.1 _ _ hC5.hp)) ?_ ?_⟩
        · rintro i y H' hi ⟨s', hW', e'⟩
          have hil := (List.getElem?_eq_some_iff.mp hi).1
          rw [List.length_map] at hil
          obtain ⟨z, hz, rfl⟩ := int_at hi
          obtain ⟨dx', q', t', hx, _⟩ := hW'.ex
          have et : c0.hs.take (i + 1) = c0.hs.take i ++ [z] := by rw [List.take_succ, hz]; rfl
          refine ⟨rfl, _, rfl, x, dx', _, rfl, hx, wF_no _ _ (by decide +kernel) (by decide +kernel), _, rfl, x, z, c0.r, _, rfl, hW', ro, stOk_of _ _, fun H3 hW3 kp3 => ?_⟩
          have xD : fp ≠ x := ne_of e' hx (by intro z; cases z)
          have e3 := kp3 _ _ xD e'
          refine ⟨_, e3, szlt (by rw [List.length_map, List.length_map, List.length_range]; omega), ?_, ?_, ?_⟩
          · have s4 : Same H5 H3 := fun b o hb => kp3 b o (ne_of_none hb nx) (s' b o hb)
            exact s4.mutB (s6.free nfp)
          · rw [et, stOf_snoc]
            exact hW3.keep (keepL e3)
          · rw [upd_same, List.range_succ, List.map_append, List.map_append, ← stOf_snoc, gone_is c0.r ro, ← et]
            rfl
        rintro H7 ⟨s7, hW7, e7⟩
        rw [List.length_map] at e7 hW7
        rw [List.take_length] at hW7
        have e7 : H7 fp = some (.lst ((toldOf c0.r c0.hs).map V.bl)) := e7
        have hd7 := hd5.same s7
        have hcp7 := s7 _ _ hcp5
        have hkp7 := s7 _ _ hkp5
        have hcs7 : ∀ c ∈ cs, CaseAt H7 c ∧ c.hp ≠ d := fun c hc => ⟨(hcs5 c hc).1.same s7, (hcs5 c hc).2⟩
        have hka7 : KeptAt K d kp H7 cs ks := fun n v h => by
          obtain ⟨c, ds, g1, g2, g3⟩ := hka n v h
          exact ⟨c, ds, g1, g2, Dp.same (SX.of s7).wo _ _ g3⟩
        clear s7 hka hcs5 hkp5 hcp5 hd5 hC5 hC6 kp6 keep0 hW s6 nfp
        refine ⟨14, rfl, by decide, by decide, for_range (lo := 0) (n := 14) (fun i σ H' => Dr d H7 H' ∧ ∃ (v3 v4 v6 v7 v8 v9 v12 v13 v14 v15 : Option V), σ = [some (.ref a), some (.ref d), some (.ref cp), v3, v4, some (.ref kp), v6, v7, v8, v9, some (.ref x), some (.ref fp), v12, v13, v14, v15, none]) ⟨Dr.refl hd7, _, _, _, _, _, _, _, _, _, _, rfl⟩ ?_ ?_⟩
        · rintro i σ H8 hi ⟨D8, v3, v4, v6, v7, v8, v9, v12, v13, v14, v15, rfl⟩
          refine ⟨_, rfl, d, 2, rfl, D8.dice, by decide, by decide, fun k0 H9 hk0 hk1 D9 => ?_⟩
          refine ⟨_, rfl, d, 4, rfl, D9.dice, by decide, by decide, fun k1 H10 hk2 hk3 D10 => ?_⟩
          obtain ⟨kn, rfl⟩ := Int.eq_ofNat_of_zero_le hk0
          obtain ⟨kk, rfl⟩ := Int.eq_ofNat_of_zero_le hk2
          have D7 := D8.trans (D9.trans D10)
          obtain ⟨c, hcm, hci, hct⟩ := hcat (i := kn) (by omega)
          obtain ⟨hC7, hcd⟩ := hcs7 c hcm
          have hC := hC7.keep (TK.dr D7 hd7) (D7.keep _ _ hcd hC7.hp)
          refine ⟨_, rfl, _, rfl, cp, _, _, _, rfl, rfl, SqL.of (D7.keep _ _ hcpd hcp7), atI_nat (j := kn) hct, ?_⟩
          refine ⟨c.t, _, rfl, SqT.of hC.t, rfl, _, _, rfl, _, _, rfl, _, _, rfl, rfl, ?_⟩
          refine ⟨_, rfl, c.hp, _, rfl, Or.inl (SqL.of hC.hp), fun hb nhb => ?_⟩
          have sB : Same H10 (upd H10 hb (.lst (c.hs.map V.int))) := Same.newB nhb
          have hCB := hC.same sB
          have hhb : (upd H10 hb (.lst (c.hs.map V.int))) hb = some (.lst (c.hs.map V.int)) := upd_same
          have DB := D7.same sB
          have nhb7 : H7 hb = none := D7.free nhb
          revert sB hCB hhb DB
          generalize upd H10 hb (.lst (c.hs.map V.int)) = HB
          intro sB hCB hhb DB
          refine ⟨_, rfl, _, rfl, _, rfl, _, rfl, kk, c.lp, c.q, hb, c.l, c.r, c.hs, rfl, by omega, SqT.of hCB.lp, hCB.lo, SqT.of hCB.q, hCB.ro, SqL.of hhb, hCB.ho, fun p H11 xs ds s11 np hp hP hnp hA => ?_⟩
          have hxl : xs.length = ds.length := hP.len
          obtain ⟨hdn, hds⟩ := hA.dn hCB.lo hCB.ro hCB.ho
          have D11 := DB.same s11
          have hlenn := hCB.ho.1
          refine ⟨fun tb H' => Same H11 H' ∧ tb = false, ?_, ?_⟩
          · have hnk : 4 * kn + kk < ks.length := by omega
            obtain ⟨c', ds', g1, g2, g3⟩ := hka7 (4 * kn + kk) _ (List.getElem?_eq_getElem hnk)
            have e1 : (4 * kn + kk) / 4 = kn := by omega
            have e2 : (4 * kn + kk) % 4 = kk := by omega
            rw [e1, hci] at g1
            cases g1
            rw [e2] at g2
            have e3 := Ans.uniq g2 hA
            subst e3
            have sW : Same (wo [d, kp] H7) H11 := fun b o e => by
              obtain ⟨h1, h2⟩ := wo_some e
              simp only [List.mem_cons, List.not_mem_nil, or_false, not_or] at h1
              exact D11.keep _ _ h1.1 h2
            refine ⟨_, rfl, _, rfl, _, rfl, _, _, rfl, rfl, Or.inl ⟨by decide, by decide⟩, _, rfl, _, _, rfl, rfl, ?_⟩
            have hat : atI ks ((4 : Int) * (kn : Int) + (kk : Int)) = some ks[4 * kn + kk] := by
              have : (4 : Int) * (kn : Int) + (kk : Int) = ((4 * kn + kk : Nat) : Int) := by omega
              rw [this]
              exact atI_nat (List.getElem?_eq_getElem hnk)
            refine ⟨kp, _, _, _, rfl, rfl, SqL.of (D11.keep _ _ hkpd hkp7), hat, ?_⟩
            refine ⟨_, _, .list ds', rfl, .lst (SqL.of hp) hP.dp, Dp.same sW _ _ g3, hdn, fun H12 s12 => ⟨_, rfl, iteF ?_⟩⟩
            refine ⟨_, rfl, _, rfl, .list (c.hs.map PyData.int), .list (c.hs.map PyData.int), .lst (SqL.of (s12 _ _ (s11 _ _ hhb))) (dp_ints _), .lst (SqL.of (s12 _ _ (s11 _ _ hCB.hp))) (dp_ints _), PySem.W.ke_shaped_ints _, PySem.W.ke_shaped_ints _, _, rfl, s12, ?_⟩
            rw [eqv_self (PySem.W.ke_shaped_ints _)]
            rfl
          · rintro tb H12 ⟨s12, rfl⟩
            refine iteF ?_
            have hp12 := s12 _ _ hp
            have hP12 := hP.same s12
            refine ⟨_, rfl, p, rfl, ⟨_, SqL.of hp12⟩, for_list (K := K) (a := p) (xs := xs) (fun m σ H' => Dr d H7 H' ∧ TK H12 H' ∧ H' p = some (.lst xs) ∧ H' hb = some (.lst (c.hs.map V.int)) ∧ (∀ (j : Nat) (p' : Addr) (es : List PyData), xs[j]? = some (.ref p') → ds[j]? = some (.list es) → ∃ ys, H' p' = some (.lst ys) ∧ ys.length ≤ 2000 + m) ∧ ∃ v9, σ = [some (.ref a), some (.ref d), some (.ref cp), some (.int (kn : Int)), some (.ref c.lp), some (.ref kp), some (.ref c.q), some (.ref c.hp), some (.int (kk : Int)), v9, some (.ref x), some (.ref fp), v12, some (.int (0 + (i : Int))), some (.ref hb), some (.ref p), none]) ⟨D11.same s12, TK.refl _, hp12, s12 _ _ (s11 _ _ hhb), fun j p' es h1 h2 => ?_, _, rfl⟩ (fun m σ H' _ h => SqL.of h.2.2.1) ?_ ?_⟩
            · obtain ⟨dd, g1, g2⟩ := hP12.get h1
              rw [h2] at g1
              cases g1
              cases g2 with
              | flat _ h => cases h
              | lst _ g3 _ _ g4 => exact ⟨_, g3, by omega⟩
            · rintro m y σ H13 hm ⟨D13, tk13, hp13, hhb13, hls, v9, rfl⟩
              have hml := (List.getElem?_eq_some_iff.mp hm).1
              obtain ⟨dd, g1, g2⟩ := hP12.get hm
              cases g2 with
              | flat h1 h2 =>
                obtain ⟨t, ht1, ht2⟩ := flat_ty (Dp.keepT tk13 h1 h2) h2
                refine ⟨_, rfl, _, _, _, _, false, rfl, .ty _, ht1, kit_ty ht2, _, rfl, iteF ⟨D13, tk13, hp13, hhb13, fun j p' es h3 h4 => ?_, _, rfl⟩⟩
                obtain ⟨ys, h5, h6⟩ := hls j p' es h3 h4
                exact ⟨ys, h5, by omega⟩
              | @lst p' ys0 es h1 h2 h3 h4 h5 =>
                obtain ⟨ys, h6, h7⟩ := hls m p' es hm g1
                refine ⟨_, rfl, _, _, _, _, true, rfl, .ty _, tyx_list (SqL.of h6), kit_ty (by decide +kernel), _, rfl, iteT ?_⟩
                refine ⟨_, rfl, Or.inl ⟨rfl, _, SqL.of h6⟩, p', ys, _, rfl, rfl, h6, szlt (by omega), ?_⟩
                have n1 : p' ≠ d := DB.dice.ne h1
                have n2 : H7 p' = none := DB.free h1
                have n3 : p' ≠ p := fun e => hnp (.ref p') (List.mem_of_getElem? hm) (by rw [e])
                have n4 : p' ≠ hb := Ne.symm (ne_of_none hhb h1)
                refine ⟨⟨?_, fun b o nb e => ?_⟩, tk13.trans (TK.upd h6 True.intro), by rw [upd_ne (Ne.symm n3)]; exact hp13, by rw [upd_ne (Ne.symm n4)]; exact hhb13, fun j p2 es2 g3 g4 => ?_, _, rfl⟩
                · obtain ⟨zs, z1, z2⟩ := D13.dice
                  exact ⟨zs, by rw [upd_ne (Ne.symm n1)]; exact z1, z2⟩
                · rw [upd_ne (ne_of_none e n2)]
                  exact D13.keep b o nb e
                · by_cases e : p2 = p'
                  · subst e
                    exact ⟨_, upd_same, by rw [List.length_append]; show ys.length + 1 ≤ _; omega⟩
                  · obtain ⟨ys2, h8, h9⟩ := hls j p2 es2 g3 g4
                    exact ⟨ys2, by rw [upd_ne e]; exact h8, by omega⟩
            · rintro σ H13 ⟨D13, tk13, hp13, hhb13, hls, v9, rfl⟩
              refine ⟨_, rfl, Or.inl ⟨rfl, _, SqL.of hhb13⟩, hb, _, _, rfl, rfl, hhb13, szlt (by rw [List.length_map]; omega), ?_⟩
              have n1 : hb ≠ d := D7.dice.ne nhb
              refine ⟨⟨?_, fun b o nb e => ?_⟩, _, _, _, _, _, _, _, _, _, _, rfl⟩
              · obtain ⟨zs, z1, z2⟩ := D13.dice
                exact ⟨zs, by rw [upd_ne (Ne.symm n1)]; exact z1, z2⟩
              · rw [upd_ne (ne_of_none e nhb7)]
                exact D13.keep b o nb e
        · rintro σ H8 ⟨D8, v3, v4, v6, v7, v8, v9, v12, v13, v14, v15, rfl⟩
          have hW8 : WAt K C H8 x c0.r (stOf c0.r c0.hs) := hW7.keep fun b o no e => by
            obtain ⟨ys, g1, _⟩ := hd7
            exact D8.keep b o (ne_of e g1 (no _)) e
          have hcp8 := D8.keep _ _ hcpd hcp7
          obtain ⟨hC7, hcd⟩ := hcs7 c0 hc0m
          have hC8 := hC7.keep (TK.dr D8 hd7) (D8.keep _ _ hcd hC7.hp)
          have hfpd : fp ≠ d ∨ True := .inr trivial
          by_cases hfd : fp = d
          · exfalso
            obtain ⟨ys, g1, A1, B1, R1, g2⟩ := hd7
            rw [← hfd, e7] at g1
            have g1' : (toldOf c0.r c0.hs).map V.bl = ys := by
              injection g1 with g1
              injection g1
            rw [g2] at g1'
            cases hb : toldOf c0.r c0.hs with
            | nil => rw [hb] at g1'; cases g1'
            | cons b bs => rw [hb] at g1'; injection g1' with z1 _; cases z1
          have e8 := D8.keep _ _ hfd e7
          refine ⟨_, rfl, cp, _, _, _, rfl, rfl, SqL.of hcp8, atI_nat (j := 0) hc0t, c0.t, _, _, _, rfl, rfl, SqT.of hC8.t, atI_nat (j := 1) rfl, fun x2 dx2 nx2 ndx2 ne2 => ?_⟩
          have keep0 : Same H8 (upd (upd H8 dx2 (.own x2)) x2 (.ins C dx2 [])) := (Same.newB ndx2).moreB (by rw [upd_ne (Ne.symm ne2)]; exact nx2)
          refine ⟨x2, c0.q, dx2, c0.r, rfl, upd_same, SqT.of (keep0 _ _ hC8.q), ro, fun H9 hW9 kp9 => ⟨rfl, ?_⟩⟩
          have s9 : Same H8 H9 := fun b o hb => kp9 b o (ne_of_none hb nx2) (keep0 b o hb)
          have hC9 := hC8.same s9
          refine ⟨_, rfl, cp, _, _, _, rfl, rfl, SqL.of (s9 _ _ hcp8), atI_nat (j := 0) hc0t, c0.t, _, _, _, rfl, rfl, SqT.of hC9.t, atI_nat (j := 2) rfl, ?_⟩
          refine ⟨c0.hp, rfl, ⟨_, SqL.of hC9.hp⟩, fun f2 nf2 => lc_list (K := K) (a := c0.hp) (xs := c0.hs.map V.int) (fun i H' => Same H8 H' ∧ WAt K C H' x2 c0.r (stOf c0.r (c0.hs.take i)) ∧ H' f2 = some (.lst (((List.range i).map fun j => goneH c0.r (c0.hs.take (j + 1))).map V.bl))) ⟨s9.moreB nf2, hW9.same (Same.newB nf2), upd_same⟩ (fun i H' _ h => SqL.of (h.1 _ _ hC8.hp)) ?_ ?_⟩
          · rintro i y H' hi ⟨s', hW', e'⟩
            have hil := (List.getElem?_eq_some_iff.mp hi).1
            rw [List.length_map] at hil
            obtain ⟨z, hz, rfl⟩ := int_at hi
            obtain ⟨dx', q', t', hx, _⟩ := hW'.ex
            have et : c0.hs.take (i + 1) = c0.hs.take i ++ [z] := by rw [List.take_succ, hz]; rfl
            refine ⟨rfl, _, rfl, x2, dx', _, rfl, hx, wF_no _ _ (by decide +kernel) (by decide +kernel), _, rfl, x2, z, c0.r, _, rfl, hW', ro, stOk_of _ _, fun H3 hW3 kp3 => ?_⟩
            have xD : f2 ≠ x2 := ne_of e' hx (by intro z; cases z)
            have e3 := kp3 _ _ xD e'
            refine ⟨_, e3, szlt (by rw [List.length_map, List.length_map, List.length_range]; omega), ?_, ?_, ?_⟩
            · have s4 : Same H8 H3 := fun b o hb => kp3 b o (ne_of_none hb nx2) (s' b o hb)
              exact s4.mutB (s9.free nf2)
            · rw [et, stOf_snoc]
              exact hW3.keep (keepL e3)
            · rw [upd_same, List.range_succ, List.map_append, List.map_append, ← stOf_snoc, gone_is c0.r ro, ← et]
              rfl
          rintro H10 ⟨s10, hW10, e10⟩
          rw [List.length_map] at e10 hW10
          rw [List.take_length] at hW10
          have e10 : H10 f2 = some (.lst ((toldOf c0.r c0.hs).map V.bl)) := e10
          have hWx := hW8.same s10
          have hxx : x ≠ x2 := by
            obtain ⟨dx', q', t', hx, _⟩ := hW8.ex
            exact ne_of_none hx nx2
          refine ⟨_, rfl, .list ((toldOf c0.r c0.hs).map PyData.bool), .list ((toldOf c0.r c0.hs).map PyData.bool), .lst (SqL.of e10) (dp_bls _), .lst (SqL.of (s10 _ _ e8)) (dp_bls _), bls_shp _, bls_shp _, _, rfl, ?_⟩
          rw [eqv_self (bls_shp _)]
          refine iteF ⟨szle (Nat.le_of_ble_eq_true rfl), fun ll nll => ?_⟩
          have sL : Same H10 (upd H10 ll (.lst (([0, 1, 0, 0, 2, 0, 0, 0] : List Int).map V.int))) := Same.newB nll
          refine ⟨ll, rfl, ⟨_, SqL.of upd_same⟩, for_list (K := K) (a := ll) (xs := ([0, 1, 0, 0, 2, 0, 0, 0] : List Int).map V.int) (fun m σ H' => H' ll = some (.lst (([0, 1, 0, 0, 2, 0, 0, 0] : List Int).map V.int)) ∧ (∃ st, WAt K C H' x c0.r st ∧ WAt K C H' x2 c0.r st ∧ StOk c0.r st) ∧ ∃ v3 v4 v6 v7 v8 v9 v12 v13 v14 v15, σ = [some (.ref a), some (.ref d), some (.ref cp), v3, v4, some (.ref kp), v6, v7, v8, v9, some (.ref x), some (.ref fp), v12, v13, v14, v15, some (.ref x2)]) ⟨upd_same, ⟨_, hWx.same sL, hW10.same sL, stOk_of _ _⟩, _, _, _, _, _, _, _, _, _, _, rfl⟩ (fun m σ H' _ h => SqL.of h.1) ?_ ?_⟩
          · rintro m y σ H11 hm ⟨hll, ⟨st, hA1, hB1, hst⟩, v3, v4, v6, v7, v8, v9, v12, v13, v14, v15, rfl⟩
            obtain ⟨z, hz, rfl⟩ := int_at hm
            obtain ⟨dx', q', t', hx, _⟩ := hA1.ex
            refine ⟨_, rfl, x, dx', _, rfl, hx, wF_no _ _ (by decide +kernel) (by decide +kernel), _, rfl, x, z, c0.r, st, rfl, hA1, ro, hst, fun H12 hA2 kp12 => ?_⟩
            have hB2 := hB1.but kp12 hx (Ne.symm hxx)
            have hll2 := kp12 _ _ (ne_of hll hx (by intro z; cases z)) hll
            obtain ⟨dy', q2', t2', hy, _⟩ := hB2.ex
            refine ⟨_, rfl, x2, dy', _, rfl, hy, wF_no _ _ (by decide +kernel) (by decide +kernel), _, rfl, x2, z, c0.r, st, rfl, hB2, ro, hst, fun H13 hB3 kp13 => ?_⟩
            have hA3 := hA2.but kp13 hy hxx
            have hll3 := kp13 _ _ (ne_of hll2 hy (by intro z; cases z)) hll2
            refine ⟨rfl, _, rfl, neBl rfl ?_⟩
            exact ⟨hll3, ⟨_, hA3, hB3, stOk_next _ _ _⟩, _, _, _, _, _, _, _, _, _, _, rfl⟩
          · rintro σ H11 _
            exact k H11
end
end Bw

set_option Elab.async false
set_option linter.all false
set_option maxRecDepth 100000
set_option maxHeartbeats 0
namespace Bw
open PySem PySem.Spec PyProof.Rows L2
def d_need_line : He.DefD := ⟨("need_line", none), "need_line", "need_line", defArgs s_need_line, defBody s_need_line, defScope s_need_line, [], []⟩
def d_is_rule : He.DefD := ⟨("is_rule", none), "is_rule", "is_rule", defArgs s_is_rule, defBody s_is_rule, defScope s_is_rule, [], []⟩
def d_need_rule : He.DefD := ⟨("need_rule", none), "need_rule", "need_rule", defArgs s_need_rule, defBody s_need_rule, defScope s_need_rule, [], []⟩
def d_need_heard : He.DefD := ⟨("need_heard", none), "need_heard", "need_heard", defArgs s_need_heard, defBody s_need_heard, defScope s_need_heard, [], []⟩
def d_next_state : He.DefD := ⟨("next_state", none), "next_state", "next_state", defArgs s_next_state, defBody s_next_state, defScope s_next_state, [], []⟩
def d_first_state : He.DefD := ⟨("first_state", none), "first_state", "first_state", defArgs s_first_state, defBody s_first_state, defScope s_first_state, [], []⟩
def d_is_gone : He.DefD := ⟨("is_gone", none), "is_gone", "is_gone", defArgs s_is_gone, defBody s_is_gone, defScope s_is_gone, [], []⟩
def d_Watcher___init__ : He.DefD := ⟨("Watcher", some "__init__"), "__init__", "Watcher.__init__", defArgs s_Watcher___init__, defBody s_Watcher___init__, defScope s_Watcher___init__, [], []⟩
def d_Watcher_hear : He.DefD := ⟨("Watcher", some "hear"), "hear", "Watcher.hear", defArgs s_Watcher_hear, defBody s_Watcher_hear, defScope s_Watcher_hear, [], []⟩
def d_told : He.DefD := ⟨("told", none), "told", "told", defArgs s_told, defBody s_told, defScope s_told, [], []⟩
def d_turns : He.DefD := ⟨("turns", none), "turns", "turns", defArgs s_turns, defBody s_turns, defScope s_turns, [], []⟩
def d_begun : He.DefD := ⟨("begun", none), "begun", "begun", defArgs s_begun, defBody s_begun, defScope s_begun, [], []⟩
def d_heard_of : He.DefD := ⟨("heard_of", none), "heard_of", "heard_of", defArgs s_heard_of, defBody s_heard_of, defScope s_heard_of, [], []⟩
def d_moves : He.DefD := ⟨("moves", none), "moves", "moves", defArgs s_moves, defBody s_moves, defScope s_moves, [], []⟩
def d_may : He.DefD := ⟨("may", none), "may", "may", defArgs s_may, defBody s_may, defScope s_may, [], []⟩
def d_all_standing : He.DefD := ⟨("all_standing", none), "all_standing", "all_standing", defArgs s_all_standing, defBody s_all_standing, defScope s_all_standing, [], []⟩
def d_false_row : He.DefD := ⟨("false_row", none), "false_row", "false_row", defArgs s_false_row, defBody s_false_row, defScope s_false_row, [], []⟩
def d_Late___init__ : He.DefD := ⟨("Late", some "__init__"), "__init__", "Late.__init__", defArgs s_Late___init__, defBody s_Late___init__, defScope s_Late___init__, [], []⟩
def d_Late_longest : He.DefD := ⟨("Late", some "longest"), "longest", "Late.longest", defArgs s_Late_longest, defBody s_Late_longest, defScope s_Late_longest, [], []⟩
def d_latest : He.DefD := ⟨("latest", none), "latest", "latest", defArgs s_latest, defBody s_latest, defScope s_latest, [], []⟩
def d_chosen : He.DefD := ⟨("chosen", none), "chosen", "chosen", defArgs s_chosen, defBody s_chosen, defScope s_chosen, [], []⟩
def d_written : He.DefD := ⟨("written", none), "written", "written", defArgs s_written, defBody s_written, defScope s_written, [], []⟩
def d_read : He.DefD := ⟨("read", none), "read", "read", defArgs s_read, defBody s_read, defScope s_read, [], []⟩
def d__law_dice : He.DefD := ⟨("_law_dice", none), "_law_dice", "_law_dice", defArgs s__law_dice, defBody s__law_dice, defScope s__law_dice, [], []⟩
def d__law_off : He.DefD := ⟨("_law_off", none), "_law_off", "_law_off", defArgs s__law_off, defBody s__law_off, defScope s__law_off, [], []⟩
def d__law_alike : He.DefD := ⟨("_law_alike", none), "_law_alike", "_law_alike", defArgs s__law_alike, defBody s__law_alike, defScope s__law_alike, [], []⟩
def d__law_line : He.DefD := ⟨("_law_line", none), "_law_line", "_law_line", defArgs s__law_line, defBody s__law_line, defScope s__law_line, [], []⟩
def d__law_rule : He.DefD := ⟨("_law_rule", none), "_law_rule", "_law_rule", defArgs s__law_rule, defBody s__law_rule, defScope s__law_rule, [], []⟩
def d__law_run : He.DefD := ⟨("_law_run", none), "_law_run", "_law_run", defArgs s__law_run, defBody s__law_run, defScope s__law_run, [], []⟩
def d__law_asked : He.DefD := ⟨("_law_asked", none), "_law_asked", "_law_asked", defArgs s__law_asked, defBody s__law_asked, defScope s__law_asked, [], []⟩
def d_law : He.DefD := ⟨("law", none), "law", "law", defArgs s_law, defBody s_law, defScope s_law, [], []⟩
def fn : List He.DefD := [d_need_line, d_is_rule, d_need_rule, d_need_heard, d_next_state, d_first_state, d_is_gone, d_Watcher___init__, d_Watcher_hear, d_told, d_turns, d_begun, d_heard_of, d_moves, d_may, d_all_standing, d_false_row, d_Late___init__, d_Late_longest, d_latest, d_chosen, d_written, d_read, d__law_dice, d__law_off, d__law_alike, d__law_line, d__law_rule, d__law_run, d__law_asked, d_law]
def fa : List He.Fa := [.free "len", .free "min", .free "sum", .free "abs", .free "isinstance", .free "bool", .free "int", .free "str", .free "tuple", .free "list", .free "all", .free "range", .free "enumerate", .int "MOST_EACH" 4, .int "MOST_LATE" 3, .int "MOST_LOST" 2, .int "MOST_SILENT" 12, .int "MOST_WIDE" 5, .int "MOST_MANY" 3, .int "MOST_MOMENTS" 200, .int "MOST_HEARD" 9, .glo "FIRST", .str "FIGURES" "0123456789", .glo "need_line", .glo "is_rule", .glo "need_rule", .glo "need_heard", .glo "next_state", .glo "first_state", .glo "is_gone", .glo "told", .glo "turns", .glo "begun", .glo "heard_of", .glo "moves", .glo "may", .glo "all_standing", .glo "false_row", .glo "latest", .glo "chosen", .glo "written", .glo "read", .glo "_law_dice", .glo "_law_off", .glo "_law_alike", .glo "_law_line", .glo "_law_rule", .glo "_law_run", .glo "_law_asked", .glo "law", .glo "Watcher", .cls "Watcher", .mkr "Watcher", .noat "Watcher" "rule", .noat "Watcher" "kept", .meth "Watcher" "hear", .glo "Late", .cls "Late", .mkr "Late", .noat "Late" "line", .noat "Late" "rule", .noat "Late" "known", .meth "Late" "longest"]
abbrev R : PySem.W.OpenRow := PySem.W.OpenLaw.row PySem.Challenge.rw_beatwatch_k13_asked_again
def firstB (K : PySem.W.Frag) : Bool := match K.lookup (He.ga K "FIRST") with
  | some ⟨.type c, _, .seq its _, _⟩ => decide (c = "tuple") && (match its.toList with
    | [.int i _, .ref b, .int j _] => decide (i = 0) && (decide (j = 0) && (match K.lookup b with
      | some ⟨.type c2, _, .seq its2 _, _⟩ => decide (c2 = "tuple") && its2.toList.isEmpty
      | _ => false))
    | _ => false)
  | _ => false
theorem firstB_ok {K : PySem.W.Frag} (h : firstB K = true) (H : Hp) : Dp K H (.ref (He.ga K "FIRST")) (lsD LS.first) := by
  unfold firstB at h
  split at h
  · rename_i c od its n sl q
    obtain ⟨h1, h2⟩ := Bool.and_eq_true_iff.mp h
    split at h2
    · rename_i i t b j u q2
      obtain ⟨h3, h4⟩ := Bool.and_eq_true_iff.mp h2
      obtain ⟨h5, h6⟩ := Bool.and_eq_true_iff.mp h4
      split at h6
      · rename_i c2 od2 its2 n2 sl2 q3
        obtain ⟨h7, h8⟩ := Bool.and_eq_true_iff.mp h6
        have e8 : its2.toList = [] := List.isEmpty_iff.mp h8
        have hi : i = 0 := of_decide_eq_true h3
        have hj : j = 0 := of_decide_eq_true h5
        subst hi hj
        refine ls_mk (s := LS.first) (b := b) (.inr ⟨_, its, n, q, congrArg Value.type (of_decide_eq_true h1), rfl, ?_, ?_⟩) (.inr ⟨_, its2, n2, q3, congrArg Value.type (of_decide_eq_true h7), rfl, ?_, ?_⟩)
        · show its.size ≤ sizeLine
          rw [← Array.length_toList, q2]
          show 3 ≤ sizeLine
          decide
        · rw [q2]
          exact .cons ⟨_, rfl⟩ (.cons rfl (.cons ⟨_, rfl⟩ .nil))
        · show its2.size ≤ sizeLine
          rw [← Array.length_toList, e8]
          decide
        · rw [e8]
          exact .nil
      · cases h6
    · cases h2
  · cases h
def exB (K : PySem.W.Frag) : Bool := firstB K
def tf : List (Str × Option Str) := []
abbrev hk : PySem.W.Hook := He.hookX 5 fa fn [] tf exB
def ob (s : PySem.W.SharedT) : He.AlX := He.obsX 5 fa fn [] tf exB (HandSHeadRun.getT s)
theorem ob_eq (s : PySem.W.SharedT) : ob s = hk.obs s.abs := He.obsX_eq (HandSHeadRun.getT_eq s)
def loose : List Str := [("BeatError" : Str), ("BadLine" : Str), ("BadRule" : Str), ("BadHeard" : Str), ("BadText" : Str), ("MOST_EACH" : Str), ("MOST_LATE" : Str), ("MOST_LOST" : Str), ("MOST_SILENT" : Str), ("MOST_WIDE" : Str), ("MOST_MANY" : Str), ("MOST_MOMENTS" : Str), ("MOST_HEARD" : Str), ("need_line" : Str), ("is_rule" : Str), ("need_rule" : Str), ("need_heard" : Str), ("next_state" : Str), ("first_state" : Str), ("is_gone" : Str), ("Watcher" : Str), ("told" : Str), ("turns" : Str), ("FIRST" : Str), ("begun" : Str), ("heard_of" : Str), ("moves" : Str), ("may" : Str), ("all_standing" : Str), ("false_row" : Str), ("Late" : Str), ("latest" : Str), ("chosen" : Str), ("FIGURES" : Str), ("written" : Str), ("read" : Str), ("_law_dice" : Str), ("_law_off" : Str), ("_law_alike" : Str), ("_law_line" : Str), ("_law_rule" : Str), ("_law_run" : Str), ("_law_asked" : Str)]
theorem run (w : World) : HandSHeadRun.RunEq R (PySem.W.view R.prog [49]) hk ob 20000 loose w := by
  intro os
  kernel_rfl
theorem facts {P : Program} {w : World} {K : PySem.W.Frag} {h : Heap} {mg : Str → Option Value} {f : Addr} (X : K.In h) (G : h.Ns mainGlobals mg) (hfa : mg ("law" : Str) = some (.ref f)) (c : He.SaysX fa fn [] tf exB w h K) :
    ∃ fd : FuncData, (∀ (s : Shared) (v : Value), BindsTo s fd ⟨[v], []⟩ [("_law_script", v)]) ∧ ∀ base : Heap, K.In base → base.Ns mainGlobals mg → FnOk P w K mg base CX0 22 f fd ["_law_script"] (spLaw K) := by
  have c0 := c
  replace c := c0.t.d
  have hFI : ∀ H : Hp, Dp K H (.ref (He.ga K "FIRST")) (lsD LS.first) := firstB_ok (c0.more)
  have g_len : mg "len" = none := He.free_ok X G (c.fact 0 (f := .free "len") rfl)
  have g_min : mg "min" = none := He.free_ok X G (c.fact 1 (f := .free "min") rfl)
  have g_sum : mg "sum" = none := He.free_ok X G (c.fact 2 (f := .free "sum") rfl)
  have g_abs : mg "abs" = none := He.free_ok X G (c.fact 3 (f := .free "abs") rfl)
  have g_isinstance : mg "isinstance" = none := He.free_ok X G (c.fact 4 (f := .free "isinstance") rfl)
  have g_bool : mg "bool" = none := He.free_ok X G (c.fact 5 (f := .free "bool") rfl)
  have g_int : mg "int" = none := He.free_ok X G (c.fact 6 (f := .free "int") rfl)
  have g_str : mg "str" = none := He.free_ok X G (c.fact 7 (f := .free "str") rfl)
  have g_tuple : mg "tuple" = none := He.free_ok X G (c.fact 8 (f := .free "tuple") rfl)
  have g_list : mg "list" = none := He.free_ok X G (c.fact 9 (f := .free "list") rfl)
  have g_all : mg "all" = none := He.free_ok X G (c.fact 10 (f := .free "all") rfl)
  have g_range : mg "range" = none := He.free_ok X G (c.fact 11 (f := .free "range") rfl)
  have g_enumerate : mg "enumerate" = none := He.free_ok X G (c.fact 12 (f := .free "enumerate") rfl)
  obtain ⟨t_MOST_EACH, g_MOST_EACH⟩ := He.int_ok X G (c.fact 13 (f := .int "MOST_EACH" 4) rfl)
  obtain ⟨t_MOST_LATE, g_MOST_LATE⟩ := He.int_ok X G (c.fact 14 (f := .int "MOST_LATE" 3) rfl)
  obtain ⟨t_MOST_LOST, g_MOST_LOST⟩ := He.int_ok X G (c.fact 15 (f := .int "MOST_LOST" 2) rfl)
  obtain ⟨t_MOST_SILENT, g_MOST_SILENT⟩ := He.int_ok X G (c.fact 16 (f := .int "MOST_SILENT" 12) rfl)
  obtain ⟨t_MOST_WIDE, g_MOST_WIDE⟩ := He.int_ok X G (c.fact 17 (f := .int "MOST_WIDE" 5) rfl)
  obtain ⟨t_MOST_MANY, g_MOST_MANY⟩ := He.int_ok X G (c.fact 18 (f := .int "MOST_MANY" 3) rfl)
  obtain ⟨t_MOST_MOMENTS, g_MOST_MOMENTS⟩ := He.int_ok X G (c.fact 19 (f := .int "MOST_MOMENTS" 200) rfl)
  obtain ⟨t_MOST_HEARD, g_MOST_HEARD⟩ := He.int_ok X G (c.fact 20 (f := .int "MOST_HEARD" 9) rfl)
  have g_FIRST : mg "FIRST" = some (.ref (He.ga K "FIRST")) := He.glo_ok X G (c.fact 21 (f := .glo "FIRST") rfl)
  obtain ⟨t_FIGURES, g_FIGURES⟩ := He.str_ok X G (c.fact 22 (f := .str "FIGURES" "0123456789") rfl)
  have g_need_line : mg "need_line" = some (.ref (He.ga K "need_line")) := He.glo_ok X G (c.fact 23 (f := .glo "need_line") rfl)
  have g_is_rule : mg "is_rule" = some (.ref (He.ga K "is_rule")) := He.glo_ok X G (c.fact 24 (f := .glo "is_rule") rfl)
  have g_need_rule : mg "need_rule" = some (.ref (He.ga K "need_rule")) := He.glo_ok X G (c.fact 25 (f := .glo "need_rule") rfl)
  have g_need_heard : mg "need_heard" = some (.ref (He.ga K "need_heard")) := He.glo_ok X G (c.fact 26 (f := .glo "need_heard") rfl)
  have g_next_state : mg "next_state" = some (.ref (He.ga K "next_state")) := He.glo_ok X G (c.fact 27 (f := .glo "next_state") rfl)
  have g_first_state : mg "first_state" = some (.ref (He.ga K "first_state")) := He.glo_ok X G (c.fact 28 (f := .glo "first_state") rfl)
  have g_is_gone : mg "is_gone" = some (.ref (He.ga K "is_gone")) := He.glo_ok X G (c.fact 29 (f := .glo "is_gone") rfl)
  have g_told : mg "told" = some (.ref (He.ga K "told")) := He.glo_ok X G (c.fact 30 (f := .glo "told") rfl)
  have g_turns : mg "turns" = some (.ref (He.ga K "turns")) := He.glo_ok X G (c.fact 31 (f := .glo "turns") rfl)
  have g_begun : mg "begun" = some (.ref (He.ga K "begun")) := He.glo_ok X G (c.fact 32 (f := .glo "begun") rfl)
  have g_heard_of : mg "heard_of" = some (.ref (He.ga K "heard_of")) := He.glo_ok X G (c.fact 33 (f := .glo "heard_of") rfl)
  have g_moves : mg "moves" = some (.ref (He.ga K "moves")) := He.glo_ok X G (c.fact 34 (f := .glo "moves") rfl)
  have g_may : mg "may" = some (.ref (He.ga K "may")) := He.glo_ok X G (c.fact 35 (f := .glo "may") rfl)
  have g_all_standing : mg "all_standing" = some (.ref (He.ga K "all_standing")) := He.glo_ok X G (c.fact 36 (f := .glo "all_standing") rfl)
  have g_false_row : mg "false_row" = some (.ref (He.ga K "false_row")) := He.glo_ok X G (c.fact 37 (f := .glo "false_row") rfl)
  have g_latest : mg "latest" = some (.ref (He.ga K "latest")) := He.glo_ok X G (c.fact 38 (f := .glo "latest") rfl)
  have g_chosen : mg "chosen" = some (.ref (He.ga K "chosen")) := He.glo_ok X G (c.fact 39 (f := .glo "chosen") rfl)
  have g_written : mg "written" = some (.ref (He.ga K "written")) := He.glo_ok X G (c.fact 40 (f := .glo "written") rfl)
  have g_read : mg "read" = some (.ref (He.ga K "read")) := He.glo_ok X G (c.fact 41 (f := .glo "read") rfl)
  have g__law_dice : mg "_law_dice" = some (.ref (He.ga K "_law_dice")) := He.glo_ok X G (c.fact 42 (f := .glo "_law_dice") rfl)
  have g__law_off : mg "_law_off" = some (.ref (He.ga K "_law_off")) := He.glo_ok X G (c.fact 43 (f := .glo "_law_off") rfl)
  have g__law_alike : mg "_law_alike" = some (.ref (He.ga K "_law_alike")) := He.glo_ok X G (c.fact 44 (f := .glo "_law_alike") rfl)
  have g__law_line : mg "_law_line" = some (.ref (He.ga K "_law_line")) := He.glo_ok X G (c.fact 45 (f := .glo "_law_line") rfl)
  have g__law_rule : mg "_law_rule" = some (.ref (He.ga K "_law_rule")) := He.glo_ok X G (c.fact 46 (f := .glo "_law_rule") rfl)
  have g__law_run : mg "_law_run" = some (.ref (He.ga K "_law_run")) := He.glo_ok X G (c.fact 47 (f := .glo "_law_run") rfl)
  have g__law_asked : mg "_law_asked" = some (.ref (He.ga K "_law_asked")) := He.glo_ok X G (c.fact 48 (f := .glo "_law_asked") rfl)
  have g_law : mg "law" = some (.ref (He.ga K "law")) := He.glo_ok X G (c.fact 49 (f := .glo "law") rfl)
  have g_Watcher : mg "Watcher" = some (.ref (He.ga K "Watcher")) := He.glo_ok X G (c.fact 50 (f := .glo "Watcher") rfl)
  have cl_Watcher : Cls K (He.ga K "Watcher") := He.cls_ok (c.fact 51 (f := .cls "Watcher") rfl)
  have mk_Watcher := He.mkr_ok (c.fact 52 (f := .mkr "Watcher") rfl)
  have na_Watcher_rule := He.noat_ok (c.fact 53 (f := .noat "Watcher" "rule") rfl)
  have na_Watcher_kept := He.noat_ok (c.fact 54 (f := .noat "Watcher" "kept") rfl)
  have me_Watcher_hear := He.meth_ok (c.fact 55 (f := .meth "Watcher" "hear") rfl)
  have g_Late : mg "Late" = some (.ref (He.ga K "Late")) := He.glo_ok X G (c.fact 56 (f := .glo "Late") rfl)
  have cl_Late : Cls K (He.ga K "Late") := He.cls_ok (c.fact 57 (f := .cls "Late") rfl)
  have mk_Late := He.mkr_ok (c.fact 58 (f := .mkr "Late") rfl)
  have na_Late_line := He.noat_ok (c.fact 59 (f := .noat "Late" "line") rfl)
  have na_Late_rule := He.noat_ok (c.fact 60 (f := .noat "Late" "rule") rfl)
  have na_Late_known := He.noat_ok (c.fact 61 (f := .noat "Late" "known") rfl)
  have me_Late_longest := He.meth_ok (c.fact 62 (f := .meth "Late" "longest") rfl)
  obtain ⟨fd_need_line, F_need_line⟩ := c.def_ 0 (d := d_need_line) rfl
  have b_need_line : Binds K fd_need_line ["line"] [] := FunD.bindsN (ps := ["line"]) F_need_line fun _ _ _ _ _ _ us hl => match us, hl with | [_], _ => rfl
  obtain ⟨fd_is_rule, F_is_rule⟩ := c.def_ 1 (d := d_is_rule) rfl
  have b_is_rule : Binds K fd_is_rule ["rule"] [] := FunD.bindsN (ps := ["rule"]) F_is_rule fun _ _ _ _ _ _ us hl => match us, hl with | [_], _ => rfl
  obtain ⟨fd_need_rule, F_need_rule⟩ := c.def_ 2 (d := d_need_rule) rfl
  have b_need_rule : Binds K fd_need_rule ["rule"] [] := FunD.bindsN (ps := ["rule"]) F_need_rule fun _ _ _ _ _ _ us hl => match us, hl with | [_], _ => rfl
  obtain ⟨fd_need_heard, F_need_heard⟩ := c.def_ 3 (d := d_need_heard) rfl
  have b_need_heard : Binds K fd_need_heard ["heard"] [] := FunD.bindsN (ps := ["heard"]) F_need_heard fun _ _ _ _ _ _ us hl => match us, hl with | [_], _ => rfl
  obtain ⟨fd_next_state, F_next_state⟩ := c.def_ 4 (d := d_next_state) rfl
  have b_next_state : Binds K fd_next_state ["rule", "state", "many"] [] := FunD.bindsN (ps := ["rule", "state", "many"]) F_next_state fun _ _ _ _ _ _ us hl => match us, hl with | [_, _, _], _ => rfl
  obtain ⟨fd_first_state, F_first_state⟩ := c.def_ 5 (d := d_first_state) rfl
  have b_first_state : Binds K fd_first_state ["rule"] [] := FunD.bindsN (ps := ["rule"]) F_first_state fun _ _ _ _ _ _ us hl => match us, hl with | [_], _ => rfl
  obtain ⟨fd_is_gone, F_is_gone⟩ := c.def_ 6 (d := d_is_gone) rfl
  have b_is_gone : Binds K fd_is_gone ["rule", "state"] [] := FunD.bindsN (ps := ["rule", "state"]) F_is_gone fun _ _ _ _ _ _ us hl => match us, hl with | [_, _], _ => rfl
  obtain ⟨fd_Watcher___init__, F_Watcher___init__⟩ := c.def_ 7 (d := d_Watcher___init__) rfl
  have b_Watcher___init__ : Binds K fd_Watcher___init__ ["self", "rule"] [] := FunD.bindsN (ps := ["self", "rule"]) F_Watcher___init__ fun _ _ _ _ _ _ us hl => match us, hl with | [_, _], _ => rfl
  obtain ⟨fd_Watcher_hear, F_Watcher_hear⟩ := c.def_ 8 (d := d_Watcher_hear) rfl
  have b_Watcher_hear : Binds K fd_Watcher_hear ["self", "many"] [] := FunD.bindsN (ps := ["self", "many"]) F_Watcher_hear fun _ _ _ _ _ _ us hl => match us, hl with | [_, _], _ => rfl
  obtain ⟨fd_told, F_told⟩ := c.def_ 9 (d := d_told) rfl
  have b_told : Binds K fd_told ["rule", "heard"] [] := FunD.bindsN (ps := ["rule", "heard"]) F_told fun _ _ _ _ _ _ us hl => match us, hl with | [_, _], _ => rfl
  obtain ⟨fd_turns, F_turns⟩ := c.def_ 10 (d := d_turns) rfl
  have b_turns : Binds K fd_turns ["rule", "heard"] [] := FunD.bindsN (ps := ["rule", "heard"]) F_turns fun _ _ _ _ _ _ us hl => match us, hl with | [_, _], _ => rfl
  obtain ⟨fd_begun, F_begun⟩ := c.def_ 11 (d := d_begun) rfl
  have b_begun : Binds K fd_begun ["line", "state"] [] := FunD.bindsN (ps := ["line", "state"]) F_begun fun _ _ _ _ _ _ us hl => match us, hl with | [_, _], _ => rfl
  obtain ⟨fd_heard_of, F_heard_of⟩ := c.def_ 12 (d := d_heard_of) rfl
  have b_heard_of : Binds K fd_heard_of ["line", "ages"] [] := FunD.bindsN (ps := ["line", "ages"]) F_heard_of fun _ _ _ _ _ _ us hl => match us, hl with | [_, _], _ => rfl
  obtain ⟨fd_moves, F_moves⟩ := c.def_ 13 (d := d_moves) rfl
  have b_moves : Binds K fd_moves ["line", "state"] [] := FunD.bindsN (ps := ["line", "state"]) F_moves fun _ _ _ _ _ _ us hl => match us, hl with | [_, _], _ => rfl
  obtain ⟨fd_may, F_may⟩ := c.def_ 14 (d := d_may) rfl
  have b_may : Binds K fd_may ["line", "heard"] [] := FunD.bindsN (ps := ["line", "heard"]) F_may fun _ _ _ _ _ _ us hl => match us, hl with | [_, _], _ => rfl
  obtain ⟨fd_all_standing, F_all_standing⟩ := c.def_ 15 (d := d_all_standing) rfl
  have b_all_standing : Binds K fd_all_standing ["line", "rule"] [] := FunD.bindsN (ps := ["line", "rule"]) F_all_standing fun _ _ _ _ _ _ us hl => match us, hl with | [_, _], _ => rfl
  obtain ⟨fd_false_row, F_false_row⟩ := c.def_ 16 (d := d_false_row) rfl
  have b_false_row : Binds K fd_false_row ["line", "rule"] [] := FunD.bindsN (ps := ["line", "rule"]) F_false_row fun _ _ _ _ _ _ us hl => match us, hl with | [_, _], _ => rfl
  obtain ⟨fd_Late___init__, F_Late___init__⟩ := c.def_ 17 (d := d_Late___init__) rfl
  have b_Late___init__ : Binds K fd_Late___init__ ["self", "line", "rule"] [] := FunD.bindsN (ps := ["self", "line", "rule"]) F_Late___init__ fun _ _ _ _ _ _ us hl => match us, hl with | [_, _, _], _ => rfl
  obtain ⟨fd_Late_longest, F_Late_longest⟩ := c.def_ 18 (d := d_Late_longest) rfl
  have b_Late_longest : Binds K fd_Late_longest ["self", "ages", "kept"] [] := FunD.bindsN (ps := ["self", "ages", "kept"]) F_Late_longest fun _ _ _ _ _ _ us hl => match us, hl with | [_, _, _], _ => rfl
  obtain ⟨fd_latest, F_latest⟩ := c.def_ 19 (d := d_latest) rfl
  have b_latest : Binds K fd_latest ["line", "rule"] [] := FunD.bindsN (ps := ["line", "rule"]) F_latest fun _ _ _ _ _ _ us hl => match us, hl with | [_, _], _ => rfl
  obtain ⟨fd_chosen, F_chosen⟩ := c.def_ 20 (d := d_chosen) rfl
  have b_chosen : Binds K fd_chosen ["line", "rules"] [] := FunD.bindsN (ps := ["line", "rules"]) F_chosen fun _ _ _ _ _ _ us hl => match us, hl with | [_, _], _ => rfl
  obtain ⟨fd_written, F_written⟩ := c.def_ 21 (d := d_written) rfl
  have b_written : Binds K fd_written ["heard"] [] := FunD.bindsN (ps := ["heard"]) F_written fun _ _ _ _ _ _ us hl => match us, hl with | [_], _ => rfl
  obtain ⟨fd_read, F_read⟩ := c.def_ 22 (d := d_read) rfl
  have b_read : Binds K fd_read ["text"] [] := FunD.bindsN (ps := ["text"]) F_read fun _ _ _ _ _ _ us hl => match us, hl with | [_], _ => rfl
  obtain ⟨fd__law_dice, F__law_dice⟩ := c.def_ 23 (d := d__law_dice) rfl
  have b__law_dice : Binds K fd__law_dice ["_law_script", "_law_k"] [] := FunD.bindsN (ps := ["_law_script", "_law_k"]) F__law_dice fun _ _ _ _ _ _ us hl => match us, hl with | [_, _], _ => rfl
  obtain ⟨fd__law_off, F__law_off⟩ := c.def_ 24 (d := d__law_off) rfl
  have b__law_off : Binds K fd__law_off ["_law_d", "_law_most"] [] := FunD.bindsN (ps := ["_law_d", "_law_most"]) F__law_off fun _ _ _ _ _ _ us hl => match us, hl with | [_, _], _ => rfl
  obtain ⟨fd__law_alike, F__law_alike⟩ := c.def_ 25 (d := d__law_alike) rfl
  have b__law_alike : Binds K fd__law_alike ["_law_found", "_law_due"] [] := FunD.bindsN (ps := ["_law_found", "_law_due"]) F__law_alike fun _ _ _ _ _ _ us hl => match us, hl with | [_, _], _ => rfl
  obtain ⟨fd__law_line, F__law_line⟩ := c.def_ 26 (d := d__law_line) rfl
  have b__law_line : Binds K fd__law_line ["_law_d"] [] := FunD.bindsN (ps := ["_law_d"]) F__law_line fun _ _ _ _ _ _ us hl => match us, hl with | [_], _ => rfl
  obtain ⟨fd__law_rule, F__law_rule⟩ := c.def_ 27 (d := d__law_rule) rfl
  have b__law_rule : Binds K fd__law_rule ["_law_d"] [] := FunD.bindsN (ps := ["_law_d"]) F__law_rule fun _ _ _ _ _ _ us hl => match us, hl with | [_], _ => rfl
  obtain ⟨fd__law_run, F__law_run⟩ := c.def_ 28 (d := d__law_run) rfl
  have b__law_run : Binds K fd__law_run ["_law_d", "_law_line_here", "_law_there", "_law_more"] [] := FunD.bindsN (ps := ["_law_d", "_law_line_here", "_law_there", "_law_more"]) F__law_run fun _ _ _ _ _ _ us hl => match us, hl with | [_, _, _, _], _ => rfl
  obtain ⟨fd__law_asked, F__law_asked⟩ := c.def_ 29 (d := d__law_asked) rfl
  have b__law_asked : Binds K fd__law_asked ["_law_kind", "_law_line_here", "_law_rule_here", "_law_heard"] [] := FunD.bindsN (ps := ["_law_kind", "_law_line_here", "_law_rule_here", "_law_heard"]) F__law_asked fun _ _ _ _ _ _ us hl => match us, hl with | [_, _, _, _], _ => rfl
  obtain ⟨fd_law, F_law⟩ := c.def_ 30 (d := d_law) rfl
  have b_law : Binds K fd_law ["_law_script"] [] := FunD.bindsN (ps := ["_law_script"]) F_law fun _ _ _ _ _ _ us hl => match us, hl with | [_], _ => rfl
  cases hfa.symm.trans g_law
  have b := FunD.bindsA (ps := ["_law_script"]) F_law fun _ _ _ _ _ _ us hl => match us, hl with | [_], _ => rfl
  refine ⟨fd_law, fun s v => b s [v] rfl, fun base _ _ => ?_⟩
  have h__law_off : Has P w K mg base 1 "_law_off" p__law_off spOff := ⟨_, _, g__law_off, F__law_off.kp, b__law_off, ok__law_off F__law_off g_len⟩
  have h__law_dice : Has P w K mg base 1 "_law_dice" p__law_dice (spDice K) := ⟨_, _, g__law_dice, F__law_dice.kp, b__law_dice, ok__law_dice F__law_dice g_abs⟩
  have h__law_alike : Has P w K mg base 4 "_law_alike" p__law_alike (spAlike K 3) := ⟨_, _, g__law_alike, F__law_alike.kp, b__law_alike, ok__law_alike F__law_alike b__law_alike g__law_alike g_isinstance g_bool g_int g_str g_tuple g_list g_len g_all g_range 4⟩
  have h__law_line : Has P w K mg base 2 "_law_line" p__law_line spLine := ⟨_, _, g__law_line, F__law_line.kp, b__law_line, ok__law_line F__law_line g_int h__law_off⟩
  have h__law_rule : Has P w K mg base 2 "_law_rule" p__law_rule spRule := ⟨_, _, g__law_rule, F__law_rule.kp, b__law_rule, ok__law_rule F__law_rule h__law_off⟩
  have h__law_run : Has P w K mg base 2 "_law_run" p__law_run (spRun K) := ⟨_, _, g__law_run, F__law_run.kp, b__law_run, ok__law_run F__law_run g_len g_range h__law_off⟩
  have h_is_rule : Has P w K mg base 1 "is_rule" p_is_rule (spIsRule K) := ⟨_, _, g_is_rule, F_is_rule.kp, b_is_rule, ok_is_rule F_is_rule g_len g_MOST_SILENT g_MOST_WIDE g_MOST_MANY⟩
  have h_need_rule : Has P w K mg base 2 "need_rule" p_need_rule (spNeedRule K) := ⟨_, _, g_need_rule, F_need_rule.kp, b_need_rule, ok_need_rule F_need_rule h_is_rule⟩
  have h_first_state : Has P w K mg base 1 "first_state" p_first_state (spFirst K) := ⟨_, _, g_first_state, F_first_state.kp, b_first_state, ok_first_state F_first_state⟩
  have h_next_state : Has P w K mg base 1 "next_state" p_next_state (spNext K) := ⟨_, _, g_next_state, F_next_state.kp, b_next_state, ok_next_state F_next_state g_min⟩
  have h_is_gone : Has P w K mg base 1 "is_gone" p_is_gone (spGone K) := ⟨_, _, g_is_gone, F_is_gone.kp, b_is_gone, ok_is_gone F_is_gone g_len g_sum⟩
  have h_need_line : Has P w K mg base 1 "need_line" p_need_line (spNeedLine K) := ⟨_, _, g_need_line, F_need_line.kp, b_need_line, ok_need_line F_need_line g_MOST_EACH g_MOST_LATE g_MOST_LOST⟩
  have h_begun : Has P w K mg base 1 "begun" p_begun (spBegun K) := ⟨_, _, g_begun, F_begun.kp, b_begun, ok_begun F_begun⟩
  have h_heard_of : Has P w K mg base 1 "heard_of" p_heard_of (spHeardOf K) := ⟨_, _, g_heard_of, F_heard_of.kp, b_heard_of, ok_heard_of F_heard_of g_range g_len g_tuple⟩
  have h_moves : Has P w K mg base 2 "moves" p_moves (spMoves K) := ⟨_, _, g_moves, F_moves.kp, b_moves, ok_moves F_moves h_begun h_heard_of⟩
  have h_all_standing : Has P w K mg base 3 "all_standing" p_all_standing (spAll P w K) := ⟨_, _, g_all_standing, F_all_standing.kp, b_all_standing, ok_all_standing F_all_standing g_FIRST hFI h_first_state h_moves h_next_state h_is_gone⟩
  have T : WTxt K (He.ga K "Watcher") := ⟨cl_Watcher, na_Watcher_rule, na_Watcher_kept⟩
  have h_Watcher : HasC P w K mg base 3 "Watcher" (He.ga K "Watcher") p_Watcher___init__ (spWInit K (He.ga K "Watcher")) := ⟨_, _, mk_Watcher, g_Watcher, b_Watcher___init__, ok_Watcher___init__ F_Watcher___init__ T h_need_rule h_first_state⟩
  have h_Watcher_hear : HasM P w K mg base 2 (He.ga K "Watcher") "hear" p_Watcher_hear (spHear K (He.ga K "Watcher")) := ⟨_, _, cl_Watcher, me_Watcher_hear, b_Watcher_hear, ok_Watcher_hear F_Watcher_hear T h_next_state h_is_gone⟩
  have h_need_heard : Has P w K mg base 1 "need_heard" p_need_heard (spNeedHeard K) := ⟨_, _, g_need_heard, F_need_heard.kp, b_need_heard, ok_need_heard F_need_heard g_enumerate g_MOST_MOMENTS g_MOST_HEARD⟩
  have h_told : Has P w K mg base 5 "told" p_told (spTold K) := ⟨_, _, g_told, F_told.kp, b_told, ok_told F_told h_need_rule h_need_heard h_Watcher h_Watcher_hear⟩
  have h_turns : Has P w K mg base 6 "turns" p_turns (spTurns K) := ⟨_, _, g_turns, F_turns.kp, b_turns, ok_turns F_turns g_enumerate h_told⟩
  have h_may : Has P w K mg base 3 "may" p_may (spMay K) := ⟨_, _, g_may, F_may.kp, b_may, ok_may F_may g_len g_FIRST hFI h_need_line h_need_heard h_moves⟩
  have h_false_row : Has P w K mg base 4 "false_row" p_false_row (spFalse K) := ⟨_, _, g_false_row, F_false_row.kp, b_false_row, ok_false_row F_false_row h_need_line h_need_rule h_all_standing⟩
  have TL : LTxt K (He.ga K "Late") := ⟨cl_Late, na_Late_line, na_Late_rule, na_Late_known⟩
  have h_Late : HasC P w K mg base 1 "Late" (He.ga K "Late") p_Late___init__ (spLInit P w K (He.ga K "Late")) := ⟨_, _, mk_Late, g_Late, b_Late___init__, ok_Late___init__ F_Late___init__ TL⟩
  have h_Late_longest : HasM P w K mg base 17 (He.ga K "Late") "longest" p_Late_longest (spLongN P w K (He.ga K "Late") 16) := ⟨_, _, cl_Late, me_Late_longest, b_Late_longest, ok_Late_longest F_Late_longest b_Late_longest TL me_Late_longest h_heard_of h_next_state h_is_gone 16⟩
  have h_latest : Has P w K mg base 18 "latest" p_latest (spLatest K) := ⟨_, _, g_latest, F_latest.kp, b_latest, ok_latest F_latest g_len h_need_line h_need_rule h_Late h_Late_longest h_all_standing⟩
  have h_chosen : Has P w K mg base 19 "chosen" p_chosen (spChosen K) := ⟨_, _, g_chosen, F_chosen.kp, b_chosen, ok_chosen F_chosen g_enumerate h_need_line h_is_rule h_false_row h_latest⟩
  have h_written : Has P w K mg base 2 "written" p_written (spWritten K) := ⟨_, _, g_written, F_written.kp, b_written, ok_written F_written g_str h_need_heard⟩
  have h_read : Has P w K mg base 2 "read" p_read spRead := ⟨_, _, g_read, F_read.kp, b_read, ok_read F_read g_enumerate g_int g_FIGURES h_need_heard⟩
  have h__law_asked : Has P w K mg base 20 "_law_asked" p__law_asked (spAsked K) := ⟨_, _, g__law_asked, F__law_asked.kp, b__law_asked, ok__law_asked F__law_asked g_list h_told h_turns h_may h_false_row h_latest h_chosen h_written h_read⟩
  exact (ok_law F_law g_range g_list g_isinstance h__law_dice h__law_off h__law_line h__law_rule h__law_run h__law_asked h__law_alike h_Watcher h_Watcher_hear).mono (by decide)
end Bw
open PySem PySem.W PySem.Calls PyProof.Rows
set_option maxRecDepth 100000 in
set_option maxHeartbeats 0 in
theorem PySem.Challenge.cw_beatwatch_k13_asked_again_holds : PySem.Challenge.rw_beatwatch_k13_asked_again.Holds := by
  w_on; o_law
  refine HandSHeadRun.head_any (r := OpenLaw.row PySem.Challenge.rw_beatwatch_k13_asked_again) (q := view (OpenLaw.row PySem.Challenge.rw_beatwatch_k13_asked_again).prog [49]) (H := Bw.hk) (ob := Bw.ob) (M := 20000) (loose := Bw.loose) (d := HandSHeadRun.topDef (OpenLaw.row PySem.Challenge.rw_beatwatch_k13_asked_again).prog 49) (kwd := []) Bw.ob_eq
    (by kernel_rfl) (fun s => by kernel_rfl) Bw.run (by kernel_rfl) (by kernel_rfl) (by kernel_rfl) (by rfl) (by first | assumption | decide +kernel) (by decide +kernel) ⟨rfl, rfl, rfl, rfl, rfl, by decide +kernel⟩ ?hw ?hc
  case hw => w_witness2
  case hc =>
    refine L2.walk_ofE (l := PySem.Challenge.rw_beatwatch_k13_asked_again) (n := 63) (k := 22) (x := "_law_script") (CX := L2.CX0) rfl (by decide) (by kernel_rfl) ⟨rfl, by decide, by decide⟩ ?F (fun _ _ _ _ z => z)
    intro w mg fa h Y G hmg0
    obtain ⟨K, KX, c⟩ := Y
    have hmg : mg ("law" : PySem.Str) = some (.ref fa) := by
      have e : (HandSHeadRun.topDef (OpenLaw.row PySem.Challenge.rw_beatwatch_k13_asked_again).prog 49).name = ("law" : PySem.Str) := by kernel_rfl
      rw [← e]
      exact hmg0
    obtain ⟨fd, hb, hF⟩ := Bw.facts (P := (PySem.Challenge.rw_beatwatch_k13_asked_again).prog) (w := w) KX G hmg c
    exact ⟨K, fd, Bw.spLaw K, KX, hb, fun H a ns hl _ hS => ⟨a, ns, rfl, hS, hl, fun _ => rfl⟩, hF⟩

