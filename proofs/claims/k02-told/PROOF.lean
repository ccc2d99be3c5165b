import PyProof.Rows.All
import Wide.All
import OpenK.AllK
import Wide.FinOn
import HandS.ForMost
import HandS.TupAny
import HandS.TupMul
import HandS.IsInst
import HandS.Defaults
import HandS.Evl
import KE.KTupSum
import KE.KStateDown
import HandS.Head0
import HandS.Head1
import HandS.Head2
import HandS.HeadEnd
import HandS.HeadHook1
import HandS.HeadHook2
import PySem.Challenge.RW_beatwatch_k02_told
set_option Elab.async false
set_option linter.all false
set_option maxRecDepth 100000
set_option maxHeartbeats 4000000
namespace Bw
open PySem PySem.Spec PyProof.Rows L2
/-! ### own rules -/
section
variable {X : Cx}
/-- sum of a tuple of ints -/
def rSumT (K : PySem.W.Frag) : List V → Hp → VK → Prop := fun vs H Q => ∃ (a : Addr) (ns : List Int), vs = [V.ref a] ∧ SqT K H a (ns.map V.int) ∧ Q (.int ns.sum) H
theorem cr_sumT (hc : X.calm = true) : CallR X (.builtin "sum") (rSumT X.K) := by
  intro pins s σ H vs us Q I r h
  obtain ⟨a, ns, rfl, hs, q⟩ := h
  obtain ⟨its, rv, hl, _⟩ := I.tuple hs
  rw [Vals.ref1 r]
  have hi := rv.ints
  obtain ⟨xs, e⟩ := hi.allInts.items
  have hn : numsOf (intItems xs).toList = ns := by rw [← e]; exact hi.numsOf
  rw [nums_intItems] at hn
  rw [e] at hl
  refine PySem.W.ktm_sumG (I.ok.hd hc) hl fun h' tk t' hk => ?_
  have z : EP X pins σ Q (.int ns.sum t') { s with heap := h', toks := tk } := ⟨.int _, H, I.kept hk, ⟨_, rfl⟩, q⟩
  rw [preSum_eq, List.take_of_length_le (by simp), hn]
  exact z
end
section
variable {X : Cx}
theorem pe_gI {x : Str} {i : Int} {t : Tok} {pos : Pos} (hg : Gl X x) (hm : X.mg x = some (.int i t)) (hd : (x == ("__debug__" : Str)) = false := by decide) : PE X (.Name x pos) (tC (.int i)) := pe_glob (v := .int i) hg hm ⟨_, rfl⟩ hd
theorem pe_gS {x : Str} {i : Str} {t : Tok} {pos : Pos} (hg : Gl X x) (hm : X.mg x = some (.str i t)) (hd : (x == ("__debug__" : Str)) = false := by decide) : PE X (.Name x pos) (tC (.str i)) := pe_glob (v := .str i) hg hm ⟨_, rfl⟩ hd
theorem pe_gR {x : Str} {a : Addr} {pos : Pos} (hg : Gl X x) (hm : X.mg x = some (.ref a)) (hd : (x == ("__debug__" : Str)) = false := by decide) : PE X (.Name x pos) (tC (.ref a)) := pe_glob (v := .ref a) hg hm rfl hd
end
/-! ### tests -/
theorem iteD {c A B : Prop} [Decidable c] (h1 : c → A) (h2 : ¬ c → B) : if decide c = true then A else B := by
  by_cases h : c
  · rw [decide_eq_true h]
    exact iteT (h1 h)
  · rw [decide_eq_false h]
    exact iteF (h2 h)
theorem iteN {c A B : Prop} [Decidable c] (h1 : ¬ c → A) (h2 : c → B) : if (!decide c) = true then A else B := by
  by_cases h : c
  · rw [decide_eq_true h]
    exact iteF (h2 h)
  · rw [decide_eq_false h]
    exact iteT (h1 h)
theorem iteB {c : Bool} {A B : Prop} (h1 : c = true → A) (h2 : c = false → B) : if c = true then A else B := by
  cases c with
  | true => exact iteT (h1 rfl)
  | false => exact iteF (h2 rfl)
theorem nat_at {i n : Nat} (h : i < n) (hn : n ≤ sizeLine) : seqIndex? (i : Int) n = some i := by
  have h1 : ixN n (i : Int) = some i := by
    unfold ixN
    rw [if_pos (by omega), if_pos (by omega)]
    rfl
  exact (ixN_seq h1).1
theorem ixN_nat {i n : Nat} (h : i < n) : ixN n (i : Int) = some i := by
  unfold ixN
  rw [if_pos (by omega), if_pos (by omega)]
  rfl
/-! ### a def by its name -/
structure Has (P : Program) (w : World) (K : PySem.W.Frag) (mg : Str → Option Value) (base : Heap) (k : Nat) (x : Str) (ps : List Str) (sp : Sp) : Prop where
  ex : ∃ f fd, mg x = some (.ref f) ∧ PySem.W.keepIn K (.ref f) = true ∧ Binds K fd ps [] ∧ FnOk P w K mg base CX0 k f fd ps sp
theorem pe_fn {X : Cx} {j k : Nat} {x : Str} {ps : List Str} {sp : Sp} {e : Expr} {es : List Expr} {t : TA} {p pos : Pos} (h : Has X.prog X.w X.K X.mg X.base j x ps sp) (hr : Room k X.A) (hg : Gl X x) (ha : PA X (e :: es) t)
    (hjk : j ≤ k := by decide) (hdb : (x == ("__debug__" : Str)) = false := by decide) (he : starEach (e :: es) X.env = (false, eval e X.env) :: starEach es X.env := by rfl) (hpl : (backTo pos (starEach es X.env)).any (·.1) = false := by rfl) :
    PE X (.Call (.Name x p) (e :: es) [] pos) (tCall sp [] E0 t) := by
  obtain ⟨f, fd, hm, hk, hb, F⟩ := h.ex
  exact pe_call F (hr.mono hjk) hg hm hk hb .nil pass0 ha hdb he hpl
/-- a method of a class by its name -/
structure HasM (P : Program) (w : World) (K : PySem.W.Frag) (mg : Str → Option Value) (base : Heap) (k : Nat) (C : Addr) (m : Str) (ps : List Str) (sp : Sp) : Prop where
  ex : ∃ f fd, Cls K C ∧ Meth K C m f ∧ Binds K fd ps [] ∧ FnOk P w K mg base CX0 k f fd ps sp
theorem pe_mth {X : Cx} {j k : Nat} {C : Addr} {m : Str} {ps : List Str} {sp : Sp} {o e : Expr} {es : List Expr} {ta : TE} {t : TA} {apos pos : Pos} {pl : Sem Bool} (h : HasM X.prog X.w X.K X.mg X.base j C m ps sp) (ho : PE X o ta) (hr : Room k X.A) (ha : PA X (e :: es) t)
    (hjk : j ≤ k := by decide) (hst : starEach (e :: es) X.env = (false, eval e X.env) :: starEach es X.env := by rfl) (hpl : (backTo pos (starEach es X.env)).any (·.1) = false := by rfl)
    (ht : eval (.Call (.Attribute o m apos) (e :: es) [] pos) X.env = (do
      let ov ← eval o X.env
      standAt apos.atName
      let (f, first) ← holding [ov] (getMethod ov m pl)
      callWith pos f first (backTo pos (starEach (e :: es) X.env)) (backToKw pos (keywordEach [] X.env))) := by rfl) :
    PE X (.Call (.Attribute o m apos) (e :: es) [] pos) (tMeth C m sp [] E0 ta t) := by
  obtain ⟨f, fd, hc, hm, hb, F⟩ := h.ex
  exact pe_meth ho hc hm F (hr.mono hjk) hb .nil pass0 ha hst hpl ht
/-- a class that is made by its __init__ -/
structure HasC (P : Program) (w : World) (K : PySem.W.Frag) (mg : Str → Option Value) (base : Heap) (k : Nat) (x : Str) (C : Addr) (ps : List Str) (sp : Sp) : Prop where
  ex : ∃ f fd, Mk K C f ∧ mg x = some (.ref C) ∧ Binds K fd ps [] ∧ FnOk P w K mg base CX0 k f fd ps sp
theorem pe_new {X : Cx} {j k : Nat} {x : Str} {C : Addr} {ps : List Str} {sp : Sp} {e : Expr} {es : List Expr} {t : TA} {p pos : Pos} (h : HasC X.prog X.w X.K X.mg X.base j x C ps sp) (hr : Room k X.A) (hg : Gl X x) (ha : PA X (e :: es) t)
    (hjk : j + 1 ≤ k := by decide) (hdb : (x == ("__debug__" : Str)) = false := by decide) (he : starEach (e :: es) X.env = (false, eval e X.env) :: starEach es X.env := by rfl) (hpl : (backTo pos (starEach es X.env)).any (·.1) = false := by rfl) :
    PE X (.Call (.Name x p) (e :: es) [] pos) (tMake C sp [] E0 t) := by
  obtain ⟨f, fd, M, hm, hb, F⟩ := h.ex
  exact pe_make M F (hr.mono hjk) hg hm hb .nil pass0 ha hdb he hpl
/-- a def of the text -/
abbrev FnP (K : PySem.W.Frag) (x : Str) (st : Stmt) (f : Addr) (fd : FuncData) : Prop := FunD K x x (defArgs st) (defBody st) (defScope st) [] [] f fd
abbrev FnQ (K : PySem.W.Frag) (x q : Str) (st : Stmt) (f : Addr) (fd : FuncData) : Prop := FunD K x q (defArgs st) (defBody st) (defScope st) [] [] f fd
end Bw

set_option Elab.async false
set_option linter.all false
set_option maxRecDepth 100000
set_option maxHeartbeats 4000000
namespace Bw
open PySem PySem.Spec PyProof.Rows L2
/-! ### heaps -/
theorem _root_.L2.Same.tupB {K : PySem.W.Frag} {H H' : Hp} {a : Addr} {xs : List V} (e : Same H H') (h : SqT K H a xs) : SqT K H' a xs := by
  rcases h with (h | ⟨o, h⟩) | h
  · exact .inl (.inl (e _ _ h))
  · exact .inl (.inr ⟨o, e _ _ h⟩)
  · exact .inr h
theorem _root_.L2.Same.newB {H : Hp} {p : Addr} {o : HO} (h : H p = none) : Same H (upd H p o) := fun a u e => by
  rw [upd_ne (ne_of_none e h)]
  exact e
theorem _root_.L2.Same.moreB {H H' : Hp} {p : Addr} {o : HO} (e : Same H H') (h : H' p = none) : Same H (upd H' p o) := e.trans (Same.newB h)
/-- an object that H doesn't know may change -/
theorem _root_.L2.Same.mutB {H H' : Hp} {p : Addr} {o : HO} (e : Same H H') (h : H p = none) : Same H (upd H' p o) := fun a u ha => by
  rw [upd_ne (ne_of_none ha h)]
  exact e a u ha
/-! ### the draws -/
def DiceL (xs : List V) : Prop := ∃ (a b : Int) (r : List Int), xs = V.int a :: V.int b :: r.map V.int
def DiceAt (H : Hp) (d : Addr) : Prop := ∃ xs, H d = some (.lst xs) ∧ DiceL xs
/-- from H to H' all is kept but the draws at d -/
structure Dr (d : Addr) (H H' : Hp) : Prop where
  dice : DiceAt H' d
  keep : ∀ b o, b ≠ d → H b = some o → H' b = some o
section
variable {d : Addr} {H H1 H2 : Hp}
theorem Dr.refl (h : DiceAt H d) : Dr d H H := ⟨h, fun _ _ _ e => e⟩
theorem Dr.trans (a : Dr d H H1) (b : Dr d H1 H2) : Dr d H H2 := ⟨b.dice, fun c o n e => b.keep c o n (a.keep c o n e)⟩
theorem DiceAt.ne {p : Addr} (h : DiceAt H d) (e : H p = none) : p ≠ d := by
  rintro rfl
  obtain ⟨xs, h1, _⟩ := h
  rw [h1] at e
  cases e
theorem DiceAt.same (h : DiceAt H d) (s : Same H H1) : DiceAt H1 d := let ⟨xs, h1, h2⟩ := h; ⟨xs, s _ _ h1, h2⟩
theorem Dr.same (a : Dr d H H1) (s : Same H1 H2) : Dr d H H2 := ⟨a.dice.same s, fun c o n e => s c o (a.keep c o n e)⟩
theorem Dr.ofSame (a : DiceAt H d) (s : Same H H1) : Dr d H H1 := (Dr.refl a).same s
theorem Dr.new {p : Addr} {o : HO} (a : Dr d H H1) (e : H1 p = none) : Dr d H (upd H1 p o) := a.same (Same.newB e)
theorem Dr.free {p : Addr} (a : Dr d H H1) (e : H1 p = none) : H p = none := by
  cases h : H p with
  | none => rfl
  | some o => rw [a.keep p o (a.dice.ne e) h] at e; cases e
theorem Dr.tup {K : PySem.W.Frag} {p : Addr} {xs : List V} (a : Dr d H H1) (hd : DiceAt H d) (h : SqT K H p xs) : SqT K H1 p xs := by
  obtain ⟨ys, h1, _⟩ := hd
  rcases h with (h | ⟨o, h⟩) | h
  · exact .inl (.inl (a.keep _ _ (ne_of h h1 (by intro z; cases z)) h))
  · exact .inl (.inr ⟨o, a.keep _ _ (ne_of h h1 (by intro z; cases z)) h⟩)
  · exact .inr h
theorem Dr.set {xs ys : List V} (h : H d = some (.lst xs)) (hy : DiceL ys) : Dr d H (upd H d (.lst ys)) := ⟨⟨ys, upd_same, hy⟩, fun b o n e => by rw [upd_ne n]; exact e⟩
end
def spDice (K : PySem.W.Frag) : Sp := fun vs H Q _ => ∃ (a : Addr) (k : Int) (ns : List Int), vs = [.ref a, .int k] ∧ SqL K H a (ns.map V.int) ∧ ns.length ≤ 63 ∧
  ∀ p H', Same H H' → H p = none → DiceAt H' p → Q (.ref p) H'
def spOff : Sp := fun vs H Q _ => ∃ (d : Addr) (m : Int), vs = [.ref d, .int m] ∧ DiceAt H d ∧ 0 < m ∧ m < 1073741824 ∧ ∀ (r : Int) (H' : Hp), 0 ≤ r → r < m → Dr d H H' → Q (.int r) H'
/-! ### rules -/
inductive Rule where
  | since (n : Nat)
  | few (w m : Nat)
def Rule.ok : Rule → Prop
  | .since n => 1 ≤ n ∧ n ≤ 12
  | .few w m => 1 ≤ w ∧ w ≤ 5 ∧ 1 ≤ m ∧ m ≤ 3
def Rule.vs : Rule → List V
  | .since n => [.str "since", .int n]
  | .few w m => [.str "few", .int w, .int m]
/-- r[1] -/
def Rule.wide : Rule → Nat
  | .since n => n
  | .few w _ => w
theorem since_few : ¬ (("since" : Str) = "few") := by decide +kernel
theorem few_since : ¬ (("few" : Str) = "since") := by decide +kernel
def spRule : Sp := fun vs H Q _ => ∃ (d : Addr), vs = [.ref d] ∧ DiceAt H d ∧ ∀ (r : Rule) (p : Addr) (H' : Hp), r.ok → Dr d H H' → H p = none → H' p = some (.tup r.vs) → Q (.ref p) H'
/-! ### what a watcher keeps -/
def lastN (w : Nat) (l : List Int) : List Int := l.drop (l.length - w)
def nextS : Rule → List Int → Int → List Int
  | .since n, st, many => if many > 0 then [0] else [if st.headD 0 + 1 < (n : Int) then st.headD 0 + 1 else (n : Int)]
  | .few w _, st, many => lastN w (st ++ [many])
def firstS : Rule → List Int
  | .since _ => [0]
  | .few _ _ => []
def goneS : Rule → List Int → Bool
  | .since n, st => decide ((n : Int) ≤ st.headD 0)
  | .few w m, st => decide ((st.length : Int) = (w : Int)) && decide (st.sum < (m : Int))
def StOk : Rule → List Int → Prop
  | .since _, st => ∃ k, st = [k]
  | .few w _, st => st.length ≤ w
theorem stOk_first (r : Rule) : StOk r (firstS r) := by
  cases r with
  | since n => exact ⟨0, rfl⟩
  | few w m => exact Nat.zero_le _
theorem stOk_next (r : Rule) (st : List Int) (many : Int) : StOk r (nextS r st many) := by
  cases r with
  | since n =>
    show ∃ k, (if many > 0 then [0] else [if st.headD 0 + 1 < (n : Int) then st.headD 0 + 1 else (n : Int)]) = [k]
    by_cases h : many > 0
    · rw [if_pos h]
      exact ⟨_, rfl⟩
    · rw [if_neg h]
      exact ⟨_, rfl⟩
  | few w m =>
    show (lastN w (st ++ [many])).length ≤ w
    unfold lastN
    rw [List.length_drop]
    omega
/-- behind what was heard -/
def stOf (r : Rule) (hs : List Int) : List Int := hs.foldl (nextS r) (firstS r)
theorem stOf_snoc (r : Rule) (hs : List Int) (m : Int) : stOf r (hs ++ [m]) = nextS r (stOf r hs) m := by
  unfold stOf
  rw [List.foldl_append]
  rfl
theorem stOk_of (r : Rule) (hs : List Int) : StOk r (stOf r hs) := by
  rcases List.eq_nil_or_concat hs with rfl | ⟨l, a, rfl⟩
  · exact stOk_first r
  · rw [List.concat_eq_append, stOf_snoc]
    exact stOk_next r _ a
/-- the other one is gone by a rule, behind what was heard -/
def goneH : Rule → List Int → Bool
  | .since n, hs => decide (n ≤ hs.length) && decide ((lastN n hs).filter (fun m => decide (0 < m)) = [])
  | .few w m, hs => decide (w ≤ hs.length) && decide ((lastN w hs).sum < (m : Int))
theorem snoc_ind {α : Type} {P : List α → Prop} (h0 : P []) (hs : ∀ l a, P l → P (l ++ [a])) (l : List α) : P l := by
  have key : ∀ n (l : List α), l.length = n → P l := by
    intro n
    induction n with
    | zero => intro l e; rw [List.length_eq_zero_iff.mp e]; exact h0
    | succ n ih =>
      intro l e
      rcases List.eq_nil_or_concat l with rfl | ⟨l', a, rfl⟩
      · exact h0
      · rw [List.concat_eq_append] at e ⊢
        rw [List.length_append] at e
        exact hs l' a (ih l' (by simpa using e))
  exact key _ l rfl
/-- how many moments at the end were silent -/
def quiet : List Int → Nat := fun l => (l.reverse.takeWhile fun m => decide (m ≤ 0)).length
theorem quiet_nil : quiet [] = 0 := rfl
theorem quiet_snoc (l : List Int) (m : Int) : quiet (l ++ [m]) = if m > 0 then 0 else quiet l + 1 := by
  unfold quiet
  rw [List.reverse_append]
  show (List.takeWhile _ (m :: l.reverse)).length = _
  rw [List.takeWhile_cons]
  by_cases h : m > 0
  · rw [if_pos h, if_neg (by simp; omega)]
    rfl
  · rw [if_neg h, if_pos (by simp; omega)]
    rfl
theorem since_is (n : Nat) (hs : List Int) : stOf (.since n) hs = [((min n (quiet hs) : Nat) : Int)] := by
  refine snoc_ind (P := fun hs => stOf (.since n) hs = [((min n (quiet hs) : Nat) : Int)]) ?_ ?_ hs
  · show [(0 : Int)] = _
    rw [quiet_nil, Nat.min_zero]
    rfl
  · intro l a ih
    rw [stOf_snoc, ih, quiet_snoc]
    show (if a > 0 then [0] else [if (((min n (quiet l) : Nat) : Int)) + 1 < (n : Int) then (((min n (quiet l) : Nat) : Int)) + 1 else (n : Int)]) = _
    by_cases h : a > 0
    · rw [if_pos h, if_pos h, Nat.min_zero]
      rfl
    · rw [if_neg h, if_neg h]
      congr 1
      split <;> omega
theorem lastN_len (w : Nat) (l : List Int) : (lastN w l).length = min w l.length := by
  unfold lastN
  rw [List.length_drop]
  omega
theorem lastN_snoc (w : Nat) (l : List Int) (a : Int) (hw : 1 ≤ w) : lastN w (lastN w l ++ [a]) = lastN w (l ++ [a]) := by
  unfold lastN
  rw [List.length_append, List.length_append, List.length_drop, List.drop_append, List.drop_append, List.drop_drop, List.length_drop]
  simp only [List.length_singleton]
  congr 1
  · congr 1
    omega
  · congr 1
    omega
theorem few_is (w m : Nat) (hw : 1 ≤ w) (hs : List Int) : stOf (.few w m) hs = lastN w hs := by
  refine snoc_ind (P := fun hs => stOf (.few w m) hs = lastN w hs) ?_ ?_ hs
  · show ([] : List Int) = lastN w []
    unfold lastN
    rw [List.drop_nil]
  · intro l a ih
    rw [stOf_snoc, ih]
    exact lastN_snoc w l a hw
theorem quiet_le (l : List Int) : quiet l ≤ l.length := by
  refine snoc_ind (P := fun l => quiet l ≤ l.length) ?_ ?_ l
  · exact Nat.le_refl _
  · intro l a ih
    rw [quiet_snoc, List.length_append]
    split <;> simp <;> omega
theorem quiet_iff (n : Nat) (hs : List Int) : n ≤ quiet hs ↔ n ≤ hs.length ∧ (lastN n hs).filter (fun m => decide (0 < m)) = [] := by
  revert n
  refine snoc_ind (P := fun hs => ∀ n, n ≤ quiet hs ↔ n ≤ hs.length ∧ (lastN n hs).filter (fun m => decide (0 < m)) = []) ?_ ?_ hs
  · intro n
    rw [quiet_nil]
    constructor
    · intro h
      refine ⟨h, ?_⟩
      unfold lastN
      rw [List.drop_nil]
      rfl
    · intro h
      exact h.1
  · intro l a ih n
    rw [quiet_snoc, List.length_append, List.length_singleton]
    cases n with
    | zero =>
      constructor
      · intro _
        refine ⟨Nat.zero_le _, ?_⟩
        unfold lastN
        rw [Nat.sub_zero, List.drop_length]
        rfl
      · intro _
        exact Nat.zero_le _
    | succ n =>
      have e : n + 1 ≤ l.length + 1 → lastN (n + 1) (l ++ [a]) = lastN n l ++ [a] := by
        intro h
        unfold lastN
        rw [List.length_append, List.length_singleton, List.drop_append]
        have h1 : l.length + 1 - (n + 1) = l.length - n := by omega
        have h2 : l.length - n - l.length = 0 := by omega
        rw [h1, h2]
        rfl
      by_cases h : a > 0
      · rw [if_pos h]
        constructor
        · intro q
          omega
        · rintro ⟨h1, h2⟩
          rw [e h1, List.filter_append] at h2
          have h3 := (List.append_eq_nil_iff.mp h2).2
          rw [List.filter_cons, if_pos (by simpa using h)] at h3
          cases h3
      · rw [if_neg h]
        have hi := ih n
        constructor
        · intro q
          obtain ⟨h1, h2⟩ := hi.mp (by omega)
          refine ⟨by omega, ?_⟩
          rw [e (by omega), List.filter_append, h2, List.filter_cons, if_neg (by simpa using h)]
          rfl
        · rintro ⟨h1, h2⟩
          rw [e h1, List.filter_append] at h2
          have h3 := hi.mpr ⟨by omega, (List.append_eq_nil_iff.mp h2).1⟩
          omega
theorem gone_is (r : Rule) (hr : r.ok) (hs : List Int) : goneS r (stOf r hs) = goneH r hs := by
  cases r with
  | since n =>
    rw [since_is]
    show decide ((n : Int) ≤ ((min n (quiet hs) : Nat) : Int)) = (decide (n ≤ hs.length) && decide ((lastN n hs).filter (fun m => decide (0 < m)) = []))
    rw [← Bool.decide_and]
    refine decide_eq_decide.mpr ?_
    rw [← quiet_iff]
    omega
  | few w m =>
    rw [few_is w m hr.1]
    show (decide (((lastN w hs).length : Int) = (w : Int)) && decide ((lastN w hs).sum < (m : Int))) = (decide (w ≤ hs.length) && decide ((lastN w hs).sum < (m : Int)))
    congr 1
    refine decide_eq_decide.mpr ?_
    rw [lastN_len]
    omega
/-! ### alike -/
inductive Dn : Nat → PyData → Prop where
  | non (n : Nat) : Dn n .none
  | bool (n : Nat) (b : Bool) : Dn n (.bool b)
  | int (n : Nat) (i : Int) : Dn n (.int i)
  | str (n : Nat) (x : Str) : Dn n (.str x)
  | list (n : Nat) (ds : List PyData) (hl : ds.length ≤ 1000) (h : ∀ d ∈ ds, Dn n d) : Dn (n + 1) (.list ds)
  | tuple (n : Nat) (ds : List PyData) (hl : ds.length ≤ 1000) (h : ∀ d ∈ ds, Dn n d) : Dn (n + 1) (.tuple ds)
def spAlike (K : PySem.W.Frag) (n : Nat) : Sp := fun vs H Q _ => ∃ (x y : V) (D : PyData), vs = [x, y] ∧ Dp K H x D ∧ Dp K H y D ∧ Dn n D ∧ ∀ H', Same H H' → Q (.bl true) H'
def spAlikeN (K : PySem.W.Frag) : Nat → Sp
  | 0 => fun _ _ _ _ => False
  | n + 1 => spAlike K n
theorem Dp.same {K : PySem.W.Frag} {H H' : Hp} (s : Same H H') : ∀ (d : PyData) (v : V), Dp K H v d → Dp K H' v d := by
  intro d v h
  refine Dp.rec (K := K) (H := H) (motive_1 := fun v d _ => Dp K H' v d) (motive_2 := fun vs ds _ => DpAll K H' vs ds) ?_ ?_ ?_ ?_ ?_ ?_ ?_ ?_ h
  · exact .non
  · exact fun b => .bl b
  · exact fun b => .int b
  · exact fun b => .str b
  · exact fun h1 _ h2 => .lst (s.seq h1) h2
  · exact fun h1 _ h2 => .tup (s.tupB h1) h2
  · exact .nil
  · exact fun _ _ h1 h2 => .cons h1 h2
theorem DpAll.len {K : PySem.W.Frag} {H : Hp} : ∀ {vs : List V} {ds : List PyData}, DpAll K H vs ds → vs.length = ds.length
  | _, _, .nil => rfl
  | _, _, .cons _ h => congrArg Nat.succ (DpAll.len h)
theorem DpAll.get {K : PySem.W.Frag} {H : Hp} : ∀ {vs : List V} {ds : List PyData} {i : Nat}, DpAll K H vs ds → i < ds.length → ∃ v d, vs[i]? = some v ∧ ds[i]? = some d ∧ Dp K H v d
  | _, _, _, .nil, h => absurd h (Nat.not_lt_zero _)
  | _, _, 0, .cons h _, _ => ⟨_, _, rfl, rfl, h⟩
  | _, _, i + 1, .cons _ h, hi => DpAll.get (i := i) h (Nat.lt_of_succ_lt_succ hi)
theorem tyx_list {K : PySem.W.Frag} {H : Hp} {a : Addr} {xs : List V} (h : SqL K H a xs) : TyX K H (.ref a) (.type "list") := by
  rcases h with (h | ⟨o, h⟩) | ⟨o, its, n, h, c, _⟩
  · exact .base (.lst h)
  · exact .base (.frz h)
  · exact .kList h c
theorem tyx_tup {K : PySem.W.Frag} {H : Hp} {a : Addr} {xs : List V} (h : SqT K H a xs) : TyX K H (.ref a) (.type "tuple") := by
  rcases h with (h | ⟨o, h⟩) | ⟨o, its, n, h, c, _⟩
  · exact .base (.tup h)
  · exact .fTuple h
  · exact .kTuple h c
theorem rd_isi {K : PySem.W.Frag} {H : Hp} {x : V} {a b : String} {r : Bool} {Q : VK} (ty : TyX K H x (.type a)) (h : kitB a b = some r) (q : Q (.bl r) H) : rIsi K [x, .ty b] H Q := ⟨x, .ty b, _, _, r, rfl, .ty b, ty, kit_ty h, q⟩
theorem qd {c : Prop} [Decidable c] {Q : VK} {H : Hp} (hc : c) (q : Q (.bl true) H) : Q (.bl (decide c)) H := by
  rw [decide_eq_true hc]
  exact q
theorem qb {a b : Bool} {Q : VK} {H : Hp} (e : a = b) (q : Q (.bl a) H) : Q (.bl b) H := by
  rw [← e]
  exact q
theorem int_at {ns : List Int} {i : Nat} {y : V} (h : (ns.map V.int)[i]? = some y) : ∃ z, ns[i]? = some z ∧ y = V.int z := by
  rw [List.getElem?_map] at h
  cases e : ns[i]? with
  | none => rw [e] at h; cases h
  | some z => rw [e] at h; exact ⟨z, rfl, (Option.some.inj h).symm⟩
theorem szle {n : Nat} (h : n ≤ 100000) : n ≤ sizeLine := Nat.le_trans h (by decide)
theorem szlt {n : Nat} (h : n < 100000) : n < sizeLine := Nat.lt_of_lt_of_le h (by decide)
theorem fnOk_false {P : Program} {w : World} {K : PySem.W.Frag} {mg : Str → Option Value} {base : Heap} {CX : CXT} {k : Nat} {f : Addr} {fd : FuncData} {ps : List Str} : FnOk P w K mg base CX k f fd ps (fun _ _ _ _ => False) :=
  ⟨fun _ _ _ _ h => h.elim, fun _ _ _ _ _ _ _ _ _ _ _ _ _ h => h.elim⟩
/-! ### what is a rule -/
def isRuleB (x : Str) : List Int → Bool
  | [n] => decide (x = "since") && (decide (1 ≤ n) && decide (n ≤ 12))
  | [a, b] => decide (x = "few") && ((decide (1 ≤ a) && decide (a ≤ 5)) && (decide (1 ≤ b) && decide (b ≤ 3)))
  | _ => false
def spIsRule (K : PySem.W.Frag) : Sp := fun vs H Q _ => ∃ (q : Addr) (x : Str) (ns : List Int), vs = [.ref q] ∧ SqT K H q (.str x :: ns.map V.int) ∧ ((∃ a, ns = [a]) ∨ ∃ a b, ns = [a, b]) ∧ Q (.bl (isRuleB x ns)) H
theorem Rule.raw (r : Rule) (h : r.ok) : ∃ (x : Str) (ns : List Int), r.vs = .str x :: ns.map V.int ∧ ((∃ a, ns = [a]) ∨ ∃ a b, ns = [a, b]) ∧ isRuleB x ns = true := by
  cases r with
  | since n =>
    refine ⟨"since", [(n : Int)], rfl, .inl ⟨_, rfl⟩, ?_⟩
    have h1 : 1 ≤ n ∧ n ≤ 12 := h
    simp only [isRuleB, decide_true, Bool.true_and, Bool.and_eq_true, decide_eq_true_eq]
    omega
  | few a b =>
    refine ⟨"few", [(a : Int), (b : Int)], rfl, .inr ⟨_, _, rfl⟩, ?_⟩
    have h1 : 1 ≤ a ∧ a ≤ 5 ∧ 1 ≤ b ∧ b ≤ 3 := h
    simp only [isRuleB, decide_true, Bool.true_and, Bool.and_eq_true, decide_eq_true_eq]
    omega
def spNeedRule (K : PySem.W.Frag) : Sp := fun vs H Q _ => ∃ (q : Addr) (r : Rule), vs = [.ref q] ∧ SqT K H q r.vs ∧ r.ok ∧ Q .non H
def spNext (K : PySem.W.Frag) : Sp := fun vs H Q _ => ∃ (q t : Addr) (m : Int) (r : Rule) (st : List Int), vs = [.ref q, .ref t, .int m] ∧ SqT K H q r.vs ∧ r.ok ∧ SqT K H t (st.map V.int) ∧ StOk r st ∧
  ∀ p H', Same H H' → SqT K H' p ((nextS r st m).map V.int) → Q (.ref p) H'
def spFirst (K : PySem.W.Frag) : Sp := fun vs H Q _ => ∃ (q : Addr) (r : Rule), vs = [.ref q] ∧ SqT K H q r.vs ∧ r.ok ∧ ∀ p H', Same H H' → SqT K H' p ((firstS r).map V.int) → Q (.ref p) H'
def spGone (K : PySem.W.Frag) : Sp := fun vs H Q _ => ∃ (q t : Addr) (r : Rule) (st : List Int), vs = [.ref q, .ref t] ∧ SqT K H q r.vs ∧ r.ok ∧ SqT K H t (st.map V.int) ∧ StOk r st ∧ Q (.bl (goneS r st)) H
/-! ### a watcher -/
theorem rk : ¬ (("rule" : Str) = "kept") := by decide +kernel
def wF (q t : Addr) : List (Str × V) := [("rule", .ref q), ("kept", .ref t)]
theorem wF_rule (q t : Addr) : (wF q t).lookup ("rule" : Str) = some (.ref q) := by simp [wF, List.lookup]
theorem wF_kept (q t : Addr) : (wF q t).lookup ("kept" : Str) = some (.ref t) := by
  have h : (("kept" : Str) == "rule") = false := by decide +kernel
  simp [wF, List.lookup, h]
theorem wF_no (q t : Addr) {m : Str} (h1 : (m == ("rule" : Str)) = false) (h2 : (m == ("kept" : Str)) = false) : (wF q t).lookup m = none := by simp [wF, List.lookup, h1, h2]
theorem wF_put (q t u : Addr) : putF "kept" (.ref u) (wF q t) = wF q u := by
  show (if ("rule" : Str) = "kept" then _ else (("rule" : Str), V.ref q) :: (if ("kept" : Str) = "kept" then [(("kept" : Str), V.ref u)] else _)) = _
  rw [if_neg rk, if_pos rfl]
  rfl
theorem wF_new (q t : Addr) : putF "kept" (.ref t) (putF "rule" (.ref q) []) = wF q t := by
  show (if ("rule" : Str) = "kept" then _ else (("rule" : Str), V.ref q) :: putF "kept" (.ref t) []) = _
  rw [if_neg rk]
  rfl
structure WAt (K : PySem.W.Frag) (C : Addr) (H : Hp) (x : Addr) (r : Rule) (st : List Int) : Prop where
  ex : ∃ dx q t, H x = some (.ins C dx (wF q t)) ∧ SqT K H q r.vs ∧ SqT K H t (st.map V.int)
theorem WAt.same {K : PySem.W.Frag} {C : Addr} {H H' : Hp} {x : Addr} {r : Rule} {st : List Int} (h : WAt K C H x r st) (s : Same H H') : WAt K C H' x r st := by
  obtain ⟨dx, q, t, h1, h2, h3⟩ := h.ex
  exact ⟨dx, q, t, s _ _ h1, s.tupB h2, s.tupB h3⟩
def spWInit (K : PySem.W.Frag) (C : Addr) : Sp := fun vs H Q _ => ∃ (x q dx : Addr) (r : Rule), vs = [.ref x, .ref q] ∧ H x = some (.ins C dx []) ∧ SqT K H q r.vs ∧ r.ok ∧
  ∀ H', WAt K C H' x r (firstS r) → (∀ b o, b ≠ x → H b = some o → H' b = some o) → Q .non H'
def spHear (K : PySem.W.Frag) (C : Addr) : Sp := fun vs H Q _ => ∃ (x : Addr) (m : Int) (r : Rule) (st : List Int), vs = [.ref x, .int m] ∧ WAt K C H x r st ∧ r.ok ∧ StOk r st ∧
  ∀ H', WAt K C H' x r (nextS r st m) → (∀ b o, b ≠ x → H b = some o → H' b = some o) → Q (.bl (goneS r (nextS r st m))) H'
/-- the class Watcher as the top has made it -/
structure WTxt (K : PySem.W.Frag) (C : Addr) : Prop where
  cl : Cls K C
  nR : NoAttr K C "rule"
  nK : NoAttr K C "kept"
/-! ### the law's own look -/
def spLGone (K : PySem.W.Frag) : Sp := fun vs H Q _ => ∃ (q l : Addr) (r : Rule) (hs : List Int), vs = [.ref q, .ref l] ∧ SqT K H q r.vs ∧ r.ok ∧ SqL K H l (hs.map V.int) ∧ hs.length ≤ 1000 ∧ ∀ H', Same H H' → Q (.bl (goneH r hs)) H'
theorem sq_tup_ne {K : PySem.W.Frag} {H : Hp} {a x C dx : Addr} {xs : List V} {fs : List (Str × V)} (h : SqT K H a xs) (e : H x = some (.ins C dx fs)) {o : HO} : SqT K (upd H x o) a xs := by
  rcases h with (h | ⟨u, h⟩) | h
  · exact .inl (.inl (by rw [upd_ne (ne_of h e (by intro z; cases z))]; exact h))
  · exact .inl (.inr ⟨u, by rw [upd_ne (ne_of h e (by intro z; cases z))]; exact h⟩)
  · exact .inr h
theorem map_cut (l : List Int) (n : Nat) : ((l.map V.int).drop n).take ((l.map V.int).length - n) = (l.drop n).map V.int := by
  rw [List.take_of_length_le (by rw [List.length_drop]; omega), List.map_drop]
theorem eqv_nil (r : List Int) : PyData.eqv (.list (r.map PyData.int)) (.list []) = decide (r = []) := by
  cases r with
  | nil => rfl
  | cons a r => rfl
theorem dp_ints {K : PySem.W.Frag} {H : Hp} : ∀ ns : List Int, DpAll K H (ns.map V.int) (ns.map PyData.int)
  | [] => .nil
  | n :: ns => .cons (.int n) (dp_ints ns)
theorem Rule.at1 (r : Rule) : r.vs[1]? = some (.int (r.wide : Int)) := by cases r <;> rfl
theorem rng_ext {α : Type} {f g : Nat → α} {i : Nat} (h : ∀ j, j < i → g j = f j) : (List.range (i + 1)).map g = (List.range i).map f ++ [g i] := by
  rw [List.range_succ, List.map_append]
  congr 1
  exact List.map_congr_left fun j hj => h j (List.mem_range.mp hj)
def spLaw (K : PySem.W.Frag) : Sp := fun vs H Q _ => ∃ (a : Addr) (ns : List Int), vs = [.ref a] ∧ SqL K H a (ns.map V.int) ∧ ns.length ≤ 63 ∧ ∀ H', Q (.bl true) H'
end Bw

set_option Elab.async false
set_option linter.all false
set_option maxRecDepth 100000
set_option maxHeartbeats 4000000
namespace Bw
open PySem PySem.Spec PyProof.Rows L2
/-! ### walks by enumerate -/
theorem for_enum {K : PySem.W.Frag} {a : Addr} {xs : List V} {g : TG} {tb : TS} {D : Ends} {σ : L2.St} {H : Hp} (Pv : Nat → L2.St → Hp → Prop) (h0 : Pv 0 σ H) (hl : ∀ i σ H, i ≤ xs.length → Pv i σ H → SqL K H a xs)
    (hs : ∀ i x σ H T, xs[i]? = some x → Pv i σ H → H T = none → g (.ref T) σ (upd H T (.tup [.int (i : Nat), x])) fun σ2 H2 => tb { D with nx := Pv (i + 1), ct := Pv (i + 1), bk := D.nx } σ2 H2) (hd : ∀ σ H, Pv xs.length σ H → D.nx σ H) :
    ∃ W : Nat → Nat → L2.St → Hp → Prop, (∃ m, W 0 m σ H) ∧ ∀ i m σ H, W i m σ H →
      ((Ite K a).stop i H ∧ D.nx σ H) ∨ ((Ite K a).go i H ∧ ∃ N : L2.St → Hp → Prop, (∀ σ' H', N σ' H' → ∃ m', m' < m ∧ W (i + 1) m' σ' H') ∧ ∀ x H', (Ite K a).yld i H x H' → g x σ H' fun σ2 H2 => tb { D with nx := N, ct := N, bk := D.nx } σ2 H2) := by
  refine ⟨fun i m σ H => m = xs.length - i ∧ i ≤ xs.length ∧ Pv i σ H, ⟨xs.length, by simp, Nat.zero_le _, h0⟩, ?_⟩
  rintro i m σ H ⟨rfl, hi, p⟩
  have q := hl i σ H hi p
  by_cases hlt : i < xs.length
  · refine .inr ⟨⟨xs, xs[i], q, by simp [hlt]⟩, Pv (i + 1), fun σ' H' p' => ⟨xs.length - (i + 1), by omega, rfl, hlt, p'⟩, fun v H' y => ?_⟩
    obtain ⟨T, x, rfl, nT, rfl, y⟩ := y
    exact hs i x σ _ T (y xs q) p nT
  · have e : i = xs.length := by omega
    subst e
    exact .inl ⟨⟨xs, q, Nat.le_refl _⟩, hd σ H p⟩
theorem rgs_up {n c : Nat} (hc : 1 ≤ c ∧ c ≤ 4) : Builtin.Range.rangeSize 0 (n : Int) (c : Int) = (((n + c - 1) / c : Nat) : Int) := by
  have h4 : c = 1 ∨ c = 2 ∨ c = 3 ∨ c = 4 := by omega
  rcases h4 with rfl | rfl | rfl | rfl
  all_goals
    unfold Builtin.Range.rangeSize
    rw [if_pos (by decide)]
    split <;> omega
theorem rgc_up {n c : Nat} (hn : n ≤ 1000) (hc : 1 ≤ c ∧ c ≤ 4) : RgC 0 (n : Int) (c : Int) ((n + c - 1) / c) := by
  have e := rgs_up (n := n) hc
  have hb : (n + c - 1) / c ≤ 1003 := Nat.le_trans (Nat.div_le_self _ _) (by omega)
  refine ⟨by omega, by omega, ?_, e⟩
  unfold Builtin.Range.small
  rw [e]
  generalize (n + c - 1) / c = m at *
  simp only [Builtin.Range.rangeFitsLong, Bool.and_eq_true, Bool.or_eq_true, decide_eq_true_eq, beq_iff_eq]
  have hc0 : (c : Int) > 0 := by omega
  simp only [hc0, if_true, Bool.and_eq_true, decide_eq_true_eq]
  omega
/-! ### lines -/
structure Line where
  each : Nat
  late : Nat
  lost : Nat
structure Line.ok (l : Line) : Prop where
  e1 : 1 ≤ l.each
  e4 : l.each ≤ 4
  l3 : l.late ≤ 3
  s2 : l.lost ≤ 2
def Line.vs (l : Line) : List V := [.int l.each, .int l.late, .int l.lost]
def spLine : Sp := fun vs H Q _ => ∃ (d : Addr), vs = [.ref d] ∧ DiceAt H d ∧ ∀ (l : Line) (p : Addr) (H' : Hp), l.ok → (l.each = 1 → l.late = 3 → l.lost = 0) → Dr d H H' → H p = none → H' p = some (.tup l.vs) → Q (.ref p) H'
/-! ### what is heard of one who is there: each beat's fate -/
/-- the fates of the beats so far, in turn (lost, or how late); r: how many were lost on end -/
inductive Outs (l : Line) : Nat → List (Option Nat) → Prop where
  | nil : Outs l 0 []
  | lose {r : Nat} {os : List (Option Nat)} (h : Outs l r os) (hr : r < l.lost) : Outs l (r + 1) (os ++ [none])
  | hear {r : Nat} {os : List (Option Nat)} (h : Outs l r os) (d : Nat) (hd : d ≤ l.late) : Outs l 0 (os ++ [some d])
def hit (each : Nat) (t : Nat) (p : Option Nat × Nat) : Bool := match p.1 with
  | none => false
  | some d => decide (p.2 * each + d = t)
def cnt (each : Nat) (os : List (Option Nat)) (t : Nat) : Nat := (os.zipIdx.filter (hit each t)).length
theorem cnt_nil (each t : Nat) : cnt each [] t = 0 := rfl
theorem cnt_snoc (each : Nat) (os : List (Option Nat)) (o : Option Nat) (t : Nat) : cnt each (os ++ [o]) t = cnt each os t + if hit each t (o, os.length) = true then 1 else 0 := by
  unfold cnt
  rw [List.zipIdx_append, List.filter_append, List.length_append]
  congr 1
  show (List.filter (hit each t) [(o, 0 + os.length)]).length = _
  rw [Nat.zero_add]
  by_cases h : hit each t (o, os.length) = true
  · rw [List.filter_cons, if_pos h, if_pos h]
    rfl
  · rw [List.filter_cons, if_neg h, if_neg h]
    rfl
theorem cnt_lose (each : Nat) (os : List (Option Nat)) (t : Nat) : cnt each (os ++ [none]) t = cnt each os t := by
  rw [cnt_snoc]
  rfl
theorem cnt_hear (each : Nat) (os : List (Option Nat)) (d t : Nat) : cnt each (os ++ [some d]) t = cnt each os t + if os.length * each + d = t then 1 else 0 := by
  rw [cnt_snoc]
  congr 1
  show (if decide (os.length * each + d = t) = true then 1 else 0) = _
  by_cases h : os.length * each + d = t
  · rw [if_pos h, if_pos (decide_eq_true h)]
  · rw [if_neg h, if_neg (by rw [decide_eq_false h]; decide)]
theorem cnt_le {l : Line} {r : Nat} {os : List (Option Nat)} (h : Outs l r os) (h1 : 1 ≤ l.each) (t : Nat) : cnt l.each os t ≤ min (t + 1) (os.length * l.each) + l.late - t := by
  induction h with
  | nil =>
    rw [cnt_nil]
    exact Nat.zero_le _
  | lose h hr ih =>
    rw [cnt_lose, List.length_append, List.length_singleton, Nat.succ_mul]
    omega
  | hear h d hd ih =>
    rw [cnt_hear, List.length_append, List.length_singleton, Nat.succ_mul]
    split <;> omega
theorem cnt_four {l : Line} (lo : l.ok) {r : Nat} {os : List (Option Nat)} (h : Outs l r os) (t : Nat) : cnt l.each os t ≤ 4 := by
  have h1 := cnt_le h lo.e1 t
  have h2 := lo.l3
  omega
def heardOf (each : Nat) (os : List (Option Nat)) (n : Nat) : List Int := (List.range n).map fun t => ((cnt each os t : Nat) : Int)
theorem heardOf_len (each : Nat) (os : List (Option Nat)) (n : Nat) : (heardOf each os n).length = n := by
  unfold heardOf
  rw [List.length_map, List.length_range]
theorem heardOf_at {each : Nat} {os : List (Option Nat)} {n t : Nat} (h : t < n) : (heardOf each os n)[t]? = some ((cnt each os t : Nat) : Int) := by
  unfold heardOf
  rw [List.getElem?_map, List.getElem?_range h]
  rfl
theorem heardOf_nil (each n : Nat) : heardOf each [] n = List.replicate n 0 := by
  refine List.ext_getElem? fun t => ?_
  by_cases h : t < n
  · rw [heardOf_at h, List.getElem?_replicate, if_pos h]
    rfl
  · rw [List.getElem?_eq_none (by rw [heardOf_len]; omega), List.getElem?_eq_none (by rw [List.length_replicate]; omega)]
theorem heardOf_lose (each : Nat) (os : List (Option Nat)) (n : Nat) : heardOf each (os ++ [none]) n = heardOf each os n := by
  unfold heardOf
  exact List.map_congr_left fun t _ => by rw [cnt_lose]
theorem heardOf_out {each : Nat} {os : List (Option Nat)} {d n : Nat} (h : ¬ os.length * each + d < n) : heardOf each (os ++ [some d]) n = heardOf each os n := by
  unfold heardOf
  refine List.map_congr_left fun t ht => ?_
  have h1 := List.mem_range.mp ht
  rw [cnt_hear, if_neg (by omega), Nat.add_zero]
theorem heardOf_in {each : Nat} {os : List (Option Nat)} {d n : Nat} (h : os.length * each + d < n) :
    heardOf each (os ++ [some d]) n = (heardOf each os n).set (os.length * each + d) (((cnt each os (os.length * each + d) : Nat) : Int) + 1) := by
  refine List.ext_getElem? fun t => ?_
  by_cases ht : t < n
  · rw [heardOf_at ht, cnt_hear]
    by_cases e : os.length * each + d = t
    · subst e
      rw [if_pos rfl, List.getElem?_set_self (by rw [heardOf_len]; exact h)]
      congr 1
    · rw [if_neg e, List.getElem?_set_ne e, heardOf_at ht]
      rfl
  · rw [List.getElem?_eq_none (by rw [heardOf_len]; omega), List.getElem?_eq_none (by rw [List.length_set, heardOf_len]; omega)]
/-- what can be heard -/
def HeardOk (hs : List Int) : Prop := hs.length ≤ 200 ∧ ∀ m ∈ hs, 0 ≤ m ∧ m ≤ 9
theorem heardOf_mem {l : Line} (lo : l.ok) {r : Nat} {os : List (Option Nat)} (h : Outs l r os) {n : Nat} {m : Int} (hm : m ∈ heardOf l.each os n) : 0 ≤ m ∧ m ≤ 4 := by
  obtain ⟨t, _, rfl⟩ := List.mem_map.mp hm
  have := cnt_four lo h t
  omega
def spRun (K : PySem.W.Frag) : Sp := fun vs H Q _ => ∃ (d lp : Addr) (l : Line) (there more : Nat), vs = [.ref d, .ref lp, .int there, .int more] ∧ DiceAt H d ∧ SqT K H lp l.vs ∧ l.ok ∧ there ≤ 300 ∧ more ≤ 300 ∧
  ∀ (r : Nat) (os : List (Option Nat)) (p : Addr) (H' : Hp), Outs l r os → os.length = (there + l.each - 1) / l.each → Dr d H H' → H p = none → H' p = some (.lst ((heardOf l.each os (there + more)).map V.int)) → Q (.ref p) H'
/-! ### told -/
def toldOf (r : Rule) (hs : List Int) : List Bool := (List.range hs.length).map fun i => goneH r (hs.take (i + 1))
def spNeedHeard (K : PySem.W.Frag) : Sp := fun vs H Q _ => ∃ (l : Addr) (hs : List Int), vs = [.ref l] ∧ SqL K H l (hs.map V.int) ∧ HeardOk hs ∧ ∀ H', Same H H' → Q .non H'
def spTold (K : PySem.W.Frag) : Sp := fun vs H Q _ => ∃ (q l : Addr) (r : Rule) (hs : List Int), vs = [.ref q, .ref l] ∧ SqT K H q r.vs ∧ r.ok ∧ SqL K H l (hs.map V.int) ∧ HeardOk hs ∧
  ∀ p H', Same H H' → H p = none → H' p = some (.lst ((toldOf r hs).map V.bl)) → Q (.ref p) H'
/-- the turns among what is told, up to the n-th moment -/
def turnsTo (bs : List Bool) (n : Nat) : List PyData := (List.range n).filterMap fun i => if bs.getD i false = (false :: bs).getD i false then none else some (.tuple [.int (i : Int), .str (if bs.getD i false = true then "gone" else "back")])
def spTurns (K : PySem.W.Frag) : Sp := fun vs H Q _ => ∃ (q l : Addr) (r : Rule) (hs : List Int), vs = [.ref q, .ref l] ∧ SqT K H q r.vs ∧ r.ok ∧ SqL K H l (hs.map V.int) ∧ HeardOk hs ∧
  ∀ p H' xs, Same H H' → H p = none → H' p = some (.lst xs) → DpAll K H' xs (turnsTo (toldOf r hs) hs.length) → Q (.ref p) H'
def spLTold (K : PySem.W.Frag) : Sp := fun vs H Q _ => ∃ (q l : Addr) (r : Rule) (hs : List Int), vs = [.ref q, .ref l] ∧ SqT K H q r.vs ∧ r.ok ∧ SqL K H l (hs.map V.int) ∧ hs.length ≤ 1000 ∧
  ∀ p H', Same H H' → H p = none → H' p = some (.lst ((toldOf r hs).map V.bl)) → Q (.ref p) H'
theorem toldOf_len (r : Rule) (hs : List Int) : (toldOf r hs).length = hs.length := by
  unfold toldOf
  rw [List.length_map, List.length_range]
theorem turnsTo_succ_eq {bs : List Bool} {n : Nat} (h : bs.getD n false = (false :: bs).getD n false) : turnsTo bs (n + 1) = turnsTo bs n := by
  unfold turnsTo
  rw [List.range_succ, List.filterMap_append, List.filterMap_cons, if_pos h]
  simp
theorem turnsTo_succ_ne {bs : List Bool} {n : Nat} (h : ¬ bs.getD n false = (false :: bs).getD n false) : turnsTo bs (n + 1) = turnsTo bs n ++ [.tuple [.int (n : Int), .str (if bs.getD n false = true then "gone" else "back")]] := by
  unfold turnsTo
  rw [List.range_succ, List.filterMap_append, List.filterMap_cons, if_neg h]
  rfl
theorem turnsTo_len (bs : List Bool) (n : Nat) : (turnsTo bs n).length ≤ n := by
  unfold turnsTo
  exact Nat.le_trans (List.length_filterMap_le _ _) (by rw [List.length_range]; exact Nat.le_refl _)
theorem DpAll.snoc {K : PySem.W.Frag} {H : Hp} : ∀ {vs : List V} {ds : List PyData} {v : V} {d : PyData}, DpAll K H vs ds → Dp K H v d → DpAll K H (vs ++ [v]) (ds ++ [d])
  | _, _, _, _, .nil, h => .cons h .nil
  | _, _, _, _, .cons a b, h => .cons a (DpAll.snoc b h)
theorem DpAll.same {K : PySem.W.Frag} {H H' : Hp} (s : Same H H') : ∀ {vs : List V} {ds : List PyData}, DpAll K H vs ds → DpAll K H' vs ds
  | _, _, .nil => .nil
  | _, _, .cons a b => .cons (Dp.same s _ _ a) (DpAll.same s b)
theorem dp_bls {K : PySem.W.Frag} {H : Hp} : ∀ bs : List Bool, DpAll K H (bs.map V.bl) (bs.map PyData.bool)
  | [] => .nil
  | n :: ns => .cons (.bl n) (dp_bls ns)
/-! ### cuts -/
section
variable {X : Cx}
theorem pt_cut {e : Expr} {t : L2.TT} (h : PT X e t) : PT X e (fun σ H Q => ∃ M : Bool → Hp → Prop, t σ H M ∧ ∀ b H', M b H' → Q b H') :=
  ⟨fun pins s σ H Q I ⟨M, h1, h2⟩ => thn (h.run pins s σ H M I h1) fun b s' ⟨H', I', m⟩ => ⟨H', I', h2 b H' m⟩⟩
theorem pe_cut {e : Expr} {t : TE} (h : PE X e t) : PE X e (fun σ H Q => ∃ M : VK, t σ H M ∧ ∀ v H', M v H' → Q v H') :=
  ⟨fun pins s σ H Q I ⟨M, h1, h2⟩ => thn (h.run pins s σ H M I h1) fun u s' ⟨v, H', I', r, m⟩ => ⟨v, H', I', r, h2 v H' m⟩⟩
end
theorem WAt.keep {K : PySem.W.Frag} {C : Addr} {H H' : Hp} {x : Addr} {r : Rule} {st : List Int} (h : WAt K C H x r st) (hk : ∀ b o, (∀ xs, o ≠ .lst xs) → H b = some o → H' b = some o) : WAt K C H' x r st := by
  obtain ⟨dx, q, t, h1, h2, h3⟩ := h.ex
  have kt : ∀ {a xs}, SqT K H a xs → SqT K H' a xs := by
    intro a xs h
    rcases h with (h | ⟨u, h⟩) | h
    · exact .inl (.inl (hk _ _ (by intro xs z; cases z) h))
    · exact .inl (.inr ⟨u, hk _ _ (by intro xs z; cases z) h⟩)
    · exact .inr h
  exact ⟨dx, q, t, hk _ _ (by intro xs z; cases z) h1, kt h2, kt h3⟩
/-- an update of a list keeps what is no list -/
theorem keepL {H : Hp} {p : Addr} {xs ys : List V} (h : H p = some (.lst xs)) : ∀ b o, (∀ xs, o ≠ .lst xs) → H b = some o → upd H p (.lst ys) b = some o := fun b o n e => by
  rw [upd_ne (ne_of e h (n _))]
  exact e
/-! ### data without lists -/
inductive NoL : PyData → Prop where
  | non : NoL .none
  | bool (b : Bool) : NoL (.bool b)
  | int (i : Int) : NoL (.int i)
  | str (x : Str) : NoL (.str x)
  | tuple (ds : List PyData) (h : ∀ d ∈ ds, NoL d) : NoL (.tuple ds)
theorem sqT_keepL {K : PySem.W.Frag} {H H' : Hp} (hk : ∀ b o, (∀ xs, o ≠ .lst xs) → H b = some o → H' b = some o) {a : Addr} {xs : List V} (h : SqT K H a xs) : SqT K H' a xs := by
  rcases h with (h | ⟨u, h⟩) | h
  · exact .inl (.inl (hk _ _ (by intro xs z; cases z) h))
  · exact .inl (.inr ⟨u, hk _ _ (by intro xs z; cases z) h⟩)
  · exact .inr h
theorem Dp.keepL {K : PySem.W.Frag} {H H' : Hp} (hk : ∀ b o, (∀ xs, o ≠ .lst xs) → H b = some o → H' b = some o) {v : V} {d : PyData} (h : Dp K H v d) (hn : NoL d) : Dp K H' v d := by
  revert hn
  refine Dp.rec (K := K) (H := H) (motive_1 := fun v d _ => NoL d → Dp K H' v d) (motive_2 := fun vs ds _ => (∀ d ∈ ds, NoL d) → DpAll K H' vs ds) ?_ ?_ ?_ ?_ ?_ ?_ ?_ ?_ h
  · exact fun _ => .non
  · exact fun b _ => .bl b
  · exact fun b _ => .int b
  · exact fun b _ => .str b
  · exact fun h1 _ h2 hn => nomatch hn
  · intro a xs ds h1 h2 ih hn
    cases hn with
    | tuple _ hd => exact .tup (sqT_keepL hk h1) (ih hd)
  · exact fun _ => .nil
  · exact fun _ _ h1 h2 hn => .cons (h1 (hn _ List.mem_cons_self)) (h2 fun d hd => hn d (List.mem_cons_of_mem _ hd))
theorem DpAll.keepL {K : PySem.W.Frag} {H H' : Hp} (hk : ∀ b o, (∀ xs, o ≠ .lst xs) → H b = some o → H' b = some o) : ∀ {vs : List V} {ds : List PyData}, DpAll K H vs ds → (∀ d ∈ ds, NoL d) → DpAll K H' vs ds
  | _, _, .nil, _ => .nil
  | _, _, .cons a b, hn => .cons (Dp.keepL hk a (hn _ List.mem_cons_self)) (DpAll.keepL hk b fun d hd => hn d (List.mem_cons_of_mem _ hd))
theorem turnsTo_noL (bs : List Bool) (n : Nat) : ∀ d ∈ turnsTo bs n, NoL d := by
  intro d hd
  unfold turnsTo at hd
  obtain ⟨i, _, h⟩ := List.mem_filterMap.mp hd
  split at h
  · cases h
  · cases h
    refine .tuple _ fun d hd => ?_
    rcases List.mem_cons.mp hd with rfl | hd
    · exact .int _
    rcases List.mem_cons.mp hd with rfl | hd
    · exact .str _
    · cases hd
def spHeard : Sp := fun vs H Q _ => ∃ (d : Addr), vs = [.ref d] ∧ DiceAt H d ∧ ∀ (hs : List Int) (p : Addr) (H' : Hp), HeardOk hs → Dr d H H' → H p = none → H' p = some (.lst (hs.map V.int)) → Q (.ref p) H'
/-- one of a written list -/
theorem pickL {xs : List V} {r : Int} (h0 : 0 ≤ r) (h1 : r < (xs.length : Int)) : ∃ v, v ∈ xs ∧ atI xs r = some v := by
  obtain ⟨n, rfl⟩ := Int.eq_ofNat_of_zero_le h0
  have h : n < xs.length := by omega
  exact ⟨xs[n], List.getElem_mem h, atI_nat (by rw [List.getElem?_eq_getElem h])⟩
theorem Dr.mutB {d p : Addr} {H H1 : Hp} {o : HO} (a : Dr d H H1) (hd : DiceAt H d) (e : H p = none) : Dr d H (upd H1 p o) := by
  have n := hd.ne e
  refine ⟨?_, fun b u nb hb => ?_⟩
  · obtain ⟨ds, a1, a2⟩ := a.dice
    exact ⟨ds, by rw [upd_ne (Ne.symm n)]; exact a1, a2⟩
  · rw [upd_ne (ne_of_none hb e)]
    exact a.keep b u nb hb
theorem rep_map (n : Nat) (x : V) : (List.replicate n [x]).flatten = List.replicate n x := by
  induction n with
  | zero => rfl
  | succ n ih => rw [List.replicate_succ, List.replicate_succ, List.flatten_cons, ih]; rfl
theorem eqv_self {d : PyData} (h : SeqAt.shaped d = true) : PyData.eqv d d = true := SeqAt.eqv_refl d (Bool.and_eq_true_iff.mp h).1
end Bw

set_option Elab.async false
set_option linter.all false
set_option maxRecDepth 100000
set_option maxHeartbeats 4000000
namespace Bw
open PySem PySem.Spec PyProof.Rows L2
def top (i : Nat) : Stmt := PySem.Challenge.pw_beatwatch_k02_told.main.body.getD i (.Pass ⟨0, 0, 0, 0⟩)
abbrev s_BadRule___init__ : Stmt := inClass (top 2) 0
abbrev n_BadRule___init__ : List Str := ["self", "number"]
abbrev p_BadRule___init__ : List Str := ["self", "number"]
theorem sc_BadRule___init__ : FnScope n_BadRule___init__ ["self", "number"] (defScope s_BadRule___init__) := ⟨rfl, rfl, rfl, by decide +kernel, rfl, by decide +kernel, by decide +kernel⟩
abbrev s_BadHeard___init__ : Stmt := inClass (top 3) 0
abbrev n_BadHeard___init__ : List Str := ["self", "at"]
abbrev p_BadHeard___init__ : List Str := ["self", "at"]
theorem sc_BadHeard___init__ : FnScope n_BadHeard___init__ ["self", "at"] (defScope s_BadHeard___init__) := ⟨rfl, rfl, rfl, by decide +kernel, rfl, by decide +kernel, by decide +kernel⟩
abbrev s_is_rule : Stmt := top 10
abbrev n_is_rule : List Str := ["rule"]
abbrev p_is_rule : List Str := ["rule"]
theorem sc_is_rule : FnScope n_is_rule ["rule"] (defScope s_is_rule) := ⟨rfl, rfl, rfl, by decide +kernel, rfl, by decide +kernel, by decide +kernel⟩
abbrev s_need_rule : Stmt := top 11
abbrev n_need_rule : List Str := ["rule"]
abbrev p_need_rule : List Str := ["rule"]
theorem sc_need_rule : FnScope n_need_rule ["rule"] (defScope s_need_rule) := ⟨rfl, rfl, rfl, by decide +kernel, rfl, by decide +kernel, by decide +kernel⟩
abbrev s_need_heard : Stmt := top 12
abbrev n_need_heard : List Str := ["heard", "at", "many"]
abbrev p_need_heard : List Str := ["heard"]
theorem sc_need_heard : FnScope n_need_heard ["heard"] (defScope s_need_heard) := ⟨rfl, rfl, rfl, by decide +kernel, rfl, by decide +kernel, by decide +kernel⟩
abbrev s_next_state : Stmt := top 13
abbrev n_next_state : List Str := ["rule", "state", "many"]
abbrev p_next_state : List Str := ["rule", "state", "many"]
theorem sc_next_state : FnScope n_next_state ["rule", "state", "many"] (defScope s_next_state) := ⟨rfl, rfl, rfl, by decide +kernel, rfl, by decide +kernel, by decide +kernel⟩
abbrev s_first_state : Stmt := top 14
abbrev n_first_state : List Str := ["rule"]
abbrev p_first_state : List Str := ["rule"]
theorem sc_first_state : FnScope n_first_state ["rule"] (defScope s_first_state) := ⟨rfl, rfl, rfl, by decide +kernel, rfl, by decide +kernel, by decide +kernel⟩
abbrev s_is_gone : Stmt := top 15
abbrev n_is_gone : List Str := ["rule", "state"]
abbrev p_is_gone : List Str := ["rule", "state"]
theorem sc_is_gone : FnScope n_is_gone ["rule", "state"] (defScope s_is_gone) := ⟨rfl, rfl, rfl, by decide +kernel, rfl, by decide +kernel, by decide +kernel⟩
abbrev s_Watcher___init__ : Stmt := inClass (top 16) 0
abbrev n_Watcher___init__ : List Str := ["self", "rule"]
abbrev p_Watcher___init__ : List Str := ["self", "rule"]
theorem sc_Watcher___init__ : FnScope n_Watcher___init__ ["self", "rule"] (defScope s_Watcher___init__) := ⟨rfl, rfl, rfl, by decide +kernel, rfl, by decide +kernel, by decide +kernel⟩
abbrev s_Watcher_hear : Stmt := inClass (top 16) 1
abbrev n_Watcher_hear : List Str := ["self", "many"]
abbrev p_Watcher_hear : List Str := ["self", "many"]
theorem sc_Watcher_hear : FnScope n_Watcher_hear ["self", "many"] (defScope s_Watcher_hear) := ⟨rfl, rfl, rfl, by decide +kernel, rfl, by decide +kernel, by decide +kernel⟩
abbrev s_told : Stmt := top 17
abbrev n_told : List Str := ["rule", "heard", "watcher", "many"]
abbrev p_told : List Str := ["rule", "heard"]
theorem sc_told : FnScope n_told ["rule", "heard"] (defScope s_told) := ⟨rfl, rfl, rfl, by decide +kernel, rfl, by decide +kernel, by decide +kernel⟩
abbrev s_turns : Stmt := top 18
abbrev n_turns : List Str := ["rule", "heard", "found", "ahead", "moment", "gone"]
abbrev p_turns : List Str := ["rule", "heard"]
theorem sc_turns : FnScope n_turns ["rule", "heard"] (defScope s_turns) := ⟨rfl, rfl, rfl, by decide +kernel, rfl, by decide +kernel, by decide +kernel⟩
abbrev s__law_dice : Stmt := top 20
abbrev n__law_dice : List Str := ["_law_script", "_law_k", "_law_found", "_law_cell"]
abbrev p__law_dice : List Str := ["_law_script", "_law_k"]
theorem sc__law_dice : FnScope n__law_dice ["_law_script", "_law_k"] (defScope s__law_dice) := ⟨rfl, rfl, rfl, by decide +kernel, rfl, by decide +kernel, by decide +kernel⟩
abbrev s__law_off : Stmt := top 21
abbrev n__law_off : List Str := ["_law_d", "_law_most", "_law_found"]
abbrev p__law_off : List Str := ["_law_d", "_law_most"]
theorem sc__law_off : FnScope n__law_off ["_law_d", "_law_most"] (defScope s__law_off) := ⟨rfl, rfl, rfl, by decide +kernel, rfl, by decide +kernel, by decide +kernel⟩
abbrev s__law_alike : Stmt := top 22
abbrev n__law_alike : List Str := ["_law_found", "_law_due", "_law_k"]
abbrev p__law_alike : List Str := ["_law_found", "_law_due"]
theorem sc__law_alike : FnScope n__law_alike ["_law_found", "_law_due"] (defScope s__law_alike) := ⟨rfl, rfl, rfl, by decide +kernel, rfl, by decide +kernel, by decide +kernel⟩
abbrev s__law_line : Stmt := top 23
abbrev n__law_line : List Str := ["_law_d", "_law_each", "_law_late"]
abbrev p__law_line : List Str := ["_law_d"]
theorem sc__law_line : FnScope n__law_line ["_law_d"] (defScope s__law_line) := ⟨rfl, rfl, rfl, by decide +kernel, rfl, by decide +kernel, by decide +kernel⟩
abbrev s__law_rule : Stmt := top 24
abbrev n__law_rule : List Str := ["_law_d"]
abbrev p__law_rule : List Str := ["_law_d"]
theorem sc__law_rule : FnScope n__law_rule ["_law_d"] (defScope s__law_rule) := ⟨rfl, rfl, rfl, by decide +kernel, rfl, by decide +kernel, by decide +kernel⟩
abbrev s__law_run : Stmt := top 25
abbrev n__law_run : List Str := ["_law_d", "_law_line_here", "_law_there", "_law_more", "_law_heard_here", "_law_often", "_law_run_here", "_law_sent", "_law_at"]
abbrev p__law_run : List Str := ["_law_d", "_law_line_here", "_law_there", "_law_more"]
theorem sc__law_run : FnScope n__law_run ["_law_d", "_law_line_here", "_law_there", "_law_more"] (defScope s__law_run) := ⟨rfl, rfl, rfl, by decide +kernel, rfl, by decide +kernel, by decide +kernel⟩
abbrev s__law_gone : Stmt := top 26
abbrev n__law_gone : List Str := ["_law_rule_here", "_law_heard_here", "_law_row", "_law_many"]
abbrev p__law_gone : List Str := ["_law_rule_here", "_law_heard_here"]
theorem sc__law_gone : FnScope n__law_gone ["_law_rule_here", "_law_heard_here"] (defScope s__law_gone) := ⟨rfl, rfl, rfl, by decide +kernel, rfl, by decide +kernel, by decide +kernel⟩
abbrev s__law_told : Stmt := top 27
abbrev n__law_told : List Str := ["_law_rule_here", "_law_heard_here", "_law_moment"]
abbrev p__law_told : List Str := ["_law_rule_here", "_law_heard_here"]
theorem sc__law_told : FnScope n__law_told ["_law_rule_here", "_law_heard_here"] (defScope s__law_told) := ⟨rfl, rfl, rfl, by decide +kernel, rfl, by decide +kernel, by decide +kernel⟩
abbrev s__law_heard : Stmt := top 28
abbrev n__law_heard : List Str := ["_law_d", "_law_found", "_law_turn", "_law_line_here", "_law_many", "_law_some", "_law_k"]
abbrev p__law_heard : List Str := ["_law_d"]
theorem sc__law_heard : FnScope n__law_heard ["_law_d"] (defScope s__law_heard) := ⟨rfl, rfl, rfl, by decide +kernel, rfl, by decide +kernel, by decide +kernel⟩
abbrev s_law : Stmt := top 29
abbrev n_law : List Str := ["_law_script", "_law_d", "_law_turn", "_law_rule_here", "_law_heard_here", "_law_handed", "_law_due", "_law_rows", "_law_moment", "_law_found"]
abbrev p_law : List Str := ["_law_script"]
theorem sc_law : FnScope n_law ["_law_script"] (defScope s_law) := ⟨rfl, rfl, rfl, by decide +kernel, rfl, by decide +kernel, by decide +kernel⟩
end Bw

set_option Elab.async false
set_option linter.all false
set_option maxRecDepth 100000
set_option maxHeartbeats 4000000
namespace Bw
open PySem PySem.Spec PyProof.Rows L2
section
variable {P : Program} {w : World} {K : PySem.W.Frag} {mg : Str → Option Value} {base : Heap} {f : Addr} {fd : FuncData}
theorem ok__law_off (F : FnP K "_law_off" s__law_off f fd) (g_len : mg "len" = none) : FnOk P w K mg base CX0 1 f fd p__law_off spOff := by
  refine F.ok sc__law_off (fun vs H Q E h => ?_) (fun cdv A outer s H vs Q E hr h => ?_)
  · obtain ⟨d, m, rfl, _⟩ := h
    rfl
  · obtain ⟨d, m, rfl, hd, h0, h1, k⟩ := h
    refine ⟨_, PSs.nox (Evl.pss_cut (ps_if (PW.pt (pw_and (pt_cmpR op_eq (pe_ix ix_list (pv 0) pe_int (fun _ _ => rfl)) pe_int (nomark _)) (pw_and1 (pt_cmpR op_gt (pe_callB call_len_seq (by rfl) g_len (by decide +kernel) (pa_cons (pv 0) pa_nil)) pe_int (nomark _)))))
          (pss_one (ps_asg (pe_bm PySem.F.plainAttrs_list PySem.F.slot_list_pop PySem.F.type_list_pop mt_popAt (pv 0) (pa_cons pe_int pa_nil)) (pg_sub (pv 0) pe_int set_list)))
          pss_nil)
        (pss_cons (ps_if (pt_cmpR op_gt (pe_ix ix_list (pv 0) pe_int (fun _ _ => rfl)) pe_int (nomark _))
          (pss_cons (ps_set (i := 2) sc__law_off.nd rfl (Or.inl rfl) (pe_op op_mod (pe_ix ix_list (pv 0) pe_int (fun _ _ => rfl)) (pv 1)))
            (pss_cons (ps_asg (pe_op op_fdiv (pe_ix ix_list (pv 0) pe_int (fun _ _ => rfl)) (pv 1)) (pg_sub (pv 0) pe_int set_list))
            (pss_one (ps_ret (pv 2)))))
          pss_nil)
        (pss_cons (ps_asg (pe_op op_mod (pe_op op_add (pe_op op_mul (pe_ix ix_list (pv 0) pe_int (fun _ _ => rfl)) pe_int) pe_int) pe_int) (pg_sub (pv 0) pe_int set_list))
        (pss_one (ps_ret (pe_op op_mod (pe_op op_fdiv (pe_ix ix_list (pv 0) pe_int (fun _ _ => rfl)) pe_int) (pv 1))))))), ?_⟩
    refine ⟨fun σ' H' => σ' = [some (.ref d), some (.int m), none] ∧ Dr d H H', ?_, ?_⟩
    · have hD := Dr.refl hd
      obtain ⟨xs, hx, a, b, r, rfl⟩ := hd
      refine ⟨_, rfl, d, _, _, _, rfl, rfl, SqL.of hx, atI_nat (j := 1) rfl, rfl, _, rfl, ?_⟩
      refine iteD (fun hb => ?_) (fun hb => ⟨rfl, hD⟩)
      refine ⟨_, rfl, d, _, rfl, Or.inl (SqL.of hx), _, _, rfl, rfl, _, rfl, ?_⟩
      refine iteD (fun hl => ?_) (fun hl => ⟨rfl, hD⟩)
      cases r with
      | nil => exact absurd hl (by simp)
      | cons x r =>
        refine ⟨_, rfl, Or.inl ⟨rfl, _, SqL.of hx⟩, d, _, 2, 2, V.int x, rfl, rfl, hx, by decide, by decide, ?_, rfl, ?_⟩
        · exact (ixN_seq (ixN_nat (i := 2) (by simp))).1
        refine ⟨_, rfl, d, _, 1, 1, rfl, rfl, upd_same, ixN_nat (i := 1) (by simp), rfl, ?_⟩
        rw [upd_upd]
        exact Dr.set hx ⟨a, x, r, rfl⟩
    · rintro σ' H' ⟨rfl, hD⟩
      obtain ⟨xs, hx, a, b, r, rfl⟩ := hD.dice
      refine ⟨_, rfl, d, _, _, _, rfl, rfl, SqL.of hx, atI_nat (j := 1) rfl, _, _, rfl, rfl, _, rfl, ?_⟩
      refine iteD (fun hb => ?_) (fun hb => ?_)
      · refine ⟨_, rfl, d, _, _, _, rfl, rfl, SqL.of hx, atI_nat (j := 1) rfl, _, rfl, _, _, rfl, rfl, h0, ?_⟩
        refine ⟨_, rfl, d, _, _, _, rfl, rfl, SqL.of hx, atI_nat (j := 1) rfl, _, rfl, _, _, rfl, rfl, ⟨h0, h1⟩, ?_⟩
        refine ⟨_, rfl, d, _, 1, 1, rfl, rfl, hx, ixN_nat (i := 1) (by simp), ?_⟩
        refine ⟨_, rfl, k _ _ (Int.emod_nonneg _ (by omega)) (Int.emod_lt_of_pos _ h0) (hD.trans (Dr.set hx ⟨a, _, r, rfl⟩))⟩
      · refine ⟨_, rfl, d, _, _, _, rfl, rfl, SqL.of hx, atI_nat (j := 0) rfl, _, _, rfl, rfl, Or.inr ⟨by decide, by decide⟩, _, _, rfl, rfl, _, _, rfl, rfl, (by show (0 : Int) < 2147483647; decide), ?_⟩
        refine ⟨_, rfl, d, _, 0, 0, rfl, rfl, hx, ixN_nat (i := 0) (by simp), ?_⟩
        refine ⟨_, rfl, d, _, _, _, rfl, rfl, SqL.of upd_same, atI_nat (j := 0) rfl, _, _, rfl, rfl, ⟨by decide, by decide⟩, _, rfl, _, _, rfl, rfl, h0, ?_⟩
        exact k _ _ (Int.emod_nonneg _ (by omega)) (Int.emod_lt_of_pos _ h0) (hD.trans (Dr.set hx ⟨_, b, r, rfl⟩))
end
end Bw

set_option Elab.async false
set_option linter.all false
set_option maxRecDepth 100000
set_option maxHeartbeats 4000000
namespace Bw
open PySem PySem.Spec PyProof.Rows L2
section
variable {P : Program} {w : World} {K : PySem.W.Frag} {mg : Str → Option Value} {base : Heap} {f : Addr} {fd : FuncData}
theorem ok__law_dice (F : FnP K "_law_dice" s__law_dice f fd) (g_abs : mg "abs" = none) : FnOk P w K mg base CX0 1 f fd p__law_dice (spDice K) := by
  refine F.ok sc__law_dice (fun vs H Q E h => ?_) (fun cdv A outer s H vs Q E hr h => ?_)
  · obtain ⟨a, k, ns, rfl, _⟩ := h
    rfl
  · obtain ⟨a, k, ns, rfl, hS, hlen, q⟩ := h
    refine ⟨_, PSs.nox (pss_cons (ps_set (i := 2) sc__law_dice.nd rfl (Or.inl rfl) (pv 1))
        (pss_cons (ps_for PassesOwn.never rfl (pi_list (pv 0)) (pg_name (i := 3) sc__law_dice.nd rfl (Or.inl rfl))
          (pss_one (ps_set (i := 2) sc__law_dice.nd rfl (Or.inl rfl) (pe_op op_mod (pe_op op_add (pe_op op_mul (pv 2) pe_int) (pe_callB call_abs (by rfl) g_abs (by decide +kernel) (pa_cons (pv 3) pa_nil))) pe_int))))
        (pss_one (ps_ret (pe_op op_cat (pe_lst (pa_cons (pv 2) (pa_cons pe_int pa_nil))) (pe_lc (own := [("_law_cell", 3)]) (g := gName 3) rfl sc__law_dice.nd (pi_list (pv 0)) (blkOk_by (own := [("_law_cell", 3)]) (N := n__law_dice) (sc := defScope s__law_dice) (by decide +kernel)) (fun _ _ _ _ _ => (pg_name (i := 3) sc__law_dice.nd rfl (Or.inl rfl))) (fun _ _ _ _ _ => (pts_one (pt_cmpR op_ge (pv 3) (pe_op op_pow pe_int pe_int) (nomark _)))) (fun _ _ _ _ _ => (pv 3)))))))), ?_⟩
    refine ⟨_, rfl, _, rfl, a, rfl, ⟨_, hS⟩, for_list (K := K) (a := a) (xs := ns.map V.int) (fun i σ H' => H' = H ∧ ∃ (z : Int) (v : Option V), σ = [some (.ref a), some (.int k), some (.int z), v]) ⟨rfl, k, none, rfl⟩ (fun i σ H' _ ⟨e, _⟩ => e ▸ hS) ?_ ?_⟩
    · rintro i y σ H' hi ⟨rfl, z, v, rfl⟩
      obtain ⟨c, _, rfl⟩ := int_at hi
      exact ⟨_, rfl, _, _, rfl, rfl, Or.inr ⟨by decide, by decide⟩, _, rfl, _, rfl, _, _, rfl, rfl, _, _, rfl, rfl, (by show (0 : Int) < 2147483647; decide), rfl, _, _, rfl⟩
    · rintro σ H' ⟨rfl, z, v, rfl⟩
      refine ⟨_, rfl, (by show 2 ≤ sizeLine; decide), fun p hp => ?_⟩
      refine ⟨_, rfl, a, rfl, ⟨_, (Same.newB hp).seq hS⟩, fun D hD => lc_list (K := K) (a := a) (xs := ns.map V.int) (fun i H2 => ∃ r : List Int, Same (upd H' p (.lst [.int z, .int 0])) H2 ∧ H2 D = some (.lst (r.map V.int)) ∧ r.length ≤ i) ⟨[], Same.newB hD, upd_same, Nat.le_refl _⟩ (fun i H2 _ ⟨r, s2, _⟩ => ((Same.newB hp).trans s2).seq hS) ?_ ?_⟩
      · rintro i y H2 hi ⟨r, s2, e2, l2⟩
        have hil := (List.getElem?_eq_some_iff.mp hi).1
        rw [List.length_map] at hil
        obtain ⟨c, _, rfl⟩ := int_at hi
        refine ⟨rfl, _, rfl, _, _, rfl, rfl, ⟨by decide, by decide, by decide⟩, _, _, rfl, rfl, _, rfl, ?_⟩
        refine iteD (fun hc => ?_) (fun hc => ⟨r, s2, e2, by omega⟩)
        refine ⟨_, rfl, _, e2, szlt (by rw [List.length_map]; omega), r ++ [c], s2.mutB hD, ?_, by rw [List.length_append]; simp; omega⟩
        rw [upd_same, List.map_append]
        rfl
      · rintro H2 ⟨r, s2, e2, l2⟩
        rw [List.length_map] at l2
        refine ⟨p, D, _, _, rfl, rfl, s2 _ _ upd_same, e2, szle (by rw [List.length_map]; simp; omega), fun q' hq => ?_⟩
        have s3 : Same H' H2 := (Same.newB hp).trans s2
        exact q q' _ (s3.moreB hq) (s3.free hq) ⟨_, upd_same, z, 0, r, rfl⟩
end
end Bw

set_option Elab.async false
set_option linter.all false
set_option maxRecDepth 100000
set_option maxHeartbeats 4000000
namespace Bw
open PySem PySem.Spec PyProof.Rows L2
section
variable {P : Program} {w : World} {K : PySem.W.Frag} {mg : Str → Option Value} {base : Heap} {f : Addr} {fd : FuncData}
theorem ok__law_alike (F : FnP K "_law_alike" s__law_alike f fd) (bF : Binds K fd p__law_alike []) (g_f : mg "_law_alike" = some (.ref f)) (g_isinstance : mg "isinstance" = none) (g_bool : mg "bool" = none) (g_int : mg "int" = none) (g_str : mg "str" = none) (g_tuple : mg "tuple" = none) (g_list : mg "list" = none) (g_len : mg "len" = none) (g_all : mg "all" = none) (g_range : mg "range" = none) (n : Nat) :
    FnOk P w K mg base CX0 n f fd p__law_alike (spAlikeN K n) := by
  induction n with
  | zero => exact fnOk_false
  | succ n ih =>
  have h__law_alike : Has P w K mg base n "_law_alike" p__law_alike (spAlikeN K n) := ⟨f, fd, g_f, F.kp, bF, ih⟩
  refine F.ok sc__law_alike (fun vs H Q E h => ?_) (fun cdv A outer s H vs Q E hr h => ?_)
  · obtain ⟨x, y, D, rfl, _⟩ := h
    rfl
  · obtain ⟨x, y, D, rfl, hx, hy, hn, q⟩ := h
    refine ⟨_, PSs.nox (pss_cons (ps_if (pt_cmpR op_isN (pv 1) pe_non (nomark _))
          (pss_one (ps_ret (pe_cmpR op_isN (pv 0) pe_non (nomark _))))
          pss_nil)
        (pss_cons (ps_if (pt_val (pe_callB call_isi (by rfl) g_isinstance (by decide +kernel) (pa_cons (pv 1) (pa_cons (pe_bltn (v := .ty "bool") (by rfl) g_bool (by decide +kernel) rfl) pa_nil))))
          (pss_one (ps_ret (pe_and (pe_callB call_isi (by rfl) g_isinstance (by decide +kernel) (pa_cons (pv 0) (pa_cons (pe_bltn (v := .ty "bool") (by rfl) g_bool (by decide +kernel) rfl) pa_nil))) (pe_one (pe_cmpR op_eq (pv 0) (pv 1) (nomark _))))))
          pss_nil)
        (pss_cons (ps_if (pt_val (pe_callB call_isi (by rfl) g_isinstance (by decide +kernel) (pa_cons (pv 1) (pa_cons (pe_bltn (v := .ty "int") (by rfl) g_int (by decide +kernel) rfl) pa_nil))))
          (pss_one (ps_ret (pe_and (pe_callB call_isi (by rfl) g_isinstance (by decide +kernel) (pa_cons (pv 0) (pa_cons (pe_bltn (v := .ty "int") (by rfl) g_int (by decide +kernel) rfl) pa_nil))) (pe_and (pe_not (pe_callB call_isi (by rfl) g_isinstance (by decide +kernel) (pa_cons (pv 0) (pa_cons (pe_bltn (v := .ty "bool") (by rfl) g_bool (by decide +kernel) rfl) pa_nil)))) (pe_one (pe_cmpR op_eq (pv 0) (pv 1) (nomark _)))))))
          pss_nil)
        (pss_cons (ps_if (pt_val (pe_callB call_isi (by rfl) g_isinstance (by decide +kernel) (pa_cons (pv 1) (pa_cons (pe_bltn (v := .ty "str") (by rfl) g_str (by decide +kernel) rfl) pa_nil))))
          (pss_one (ps_ret (pe_and (pe_callB call_isi (by rfl) g_isinstance (by decide +kernel) (pa_cons (pv 0) (pa_cons (pe_bltn (v := .ty "str") (by rfl) g_str (by decide +kernel) rfl) pa_nil))) (pe_one (pe_cmpR op_eq (pv 0) (pv 1) (nomark _))))))
          pss_nil)
        (pss_cons (ps_if (PW.pt (pw_or (pt_cmpR op_ne (pe_callB call_isi (by rfl) g_isinstance (by decide +kernel) (pa_cons (pv 1) (pa_cons (pe_bltn (v := .ty "tuple") (by rfl) g_tuple (by decide +kernel) rfl) pa_nil))) (pe_callB call_isi (by rfl) g_isinstance (by decide +kernel) (pa_cons (pv 0) (pa_cons (pe_bltn (v := .ty "tuple") (by rfl) g_tuple (by decide +kernel) rfl) pa_nil))) (nomark _)) (pw_or1 (pt_cmpR op_ne (pe_callB call_isi (by rfl) g_isinstance (by decide +kernel) (pa_cons (pv 1) (pa_cons (pe_bltn (v := .ty "list") (by rfl) g_list (by decide +kernel) rfl) pa_nil))) (pe_callB call_isi (by rfl) g_isinstance (by decide +kernel) (pa_cons (pv 0) (pa_cons (pe_bltn (v := .ty "list") (by rfl) g_list (by decide +kernel) rfl) pa_nil))) (nomark _)))))
          (pss_one (ps_ret pe_bl))
          pss_nil)
        (pss_cons (ps_if (pt_cmpR op_ne (pe_callB call_len_seq (by rfl) g_len (by decide +kernel) (pa_cons (pv 0) pa_nil)) (pe_callB call_len_seq (by rfl) g_len (by decide +kernel) (pa_cons (pv 1) pa_nil)) (nomark _))
          (pss_one (ps_ret pe_bl))
          pss_nil)
        (pss_one (ps_ret (pe_callB (cr_all rfl) (by rfl) g_all (by decide +kernel) (pa_cons (pe_lc (own := [("_law_k", 2)]) (g := gName 2) rfl sc__law_alike.nd (pi_range1 rfl g_range (pa_cons (pe_callB call_len_seq (by rfl) g_len (by decide +kernel) (pa_cons (pv 1) pa_nil)) pa_nil)) (blkOk_by (own := [("_law_k", 2)]) (N := n__law_alike) (sc := defScope s__law_alike) (by decide +kernel)) (fun _ _ _ _ _ => (pg_name (i := 2) sc__law_alike.nd rfl (Or.inl rfl))) (fun _ _ _ _ _ => pts_nil) (fun _ _ _ _ _ => (pe_fn h__law_alike hr rfl (pa_cons (pe_ix (r := rIx K) ix_seq (pv 0) (pv 2) (fun _ _ => rfl)) (pa_cons (pe_ix (r := rIx K) ix_seq (pv 1) (pv 2) (fun _ _ => rfl)) pa_nil)) (Nat.le_refl _)))) pa_nil)))))))))), ?_⟩
    refine ⟨_, rfl, rfl, _, rfl, ?_⟩
    cases hy with
    | non =>
      cases hx
      refine iteD (fun _ => ?_) (fun h => absurd rfl h)
      exact ⟨_, rfl, rfl, qd (Q := Q) rfl (q H (Same.refl H))⟩
    | bl b =>
      cases hx
      refine iteD (fun h => nomatch h) (fun _ => ?_)
      refine ⟨_, rfl, _, _, _, _, true, rfl, .ty _, (.base (.bl b)), kit_ty (by decide +kernel), _, rfl, iteT ?_⟩
      exact ⟨_, rfl, _, _, _, _, true, rfl, .ty _, (.base (.bl b)), kit_ty (by decide +kernel), _, rfl, iteT ⟨_, rfl, _, rfl, rfl, qd (Q := Q) rfl (q H (Same.refl H))⟩⟩
    | int i =>
      cases hx
      refine iteD (fun h => nomatch h) (fun _ => ?_)
      refine ⟨_, rfl, _, _, _, _, false, rfl, .ty _, (.base (.int i)), kit_ty (by decide +kernel), _, rfl, iteF ?_⟩
      refine ⟨_, rfl, _, _, _, _, true, rfl, .ty _, (.base (.int i)), kit_ty (by decide +kernel), _, rfl, iteT ?_⟩
      refine ⟨_, rfl, _, _, _, _, true, rfl, .ty _, (.base (.int i)), kit_ty (by decide +kernel), _, rfl, iteT ?_⟩
      exact ⟨_, rfl, _, _, _, _, false, rfl, .ty _, (.base (.int i)), kit_ty (by decide +kernel), _, rfl, _, rfl, iteT ⟨_, rfl, _, rfl, rfl, qd (Q := Q) rfl (q H (Same.refl H))⟩⟩
    | str i =>
      cases hx
      refine iteD (fun h => nomatch h) (fun _ => ?_)
      refine ⟨_, rfl, _, _, _, _, false, rfl, .ty _, (.base (.str i)), kit_ty (by decide +kernel), _, rfl, iteF ?_⟩
      refine ⟨_, rfl, _, _, _, _, false, rfl, .ty _, (.base (.str i)), kit_ty (by decide +kernel), _, rfl, iteF ?_⟩
      refine ⟨_, rfl, _, _, _, _, true, rfl, .ty _, (.base (.str i)), kit_ty (by decide +kernel), _, rfl, iteT ?_⟩
      exact ⟨_, rfl, _, _, _, _, true, rfl, .ty _, (.base (.str i)), kit_ty (by decide +kernel), _, rfl, iteT ⟨_, rfl, _, rfl, rfl, qd (Q := Q) rfl (q H (Same.refl H))⟩⟩
    | @lst b ys ds sy ay =>
      cases hx with
      | @lst a xs _ sx ax =>
      cases hn with
      | list m _ hl hd =>
      have tx := tyx_list sx
      have ty := tyx_list sy
      refine iteD (fun h => nomatch h) (fun _ => ?_)
      refine ⟨_, rfl, _, _, _, _, false, rfl, .ty _, ty, kit_ty (by decide +kernel), _, rfl, iteF ?_⟩
      refine ⟨_, rfl, _, _, _, _, false, rfl, .ty _, ty, kit_ty (by decide +kernel), _, rfl, iteF ?_⟩
      refine ⟨_, rfl, _, _, _, _, false, rfl, .ty _, ty, kit_ty (by decide +kernel), _, rfl, iteF ?_⟩
      refine ⟨_, rfl, _, _, _, _, false, rfl, .ty _, ty, kit_ty (by decide +kernel), _, rfl, _, _, _, _, false, rfl, .ty _, tx, kit_ty (by decide +kernel), rfl, _, rfl, iteF ?_⟩
      refine ⟨_, rfl, _, _, _, _, true, rfl, .ty _, ty, kit_ty (by decide +kernel), _, rfl, _, _, _, _, true, rfl, .ty _, tx, kit_ty (by decide +kernel), rfl, _, rfl, iteF ?_⟩
      refine ⟨_, rfl, a, _, rfl, Or.inl sx, _, rfl, b, _, rfl, Or.inl sy, rfl, _, rfl, ?_⟩
      have lx := DpAll.len ax
      have ly := DpAll.len ay
      refine iteN (fun h => absurd (by rw [lx, ly]) h) (fun _ => ?_)
      refine ⟨_, rfl, b, _, rfl, Or.inl sy, _, rfl, by omega, by rw [ly]; omega, fun L hL => lc_range (lo := 0) (n := ys.length) (fun i H' => Same H H' ∧ H' L = some (.lst ((List.replicate i true).map V.bl))) ⟨Same.newB hL, upd_same⟩ ?_ ?_⟩
      · rintro i H' hi ⟨s1, e1⟩
        obtain ⟨v, d1, hv, hd1, p1⟩ := DpAll.get (i := i) ax (by omega)
        obtain ⟨u, d2, hu, hd2, p2⟩ := DpAll.get (i := i) ay (by omega)
        obtain rfl : d1 = d2 := Option.some.inj (hd1.symm.trans hd2)
        have e0 : (0 : Int) + (i : Int) = (i : Int) := Int.zero_add _
        refine ⟨rfl, _, rfl, _, rfl, Or.inl ⟨a, _, _, v, rfl, rfl, s1.seq sx, by rw [e0]; exact atI_nat hv, _, rfl, _, rfl, Or.inl ⟨b, _, _, u, rfl, rfl, s1.seq sy, by rw [e0]; exact atI_nat hu, ?_⟩⟩⟩
        refine ⟨v, u, d1, rfl, Dp.same s1 _ _ p1, Dp.same s1 _ _ p2, hd d1 (List.mem_of_getElem? hd1), fun H2 s2 => ?_⟩
        refine ⟨_, s2 _ _ e1, szlt (by rw [List.length_map, List.length_replicate]; omega), (s1.trans s2).mutB hL, ?_⟩
        rw [upd_same, List.replicate_succ', List.map_append]
        rfl
      · rintro H' ⟨s1, e1⟩
        refine ⟨L, _, rfl, SqL.of e1, ?_⟩
        have e : (List.replicate ys.length true).all id = true := by simp
        show Q (.bl ((List.replicate ys.length true).all id)) H'
        rw [e]
        exact q H' s1
    | @tup b ys ds sy ay =>
      cases hx with
      | @tup a xs _ sx ax =>
      cases hn with
      | tuple m _ hl hd =>
      have tx := tyx_tup sx
      have ty := tyx_tup sy
      refine iteD (fun h => nomatch h) (fun _ => ?_)
      refine ⟨_, rfl, _, _, _, _, false, rfl, .ty _, ty, kit_ty (by decide +kernel), _, rfl, iteF ?_⟩
      refine ⟨_, rfl, _, _, _, _, false, rfl, .ty _, ty, kit_ty (by decide +kernel), _, rfl, iteF ?_⟩
      refine ⟨_, rfl, _, _, _, _, false, rfl, .ty _, ty, kit_ty (by decide +kernel), _, rfl, iteF ?_⟩
      refine ⟨_, rfl, _, _, _, _, true, rfl, .ty _, ty, kit_ty (by decide +kernel), _, rfl, _, _, _, _, true, rfl, .ty _, tx, kit_ty (by decide +kernel), rfl, _, rfl, iteF ?_⟩
      refine ⟨_, rfl, _, _, _, _, false, rfl, .ty _, ty, kit_ty (by decide +kernel), _, rfl, _, _, _, _, false, rfl, .ty _, tx, kit_ty (by decide +kernel), rfl, _, rfl, iteF ?_⟩
      refine ⟨_, rfl, a, _, rfl, Or.inr sx, _, rfl, b, _, rfl, Or.inr sy, rfl, _, rfl, ?_⟩
      have lx := DpAll.len ax
      have ly := DpAll.len ay
      refine iteN (fun h => absurd (by rw [lx, ly]) h) (fun _ => ?_)
      refine ⟨_, rfl, b, _, rfl, Or.inr sy, _, rfl, by omega, by rw [ly]; omega, fun L hL => lc_range (lo := 0) (n := ys.length) (fun i H' => Same H H' ∧ H' L = some (.lst ((List.replicate i true).map V.bl))) ⟨Same.newB hL, upd_same⟩ ?_ ?_⟩
      · rintro i H' hi ⟨s1, e1⟩
        obtain ⟨v, d1, hv, hd1, p1⟩ := DpAll.get (i := i) ax (by omega)
        obtain ⟨u, d2, hu, hd2, p2⟩ := DpAll.get (i := i) ay (by omega)
        obtain rfl : d1 = d2 := Option.some.inj (hd1.symm.trans hd2)
        have e0 : (0 : Int) + (i : Int) = (i : Int) := Int.zero_add _
        refine ⟨rfl, _, rfl, _, rfl, Or.inr (Or.inl ⟨a, _, _, v, rfl, rfl, s1.tupB sx, by rw [e0]; exact atI_nat hv, _, rfl, _, rfl, Or.inr (Or.inl ⟨b, _, _, u, rfl, rfl, s1.tupB sy, by rw [e0]; exact atI_nat hu, ?_⟩)⟩)⟩
        refine ⟨v, u, d1, rfl, Dp.same s1 _ _ p1, Dp.same s1 _ _ p2, hd d1 (List.mem_of_getElem? hd1), fun H2 s2 => ?_⟩
        refine ⟨_, s2 _ _ e1, szlt (by rw [List.length_map, List.length_replicate]; omega), (s1.trans s2).mutB hL, ?_⟩
        rw [upd_same, List.replicate_succ', List.map_append]
        rfl
      · rintro H' ⟨s1, e1⟩
        refine ⟨L, _, rfl, SqL.of e1, ?_⟩
        have e : (List.replicate ys.length true).all id = true := by simp
        show Q (.bl ((List.replicate ys.length true).all id)) H'
        rw [e]
        exact q H' s1
end
end Bw

set_option Elab.async false
set_option linter.all false
set_option maxRecDepth 100000
set_option maxHeartbeats 4000000
namespace Bw
open PySem PySem.Spec PyProof.Rows L2
section
variable {P : Program} {w : World} {K : PySem.W.Frag} {mg : Str → Option Value} {base : Heap} {f : Addr} {fd : FuncData}
theorem ok_is_rule {t1 t2 t3 : Tok} (F : FnP K "is_rule" s_is_rule f fd) (g_len : mg "len" = none) (g_MOST_SILENT : mg "MOST_SILENT" = some (.int 12 t1)) (g_MOST_WIDE : mg "MOST_WIDE" = some (.int 5 t2)) (g_MOST_MANY : mg "MOST_MANY" = some (.int 3 t3)) : FnOk P w K mg base CX0 1 f fd ["rule"] (spIsRule K) := by
  refine F.ok sc_is_rule (fun vs H Q E h => ?_) (fun cdv A outer s H vs Q E hr h => ?_)
  · obtain ⟨q, x, ns, rfl, _⟩ := h
    rfl
  · obtain ⟨q, x, ns, rfl, hq, hn, k⟩ := h
    refine ⟨_, PSs.nox (pss_cons (ps_if (PW.pt (pw_and (pt_cmpR op_eq (pe_callB call_len_seq (by rfl) g_len (by decide +kernel) (pa_cons (pv 0) pa_nil)) pe_int (nomark _)) (pw_and1 (pt_cmpR op_eq (pe_ix ix_tup (pv 0) pe_int (fun _ _ => rfl)) pe_str (nomark _)))))
          (pss_one (ps_ret (pe_chain op_le op_le pe_int (pe_ix ix_tup (pv 0) pe_int (fun _ _ => rfl)) (pe_gI rfl g_MOST_SILENT))))
          pss_nil)
        (pss_cons (ps_if (PW.pt (pw_and (pt_cmpR op_eq (pe_callB call_len_seq (by rfl) g_len (by decide +kernel) (pa_cons (pv 0) pa_nil)) pe_int (nomark _)) (pw_and1 (pt_cmpR op_eq (pe_ix ix_tup (pv 0) pe_int (fun _ _ => rfl)) pe_str (nomark _)))))
          (pss_one (ps_ret (pe_and (pe_chain op_le op_le pe_int (pe_ix ix_tup (pv 0) pe_int (fun _ _ => rfl)) (pe_gI rfl g_MOST_WIDE)) (pe_one (pe_chain op_le op_le pe_int (pe_ix ix_tup (pv 0) pe_int (fun _ _ => rfl)) (pe_gI rfl g_MOST_MANY))))))
          pss_nil)
        (pss_one (ps_ret pe_bl)))), ?_⟩
    refine ⟨_, rfl, q, _, rfl, Or.inr hq, rfl, _, rfl, ?_⟩
    rcases hn with ⟨a, rfl⟩ | ⟨a, b, rfl⟩
    · refine iteD (fun _ => ?_) (fun h => absurd rfl h)
      refine ⟨_, rfl, q, _, _, _, rfl, rfl, hq, atI_nat (j := 0) rfl, rfl, _, rfl, ?_⟩
      refine iteD (fun hx => ?_) (fun hx => ?_)
      · refine ⟨_, rfl, q, _, _, _, rfl, rfl, hq, atI_nat (j := 1) rfl, _, _, rfl, rfl, _, rfl, ?_⟩
        have ex : x = "since" := V.str.inj hx
        refine iteD (fun h1 => ⟨_, _, rfl, rfl, ?_⟩) (fun h1 => ?_)
        · refine qb ?_ k
          simp [isRuleB, ex, h1]
        · refine qb ?_ k
          simp [isRuleB, ex, h1]
      · refine ⟨_, rfl, q, _, rfl, Or.inr hq, rfl, _, rfl, ?_⟩
        refine iteD (fun h => absurd h (by simp)) (fun _ => ?_)
        have ex : ¬ x = "since" := fun e => hx (congrArg V.str e)
        refine qb ?_ k
        simp [isRuleB, ex]
    · refine iteD (fun h => absurd h (by simp)) (fun _ => ?_)
      refine ⟨_, rfl, q, _, rfl, Or.inr hq, rfl, _, rfl, ?_⟩
      refine iteD (fun _ => ?_) (fun h => absurd rfl h)
      refine ⟨_, rfl, q, _, _, _, rfl, rfl, hq, atI_nat (j := 0) rfl, rfl, _, rfl, ?_⟩
      refine iteD (fun hx => ?_) (fun hx => ?_)
      · refine ⟨_, rfl, q, _, _, _, rfl, rfl, hq, atI_nat (j := 1) rfl, _, _, rfl, rfl, _, rfl, ?_⟩
        have ex : x = "few" := V.str.inj hx
        refine iteD (fun h1 => ⟨_, _, rfl, rfl, _, rfl, ?_⟩) (fun h1 => ⟨_, rfl, ?_⟩)
        · refine iteD (fun h2 => ?_) (fun h2 => ?_)
          · refine ⟨_, rfl, q, _, _, _, rfl, rfl, hq, atI_nat (j := 2) rfl, _, _, rfl, rfl, _, rfl, ?_⟩
            refine iteD (fun h3 => ⟨_, _, rfl, rfl, ?_⟩) (fun h3 => ?_)
            · refine qb ?_ k
              simp [isRuleB, ex, h1, h2, h3]
            · refine qb ?_ k
              simp [isRuleB, ex, h1, h2, h3]
          · refine qb ?_ k
            simp [isRuleB, ex, h1, h2]
        · refine qb ?_ k
          simp [isRuleB, ex, h1]
      · have ex : ¬ x = "few" := fun e => hx (congrArg V.str e)
        refine qb ?_ k
        simp [isRuleB, ex]
end
end Bw

set_option Elab.async false
set_option linter.all false
set_option maxRecDepth 100000
set_option maxHeartbeats 4000000
namespace Bw
open PySem PySem.Spec PyProof.Rows L2
section
variable {P : Program} {w : World} {K : PySem.W.Frag} {mg : Str → Option Value} {base : Heap} {f : Addr} {fd : FuncData}
theorem ok_need_rule (F : FnP K "need_rule" s_need_rule f fd) (h_is_rule : Has P w K mg base 1 "is_rule" ["rule"] (spIsRule K)) : FnOk P w K mg base CX0 2 f fd ["rule"] (spNeedRule K) := by
  refine F.ok sc_need_rule (fun vs H Q E h => ?_) (fun cdv A outer s H vs Q E hr h => ?_)
  · obtain ⟨q, r, rfl, _⟩ := h
    rfl
  · obtain ⟨q, r, rfl, hq, ho, k⟩ := h
    refine ⟨_, PSs.nox (pss_one (ps_if (pt_not (pt_val (pe_fn h_is_rule hr rfl (pa_cons (pv 0) pa_nil))))
        (pss_one ps_never)
        pss_nil)), ?_⟩
    obtain ⟨x, ns, e1, e2, e3⟩ := r.raw ho
    rw [e1] at hq
    refine ⟨_, rfl, q, x, ns, rfl, hq, e2, true, by rw [e3], ?_⟩
    exact k
theorem ok_first_state (F : FnP K "first_state" s_first_state f fd) : FnOk P w K mg base CX0 1 f fd ["rule"] (spFirst K) := by
  refine F.ok sc_first_state (fun vs H Q E h => ?_) (fun cdv A outer s H vs Q E hr h => ?_)
  · obtain ⟨q, r, rfl, _⟩ := h
    rfl
  · obtain ⟨q, r, rfl, hq, ho, k⟩ := h
    refine ⟨_, PSs.nox (pss_one (ps_ret (pe_ifExp (pt_cmpR op_eq (pe_ix ix_tup (pv 0) pe_int (fun _ _ => rfl)) pe_str (nomark _)) (pe_tup (pa_cons pe_int pa_nil)) (pe_tup pa_nil)))), ?_⟩
    cases r with
    | since n =>
      refine ⟨_, rfl, q, _, _, _, rfl, rfl, hq, atI_nat (j := 0) rfl, rfl, _, rfl, iteD (fun _ => ?_) (fun h => absurd rfl h)⟩
      exact ⟨by decide, fun p hp => k p _ (Same.newB hp) (SqT.of upd_same)⟩
    | few a b =>
      refine ⟨_, rfl, q, _, _, _, rfl, rfl, hq, atI_nat (j := 0) rfl, rfl, _, rfl, iteD (fun h => absurd (V.str.inj h) few_since) (fun _ => ?_)⟩
      exact ⟨by decide, fun p hp => k p _ (Same.newB hp) (SqT.of upd_same)⟩
theorem ok_is_gone (F : FnP K "is_gone" s_is_gone f fd) (g_len : mg "len" = none) (g_sum : mg "sum" = none) : FnOk P w K mg base CX0 1 f fd p_is_gone (spGone K) := by
  refine F.ok sc_is_gone (fun vs H Q E h => ?_) (fun cdv A outer s H vs Q E hr h => ?_)
  · obtain ⟨q, t, r, st, rfl, _⟩ := h
    rfl
  · obtain ⟨q, t, r, st, rfl, hq, ho, ht, hs, k⟩ := h
    refine ⟨_, PSs.nox (pss_cons (ps_if (pt_cmpR op_eq (pe_ix ix_tup (pv 0) pe_int (fun _ _ => rfl)) pe_str (nomark _))
          (pss_one (ps_ret (pe_cmpR op_ge (pe_ix ix_tup (pv 1) pe_int (fun _ _ => rfl)) (pe_ix ix_tup (pv 0) pe_int (fun _ _ => rfl)) (nomark _))))
          pss_nil)
        (pss_one (ps_ret (pe_and (pe_cmpR op_eq (pe_callB call_len_seq (by rfl) g_len (by decide +kernel) (pa_cons (pv 1) pa_nil)) (pe_ix ix_tup (pv 0) pe_int (fun _ _ => rfl)) (nomark _)) (pe_one (pe_cmpR op_lt (pe_callB (cr_sumT rfl) (by rfl) g_sum (by decide +kernel) (pa_cons (pv 1) pa_nil)) (pe_ix ix_tup (pv 0) pe_int (fun _ _ => rfl)) (nomark _))))))), ?_⟩
    cases r with
    | since n =>
      obtain ⟨z, rfl⟩ := hs
      refine ⟨_, rfl, q, _, _, _, rfl, rfl, hq, atI_nat (j := 0) rfl, rfl, _, rfl, iteD (fun _ => ?_) (fun h => absurd rfl h)⟩
      exact ⟨_, rfl, t, _, _, _, rfl, rfl, ht, atI_nat (j := 0) rfl, _, rfl, q, _, _, _, rfl, rfl, hq, atI_nat (j := 1) rfl, _, _, rfl, rfl, k⟩
    | few a b =>
      refine ⟨_, rfl, q, _, _, _, rfl, rfl, hq, atI_nat (j := 0) rfl, rfl, _, rfl, iteD (fun h => absurd (V.str.inj h) few_since) (fun _ => ?_)⟩
      refine ⟨_, rfl, t, _, rfl, Or.inr ht, _, rfl, q, _, _, _, rfl, rfl, hq, atI_nat (j := 1) rfl, rfl, _, rfl, ?_⟩
      refine iteD (fun h1 => ?_) (fun h1 => ?_)
      · refine ⟨_, rfl, t, _, rfl, ht, _, rfl, q, _, _, _, rfl, rfl, hq, atI_nat (j := 2) rfl, _, _, rfl, rfl, ?_⟩
        refine qb ?_ k
        have h2 := V.int.inj h1
        rw [List.length_map] at h2
        simp [goneS, h2]
      · refine qb ?_ k
        have h2 : ¬ ((st.length : Int) = (a : Int)) := fun e => h1 (by rw [List.length_map, e])
        simp only [goneS, h2, decide_false, Bool.false_and]
theorem ok_next_state (F : FnP K "next_state" s_next_state f fd) (g_min : mg "min" = none) : FnOk P w K mg base CX0 1 f fd p_next_state (spNext K) := by
  refine F.ok sc_next_state (fun vs H Q E h => ?_) (fun cdv A outer s H vs Q E hr h => ?_)
  · obtain ⟨q, t, m, r, st, rfl, _⟩ := h
    rfl
  · obtain ⟨q, t, m, r, st, rfl, hq, ho, ht, hs, k⟩ := h
    refine ⟨_, PSs.nox (pss_cons (ps_if (pt_cmpR op_eq (pe_ix ix_tup (pv 0) pe_int (fun _ _ => rfl)) pe_str (nomark _))
          (pss_one (ps_ret (pe_ifExp (pt_cmpR op_gt (pv 2) pe_int (nomark _)) (pe_tup (pa_cons pe_int pa_nil)) (pe_tup (pa_cons (pe_callB (call_min2 rfl) (by rfl) g_min (by decide +kernel) (pa_cons (pe_ix ix_tup (pv 0) pe_int (fun _ _ => rfl)) (pa_cons (pe_op op_add (pe_ix ix_tup (pv 1) pe_int (fun _ _ => rfl)) pe_int) pa_nil))) pa_nil)))))
          pss_nil)
        (pss_one (ps_ret (pe_slice sl_tupA (pe_op op_catA (pv 1) (pe_tup (pa_cons (pv 2) pa_nil))) (po_some (pe_un un_neg (pe_ix ix_tup (pv 0) pe_int (fun _ _ => rfl)))) po_none)))), ?_⟩
    cases r with
    | since n =>
      obtain ⟨z, rfl⟩ := hs
      refine ⟨_, rfl, q, _, _, _, rfl, rfl, hq, atI_nat (j := 0) rfl, rfl, _, rfl, iteD (fun _ => ?_) (fun h => absurd rfl h)⟩
      refine ⟨_, rfl, _, _, rfl, rfl, _, rfl, iteD (fun h => ?_) (fun h => ?_)⟩
      · refine ⟨by decide, fun p hp => k p _ (Same.newB hp) ?_⟩
        have e : nextS (.since n) [z] m = [0] := if_pos h
        rw [e]
        exact SqT.of upd_same
      · refine ⟨_, rfl, q, _, _, _, rfl, rfl, hq, atI_nat (j := 1) rfl, _, rfl, t, _, _, _, rfl, rfl, ht, atI_nat (j := 0) rfl, _, _, rfl, rfl, _, _, rfl, szle (Nat.le_of_ble_eq_true rfl), fun p hp => k p _ (Same.newB hp) ?_⟩
        have e : nextS (.since n) [z] m = [if z + 1 < (n : Int) then z + 1 else (n : Int)] := if_neg h
        rw [e]
        exact SqT.of upd_same
    | few a b =>
      refine ⟨_, rfl, q, _, _, _, rfl, rfl, hq, atI_nat (j := 0) rfl, rfl, _, rfl, iteD (fun h => absurd (V.str.inj h) few_since) (fun _ => ?_)⟩
      have hs' : st.length ≤ a := hs
      have ho' : 1 ≤ a ∧ a ≤ 5 ∧ 1 ≤ b ∧ b ≤ 3 := ho
      have fin : ∀ (u : Addr) (H2 : Hp), Same H H2 → SqT K H2 u ((st ++ [m]).map V.int) → rSlA K (.ref u) (some (-(a : Int))) none H2 Q := by
        intro u H2 s2 hu
        have e0 : HT.sIx ((st ++ [m]).map V.int).length 0 (some (-(a : Int))) = (st ++ [m]).length - a := by
          show (if -(a : Int) < 0 then (-(a : Int) + ((((st ++ [m]).map V.int).length : Nat) : Int)).toNat else _) = _
          rw [if_pos (by omega), List.length_map]
          omega
        refine ⟨u, _, rfl, hu, fun hw => ?_, fun hw p hp => ?_⟩
        · refine k u H2 s2 ?_
          have e : nextS (.few a b) st m = st ++ [m] := by
            show lastN a (st ++ [m]) = _
            unfold lastN
            rw [← e0, hw.1]
            rfl
          rw [e]
          exact hu
        · refine k p _ (s2.moreB hp) ?_
          have e : cutV ((st ++ [m]).map V.int) (some (-(a : Int))) none = (nextS (.few a b) st m).map V.int := by
            show ((((st ++ [m]).map V.int)).drop (HT.sIx ((st ++ [m]).map V.int).length 0 (some (-(a : Int))))).take (((st ++ [m]).map V.int).length - (HT.sIx ((st ++ [m]).map V.int).length 0 (some (-(a : Int))))) = _
            rw [e0, map_cut]
            rfl
          rw [e]
          exact SqT.of upd_same
      refine ⟨_, rfl, _, rfl, szle (Nat.le_of_ble_eq_true rfl), fun p hp => ⟨t, p, _, _, rfl, rfl, (Same.newB hp).tupB ht, SqT.of upd_same, szle (by rw [List.length_map]; simp; omega), fun e => ?_, (fun e e2 => nomatch e2), fun e _ p2 hp2 => ?_⟩⟩
      · have e' : st = [] := by simpa using e
        subst e'
        exact ⟨_, rfl, q, _, _, _, rfl, rfl, (Same.newB hp).tupB hq, atI_nat (j := 1) rfl, _, rfl, _, rfl, fin p _ (Same.newB hp) (SqT.of upd_same)⟩
      · have s2 := (Same.newB (o := .tup [.int m]) hp).moreB (o := .tup (st.map V.int ++ [.int m])) hp2
        refine ⟨_, rfl, q, _, _, _, rfl, rfl, s2.tupB hq, atI_nat (j := 1) rfl, _, rfl, _, rfl, fin p2 _ s2 ?_⟩
        rw [List.map_append]
        exact SqT.of upd_same
end
end Bw

set_option Elab.async false
set_option linter.all false
set_option maxRecDepth 100000
set_option maxHeartbeats 4000000
namespace Bw
open PySem PySem.Spec PyProof.Rows L2
section
variable {P : Program} {w : World} {K : PySem.W.Frag} {mg : Str → Option Value} {base : Heap} {f : Addr} {fd : FuncData}
theorem ok_Watcher___init__ {C : Addr} (F : FnQ K "__init__" "Watcher.__init__" s_Watcher___init__ f fd) (T : WTxt K C) (h_need_rule : Has P w K mg base 2 "need_rule" ["rule"] (spNeedRule K)) (h_first_state : Has P w K mg base 1 "first_state" ["rule"] (spFirst K)) : FnOk P w K mg base CX0 3 f fd p_Watcher___init__ (spWInit K C) := by
  refine F.ok sc_Watcher___init__ (fun vs H Q E h => ?_) (fun cdv A outer s H vs Q E hr h => ?_)
  · obtain ⟨x, q, dx, r, rfl, _⟩ := h
    rfl
  · obtain ⟨x, q, dx, r, rfl, hx, hq, ho, k⟩ := h
    refine ⟨_, PSs.nox (pss_cons (ps_expr (pe_fn h_need_rule hr rfl (pa_cons (pv 1) pa_nil)))
        (pss_cons (ps_fld (pv 0) (pv 1) rfl)
        (pss_one (ps_fld (pv 0) (pe_fn h_first_state hr rfl (pa_cons (pv 1) pa_nil)) rfl)))), ?_⟩
    refine ⟨_, rfl, q, r, rfl, hq, ho, ?_⟩
    refine ⟨_, rfl, _, rfl, x, C, dx, _, rfl, hx, T.cl, T.nR, by decide, ?_⟩
    have hq1 : SqT K (upd H x (.ins C dx (putF "rule" (.ref q) []))) q r.vs := sq_tup_ne hq hx
    refine ⟨_, rfl, q, r, rfl, hq1, ho, fun t H1 s1 ht => ?_⟩
    refine ⟨_, rfl, x, C, dx, _, rfl, s1 _ _ upd_same, T.cl, T.nK, (by show 1 < 1000; decide), ?_⟩
    have hx1 := s1 _ _ (upd_same (H := H) (a := x) (o := .ins C dx (putF "rule" (.ref q) [])))
    refine k _ ⟨dx, q, t, ?_, ?_, ?_⟩ fun b o nb hb => ?_
    · rw [upd_same, wF_new]
    · exact sq_tup_ne (s1.tupB hq1) hx1
    · exact sq_tup_ne ht hx1
    · rw [upd_ne nb]
      refine s1 _ _ ?_
      rw [upd_ne nb]
      exact hb
theorem ok_Watcher_hear {C : Addr} (F : FnQ K "hear" "Watcher.hear" s_Watcher_hear f fd) (T : WTxt K C) (h_next_state : Has P w K mg base 1 "next_state" p_next_state (spNext K)) (h_is_gone : Has P w K mg base 1 "is_gone" p_is_gone (spGone K)) : FnOk P w K mg base CX0 2 f fd p_Watcher_hear (spHear K C) := by
  refine F.ok sc_Watcher_hear (fun vs H Q E h => ?_) (fun cdv A outer s H vs Q E hr h => ?_)
  · obtain ⟨x, m, r, st, rfl, _⟩ := h
    rfl
  · obtain ⟨x, m, r, st, rfl, hW, ho, hs, k⟩ := h
    obtain ⟨dx, q, t, hx, hq, ht⟩ := hW.ex
    refine ⟨_, PSs.nox (pss_cons (ps_fld (pv 0) (pe_fn h_next_state hr rfl (pa_cons (pe_fld (pv 0) rfl) (pa_cons (pe_fld (pv 0) rfl) (pa_cons (pv 1) pa_nil)))) rfl)
        (pss_one (ps_ret (pe_fn h_is_gone hr rfl (pa_cons (pe_fld (pv 0) rfl) (pa_cons (pe_fld (pv 0) rfl) pa_nil)))))), ?_⟩
    refine ⟨_, rfl, x, C, dx, _, _, rfl, hx, T.cl, T.nR, wF_rule _ _, _, rfl, x, C, dx, _, _, rfl, hx, T.cl, T.nK, wF_kept _ _, _, rfl, q, t, m, r, st, rfl, hq, ho, ht, hs, fun p H1 s1 hp => ?_⟩
    refine ⟨_, rfl, x, C, dx, _, rfl, s1 _ _ hx, T.cl, T.nK, (by show 2 < 1000; decide), ?_⟩
    have hx1 := s1 _ _ hx
    have hx2 : (upd H1 x (.ins C dx (putF "kept" (.ref p) (wF q t)))) x = some (.ins C dx (wF q p)) := by rw [wF_put]; exact upd_same
    have hq2 : SqT K (upd H1 x (.ins C dx (putF "kept" (.ref p) (wF q t)))) q r.vs := sq_tup_ne (s1.tupB hq) hx1
    have hp2 : SqT K (upd H1 x (.ins C dx (putF "kept" (.ref p) (wF q t)))) p ((nextS r st m).map V.int) := sq_tup_ne hp hx1
    refine ⟨_, rfl, x, C, dx, _, _, rfl, hx2, T.cl, T.nR, wF_rule _ _, _, rfl, x, C, dx, _, _, rfl, hx2, T.cl, T.nK, wF_kept _ _, q, p, r, _, rfl, hq2, ho, hp2, stOk_next r st m, ?_⟩
    refine k _ ⟨dx, q, p, hx2, hq2, hp2⟩ fun b o nb hb => ?_
    rw [upd_ne nb]
    exact s1 _ _ hb
end
end Bw

set_option Elab.async false
set_option linter.all false
set_option maxRecDepth 100000
set_option maxHeartbeats 4000000
namespace Bw
open PySem PySem.Spec PyProof.Rows L2
section
variable {P : Program} {w : World} {K : PySem.W.Frag} {mg : Str → Option Value} {base : Heap} {f : Addr} {fd : FuncData}
theorem ok__law_rule (F : FnP K "_law_rule" s__law_rule f fd) (h__law_off : Has P w K mg base 1 "_law_off" p__law_off spOff) : FnOk P w K mg base CX0 2 f fd ["_law_d"] spRule := by
  refine F.ok sc__law_rule (fun vs H Q E h => ?_) (fun cdv A outer s H vs Q E hr h => ?_)
  · obtain ⟨d, rfl, _⟩ := h
    rfl
  · obtain ⟨d, rfl, hd, k⟩ := h
    refine ⟨_, PSs.nox (pss_cons (ps_if (pt_cmpR op_eq (pe_fn h__law_off hr rfl (pa_cons (pv 0) (pa_cons pe_int pa_nil))) pe_int (nomark _))
          (pss_one (ps_ret (pe_tup (pa_cons pe_str (pa_cons (pe_op op_add pe_int (pe_fn h__law_off hr rfl (pa_cons (pv 0) (pa_cons pe_int pa_nil)))) pa_nil)))))
          pss_nil)
        (pss_one (ps_ret (pe_tup (pa_cons pe_str (pa_cons (pe_op op_add pe_int (pe_fn h__law_off hr rfl (pa_cons (pv 0) (pa_cons pe_int pa_nil)))) (pa_cons (pe_op op_add pe_int (pe_fn h__law_off hr rfl (pa_cons (pv 0) (pa_cons pe_int pa_nil)))) pa_nil))))))), ?_⟩
    refine ⟨_, rfl, d, 2, rfl, hd, by decide, by decide, fun r1 H1 h1 g1 D1 => ⟨rfl, _, rfl, iteD (fun _ => ?_) (fun _ => ?_)⟩⟩
    · refine ⟨_, rfl, d, 12, rfl, D1.dice, by decide, by decide, fun r2 H2 h2 g2 D2 => ⟨_, _, rfl, rfl, szle (Nat.le_of_ble_eq_true rfl), fun p hp => ?_⟩⟩
      have D3 := D1.trans D2
      have e : (((1 + r2).toNat : Nat) : Int) = 1 + r2 := by omega
      refine k (.since (1 + r2).toNat) p _ ⟨by omega, by omega⟩ (D3.new hp) (D3.free hp) ?_
      show _ = some (HO.tup [.str "since", .int (((1 + r2).toNat : Nat) : Int)])
      rw [e]
      exact upd_same
    · refine ⟨_, rfl, d, 5, rfl, D1.dice, by decide, by decide, fun r2 H2 h2 g2 D2 => ⟨_, _, rfl, rfl, ?_⟩⟩
      refine ⟨_, rfl, d, 3, rfl, D2.dice, by decide, by decide, fun r3 H3 h3 g3 D3 => ⟨_, _, rfl, rfl, szle (Nat.le_of_ble_eq_true rfl), fun p hp => ?_⟩⟩
      have D4 := (D1.trans D2).trans D3
      have e : (((1 + r2).toNat : Nat) : Int) = 1 + r2 := by omega
      have e' : (((1 + r3).toNat : Nat) : Int) = 1 + r3 := by omega
      refine k (.few (1 + r2).toNat (1 + r3).toNat) p _ ⟨by omega, by omega, by omega, by omega⟩ (D4.new hp) (D4.free hp) ?_
      show _ = some (HO.tup [.str "few", .int (((1 + r2).toNat : Nat) : Int), .int (((1 + r3).toNat : Nat) : Int)])
      rw [e, e']
      exact upd_same
end
end Bw

set_option Elab.async false
set_option linter.all false
set_option maxRecDepth 100000
set_option maxHeartbeats 4000000
namespace Bw
open PySem PySem.Spec PyProof.Rows L2
section
variable {P : Program} {w : World} {K : PySem.W.Frag} {mg : Str → Option Value} {base : Heap} {f : Addr} {fd : FuncData}
theorem ok__law_gone (F : FnP K "_law_gone" s__law_gone f fd) (g_len : mg "len" = none) (g_sum : mg "sum" = none) : FnOk P w K mg base CX0 1 f fd p__law_gone (spLGone K) := by
  refine F.ok sc__law_gone (fun vs H Q E h => ?_) (fun cdv A outer s H vs Q E hr h => ?_)
  · obtain ⟨q, l, r, hs, rfl, _⟩ := h
    rfl
  · obtain ⟨q, l, r, hs, rfl, hq, ho, hl, hz, k⟩ := h
    refine ⟨_, PSs.nox (pss_cons (ps_if (pt_cmpR op_lt (pe_callB call_len_seq (by rfl) g_len (by decide +kernel) (pa_cons (pv 1) pa_nil)) (pe_ix ix_tup (pv 0) pe_int (fun _ _ => rfl)) (nomark _))
          (pss_one (ps_ret pe_bl))
          pss_nil)
        (pss_cons (ps_set (i := 2) sc__law_gone.nd rfl (Or.inl rfl) (pe_slice sl_list (pv 1) (po_some (pe_op op_sub (pe_callB call_len_seq (by rfl) g_len (by decide +kernel) (pa_cons (pv 1) pa_nil)) (pe_ix ix_tup (pv 0) pe_int (fun _ _ => rfl)))) po_none))
        (pss_cons (ps_if (pt_cmpR op_eq (pe_ix ix_tup (pv 0) pe_int (fun _ _ => rfl)) pe_str (nomark _))
          (pss_one (ps_ret (pe_cmpR (op_eqD hr.units) (pe_lc (own := [("_law_many", 3)]) (g := gName 3) rfl sc__law_gone.nd (pi_list (pv 2)) (blkOk_by (own := [("_law_many", 3)]) (N := n__law_gone) (sc := defScope s__law_gone) (by decide +kernel)) (fun _ _ _ _ _ => (pg_name (i := 3) sc__law_gone.nd rfl (Or.inl rfl))) (fun _ _ _ _ _ => (pts_one (pt_cmpR op_gt (pv 3) pe_int (nomark _)))) (fun _ _ _ _ _ => (pv 3))) (pe_lst pa_nil) (nomark _))))
          pss_nil)
        (pss_one (ps_ret (pe_cmpR op_lt (pe_callB (cr_sum rfl) (by rfl) g_sum (by decide +kernel) (pa_cons (pv 2) pa_nil)) (pe_ix ix_tup (pv 0) pe_int (fun _ _ => rfl)) (nomark _))))))), ?_⟩
    refine ⟨_, rfl, l, _, rfl, Or.inl hl, _, rfl, q, _, _, _, rfl, rfl, hq, atI_nat (j := 1) r.at1, _, _, rfl, rfl, _, rfl, iteD (fun h => ?_) (fun h => ?_)⟩
    · rw [List.length_map] at h
      refine qb ?_ (k H (Same.refl H))
      have h' : ¬ r.wide ≤ hs.length := by omega
      cases r with
      | since n =>
        have h2 : ¬ n ≤ hs.length := h'
        simp [goneH, h2]
      | few a b =>
        have h2 : ¬ a ≤ hs.length := h'
        simp [goneH, h2]
    · rw [List.length_map] at h
      have h' : r.wide ≤ hs.length := by omega
      refine ⟨_, rfl, _, rfl, l, _, rfl, Or.inl hl, _, rfl, q, _, _, _, rfl, rfl, hq, atI_nat (j := 1) r.at1, _, _, rfl, rfl, _, rfl, l, _, rfl, hl, fun p hp => ?_⟩
      have ec : cutV (hs.map V.int) (some (((hs.map V.int).length : Int) - (r.wide : Int))) none = (lastN r.wide hs).map V.int := by
        have e0 : HT.sIx (hs.map V.int).length 0 (some (((hs.map V.int).length : Int) - (r.wide : Int))) = hs.length - r.wide := by
          rw [List.length_map]
          have e1 : ((hs.length : Int) - (r.wide : Int)) = (((hs.length - r.wide : Nat)) : Int) := by omega
          rw [e1, HT.sIx_nat]
          omega
        show ((hs.map V.int).drop (HT.sIx (hs.map V.int).length 0 (some (((hs.map V.int).length : Int) - (r.wide : Int))))).take ((hs.map V.int).length - (HT.sIx (hs.map V.int).length 0 (some (((hs.map V.int).length : Int) - (r.wide : Int))))) = _
        rw [e0, map_cut]
        rfl
      rw [ec]
      have s1 : Same H (upd H p (.lst ((lastN r.wide hs).map V.int))) := Same.newB hp
      have hlen : (lastN r.wide hs).length ≤ 1000 := by rw [lastN_len]; omega
      cases r with
      | since n =>
        refine ⟨_, rfl, q, _, _, _, rfl, rfl, s1.tupB hq, atI_nat (j := 0) rfl, rfl, _, rfl, iteD (fun _ => ?_) (fun h => absurd rfl h)⟩
        generalize hL : lastN (Rule.since n).wide hs = ls at *
        refine ⟨_, rfl, p, rfl, ⟨_, SqL.of upd_same⟩, fun D hD => lc_list (K := K) (a := p) (xs := ls.map V.int) (fun i H2 => Same (upd H p (.lst (ls.map V.int))) H2 ∧ H2 D = some (.lst (((ls.take i).filter fun m => decide (0 < m)).map V.int))) ⟨Same.newB hD, by rw [upd_same]; rfl⟩ (fun i H2 _ ⟨s2, _⟩ => SqL.of (s2 _ _ upd_same)) ?_ ?_⟩
        · rintro i y H2 hi ⟨s2, e2⟩
          obtain ⟨c, hc, rfl⟩ := int_at hi
          have et : ls.take (i + 1) = ls.take i ++ [c] := by rw [List.take_succ, hc]; rfl
          have hfl : ((ls.take i).filter fun m => decide (0 < m)).length ≤ 1000 := Nat.le_trans (List.length_filter_le _ _) (by rw [List.length_take]; omega)
          refine ⟨rfl, _, rfl, _, _, rfl, rfl, _, rfl, iteD (fun h => ?_) (fun h => ?_)⟩
          · refine ⟨_, rfl, _, e2, szlt (by rw [List.length_map]; omega), s2.mutB hD, ?_⟩
            rw [upd_same, et, List.filter_append, List.filter_cons, if_pos (by simpa using h), List.map_append]
            rfl
          · refine ⟨s2, ?_⟩
            rw [e2, et, List.filter_append, List.filter_cons, if_neg (by simpa using h)]
            simp
        · rintro H2 ⟨s2, e2⟩
          rw [List.length_map, List.take_length] at e2
          refine ⟨szle (Nat.le_of_ble_eq_true rfl), fun e he => ⟨.list ((ls.filter fun m => decide (0 < m)).map PyData.int), .list [], .lst (SqL.of (Same.newB he _ _ e2)) (dp_ints _), .lst (SqL.of upd_same) .nil, PySem.W.ke_shaped_ints _, PySem.W.ke_shaped_ints [], ?_⟩⟩
          refine qb ?_ (k _ ((s1.trans s2).moreB he))
          rw [eqv_nil]
          have h2 : n ≤ hs.length := h'
          show (decide (n ≤ hs.length) && decide ((lastN n hs).filter (fun m => decide (0 < m)) = [])) = _
          have hL' : lastN n hs = ls := hL
          rw [hL']
          simp [h2]
      | few a b =>
        refine ⟨_, rfl, q, _, _, _, rfl, rfl, s1.tupB hq, atI_nat (j := 0) rfl, rfl, _, rfl, iteD (fun h => absurd (V.str.inj h) few_since) (fun _ => ?_)⟩
        refine ⟨_, rfl, p, _, rfl, SqL.of upd_same, _, rfl, q, _, _, _, rfl, rfl, s1.tupB hq, atI_nat (j := 2) rfl, _, _, rfl, rfl, ?_⟩
        refine qb ?_ (k _ s1)
        have h2 : a ≤ hs.length := h'
        show (decide (a ≤ hs.length) && decide ((lastN a hs).sum < (b : Int))) = _
        rw [decide_eq_true h2]
        rfl
end
end Bw

set_option Elab.async false
set_option linter.all false
set_option maxRecDepth 100000
set_option maxHeartbeats 4000000
namespace Bw
open PySem PySem.Spec PyProof.Rows L2
section
variable {P : Program} {w : World} {K : PySem.W.Frag} {mg : Str → Option Value} {base : Heap} {f : Addr} {fd : FuncData}
theorem ok_need_heard {t1 t2 : Tok} (F : FnP K "need_heard" s_need_heard f fd) (g_enumerate : mg "enumerate" = none) (g_MOST_MOMENTS : mg "MOST_MOMENTS" = some (.int 200 t1)) (g_MOST_HEARD : mg "MOST_HEARD" = some (.int 9 t2)) : FnOk P w K mg base CX0 1 f fd ["heard"] (spNeedHeard K) := by
  refine F.ok sc_need_heard (fun vs H Q E h => ?_) (fun cdv A outer s H vs Q E hr h => ?_)
  · obtain ⟨l, hs, rfl, _⟩ := h
    rfl
  · obtain ⟨l, hs, rfl, hl, ho, k⟩ := h
    refine ⟨_, PSs.nox (pss_one (ps_for PassesOwn.never rfl (pi_enum (by rfl) g_enumerate (pa_cons (pv 0) pa_nil)) (pg_tup rfl (pgs_cons (pg_name (i := 1) sc_need_heard.nd rfl (Or.inl rfl)) (pgs_cons (pg_name (i := 2) sc_need_heard.nd rfl (Or.inl rfl)) pgs_nil)))
        (pss_one (ps_if (PW.pt (pw_or (pt_cmpR op_ge (pv 1) (pe_gI rfl g_MOST_MOMENTS) (nomark _)) (pw_or1 (pt_not (pt_chain op_le op_le pe_int (pv 2) (pe_gI rfl g_MOST_HEARD))))))
          (pss_one ps_never)
          pss_nil)))), ?_⟩
    refine ⟨_, rfl, l, _, rfl, hl, for_enum (K := K) (a := l) (xs := hs.map V.int) (fun i σ H' => Same H H' ∧ ∃ v1 v2, σ = [some (.ref l), v1, v2]) ⟨Same.refl H, none, none, rfl⟩ (fun i σ H' _ ⟨s1, _⟩ => s1.seq hl) ?_ ?_⟩
    · rintro i y σ H' T hi ⟨s1, v1, v2, rfl⟩ nT
      have hil := (List.getElem?_eq_some_iff.mp hi).1
      rw [List.length_map] at hil
      obtain ⟨c, hc, rfl⟩ := int_at hi
      have hb := ho.2 c (List.mem_of_getElem? hc)
      have hn := ho.1
      refine ⟨T, _, rfl, SqT.of upd_same, rfl, _, _, rfl, _, _, rfl, rfl, ?_⟩
      refine ⟨_, rfl, _, _, rfl, rfl, _, rfl, iteD (fun h => absurd h (by omega)) (fun _ => ?_)⟩
      refine ⟨_, rfl, _, _, rfl, rfl, _, rfl, iteD (fun _ => ?_) (fun h => absurd hb.1 h)⟩
      refine ⟨_, _, rfl, rfl, _, rfl, ?_⟩
      rw [decide_eq_true hb.2]
      exact iteF ⟨s1.moreB nT, _, _, rfl⟩
    · rintro σ H' ⟨s1, v1, v2, rfl⟩
      exact k _ s1
end
end Bw

set_option Elab.async false
set_option linter.all false
set_option maxRecDepth 100000
set_option maxHeartbeats 4000000
namespace Bw
open PySem PySem.Spec PyProof.Rows L2
section
variable {P : Program} {w : World} {K : PySem.W.Frag} {mg : Str → Option Value} {base : Heap} {f : Addr} {fd : FuncData}
theorem pick6 {r : Int} (h0 : 0 ≤ r) (h1 : r < 6) : ∃ e : Nat, 1 ≤ e ∧ e ≤ 4 ∧ atI [V.int 1, V.int 2, V.int 3, V.int 4, V.int 2, V.int 3] r = some (V.int (e : Int)) := by
  obtain ⟨n, rfl⟩ := Int.eq_ofNat_of_zero_le h0
  have h : n = 0 ∨ n = 1 ∨ n = 2 ∨ n = 3 ∨ n = 4 ∨ n = 5 := by omega
  rcases h with rfl | rfl | rfl | rfl | rfl | rfl
  · exact ⟨1, by omega, by omega, atI_nat (j := 0) rfl⟩
  · exact ⟨2, by omega, by omega, atI_nat (j := 1) rfl⟩
  · exact ⟨3, by omega, by omega, atI_nat (j := 2) rfl⟩
  · exact ⟨4, by omega, by omega, atI_nat (j := 3) rfl⟩
  · exact ⟨2, by omega, by omega, atI_nat (j := 4) rfl⟩
  · exact ⟨3, by omega, by omega, atI_nat (j := 5) rfl⟩
theorem ok__law_line (F : FnP K "_law_line" s__law_line f fd) (g_int : mg "int" = none) (h__law_off : Has P w K mg base 1 "_law_off" p__law_off spOff) : FnOk P w K mg base CX0 2 f fd ["_law_d"] spLine := by
  refine F.ok sc__law_line (fun vs H Q E h => ?_) (fun cdv A outer s H vs Q E hr h => ?_)
  · obtain ⟨d, rfl, _⟩ := h
    rfl
  · obtain ⟨d, rfl, hd, k⟩ := h
    refine ⟨_, PSs.nox (pss_cons (ps_set (i := 1) sc__law_line.nd rfl (Or.inl rfl) (pe_ix ix_list (pe_lst (pa_cons pe_int (pa_cons pe_int (pa_cons pe_int (pa_cons pe_int (pa_cons pe_int (pa_cons pe_int pa_nil))))))) (pe_fn h__law_off hr rfl (pa_cons (pv 0) (pa_cons pe_int pa_nil))) (fun _ _ => rfl)))
        (pss_cons (ps_set (i := 2) sc__law_line.nd rfl (Or.inl rfl) (pe_fn h__law_off hr rfl (pa_cons (pv 0) (pa_cons pe_int pa_nil))))
        (pss_one (ps_ret (pe_tup (pa_cons (pv 1) (pa_cons (pv 2) (pa_cons (pe_op op_mul (pe_fn h__law_off hr rfl (pa_cons (pv 0) (pa_cons pe_int pa_nil))) (pe_callTy call_int1 (by rfl) g_int (by decide +kernel) (pa_cons (pe_or (pe_cmpR op_gt (pv 1) pe_int (nomark _)) (pe_one (pe_cmpR op_lt (pv 2) pe_int (nomark _)))) pa_nil))) pa_nil)))))))), ?_⟩
    refine ⟨szle (Nat.le_of_ble_eq_true rfl), fun u hu => ⟨_, rfl, d, 6, rfl, hd.same (Same.newB hu), by decide, by decide, fun r1 H1 h1 g1 D1 => ?_⟩⟩
    have D1' : Dr d H H1 := (Dr.ofSame hd (Same.newB hu)).trans D1
    obtain ⟨e, he1, he4, hat⟩ := pick6 h1 g1
    refine ⟨u, _, _, _, rfl, rfl, SqL.of (D1.keep _ _ (hd.ne hu) upd_same), hat, ?_⟩
    refine ⟨_, rfl, d, 4, rfl, D1.dice, by decide, by decide, fun r2 H2 h2 g2 D2 => ?_⟩
    refine ⟨_, rfl, _, rfl, _, rfl, d, 3, rfl, D2.dice, by decide, by decide, fun r3 H3 h3 g3 D3 => ?_⟩
    have D := (D1'.trans D2).trans D3
    have fin : ∀ b : Bool, (b = false → ¬ ((e : Int) > 1) ∧ ¬ (r2 < 3)) → (b = true → (e : Int) > 1 ∨ r2 < 3) → ∀ p, H3 p = none → Q (.ref p) (upd H3 p (.tup [.int e, .int r2, .int (r3 * b2i b)])) := by
      intro b hb hb' p hp
      have hz : ∃ z : Nat, r3 * b2i b = (z : Int) ∧ z ≤ 2 ∧ (b = false → z = 0) := by
        cases b with
        | false => exact ⟨0, by show r3 * 0 = 0; omega, by omega, fun _ => rfl⟩
        | true => exact ⟨r3.toNat, by show r3 * 1 = _; omega, by omega, fun h => nomatch h⟩
      obtain ⟨z, ez, hz2, hz0⟩ := hz
      refine k ⟨e, r2.toNat, z⟩ p _ ⟨he1, he4, by show r2.toNat ≤ 3; omega, hz2⟩ (fun h1 h2 => ?_) (D.new hp) (D.free hp) ?_
      · have h1' : e = 1 := h1
        have h2' : r2.toNat = 3 := h2
        cases b with
        | false => exact hz0 rfl
        | true => exact absurd (hb' rfl) (by omega)
      · show _ = some (HO.tup [.int (e : Int), .int ((r2.toNat : Nat) : Int), .int (z : Int)])
        rw [ez, upd_same]
        have e2 : ((r2.toNat : Nat) : Int) = r2 := by omega
        rw [e2]
    refine ⟨_, rfl, _, _, rfl, rfl, _, rfl, iteD (fun hc => ?_) (fun hc => ?_)⟩
    · refine Or.inr ⟨_, rfl, ⟨_, _, rfl, rfl, Or.inl ⟨by omega, by omega⟩, ?_⟩⟩
      exact ⟨szle (Nat.le_of_ble_eq_true rfl), fin true (fun h => nomatch h) (fun _ => .inl hc)⟩
    · refine ⟨_, rfl, _, _, rfl, rfl, Or.inr ⟨_, rfl, ⟨_, _, rfl, rfl, Or.inl ⟨by omega, by omega⟩, ?_⟩⟩⟩
      refine ⟨szle (Nat.le_of_ble_eq_true rfl), fin _ (fun h => ⟨hc, of_decide_eq_false h⟩) (fun h => .inr (of_decide_eq_true h))⟩
end
end Bw

set_option Elab.async false
set_option linter.all false
set_option maxRecDepth 100000
set_option maxHeartbeats 4000000
namespace Bw
open PySem PySem.Spec PyProof.Rows L2
section
variable {P : Program} {w : World} {K : PySem.W.Frag} {mg : Str → Option Value} {base : Heap} {f : Addr} {fd : FuncData}
theorem ok_told {C : Addr} (F : FnP K "told" s_told f fd) (h_need_rule : Has P w K mg base 2 "need_rule" ["rule"] (spNeedRule K)) (h_need_heard : Has P w K mg base 1 "need_heard" ["heard"] (spNeedHeard K))
    (h_Watcher : HasC P w K mg base 3 "Watcher" C p_Watcher___init__ (spWInit K C)) (h_Watcher_hear : HasM P w K mg base 2 C "hear" p_Watcher_hear (spHear K C)) : FnOk P w K mg base CX0 5 f fd p_told (spTold K) := by
  refine F.ok sc_told (fun vs H Q E h => ?_) (fun cdv A outer s H vs Q E hr h => ?_)
  · obtain ⟨q, l, r, hs, rfl, _⟩ := h
    rfl
  · obtain ⟨q, l, r, hs, rfl, hq, ho, hl, hh, k⟩ := h
    refine ⟨_, PSs.nox (pss_cons (ps_expr (pe_fn h_need_rule hr rfl (pa_cons (pv 0) pa_nil)))
        (pss_cons (ps_expr (pe_fn h_need_heard hr rfl (pa_cons (pv 1) pa_nil)))
        (pss_cons (ps_set (i := 2) sc_told.nd rfl (Or.inr rfl) (pe_new h_Watcher hr rfl (pa_cons (pv 0) pa_nil)))
        (pss_one (ps_ret (pe_lc (own := [("many", 3)]) (g := gName 3) rfl sc_told.nd (pi_list (pv 1)) (blkOk_by (own := [("many", 3)]) (N := n_told) (sc := defScope s_told) (by decide +kernel)) (fun _ _ _ _ _ => (pg_name (i := 3) sc_told.nd rfl (Or.inl rfl))) (fun _ _ _ _ _ => pts_nil) (fun _ _ _ _ _ => (pe_mth h_Watcher_hear (pv 2) hr (pa_cons (pv 3) pa_nil))))))))), ?_⟩
    refine ⟨_, rfl, q, r, rfl, hq, ho, ?_⟩
    refine ⟨_, rfl, l, hs, rfl, hl, hh, fun H1 s1 => ?_⟩
    refine ⟨_, rfl, fun x dx nx ndx ne => ?_⟩
    have keep0 : Same H1 (upd (upd H1 dx (.own x)) x (.ins C dx [])) := (Same.newB ndx).moreB (by rw [upd_ne (Ne.symm ne)]; exact nx)
    refine ⟨x, q, dx, r, rfl, upd_same, keep0.tupB (s1.tupB hq), ho, fun H2 hW kp => ⟨rfl, ?_⟩⟩
    have s2 : Same H1 H2 := fun b o hb => kp b o (ne_of_none hb nx) (keep0 b o hb)
    have s3 : Same H H2 := s1.trans s2
    have nx0 : H x = none := s1.free nx
    have hn := hh.1
    refine ⟨_, rfl, l, rfl, ⟨_, s3.seq hl⟩, fun D hD => lc_list (K := K) (a := l) (xs := hs.map V.int) (fun i H' => Same H H' ∧ WAt K C H' x r (stOf r (hs.take i)) ∧ H' D = some (.lst (((List.range i).map fun j => goneH r (hs.take (j + 1))).map V.bl))) ⟨s3.moreB hD, hW.same (Same.newB hD), upd_same⟩ (fun i H' _ h => h.1.seq hl) ?_ ?_⟩
    · rintro i y H' hi ⟨s', hW', e'⟩
      have hil := (List.getElem?_eq_some_iff.mp hi).1
      rw [List.length_map] at hil
      obtain ⟨c, hc, rfl⟩ := int_at hi
      obtain ⟨dx', q', t', hx, _⟩ := hW'.ex
      have et : hs.take (i + 1) = hs.take i ++ [c] := by rw [List.take_succ, hc]; rfl
      refine ⟨rfl, _, rfl, x, dx', _, rfl, hx, wF_no _ _ (by decide +kernel) (by decide +kernel), _, rfl, x, c, r, _, rfl, hW', ho, stOk_of _ _, fun H3 hW3 kp3 => ?_⟩
      have xD : D ≠ x := ne_of e' hx (by intro z; cases z)
      have e3 := kp3 _ _ xD e'
      refine ⟨_, e3, szlt (by rw [List.length_map, List.length_map, List.length_range]; omega), ?_, ?_, ?_⟩
      · have s4 : Same H H3 := fun b o hb => kp3 b o (ne_of_none hb nx0) (s' b o hb)
        exact s4.mutB (s3.free hD)
      · rw [et, stOf_snoc]
        exact hW3.keep (keepL e3)
      · rw [upd_same, List.range_succ, List.map_append, List.map_append, ← stOf_snoc, gone_is r ho, ← et]
        rfl
    · rintro H' ⟨s', hW', e'⟩
      rw [List.length_map] at e'
      exact k D H' s' (s3.free hD) e'
theorem ok_turns (F : FnP K "turns" s_turns f fd) (g_enumerate : mg "enumerate" = none) (h_told : Has P w K mg base 5 "told" p_told (spTold K)) : FnOk P w K mg base CX0 6 f fd p_turns (spTurns K) := by
  refine F.ok sc_turns (fun vs H Q E h => ?_) (fun cdv A outer s H vs Q E hr h => ?_)
  · obtain ⟨q, l, r, hs, rfl, _⟩ := h
    rfl
  · obtain ⟨q, l, r, hs, rfl, hq, ho, hl, hh, k⟩ := h
    refine ⟨_, PSs.nox (pss_cons (ps_set (i := 2) sc_turns.nd rfl (Or.inl rfl) (pe_lst pa_nil))
        (pss_cons (ps_set (i := 3) sc_turns.nd rfl (Or.inl rfl) pe_bl)
        (pss_cons (ps_for PassesOwn.never rfl (pi_enum (by rfl) g_enumerate (pa_cons (pe_fn h_told hr rfl (pa_cons (pv 0) (pa_cons (pv 1) pa_nil))) pa_nil)) (pg_tup rfl (pgs_cons (pg_name (i := 4) sc_turns.nd rfl (Or.inl rfl)) (pgs_cons (pg_name (i := 5) sc_turns.nd rfl (Or.inl rfl)) pgs_nil)))
          (Evl.pss_cut (ps_if (pt_cmpR op_ne (pv 5) (pv 3) (nomark _))
              (pss_one (ps_expr (pe_bm PySem.F.plainAttrs_list PySem.F.slot_list_append PySem.F.type_list_append mt_append (pv 2) (pa_cons (pe_tup (pa_cons (pv 4) (pa_cons (pe_ifExp (pt_val (pv 5)) pe_str pe_str) pa_nil))) pa_nil))))
              pss_nil)
            (pss_one (ps_set (i := 3) sc_turns.nd rfl (Or.inl rfl) (pv 5)))))
        (pss_one (ps_ret (pv 2)))))), ?_⟩
    refine ⟨szle (Nat.le_of_ble_eq_true rfl), fun fo nfo => ?_⟩
    have s0 : Same H (upd H fo (.lst [])) := Same.newB nfo
    refine ⟨_, rfl, _, rfl, q, l, r, hs, rfl, s0.tupB hq, ho, s0.seq hl, hh, fun tp H1 s1 np hp => ?_⟩
    have hn := hh.1
    have ntp0 : tp ≠ fo := Ne.symm (ne_of_none (upd_same (H := H) (a := fo) (o := .lst [])) np)
    generalize hB : toldOf r hs = bs at *
    have hbl : bs.length = hs.length := by rw [← hB, toldOf_len]
    refine ⟨tp, _, rfl, SqL.of hp, for_enum (K := K) (a := tp) (xs := bs.map V.bl) (fun i σ H' => Same H H' ∧ H' tp = some (.lst (bs.map V.bl)) ∧ ∃ xs v4 v5, σ = [some (.ref q), some (.ref l), some (.ref fo), some (.bl ((false :: bs).getD i false)), v4, v5] ∧ H' fo = some (.lst xs) ∧ DpAll K H' xs (turnsTo bs i)) ?_ (fun i σ H' _ h => SqL.of h.2.1) ?_ ?_⟩
    · exact ⟨s0.trans s1, hp, [], none, none, rfl, s1 _ _ upd_same, .nil⟩
    · rintro i y σ H' T hi ⟨s', e', xs, v4, v5, rfl, ef, hD⟩ nT
      have hil := (List.getElem?_eq_some_iff.mp hi).1
      rw [List.length_map] at hil
      obtain ⟨b, hb, rfl⟩ : ∃ b, bs[i]? = some b ∧ y = V.bl b := by
        rw [List.getElem?_map] at hi
        cases e : bs[i]? with
        | none => rw [e] at hi; cases hi
        | some z => rw [e] at hi; exact ⟨z, rfl, (Option.some.inj hi).symm⟩
      have hgd : bs.getD i false = b := by rw [List.getD_eq_getElem?_getD, hb]; rfl
      have hgd1 : (false :: bs).getD (i + 1) false = b := by rw [← hgd]; rfl
      have sT : Same H' (upd H' T (.tup [.int (i : Int), .bl b])) := Same.newB nT
      refine ⟨T, _, rfl, SqT.of upd_same, rfl, _, _, rfl, _, _, rfl, rfl, ?_⟩
      refine ⟨fun σ2 H2 => Same H H2 ∧ H2 tp = some (.lst (bs.map V.bl)) ∧ ∃ xs v4 v3, σ2 = [some (.ref q), some (.ref l), some (.ref fo), v3, v4, some (.bl b)] ∧ H2 fo = some (.lst xs) ∧ DpAll K H2 xs (turnsTo bs (i + 1)), ?_, ?_⟩
      · refine ⟨_, rfl, _, rfl, rfl, _, rfl, ?_⟩
        refine iteN (fun h => ?_) (fun h => ?_)
        · have h' : ¬ bs.getD i false = (false :: bs).getD i false := fun e => h (by rw [← e, hgd])
          have step : ∀ (z : Str), (if b = true then ("gone" : Str) else "back") = z → ∀ T2 H2, Same (upd H' T (.tup [.int (i : Int), .bl b])) H2 → H2 T2 = some (.tup [.int (i : Int), .str z]) → DpAll K (upd H2 fo (.lst (xs ++ [.ref T2]))) (xs ++ [.ref T2]) (turnsTo bs (i + 1)) := by
            intro z hz T2 H2 sm hT2
            rw [turnsTo_succ_ne h', hgd, hz]
            have hf2 := sm _ _ (sT _ _ ef)
            refine DpAll.keepL (keepL hf2) (DpAll.snoc (DpAll.same sm (DpAll.same sT hD)) (.tup (SqT.of hT2) (.cons (.int _) (.cons (.str _) .nil)))) ?_
            have := turnsTo_noL bs (i + 1)
            rw [turnsTo_succ_ne h', hgd, hz] at this
            exact this
          refine ⟨_, rfl, Or.inl ⟨rfl, _, SqL.of (sT _ _ ef)⟩, _, rfl, _, rfl, b, rfl, ?_⟩
          have hxl : xs.length ≤ i := by
            have := DpAll.len hD
            have := turnsTo_len bs i
            omega
          cases b with
          | true => exact iteT ⟨szle (Nat.le_of_ble_eq_true rfl), fun T2 nT2 => ⟨fo, xs, _, rfl, rfl, (Same.newB nT2) _ _ (sT _ _ ef), szlt (by omega), (s'.trans (sT.trans (Same.newB nT2))).mutB nfo, by rw [upd_ne ntp0]; exact (Same.newB nT2) _ _ (sT _ _ e'), _, _, _, rfl, upd_same, step "gone" rfl T2 _ (Same.newB nT2) upd_same⟩⟩
          | false => exact iteF ⟨szle (Nat.le_of_ble_eq_true rfl), fun T2 nT2 => ⟨fo, xs, _, rfl, rfl, (Same.newB nT2) _ _ (sT _ _ ef), szlt (by omega), (s'.trans (sT.trans (Same.newB nT2))).mutB nfo, by rw [upd_ne ntp0]; exact (Same.newB nT2) _ _ (sT _ _ e'), _, _, _, rfl, upd_same, step "back" rfl T2 _ (Same.newB nT2) upd_same⟩⟩
        · have h' : bs.getD i false = (false :: bs).getD i false := by rw [hgd]; exact V.bl.inj h
          refine ⟨s'.trans sT, sT _ _ e', xs, _, _, rfl, sT _ _ ef, ?_⟩
          rw [turnsTo_succ_eq h']
          exact DpAll.same sT hD
      · rintro σ2 H2 ⟨s2, e2, xs2, u4, u3, rfl, ef2, hD2⟩
        refine ⟨_, rfl, s2, e2, xs2, u4, some (.bl b), ?_, ef2, hD2⟩
        rw [hgd1]
        rfl
    · rintro σ H' ⟨s', e', xs, v4, v5, rfl, ef, hD⟩
      rw [List.length_map, hbl] at hD
      exact ⟨_, rfl, k fo H' xs s' nfo ef hD⟩
end
end Bw

set_option Elab.async false
set_option linter.all false
set_option maxRecDepth 100000
set_option maxHeartbeats 4000000
namespace Bw
open PySem PySem.Spec PyProof.Rows L2
section
variable {P : Program} {w : World} {K : PySem.W.Frag} {mg : Str → Option Value} {base : Heap} {f : Addr} {fd : FuncData}
theorem ok__law_run (F : FnP K "_law_run" s__law_run f fd) (g_len : mg "len" = none) (g_range : mg "range" = none) (h__law_off : Has P w K mg base 1 "_law_off" p__law_off spOff) : FnOk P w K mg base CX0 2 f fd p__law_run (spRun K) := by
  refine F.ok sc__law_run (fun vs H Q E h => ?_) (fun cdv A outer s H vs Q E hr h => ?_)
  · obtain ⟨d, lp, l, th, mo, rfl, _⟩ := h
    rfl
  · obtain ⟨d, lp, l, th, mo, rfl, hd, hl, lo, hth, hmo, k⟩ := h
    refine ⟨_, PSs.nox (pss_cons (ps_set (i := 4) sc__law_run.nd rfl (Or.inl rfl) (pe_op op_rep (pe_lst (pa_cons pe_int pa_nil)) (pe_op op_add (pv 2) (pv 3))))
        (pss_cons (ps_set (i := 5) sc__law_run.nd rfl (Or.inl rfl) (pe_op op_add pe_int (pe_fn h__law_off hr rfl (pa_cons (pv 0) (pa_cons pe_int pa_nil)))))
        (pss_cons (ps_set (i := 6) sc__law_run.nd rfl (Or.inl rfl) pe_int)
        (pss_cons (ps_for PassesOwn.never rfl (pi_range3 rfl g_range (pa_cons pe_int (pa_cons (pv 2) (pa_cons (pe_ix ix_tup (pv 1) pe_int (fun _ _ => rfl)) pa_nil)))) (pg_name (i := 7) sc__law_run.nd rfl (Or.inl rfl))
          (pss_one (ps_if (pt_cut (PW.pt (pw_and (pt_cmpR op_lt (pv 6) (pe_ix ix_tup (pv 1) pe_int (fun _ _ => rfl)) (nomark _)) (pw_and1 (pt_cmpR op_eq (pe_fn h__law_off hr rfl (pa_cons (pv 0) (pa_cons (pv 5) pa_nil))) pe_int (nomark _))))))
            (pss_one (ps_set (i := 6) sc__law_run.nd rfl (Or.inl rfl) (pe_op op_add (pv 6) pe_int)))
            (pss_cons (ps_set (i := 6) sc__law_run.nd rfl (Or.inl rfl) pe_int)
              (pss_cons (ps_set (i := 8) sc__law_run.nd rfl (Or.inl rfl) (pe_op op_add (pv 7) (pe_ix ix_list (pe_lst (pa_cons (pe_fn h__law_off hr rfl (pa_cons (pv 0) (pa_cons (pe_op op_add (pe_ix ix_tup (pv 1) pe_int (fun _ _ => rfl)) pe_int) pa_nil))) (pa_cons pe_int (pa_cons (pe_ix ix_tup (pv 1) pe_int (fun _ _ => rfl)) pa_nil)))) (pe_fn h__law_off hr rfl (pa_cons (pv 0) (pa_cons pe_int pa_nil))) (fun _ _ => rfl))))
              (pss_one (ps_if (pt_cmpR op_lt (pv 8) (pe_callB call_len_seq (by rfl) g_len (by decide +kernel) (pa_cons (pv 4) pa_nil)) (nomark _))
                (pss_one (ps_asg (pe_op op_add (pe_ix ix_list (pv 4) (pv 8) (fun _ _ => rfl)) pe_int) (pg_sub (pv 4) (pv 8) set_list)))
                pss_nil)))))))
        (pss_one (ps_ret (pv 4))))))), ?_⟩
    have hE := lo.e1
    have hE4 := lo.e4
    have hL3 := lo.l3
    refine ⟨szle (Nat.le_of_ble_eq_true rfl), fun z nz => ⟨_, rfl, _, rfl, _, _, rfl, rfl, ?_⟩⟩
    refine ⟨z, _, [V.int 0], rfl, rfl, upd_same, by omega, by omega, szle (by show 1 * ((th : Int) + (mo : Int)).toNat ≤ _; omega), fun hp nhp => ?_⟩
    have sA : Same H (upd (upd H z (.lst [.int 0])) hp (.lst (List.replicate ((th : Int) + (mo : Int)).toNat [V.int 0]).flatten)) := (Same.newB nz).moreB nhp
    have eR : (List.replicate ((th : Int) + (mo : Int)).toNat [V.int 0]).flatten = (heardOf l.each [] (th + mo)).map V.int := by
      have e0 : ((th : Int) + (mo : Int)).toNat = th + mo := by omega
      rw [e0, heardOf_nil]
      generalize th + mo = n
      induction n with
      | zero => rfl
      | succ n ih => rw [List.replicate_succ, List.replicate_succ, List.flatten_cons, List.map_cons, ih]; rfl
    rw [eR] at sA ⊢
    have nhp0 : H hp = none := (Same.newB nz).free nhp
    have hpd : hp ≠ d := hd.ne nhp0
    have hA : upd (upd H z (.lst [.int 0])) hp (.lst ((heardOf l.each [] (th + mo)).map V.int)) hp = some (.lst ((heardOf l.each [] (th + mo)).map V.int)) := upd_same
    revert sA hA
    generalize upd (upd H z (.lst [.int 0])) hp (.lst ((heardOf l.each [] (th + mo)).map V.int)) = HA
    intro sA hA
    have dA : Dr d H HA := Dr.ofSame hd sA
    refine ⟨_, rfl, d, 3, rfl, dA.dice, by decide, by decide, fun r0 HB h0 g0 DB => ⟨_, _, rfl, rfl, ?_⟩⟩
    have dB : Dr d H HB := dA.trans DB
    have hB := DB.keep _ _ hpd hA
    refine ⟨_, rfl, _, rfl, lp, _, _, _, rfl, rfl, dB.tup hd hl, atI_nat (j := 0) rfl, 0, (th : Int), (l.each : Int), (th + l.each - 1) / l.each, rfl, rgc_up (by omega) ⟨hE, hE4⟩, ?_⟩
    refine for_rangeC (lo := 0) (c := (l.each : Int)) (n := (th + l.each - 1) / l.each) (fun i σ H' => Dr d H H' ∧ ∃ (r : Nat) (os : List (Option Nat)) (v7 v8 : Option V), σ = [some (.ref d), some (.ref lp), some (.int th), some (.int mo), some (.ref hp), some (.int (2 + r0)), some (.int r), v7, v8] ∧ Outs l r os ∧ os.length = i ∧ H' hp = some (.lst ((heardOf l.each os (th + mo)).map V.int))) ?_ ?_ ?_
    · exact ⟨dB, 0, [], none, none, rfl, .nil, rfl, hB⟩
    · rintro i σ H' hi ⟨dC, r, os, v7, v8, rfl, hO, hlen, hH⟩
      refine ⟨fun b H2 => Dr d H H2 ∧ H2 hp = some (.lst ((heardOf l.each os (th + mo)).map V.int)) ∧ (b = true → r < l.lost), ?_, ?_⟩
      · refine ⟨_, rfl, _, rfl, lp, _, _, _, rfl, rfl, dC.tup hd hl, atI_nat (j := 2) rfl, _, _, rfl, rfl, _, rfl, iteD (fun h => ?_) (fun h => ⟨dC, hH, fun z => nomatch z⟩)⟩
        refine ⟨_, rfl, _, rfl, d, _, rfl, dC.dice, by omega, by omega, fun r1 H2 h1 g1 D2 => ⟨rfl, _, rfl, ?_⟩⟩
        exact ⟨dC.trans D2, D2.keep _ _ hpd hH, fun _ => by omega⟩
      · rintro b H2 ⟨d2, h2, hb⟩
        cases b with
        | true =>
          refine iteT ⟨_, rfl, _, _, rfl, rfl, ?_⟩
          refine ⟨d2, r + 1, os ++ [none], _, _, rfl, .lose hO (hb rfl), by rw [List.length_append, hlen]; rfl, ?_⟩
          rw [heardOf_lose]
          exact h2
        | false =>
          refine iteF ⟨_, rfl, _, rfl, _, rfl, lp, _, _, _, rfl, rfl, d2.tup hd hl, atI_nat (j := 1) rfl, _, _, rfl, rfl, d, _, rfl, d2.dice, by omega, by omega, fun r1 H3 h1 g1 D3 => ?_⟩
          have d3 := d2.trans D3
          refine ⟨_, rfl, lp, _, _, _, rfl, rfl, d3.tup hd hl, atI_nat (j := 1) rfl, szle (Nat.le_of_ble_eq_true rfl), fun li nli => ?_⟩
          have d4 : Dr d H (upd H3 li (.lst [.int r1, .int 0, .int l.late])) := d3.new nli
          refine ⟨_, rfl, d, 3, rfl, d4.dice, by decide, by decide, fun r2 H5 h2' g2 D5 => ?_⟩
          have d5 := d4.trans D5
          have hli : H5 li = some (.lst [.int r1, .int 0, .int l.late]) := D5.keep _ _ (d3.dice.ne nli) upd_same
          have h5 : H5 hp = some (.lst ((heardOf l.each os (th + mo)).map V.int)) := D5.keep _ _ hpd ((Same.newB nli) _ _ (D3.keep _ _ hpd h2))
          obtain ⟨dd, hdd, hat⟩ : ∃ dd : Nat, dd ≤ l.late ∧ atI [V.int r1, V.int 0, V.int l.late] r2 = some (V.int (dd : Int)) := by
            obtain ⟨v, hv, he⟩ := pickL (xs := [V.int r1, V.int 0, V.int l.late]) h2' g2
            rcases List.mem_cons.mp hv with rfl | hv
            · exact ⟨r1.toNat, by omega, by rw [he]; congr 2; omega⟩
            rcases List.mem_cons.mp hv with rfl | hv
            · exact ⟨0, by omega, he⟩
            rcases List.mem_cons.mp hv with rfl | hv
            · exact ⟨l.late, by omega, he⟩
            · cases hv
          refine ⟨li, _, _, _, rfl, rfl, SqL.of hli, hat, _, _, rfl, rfl, ?_⟩
          have ei : (0 : Int) + (i : Int) * (l.each : Int) + (dd : Int) = ((os.length * l.each + dd : Nat) : Int) := by
            rw [hlen]
            push_cast
            omega
          refine ⟨_, rfl, _, rfl, hp, _, rfl, Or.inl (SqL.of h5), _, _, rfl, rfl, _, rfl, ?_⟩
          refine iteD (fun h => ?_) (fun h => ?_)
          · rw [List.length_map, heardOf_len, ei] at h
            have h' : os.length * l.each + dd < th + mo := by omega
            refine ⟨_, rfl, _, rfl, hp, _, _, _, rfl, rfl, SqL.of h5, by rw [ei]; exact atI_nat (by rw [List.getElem?_map, heardOf_at h']; rfl), _, _, rfl, rfl, ?_⟩
            refine ⟨_, rfl, _, rfl, hp, _, _, _, rfl, rfl, h5, by rw [ei]; exact ixN_nat (by rw [List.length_map, heardOf_len]; exact h'), ?_⟩
            refine ⟨⟨?_, fun b o nb hb => ?_⟩, 0, os ++ [some dd], _, _, rfl, .hear hO dd hdd, by rw [List.length_append, hlen]; rfl, ?_⟩
            · obtain ⟨ds, a1, a2⟩ := d5.dice
              exact ⟨ds, by rw [upd_ne (Ne.symm hpd)]; exact a1, a2⟩
            · rw [upd_ne (ne_of_none hb nhp0)]
              exact d5.keep b o nb hb
            · rw [upd_same, heardOf_in h', List.map_set]
          · rw [List.length_map, heardOf_len, ei] at h
            have h' : ¬ os.length * l.each + dd < th + mo := by omega
            refine ⟨d5, 0, os ++ [some dd], _, _, rfl, .hear hO dd hdd, by rw [List.length_append, hlen]; rfl, ?_⟩
            rw [heardOf_out h']
            exact h5
    · rintro σ H' ⟨dC, r, os, v7, v8, rfl, hO, hlen, hH⟩
      exact ⟨_, rfl, k r os hp H' hO hlen dC nhp0 hH⟩
end
end Bw

set_option Elab.async false
set_option linter.all false
set_option maxRecDepth 100000
set_option maxHeartbeats 4000000
namespace Bw
open PySem PySem.Spec PyProof.Rows L2
section
variable {P : Program} {w : World} {K : PySem.W.Frag} {mg : Str → Option Value} {base : Heap} {f : Addr} {fd : FuncData}
theorem ok__law_told (F : FnP K "_law_told" s__law_told f fd) (g_len : mg "len" = none) (g_range : mg "range" = none) (h__law_gone : Has P w K mg base 1 "_law_gone" p__law_gone (spLGone K)) : FnOk P w K mg base CX0 2 f fd p__law_told (spLTold K) := by
  refine F.ok sc__law_told (fun vs H Q E h => ?_) (fun cdv A outer s H vs Q E hr h => ?_)
  · obtain ⟨q, l, r, hs, rfl, _⟩ := h
    rfl
  · obtain ⟨q, l, r, hs, rfl, hq, ho, hl, hh, k⟩ := h
    refine ⟨_, PSs.nox (pss_one (ps_ret (pe_lc (own := [("_law_moment", 2)]) (g := gName 2) rfl sc__law_told.nd (pi_range1 rfl g_range (pa_cons (pe_callB call_len_seq (by rfl) g_len (by decide +kernel) (pa_cons (pv 1) pa_nil)) pa_nil)) (blkOk_by (own := [("_law_moment", 2)]) (N := n__law_told) (sc := defScope s__law_told) (by decide +kernel)) (fun _ _ _ _ _ => (pg_name (i := 2) sc__law_told.nd rfl (Or.inl rfl))) (fun _ _ _ _ _ => pts_nil) (fun _ _ _ _ _ => (pe_fn h__law_gone hr rfl (pa_cons (pv 0) (pa_cons (pe_slice (r := rSlL K) sl_list (pv 1) po_none (po_some (pe_op op_add (pv 2) pe_int))) pa_nil))))))), ?_⟩
    refine ⟨_, rfl, l, _, rfl, Or.inl hl, _, rfl, by omega, by rw [List.length_map]; omega, fun D hD => lc_range (lo := 0) (n := (hs.map V.int).length) (fun i H' => Same H H' ∧ H' D = some (.lst (((List.range i).map fun j => goneH r (hs.take (j + 1))).map V.bl))) ⟨Same.newB hD, upd_same⟩ ?_ ?_⟩
    · rintro i H' hi ⟨s', e'⟩
      rw [List.length_map] at hi
      refine ⟨rfl, _, rfl, _, rfl, _, rfl, _, _, rfl, rfl, _, rfl, l, _, rfl, s'.seq hl, fun u nu => ?_⟩
      have ec : cutV (hs.map V.int) none (some ((0 : Int) + (i : Int) + 1)) = (hs.take (i + 1)).map V.int := by
        have e0 : HT.sIx (hs.map V.int).length (hs.map V.int).length (some ((0 : Int) + (i : Int) + 1)) = i + 1 := by
          rw [List.length_map]
          have e1 : (0 : Int) + (i : Int) + 1 = ((i + 1 : Nat) : Int) := by omega
          rw [e1, HT.sIx_nat]
          omega
        show ((hs.map V.int).drop 0).take ((HT.sIx (hs.map V.int).length (hs.map V.int).length (some ((0 : Int) + (i : Int) + 1))) - 0) = _
        rw [e0, List.drop_zero, Nat.sub_zero, List.map_take]
      rw [ec]
      have su : Same H' (upd H' u (.lst ((hs.take (i + 1)).map V.int))) := Same.newB nu
      refine ⟨q, u, r, hs.take (i + 1), rfl, su.tupB (s'.tupB hq), ho, SqL.of upd_same, by rw [List.length_take]; omega, fun H2 s2 => ?_⟩
      refine ⟨_, s2 _ _ (su _ _ e'), szlt (by rw [List.length_map, List.length_map, List.length_range]; omega), (s'.trans (su.trans s2)).mutB hD, ?_⟩
      rw [upd_same, List.range_succ, List.map_append, List.map_append]
      rfl
    · rintro H' ⟨s', e'⟩
      rw [List.length_map] at e'
      exact k D H' s' hD e'
end
end Bw

set_option Elab.async false
set_option linter.all false
set_option maxRecDepth 100000
set_option maxHeartbeats 4000000
namespace Bw
open PySem PySem.Spec PyProof.Rows L2
section
variable {P : Program} {w : World} {K : PySem.W.Frag} {mg : Str → Option Value} {base : Heap} {f : Addr} {fd : FuncData}
theorem ok__law_heard (F : FnP K "_law_heard" s__law_heard f fd) (g_int : mg "int" = none) (g_range : mg "range" = none) (h__law_off : Has P w K mg base 1 "_law_off" p__law_off spOff) (h__law_line : Has P w K mg base 2 "_law_line" ["_law_d"] spLine)
    (h__law_run : Has P w K mg base 2 "_law_run" p__law_run (spRun K)) : FnOk P w K mg base CX0 3 f fd ["_law_d"] spHeard := by
  refine F.ok sc__law_heard (fun vs H Q E h => ?_) (fun cdv A outer s H vs Q E hr h => ?_)
  · obtain ⟨d, rfl, _⟩ := h
    rfl
  · obtain ⟨d, rfl, hd, k⟩ := h
    refine ⟨_, PSs.nox (pss_cons (ps_set (i := 1) sc__law_heard.nd rfl (Or.inl rfl) (pe_lst pa_nil))
        (pss_cons (ps_for PassesOwn.never rfl (pi_range1 rfl g_range (pa_cons pe_int pa_nil)) (pg_name (i := 2) sc__law_heard.nd rfl (Or.inl rfl))
          (pss_cons (ps_set (i := 3) sc__law_heard.nd rfl (Or.inl rfl) (pe_fn h__law_line hr rfl (pa_cons (pv 0) pa_nil)))
            (pss_cons (ps_set (i := 4) sc__law_heard.nd rfl (Or.inl rfl) (pe_fn h__law_off hr rfl (pa_cons (pv 0) (pa_cons (pe_ix ix_list (pe_lst (pa_cons pe_int (pa_cons pe_int pa_nil))) (pe_fn h__law_off hr rfl (pa_cons (pv 0) (pa_cons pe_int pa_nil))) (fun _ _ => rfl)) pa_nil))))
            (pss_cons (ps_set (i := 5) sc__law_heard.nd rfl (Or.inl rfl) (pe_lst (pa_cons (pe_fn h__law_run hr rfl (pa_cons (pv 0) (pa_cons (pv 3) (pa_cons (pv 4) (pa_cons pe_int pa_nil))))) (pa_cons (pe_op op_rep (pe_lst (pa_cons pe_int pa_nil)) (pv 4)) pa_nil))))
            (pss_cons (ps_expr (pe_bm PySem.F.plainAttrs_list PySem.F.slot_list_append PySem.F.type_list_append mt_append (pv 5) (pa_cons (pe_lc (own := [("_law_k", 6)]) (g := gName 6) rfl sc__law_heard.nd (pi_range1 rfl g_range (pa_cons (pv 4) pa_nil)) (blkOk_by (own := [("_law_k", 6)]) (N := n__law_heard) (sc := defScope s__law_heard) (by decide +kernel)) (fun _ _ _ _ _ => (pg_name (i := 6) sc__law_heard.nd rfl (Or.inl rfl))) (fun _ _ _ _ _ => pts_nil) (fun _ _ _ _ _ => (pe_op op_mul (pe_fn h__law_off hr rfl (pa_cons (pv 0) (pa_cons pe_int pa_nil))) (pe_callTy call_int1 (by rfl) g_int (by decide +kernel) (pa_cons (pe_cmpR op_eq (pe_fn h__law_off hr rfl (pa_cons (pv 0) (pa_cons pe_int pa_nil))) pe_int (nomark _)) pa_nil))))) pa_nil)))
            (pss_one (ps_set (i := 1) sc__law_heard.nd rfl (Or.inl rfl) (pe_op op_cat (pv 1) (pe_ix ix_list (pv 5) (pe_fn h__law_off hr rfl (pa_cons (pv 0) (pa_cons pe_int pa_nil))) (fun _ _ => rfl))))))))))
        (pss_one (ps_ret (pv 1))))), ?_⟩
    refine ⟨szle (Nat.le_of_ble_eq_true rfl), fun fo nfo => ?_⟩
    refine ⟨3, rfl, by decide, by decide, for_range (lo := 0) (n := 3) (fun i σ H' => Dr d H H' ∧ ∃ (fo : Addr) (hs : List Int) (v2 v3 v4 v5 v6 : Option V), σ = [some (.ref d), some (.ref fo), v2, v3, v4, v5, v6] ∧ H fo = none ∧ H' fo = some (.lst (hs.map V.int)) ∧ hs.length ≤ 65 * i ∧ ∀ m ∈ hs, 0 ≤ m ∧ m ≤ 9) ?_ ?_ ?_⟩
    · exact ⟨Dr.ofSame hd (Same.newB nfo), fo, [], none, none, none, none, none, rfl, nfo, upd_same, Nat.zero_le _, fun m hm => nomatch hm⟩
    · rintro i σ H' hi ⟨D0, fo, hs, v2, v3, v4, v5, v6, rfl, nfo, hfo, hsl, hsm⟩
      have fod : fo ≠ d := hd.ne nfo
      refine ⟨_, rfl, d, rfl, D0.dice, fun l lp H1 lo _ D1 nlp hlp => ?_⟩
      have lpd : lp ≠ d := D0.dice.ne nlp
      refine ⟨_, rfl, szle (Nat.le_of_ble_eq_true rfl), fun u nu => ⟨_, rfl, d, 2, rfl, D1.dice.same (Same.newB nu), by decide, by decide, fun r1 H2 h1 g1 D2 => ?_⟩⟩
      have ud : u ≠ d := D1.dice.ne nu
      obtain ⟨m, hm0, hm1, hat⟩ : ∃ m : Int, 0 < m ∧ m ≤ 66 ∧ atI [V.int 20, V.int 66] r1 = some (V.int m) := by
        obtain ⟨v, hv, he⟩ := pickL (xs := [V.int 20, V.int 66]) h1 g1
        rcases List.mem_cons.mp hv with rfl | hv
        · exact ⟨20, by omega, by omega, he⟩
        rcases List.mem_cons.mp hv with rfl | hv
        · exact ⟨66, by omega, by omega, he⟩
        · cases hv
      refine ⟨u, _, _, _, rfl, rfl, SqL.of (D2.keep _ _ ud upd_same), hat, d, m, rfl, D2.dice, hm0, by omega, fun r2 H3 h2 g2 D3 => ?_⟩
      obtain ⟨mn, rfl⟩ := Int.eq_ofNat_of_zero_le h2
      have D13 : Dr d H1 H3 := ((Dr.ofSame D1.dice (Same.newB nu)).trans D2).trans D3
      have D03 : Dr d H H3 := (D0.trans D1).trans D13
      have hfo3 := D13.keep _ _ fod (D1.keep _ _ fod hfo)
      have hlp3 := D13.keep _ _ lpd hlp
      refine ⟨_, rfl, _, rfl, _, rfl, d, lp, l, mn, 0, rfl, D3.dice, SqT.of hlp3, lo, by omega, by omega, fun r os rp H4 hO hlen D4 nrp hrp => ?_⟩
      have rpd : rp ≠ d := D3.dice.ne nrp
      refine ⟨szle (Nat.le_of_ble_eq_true rfl), fun z nz => ⟨_, rfl, z, _, [V.int 0], rfl, rfl, upd_same, by omega, by omega, szle (by show 1 * (mn : Int).toNat ≤ _; omega), fun zp nzp => ?_⟩⟩
      refine ⟨szle (Nat.le_of_ble_eq_true rfl), fun so nso => ?_⟩
      have s4 : Same H4 (upd (upd H4 z (.lst [.int 0])) zp (.lst (List.replicate (mn : Int).toNat [V.int 0]).flatten)) := (Same.newB nz).moreB nzp
      have D04 : Dr d H (upd (upd H4 z (.lst [.int 0])) zp (.lst (List.replicate (mn : Int).toNat [V.int 0]).flatten)) := (D03.trans D4).same s4
      have nso0 : H so = none := D04.free nso
      have D05 := D04.new (o := .lst [.ref rp, .ref zp]) nso
      have hfo5 := (s4.moreB (o := .lst [.ref rp, .ref zp]) nso) _ _ (D4.keep _ _ fod hfo3)
      have hrp5 := (s4.moreB (o := .lst [.ref rp, .ref zp]) nso) _ _ hrp
      have hzp5 := (Same.newB (o := .lst [.ref rp, .ref zp]) nso) _ _ (upd_same (H := upd H4 z (.lst [.int 0])) (a := zp) (o := .lst (List.replicate (mn : Int).toNat [V.int 0]).flatten))
      have hso5 : (upd (upd (upd H4 z (.lst [.int 0])) zp (.lst (List.replicate (mn : Int).toNat [V.int 0]).flatten)) so (.lst [.ref rp, .ref zp])) so = some (.lst [.ref rp, .ref zp]) := upd_same
      have ezp : (List.replicate (mn : Int).toNat [V.int 0]).flatten = (List.replicate mn (0 : Int)).map V.int := by rw [rep_map, List.map_replicate]; rfl
      have nzp0 : H zp = none := (D03.trans D4).free ((Same.newB nz).free nzp)
      have nrp0 : H rp = none := D03.free nrp
      revert D05 hfo5 hrp5 hzp5 hso5
      generalize (upd (upd (upd H4 z (.lst [.int 0])) zp (.lst (List.replicate (mn : Int).toNat [V.int 0]).flatten)) so (.lst [.ref rp, .ref zp])) = H5
      intro D05 hfo5 hrp5 hzp5 hso5
      rw [ezp] at hzp5
      have sod : so ≠ d := hd.ne nso0
      refine ⟨_, rfl, Or.inl ⟨rfl, _, SqL.of hso5⟩, _, rfl, _, rfl, by omega, by omega, fun D nD => lc_range (lo := 0) (n := mn) (fun i H' => Dr d H5 H' ∧ ∃ ms : List Int, H' D = some (.lst (ms.map V.int)) ∧ ms.length = i ∧ ∀ m ∈ ms, 0 ≤ m ∧ m ≤ 9) ⟨(Dr.refl D05.dice).new nD, [], upd_same, rfl, fun m hm => nomatch hm⟩ ?_ ?_⟩
      · rintro j H6 hj ⟨D6, ms, e6, l6, b6⟩
        have Dd : D ≠ d := D05.dice.ne nD
        refine ⟨rfl, _, rfl, d, 10, rfl, D6.dice, by decide, by decide, fun r3 H7 h3 g3 D7 => ⟨_, rfl, d, 3, rfl, D7.dice, by decide, by decide, fun r4 H8 h4 g4 D8 => ⟨rfl, Or.inr ⟨_, rfl, _, _, rfl, rfl, Or.inl ⟨by omega, by omega⟩, ?_⟩⟩⟩⟩
        have e8 := D8.keep _ _ Dd (D7.keep _ _ Dd e6)
        refine ⟨_, e8, szlt (by rw [List.length_map]; omega), ((D6.trans D7).trans D8).mutB D05.dice nD, ms ++ [r3 * b2i (decide (V.int r4 = V.int 0))], ?_, by rw [List.length_append, l6]; rfl, fun m hm => ?_⟩
        · rw [upd_same, List.map_append]
          rfl
        · rcases List.mem_append.mp hm with hm | hm
          · exact b6 m hm
          · rcases List.mem_cons.mp hm with rfl | hm
            · cases decide (V.int r4 = V.int 0) with
              | true => show 0 ≤ r3 * 1 ∧ r3 * 1 ≤ 9; omega
              | false => show 0 ≤ r3 * 0 ∧ r3 * 0 ≤ 9; omega
            · cases hm
      · rintro H6 ⟨D6, ms, e6, l6, b6⟩
        have hso6 := D6.keep _ _ sod hso5
        refine ⟨so, _, _, rfl, rfl, hso6, szlt (by show 2 < _; omega), ?_⟩
        have D06 := D05.trans D6
        have hD07 : Dr d H (upd H6 so (.lst [.ref rp, .ref zp, .ref D])) := D06.mutB hd nso0
        have fos : fo ≠ so := ne_of_none hfo3 ((D4.free ((s4.free nso))))
        have rps : rp ≠ so := ne_of_none hrp (s4.free nso)
        have zps : zp ≠ so := ne_of_none (upd_same (H := upd H4 z (.lst [.int 0])) (a := zp)) nso
        have Dso : D ≠ so := Ne.symm (ne_of_none hso5 nD)
        refine ⟨_, rfl, _, rfl, _, rfl, d, 3, rfl, hD07.dice, by decide, by decide, fun r5 H8 h5 g5 D8 => ?_⟩
        have hso8 := D8.keep _ _ sod upd_same
        have hfo8 : H8 fo = some (.lst (hs.map V.int)) := D8.keep _ _ fod (by rw [upd_ne fos]; exact D6.keep _ _ fod hfo5)
        obtain ⟨ip, is, hat5, hip, hil, hib⟩ : ∃ (ip : Addr) (is : List Int), atI [V.ref rp, V.ref zp, V.ref D] r5 = some (V.ref ip) ∧ H8 ip = some (.lst (is.map V.int)) ∧ is.length ≤ 65 ∧ ∀ m ∈ is, 0 ≤ m ∧ m ≤ 9 := by
          obtain ⟨v, hv, he⟩ := pickL (xs := [V.ref rp, V.ref zp, V.ref D]) h5 g5
          rcases List.mem_cons.mp hv with rfl | hv
          · refine ⟨rp, _, he, D8.keep _ _ rpd (by rw [upd_ne rps]; exact D6.keep _ _ rpd hrp5), by rw [heardOf_len]; omega, fun m hm => ?_⟩
            have := heardOf_mem lo hO hm
            omega
          rcases List.mem_cons.mp hv with rfl | hv
          · refine ⟨zp, _, he, D8.keep _ _ (hd.ne nzp0) (by rw [upd_ne zps]; exact D6.keep _ _ (hd.ne nzp0) hzp5), by rw [List.length_replicate]; omega, fun m hm => ?_⟩
            have := List.eq_of_mem_replicate hm
            omega
          rcases List.mem_cons.mp hv with rfl | hv
          · exact ⟨D, ms, he, D8.keep _ _ (D05.dice.ne nD) (by rw [upd_ne Dso]; exact e6), by omega, b6⟩
          · cases hv
        refine ⟨so, _, _, _, rfl, rfl, SqL.of hso8, hat5, fo, ip, _, _, rfl, rfl, hfo8, hip, szle (by rw [List.length_map, List.length_map]; omega), fun np nnp => ?_⟩
        have D09 : Dr d H H8 := hD07.trans D8
        refine ⟨D09.new nnp, np, hs ++ is, _, _, _, _, _, rfl, D09.free nnp, by rw [upd_same, List.map_append], by rw [List.length_append]; omega, fun m hm => ?_⟩
        rcases List.mem_append.mp hm with hm | hm
        · exact hsm m hm
        · exact hib m hm
    · rintro σ H' ⟨D0, fo, hs, v2, v3, v4, v5, v6, rfl, nfo, hfo, hsl, hsm⟩
      exact ⟨_, rfl, k hs fo H' ⟨by omega, hsm⟩ D0 nfo hfo⟩
end
end Bw

set_option Elab.async false
set_option linter.all false
set_option maxRecDepth 100000
set_option maxHeartbeats 4000000
namespace Bw
open PySem PySem.Spec PyProof.Rows L2
section
variable {P : Program} {w : World} {K : PySem.W.Frag} {mg : Str → Option Value} {base : Heap} {f : Addr} {fd : FuncData}
theorem turnsTo_dn (bs : List Bool) (n : Nat) : ∀ d ∈ turnsTo bs n, Dn 1 d := by
  intro d hd
  unfold turnsTo at hd
  obtain ⟨i, _, h⟩ := List.mem_filterMap.mp hd
  split at h
  · cases h
  · cases h
    refine .tuple 0 _ (by show 2 ≤ 1000; omega) fun d hd => ?_
    rcases List.mem_cons.mp hd with rfl | hd
    · exact .int _ _
    rcases List.mem_cons.mp hd with rfl | hd
    · exact .str _ _
    · cases hd
theorem ok_law (F : FnP K "law" s_law f fd) (g_range : mg "range" = none) (g_int : mg "int" = none) (g_len : mg "len" = none) (g_list : mg "list" = none)
    (h__law_dice : Has P w K mg base 1 "_law_dice" p__law_dice (spDice K)) (h__law_rule : Has P w K mg base 2 "_law_rule" ["_law_d"] spRule) (h__law_heard : Has P w K mg base 3 "_law_heard" ["_law_d"] spHeard)
    (h__law_alike : Has P w K mg base 3 "_law_alike" p__law_alike (spAlike K 2)) (h__law_told : Has P w K mg base 2 "_law_told" p__law_told (spLTold K)) (h_told : Has P w K mg base 5 "told" p_told (spTold K)) (h_turns : Has P w K mg base 6 "turns" p_turns (spTurns K)) : FnOk P w K mg base CX0 7 f fd p_law (spLaw K) := by
  refine F.ok sc_law (fun vs H Q E h => ?_) (fun cdv A outer s H vs Q E hr h => ?_)
  · obtain ⟨a, ns, rfl, _⟩ := h
    rfl
  · obtain ⟨a, ns, rfl, hS, hlen, k⟩ := h
    refine ⟨_, PSs.nox (pss_cons (ps_set (i := 1) sc_law.nd rfl (Or.inl rfl) (pe_fn h__law_dice hr rfl (pa_cons (pv 0) (pa_cons pe_int pa_nil))))
        (pss_cons (ps_for PassesOwn.never rfl (pi_range1 rfl g_range (pa_cons pe_int pa_nil)) (pg_name (i := 2) sc_law.nd rfl (Or.inl rfl))
          (pss_cons (ps_set (i := 3) sc_law.nd rfl (Or.inl rfl) (pe_fn h__law_rule hr rfl (pa_cons (pv 1) pa_nil)))
            (pss_cons (ps_set (i := 4) sc_law.nd rfl (Or.inl rfl) (pe_fn h__law_heard hr rfl (pa_cons (pv 1) pa_nil)))
            (pss_cons (ps_set (i := 5) sc_law.nd rfl (Or.inl rfl) (pe_callTy call_list_of (by rfl) g_list (by decide +kernel) (pa_cons (pv 4) pa_nil)))
            (pss_cons (ps_set (i := 6) sc_law.nd rfl (Or.inl rfl) (pe_fn h__law_told hr rfl (pa_cons (pv 3) (pa_cons (pv 4) pa_nil))))
            (pss_cons (ps_if (PW.pt (pw_or (pt_not (pt_val (pe_fn h__law_alike hr rfl (pa_cons (pe_fn h_told hr rfl (pa_cons (pv 3) (pa_cons (pv 5) pa_nil))) (pa_cons (pv 6) pa_nil))))) (pw_or1 (pt_cmpR (op_neD hr.units) (pv 5) (pv 4) (nomark _)))))
              (pss_one (ps_ret pe_bl))
              pss_nil)
            (pss_cons (ps_set (i := 7) sc_law.nd rfl (Or.inl rfl) (pe_lst pa_nil))
            (pss_cons (ps_for PassesOwn.never rfl (pi_range1 rfl g_range (pa_cons (pe_callB call_len_seq (by rfl) g_len (by decide +kernel) (pa_cons (pv 6) pa_nil)) pa_nil)) (pg_name (i := 8) sc_law.nd rfl (Or.inl rfl))
              (pss_one (ps_if (pt_cmpR op_ne (pe_ix ix_list (pv 6) (pv 8) (fun _ _ => rfl)) (pe_ix ix_list (pe_op op_cat (pe_lst (pa_cons pe_bl pa_nil)) (pv 6)) (pv 8) (fun _ _ => rfl)) (nomark _))
                (pss_one (ps_expr (pe_bm PySem.F.plainAttrs_list PySem.F.slot_list_append PySem.F.type_list_append mt_append (pv 7) (pa_cons (pe_tup (pa_cons (pv 8) (pa_cons (pe_ix ix_list (pe_lst (pa_cons pe_str (pa_cons pe_str pa_nil))) (pe_callTy call_int1 (by rfl) g_int (by decide +kernel) (pa_cons (pe_ix ix_list (pv 6) (pv 8) (fun _ _ => rfl)) pa_nil)) (fun _ _ => rfl)) pa_nil))) pa_nil))))
                pss_nil)))
            (pss_cons (ps_set (i := 9) sc_law.nd rfl (Or.inl rfl) (pe_fn h_turns hr rfl (pa_cons (pv 3) (pa_cons (pv 5) pa_nil))))
            (pss_cons (ps_if (PW.pt (pw_or (pt_not (pt_val (pe_fn h__law_alike hr rfl (pa_cons (pv 9) (pa_cons (pv 7) pa_nil))))) (pw_or1 (pt_cmpR (op_neD hr.units) (pv 5) (pv 4) (nomark _)))))
              (pss_one (ps_ret pe_bl))
              pss_nil)
            (pss_cons (ps_expr (pe_bm0 PySem.F.plainAttrs_list PySem.F.slot_list_clear PySem.F.type_list_clear mt_clear (pv 5)))
            (pss_cons (ps_expr (pe_bm PySem.F.plainAttrs_list PySem.F.slot_list_append PySem.F.type_list_append mt_append (pv 9) (pa_cons (pe_tup pa_nil) pa_nil)))
            (pss_one (ps_if (pt_not (pt_val (pe_fn h__law_alike hr rfl (pa_cons (pe_fn h_turns hr rfl (pa_cons (pv 3) (pa_cons (pv 4) pa_nil))) (pa_cons (pv 7) pa_nil)))))
              (pss_one (ps_ret pe_bl))
              pss_nil))))))))))))))
        (pss_one (ps_ret pe_bl)))), ?_⟩
    refine ⟨_, rfl, a, 0, ns, rfl, hS, hlen, fun d H1 s1 nd hd => ?_⟩
    refine ⟨4, rfl, by decide, by decide, for_range (lo := 0) (n := 4) (fun i σ H' => DiceAt H' d ∧ ∃ v2 v3 v4 v5 v6 v7 v8 v9, σ = [some (.ref a), some (.ref d), v2, v3, v4, v5, v6, v7, v8, v9]) ⟨hd, _, _, _, _, _, _, _, _, rfl⟩ ?_ ?_⟩
    · rintro i σ H2 hi ⟨hd, v2, v3, v4, v5, v6, v7, v8, v9, rfl⟩
      refine ⟨_, rfl, d, rfl, hd, fun r q H3 ro D3 nq hq => ?_⟩
      refine ⟨_, rfl, d, rfl, D3.dice, fun hs hp H4 hok D4 nhp hhp => ?_⟩
      have qd : q ≠ d := hd.ne nq
      have hq4 := D4.keep _ _ qd hq
      refine ⟨_, rfl, hp, _, rfl, Or.inl (SqL.of hhp), fun ha nha => ?_⟩
      have s5 : Same H4 (upd H4 ha (.lst (hs.map V.int))) := Same.newB nha
      have hn := hok.1
      refine ⟨_, rfl, _, rfl, q, hp, r, hs, rfl, SqT.of (s5 _ _ hq4), ro, SqL.of (s5 _ _ hhp), by omega, fun du H6 s6 ndu hdu => ?_⟩
      have hha6 : H6 ha = some (.lst (hs.map V.int)) := s6 _ _ upd_same
      have hha_hp : ha ≠ hp := Ne.symm (ne_of_none hhp nha)
      have s46 : Same H4 H6 := s5.trans s6
      clear s5
      generalize hB : toldOf r hs = bs at *
      have hbl : bs.length = hs.length := by rw [← hB, toldOf_len]
      -- told
      refine ⟨_, rfl, _, rfl, q, ha, r, hs, rfl, SqT.of (s46 _ _ hq4), ro, SqL.of hha6, hok, fun tp H7 s7 ntp htp => ?_⟩
      rw [hB] at htp
      have dB : Dn 2 (.list (bs.map PyData.bool)) := .list 1 _ (by rw [List.length_map]; omega) fun d hd => by
        obtain ⟨b, _, rfl⟩ := List.mem_map.mp hd
        exact .bool _ _
      refine ⟨_, rfl, _, _, _, rfl, .lst (SqL.of htp) (dp_bls bs), .lst (SqL.of (s7 _ _ hdu)) (dp_bls bs), dB, fun H8 s8 => ⟨_, rfl, iteF ?_⟩⟩
      have s68 := s7.trans s8
      have s48 := s46.trans s68
      refine ⟨_, rfl, _, rfl, .list (hs.map PyData.int), .list (hs.map PyData.int), .lst (SqL.of (s68 _ _ hha6)) (dp_ints hs), .lst (SqL.of (s48 _ _ hhp)) (dp_ints hs), PySem.W.ke_shaped_ints _, PySem.W.ke_shaped_ints _, _, rfl, ?_⟩
      rw [eqv_self (PySem.W.ke_shaped_ints _)]
      refine iteF ?_
      -- rows
      have hha8 := s68 _ _ hha6
      have hhp8 := s48 _ _ hhp
      have hq8 := s48 _ _ hq4
      have hdu8 := s68 _ _ hdu
      have hd8 : DiceAt H8 d := D4.dice.same s48
      refine ⟨szle (Nat.le_of_ble_eq_true rfl), fun ro' nro => ?_⟩
      refine ⟨_, rfl, du, _, rfl, Or.inl (SqL.of ((Same.newB nro) _ _ hdu8)), _, rfl, by omega, by rw [List.length_map]; omega, ?_⟩
      refine for_range (lo := 0) (n := (bs.map V.bl).length) (fun i σ H' => Same H8 H' ∧ ∃ xs v2 v8 v9, σ = [some (.ref a), some (.ref d), v2, some (.ref q), some (.ref hp), some (.ref ha), some (.ref du), some (.ref ro'), v8, v9] ∧ H' ro' = some (.lst xs) ∧ DpAll K H' xs (turnsTo bs i)) ?_ ?_ ?_
      · exact ⟨Same.newB nro, [], _, _, _, rfl, upd_same, .nil⟩
      · rintro j σ H9 hj ⟨s9, xs, v2, v8, v9, rfl, hro, hD⟩
        rw [List.length_map] at hj
        have e0 : (0 : Int) + (j : Int) = (j : Int) := Int.zero_add _
        obtain ⟨b, hb⟩ : ∃ b, bs[j]? = some b := ⟨bs[j], by simp [hj]⟩
        have hgd : bs.getD j false = b := by rw [List.getD_eq_getElem?_getD, hb]; rfl
        have hbV : (bs.map V.bl)[j]? = some (.bl b) := by rw [List.getElem?_map, hb]; rfl
        have hcV : ([V.bl false] ++ bs.map V.bl)[j]? = some (.bl ((false :: bs).getD j false)) := by
          show ((false :: bs).map V.bl)[j]? = _
          rw [List.getElem?_map, List.getD_eq_getElem?_getD]
          have hl : j < (false :: bs).length := by simp; omega
          rw [List.getElem?_eq_getElem hl]
          rfl
        have hdu9 := s9 _ _ hdu8
        refine ⟨_, rfl, _, rfl, du, _, _, _, rfl, rfl, SqL.of hdu9, by rw [e0]; exact atI_nat hbV, szle (Nat.le_of_ble_eq_true rfl), fun a1 n1 => ?_⟩
        have t1 : Same H9 (upd H9 a1 (.lst [.bl false])) := Same.newB n1
        refine ⟨_, rfl, a1, du, _, _, rfl, rfl, upd_same, t1 _ _ hdu9, szle (by rw [List.length_map]; show 1 + bs.length ≤ _; omega), fun a2 n2 => ?_⟩
        have t2 : Same H9 (upd (upd H9 a1 (.lst [.bl false])) a2 (.lst ([.bl false] ++ bs.map V.bl))) := t1.moreB n2
        refine ⟨_, rfl, a2, _, _, _, rfl, rfl, SqL.of upd_same, by rw [e0]; exact atI_nat hcV, rfl, _, rfl, ?_⟩
        refine iteN (fun h => ?_) (fun h => ?_)
        · have h' : ¬ bs.getD j false = (false :: bs).getD j false := fun e => h (by rw [← e, hgd])
          have hxl : xs.length ≤ j := by
            have := DpAll.len hD
            have := turnsTo_len bs j
            omega
          refine ⟨_, rfl, Or.inl ⟨rfl, _, SqL.of (t2 _ _ hro)⟩, _, rfl, szle (Nat.le_of_ble_eq_true rfl), fun a3 n3 => ?_⟩
          have t3 := t2.moreB (o := .lst [.str "back", .str "gone"]) n3
          refine ⟨_, rfl, _, rfl, du, _, _, _, rfl, rfl, SqL.of (t3 _ _ hdu9), by rw [e0]; exact atI_nat hbV, Or.inr ⟨_, rfl, ?_⟩⟩
          have hpk : atI [V.str "back", V.str "gone"] (b2i b) = some (.str (if b = true then ("gone" : Str) else "back")) := by
            cases b with
            | true => exact atI_nat (j := 1) rfl
            | false => exact atI_nat (j := 0) rfl
          refine ⟨a3, _, _, _, rfl, rfl, SqL.of upd_same, hpk, szle (Nat.le_of_ble_eq_true rfl), fun T nT => ?_⟩
          have t4 := t3.moreB (o := .tup [.int (0 + (j : Int)), .str (if b = true then ("gone" : Str) else "back")]) nT
          refine ⟨ro', xs, _, rfl, rfl, t4 _ _ hro, szlt (by omega), (s9.trans t4).mutB nro, _, _, _, _, rfl, upd_same, ?_⟩
          have hnl := turnsTo_noL bs (j + 1)
          have eT : turnsTo bs (j + 1) = turnsTo bs j ++ [.tuple [.int (0 + (j : Int)), .str (if b = true then "gone" else "back")]] := by rw [turnsTo_succ_ne h', hgd, e0]
          rw [eT] at hnl ⊢
          exact DpAll.keepL (keepL (t4 _ _ hro)) (DpAll.snoc (DpAll.same t4 hD) (.tup (SqT.of upd_same) (.cons (.int _) (.cons (.str _) .nil)))) hnl
        · have h' : bs.getD j false = (false :: bs).getD j false := by rw [hgd]; exact V.bl.inj h
          refine ⟨s9.trans t2, xs, _, _, _, rfl, t2 _ _ hro, ?_⟩
          rw [turnsTo_succ_eq h']
          exact DpAll.same t2 hD
      · rintro σ H9 ⟨s9, xs, v2, v8, v9, rfl, hro, hD⟩
        rw [List.length_map] at hD
        -- turns of what was handed
        refine ⟨_, rfl, _, rfl, q, ha, r, hs, rfl, SqT.of (s9 _ _ hq8), ro, SqL.of (s9 _ _ hha8), hok, fun fo H10 ys s10 nfo hfo hY => ?_⟩
        rw [hB, ← hbl] at hY
        have dT : Dn 2 (.list (turnsTo bs bs.length)) := .list 1 _ (by have := turnsTo_len bs bs.length; omega) (turnsTo_dn bs _)
        refine ⟨_, rfl, _, rfl, _, _, _, rfl, .lst (SqL.of hfo) hY, .lst (SqL.of (s10 _ _ hro)) (DpAll.same s10 hD), dT, fun H11 s11 => ⟨_, rfl, iteF ?_⟩⟩
        have s811 := s9.trans (s10.trans s11)
        refine ⟨_, rfl, _, rfl, .list (hs.map PyData.int), .list (hs.map PyData.int), .lst (SqL.of (s811 _ _ hha8)) (dp_ints hs), .lst (SqL.of (s811 _ _ hhp8)) (dp_ints hs), PySem.W.ke_shaped_ints _, PySem.W.ke_shaped_ints _, _, rfl, ?_⟩
        rw [eqv_self (PySem.W.ke_shaped_ints _)]
        refine iteF ?_
        have hha11 := s811 _ _ hha8
        have hhp11 := s811 _ _ hhp8
        have hq11 := s811 _ _ hq8
        have hro11 := s11 _ _ (s10 _ _ hro)
        have hfo11 := s11 _ _ hfo
        have hD11 := DpAll.same s11 (DpAll.same s10 hD)
        have hd11 : DiceAt H11 d := hd8.same s811
        have had : ha ≠ d := D4.dice.ne nha
        have haro : ro' ≠ ha := Ne.symm (ne_of_none hha8 nro)
        have nfo9 : H9 fo = none := nfo
        have fo_ha : fo ≠ ha := Ne.symm (ne_of_none (s9 _ _ hha8) nfo)
        have fo_hp : hp ≠ fo := ne_of_none (s9 _ _ hhp8) nfo
        have fo_ro : ro' ≠ fo := ne_of_none hro nfo
        have fod : fo ≠ d := (hd8.same s9).ne nfo
        refine ⟨_, rfl, Or.inl ⟨rfl, _, SqL.of hha11⟩, ha, _, rfl, rfl, hha11, ?_⟩
        have k1 := keepL (ys := []) hha11
        have hfo12 : upd H11 ha (.lst []) fo = some (.lst ys) := by rw [upd_ne fo_ha]; exact hfo11
        have hro12 : upd H11 ha (.lst []) ro' = some (.lst xs) := by rw [upd_ne haro]; exact hro11
        have hhp12 : upd H11 ha (.lst []) hp = some (.lst (hs.map V.int)) := by rw [upd_ne (Ne.symm hha_hp)]; exact hhp11
        have hq12 : upd H11 ha (.lst []) q = some (.tup r.vs) := k1 _ _ (by intro xs z; cases z) hq11
        have hD12 : DpAll K (upd H11 ha (.lst [])) xs (turnsTo bs bs.length) := DpAll.keepL k1 hD11 (turnsTo_noL _ _)
        have hd12 : DiceAt (upd H11 ha (.lst [])) d := by
          obtain ⟨ds, x1, x2⟩ := hd11
          exact ⟨ds, by rw [upd_ne (Ne.symm had)]; exact x1, x2⟩
        revert hfo12 hro12 hhp12 hq12 hD12 hd12
        generalize upd H11 ha (.lst []) = H12
        intro hfo12 hro12 hhp12 hq12 hD12 hd12
        refine ⟨_, rfl, Or.inl ⟨rfl, _, SqL.of hfo12⟩, szle (Nat.le_of_ble_eq_true rfl), fun e ne => ?_⟩
        have u1 : Same H12 (upd H12 e (.tup [])) := Same.newB ne
        have hyl : ys.length ≤ 200 := by
          have h1 := DpAll.len hY
          have h2 := turnsTo_len bs bs.length
          omega
        refine ⟨fo, ys, _, rfl, rfl, u1 _ _ hfo12, szlt (by omega), ?_⟩
        have k2 := keepL (ys := ys ++ [.ref e]) (u1 _ _ hfo12)
        have hro13 : upd (upd H12 e (.tup [])) fo (.lst (ys ++ [.ref e])) ro' = some (.lst xs) := by rw [upd_ne fo_ro]; exact u1 _ _ hro12
        have hhp13 : upd (upd H12 e (.tup [])) fo (.lst (ys ++ [.ref e])) hp = some (.lst (hs.map V.int)) := by rw [upd_ne fo_hp]; exact u1 _ _ hhp12
        have hq13 : upd (upd H12 e (.tup [])) fo (.lst (ys ++ [.ref e])) q = some (.tup r.vs) := k2 _ _ (by intro xs z; cases z) (u1 _ _ hq12)
        have hD13 : DpAll K (upd (upd H12 e (.tup [])) fo (.lst (ys ++ [.ref e]))) xs (turnsTo bs bs.length) := DpAll.keepL k2 (DpAll.same u1 hD12) (turnsTo_noL _ _)
        have hd13 : DiceAt (upd (upd H12 e (.tup [])) fo (.lst (ys ++ [.ref e]))) d := by
          obtain ⟨ds, x1, x2⟩ := hd12.same u1
          exact ⟨ds, by rw [upd_ne (Ne.symm fod)]; exact x1, x2⟩
        revert hro13 hhp13 hq13 hD13 hd13
        generalize upd (upd H12 e (.tup [])) fo (.lst (ys ++ [.ref e])) = H13
        intro hro13 hhp13 hq13 hD13 hd13
        refine ⟨_, rfl, _, rfl, q, hp, r, hs, rfl, SqT.of hq13, ro, SqL.of hhp13, hok, fun fo2 H14 zs s14 nfo2 hfo2 hZ => ?_⟩
        rw [hB, ← hbl] at hZ
        refine ⟨_, rfl, _, _, _, rfl, .lst (SqL.of hfo2) hZ, .lst (SqL.of (s14 _ _ hro13)) (DpAll.same s14 hD13), dT, fun H15 s15 => ⟨_, rfl, iteF ?_⟩⟩
        exact ⟨hd13.same (s14.trans s15), _, _, _, _, _, _, _, _, rfl⟩
    · rintro σ H' ⟨_, v2, v3, v4, v5, v6, v7, v8, v9, rfl⟩
      exact k H'
end
end Bw

set_option Elab.async false
set_option linter.all false
set_option maxRecDepth 100000
set_option maxHeartbeats 0
namespace Bw
open PySem PySem.Spec PyProof.Rows L2
def d_is_rule : He.DefD := ⟨("is_rule", none), "is_rule", "is_rule", defArgs s_is_rule, defBody s_is_rule, defScope s_is_rule, [], []⟩
def d_need_rule : He.DefD := ⟨("need_rule", none), "need_rule", "need_rule", defArgs s_need_rule, defBody s_need_rule, defScope s_need_rule, [], []⟩
def d_need_heard : He.DefD := ⟨("need_heard", none), "need_heard", "need_heard", defArgs s_need_heard, defBody s_need_heard, defScope s_need_heard, [], []⟩
def d_next_state : He.DefD := ⟨("next_state", none), "next_state", "next_state", defArgs s_next_state, defBody s_next_state, defScope s_next_state, [], []⟩
def d_first_state : He.DefD := ⟨("first_state", none), "first_state", "first_state", defArgs s_first_state, defBody s_first_state, defScope s_first_state, [], []⟩
def d_is_gone : He.DefD := ⟨("is_gone", none), "is_gone", "is_gone", defArgs s_is_gone, defBody s_is_gone, defScope s_is_gone, [], []⟩
def d_Watcher___init__ : He.DefD := ⟨("Watcher", some "__init__"), "__init__", "Watcher.__init__", defArgs s_Watcher___init__, defBody s_Watcher___init__, defScope s_Watcher___init__, [], []⟩
def d_Watcher_hear : He.DefD := ⟨("Watcher", some "hear"), "hear", "Watcher.hear", defArgs s_Watcher_hear, defBody s_Watcher_hear, defScope s_Watcher_hear, [], []⟩
def d_told : He.DefD := ⟨("told", none), "told", "told", defArgs s_told, defBody s_told, defScope s_told, [], []⟩
def d_turns : He.DefD := ⟨("turns", none), "turns", "turns", defArgs s_turns, defBody s_turns, defScope s_turns, [], []⟩
def d__law_dice : He.DefD := ⟨("_law_dice", none), "_law_dice", "_law_dice", defArgs s__law_dice, defBody s__law_dice, defScope s__law_dice, [], []⟩
def d__law_off : He.DefD := ⟨("_law_off", none), "_law_off", "_law_off", defArgs s__law_off, defBody s__law_off, defScope s__law_off, [], []⟩
def d__law_alike : He.DefD := ⟨("_law_alike", none), "_law_alike", "_law_alike", defArgs s__law_alike, defBody s__law_alike, defScope s__law_alike, [], []⟩
def d__law_line : He.DefD := ⟨("_law_line", none), "_law_line", "_law_line", defArgs s__law_line, defBody s__law_line, defScope s__law_line, [], []⟩
def d__law_rule : He.DefD := ⟨("_law_rule", none), "_law_rule", "_law_rule", defArgs s__law_rule, defBody s__law_rule, defScope s__law_rule, [], []⟩
def d__law_run : He.DefD := ⟨("_law_run", none), "_law_run", "_law_run", defArgs s__law_run, defBody s__law_run, defScope s__law_run, [], []⟩
def d__law_gone : He.DefD := ⟨("_law_gone", none), "_law_gone", "_law_gone", defArgs s__law_gone, defBody s__law_gone, defScope s__law_gone, [], []⟩
def d__law_told : He.DefD := ⟨("_law_told", none), "_law_told", "_law_told", defArgs s__law_told, defBody s__law_told, defScope s__law_told, [], []⟩
def d__law_heard : He.DefD := ⟨("_law_heard", none), "_law_heard", "_law_heard", defArgs s__law_heard, defBody s__law_heard, defScope s__law_heard, [], []⟩
def d_law : He.DefD := ⟨("law", none), "law", "law", defArgs s_law, defBody s_law, defScope s_law, [], []⟩
def fn : List He.DefD := [d_is_rule, d_need_rule, d_need_heard, d_next_state, d_first_state, d_is_gone, d_Watcher___init__, d_Watcher_hear, d_told, d_turns, d__law_dice, d__law_off, d__law_alike, d__law_line, d__law_rule, d__law_run, d__law_gone, d__law_told, d__law_heard, d_law]
def fa : List He.Fa := [.free "len", .free "min", .free "sum", .free "abs", .free "isinstance", .free "bool", .free "int", .free "str", .free "tuple", .free "list", .free "all", .free "range", .free "enumerate", .int "MOST_SILENT" 12, .int "MOST_WIDE" 5, .int "MOST_MANY" 3, .int "MOST_MOMENTS" 200, .int "MOST_HEARD" 9, .glo "is_rule", .glo "need_rule", .glo "need_heard", .glo "next_state", .glo "first_state", .glo "is_gone", .glo "told", .glo "turns", .glo "_law_dice", .glo "_law_off", .glo "_law_alike", .glo "_law_line", .glo "_law_rule", .glo "_law_run", .glo "_law_gone", .glo "_law_told", .glo "_law_heard", .glo "law", .glo "Watcher", .cls "Watcher", .mkr "Watcher", .noat "Watcher" "rule", .noat "Watcher" "kept", .meth "Watcher" "hear"]
abbrev R : PySem.W.OpenRow := PySem.W.OpenLaw.row PySem.Challenge.rw_beatwatch_k02_told
abbrev hk : PySem.W.Hook := He.hookD 5 fa fn
def ob (s : PySem.W.SharedT) : He.AlD := He.obsDG 5 fa fn (HandSHeadRun.getT s)
theorem ob_eq (s : PySem.W.SharedT) : ob s = hk.obs s.abs := He.obsDG_eq (HandSHeadRun.getT_eq s)
def loose : List Str := ["BeatError", "BadRule", "BadHeard", "MOST_SILENT", "MOST_WIDE", "MOST_MANY", "MOST_MOMENTS", "MOST_HEARD", "is_rule", "need_rule", "need_heard", "next_state", "first_state", "is_gone", "Watcher", "told", "turns", "_law_dice", "_law_off", "_law_alike", "_law_line", "_law_rule", "_law_run", "_law_gone", "_law_told", "_law_heard"]
theorem run (w : World) : HandSHeadRun.RunEq R (PySem.W.view R.prog [29]) hk ob 20000 loose w := by
  intro os
  kernel_rfl
theorem facts {P : Program} {w : World} {K : PySem.W.Frag} {h : Heap} {mg : Str → Option Value} {f : Addr} (X : K.In h) (G : h.Ns mainGlobals mg) (hfa : mg ("law" : Str) = some (.ref f)) (c : He.SaysD fa fn K) :
    ∃ fd : FuncData, (∀ (s : Shared) (v : Value), BindsTo s fd ⟨[v], []⟩ [("_law_script", v)]) ∧ ∀ base : Heap, K.In base → base.Ns mainGlobals mg → FnOk P w K mg base CX0 9 f fd ["_law_script"] (spLaw K) := by
  have g_len : mg "len" = none := He.free_ok X G (c.fact 0 (f := .free "len") rfl)
  have g_min : mg "min" = none := He.free_ok X G (c.fact 1 (f := .free "min") rfl)
  have g_sum : mg "sum" = none := He.free_ok X G (c.fact 2 (f := .free "sum") rfl)
  have g_abs : mg "abs" = none := He.free_ok X G (c.fact 3 (f := .free "abs") rfl)
  have g_isinstance : mg "isinstance" = none := He.free_ok X G (c.fact 4 (f := .free "isinstance") rfl)
  have g_bool : mg "bool" = none := He.free_ok X G (c.fact 5 (f := .free "bool") rfl)
  have g_int : mg "int" = none := He.free_ok X G (c.fact 6 (f := .free "int") rfl)
  have g_str : mg "str" = none := He.free_ok X G (c.fact 7 (f := .free "str") rfl)
  have g_tuple : mg "tuple" = none := He.free_ok X G (c.fact 8 (f := .free "tuple") rfl)
  have g_list : mg "list" = none := He.free_ok X G (c.fact 9 (f := .free "list") rfl)
  have g_all : mg "all" = none := He.free_ok X G (c.fact 10 (f := .free "all") rfl)
  have g_range : mg "range" = none := He.free_ok X G (c.fact 11 (f := .free "range") rfl)
  have g_enumerate : mg "enumerate" = none := He.free_ok X G (c.fact 12 (f := .free "enumerate") rfl)
  obtain ⟨t_MOST_SILENT, g_MOST_SILENT⟩ := He.int_ok X G (c.fact 13 (f := .int "MOST_SILENT" 12) rfl)
  obtain ⟨t_MOST_WIDE, g_MOST_WIDE⟩ := He.int_ok X G (c.fact 14 (f := .int "MOST_WIDE" 5) rfl)
  obtain ⟨t_MOST_MANY, g_MOST_MANY⟩ := He.int_ok X G (c.fact 15 (f := .int "MOST_MANY" 3) rfl)
  obtain ⟨t_MOST_MOMENTS, g_MOST_MOMENTS⟩ := He.int_ok X G (c.fact 16 (f := .int "MOST_MOMENTS" 200) rfl)
  obtain ⟨t_MOST_HEARD, g_MOST_HEARD⟩ := He.int_ok X G (c.fact 17 (f := .int "MOST_HEARD" 9) rfl)
  have g_is_rule : mg "is_rule" = some (.ref (He.ga K "is_rule")) := He.glo_ok X G (c.fact 18 (f := .glo "is_rule") rfl)
  have g_need_rule : mg "need_rule" = some (.ref (He.ga K "need_rule")) := He.glo_ok X G (c.fact 19 (f := .glo "need_rule") rfl)
  have g_need_heard : mg "need_heard" = some (.ref (He.ga K "need_heard")) := He.glo_ok X G (c.fact 20 (f := .glo "need_heard") rfl)
  have g_next_state : mg "next_state" = some (.ref (He.ga K "next_state")) := He.glo_ok X G (c.fact 21 (f := .glo "next_state") rfl)
  have g_first_state : mg "first_state" = some (.ref (He.ga K "first_state")) := He.glo_ok X G (c.fact 22 (f := .glo "first_state") rfl)
  have g_is_gone : mg "is_gone" = some (.ref (He.ga K "is_gone")) := He.glo_ok X G (c.fact 23 (f := .glo "is_gone") rfl)
  have g_told : mg "told" = some (.ref (He.ga K "told")) := He.glo_ok X G (c.fact 24 (f := .glo "told") rfl)
  have g_turns : mg "turns" = some (.ref (He.ga K "turns")) := He.glo_ok X G (c.fact 25 (f := .glo "turns") rfl)
  have g__law_dice : mg "_law_dice" = some (.ref (He.ga K "_law_dice")) := He.glo_ok X G (c.fact 26 (f := .glo "_law_dice") rfl)
  have g__law_off : mg "_law_off" = some (.ref (He.ga K "_law_off")) := He.glo_ok X G (c.fact 27 (f := .glo "_law_off") rfl)
  have g__law_alike : mg "_law_alike" = some (.ref (He.ga K "_law_alike")) := He.glo_ok X G (c.fact 28 (f := .glo "_law_alike") rfl)
  have g__law_line : mg "_law_line" = some (.ref (He.ga K "_law_line")) := He.glo_ok X G (c.fact 29 (f := .glo "_law_line") rfl)
  have g__law_rule : mg "_law_rule" = some (.ref (He.ga K "_law_rule")) := He.glo_ok X G (c.fact 30 (f := .glo "_law_rule") rfl)
  have g__law_run : mg "_law_run" = some (.ref (He.ga K "_law_run")) := He.glo_ok X G (c.fact 31 (f := .glo "_law_run") rfl)
  have g__law_gone : mg "_law_gone" = some (.ref (He.ga K "_law_gone")) := He.glo_ok X G (c.fact 32 (f := .glo "_law_gone") rfl)
  have g__law_told : mg "_law_told" = some (.ref (He.ga K "_law_told")) := He.glo_ok X G (c.fact 33 (f := .glo "_law_told") rfl)
  have g__law_heard : mg "_law_heard" = some (.ref (He.ga K "_law_heard")) := He.glo_ok X G (c.fact 34 (f := .glo "_law_heard") rfl)
  have g_law : mg "law" = some (.ref (He.ga K "law")) := He.glo_ok X G (c.fact 35 (f := .glo "law") rfl)
  have g_Watcher : mg "Watcher" = some (.ref (He.ga K "Watcher")) := He.glo_ok X G (c.fact 36 (f := .glo "Watcher") rfl)
  have cl_Watcher : Cls K (He.ga K "Watcher") := He.cls_ok (c.fact 37 (f := .cls "Watcher") rfl)
  have mk_Watcher := He.mkr_ok (c.fact 38 (f := .mkr "Watcher") rfl)
  have na_Watcher_rule := He.noat_ok (c.fact 39 (f := .noat "Watcher" "rule") rfl)
  have na_Watcher_kept := He.noat_ok (c.fact 40 (f := .noat "Watcher" "kept") rfl)
  have me_Watcher_hear := He.meth_ok (c.fact 41 (f := .meth "Watcher" "hear") rfl)
  obtain ⟨fd_is_rule, F_is_rule⟩ := c.def_ 0 (d := d_is_rule) rfl
  have b_is_rule : Binds K fd_is_rule ["rule"] [] := FunD.bindsN (ps := ["rule"]) F_is_rule fun _ _ _ _ _ _ us hl => match us, hl with | [_], _ => rfl
  obtain ⟨fd_need_rule, F_need_rule⟩ := c.def_ 1 (d := d_need_rule) rfl
  have b_need_rule : Binds K fd_need_rule ["rule"] [] := FunD.bindsN (ps := ["rule"]) F_need_rule fun _ _ _ _ _ _ us hl => match us, hl with | [_], _ => rfl
  obtain ⟨fd_need_heard, F_need_heard⟩ := c.def_ 2 (d := d_need_heard) rfl
  have b_need_heard : Binds K fd_need_heard ["heard"] [] := FunD.bindsN (ps := ["heard"]) F_need_heard fun _ _ _ _ _ _ us hl => match us, hl with | [_], _ => rfl
  obtain ⟨fd_next_state, F_next_state⟩ := c.def_ 3 (d := d_next_state) rfl
  have b_next_state : Binds K fd_next_state ["rule", "state", "many"] [] := FunD.bindsN (ps := ["rule", "state", "many"]) F_next_state fun _ _ _ _ _ _ us hl => match us, hl with | [_, _, _], _ => rfl
  obtain ⟨fd_first_state, F_first_state⟩ := c.def_ 4 (d := d_first_state) rfl
  have b_first_state : Binds K fd_first_state ["rule"] [] := FunD.bindsN (ps := ["rule"]) F_first_state fun _ _ _ _ _ _ us hl => match us, hl with | [_], _ => rfl
  obtain ⟨fd_is_gone, F_is_gone⟩ := c.def_ 5 (d := d_is_gone) rfl
  have b_is_gone : Binds K fd_is_gone ["rule", "state"] [] := FunD.bindsN (ps := ["rule", "state"]) F_is_gone fun _ _ _ _ _ _ us hl => match us, hl with | [_, _], _ => rfl
  obtain ⟨fd_Watcher___init__, F_Watcher___init__⟩ := c.def_ 6 (d := d_Watcher___init__) rfl
  have b_Watcher___init__ : Binds K fd_Watcher___init__ ["self", "rule"] [] := FunD.bindsN (ps := ["self", "rule"]) F_Watcher___init__ fun _ _ _ _ _ _ us hl => match us, hl with | [_, _], _ => rfl
  obtain ⟨fd_Watcher_hear, F_Watcher_hear⟩ := c.def_ 7 (d := d_Watcher_hear) rfl
  have b_Watcher_hear : Binds K fd_Watcher_hear ["self", "many"] [] := FunD.bindsN (ps := ["self", "many"]) F_Watcher_hear fun _ _ _ _ _ _ us hl => match us, hl with | [_, _], _ => rfl
  obtain ⟨fd_told, F_told⟩ := c.def_ 8 (d := d_told) rfl
  have b_told : Binds K fd_told ["rule", "heard"] [] := FunD.bindsN (ps := ["rule", "heard"]) F_told fun _ _ _ _ _ _ us hl => match us, hl with | [_, _], _ => rfl
  obtain ⟨fd_turns, F_turns⟩ := c.def_ 9 (d := d_turns) rfl
  have b_turns : Binds K fd_turns ["rule", "heard"] [] := FunD.bindsN (ps := ["rule", "heard"]) F_turns fun _ _ _ _ _ _ us hl => match us, hl with | [_, _], _ => rfl
  obtain ⟨fd__law_dice, F__law_dice⟩ := c.def_ 10 (d := d__law_dice) rfl
  have b__law_dice : Binds K fd__law_dice ["_law_script", "_law_k"] [] := FunD.bindsN (ps := ["_law_script", "_law_k"]) F__law_dice fun _ _ _ _ _ _ us hl => match us, hl with | [_, _], _ => rfl
  obtain ⟨fd__law_off, F__law_off⟩ := c.def_ 11 (d := d__law_off) rfl
  have b__law_off : Binds K fd__law_off ["_law_d", "_law_most"] [] := FunD.bindsN (ps := ["_law_d", "_law_most"]) F__law_off fun _ _ _ _ _ _ us hl => match us, hl with | [_, _], _ => rfl
  obtain ⟨fd__law_alike, F__law_alike⟩ := c.def_ 12 (d := d__law_alike) rfl
  have b__law_alike : Binds K fd__law_alike ["_law_found", "_law_due"] [] := FunD.bindsN (ps := ["_law_found", "_law_due"]) F__law_alike fun _ _ _ _ _ _ us hl => match us, hl with | [_, _], _ => rfl
  obtain ⟨fd__law_line, F__law_line⟩ := c.def_ 13 (d := d__law_line) rfl
  have b__law_line : Binds K fd__law_line ["_law_d"] [] := FunD.bindsN (ps := ["_law_d"]) F__law_line fun _ _ _ _ _ _ us hl => match us, hl with | [_], _ => rfl
  obtain ⟨fd__law_rule, F__law_rule⟩ := c.def_ 14 (d := d__law_rule) rfl
  have b__law_rule : Binds K fd__law_rule ["_law_d"] [] := FunD.bindsN (ps := ["_law_d"]) F__law_rule fun _ _ _ _ _ _ us hl => match us, hl with | [_], _ => rfl
  obtain ⟨fd__law_run, F__law_run⟩ := c.def_ 15 (d := d__law_run) rfl
  have b__law_run : Binds K fd__law_run ["_law_d", "_law_line_here", "_law_there", "_law_more"] [] := FunD.bindsN (ps := ["_law_d", "_law_line_here", "_law_there", "_law_more"]) F__law_run fun _ _ _ _ _ _ us hl => match us, hl with | [_, _, _, _], _ => rfl
  obtain ⟨fd__law_gone, F__law_gone⟩ := c.def_ 16 (d := d__law_gone) rfl
  have b__law_gone : Binds K fd__law_gone ["_law_rule_here", "_law_heard_here"] [] := FunD.bindsN (ps := ["_law_rule_here", "_law_heard_here"]) F__law_gone fun _ _ _ _ _ _ us hl => match us, hl with | [_, _], _ => rfl
  obtain ⟨fd__law_told, F__law_told⟩ := c.def_ 17 (d := d__law_told) rfl
  have b__law_told : Binds K fd__law_told ["_law_rule_here", "_law_heard_here"] [] := FunD.bindsN (ps := ["_law_rule_here", "_law_heard_here"]) F__law_told fun _ _ _ _ _ _ us hl => match us, hl with | [_, _], _ => rfl
  obtain ⟨fd__law_heard, F__law_heard⟩ := c.def_ 18 (d := d__law_heard) rfl
  have b__law_heard : Binds K fd__law_heard ["_law_d"] [] := FunD.bindsN (ps := ["_law_d"]) F__law_heard fun _ _ _ _ _ _ us hl => match us, hl with | [_], _ => rfl
  obtain ⟨fd_law, F_law⟩ := c.def_ 19 (d := d_law) rfl
  have b_law : Binds K fd_law ["_law_script"] [] := FunD.bindsN (ps := ["_law_script"]) F_law fun _ _ _ _ _ _ us hl => match us, hl with | [_], _ => rfl
  cases hfa.symm.trans g_law
  have b := FunD.bindsA (ps := ["_law_script"]) F_law fun _ _ _ _ _ _ us hl => match us, hl with | [_], _ => rfl
  refine ⟨fd_law, fun s v => b s [v] rfl, fun base _ _ => ?_⟩
  have h__law_off : Has P w K mg base 1 "_law_off" p__law_off spOff := ⟨_, _, g__law_off, F__law_off.kp, b__law_off, ok__law_off F__law_off g_len⟩
  have h__law_dice : Has P w K mg base 1 "_law_dice" p__law_dice (spDice K) := ⟨_, _, g__law_dice, F__law_dice.kp, b__law_dice, ok__law_dice F__law_dice g_abs⟩
  have h__law_rule : Has P w K mg base 2 "_law_rule" p__law_rule spRule := ⟨_, _, g__law_rule, F__law_rule.kp, b__law_rule, ok__law_rule F__law_rule h__law_off⟩
  have h__law_alike : Has P w K mg base 3 "_law_alike" p__law_alike (spAlike K 2) := ⟨_, _, g__law_alike, F__law_alike.kp, b__law_alike, ok__law_alike F__law_alike b__law_alike g__law_alike g_isinstance g_bool g_int g_str g_tuple g_list g_len g_all g_range 3⟩
  have h__law_gone : Has P w K mg base 1 "_law_gone" p__law_gone (spLGone K) := ⟨_, _, g__law_gone, F__law_gone.kp, b__law_gone, ok__law_gone F__law_gone g_len g_sum⟩
  have h_is_rule : Has P w K mg base 1 "is_rule" p_is_rule (spIsRule K) := ⟨_, _, g_is_rule, F_is_rule.kp, b_is_rule, ok_is_rule F_is_rule g_len g_MOST_SILENT g_MOST_WIDE g_MOST_MANY⟩
  have h_need_rule : Has P w K mg base 2 "need_rule" p_need_rule (spNeedRule K) := ⟨_, _, g_need_rule, F_need_rule.kp, b_need_rule, ok_need_rule F_need_rule h_is_rule⟩
  have h_first_state : Has P w K mg base 1 "first_state" p_first_state (spFirst K) := ⟨_, _, g_first_state, F_first_state.kp, b_first_state, ok_first_state F_first_state⟩
  have h_next_state : Has P w K mg base 1 "next_state" p_next_state (spNext K) := ⟨_, _, g_next_state, F_next_state.kp, b_next_state, ok_next_state F_next_state g_min⟩
  have h_is_gone : Has P w K mg base 1 "is_gone" p_is_gone (spGone K) := ⟨_, _, g_is_gone, F_is_gone.kp, b_is_gone, ok_is_gone F_is_gone g_len g_sum⟩
  have T : WTxt K (He.ga K "Watcher") := ⟨cl_Watcher, na_Watcher_rule, na_Watcher_kept⟩
  have h_Watcher : HasC P w K mg base 3 "Watcher" (He.ga K "Watcher") p_Watcher___init__ (spWInit K (He.ga K "Watcher")) := ⟨_, _, mk_Watcher, g_Watcher, b_Watcher___init__, ok_Watcher___init__ F_Watcher___init__ T h_need_rule h_first_state⟩
  have h_Watcher_hear : HasM P w K mg base 2 (He.ga K "Watcher") "hear" p_Watcher_hear (spHear K (He.ga K "Watcher")) := ⟨_, _, cl_Watcher, me_Watcher_hear, b_Watcher_hear, ok_Watcher_hear F_Watcher_hear T h_next_state h_is_gone⟩
  have h_need_heard : Has P w K mg base 1 "need_heard" p_need_heard (spNeedHeard K) := ⟨_, _, g_need_heard, F_need_heard.kp, b_need_heard, ok_need_heard F_need_heard g_enumerate g_MOST_MOMENTS g_MOST_HEARD⟩
  have h_told : Has P w K mg base 5 "told" p_told (spTold K) := ⟨_, _, g_told, F_told.kp, b_told, ok_told F_told h_need_rule h_need_heard h_Watcher h_Watcher_hear⟩
  have h_turns : Has P w K mg base 6 "turns" p_turns (spTurns K) := ⟨_, _, g_turns, F_turns.kp, b_turns, ok_turns F_turns g_enumerate h_told⟩
  have h__law_line : Has P w K mg base 2 "_law_line" p__law_line spLine := ⟨_, _, g__law_line, F__law_line.kp, b__law_line, ok__law_line F__law_line g_int h__law_off⟩
  have h__law_run : Has P w K mg base 2 "_law_run" p__law_run (spRun K) := ⟨_, _, g__law_run, F__law_run.kp, b__law_run, ok__law_run F__law_run g_len g_range h__law_off⟩
  have h__law_told : Has P w K mg base 2 "_law_told" p__law_told (spLTold K) := ⟨_, _, g__law_told, F__law_told.kp, b__law_told, ok__law_told F__law_told g_len g_range h__law_gone⟩
  have h__law_heard : Has P w K mg base 3 "_law_heard" p__law_heard spHeard := ⟨_, _, g__law_heard, F__law_heard.kp, b__law_heard, ok__law_heard F__law_heard g_int g_range h__law_off h__law_line h__law_run⟩
  exact (ok_law F_law g_range g_int g_len g_list h__law_dice h__law_rule h__law_heard h__law_alike h__law_told h_told h_turns).mono (by decide)
end Bw
open PySem PySem.W PySem.Calls PyProof.Rows
set_option maxRecDepth 100000 in
set_option maxHeartbeats 0 in
theorem PySem.Challenge.cw_beatwatch_k02_told_holds : PySem.Challenge.rw_beatwatch_k02_told.Holds := by
  w_on; o_law
  refine HandSHeadRun.head_any (r := OpenLaw.row PySem.Challenge.rw_beatwatch_k02_told) (q := view (OpenLaw.row PySem.Challenge.rw_beatwatch_k02_told).prog [29]) (H := Bw.hk) (ob := Bw.ob) (M := 20000) (loose := Bw.loose) (d := HandSHeadRun.topDef (OpenLaw.row PySem.Challenge.rw_beatwatch_k02_told).prog 29) (kwd := []) Bw.ob_eq
    (by kernel_rfl) (fun s => by kernel_rfl) Bw.run (by kernel_rfl) (by kernel_rfl) (by kernel_rfl) (by rfl) (by first | assumption | decide +kernel) (by decide +kernel) ⟨rfl, rfl, rfl, rfl, rfl, by decide +kernel⟩ ?hw ?hc
  case hw => w_witness2
  case hc =>
    refine L2.walk_ofE (l := PySem.Challenge.rw_beatwatch_k02_told) (n := 63) (k := 9) (x := "_law_script") (CX := L2.CX0) rfl (by decide) (by kernel_rfl) ⟨rfl, by decide, by decide⟩ ?F (fun _ _ _ _ z => z)
    intro w mg fa h Y G hmg0
    obtain ⟨K, KX, c⟩ := Y
    have hmg : mg ("law" : PySem.Str) = some (.ref fa) := by
      have e : (HandSHeadRun.topDef (OpenLaw.row PySem.Challenge.rw_beatwatch_k02_told).prog 29).name = ("law" : PySem.Str) := by kernel_rfl
      rw [← e]
      exact hmg0
    obtain ⟨fd, hb, hF⟩ := Bw.facts (P := (PySem.Challenge.rw_beatwatch_k02_told).prog) (w := w) KX G hmg c
    exact ⟨K, fd, Bw.spLaw K, KX, hb, fun H a ns hl _ hS => ⟨a, ns, rfl, hS, hl, fun _ => rfl⟩, hF⟩

